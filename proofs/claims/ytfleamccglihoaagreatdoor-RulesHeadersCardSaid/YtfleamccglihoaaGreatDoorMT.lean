import Derived.Test.YtfleamccglihoaaGreatDoorMS
import Derived.Test.YtfleamccglihoaaGreatDoorMQ
import Derived.Test.YtfleamccglihoaaGreatDoorMJ
import Derived.Test.YtfleamccglihoaaGreatDoorMP
open Go.IntKind (i64 u64)
set_option linter.unusedVariables false
namespace Go.Proofs.YtfleamccglihoaaGreatDoor
open Go.Proofs.Tryz
open Go Go.b0 Go.RowKit
theorem AB(D:DG)(s:HT){l:List HT}(hl:∀x∈l,x∈ids D):(tm D s l).length<=D.length:=by
 have:=dK (m:=ids D) (rl D s l) (fun x hx=>by
  rcases(AG.1 hx).1 with h|h
  ·exact h.1
  ·exact hl x h)
 rwa [iK]at this
theorem xS{D:DG}{l:List HT}(h:lE D l=0):l≠ []/\∀x∈l,x∈ids D:=by
 unfold lE at h;split at h
 ·cases h
 ·rename_i h0
  split at h
  ·cases h
  ·rename_i h1
   exact⟨h0,fun x hx=>Classical.byContradiction fun e=>h1 ⟨x,hx,e⟩⟩
section
variable{w w':World}{F:Nat->Prop}{c k:Nat}{G:GS}{m:CM}{K:Value->World->Prop}{A:Option Addr}{n cx:Nat}{l:List HT}{s:HT}
theorem mY.jZ{q B sm bb cp e ce:Nat}{x:pz}{ov:HT->Option Nat}{E:Option Addr}(h:mY w B q sm bb x ov A n cp E e ce):Cells w ((⟨q,0,none⟩:Addr).add 0) (dp x A n cp E e ce):=by
 intro j u hj;rw [add_zero,bD,aE h.top,Array.getElem?_append_left (by rw [bI];have:=(Array.getElem?_eq_some_iff.1 hj).1;rw [bI]at this;omega)];rw [Nat.zero_add];exact hj
theorem Dd(h:CV w F c k G m)(hT:sS w)(hD:G.D.length<=49)(o5:k<=1000)(CX:HS w A n l)(hn:n<=5000)
 (h0:lE G.D (s::l)≠0->∀w',Kept Nil w w'->K (.tuple #[.agg (dp ⟨fG,0,[],[]⟩ none 0 0 none 0 0),.int .i64 (lE G.D (s::l))]) w')
 (h1:lE G.D (s::l)=0->∀w' A n cp E e ce,HS w' A n (dr k G s l).merge->Bo w' E e (dr k G s l).gm->Kept Nil w w'->(∀a,A=some a->w.heap.size<=a.block)->K (.tuple #[.agg (dp (dr k G s l) A n cp E e ce),.int .i64 0]) w'):
 bE prog eB.id #[.pointer (some ⟨c,0,none⟩),.agg s.1,.slice A n cx] w K:=by
 refine eB.of ?_;unfold eB.W;intro w1 w2;have k1:Kept Nil w w1:=(Kept.refl _ _).alloc _;have wO:w1.heap[w.heap.size]? =some (.cells s.1 al (0,0)):=aM w _;have k2:Kept Nil w1 w2:=(Kept.refl _ _).alloc _;have jX:w2.heap[w1.heap.size]? =some (.cells zC bK (0,0)):=aM w1 _;clear_value w2;have zD:=k2.heap wO (fun h=>h);have mr:=k1.tt k2;have s1:=k1.size;have l1:=bf wO;have l2:=bf jX;clear_value w1;refine⟨s.1,⟨s.2.1,Cells.bV zD⟩,s.2.1,?_⟩;intro w3;have k3:Kept Nil w2 w3:=(Kept.refl _ _).alloc _;have BS:HS w3 (some ⟨w2.heap.size,0,none⟩) 1 [s]:=jE w2 s;have nJ:cr w3 w.heap.size (some ⟨w2.heap.size,0,none⟩) 1 1 [s]:=by
  have e:dv [s]=(s.1.toList++ []).toArray.toList:=by simp [dv]
  show Row _ _ _ _ _ _ _ (dv [s])
  rw [e];exact Row.made (aM w2 _) (by have:=mr.size;omega) (by simp [s.2.1]) (by unfold maxLen;omega)
 clear_value w3;have jF:=mr.tt k3;have s2:=mr.size;have s3:=jF.size;obtain⟨A2,c2,w4,yg,jW,g4,RZ⟩:=dd aF nJ (cx:=cx) (CX.same jF) (by omega) s3;have wM:Kept (fun j=>w.heap.size<=j) w3 w4:=(Kept.refl _ _).grown g4 fun j hj _=>(Row.bV nJ hj).1;have mf:Kept Nil w w4:=Kept.dX jF g4 (fun j hj=>(Row.bV nJ hj).1);have rQ:Kept Nil w2 w4:=Kept.dX k3 g4 (fun j hj=>by cases hj;exact Nat.le_refl _);have IE:=rQ.heap zD (fun h=>h);have aaH:=rQ.heap jX (fun h=>h);refine⟨A2,_,c2,w4,yg,?_⟩;refine yo (h.same mf) (show HS w4 A2 (1+n) (s::l)from jW.hs) (by omega) fun w5 k5=>⟨_,rfl,?_⟩;have nA:=mf.tt k5;have XZ:=k5.heap IE (fun h=>h);have sE:=k5.heap aaH (fun h=>h);have zs:(zC:Array Value)=dp ⟨fG,0,[],[]⟩ none 0 0 none 0 0:=rfl;by_cases hm:lE G.D (s::l)=0
 ·refine Split.no (by simp [hm]) ⟨s.1,⟨s.2.1,Cells.bV XZ⟩,?_⟩
  obtain⟨_,gC⟩:=xS hm;have h5:=h.same nA;have Nx:∀x∈l,x∈ids G.D:=fun x hx=>gC x (List.mem_cons_of_mem _ hx);obtain⟨ch,po⟩:=dG.ex h.iA.ns s;refine we D3 (Nat.le_trans (AB G.D s Nx) hD) h5 (hT.same nA) (by omega) o5 (gC s List.mem_cons_self) po Nx (CX.same nA) hn fun v q B sm bb ov A n cp E e ce g1 _ g3 _ g5 g6 g7=>?_;refine⟨some ⟨q,0,none⟩,rfl,Is.mk rfl ?_⟩;have Nh:=g7.heap sE (fun h=>h);obtain⟨t1,t2,t3⟩:=gu Nh (cs:=dp (dr k G s l) A n cp E e ce) (by rw [bI];rfl);refine⟨_,⟨bI ..,g1.jZ⟩,⟨bI ..,fE _ _ _ _ _ _ _,fun j hj=>t1 j (by rw [bI];exact hj)⟩,?_⟩;intro w8
  replace t2:w8.heap[w1.heap.size]? =_:=t2
  replace t3:Kept (· =w1.heap.size) v w8:=t3
  clear_value w8;refine⟨_,⟨bI ..,Cells.bV t2⟩,?_⟩;have s5:=nA.size;have di:w1.heap.size<w5.heap.size:=bf sE;refine h1 hm w8 A n cp E e ce (g1.mg.aK t3 (fun a ha e=>?_)) ((Row.bo g1.bl).aK t3 (fun a ha e=>?_)) ((nA.tt g7).trans t3 (fun j hj e=>by omega)) (fun a ha=>by have:=g5 a ha;omega)
  ·have:=g5 a ha
   omega
  ·subst ha
   have:=(Row.bV g1.bl (k:=a.block) rfl).1;have:=g6.1;omega
 ·refine Split.yes (by simpa using hm) ?_
  obtain⟨t1,t2,t3⟩:=gu sE (cs:=zC) rfl;refine⟨⟨rfl,by rw [zs];exact fE _ _ _ _ _ _ _,fun j hj=>t1 j hj⟩,?_⟩;exact⟨_,⟨rfl,Cells.bV t2⟩,h0 hm _ (nA.trans t3 (fun j hj e=>by omega))⟩
end
theorem XV.off{w:World}{D:DG}{P:List Int}{m:XM}{x:Nat}{F:Nat->Prop}(h:XV w F x D P m):∀k,m.kX x k->¬F k:=fun k e=>by
 obtain⟨bl,c,mb,M,G⟩:=h.G;rcases e with e|e|e|e
 ·exact G.Hd k e
 ·exact fun f=>(h.fd k f).1 e
 ·exact fun f=>(h.fd k f).2 e
 ·exact(h.od k e).2.2.2
section
variable{w w':World}{F F':Nat->Prop}{c k q:Nat}{G:GS}{m:CM}{K:Value->World->Prop}{A B:Option Addr}{n cx cp e ce:Nat}{l:List HT}{x:pz}{sz:HT->Option Nat}{sm:Option Nat}
theorem Seen.mono(h:Seen w F q x sz)(hF:∀j,F j->F' j):Seen w F' q x sz:=by
 obtain⟨A,n,cp,B,e,ce,sm,h⟩:=h;refine⟨A,n,cp,B,e,ce,sm,h.top,h.mg,h.bl,fun a ha=>hF _ (h.fA a ha),fun a ha=>hF _ (h.fB a ha),?_,hF _ h.fq⟩;rcases h.sz with g|⟨s,g1,g2,g3⟩
 ·exact .inl g
 ·exact .inr ⟨s,g1,hF _ g2,g3⟩
abbrev Mj:Array Value:=dp ⟨fG,0,[],[]⟩ none 0 0 none 0 0
theorem DJ(D:DG)(h:HT)(l:List HT):dT D h l=if h∈ids D then 7 else if l.length=0 then 9 else if(dB l).length≠l.length then 9 else lE D l:=by
 unfold dT lE;by_cases h1:h∈ids D
 ·rw [if_pos h1,if_pos h1]
 ·rw [if_neg h1,if_neg h1]
  by_cases h2:l.length=0
  ·rw [if_pos h2,if_pos (.inl (by have:=ny l;omega))]
  ·have hl:l≠ []:=fun e=>h2 (by rw [e];rfl)
   rw [if_neg h2];by_cases h3:(dB l).length≠l.length
   ·rw [if_pos h3,if_pos (.inr h3)]
   ·have a:¬((dB l).length=0\/(dB l).length≠l.length):=by omega
    have hc:(∃p∈dB l,p∉ids D)↔∃p∈l,p∉ids D:=⟨fun⟨p,hp,hq⟩=>⟨p,dV.1 hp,hq⟩,fun⟨p,hp,hq⟩=>⟨p,dV.2 hp,hq⟩⟩;rw [if_neg h3,if_neg a,if_neg hl];by_cases h4:∃p∈l,p∉ids D
    ·rw [if_pos h4,if_pos (hc.2 h4)]
    ·rw [if_neg h4,if_neg (fun e=>h4 (hc.1 e))]
set_option maxHeartbeats 2000000 in
theorem GD(h:CV w F c k G m)(hT:sS w)(Kk:¬m.SX (Tryz.kF.g 1))(hD:G.D.length<=49)(o5:k<=1000)(CX:HS w A n l)(hn:n<=5000)(id:HT)
 (hE:dT G.D id l≠0->∀w',Kept Nil w w'->K (.tuple #[.agg Mj,.int .i64 (dT G.D id l)]) w')
 (hO:dT G.D id l=0->∀w' F' m' A n c1 B e c2,CV w' F' c k (eW k G id l) m'->m'.x=m.x->Kept (m.own c) w w'->(∀j,m'.own c j->m.own c j\/w.heap.size<=j)->(∀j,F' j->F j\/w.heap.size<=j)->
   cr w' w.heap.size A n c1 (dr k G (bQ G l) l).merge->Row w' w.heap.size ju 1 B e c2 (tH (dr k G (bQ G l) l).gm)->(∀j,bH A=some j->bH B≠some j)->(∀j,bH A=some j\/bH B=some j->¬m'.own c j/\¬F' j)->
   K (.tuple #[.agg (dp (dr k G (bQ G l) l) A n c1 B e c2),.int .i64 0]) w'):
 bE prog dS.id #[.pointer (some ⟨c,0,none⟩),.agg id.1,.slice A n cx] w K:=by
 have hlen:=CX.len;refine dS.of ?_;unfold dS.W;intro w1 w2;have k1:Kept Nil w w1:=(Kept.refl _ _).alloc _;have wO:w1.heap[w.heap.size]? =some (.cells id.1 al (0,0)):=aM w _;have k2:Kept Nil w1 w2:=(Kept.refl _ _).alloc _;have jX:w2.heap[w1.heap.size]? =some (.cells zC bK (0,0)):=aM w1 _;clear_value w2;have zD:=k2.heap wO (fun h=>h);have mr:=k1.tt k2;have s1:=k1.size;have l1:=bf wO;have l2:=bf jX;clear_value w1;have zs:(zC:Array Value)=Mj:=rfl;have bad:∀ {u:World} {r:Int},Kept Nil w2 u->dT G.D id l=r->r≠0->(zC.size=35/\(∀n∈zC.toList,n.oneCell'=true)/\∀o,o<35->Wr u ((aV w1.heap.size).add o))/\
  let p:=setCells u (aV w1.heap.size) zC.toList 0;∃q:Array Value,(q.size=35/\Cells p (aV w1.heap.size) q)/\K (.tuple #[.agg q,.int .i64 r]) p:=fun {u r} ku hr h0=>by
  obtain⟨t1,t2,t3⟩:=gu (ku.heap jX (fun h=>h)) (cs:=zC) rfl;refine⟨⟨rfl,by rw [zs];exact fE _ _ _ _ _ _ _,fun j hj=>t1 j hj⟩,?_⟩;refine⟨_,⟨rfl,Cells.bV t2⟩,?_⟩;have:=hE (by rw [hr];exact h0) _ ((mr.tt ku).trans t3 (fun j hj e=>by omega));rw [hr]at this;exact this
 have ko:=DJ G.D id l;refine uo (h.same mr) ⟨true,rfl,Split.no rfl ?_⟩;intro w3;have k3:Kept Nil w2 w3:=(Kept.refl _ _).drew;clear_value w3;have jF:=mr.tt k3;have h3:=h.same jF;refine⟨_,h3.c2,id.1,⟨id.2.1,Cells.bV (k3.heap zD (fun h=>h))⟩,_,h3.look id,?_⟩;by_cases hid:id∈ids G.D
 ·rw [if_pos hid]at ko
  exact Split.yes (by rw [if_pos hid];rfl) (bad k3 ko (by decide))
 rw [if_neg hid]at ko;refine Split.no (by rw [if_neg hid];rfl) ?_;by_cases EE:n=0
 ·rw [if_pos (by omega)]at ko
  exact Split.yes (by subst EE;rfl) (bad k3 ko (by decide))
 rw [if_neg (by omega)]at ko;refine Split.no (by simpa using (by omega:¬(n:Int)=0)) ?_;refine iR (CX.same jF) (by omega) fun A4 c4 w4 jW k4=>⟨A4,_,c4,rfl,?_⟩;have rQ:=k3.tt k4;have mf:=jF.tt k4;by_cases Gj:(dB l).length≠l.length
 ·rw [if_pos Gj]at ko
  exact Split.yes (by simp only [bne_iff_ne,ne_eq];omega) (bad rQ ko (by decide))
 rw [if_neg Gj]at ko;refine Split.no (by simp only [bne_eq_false_iff_eq];omega) ?_;refine sI (h.same mf) (CX.same mf) (by omega) fun w5 k5=>⟨_,_,rfl,?_⟩;have Ib:=rQ.tt k5;have nA:=mf.tt k5;generalize oM:(if lE G.D l=0 then bQ G l else fG)=s;intro w6;have k6:Kept Nil w5 w6:=(Kept.refl _ _).alloc _;have pZ:w6.heap[w5.heap.size]? =some (.cells fG.1 al (0,0)):=aM w5 _;clear_value w6;obtain⟨t1,t2,t3⟩:=iZ s pZ rfl;refine⟨t1,?_⟩;intro w7
 replace t2:w7.heap[w5.heap.size]? =some (.cells s.1 al (0,0)):=t2
 replace t3:Kept (· =w5.heap.size) w6 w7:=t3
 clear_value w7;have Gb:Kept Nil w5 w7:=k6.trans t3 (fun j hj e=>by omega);have Pb:=Ib.tt Gb;have tu:=nA.tt Gb;by_cases hm:lE G.D l≠0
 ·exact Split.yes (by simpa using hm) (bad Pb ko hm)
 have hm:lE G.D l=0:=by omega
 rw [if_pos hm]at oM;rw [hm]at ko⊢;refine Split.no rfl ⟨s.1,⟨s.2.1,Cells.bV t2⟩,?_⟩;obtain⟨fW,gC⟩:=xS hm;have BT:s∈l:=by rw [<-oM];exact jg fW
 obtain⟨ch,po⟩:=dG.ex h.iA.ns s;have h7:=h.same tu;refine we D3 (Nat.le_trans (AB G.D s gC) hD) h7 (hT.same tu) (by omega) o5 (gC s BT) po gC (CX.same tu) hn fun v q B sm bb ov Am nm cp E e ce g1 gO g3 g4 g5 g6 g7=>⟨some ⟨q,0,none⟩,rfl,?_⟩;have tq:=tu.tt g7;have H9:=Pb.tt g7;have k5v:=Gb.tt g7;have s07:=tu.size;have s0v:=tq.size;intro w8;have k8:Kept Nil v w8:=(Kept.refl _ _).drew;clear_value w8;have zz:=tq.tt k8;have h8:=h.same zz;have g18:=g1.same k8;have s8:=k8.size;refine⟨_,h8.c1,id.1,⟨id.2.1,Cells.bV ((H9.tt k8).heap zD (fun h=>h))⟩,s.1,⟨s.2.1,Cells.bV (((g7.tt k8)).heap t2 (fun h=>h))⟩,?_⟩;refine Cp h8.X (by omega) (hT.same zz) Kk (CX.same zz) hn id s fun u S' FX' hX9 k9 hS9 RY=>⟨_,rfl,?_⟩;have eX:oy G.D id s l=(eW k G id l).D/\ox G.D G.P id s l=(eW k G id l).P:=by rw [<-oM];exact⟨JI.symm,JJ.symm⟩
 rw [eX.1,eX.2]at hX9;obtain⟨mx,X9,hmx⟩:=hX9;have wX:∀j,m.own c j\/F j->j<w.heap.size:=h.low;have g1q:q<v.heap.size:=bf g1.top;have g1s:sm<v.heap.size:=g1.ov.lt;have wh:∀j,w.heap.size<=j->¬m.SX j:=fun j hj e=>by have:=wX j (.inl (.inl e));omega
 have g19:=g18.aK k9 (wh q (by omega)) (wh sm (by omega)) (fun j hj _=>wh j (by have:=g6.1;omega)) (fun a ha=>wh _ (by have:=g5 a ha;omega));have s9:=k9.size;have K8:Kept m.SX w2 u:=((H9.tt k8).mono fun _ _ h=>h.elim).tt k9;have ncm:¬m.SX c/\¬m.SX m.mb:=⟨fun e=>(h.so _ e).1 rfl,fun e=>(h.so _ e).2 rfl⟩;have Sp:u.heap[c]? =_:=k9.heap h8.top ncm.1;have adv:=h8.all.aK k9 ncm.2;intro w10;have rR:Kept Nil u w10:=(Kept.refl _ _).drew;clear_value w10;have Sr:=rR.heap Sp (fun h=>h);have Lm:=(K8.trans rR (fun _ _ h=>h.elim)).heap zD (fun e=>wh _ (Nat.le_refl _) e);have Xe:=adv.aK rR (fun h=>h);obtain⟨xG,aaU,Xd,JY⟩:=Xe.put HW id (.pointer (some ⟨q,0,none⟩));refine⟨some m.mb,by rw [bD,aE Sr];rfl,id.1,⟨id.2.1,Cells.bV Lm⟩,xG,aaU,Is.mk rfl ?_⟩;have s10:=rR.size;have s11:=JY.size;have lmb:m.mb<w.heap.size:=wX _ (.inl (.inr (.inr rfl)));have lc:c<w.heap.size:=wX _ (.inl (.inr (.inl rfl)));have K1:Kept (· =m.mb) u xG:=(rR.mono fun _ _ h=>h.elim).tt JY;have Mc:=g19.aK K1 (by omega) (by omega) (fun j hj _ e=>by have:=g6.1;omega) (fun a ha e=>by have:=g5 a ha;omega);have adr:=Row.bo Mc.bl;have TH:Kept (m.own c) w xG:=((zz.mono (S':=m.own c) fun _ _ h=>h.elim).trans k9 (fun _ _ h=>.inl h)).trans K1 (fun _ _ h=>.inr (.inr h));refine⟨_,⟨bI ..,Mc.jZ⟩,?_⟩;have Bj:=g1.mg.len;have hnm:nm<=49:=by
  have Ka:(dr k G s l).merge=cP G s l:=rfl;have zF:(cP G s l).length<=49:=by
   have:=dK (m:=ids G.D) (mH G s l).nodup (fun y hy=>by
    rcases(kO.1 hy).1 with h|h
    ·exact h.1
    ·exact gC y h)
   rw [iK]at this;omega
  rw [Ka]at Bj;omega
 have Ym:e<=49:=by
  have h1:=(u7 k G s l).1;have h2:=(Row.bo g1.bl).len;have Ka:(dr k G s l).merge=cP G s l:=rfl;have hv2:(dr k G s l).gm=(iw k G s l).bl:=rfl;rw [hv2]at h2;rw [Ka]at Bj;omega
 refine uJ (dr k G s l) Mc.mg adr (by omega) (by omega) fun A' c1 B' c2 nx vp HF UK zy=>⟨_,rfl,?_⟩;have TC:Kept (m.own c) w2 nx:=((K8.mono (S':=m.own c) fun _ _ h=>.inl h).trans K1 (fun _ _ h=>.inr (.inr h))).trans zy (fun _ _ h=>h.elim);have fr2:∀j,w.heap.size<=j->¬m.own c j:=fun j hj e=>by have:=wX j (.inl e);omega
 have aaM:=TC.heap jX (fr2 _ (by omega));obtain⟨f1,f2,f3⟩:=gu aaM (cs:=dp (dr k G s l) A' nm c1 B' e c2) (by rw [bI];rfl);refine⟨⟨bI ..,fE _ _ _ _ _ _ _,fun j hj=>f1 j (by rw [bI];exact hj)⟩,?_⟩;intro pC
 replace f2:pC.heap[w1.heap.size]? =_:=f2
 replace f3:Kept (· =w1.heap.size) nx pC:=f3
 clear_value pC;refine⟨_,⟨bI ..,Cells.bV f2⟩,?_⟩;have vP:Kept (· =w1.heap.size) xG pC:=(zy.mono fun _ _ h=>h.elim).tt f3;have s13:=vP.size;have lw1:w1.heap.size<w7.heap.size:=Nat.lt_of_lt_of_le l2 Pb.size;rw [oM]at hO;have xg:=mV (k:=k) (G:=G) (h:=id) (ps:=l) ko;have Vd:ids (eW k G id l).D=ids G.D++ [id]:=by rw [xg];simp [ids]
 let F':Nat->Prop:=fun j=>F j\/(w7.heap.size<=j/\j<v.heap.size)\/FX' j
 let m':CM:=⟨m.x,m.mb,mx.kX m.x,FX',fun y=>if y=id then q else m.q y,fun y=>if y=id then ov else m.sz y⟩
 have RQ:∀j,mx.kX m.x j->m.SX j\/w8.heap.size<=j:=fun j e=>hS9 j (hmx j e);have Zs:∀j,m'.own c j->m.own c j\/w8.heap.size<=j:=fun j e=>by
  rcases e with e|e|e
  ·exact(RQ j e).imp (fun e=>.inl e) (fun e=>e)
  ·exact .inl (.inr (.inl e))
  ·exact .inl (.inr (.inr e))
 have vK:∀j,F' j->F j\/(w7.heap.size<=j/\j<u.heap.size):=fun j e=>by
  rcases e with e|e|e
  ·exact .inl e
  ·exact .inr ⟨e.1,by omega⟩
  ·rcases RY j e with e'|e'
   ·exact .inl (h.fx j e')
   ·exact .inr ⟨by omega,X9.low j (.inr e)⟩
 have MJ:∀j,mx.kX m.x j->j<u.heap.size:=fun j e=>X9.low j (.inl e);have ZL:Kept (fun j=>j=m.mb\/j=w1.heap.size) u pC:=(K1.mono fun _ _ h=>.inl h).trans vP (fun _ _ h=>.inr h);have n1:∀j,F' j->¬(j=m.mb\/j=w1.heap.size):=fun j e e'=>by
  rcases e' with e'|e'
  ·rcases vK j e with e|e
   ·exact h.fo j e (.inr (.inr e'))
   ·omega
  ·rcases vK j e with e|e
   ·have:=wX j (.inr e);omega
   ·omega
 have n2:∀j,mx.kX m.x j->¬(j=m.mb\/j=w1.heap.size):=fun j e e'=>by
  rcases e' with e'|e'
  ·rcases RQ j e with e|e
   ·exact(h.so j e).2 e'
   ·omega
  ·rcases RQ j e with e|e
   ·have:=wX j (.inl (.inl e));omega
   ·have:=k8.size;have:=g7.size;omega
 have Mb:mY pC B q sm bb (dr k G s l) ov Am nm cp E e ce:=Mc.aK vP (by omega) (by omega) (fun j hj _ e=>by have:=g6.1;omega) (fun a ha e=>by have:=g5 a ha;omega);have C':CV pC F' c k (eW k G id l) m':=by
  refine⟨?_,?_,?_,?_,h.iA.add id l,?_,fun j e=>.inr (.inr e),?_,?_,h.ne,?_⟩
  ·exact ZL.heap Sp (fun e=>by rcases e with e|e;exact h.ne e;omega)
  ·exact⟨mx,X9.aK ZL n2 (fun j e=>n1 j (.inr (.inr e))),fun _ e=>e⟩
  ·have:=Xd.aK vP (by show ¬m.mb=_;omega)
   have ef:(fun h=>if h∈ids (eW k G id l).D then some (Value.pointer (some ⟨m'.q h,0,none⟩))else none)=fun x=>if x=id then some (Value.pointer (some ⟨q,0,none⟩))else if x∈ids G.D then some (.pointer (some ⟨m.q x,0,none⟩))else none:=by
    funext y
    rw [Vd];by_cases hy:y=id
    ·simp [hy,m']
    ·by_cases TR:y∈ids G.D
     ·simp [hy,TR,m']
     ·simp [hy,TR]
   rw [ef];exact this
  ·intro y hy
   rw [Vd,List.mem_append,List.mem_singleton]at hy;by_cases he:y=id
   ·subst he
    rw [(wI h.iA ko).1,oM];have e1:m'.q y=q:=if_pos rfl;have e2:m'.sz y=ov:=if_pos rfl;rw [e1,e2];refine⟨Am,nm,cp,E,e,ce,some sm,Mb.top,Mb.mg,Row.bo Mb.bl,fun a ha=>.inr (.inl ⟨g5 a ha,?_⟩),fun a ha=>.inr (.inl ?_),.inr ⟨sm,rfl,.inr (.inl ⟨g4,g1s⟩),Mb.ov⟩,.inr (.inl ⟨g3,g1q⟩)⟩
    ·have:=(g1.mA a ha).1
     have:=g6.2;omega
    ·subst ha
     obtain⟨q1,cur,q2⟩:=Row.bV g1.bl (k:=a.block) rfl;have:=bf q2;have:=g6.1;exact⟨by omega,this |>fun _=>bf q2⟩
   ·have hy:y∈ids G.D:=hy.elim (fun e=>e) (fun e=>absurd e he)
    rw [(wH h.iA hy).1];have e1:m'.q y=m.q y:=if_neg he;have e2:m'.sz y=m.sz y:=if_neg he;rw [e1,e2];exact(((h8.seen y hy).aK k9 (fun j e e'=>h.fo j e (.inl e'))).aK ZL (fun j e=>n1 j (.inl e))).mono (fun j e=>.inl e)
  ·have ab1:dG G.D G.P (bQ G l) ch:=by rw [oM];exact po
   rw [<-oM]at gO;exact SZ.add h.Z h.iA ko ab1 gO
  ·intro j e e'
   rcases e' with e'|e'|e'
   ·rcases e with e|e|e
    ·rcases RQ j e' with e'|e'
     ·exact h.fo j e (.inl e')
     ·have:=wX j (.inr e);omega
    ·rcases RQ j e' with e'|e'
     ·have:=wX j (.inl (.inl e'));omega
     ·omega
    ·exact XV.off X9 j e' e
   ·rcases vK j e with e|e
    ·exact h.fo j e (.inr (.inl e'))
    ·have e':j=c:=e';omega
   ·rcases vK j e with e|e
    ·exact h.fo j e (.inr (.inr e'))
    ·have e':j=m.mb:=e';omega
  ·intro j e
   rcases RQ j e with e'|e'
   ·exact h.so j e'
   ·exact⟨by omega,by show j≠m.mb;omega⟩
  ·rintro j (e|e)
   ·rcases e with e|e|e
    ·have:=MJ j e;omega
    ·have e:j=c:=e;omega
    ·have e:j=m.mb:=e;omega
   ·rcases vK j e with e|e
    ·have:=wX j (.inr e);omega
    ·omega
 have Gz:∀j,bH A'=some j->xG.heap.size<=j:=fun j hj=>(Row.bV vp hj).1;have QU:∀j,bH B'=some j->xG.heap.size<=j:=fun j hj=>(Row.bV HF hj).1;have W1:∀j,xG.heap.size<=j->¬m'.own c j/\¬F' j:=fun j hj=>⟨fun e=>by
  rcases e with e|e|e
  ·have:=MJ j e;omega
  ·have e:j=c:=e;omega
  ·have e:j=m.mb:=e;omega,fun e=>by
  rcases vK j e with e|e
  ·have:=wX j (.inr e);omega
  ·omega⟩
 exact hO ko pC F' m' A' nm c1 B' e c2 C' rfl ((TH.trans vP (fun j hj e=>by omega))) (fun j e=>(Zs j e).imp (fun h=>h) (fun h=>by omega)) (fun j e=>(vK j e).imp (fun h=>h) (fun h=>by omega))
  (Row.base (Row.aK vp f3 (fun j hj e=>by have:=Gz j hj;omega)) (fun j hj=>by have:=Gz j hj;omega)) (Row.base (Row.aK HF f3 (fun j hj e=>by have:=QU j hj;omega)) (fun j hj=>by have:=QU j hj;omega)) UK
  (fun j hj=>W1 j (hj.elim (Gz j) (QU j)))
end
section
variable{k:Nat}{G:GS}
theorem yw:∀(m:List HT) (b:List Bool),(eI m b).length<=m.length
 | [],_=>by simp [eI]
 |_::_,[]=>by simp [eI]
 |h::l,b::m=>by
  have:=yw l m;unfold eI;split
  ·simp only [List.length_cons];omega
  ·simp only [List.length_cons];omega
end
section
variable{w w' nf:World}{B ob bx:Nat}{av av':Nat->Prop}{acc:List HT}
end
section
variable{w w' v:World}{F:Nat->Prop}{c k:Nat}{G:GS}{m:CM}{K:Value->World->Prop}
end
section
variable{w w':World}{F:Nat->Prop}{c k:Nat}{G:GS}{m:CM}{K:Value->World->Prop}
theorem sW(h:lC k G){a:HT}(ha:a∈ids G.D):(G.world a).length<=G.D.length:=by
 have:=dK (m:=ids G.D) (h.wd a ha).1 (fun b hb=>(((h.wd a ha).2.1 b hb).mem h.W).1)
 rwa [iK]at this
end
structure GN(w v:World)(id:HT)(X M Q:Option Nat)(pt:Bool):Prop where
 kp:Kept Nil w v
 x:∀x,X=some x->∃S,DM v S (fun _=>False) x [⟨id,[]⟩] [-1]/\∀j,S j->w.heap.size<=j/\j<v.heap.size/\M≠some j/\Q≠some j
 m:∀m,M=some m->w.heap.size<=m/\gg v m (fun y=>if pt=true/\y=id then Q.map fun q=>.pointer (some ⟨q,0,none⟩)else none)
 q:∀q,Q=some q->w.heap.size<=q/\v.heap[q]? =some (.cells zS eJ (0,0))
 ne:∀m q,M=some m->Q=some q->m≠q
section
variable{w w' v u:World}{F:Nat->Prop}{c k:Nat}{G:GS}{m:CM}{K:Value->World->Prop}{id:HT}{X M Q:Option Nat}{pt:Bool}
theorem GN.JG(h:GN w v id X none Q false):GN w (v.alloc (.map #[] 0)) id X (some v.heap.size) Q false:=by
 have k1:Kept Nil v (v.alloc (.map #[] 0)):=(Kept.refl _ _).alloc _;have hs:=k1.size;have hm:gg (v.alloc (.map #[] 0)) v.heap.size (fun _=>none):=gg.new v;refine⟨h.kp.tt k1,fun x hx=>?_,fun m np=>?_,fun q hq=>?_,fun m q np hq=>?_⟩
 ·obtain⟨S,h1,h2⟩:=h.x x hx
  exact⟨S,h1.same k1,fun j e=>by have:=h2 j e;exact⟨this.1,by omega,fun e=>by cases e;omega,this.2.2.2⟩⟩
 ·cases np
  exact⟨h.kp.size,by simpa using hm⟩
 ·exact⟨(h.q q hq).1,k1.heap (h.q q hq).2 (fun h=>h)⟩
 ·cases np
  have:=bf (h.q q hq).2;omega
theorem GN.JF(h:GN w v id X M none false):GN w (v.alloc (.cells zS eJ)) id X M (some v.heap.size) false:=by
 have k1:Kept Nil v (v.alloc (.cells zS eJ)):=(Kept.refl _ _).alloc _;have hs:=k1.size;refine⟨h.kp.tt k1,fun x hx=>?_,fun m np=>?_,fun q hq=>?_,fun m q np hq=>?_⟩
 ·obtain⟨S,h1,h2⟩:=h.x x hx
  exact⟨S,h1.same k1,fun j e=>by have:=h2 j e;exact⟨this.1,by omega,this.2.2.1,fun e=>by cases e;omega⟩⟩
 ·have:=h.m m np
  refine⟨this.1,?_⟩;have h2:=this.2.same k1;simpa using h2
 ·cases hq
  exact⟨h.kp.size,aM v _⟩
 ·cases hq
  have:=(h.m m np).2.lt;omega
theorem GN.DH(h:GN w v id none M Q pt){x:Nat}{S:Nat->Prop}(hX:DM u S (fun _=>False) x [⟨id,[]⟩] [-1])(hS:∀j,S j->v.heap.size<=j/\j<u.heap.size)(k1:Kept Nil v u):GN w u id (some x) M Q pt:=by
 have hs:=h.kp.size;refine⟨h.kp.tt k1,fun x' hx=>?_,fun m np=>⟨(h.m m np).1,(h.m m np).2.same k1⟩,fun q hq=>⟨(h.q q hq).1,k1.heap (h.q q hq).2 (fun h=>h)⟩,h.ne⟩;cases hx;refine⟨S,hX,fun j e=>by
  have:=hS j e;exact⟨by omega,this.2,fun e=>by have:=(h.m j e).2.lt;omega,fun e=>by have:=bf (h.q j e).2;omega⟩⟩
theorem GN.put{mm q:Nat}(h:GN w v id X (some mm) (some q) false):∃u,(Instr.mapUpdate fF (.map (some mm)) (.agg id.1) (.pointer (some ⟨q,0,none⟩))).run prog v=.ok () u/\GN w u id X (some mm) (some q) true:=by
 obtain⟨h1,h2⟩:=h.m mm rfl;obtain⟨u,g1,g2,g3⟩:=h2.put HW id (.pointer (some ⟨q,0,none⟩));have hs:=g3.size;refine⟨u,g1,h.kp.trans g3 (fun j hj e=>by omega),fun x hx=>?_,fun m np=>?_,fun q' hq=>?_,h.ne⟩
 ·obtain⟨S,q1,q2⟩:=h.x x hx
  exact⟨S,q1.aK g3 (fun j e e'=>(q2 j e).2.2.1 (by rw [e'])) (fun _ h=>h.elim),fun j e=>by have:=q2 j e;exact⟨this.1,by omega,this.2.2⟩⟩
 ·cases np
  refine⟨h1,?_⟩;have ef:(fun y=>if true=true/\y=id then(some q).map (fun q=>Value.pointer (some ⟨q,0,none⟩))else none)=fun x=>if x=id then some (.pointer (some ⟨q,0,none⟩))else if false=true/\x=id then(some q).map (fun q=>Value.pointer (some ⟨q,0,none⟩))else none:=by
   funext y
   by_cases hy:y=id<;>simp [hy]
  rw [ef];exact g2
 ·have:=h.q q' hq
  exact⟨this.1,g3.heap this.2 (fun e=>h.ne mm q' rfl hq e.symm)⟩
theorem GN.fin{x mm q:Nat}(h:GN w v id (some x) (some mm) (some q) true)(k:Nat):∃m,CV (v.alloc (.cells #[.int .i64 (k:Int),.pointer (some ⟨x,0,none⟩),.map (some mm)] iH)) (· =q) v.heap.size k (fg id) m/\m.x=x/\(∀j,m.own v.heap.size j->w.heap.size<=j)/\w.heap.size<=q:=by
 have k1:Kept Nil v (v.alloc (.cells #[.int .i64 (k:Int),.pointer (some ⟨x,0,none⟩),.map (some mm)] iH)):=(Kept.refl _ _).alloc _;have ht:=aM v (.cells #[.int .i64 (k:Int),.pointer (some ⟨x,0,none⟩),.map (some mm)] iH);generalize v.alloc (.cells #[.int .i64 (k:Int),.pointer (some ⟨x,0,none⟩),.map (some mm)] iH)=u at k1 ht⊢;obtain⟨S,h1,h2⟩:=h.x x rfl;obtain⟨h3,h4⟩:=h.m mm rfl;obtain⟨h5,h6⟩:=h.q q rfl;have fW:=h.ne mm q rfl rfl;have lm:=h4.lt;have lq:=bf h6;have lt:=bf ht;have hs:=k1.size;have hw:=h.kp.size;refine⟨⟨x,mm,S,fun _=>False,fun _=>q,fun _ _=>none⟩,⟨ht,h1.same k1,?_,?_,mN k id,SZ.root id,fun _ h=>h.elim,?_,?_,?_,?_⟩,rfl,?_,h5⟩
 ·have:=h4.same k1
  have ef:(fun h=>if h∈ids (fg id).D then some (Value.pointer (some ⟨q,0,none⟩))else none)=fun y=>if true=true/\y=id then(some q).map (fun q=>Value.pointer (some ⟨q,0,none⟩))else none:=by
   funext y
   by_cases hy:y=id
   ·simp [hy,fg,ids]
   ·simp [hy,fg,ids]
  show gg u mm (fun h=>if h∈ids (fg id).D then some (Value.pointer (some ⟨q,0,none⟩))else none)
  rw [ef];exact this
 ·intro y hy
  have:y=id:=by simpa [fg,ids]using hy
  subst this;obtain⟨q1,_⟩:=(mN k y).root ⟨y,[]⟩ rfl
  replace q1:(fg y).jZ y=_:=q1
  rw [q1];exact⟨none,0,0,none,0,0,none,k1.heap h6 (fun h=>h),HS.nil _ _,⟨rfl,fun i b hi=>by simp at hi⟩,fun a ha=>(by cases ha),fun a ha=>(by cases ha),.inl ⟨rfl,fun _=>rfl⟩,rfl⟩
 ·rintro j rfl e
  rcases e with e|e|e
  ·exact(h2 _ e).2.2.2 rfl
  ·have e:j=v.heap.size:=e;omega
  ·exact fW e.symm
 ·intro j e
  have:=h2 j e;exact⟨by omega,fun e=>this.2.2.1 (by rw [e])⟩
 ·show v.heap.size≠mm;omega
 ·rintro j (e|e)
  ·rcases e with e|e|e
   ·have:=h2 j e;omega
   ·have e:j=v.heap.size:=e;omega
   ·have e:j=mm:=e;omega
  ·have e:j=q:=e;omega
 ·intro j e
  rcases e with e|e|e
  ·have:=h2 j e;omega
  ·have e:j=v.heap.size:=e;omega
  ·have e:j=mm:=e;omega
theorem jb(id:HT){k:Nat}(hk:k<=100)(hK:∀w' c q m,CV w' (· =q) c k (fg id) m->(∀j,m.own c j->w.heap.size<=j)->w.heap.size<=q->Kept Nil w w'->K (.tuple #[.pointer (some ⟨c,0,none⟩),.int .i64 0]) w'):
 bE prog jb.id #[.int .i64 (k:Int),.agg id.1] w K:=by
 refine jb.of ?_;unfold jb.W;intro w1;have k1:Kept Nil w w1:=(Kept.refl _ _).alloc _;have Bj:w1.heap[w.heap.size]? =some (.cells id.1 al (0,0)):=aM w _;clear_value w1;refine Split.no (decide_eq_false (by omega)) (Split.no (decide_eq_false (by omega)) ?_);intro w2;have k2:Kept Nil w1 w2:=(Kept.refl _ _).drew;clear_value w2;have nE:=k2.heap Bj (fun h=>h);have mr:=k1.tt k2;have s02:=mr.size;have N0:GN w2 w2 id none none none false:=⟨Kept.refl _ _,fun _ h=>(by cases h),fun _ h=>(by cases h),fun _ h=>(by cases h),fun _ _ h=>(by cases h)⟩;have bx:∀ {v:World},Kept Nil w2 v->∃cs:Array Value,(.agg id.1:Value)=.agg cs/\cs.size=32/\Cells v ⟨w.heap.size,0,none⟩ cs:=fun kv=>⟨id.1,rfl,id.2.1,Cells.bV (kv.heap nE (fun h=>h))⟩;have fin:∀ {v:World} {x mm q:Nat},GN w2 v id (some x) (some mm) (some q) true->let p:=v.alloc (.cells #[.int .i64 (k:Int),.pointer (some ⟨x,0,none⟩),.map (some mm)] iH);K (.tuple #[.pointer (some (aV v.heap.size)),.int .i64 0]) p:=fun {v x mm q} N=>by
  obtain⟨m,h1,_,h2,h3⟩:=N.fin k;exact hK _ _ q m h1 (fun j e=>by have:=h2 j e;omega) (by omega) ((mr.tt N.kp).alloc _)
 refine⟨id.1,⟨id.2.1,Cells.bV nE⟩,id.1,⟨id.2.1,Cells.bV nE⟩,?_,?_,?_⟩
 ·refine jn id fun v x hX kv=>⟨_,rfl,?_⟩
  have N1:=N0.DH hX (fun j e=>e) kv;refine⟨bx N1.kp,⟨?_,?_⟩⟩
  ·have N2:=N1.JG
   have N3:=N2.JF;obtain⟨u,hu,N4⟩:=N3.put;exact⟨bx N2.kp,bx N3.kp,u,hu,fin N4⟩
  ·have N2:=N1.JF
   have N3:=N2.JG;obtain⟨u,hu,N4⟩:=N3.put;exact⟨bx N2.kp,bx N3.kp,u,hu,fin N4⟩
 ·have N1:=N0.JG
  refine⟨bx N1.kp,bx N1.kp,?_,?_⟩
  ·refine jn id fun v x hX kv=>⟨_,rfl,?_⟩
   have N2:=N1.DH hX (fun j e=>e) kv;have N3:=N2.JF;obtain⟨u,hu,N4⟩:=N3.put;exact⟨bx N2.kp,bx N3.kp,u,hu,fin N4⟩
  ·have N2:=N1.JF
   refine⟨bx N2.kp,bx N2.kp,?_,?_⟩
   ·refine jn id fun v x hX kv=>⟨_,rfl,?_⟩
    have N3:=N2.DH hX (fun j e=>e) kv;obtain⟨u,hu,N4⟩:=N3.put;exact⟨bx N3.kp,u,hu,fin N4⟩
   ·obtain⟨u,hu,N3⟩:=N2.put
    refine⟨u,hu,bx N3.kp,?_⟩;refine jn id fun v x hX kv=>⟨_,rfl,?_⟩;exact fin (N3.DH hX (fun j e=>e) kv)
 ·have N1:=N0.JF
  refine⟨bx N1.kp,bx N1.kp,?_,?_⟩
  ·refine jn id fun v x hX kv=>⟨_,rfl,?_⟩
   have N2:=N1.DH hX (fun j e=>e) kv;have N3:=N2.JG;obtain⟨u,hu,N4⟩:=N3.put;exact⟨bx N2.kp,bx N3.kp,u,hu,fin N4⟩
  ·have N2:=N1.JG
   refine⟨bx N2.kp,bx N2.kp,?_,?_⟩
   ·refine jn id fun v x hX kv=>⟨_,rfl,?_⟩
    have N3:=N2.DH hX (fun j e=>e) kv;obtain⟨u,hu,N4⟩:=N3.put;exact⟨bx N3.kp,u,hu,fin N4⟩
   ·obtain⟨u,hu,N3⟩:=N2.put
    refine⟨u,hu,bx N3.kp,?_⟩;refine jn id fun v x hX kv=>⟨_,rfl,?_⟩;exact fin (N3.DH hX (fun j e=>e) kv)
end
end Go.Proofs.YtfleamccglihoaaGreatDoor
