import Derived.Test.YtfleamccglihoaaGreatDoorMS
import Derived.Test.YtfleamccglihoaaGreatDoorMQ
import Derived.Test.YtfleamccglihoaaGreatDoorMJ
import Derived.Test.YtfleamccglihoaaGreatDoorMP
open Go.IntKind (i64 u64)
set_option linter.unusedVariables false
namespace Go.Proofs.YtfleamccglihoaaGreatDoor
open Go.Proofs.Tryz
open Go Go.b0 Go.RowKit
theorem Ay(D:DG)(s:HT){l:List HT}(hl:∀x∈l,x∈ids D):(tm D s l).length<=D.length:=by
 have:=dL (m:=ids D) (ri D s l) (fun x hx=>by
  rcases(AD.1 hx).1 with h|h
  ·exact h.1
  ·exact hl x h)
 rwa [iM]at this
theorem xR{D:DG}{l:List HT}(h:lE D l=0):l≠ []/\∀x∈l,x∈ids D:=by
 unfold lE at h;split at h
 ·cases h
 ·rename_i h0
  split at h
  ·cases h
  ·rename_i h1
   exact⟨h0,fun x hx=>Classical.byContradiction fun e=>h1 ⟨x,hx,e⟩⟩
section
variable{w w':World}{F:Nat->Prop}{c k:Nat}{G:GS}{m:CM}{K:Value->World->Prop}{A:Option Addr}{n cx:Nat}{l:List HT}{s:HT}
theorem mZ.kr{q B sm bb cp e ce:Nat}{x:pB}{ov:HT->Option Nat}{E:Option Addr}(h:mZ w B q sm bb x ov A n cp E e ce):Cells w ((⟨q,0,none⟩:Addr).add 0) (dp x A n cp E e ce):=by
 intro j u hj;rw [add_zero,bE,aE h.top,Array.getElem?_append_left (by rw [bJ];have:=(Array.getElem?_eq_some_iff.1 hj).1;rw [bJ]at this;omega)];rw [Nat.zero_add];exact hj
theorem Df(h:CV w F c k G m)(hT:sS w)(hD:G.D.length<=49)(o6:k<=1000)(CZ:HS w A n l)(hn:n<=5000)
 (h0:lE G.D (s::l)≠0->∀w',Kept Nil w w'->K (.tuple #[.agg (dp ⟨fH,0,[],[]⟩ none 0 0 none 0 0),.int .i64 (lE G.D (s::l))]) w')
 (h1:lE G.D (s::l)=0->∀w' A n cp E e ce,HS w' A n (dr k G s l).merge->Bo w' E e (dr k G s l).gu->Kept Nil w w'->(∀a,A=some a->w.heap.size<=a.block)->K (.tuple #[.agg (dp (dr k G s l) A n cp E e ce),.int .i64 0]) w'):
 bG prog eE.id #[.pointer (some ⟨c,0,none⟩),.agg s.1,.slice A n cx] w K:=by
 refine eE.of ?_;unfold eE.W;intro w1 w2;have k1:Kept Nil w w1:=(Kept.refl _ _).alloc _;have wM:w1.heap[w.heap.size]? =some (.cells s.1 al (0,0)):=aM w _;have k2:Kept Nil w1 w2:=(Kept.refl _ _).alloc _;have jY:w2.heap[w1.heap.size]? =some (.cells zC bL (0,0)):=aM w1 _;clear_value w2;have zA:=k2.heap wM (fun h=>h);have mu:=k1.tt k2;have s1:=k1.size;have l1:=bf wM;have l2:=bf jY;clear_value w1;refine⟨s.1,⟨s.2.1,Cells.bV zA⟩,s.2.1,?_⟩;intro w3;have k3:Kept Nil w2 w3:=(Kept.refl _ _).alloc _;have BR:HS w3 (some ⟨w2.heap.size,0,none⟩) 1 [s]:=jE w2 s;have nK:cf w3 w.heap.size (some ⟨w2.heap.size,0,none⟩) 1 1 [s]:=by
  have e:dw [s]=(s.1.toList++ []).toArray.toList:=by simp [dw]
  show Row _ _ _ _ _ _ _ (dw [s])
  rw [e];exact Row.made (aM w2 _) (by have:=mu.size;omega) (by simp [s.2.1]) (by unfold maxLen;omega)
 clear_value w3;have jF:=mu.tt k3;have s2:=mu.size;have s3:=jF.size;obtain⟨A2,c2,w4,yf,jX,g4,R7⟩:=dd aF nK (cx:=cx) (CZ.same jF) (by omega) s3;have wL:Kept (fun j=>w.heap.size<=j) w3 w4:=(Kept.refl _ _).grown g4 fun j hj _=>(Row.bV nK hj).1;have mh:Kept Nil w w4:=Kept.dY jF g4 (fun j hj=>(Row.bV nK hj).1);have rO:Kept Nil w2 w4:=Kept.dY k3 g4 (fun j hj=>by cases hj;exact Nat.le_refl _);have IG:=rO.heap zA (fun h=>h);have aaM:=rO.heap jY (fun h=>h);refine⟨A2,_,c2,w4,yf,?_⟩;refine yn (h.same mh) (show HS w4 A2 (1+n) (s::l)from jX.hs) (by omega) fun w5 k5=>⟨_,rfl,?_⟩;have nC:=mh.tt k5;have X8:=k5.heap IG (fun h=>h);have sC:=k5.heap aaM (fun h=>h);have zs:(zC:Array Value)=dp ⟨fH,0,[],[]⟩ none 0 0 none 0 0:=rfl;by_cases hm:lE G.D (s::l)=0
 ·refine Split.no (by simp [hm]) ⟨s.1,⟨s.2.1,Cells.bV X8⟩,?_⟩
  obtain⟨_,gD⟩:=xR hm;have h5:=h.same nC;have NB:∀x∈l,x∈ids G.D:=fun x hx=>gD x (List.mem_cons_of_mem _ hx);obtain⟨ch,pq⟩:=dH.ex h.iC.nz s;refine wc D4 (Nat.le_trans (Ay G.D s NB) hD) h5 (hT.same nC) (by omega) o6 (gD s List.mem_cons_self) pq NB (CZ.same nC) hn fun v q B sm bb ov A n cp E e ce g1 _ g3 _ g5 g6 g7=>?_;refine⟨some ⟨q,0,none⟩,rfl,Is.mk rfl ?_⟩;have Nl:=g7.heap sC (fun h=>h);obtain⟨t1,t2,t3⟩:=gv Nl (cs:=dp (dr k G s l) A n cp E e ce) (by rw [bJ];rfl);refine⟨_,⟨bJ ..,g1.kr⟩,⟨bJ ..,fF _ _ _ _ _ _ _,fun j hj=>t1 j (by rw [bJ];exact hj)⟩,?_⟩;intro w8
  replace t2:w8.heap[w1.heap.size]? =_:=t2
  replace t3:Kept (· =w1.heap.size) v w8:=t3
  clear_value w8;refine⟨_,⟨bJ ..,Cells.bV t2⟩,?_⟩;have s5:=nC.size;have di:w1.heap.size<w5.heap.size:=bf sC;refine h1 hm w8 A n cp E e ce (g1.mg.aK t3 (fun a ha e=>?_)) ((Row.bo g1.bl).aK t3 (fun a ha e=>?_)) ((nC.tt g7).trans t3 (fun j hj e=>by omega)) (fun a ha=>by have:=g5 a ha;omega)
  ·have:=g5 a ha
   omega
  ·subst ha
   have:=(Row.bV g1.bl (k:=a.block) rfl).1;have:=g6.1;omega
 ·refine Split.yes (by simpa using hm) ?_
  obtain⟨t1,t2,t3⟩:=gv sC (cs:=zC) rfl;refine⟨⟨rfl,by rw [zs];exact fF _ _ _ _ _ _ _,fun j hj=>t1 j hj⟩,?_⟩;exact⟨_,⟨rfl,Cells.bV t2⟩,h0 hm _ (nC.trans t3 (fun j hj e=>by omega))⟩
end
theorem XV.off{w:World}{D:DG}{P:List Int}{m:XM}{x:Nat}{F:Nat->Prop}(h:XV w F x D P m):∀k,m.kY x k->¬F k:=fun k e=>by
 obtain⟨bl,c,mb,M,G⟩:=h.G;rcases e with e|e|e|e
 ·exact G.Hf k e
 ·exact fun f=>(h.fd k f).1 e
 ·exact fun f=>(h.fd k f).2 e
 ·exact(h.od k e).2.2.2
section
variable{w w':World}{F F':Nat->Prop}{c k q:Nat}{G:GS}{m:CM}{K:Value->World->Prop}{A B:Option Addr}{n cx cp e ce:Nat}{l:List HT}{x:pB}{sz:HT->Option Nat}{sm:Option Nat}
theorem Seen.mono(h:Seen w F q x sz)(hF:∀j,F j->F' j):Seen w F' q x sz:=by
 obtain⟨A,n,cp,B,e,ce,sm,h⟩:=h;refine⟨A,n,cp,B,e,ce,sm,h.top,h.mg,h.bl,fun a ha=>hF _ (h.fA a ha),fun a ha=>hF _ (h.fB a ha),?_,hF _ h.fq⟩;rcases h.sz with g|⟨s,g1,g2,g3⟩
 ·exact .inl g
 ·exact .inr ⟨s,g1,hF _ g2,g3⟩
abbrev Mm:Array Value:=dp ⟨fH,0,[],[]⟩ none 0 0 none 0 0
theorem DL(D:DG)(h:HT)(l:List HT):dU D h l=if h∈ids D then 7 else if l.length=0 then 9 else if(dC l).length≠l.length then 9 else lE D l:=by
 unfold dU lE;by_cases h1:h∈ids D
 ·rw [if_pos h1,if_pos h1]
 ·rw [if_neg h1,if_neg h1]
  by_cases h2:l.length=0
  ·rw [if_pos h2,if_pos (.inl (by have:=ny l;omega))]
  ·have hl:l≠ []:=fun e=>h2 (by rw [e];rfl)
   rw [if_neg h2];by_cases h3:(dC l).length≠l.length
   ·rw [if_pos h3,if_pos (.inr h3)]
   ·have a:¬((dC l).length=0\/(dC l).length≠l.length):=by omega
    have hc:(∃p∈dC l,p∉ids D)↔∃p∈l,p∉ids D:=⟨fun⟨p,hp,hq⟩=>⟨p,dW.1 hp,hq⟩,fun⟨p,hp,hq⟩=>⟨p,dW.2 hp,hq⟩⟩;rw [if_neg h3,if_neg a,if_neg hl];by_cases h4:∃p∈l,p∉ids D
    ·rw [if_pos h4,if_pos (hc.2 h4)]
    ·rw [if_neg h4,if_neg (fun e=>h4 (hc.1 e))]
set_option maxHeartbeats 2000000 in
theorem GD(h:CV w F c k G m)(hT:sS w)(Km:¬m.SX (Tryz.kF.g 1))(hD:G.D.length<=49)(o6:k<=1000)(CZ:HS w A n l)(hn:n<=5000)(id:HT)
 (hE:dU G.D id l≠0->∀w',Kept Nil w w'->K (.tuple #[.agg Mm,.int .i64 (dU G.D id l)]) w')
 (hO:dU G.D id l=0->∀w' F' m' A n c1 B e c2,CV w' F' c k (eZ k G id l) m'->m'.x=m.x->Kept (m.own c) w w'->(∀j,m'.own c j->m.own c j\/w.heap.size<=j)->(∀j,F' j->F j\/w.heap.size<=j)->
   cf w' w.heap.size A n c1 (dr k G (bS G l) l).merge->Row w' w.heap.size jv 1 B e c2 (tH (dr k G (bS G l) l).gu)->(∀j,bI A=some j->bI B≠some j)->(∀j,bI A=some j\/bI B=some j->¬m'.own c j/\¬F' j)->
   K (.tuple #[.agg (dp (dr k G (bS G l) l) A n c1 B e c2),.int .i64 0]) w'):
 bG prog dT.id #[.pointer (some ⟨c,0,none⟩),.agg id.1,.slice A n cx] w K:=by
 have hlen:=CZ.len;refine dT.of ?_;unfold dT.W;intro w1 w2;have k1:Kept Nil w w1:=(Kept.refl _ _).alloc _;have wM:w1.heap[w.heap.size]? =some (.cells id.1 al (0,0)):=aM w _;have k2:Kept Nil w1 w2:=(Kept.refl _ _).alloc _;have jY:w2.heap[w1.heap.size]? =some (.cells zC bL (0,0)):=aM w1 _;clear_value w2;have zA:=k2.heap wM (fun h=>h);have mu:=k1.tt k2;have s1:=k1.size;have l1:=bf wM;have l2:=bf jY;clear_value w1;have zs:(zC:Array Value)=Mm:=rfl;have bad:∀ {u:World} {r:Int},Kept Nil w2 u->dU G.D id l=r->r≠0->(zC.size=35/\(∀n∈zC.toList,n.oneCell'=true)/\∀o,o<35->Wr u ((aV w1.heap.size).add o))/\
  let p:=setCells u (aV w1.heap.size) zC.toList 0;∃q:Array Value,(q.size=35/\Cells p (aV w1.heap.size) q)/\K (.tuple #[.agg q,.int .i64 r]) p:=fun {u r} ku hr h0=>by
  obtain⟨t1,t2,t3⟩:=gv (ku.heap jY (fun h=>h)) (cs:=zC) rfl;refine⟨⟨rfl,by rw [zs];exact fF _ _ _ _ _ _ _,fun j hj=>t1 j hj⟩,?_⟩;refine⟨_,⟨rfl,Cells.bV t2⟩,?_⟩;have:=hE (by rw [hr];exact h0) _ ((mu.tt ku).trans t3 (fun j hj e=>by omega));rw [hr]at this;exact this
 have ko:=DL G.D id l;refine uo (h.same mu) ⟨true,rfl,Split.no rfl ?_⟩;intro w3;have k3:Kept Nil w2 w3:=(Kept.refl _ _).drew;clear_value w3;have jF:=mu.tt k3;have h3:=h.same jF;refine⟨_,h3.c2,id.1,⟨id.2.1,Cells.bV (k3.heap zA (fun h=>h))⟩,_,h3.look id,?_⟩;by_cases hid:id∈ids G.D
 ·rw [if_pos hid]at ko
  exact Split.yes (by rw [if_pos hid];rfl) (bad k3 ko (by decide))
 rw [if_neg hid]at ko;refine Split.no (by rw [if_neg hid];rfl) ?_;by_cases EE:n=0
 ·rw [if_pos (by omega)]at ko
  exact Split.yes (by subst EE;rfl) (bad k3 ko (by decide))
 rw [if_neg (by omega)]at ko;refine Split.no (by simpa using (by omega:¬(n:Int)=0)) ?_;refine iT (CZ.same jF) (by omega) fun A4 c4 w4 jX k4=>⟨A4,_,c4,rfl,?_⟩;have rO:=k3.tt k4;have mh:=jF.tt k4;by_cases Gj:(dC l).length≠l.length
 ·rw [if_pos Gj]at ko
  exact Split.yes (by simp only [bne_iff_ne,ne_eq];omega) (bad rO ko (by decide))
 rw [if_neg Gj]at ko;refine Split.no (by simp only [bne_eq_false_iff_eq];omega) ?_;refine sI (h.same mh) (CZ.same mh) (by omega) fun w5 k5=>⟨_,_,rfl,?_⟩;have Ie:=rO.tt k5;have nC:=mh.tt k5;generalize oN:(if lE G.D l=0 then bS G l else fH)=s;intro w6;have k6:Kept Nil w5 w6:=(Kept.refl _ _).alloc _;have p7:w6.heap[w5.heap.size]? =some (.cells fH.1 al (0,0)):=aM w5 _;clear_value w6;obtain⟨t1,t2,t3⟩:=jf s p7 rfl;refine⟨t1,?_⟩;intro w7
 replace t2:w7.heap[w5.heap.size]? =some (.cells s.1 al (0,0)):=t2
 replace t3:Kept (· =w5.heap.size) w6 w7:=t3
 clear_value w7;have Gb:Kept Nil w5 w7:=k6.trans t3 (fun j hj e=>by omega);have Pf:=Ie.tt Gb;have tu:=nC.tt Gb;by_cases hm:lE G.D l≠0
 ·exact Split.yes (by simpa using hm) (bad Pf ko hm)
 have hm:lE G.D l=0:=by omega
 rw [if_pos hm]at oN;rw [hm]at ko⊢;refine Split.no rfl ⟨s.1,⟨s.2.1,Cells.bV t2⟩,?_⟩;obtain⟨fX,gD⟩:=xR hm;have BS:s∈l:=by rw [<-oN];exact jI fX
 obtain⟨ch,pq⟩:=dH.ex h.iC.nz s;have h7:=h.same tu;refine wc D4 (Nat.le_trans (Ay G.D s gD) hD) h7 (hT.same tu) (by omega) o6 (gD s BS) pq gD (CZ.same tu) hn fun v q B sm bb ov Am nm cp E e ce g1 gO g3 g4 g5 g6 g7=>⟨some ⟨q,0,none⟩,rfl,?_⟩;have tq:=tu.tt g7;have Ib:=Pf.tt g7;have k5v:=Gb.tt g7;have s07:=tu.size;have s0v:=tq.size;intro w8;have k8:Kept Nil v w8:=(Kept.refl _ _).drew;clear_value w8;have zx:=tq.tt k8;have h8:=h.same zx;have g18:=g1.same k8;have s8:=k8.size;refine⟨_,h8.c1,id.1,⟨id.2.1,Cells.bV ((Ib.tt k8).heap zA (fun h=>h))⟩,s.1,⟨s.2.1,Cells.bV (((g7.tt k8)).heap t2 (fun h=>h))⟩,?_⟩;refine Co h8.X (by omega) (hT.same zx) Km (CZ.same zx) hn id s fun u S' FX' hX9 k9 hS9 R5=>⟨_,rfl,?_⟩;have eX:oz G.D id s l=(eZ k G id l).D/\oy G.D G.P id s l=(eZ k G id l).P:=by rw [<-oN];exact⟨JK.symm,JL.symm⟩
 rw [eX.1,eX.2]at hX9;obtain⟨mx,X9,hmx⟩:=hX9;have wW:∀j,m.own c j\/F j->j<w.heap.size:=h.low;have g1q:q<v.heap.size:=bf g1.top;have g1s:sm<v.heap.size:=g1.ov.lt;have wg:∀j,w.heap.size<=j->¬m.SX j:=fun j hj e=>by have:=wW j (.inl (.inl e));omega
 have g19:=g18.aK k9 (wg q (by omega)) (wg sm (by omega)) (fun j hj _=>wg j (by have:=g6.1;omega)) (fun a ha=>wg _ (by have:=g5 a ha;omega));have s9:=k9.size;have Lb:Kept m.SX w2 u:=((Ib.tt k8).mono fun _ _ h=>h.elim).tt k9;have ncm:¬m.SX c/\¬m.SX m.mb:=⟨fun e=>(h.so _ e).1 rfl,fun e=>(h.so _ e).2 rfl⟩;have Su:u.heap[c]? =_:=k9.heap h8.top ncm.1;have adA:=h8.all.aK k9 ncm.2;intro w10;have rP:Kept Nil u w10:=(Kept.refl _ _).drew;clear_value w10;have Sw:=rP.heap Su (fun h=>h);have Lp:=(Lb.trans rP (fun _ _ h=>h.elim)).heap zA (fun e=>wg _ (Nat.le_refl _) e);have Xj:=adA.aK rP (fun h=>h);obtain⟨xF,aaZ,Xi,J0⟩:=Xj.put HY id (.pointer (some ⟨q,0,none⟩));refine⟨some m.mb,by rw [bE,aE Sw];rfl,id.1,⟨id.2.1,Cells.bV Lp⟩,xF,aaZ,Is.mk rfl ?_⟩;have s10:=rP.size;have s11:=J0.size;have lmb:m.mb<w.heap.size:=wW _ (.inl (.inr (.inr rfl)));have lc:c<w.heap.size:=wW _ (.inl (.inr (.inl rfl)));have K4:Kept (· =m.mb) u xF:=(rP.mono fun _ _ h=>h.elim).tt J0;have Mf:=g19.aK K4 (by omega) (by omega) (fun j hj _ e=>by have:=g6.1;omega) (fun a ha e=>by have:=g5 a ha;omega);have adw:=Row.bo Mf.bl;have TM:Kept (m.own c) w xF:=((zx.mono (S':=m.own c) fun _ _ h=>h.elim).trans k9 (fun _ _ h=>.inl h)).trans K4 (fun _ _ h=>.inr (.inr h));refine⟨_,⟨bJ ..,Mf.kr⟩,?_⟩;have Bi:=g1.mg.len;have hnm:nm<=49:=by
  have Kc:(dr k G s l).merge=cR G s l:=rfl;have zD:(cR G s l).length<=49:=by
   have:=dL (m:=ids G.D) (mI G s l).nodup (fun y hy=>by
    rcases(kO.1 hy).1 with h|h
    ·exact h.1
    ·exact gD y h)
   rw [iM]at this;omega
  rw [Kc]at Bi;omega
 have Yr:e<=49:=by
  have h1:=(u9 k G s l).1;have h2:=(Row.bo g1.bl).len;have Kc:(dr k G s l).merge=cR G s l:=rfl;have hv2:(dr k G s l).gu=(iz k G s l).bl:=rfl;rw [hv2]at h2;rw [Kc]at Bi;omega
 refine uK (dr k G s l) Mf.mg adw (by omega) (by omega) fun A' c1 B' c2 nx vq HH UP zw=>⟨_,rfl,?_⟩;have TH:Kept (m.own c) w2 nx:=((Lb.mono (S':=m.own c) fun _ _ h=>.inl h).trans K4 (fun _ _ h=>.inr (.inr h))).trans zw (fun _ _ h=>h.elim);have fr2:∀j,w.heap.size<=j->¬m.own c j:=fun j hj e=>by have:=wW j (.inl e);omega
 have aaR:=TH.heap jY (fr2 _ (by omega));obtain⟨f1,f2,f3⟩:=gv aaR (cs:=dp (dr k G s l) A' nm c1 B' e c2) (by rw [bJ];rfl);refine⟨⟨bJ ..,fF _ _ _ _ _ _ _,fun j hj=>f1 j (by rw [bJ];exact hj)⟩,?_⟩;intro pD
 replace f2:pD.heap[w1.heap.size]? =_:=f2
 replace f3:Kept (· =w1.heap.size) nx pD:=f3
 clear_value pD;refine⟨_,⟨bJ ..,Cells.bV f2⟩,?_⟩;have vQ:Kept (· =w1.heap.size) xF pD:=(zw.mono fun _ _ h=>h.elim).tt f3;have s13:=vQ.size;have lw1:w1.heap.size<w7.heap.size:=Nat.lt_of_lt_of_le l2 Pf.size;rw [oN]at hO;have xf:=mW (k:=k) (G:=G) (h:=id) (ps:=l) ko;have Vj:ids (eZ k G id l).D=ids G.D++ [id]:=by rw [xf];simp [ids]
 let F':Nat->Prop:=fun j=>F j\/(w7.heap.size<=j/\j<v.heap.size)\/FX' j
 let m':CM:=⟨m.x,m.mb,mx.kY m.x,FX',fun y=>if y=id then q else m.q y,fun y=>if y=id then ov else m.sz y⟩
 have RV:∀j,mx.kY m.x j->m.SX j\/w8.heap.size<=j:=fun j e=>hS9 j (hmx j e);have Zx:∀j,m'.own c j->m.own c j\/w8.heap.size<=j:=fun j e=>by
  rcases e with e|e|e
  ·exact(RV j e).imp (fun e=>.inl e) (fun e=>e)
  ·exact .inl (.inr (.inl e))
  ·exact .inl (.inr (.inr e))
 have vL:∀j,F' j->F j\/(w7.heap.size<=j/\j<u.heap.size):=fun j e=>by
  rcases e with e|e|e
  ·exact .inl e
  ·exact .inr ⟨e.1,by omega⟩
  ·rcases R5 j e with e'|e'
   ·exact .inl (h.fx j e')
   ·exact .inr ⟨by omega,X9.low j (.inr e)⟩
 have MN:∀j,mx.kY m.x j->j<u.heap.size:=fun j e=>X9.low j (.inl e);have ZQ:Kept (fun j=>j=m.mb\/j=w1.heap.size) u pD:=(K4.mono fun _ _ h=>.inl h).trans vQ (fun _ _ h=>.inr h);have n1:∀j,F' j->¬(j=m.mb\/j=w1.heap.size):=fun j e e'=>by
  rcases e' with e'|e'
  ·rcases vL j e with e|e
   ·exact h.fo j e (.inr (.inr e'))
   ·omega
  ·rcases vL j e with e|e
   ·have:=wW j (.inr e);omega
   ·omega
 have n2:∀j,mx.kY m.x j->¬(j=m.mb\/j=w1.heap.size):=fun j e e'=>by
  rcases e' with e'|e'
  ·rcases RV j e with e|e
   ·exact(h.so j e).2 e'
   ·omega
  ·rcases RV j e with e|e
   ·have:=wW j (.inl (.inl e));omega
   ·have:=k8.size;have:=g7.size;omega
 have Me:mZ pD B q sm bb (dr k G s l) ov Am nm cp E e ce:=Mf.aK vQ (by omega) (by omega) (fun j hj _ e=>by have:=g6.1;omega) (fun a ha e=>by have:=g5 a ha;omega);have C':CV pD F' c k (eZ k G id l) m':=by
  refine⟨?_,?_,?_,?_,h.iC.add id l,?_,fun j e=>.inr (.inr e),?_,?_,h.ne,?_⟩
  ·exact ZQ.heap Su (fun e=>by rcases e with e|e;exact h.ne e;omega)
  ·exact⟨mx,X9.aK ZQ n2 (fun j e=>n1 j (.inr (.inr e))),fun _ e=>e⟩
  ·have:=Xi.aK vQ (by show ¬m.mb=_;omega)
   have ef:(fun h=>if h∈ids (eZ k G id l).D then some (Value.pointer (some ⟨m'.q h,0,none⟩))else none)=fun x=>if x=id then some (Value.pointer (some ⟨q,0,none⟩))else if x∈ids G.D then some (.pointer (some ⟨m.q x,0,none⟩))else none:=by
    funext y
    rw [Vj];by_cases hy:y=id
    ·simp [hy,m']
    ·by_cases TX:y∈ids G.D
     ·simp [hy,TX,m']
     ·simp [hy,TX]
   rw [ef];exact this
  ·intro y hy
   rw [Vj,List.mem_append,List.mem_singleton]at hy;by_cases he:y=id
   ·subst he
    rw [(wH h.iC ko).1,oN];have e1:m'.q y=q:=if_pos rfl;have e2:m'.sz y=ov:=if_pos rfl;rw [e1,e2];refine⟨Am,nm,cp,E,e,ce,some sm,Me.top,Me.mg,Row.bo Me.bl,fun a ha=>.inr (.inl ⟨g5 a ha,?_⟩),fun a ha=>.inr (.inl ?_),.inr ⟨sm,rfl,.inr (.inl ⟨g4,g1s⟩),Me.ov⟩,.inr (.inl ⟨g3,g1q⟩)⟩
    ·have:=(g1.mA a ha).1
     have:=g6.2;omega
    ·subst ha
     obtain⟨q1,cur,q2⟩:=Row.bV g1.bl (k:=a.block) rfl;have:=bf q2;have:=g6.1;exact⟨by omega,this |>fun _=>bf q2⟩
   ·have hy:y∈ids G.D:=hy.elim (fun e=>e) (fun e=>absurd e he)
    rw [(wG h.iC hy).1];have e1:m'.q y=m.q y:=if_neg he;have e2:m'.sz y=m.sz y:=if_neg he;rw [e1,e2];exact(((h8.seen y hy).aK k9 (fun j e e'=>h.fo j e (.inl e'))).aK ZQ (fun j e=>n1 j (.inl e))).mono (fun j e=>.inl e)
  ·have ab6:dH G.D G.P (bS G l) ch:=by rw [oN];exact pq
   rw [<-oN]at gO;exact SZ.add h.Z h.iC ko ab6 gO
  ·intro j e e'
   rcases e' with e'|e'|e'
   ·rcases e with e|e|e
    ·rcases RV j e' with e'|e'
     ·exact h.fo j e (.inl e')
     ·have:=wW j (.inr e);omega
    ·rcases RV j e' with e'|e'
     ·have:=wW j (.inl (.inl e'));omega
     ·omega
    ·exact XV.off X9 j e' e
   ·rcases vL j e with e|e
    ·exact h.fo j e (.inr (.inl e'))
    ·have e':j=c:=e';omega
   ·rcases vL j e with e|e
    ·exact h.fo j e (.inr (.inr e'))
    ·have e':j=m.mb:=e';omega
  ·intro j e
   rcases RV j e with e'|e'
   ·exact h.so j e'
   ·exact⟨by omega,by show j≠m.mb;omega⟩
  ·rintro j (e|e)
   ·rcases e with e|e|e
    ·have:=MN j e;omega
    ·have e:j=c:=e;omega
    ·have e:j=m.mb:=e;omega
   ·rcases vL j e with e|e
    ·have:=wW j (.inr e);omega
    ·omega
 have Gz:∀j,bI A'=some j->xF.heap.size<=j:=fun j hj=>(Row.bV vq hj).1;have QY:∀j,bI B'=some j->xF.heap.size<=j:=fun j hj=>(Row.bV HH hj).1;have W6:∀j,xF.heap.size<=j->¬m'.own c j/\¬F' j:=fun j hj=>⟨fun e=>by
  rcases e with e|e|e
  ·have:=MN j e;omega
  ·have e:j=c:=e;omega
  ·have e:j=m.mb:=e;omega,fun e=>by
  rcases vL j e with e|e
  ·have:=wW j (.inr e);omega
  ·omega⟩
 exact hO ko pD F' m' A' nm c1 B' e c2 C' rfl ((TM.trans vQ (fun j hj e=>by omega))) (fun j e=>(Zx j e).imp (fun h=>h) (fun h=>by omega)) (fun j e=>(vL j e).imp (fun h=>h) (fun h=>by omega))
  (Row.base (Row.aK vq f3 (fun j hj e=>by have:=Gz j hj;omega)) (fun j hj=>by have:=Gz j hj;omega)) (Row.base (Row.aK HH f3 (fun j hj e=>by have:=QY j hj;omega)) (fun j hj=>by have:=QY j hj;omega)) UP
  (fun j hj=>W6 j (hj.elim (Gz j) (QY j)))
end
section
variable{k:Nat}{G:GS}
theorem yv:∀(m:List HT) (b:List Bool),(eJ m b).length<=m.length
 | [],_=>by simp [eJ]
 |_::_,[]=>by simp [eJ]
 |h::l,b::m=>by
  have:=yv l m;unfold eJ;split
  ·simp only [List.length_cons];omega
  ·simp only [List.length_cons];omega
end
section
variable{w w' nh:World}{B ob bx:Nat}{av av':Nat->Prop}{acc:List HT}
end
section
variable{w w' v:World}{F:Nat->Prop}{c k:Nat}{G:GS}{m:CM}{K:Value->World->Prop}
end
section
variable{w w':World}{F:Nat->Prop}{c k:Nat}{G:GS}{m:CM}{K:Value->World->Prop}
theorem sW(h:lG k G){a:HT}(ha:a∈ids G.D):(G.world a).length<=G.D.length:=by
 have:=dL (m:=ids G.D) (h.wd a ha).1 (fun b hb=>(((h.wd a ha).2.1 b hb).mem h.W).1)
 rwa [iM]at this
end
structure GN(w v:World)(id:HT)(X M Q:Option Nat)(pt:Bool):Prop where
 kp:Kept Nil w v
 x:∀x,X=some x->∃S,DP v S (fun _=>False) x [⟨id,[]⟩] [-1]/\∀j,S j->w.heap.size<=j/\j<v.heap.size/\M≠some j/\Q≠some j
 m:∀m,M=some m->w.heap.size<=m/\gh v m (fun y=>if pt=true/\y=id then Q.map fun q=>.pointer (some ⟨q,0,none⟩)else none)
 q:∀q,Q=some q->w.heap.size<=q/\v.heap[q]? =some (.cells zS eK (0,0))
 ne:∀m q,M=some m->Q=some q->m≠q
section
variable{w w' v u:World}{F:Nat->Prop}{c k:Nat}{G:GS}{m:CM}{K:Value->World->Prop}{id:HT}{X M Q:Option Nat}{pt:Bool}
theorem GN.JI(h:GN w v id X none Q false):GN w (v.alloc (.map #[] 0)) id X (some v.heap.size) Q false:=by
 have k1:Kept Nil v (v.alloc (.map #[] 0)):=(Kept.refl _ _).alloc _;have hs:=k1.size;have hm:gh (v.alloc (.map #[] 0)) v.heap.size (fun _=>none):=gh.new v;refine⟨h.kp.tt k1,fun x hx=>?_,fun m ns=>?_,fun q hq=>?_,fun m q ns hq=>?_⟩
 ·obtain⟨S,h1,h2⟩:=h.x x hx
  exact⟨S,h1.same k1,fun j e=>by have:=h2 j e;exact⟨this.1,by omega,fun e=>by cases e;omega,this.2.2.2⟩⟩
 ·cases ns
  exact⟨h.kp.size,by simpa using hm⟩
 ·exact⟨(h.q q hq).1,k1.heap (h.q q hq).2 (fun h=>h)⟩
 ·cases ns
  have:=bf (h.q q hq).2;omega
theorem GN.JH(h:GN w v id X M none false):GN w (v.alloc (.cells zS eK)) id X M (some v.heap.size) false:=by
 have k1:Kept Nil v (v.alloc (.cells zS eK)):=(Kept.refl _ _).alloc _;have hs:=k1.size;refine⟨h.kp.tt k1,fun x hx=>?_,fun m ns=>?_,fun q hq=>?_,fun m q ns hq=>?_⟩
 ·obtain⟨S,h1,h2⟩:=h.x x hx
  exact⟨S,h1.same k1,fun j e=>by have:=h2 j e;exact⟨this.1,by omega,this.2.2.1,fun e=>by cases e;omega⟩⟩
 ·have:=h.m m ns
  refine⟨this.1,?_⟩;have h2:=this.2.same k1;simpa using h2
 ·cases hq
  exact⟨h.kp.size,aM v _⟩
 ·cases hq
  have:=(h.m m ns).2.lt;omega
theorem GN.DJ(h:GN w v id none M Q pt){x:Nat}{S:Nat->Prop}(hX:DP u S (fun _=>False) x [⟨id,[]⟩] [-1])(hS:∀j,S j->v.heap.size<=j/\j<u.heap.size)(k1:Kept Nil v u):GN w u id (some x) M Q pt:=by
 have hs:=h.kp.size;refine⟨h.kp.tt k1,fun x' hx=>?_,fun m ns=>⟨(h.m m ns).1,(h.m m ns).2.same k1⟩,fun q hq=>⟨(h.q q hq).1,k1.heap (h.q q hq).2 (fun h=>h)⟩,h.ne⟩;cases hx;refine⟨S,hX,fun j e=>by
  have:=hS j e;exact⟨by omega,this.2,fun e=>by have:=(h.m j e).2.lt;omega,fun e=>by have:=bf (h.q j e).2;omega⟩⟩
theorem GN.put{mm q:Nat}(h:GN w v id X (some mm) (some q) false):∃u,(Instr.mapUpdate fG (.map (some mm)) (.agg id.1) (.pointer (some ⟨q,0,none⟩))).run prog v=.ok () u/\GN w u id X (some mm) (some q) true:=by
 obtain⟨h1,h2⟩:=h.m mm rfl;obtain⟨u,g1,g2,g3⟩:=h2.put HY id (.pointer (some ⟨q,0,none⟩));have hs:=g3.size;refine⟨u,g1,h.kp.trans g3 (fun j hj e=>by omega),fun x hx=>?_,fun m ns=>?_,fun q' hq=>?_,h.ne⟩
 ·obtain⟨S,q1,q2⟩:=h.x x hx
  exact⟨S,q1.aK g3 (fun j e e'=>(q2 j e).2.2.1 (by rw [e'])) (fun _ h=>h.elim),fun j e=>by have:=q2 j e;exact⟨this.1,by omega,this.2.2⟩⟩
 ·cases ns
  refine⟨h1,?_⟩;have ef:(fun y=>if true=true/\y=id then(some q).map (fun q=>Value.pointer (some ⟨q,0,none⟩))else none)=fun x=>if x=id then some (.pointer (some ⟨q,0,none⟩))else if false=true/\x=id then(some q).map (fun q=>Value.pointer (some ⟨q,0,none⟩))else none:=by
   funext y
   by_cases hy:y=id<;>simp [hy]
  rw [ef];exact g2
 ·have:=h.q q' hq
  exact⟨this.1,g3.heap this.2 (fun e=>h.ne mm q' rfl hq e.symm)⟩
theorem GN.fin{x mm q:Nat}(h:GN w v id (some x) (some mm) (some q) true)(k:Nat):∃m,CV (v.alloc (.cells #[.int .i64 (k:Int),.pointer (some ⟨x,0,none⟩),.map (some mm)] iJ)) (· =q) v.heap.size k (fh id) m/\m.x=x/\(∀j,m.own v.heap.size j->w.heap.size<=j)/\w.heap.size<=q:=by
 have k1:Kept Nil v (v.alloc (.cells #[.int .i64 (k:Int),.pointer (some ⟨x,0,none⟩),.map (some mm)] iJ)):=(Kept.refl _ _).alloc _;have ht:=aM v (.cells #[.int .i64 (k:Int),.pointer (some ⟨x,0,none⟩),.map (some mm)] iJ);generalize v.alloc (.cells #[.int .i64 (k:Int),.pointer (some ⟨x,0,none⟩),.map (some mm)] iJ)=u at k1 ht⊢;obtain⟨S,h1,h2⟩:=h.x x rfl;obtain⟨h3,h4⟩:=h.m mm rfl;obtain⟨h5,h6⟩:=h.q q rfl;have fX:=h.ne mm q rfl rfl;have lm:=h4.lt;have lq:=bf h6;have lt:=bf ht;have hs:=k1.size;have hw:=h.kp.size;refine⟨⟨x,mm,S,fun _=>False,fun _=>q,fun _ _=>none⟩,⟨ht,h1.same k1,?_,?_,mO k id,SZ.root id,fun _ h=>h.elim,?_,?_,?_,?_⟩,rfl,?_,h5⟩
 ·have:=h4.same k1
  have ef:(fun h=>if h∈ids (fh id).D then some (Value.pointer (some ⟨q,0,none⟩))else none)=fun y=>if true=true/\y=id then(some q).map (fun q=>Value.pointer (some ⟨q,0,none⟩))else none:=by
   funext y
   by_cases hy:y=id
   ·simp [hy,fh,ids]
   ·simp [hy,fh,ids]
  show gh u mm (fun h=>if h∈ids (fh id).D then some (Value.pointer (some ⟨q,0,none⟩))else none)
  rw [ef];exact this
 ·intro y hy
  have:y=id:=by simpa [fh,ids]using hy
  subst this;obtain⟨q1,_⟩:=(mO k y).root ⟨y,[]⟩ rfl
  replace q1:(fh y).kr y=_:=q1
  rw [q1];exact⟨none,0,0,none,0,0,none,k1.heap h6 (fun h=>h),HS.nil _ _,⟨rfl,fun i b hi=>by simp at hi⟩,fun a ha=>(by cases ha),fun a ha=>(by cases ha),.inl ⟨rfl,fun _=>rfl⟩,rfl⟩
 ·rintro j rfl e
  rcases e with e|e|e
  ·exact(h2 _ e).2.2.2 rfl
  ·have e:j=v.heap.size:=e;omega
  ·exact fX e.symm
 ·intro j e
  have:=h2 j e;exact⟨by omega,fun e=>this.2.2.1 (by rw [e])⟩
 ·show v.heap.size≠mm;omega
 ·rintro j (e|e)
  ·rcases e with e|e|e
   ·have:=h2 j e;omega
   ·have e:j=v.heap.size:=e;omega
   ·have e:j=mm:=e;omega
  ·have e:j=q:=e;omega
 ·intro j e
  rcases e with e|e|e
  ·have:=h2 j e;omega
  ·have e:j=v.heap.size:=e;omega
  ·have e:j=mm:=e;omega
theorem jg(id:HT){k:Nat}(hk:k<=100)(hK:∀w' c q m,CV w' (· =q) c k (fh id) m->(∀j,m.own c j->w.heap.size<=j)->w.heap.size<=q->Kept Nil w w'->K (.tuple #[.pointer (some ⟨c,0,none⟩),.int .i64 0]) w'):
 bG prog jg.id #[.int .i64 (k:Int),.agg id.1] w K:=by
 refine jg.of ?_;unfold jg.W;intro w1;have k1:Kept Nil w w1:=(Kept.refl _ _).alloc _;have Bi:w1.heap[w.heap.size]? =some (.cells id.1 al (0,0)):=aM w _;clear_value w1;refine Split.no (decide_eq_false (by omega)) (Split.no (decide_eq_false (by omega)) ?_);intro w2;have k2:Kept Nil w1 w2:=(Kept.refl _ _).drew;clear_value w2;have nH:=k2.heap Bi (fun h=>h);have mu:=k1.tt k2;have s02:=mu.size;have N0:GN w2 w2 id none none none false:=⟨Kept.refl _ _,fun _ h=>(by cases h),fun _ h=>(by cases h),fun _ h=>(by cases h),fun _ _ h=>(by cases h)⟩;have bx:∀ {v:World},Kept Nil w2 v->∃cs:Array Value,(.agg id.1:Value)=.agg cs/\cs.size=32/\Cells v ⟨w.heap.size,0,none⟩ cs:=fun kv=>⟨id.1,rfl,id.2.1,Cells.bV (kv.heap nH (fun h=>h))⟩;have fin:∀ {v:World} {x mm q:Nat},GN w2 v id (some x) (some mm) (some q) true->let p:=v.alloc (.cells #[.int .i64 (k:Int),.pointer (some ⟨x,0,none⟩),.map (some mm)] iJ);K (.tuple #[.pointer (some (aV v.heap.size)),.int .i64 0]) p:=fun {v x mm q} N=>by
  obtain⟨m,h1,_,h2,h3⟩:=N.fin k;exact hK _ _ q m h1 (fun j e=>by have:=h2 j e;omega) (by omega) ((mu.tt N.kp).alloc _)
 refine⟨id.1,⟨id.2.1,Cells.bV nH⟩,id.1,⟨id.2.1,Cells.bV nH⟩,?_,?_,?_⟩
 ·refine jr id fun v x hX kv=>⟨_,rfl,?_⟩
  have N1:=N0.DJ hX (fun j e=>e) kv;refine⟨bx N1.kp,⟨?_,?_⟩⟩
  ·have N2:=N1.JI
   have N3:=N2.JH;obtain⟨u,hu,N4⟩:=N3.put;exact⟨bx N2.kp,bx N3.kp,u,hu,fin N4⟩
  ·have N2:=N1.JH
   have N3:=N2.JI;obtain⟨u,hu,N4⟩:=N3.put;exact⟨bx N2.kp,bx N3.kp,u,hu,fin N4⟩
 ·have N1:=N0.JI
  refine⟨bx N1.kp,bx N1.kp,?_,?_⟩
  ·refine jr id fun v x hX kv=>⟨_,rfl,?_⟩
   have N2:=N1.DJ hX (fun j e=>e) kv;have N3:=N2.JH;obtain⟨u,hu,N4⟩:=N3.put;exact⟨bx N2.kp,bx N3.kp,u,hu,fin N4⟩
  ·have N2:=N1.JH
   refine⟨bx N2.kp,bx N2.kp,?_,?_⟩
   ·refine jr id fun v x hX kv=>⟨_,rfl,?_⟩
    have N3:=N2.DJ hX (fun j e=>e) kv;obtain⟨u,hu,N4⟩:=N3.put;exact⟨bx N3.kp,u,hu,fin N4⟩
   ·obtain⟨u,hu,N3⟩:=N2.put
    refine⟨u,hu,bx N3.kp,?_⟩;refine jr id fun v x hX kv=>⟨_,rfl,?_⟩;exact fin (N3.DJ hX (fun j e=>e) kv)
 ·have N1:=N0.JH
  refine⟨bx N1.kp,bx N1.kp,?_,?_⟩
  ·refine jr id fun v x hX kv=>⟨_,rfl,?_⟩
   have N2:=N1.DJ hX (fun j e=>e) kv;have N3:=N2.JI;obtain⟨u,hu,N4⟩:=N3.put;exact⟨bx N2.kp,bx N3.kp,u,hu,fin N4⟩
  ·have N2:=N1.JI
   refine⟨bx N2.kp,bx N2.kp,?_,?_⟩
   ·refine jr id fun v x hX kv=>⟨_,rfl,?_⟩
    have N3:=N2.DJ hX (fun j e=>e) kv;obtain⟨u,hu,N4⟩:=N3.put;exact⟨bx N3.kp,u,hu,fin N4⟩
   ·obtain⟨u,hu,N3⟩:=N2.put
    refine⟨u,hu,bx N3.kp,?_⟩;refine jr id fun v x hX kv=>⟨_,rfl,?_⟩;exact fin (N3.DJ hX (fun j e=>e) kv)
end
end Go.Proofs.YtfleamccglihoaaGreatDoor
