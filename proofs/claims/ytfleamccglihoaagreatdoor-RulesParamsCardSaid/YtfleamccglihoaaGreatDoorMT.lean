import Derived.Test.YtfleamccglihoaaGreatDoorMS
import Derived.Test.YtfleamccglihoaaGreatDoorMQ
import Derived.Test.YtfleamccglihoaaGreatDoorMJ
import Derived.Test.YtfleamccglihoaaGreatDoorMP
open Go.IntKind (i64 u64)
set_option linter.unusedVariables false
namespace Go.Proofs.YtfleamccglihoaaGreatDoor
open Go.Proofs.Tryz
open Go Go.bE Go.RowKit
theorem wP(D:DG)(s:HT){l:List HT}(hl:∀x∈l,x∈ids D):(ru D s l).length<=D.length:=by
 have:=eo (m:=ids D) (oS D s l) (fun x hx=>by
  rcases(wR.1 hx).1 with h|h
  ·exact h.1
  ·exact hl x h)
 rwa [jG]at this
theorem uF{D:DG}{l:List HT}(h:kl D l=0):l≠ []/\∀x∈l,x∈ids D:=by
 unfold kl at h;split at h
 ·cases h
 ·rename_i h0
  split at h
  ·cases h
  ·rename_i h1
   exact⟨h0,fun x hx=>Classical.byContradiction fun e=>h1 ⟨x,hx,e⟩⟩
section
variable{w w':World}{F:Nat->Prop}{c k:Nat}{G:GS}{m:CM}{K:Value->World->Prop}{A:Option Addr}{n cx:Nat}{l:List HT}{s:HT}
theorem la.iZ{q B sm bb cp e ce:Nat}{x:rl}{ov:HT->Option Nat}{E:Option Addr}(h:la w B q sm bb x ov A n cp E e ce):Cells w ((⟨q,0,none⟩:Addr).add 0) (dT x A n cp E e ce):=by
 intro j u hj;rw [add_zero,bu,aD h.top,Array.getElem?_append_left (by rw [bX];have:=(Array.getElem?_eq_some_iff.1 hj).1;rw [bX]at this;omega)];rw [Nat.zero_add];exact hj
theorem zl(h:CV w F c k G m)(hT:p6 w)(hD:G.D.length<=49)(rO:k<=1000)(y5:HS w A n l)(hn:n<=5000)
 (h0:kl G.D (s::l)≠0->∀w',Kept Nil w w'->K (.tuple #[.agg (dT ⟨fI,0,[],[]⟩ none 0 0 none 0 0),.int .i64 (kl G.D (s::l))]) w')
 (h1:kl G.D (s::l)=0->∀w' A n cp E e ce,HS w' A n (fO k G s l).merge->Bo w' E e (fO k G s l).iJ->Kept Nil w w'->(∀a,A=some a->w.heap.size<=a.block)->K (.tuple #[.agg (dT (fO k G s l) A n cp E e ce),.int .i64 0]) w'):
 bm prog dd.id #[.pointer (some ⟨c,0,none⟩),.agg s.1,.slice A n cx] w K:=by
 refine dd.of ?_;unfold dd.W;intro w1 w2;have k1:Kept Nil w w1:=(Kept.refl _ _).alloc _;have CU:w1.heap[w.heap.size]? =some (.cells s.1 ax (0,0)):=aR w _;have k2:Kept Nil w1 w2:=(Kept.refl _ _).alloc _;have lg:w2.heap[w1.heap.size]? =some (.cells zC cB (0,0)):=aR w1 _;clear_value w2;have yT:=k2.heap CU (fun h=>h);have oD:=k1.tt k2;have s1:=k1.size;have l1:=bf CU;have l2:=bf lg;clear_value w1;refine⟨s.1,⟨s.2.1,Cells.bS yT⟩,s.2.1,?_⟩;intro w3;have k3:Kept Nil w2 w3:=(Kept.refl _ _).alloc _;have Oq:HS w3 (some ⟨w2.heap.size,0,none⟩) 1 [s]:=ln w2 s;have rp:cg w3 w.heap.size (some ⟨w2.heap.size,0,none⟩) 1 1 [s]:=by
  have e:cD [s]=(s.1.toList++ []).toArray.toList:=by simp [cD]
  show Row _ _ _ _ _ _ _ (cD [s])
  rw [e];exact Row.made (aR w2 _) (by have:=oD.size;omega) (by simp [s.2.1]) (by unfold maxLen;omega)
 clear_value w3;have km:=oD.tt k3;have s2:=oD.size;have s3:=km.size;obtain⟨A2,c2,w4,Ut,wA,g4,Sg⟩:=gz aW rp (cx:=cx) (y5.same km) (by omega) s3;have xX:Kept (fun j=>w.heap.size<=j) w3 w4:=(Kept.refl _ _).grown g4 fun j hj _=>(Row.bS rp hj).1;have lj:Kept Nil w w4:=Kept.pR km g4 (fun j hj=>(Row.bS rp hj).1);have rv:Kept Nil w2 w4:=Kept.pR k3 g4 (fun j hj=>by cases hj;exact Nat.le_refl _);have RR:=rv.heap yT (fun h=>h);have Us:=rv.heap lg (fun h=>h);refine⟨A2,_,c2,w4,Ut,?_⟩;refine uX (h.same lj) (show HS w4 A2 (1+n) (s::l)from wA.hs) (by omega) fun w5 k5=>⟨_,rfl,?_⟩;have pf:=lj.tt k5;have YO:=k5.heap RR (fun h=>h);have CW:=k5.heap Us (fun h=>h);have zs:(zC:Array Value)=dT ⟨fI,0,[],[]⟩ none 0 0 none 0 0:=rfl;by_cases hm:kl G.D (s::l)=0
 ·refine Split.no (by simp [hm]) ⟨s.1,⟨s.2.1,Cells.bS YO⟩,?_⟩
  obtain⟨_,gM⟩:=uF hm;have h5:=h.same pf;have Pw:∀x∈l,x∈ids G.D:=fun x hx=>gM x (List.mem_cons_of_mem _ hx);obtain⟨ch,mR⟩:=cN.ex h.iP.ml s;refine sT z6 (Nat.le_trans (wP G.D s Pw) hD) h5 (hT.same pf) (by omega) rO (gM s List.mem_cons_self) mR Pw (y5.same pf) hn fun v q B sm bb ov A n cp E e ce g1 _ g3 _ g5 g6 g7=>?_;refine⟨some ⟨q,0,none⟩,rfl,Is.mk rfl ?_⟩;have Iz:=g7.heap CW (fun h=>h);obtain⟨t1,t2,t3⟩:=lu Iz (cs:=dT (fO k G s l) A n cp E e ce) (by rw [bX];rfl);refine⟨_,⟨bX ..,g1.iZ⟩,⟨bX ..,kW _ _ _ _ _ _ _,fun j hj=>t1 j (by rw [bX];exact hj)⟩,?_⟩;intro w8
  replace t2:w8.heap[w1.heap.size]? =_:=t2
  replace t3:Kept (· =w1.heap.size) v w8:=t3
  clear_value w8;refine⟨_,⟨bX ..,Cells.bS t2⟩,?_⟩;have s5:=pf.size;have cK:w1.heap.size<w5.heap.size:=bf CW;refine h1 hm w8 A n cp E e ce (g1.mg.aK t3 (fun a ha e=>?_)) ((Row.bo g1.bl).aK t3 (fun a ha e=>?_)) ((pf.tt g7).trans t3 (fun j hj e=>by omega)) (fun a ha=>by have:=g5 a ha;omega)
  ·have:=g5 a ha
   omega
  ·subst ha
   have:=(Row.bS g1.bl (k:=a.block) rfl).1;have:=g6.1;omega
 ·refine Split.yes (by simpa using hm) ?_
  obtain⟨t1,t2,t3⟩:=lu CW (cs:=zC) rfl;refine⟨⟨rfl,by rw [zs];exact kW _ _ _ _ _ _ _,fun j hj=>t1 j hj⟩,?_⟩;exact⟨_,⟨rfl,Cells.bS t2⟩,h0 hm _ (pf.trans t3 (fun j hj e=>by omega))⟩
end
theorem XV.off{w:World}{D:DG}{P:List Int}{m:XM}{x:Nat}{F:Nat->Prop}(h:XV w F x D P m):∀k,m.jc x k->¬F k:=fun k e=>by
 obtain⟨bl,c,mb,M,G⟩:=h.G;rcases e with e|e|e|e
 ·exact G.C8 k e
 ·exact fun f=>(h.fd k f).1 e
 ·exact fun f=>(h.fd k f).2 e
 ·exact(h.od k e).2.2.2
section
variable{w w':World}{F F':Nat->Prop}{c k q:Nat}{G:GS}{m:CM}{K:Value->World->Prop}{A B:Option Addr}{n cx cp e ce:Nat}{l:List HT}{x:rl}{sz:HT->Option Nat}{sm:Option Nat}
theorem Seen.mono(h:Seen w F q x sz)(hF:∀j,F j->F' j):Seen w F' q x sz:=by
 obtain⟨A,n,cp,B,e,ce,sm,h⟩:=h;refine⟨A,n,cp,B,e,ce,sm,h.top,h.mg,h.bl,fun a ha=>hF _ (h.fA a ha),fun a ha=>hF _ (h.fB a ha),?_,hF _ h.fq⟩;rcases h.sz with g|⟨s,g1,g2,g3⟩
 ·exact .inl g
 ·exact .inr ⟨s,g1,hF _ g2,g3⟩
abbrev Q8:Array Value:=dT ⟨fI,0,[],[]⟩ none 0 0 none 0 0
theorem zL(D:DG)(h:HT)(l:List HT):eA D h l=if h∈ids D then 7 else if l.length=0 then 9 else if(dh l).length≠l.length then 9 else kl D l:=by
 unfold eA kl;by_cases h1:h∈ids D
 ·rw [if_pos h1,if_pos h1]
 ·rw [if_neg h1,if_neg h1]
  by_cases h2:l.length=0
  ·rw [if_pos h2,if_pos (.inl (by have:=nY l;omega))]
  ·have hl:l≠ []:=fun e=>h2 (by rw [e];rfl)
   rw [if_neg h2];by_cases h3:(dh l).length≠l.length
   ·rw [if_pos h3,if_pos (.inr h3)]
   ·have a:¬((dh l).length=0\/(dh l).length≠l.length):=by omega
    have hc:(∃p∈dh l,p∉ids D)↔∃p∈l,p∉ids D:=⟨fun⟨p,hp,hq⟩=>⟨p,dJ.1 hp,hq⟩,fun⟨p,hp,hq⟩=>⟨p,dJ.2 hp,hq⟩⟩;rw [if_neg h3,if_neg a,if_neg hl];by_cases h4:∃p∈l,p∉ids D
    ·rw [if_pos h4,if_pos (hc.2 h4)]
    ·rw [if_neg h4,if_neg (fun e=>h4 (hc.1 e))]
set_option maxHeartbeats 2000000 in
theorem Cs(h:CV w F c k G m)(hT:p6 w)(Lq:¬m.SX (Tryz.jh.g 1))(hD:G.D.length<=49)(rO:k<=1000)(y5:HS w A n l)(hn:n<=5000)(id:HT)
 (hE:eA G.D id l≠0->∀w',Kept Nil w w'->K (.tuple #[.agg Q8,.int .i64 (eA G.D id l)]) w')
 (hO:eA G.D id l=0->∀w' F' m' A n c1 B e c2,CV w' F' c k (fF k G id l) m'->m'.x=m.x->Kept (m.own c) w w'->(∀j,m'.own c j->m.own c j\/w.heap.size<=j)->(∀j,F' j->F j\/w.heap.size<=j)->
   cg w' w.heap.size A n c1 (fO k G (bK G l) l).merge->Row w' w.heap.size iW 1 B e c2 (vc (fO k G (bK G l) l).iJ)->(∀j,bp A=some j->bp B≠some j)->(∀j,bp A=some j\/bp B=some j->¬m'.own c j/\¬F' j)->
   K (.tuple #[.agg (dT (fO k G (bK G l) l) A n c1 B e c2),.int .i64 0]) w'):
 bm prog cZ.id #[.pointer (some ⟨c,0,none⟩),.agg id.1,.slice A n cx] w K:=by
 have hlen:=y5.len;refine cZ.of ?_;unfold cZ.W;intro w1 w2;have k1:Kept Nil w w1:=(Kept.refl _ _).alloc _;have CU:w1.heap[w.heap.size]? =some (.cells id.1 ax (0,0)):=aR w _;have k2:Kept Nil w1 w2:=(Kept.refl _ _).alloc _;have lg:w2.heap[w1.heap.size]? =some (.cells zC cB (0,0)):=aR w1 _;clear_value w2;have yT:=k2.heap CU (fun h=>h);have oD:=k1.tt k2;have s1:=k1.size;have l1:=bf CU;have l2:=bf lg;clear_value w1;have zs:(zC:Array Value)=Q8:=rfl;have bad:∀ {u:World} {r:Int},Kept Nil w2 u->eA G.D id l=r->r≠0->(zC.size=35/\(∀n∈zC.toList,n.oneCell'=true)/\∀o,o<35->Wr u ((aU w1.heap.size).add o))/\
  let p:=setCells u (aU w1.heap.size) zC.toList 0;∃q:Array Value,(q.size=35/\Cells p (aU w1.heap.size) q)/\K (.tuple #[.agg q,.int .i64 r]) p:=fun {u r} ku hr h0=>by
  obtain⟨t1,t2,t3⟩:=lu (ku.heap lg (fun h=>h)) (cs:=zC) rfl;refine⟨⟨rfl,by rw [zs];exact kW _ _ _ _ _ _ _,fun j hj=>t1 j hj⟩,?_⟩;refine⟨_,⟨rfl,Cells.bS t2⟩,?_⟩;have:=hE (by rw [hr];exact h0) _ ((oD.tt ku).trans t3 (fun j hj e=>by omega));rw [hr]at this;exact this
 have iO:=zL G.D id l;refine qV (h.same oD) ⟨true,rfl,Split.no rfl ?_⟩;intro w3;have k3:Kept Nil w2 w3:=(Kept.refl _ _).drew;clear_value w3;have km:=oD.tt k3;have h3:=h.same km;refine⟨_,h3.c2,id.1,⟨id.2.1,Cells.bS (k3.heap yT (fun h=>h))⟩,_,h3.look id,?_⟩;by_cases hid:id∈ids G.D
 ·rw [if_pos hid]at iO
  exact Split.yes (by rw [if_pos hid];rfl) (bad k3 iO (by decide))
 rw [if_neg hid]at iO;refine Split.no (by rw [if_neg hid];rfl) ?_;by_cases Az:n=0
 ·rw [if_pos (by omega)]at iO
  exact Split.yes (by subst Az;rfl) (bad k3 iO (by decide))
 rw [if_neg (by omega)]at iO;refine Split.no (by simpa using (by omega:¬(n:Int)=0)) ?_;refine fX (y5.same km) (by omega) fun A4 c4 w4 wA k4=>⟨A4,_,c4,rfl,?_⟩;have rv:=k3.tt k4;have lj:=km.tt k4;by_cases RO:(dh l).length≠l.length
 ·rw [if_pos RO]at iO
  exact Split.yes (by simp only [bne_iff_ne,ne_eq];omega) (bad rv iO (by decide))
 rw [if_neg RO]at iO;refine Split.no (by simp only [bne_eq_false_iff_eq];omega) ?_;refine pT (h.same lj) (y5.same lj) (by omega) fun w5 k5=>⟨_,_,rfl,?_⟩;have k25:=rv.tt k5;have pf:=lj.tt k5;generalize pM:(if kl G.D l=0 then bK G l else fI)=s;intro w6;have k6:Kept Nil w5 w6:=(Kept.refl _ _).alloc _;have pQ:w6.heap[w5.heap.size]? =some (.cells fI.1 ax (0,0)):=aR w5 _;clear_value w6;obtain⟨t1,t2,t3⟩:=js s pQ rfl;refine⟨t1,?_⟩;intro w7
 replace t2:w7.heap[w5.heap.size]? =some (.cells s.1 ax (0,0)):=t2
 replace t3:Kept (· =w5.heap.size) w6 w7:=t3
 clear_value w7;have GL:Kept Nil w5 w7:=k6.trans t3 (fun j hj e=>by omega);have TJ:=k25.tt GL;have uR:=pf.tt GL;by_cases hm:kl G.D l≠0
 ·exact Split.yes (by simpa using hm) (bad TJ iO hm)
 have hm:kl G.D l=0:=by omega
 rw [if_pos hm]at pM;rw [hm]at iO⊢;refine Split.no rfl ⟨s.1,⟨s.2.1,Cells.bS t2⟩,?_⟩;obtain⟨fJ,gM⟩:=uF hm;have FJ:s∈l:=by rw [<-pM];exact jI fJ
 obtain⟨ch,mR⟩:=cN.ex h.iP.ml s;have h7:=h.same uR;refine sT z6 (Nat.le_trans (wP G.D s gM) hD) h7 (hT.same uR) (by omega) rO (gM s FJ) mR gM (y5.same uR) hn fun v q B sm bb ov Am nm cp E e ce g1 gO g3 g4 g5 g6 g7=>⟨some ⟨q,0,none⟩,rfl,?_⟩;have vq:=uR.tt g7;have D5:=TJ.tt g7;have k5v:=GL.tt g7;have s07:=uR.size;have s0v:=vq.size;intro w8;have k8:Kept Nil v w8:=(Kept.refl _ _).drew;clear_value w8;have Ee:=vq.tt k8;have h8:=h.same Ee;have g18:=g1.same k8;have s8:=k8.size;refine⟨_,h8.c1,id.1,⟨id.2.1,Cells.bS ((D5.tt k8).heap yT (fun h=>h))⟩,s.1,⟨s.2.1,Cells.bS (((g7.tt k8)).heap t2 (fun h=>h))⟩,?_⟩;refine yz h8.X (by omega) (hT.same Ee) Lq (y5.same Ee) hn id s fun u S' FX' ZK k9 hS9 MG=>⟨_,rfl,?_⟩;have eX:rh G.D id s l=(fF k G id l).D/\rf G.D G.P id s l=(fF k G id l).P:=by rw [<-pM];exact⟨LN.symm,LO.symm⟩
 rw [eX.1,eX.2]at ZK;obtain⟨mx,X9,Y4⟩:=ZK;have tQ:∀j,m.own c j\/F j->j<w.heap.size:=h.low;have g1q:q<v.heap.size:=bf g1.top;have g1s:sm<v.heap.size:=g1.ov.lt;have sW:∀j,w.heap.size<=j->¬m.SX j:=fun j hj e=>by have:=tQ j (.inl (.inl e));omega
 have g19:=g18.aK k9 (sW q (by omega)) (sW sm (by omega)) (fun j hj _=>sW j (by have:=g6.1;omega)) (fun a ha=>sW _ (by have:=g5 a ha;omega));have s9:=k9.size;have Mh:Kept m.SX w2 u:=((D5.tt k8).mono fun _ _ h=>h.elim).tt k9;have XZ:¬m.SX c/\¬m.SX m.mb:=⟨fun e=>(h.so _ e).1 rfl,fun e=>(h.so _ e).2 rfl⟩;have M4:u.heap[c]? =_:=k9.heap h8.top XZ.1;have W8:=h8.all.aK k9 XZ.2;intro w10;have tV:Kept Nil u w10:=(Kept.refl _ _).drew;clear_value w10;have M6:=tV.heap M4 (fun h=>h);have G4:=(Mh.trans tV (fun _ _ h=>h.elim)).heap yT (fun e=>sW _ (Nat.le_refl _) e);have Rg:=W8.aK tV (fun h=>h);obtain⟨Bk,UF,Rf,Oc⟩:=Rg.put DP id (.pointer (some ⟨q,0,none⟩));refine⟨some m.mb,by rw [bu,aD M6];rfl,id.1,⟨id.2.1,Cells.bS G4⟩,Bk,UF,Is.mk rfl ?_⟩;have s10:=tV.size;have s11:=Oc.size;have lmb:m.mb<w.heap.size:=tQ _ (.inl (.inr (.inr rfl)));have lc:c<w.heap.size:=tQ _ (.inl (.inr (.inl rfl)));have GF:Kept (· =m.mb) u Bk:=(tV.mono fun _ _ h=>h.elim).tt Oc;have HF:=g19.aK GF (by omega) (by omega) (fun j hj _ e=>by have:=g6.1;omega) (fun a ha e=>by have:=g5 a ha;omega);have W4:=Row.bo HF.bl;have Od:Kept (m.own c) w Bk:=((Ee.mono (S':=m.own c) fun _ _ h=>h.elim).trans k9 (fun _ _ h=>.inl h)).trans GF (fun _ _ h=>.inr (.inr h));refine⟨_,⟨bX ..,HF.iZ⟩,?_⟩;have FV:=g1.mg.len;have YZ:nm<=49:=by
  have FG:(fO k G s l).merge=ct G s l:=rfl;have vV:(ct G s l).length<=49:=by
   have:=eo (m:=ids G.D) (lW G s l).nodup (fun y hy=>by
    rcases(iV.1 hy).1 with h|h
    ·exact h.1
    ·exact gM y h)
   rw [jG]at this;omega
  rw [FG]at FV;omega
 have R7:e<=49:=by
  have h1:=(rT k G s l).1;have h2:=(Row.bo g1.bl).len;have FG:(fO k G s l).merge=ct G s l:=rfl;have T5:(fO k G s l).iJ=(gK k G s l).bl:=rfl;rw [T5]at h2;rw [FG]at FV;omega
 refine rE (fO k G s l) HF.mg W4 (by omega) (by omega) fun A' c1 B' c2 pg r8 Dz Pa FC=>⟨_,rfl,?_⟩;have NX:Kept (m.own c) w2 pg:=((Mh.mono (S':=m.own c) fun _ _ h=>.inl h).trans GF (fun _ _ h=>.inr (.inr h))).trans FC (fun _ _ h=>h.elim);have fr2:∀j,w.heap.size<=j->¬m.own c j:=fun j hj e=>by have:=tQ j (.inl e);omega
 have Ux:=NX.heap lg (fr2 _ (by omega));obtain⟨f1,f2,f3⟩:=lu Ux (cs:=dT (fO k G s l) A' nm c1 B' e c2) (by rw [bX];rfl);refine⟨⟨bX ..,kW _ _ _ _ _ _ _,fun j hj=>f1 j (by rw [bX];exact hj)⟩,?_⟩;intro p5
 replace f2:p5.heap[w1.heap.size]? =_:=f2
 replace f3:Kept (· =w1.heap.size) pg p5:=f3
 clear_value p5;refine⟨_,⟨bX ..,Cells.bS f2⟩,?_⟩;have sG:Kept (· =w1.heap.size) Bk p5:=(FC.mono fun _ _ h=>h.elim).tt f3;have s13:=sG.size;have lw1:w1.heap.size<w7.heap.size:=Nat.lt_of_lt_of_le l2 TJ.size;rw [pM]at hO;have Ej:=lV (k:=k) (G:=G) (h:=id) (ps:=l) iO;have PD:ids (fF k G id l).D=ids G.D++ [id]:=by rw [Ej];simp [ids]
 let F':Nat->Prop:=fun j=>F j\/(w7.heap.size<=j/\j<v.heap.size)\/FX' j
 let m':CM:=⟨m.x,m.mb,mx.jc m.x,FX',fun y=>if y=id then q else m.q y,fun y=>if y=id then ov else m.sz y⟩
 have Mx:∀j,mx.jc m.x j->m.SX j\/w8.heap.size<=j:=fun j e=>hS9 j (Y4 j e);have Tf:∀j,m'.own c j->m.own c j\/w8.heap.size<=j:=fun j e=>by
  rcases e with e|e|e
  ·exact(Mx j e).imp (fun e=>.inl e) (fun e=>e)
  ·exact .inl (.inr (.inl e))
  ·exact .inl (.inr (.inr e))
 have sA:∀j,F' j->F j\/(w7.heap.size<=j/\j<u.heap.size):=fun j e=>by
  rcases e with e|e|e
  ·exact .inl e
  ·exact .inr ⟨e.1,by omega⟩
  ·rcases MG j e with e'|e'
   ·exact .inl (h.fx j e')
   ·exact .inr ⟨by omega,X9.low j (.inr e)⟩
 have Ia:∀j,mx.jc m.x j->j<u.heap.size:=fun j e=>X9.low j (.inl e);have Tw:Kept (fun j=>j=m.mb\/j=w1.heap.size) u p5:=(GF.mono fun _ _ h=>.inl h).trans sG (fun _ _ h=>.inr h);have n1:∀j,F' j->¬(j=m.mb\/j=w1.heap.size):=fun j e e'=>by
  rcases e' with e'|e'
  ·rcases sA j e with e|e
   ·exact h.fo j e (.inr (.inr e'))
   ·omega
  ·rcases sA j e with e|e
   ·have:=tQ j (.inr e);omega
   ·omega
 have n2:∀j,mx.jc m.x j->¬(j=m.mb\/j=w1.heap.size):=fun j e e'=>by
  rcases e' with e'|e'
  ·rcases Mx j e with e|e
   ·exact(h.so j e).2 e'
   ·omega
  ·rcases Mx j e with e|e
   ·have:=tQ j (.inl (.inl e));omega
   ·have:=k8.size;have:=g7.size;omega
 have HE:la p5 B q sm bb (fO k G s l) ov Am nm cp E e ce:=HF.aK sG (by omega) (by omega) (fun j hj _ e=>by have:=g6.1;omega) (fun a ha e=>by have:=g5 a ha;omega);have C':CV p5 F' c k (fF k G id l) m':=by
  refine⟨?_,?_,?_,?_,h.iP.add id l,?_,fun j e=>.inr (.inr e),?_,?_,h.ne,?_⟩
  ·exact Tw.heap M4 (fun e=>by rcases e with e|e;exact h.ne e;omega)
  ·exact⟨mx,X9.aK Tw n2 (fun j e=>n1 j (.inr (.inr e))),fun _ e=>e⟩
  ·have:=Rf.aK sG (by show ¬m.mb=_;omega)
   have ef:(fun h=>if h∈ids (fF k G id l).D then some (Value.pointer (some ⟨m'.q h,0,none⟩))else none)=fun x=>if x=id then some (Value.pointer (some ⟨q,0,none⟩))else if x∈ids G.D then some (.pointer (some ⟨m.q x,0,none⟩))else none:=by
    funext y
    rw [PD];by_cases hy:y=id
    ·simp [hy,m']
    ·by_cases Oo:y∈ids G.D
     ·simp [hy,Oo,m']
     ·simp [hy,Oo]
   rw [ef];exact this
  ·intro y hy
   rw [PD,List.mem_append,List.mem_singleton]at hy;by_cases he:y=id
   ·subst he
    rw [(tF h.iP iO).1,pM];have e1:m'.q y=q:=if_pos rfl;have e2:m'.sz y=ov:=if_pos rfl;rw [e1,e2];refine⟨Am,nm,cp,E,e,ce,some sm,HE.top,HE.mg,Row.bo HE.bl,fun a ha=>.inr (.inl ⟨g5 a ha,?_⟩),fun a ha=>.inr (.inl ?_),.inr ⟨sm,rfl,.inr (.inl ⟨g4,g1s⟩),HE.ov⟩,.inr (.inl ⟨g3,g1q⟩)⟩
    ·have:=(g1.mA a ha).1
     have:=g6.2;omega
    ·subst ha
     obtain⟨q1,cur,q2⟩:=Row.bS g1.bl (k:=a.block) rfl;have:=bf q2;have:=g6.1;exact⟨by omega,this |>fun _=>bf q2⟩
   ·have hy:y∈ids G.D:=hy.elim (fun e=>e) (fun e=>absurd e he)
    rw [(tD h.iP hy).1];have e1:m'.q y=m.q y:=if_neg he;have e2:m'.sz y=m.sz y:=if_neg he;rw [e1,e2];exact(((h8.seen y hy).aK k9 (fun j e e'=>h.fo j e (.inl e'))).aK Tw (fun j e=>n1 j (.inl e))).mono (fun j e=>.inl e)
  ·have VM:cN G.D G.P (bK G l) ch:=by rw [pM];exact mR
   rw [<-pM]at gO;exact SZ.add h.Z h.iP iO VM gO
  ·intro j e e'
   rcases e' with e'|e'|e'
   ·rcases e with e|e|e
    ·rcases Mx j e' with e'|e'
     ·exact h.fo j e (.inl e')
     ·have:=tQ j (.inr e);omega
    ·rcases Mx j e' with e'|e'
     ·have:=tQ j (.inl (.inl e'));omega
     ·omega
    ·exact XV.off X9 j e' e
   ·rcases sA j e with e|e
    ·exact h.fo j e (.inr (.inl e'))
    ·have e':j=c:=e';omega
   ·rcases sA j e with e|e
    ·exact h.fo j e (.inr (.inr e'))
    ·have e':j=m.mb:=e';omega
  ·intro j e
   rcases Mx j e with e'|e'
   ·exact h.so j e'
   ·exact⟨by omega,by show j≠m.mb;omega⟩
  ·rintro j (e|e)
   ·rcases e with e|e|e
    ·have:=Ia j e;omega
    ·have e:j=c:=e;omega
    ·have e:j=m.mb:=e;omega
   ·rcases sA j e with e|e
    ·have:=tQ j (.inr e);omega
    ·omega
 have Co:∀j,bp A'=some j->Bk.heap.size<=j:=fun j hj=>(Row.bS r8 hj).1;have Lv:∀j,bp B'=some j->Bk.heap.size<=j:=fun j hj=>(Row.bS Dz hj).1;have Q3:∀j,Bk.heap.size<=j->¬m'.own c j/\¬F' j:=fun j hj=>⟨fun e=>by
  rcases e with e|e|e
  ·have:=Ia j e;omega
  ·have e:j=c:=e;omega
  ·have e:j=m.mb:=e;omega,fun e=>by
  rcases sA j e with e|e
  ·have:=tQ j (.inr e);omega
  ·omega⟩
 exact hO iO p5 F' m' A' nm c1 B' e c2 C' rfl ((Od.trans sG (fun j hj e=>by omega))) (fun j e=>(Tf j e).imp (fun h=>h) (fun h=>by omega)) (fun j e=>(sA j e).imp (fun h=>h) (fun h=>by omega))
  (Row.base (Row.aK r8 f3 (fun j hj e=>by have:=Co j hj;omega)) (fun j hj=>by have:=Co j hj;omega)) (Row.base (Row.aK Dz f3 (fun j hj e=>by have:=Lv j hj;omega)) (fun j hj=>by have:=Lv j hj;omega)) Pa
  (fun j hj=>Q3 j (hj.elim (Co j) (Lv j)))
end
section
variable{k:Nat}{G:GS}
end
section
variable{w w' lr:World}{B ob bx:Nat}{av av':Nat->Prop}{acc:List HT}
end
section
variable{w w' v:World}{F:Nat->Prop}{c k:Nat}{G:GS}{m:CM}{K:Value->World->Prop}
end
section
variable{w w':World}{F:Nat->Prop}{c k:Nat}{G:GS}{m:CM}{K:Value->World->Prop}
end
structure GN(w v:World)(id:HT)(X M Q:Option Nat)(pt:Bool):Prop where
 kp:Kept Nil w v
 x:∀x,X=some x->∃S,zO v S (fun _=>False) x [⟨id,[]⟩] [-1]/\∀j,S j->w.heap.size<=j/\j<v.heap.size/\M≠some j/\Q≠some j
 m:∀m,M=some m->w.heap.size<=m/\dX v m (fun y=>if pt=true/\y=id then Q.map fun q=>.pointer (some ⟨q,0,none⟩)else none)
 q:∀q,Q=some q->w.heap.size<=q/\v.heap[q]? =some (.cells zS dg (0,0))
 ne:∀m q,M=some m->Q=some q->m≠q
section
variable{w w' v u:World}{F:Nat->Prop}{c k:Nat}{G:GS}{m:CM}{K:Value->World->Prop}{id:HT}{X M Q:Option Nat}{pt:Bool}
theorem GN.Ft(h:GN w v id X none Q false):GN w (v.alloc (.map #[] 0)) id X (some v.heap.size) Q false:=by
 have k1:Kept Nil v (v.alloc (.map #[] 0)):=(Kept.refl _ _).alloc _;have hs:=k1.size;have hm:dX (v.alloc (.map #[] 0)) v.heap.size (fun _=>none):=dX.new v;refine⟨h.kp.tt k1,fun x hx=>?_,fun m oF=>?_,fun q hq=>?_,fun m q oF hq=>?_⟩
 ·obtain⟨S,h1,h2⟩:=h.x x hx
  exact⟨S,h1.same k1,fun j e=>by have:=h2 j e;exact⟨this.1,by omega,fun e=>by cases e;omega,this.2.2.2⟩⟩
 ·cases oF
  exact⟨h.kp.size,by simpa using hm⟩
 ·exact⟨(h.q q hq).1,k1.heap (h.q q hq).2 (fun h=>h)⟩
 ·cases oF
  have:=bf (h.q q hq).2;omega
theorem GN.Fs(h:GN w v id X M none false):GN w (v.alloc (.cells zS dg)) id X M (some v.heap.size) false:=by
 have k1:Kept Nil v (v.alloc (.cells zS dg)):=(Kept.refl _ _).alloc _;have hs:=k1.size;refine⟨h.kp.tt k1,fun x hx=>?_,fun m oF=>?_,fun q hq=>?_,fun m q oF hq=>?_⟩
 ·obtain⟨S,h1,h2⟩:=h.x x hx
  exact⟨S,h1.same k1,fun j e=>by have:=h2 j e;exact⟨this.1,by omega,this.2.2.1,fun e=>by cases e;omega⟩⟩
 ·have:=h.m m oF
  refine⟨this.1,?_⟩;have h2:=this.2.same k1;simpa using h2
 ·cases hq
  exact⟨h.kp.size,aR v _⟩
 ·cases hq
  have:=(h.m m oF).2.lt;omega
theorem GN.zJ(h:GN w v id none M Q pt){x:Nat}{S:Nat->Prop}(hX:zO u S (fun _=>False) x [⟨id,[]⟩] [-1])(hS:∀j,S j->v.heap.size<=j/\j<u.heap.size)(k1:Kept Nil v u):GN w u id (some x) M Q pt:=by
 have hs:=h.kp.size;refine⟨h.kp.tt k1,fun x' hx=>?_,fun m oF=>⟨(h.m m oF).1,(h.m m oF).2.same k1⟩,fun q hq=>⟨(h.q q hq).1,k1.heap (h.q q hq).2 (fun h=>h)⟩,h.ne⟩;cases hx;refine⟨S,hX,fun j e=>by
  have:=hS j e;exact⟨by omega,this.2,fun e=>by have:=(h.m j e).2.lt;omega,fun e=>by have:=bf (h.q j e).2;omega⟩⟩
theorem GN.put{mm q:Nat}(h:GN w v id X (some mm) (some q) false):∃u,(Instr.mapUpdate dK (.map (some mm)) (.agg id.1) (.pointer (some ⟨q,0,none⟩))).run prog v=.ok () u/\GN w u id X (some mm) (some q) true:=by
 obtain⟨h1,h2⟩:=h.m mm rfl;obtain⟨u,g1,g2,g3⟩:=h2.put DP id (.pointer (some ⟨q,0,none⟩));have hs:=g3.size;refine⟨u,g1,h.kp.trans g3 (fun j hj e=>by omega),fun x hx=>?_,fun m oF=>?_,fun q' hq=>?_,h.ne⟩
 ·obtain⟨S,q1,q2⟩:=h.x x hx
  exact⟨S,q1.aK g3 (fun j e e'=>(q2 j e).2.2.1 (by rw [e'])) (fun _ h=>h.elim),fun j e=>by have:=q2 j e;exact⟨this.1,by omega,this.2.2⟩⟩
 ·cases oF
  refine⟨h1,?_⟩;have ef:(fun y=>if true=true/\y=id then(some q).map (fun q=>Value.pointer (some ⟨q,0,none⟩))else none)=fun x=>if x=id then some (.pointer (some ⟨q,0,none⟩))else if false=true/\x=id then(some q).map (fun q=>Value.pointer (some ⟨q,0,none⟩))else none:=by
   funext y
   by_cases hy:y=id<;>simp [hy]
  rw [ef];exact g2
 ·have:=h.q q' hq
  exact⟨this.1,g3.heap this.2 (fun e=>h.ne mm q' rfl hq e.symm)⟩
theorem GN.fin{x mm q:Nat}(h:GN w v id (some x) (some mm) (some q) true)(k:Nat):∃m,CV (v.alloc (.cells #[.int .i64 (k:Int),.pointer (some ⟨x,0,none⟩),.map (some mm)] fN)) (· =q) v.heap.size k (gw id) m/\m.x=x/\(∀j,m.own v.heap.size j->w.heap.size<=j)/\w.heap.size<=q:=by
 have k1:Kept Nil v (v.alloc (.cells #[.int .i64 (k:Int),.pointer (some ⟨x,0,none⟩),.map (some mm)] fN)):=(Kept.refl _ _).alloc _;have ht:=aR v (.cells #[.int .i64 (k:Int),.pointer (some ⟨x,0,none⟩),.map (some mm)] fN);generalize v.alloc (.cells #[.int .i64 (k:Int),.pointer (some ⟨x,0,none⟩),.map (some mm)] fN)=u at k1 ht⊢;obtain⟨S,h1,h2⟩:=h.x x rfl;obtain⟨h3,h4⟩:=h.m mm rfl;obtain⟨h5,h6⟩:=h.q q rfl;have fJ:=h.ne mm q rfl rfl;have lm:=h4.lt;have lq:=bf h6;have lt:=bf ht;have hs:=k1.size;have hw:=h.kp.size;refine⟨⟨x,mm,S,fun _=>False,fun _=>q,fun _ _=>none⟩,⟨ht,h1.same k1,?_,?_,mo k id,SZ.root id,fun _ h=>h.elim,?_,?_,?_,?_⟩,rfl,?_,h5⟩
 ·have:=h4.same k1
  have ef:(fun h=>if h∈ids (gw id).D then some (Value.pointer (some ⟨q,0,none⟩))else none)=fun y=>if true=true/\y=id then(some q).map (fun q=>Value.pointer (some ⟨q,0,none⟩))else none:=by
   funext y
   by_cases hy:y=id
   ·simp [hy,gw,ids]
   ·simp [hy,gw,ids]
  show dX u mm (fun h=>if h∈ids (gw id).D then some (Value.pointer (some ⟨q,0,none⟩))else none)
  rw [ef];exact this
 ·intro y hy
  have:y=id:=by simpa [gw,ids]using hy
  subst this;obtain⟨q1,_⟩:=(mo k y).root ⟨y,[]⟩ rfl
  replace q1:(gw y).iZ y=_:=q1
  rw [q1];exact⟨none,0,0,none,0,0,none,k1.heap h6 (fun h=>h),HS.nil _ _,⟨rfl,fun i b hi=>by simp at hi⟩,fun a ha=>(by cases ha),fun a ha=>(by cases ha),.inl ⟨rfl,fun _=>rfl⟩,rfl⟩
 ·rintro j rfl e
  rcases e with e|e|e
  ·exact(h2 _ e).2.2.2 rfl
  ·have e:j=v.heap.size:=e;omega
  ·exact fJ e.symm
 ·intro j e
  have:=h2 j e;exact⟨by omega,fun e=>this.2.2.1 (by rw [e])⟩
 ·show v.heap.size≠mm;omega
 ·rintro j (e|e)
  ·rcases e with e|e|e
   ·have:=h2 j e;omega
   ·have e:j=v.heap.size:=e;omega
   ·have e:j=mm:=e;omega
  ·have e:j=q:=e;omega
 ·intro j e
  rcases e with e|e|e
  ·have:=h2 j e;omega
  ·have e:j=v.heap.size:=e;omega
  ·have e:j=mm:=e;omega
theorem gP(id:HT){k:Nat}(hk:k<=100)(hK:∀w' c q m,CV w' (· =q) c k (gw id) m->(∀j,m.own c j->w.heap.size<=j)->w.heap.size<=q->Kept Nil w w'->K (.tuple #[.pointer (some ⟨c,0,none⟩),.int .i64 0]) w'):
 bm prog gP.id #[.int .i64 (k:Int),.agg id.1] w K:=by
 refine gP.of ?_;unfold gP.W;intro w1;have k1:Kept Nil w w1:=(Kept.refl _ _).alloc _;have FV:w1.heap[w.heap.size]? =some (.cells id.1 ax (0,0)):=aR w _;clear_value w1;refine Split.no (decide_eq_false (by omega)) (Split.no (decide_eq_false (by omega)) ?_);intro w2;have k2:Kept Nil w1 w2:=(Kept.refl _ _).drew;clear_value w2;have oy:=k2.heap FV (fun h=>h);have oD:=k1.tt k2;have s02:=oD.size;have N0:GN w2 w2 id none none none false:=⟨Kept.refl _ _,fun _ h=>(by cases h),fun _ h=>(by cases h),fun _ h=>(by cases h),fun _ _ h=>(by cases h)⟩;have bx:∀ {v:World},Kept Nil w2 v->∃cs:Array Value,(.agg id.1:Value)=.agg cs/\cs.size=32/\Cells v ⟨w.heap.size,0,none⟩ cs:=fun kv=>⟨id.1,rfl,id.2.1,Cells.bS (kv.heap oy (fun h=>h))⟩;have fin:∀ {v:World} {x mm q:Nat},GN w2 v id (some x) (some mm) (some q) true->let p:=v.alloc (.cells #[.int .i64 (k:Int),.pointer (some ⟨x,0,none⟩),.map (some mm)] fN);K (.tuple #[.pointer (some (aU v.heap.size)),.int .i64 0]) p:=fun {v x mm q} N=>by
  obtain⟨m,h1,_,h2,h3⟩:=N.fin k;exact hK _ _ q m h1 (fun j e=>by have:=h2 j e;omega) (by omega) ((oD.tt N.kp).alloc _)
 refine⟨id.1,⟨id.2.1,Cells.bS oy⟩,id.1,⟨id.2.1,Cells.bS oy⟩,?_,?_,?_⟩
 ·refine gI id fun v x hX kv=>⟨_,rfl,?_⟩
  have N1:=N0.zJ hX (fun j e=>e) kv;refine⟨bx N1.kp,⟨?_,?_⟩⟩
  ·have N2:=N1.Ft
   have N3:=N2.Fs;obtain⟨u,hu,N4⟩:=N3.put;exact⟨bx N2.kp,bx N3.kp,u,hu,fin N4⟩
  ·have N2:=N1.Fs
   have N3:=N2.Ft;obtain⟨u,hu,N4⟩:=N3.put;exact⟨bx N2.kp,bx N3.kp,u,hu,fin N4⟩
 ·have N1:=N0.Ft
  refine⟨bx N1.kp,bx N1.kp,?_,?_⟩
  ·refine gI id fun v x hX kv=>⟨_,rfl,?_⟩
   have N2:=N1.zJ hX (fun j e=>e) kv;have N3:=N2.Fs;obtain⟨u,hu,N4⟩:=N3.put;exact⟨bx N2.kp,bx N3.kp,u,hu,fin N4⟩
  ·have N2:=N1.Fs
   refine⟨bx N2.kp,bx N2.kp,?_,?_⟩
   ·refine gI id fun v x hX kv=>⟨_,rfl,?_⟩
    have N3:=N2.zJ hX (fun j e=>e) kv;obtain⟨u,hu,N4⟩:=N3.put;exact⟨bx N3.kp,u,hu,fin N4⟩
   ·obtain⟨u,hu,N3⟩:=N2.put
    refine⟨u,hu,bx N3.kp,?_⟩;refine gI id fun v x hX kv=>⟨_,rfl,?_⟩;exact fin (N3.zJ hX (fun j e=>e) kv)
 ·have N1:=N0.Fs
  refine⟨bx N1.kp,bx N1.kp,?_,?_⟩
  ·refine gI id fun v x hX kv=>⟨_,rfl,?_⟩
   have N2:=N1.zJ hX (fun j e=>e) kv;have N3:=N2.Ft;obtain⟨u,hu,N4⟩:=N3.put;exact⟨bx N2.kp,bx N3.kp,u,hu,fin N4⟩
  ·have N2:=N1.Ft
   refine⟨bx N2.kp,bx N2.kp,?_,?_⟩
   ·refine gI id fun v x hX kv=>⟨_,rfl,?_⟩
    have N3:=N2.zJ hX (fun j e=>e) kv;obtain⟨u,hu,N4⟩:=N3.put;exact⟨bx N3.kp,u,hu,fin N4⟩
   ·obtain⟨u,hu,N3⟩:=N2.put
    refine⟨u,hu,bx N3.kp,?_⟩;refine gI id fun v x hX kv=>⟨_,rfl,?_⟩;exact fin (N3.zJ hX (fun j e=>e) kv)
end
end Go.Proofs.YtfleamccglihoaaGreatDoor
