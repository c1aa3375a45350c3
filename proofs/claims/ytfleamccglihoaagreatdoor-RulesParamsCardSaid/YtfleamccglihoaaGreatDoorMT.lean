import Derived.Test.YtfleamccglihoaaGreatDoorMS
import Derived.Test.YtfleamccglihoaaGreatDoorMQ
import Derived.Test.YtfleamccglihoaaGreatDoorMJ
import Derived.Test.YtfleamccglihoaaGreatDoorMP
open Go.IntKind (i64 u64)
set_option linter.unusedVariables false
namespace Go.Proofs.YtfleamccglihoaaGreatDoor
open Go.Proofs.Tryz
open Go Go.bE Go.RowKit
theorem wT(D:DG)(s:HT){l:List HT}(hl:∀x∈l,x∈ids D):(ru D s l).length<=D.length:=by
 have:=eh (m:=ids D) (oT D s l) (fun x hx=>by
  rcases(wV.1 hx).1 with h|h
  ·exact h.1
  ·exact hl x h)
 rwa [jH]at this
theorem uI{D:DG}{l:List HT}(h:ki D l=0):l≠ []/\∀x∈l,x∈ids D:=by
 unfold ki at h;split at h
 ·cases h
 ·rename_i h0
  split at h
  ·cases h
  ·rename_i h1
   exact⟨h0,fun x hx=>Classical.byContradiction fun e=>h1 ⟨x,hx,e⟩⟩
section
variable{w w':World}{F:Nat->Prop}{c k:Nat}{G:GS}{m:CM}{K:Value->World->Prop}{A:Option Addr}{n cx:Nat}{l:List HT}{s:HT}
theorem la.iR{q B sm bb cp e ce:Nat}{x:rl}{ov:HT->Option Nat}{E:Option Addr}(h:la w B q sm bb x ov A n cp E e ce):Cells w ((⟨q,0,none⟩:Addr).add 0) (dS x A n cp E e ce):=by
 intro j u hj;rw [add_zero,bu,aD h.top,Array.getElem?_append_left (by rw [bX];have:=(Array.getElem?_eq_some_iff.1 hj).1;rw [bX]at this;omega)];rw [Nat.zero_add];exact hj
theorem zo(h:CV w F c k G m)(hT:p7 w)(hD:G.D.length<=49)(rP:k<=1000)(zc:HS w A n l)(hn:n<=5000)
 (h0:ki G.D (s::l)≠0->∀w',Kept Nil w w'->K (.tuple #[.agg (dS ⟨fG,0,[],[]⟩ none 0 0 none 0 0),.int .i64 (ki G.D (s::l))]) w')
 (h1:ki G.D (s::l)=0->∀w' A n cp E e ce,HS w' A n (fM k G s l).merge->Bo w' E e (fM k G s l).iJ->Kept Nil w w'->(∀a,A=some a->w.heap.size<=a.block)->K (.tuple #[.agg (dS (fM k G s l) A n cp E e ce),.int .i64 0]) w'):
 bm prog dc.id #[.pointer (some ⟨c,0,none⟩),.agg s.1,.slice A n cx] w K:=by
 refine dc.of ?_;unfold dc.W;intro w1 w2;have k1:Kept Nil w w1:=(Kept.refl _ _).alloc _;have CW:w1.heap[w.heap.size]? =some (.cells s.1 ax (0,0)):=aR w _;have k2:Kept Nil w1 w2:=(Kept.refl _ _).alloc _;have lh:w2.heap[w1.heap.size]? =some (.cells zC cB (0,0)):=aR w1 _;clear_value w2;have yW:=k2.heap CW (fun h=>h);have oE:=k1.tt k2;have s1:=k1.size;have l1:=aZ CW;have l2:=aZ lh;clear_value w1;refine⟨s.1,⟨s.2.1,Cells.bS yW⟩,s.2.1,?_⟩;intro w3;have k3:Kept Nil w2 w3:=(Kept.refl _ _).alloc _;have On:HS w3 (some ⟨w2.heap.size,0,none⟩) 1 [s]:=lr w2 s;have rp:cr w3 w.heap.size (some ⟨w2.heap.size,0,none⟩) 1 1 [s]:=by
  have e:cC [s]=(s.1.toList++ []).toArray.toList:=by simp [cC]
  show Row _ _ _ _ _ _ _ (cC [s])
  rw [e];exact Row.made (aR w2 _) (by have:=oE.size;omega) (by simp [s.2.1]) (by unfold maxLen;omega)
 clear_value w3;have kl:=oE.tt k3;have s2:=oE.size;have s3:=kl.size;obtain⟨A2,c2,w4,Ur,wE,g4,Se⟩:=gw aV rp (cx:=cx) (zc.same kl) (by omega) s3;have x4:Kept (fun j=>w.heap.size<=j) w3 w4:=(Kept.refl _ _).grown g4 fun j hj _=>(Row.bS rp hj).1;have ln:Kept Nil w w4:=Kept.pR kl g4 (fun j hj=>(Row.bS rp hj).1);have rv:Kept Nil w2 w4:=Kept.pR k3 g4 (fun j hj=>by cases hj;exact Nat.le_refl _);have RP:=rv.heap yW (fun h=>h);have Uq:=rv.heap lh (fun h=>h);refine⟨A2,_,c2,w4,Ur,?_⟩;refine u6 (h.same ln) (show HS w4 A2 (1+n) (s::l)from wE.hs) (by omega) fun w5 k5=>⟨_,rfl,?_⟩;have pg:=ln.tt k5;have YM:=k5.heap RP (fun h=>h);have CX:=k5.heap Uq (fun h=>h);have zs:(zC:Array Value)=dS ⟨fG,0,[],[]⟩ none 0 0 none 0 0:=rfl;by_cases hm:ki G.D (s::l)=0
 ·refine Split.no (by simp [hm]) ⟨s.1,⟨s.2.1,Cells.bS YM⟩,?_⟩
  obtain⟨_,gK⟩:=uI hm;have h5:=h.same pg;have Pu:∀x∈l,x∈ids G.D:=fun x hx=>gK x (List.mem_cons_of_mem _ hx);obtain⟨ch,mR⟩:=cM.ex h.iP.lZ s;refine sW Ac (Nat.le_trans (wT G.D s Pu) hD) h5 (hT.same pg) (by omega) rP (gK s List.mem_cons_self) mR Pu (zc.same pg) hn fun v q B sm bb ov A n cp E e ce g1 _ g3 _ g5 g6 g7=>?_;refine⟨some ⟨q,0,none⟩,rfl,Is.mk rfl ?_⟩;have Ix:=g7.heap CX (fun h=>h);obtain⟨t1,t2,t3⟩:=lx Ix (cs:=dS (fM k G s l) A n cp E e ce) (by rw [bX];rfl);refine⟨_,⟨bX ..,g1.iR⟩,⟨bX ..,kW _ _ _ _ _ _ _,fun j hj=>t1 j (by rw [bX];exact hj)⟩,?_⟩;intro w8
  replace t2:w8.heap[w1.heap.size]? =_:=t2
  replace t3:Kept (· =w1.heap.size) v w8:=t3
  clear_value w8;refine⟨_,⟨bX ..,Cells.bS t2⟩,?_⟩;have s5:=pg.size;have cJ:w1.heap.size<w5.heap.size:=aZ CX;refine h1 hm w8 A n cp E e ce (g1.mg.aK t3 (fun a ha e=>?_)) ((Row.bo g1.bl).aK t3 (fun a ha e=>?_)) ((pg.tt g7).trans t3 (fun j hj e=>by omega)) (fun a ha=>by have:=g5 a ha;omega)
  ·have:=g5 a ha
   omega
  ·subst ha
   have:=(Row.bS g1.bl (k:=a.block) rfl).1;have:=g6.1;omega
 ·refine Split.yes (by simpa using hm) ?_
  obtain⟨t1,t2,t3⟩:=lx CX (cs:=zC) rfl;refine⟨⟨rfl,by rw [zs];exact kW _ _ _ _ _ _ _,fun j hj=>t1 j hj⟩,?_⟩;exact⟨_,⟨rfl,Cells.bS t2⟩,h0 hm _ (pg.trans t3 (fun j hj e=>by omega))⟩
end
theorem XV.off{w:World}{D:DG}{P:List Int}{m:XM}{x:Nat}{F:Nat->Prop}(h:XV w F x D P m):∀k,m.jf x k->¬F k:=fun k e=>by
 obtain⟨bl,c,mb,M,G⟩:=h.G;rcases e with e|e|e|e
 ·exact G.C9 k e
 ·exact fun f=>(h.fd k f).1 e
 ·exact fun f=>(h.fd k f).2 e
 ·exact(h.od k e).2.2.2
section
variable{w w':World}{F F':Nat->Prop}{c k q:Nat}{G:GS}{m:CM}{K:Value->World->Prop}{A B:Option Addr}{n cx cp e ce:Nat}{l:List HT}{x:rl}{sz:HT->Option Nat}{sm:Option Nat}
theorem Seen.mono(h:Seen w F q x sz)(hF:∀j,F j->F' j):Seen w F' q x sz:=by
 obtain⟨A,n,cp,B,e,ce,sm,h⟩:=h;refine⟨A,n,cp,B,e,ce,sm,h.top,h.mg,h.bl,fun a ha=>hF _ (h.fA a ha),fun a ha=>hF _ (h.fB a ha),?_,hF _ h.fq⟩;rcases h.sz with g|⟨s,g1,g2,g3⟩
 ·exact .inl g
 ·exact .inr ⟨s,g1,hF _ g2,g3⟩
abbrev Q6:Array Value:=dS ⟨fG,0,[],[]⟩ none 0 0 none 0 0
theorem zO(D:DG)(h:HT)(l:List HT):eo D h l=if h∈ids D then 7 else if l.length=0 then 9 else if(dg l).length≠l.length then 9 else ki D l:=by
 unfold eo ki;by_cases h1:h∈ids D
 ·rw [if_pos h1,if_pos h1]
 ·rw [if_neg h1,if_neg h1]
  by_cases h2:l.length=0
  ·rw [if_pos h2,if_pos (.inl (by have:=nZ l;omega))]
  ·have hl:l≠ []:=fun e=>h2 (by rw [e];rfl)
   rw [if_neg h2];by_cases h3:(dg l).length≠l.length
   ·rw [if_pos h3,if_pos (.inr h3)]
   ·have a:¬((dg l).length=0\/(dg l).length≠l.length):=by omega
    have hc:(∃p∈dg l,p∉ids D)↔∃p∈l,p∉ids D:=⟨fun⟨p,hp,hq⟩=>⟨p,dI.1 hp,hq⟩,fun⟨p,hp,hq⟩=>⟨p,dI.2 hp,hq⟩⟩;rw [if_neg h3,if_neg a,if_neg hl];by_cases h4:∃p∈l,p∉ids D
    ·rw [if_pos h4,if_pos (hc.2 h4)]
    ·rw [if_neg h4,if_neg (fun e=>h4 (hc.1 e))]
set_option maxHeartbeats 2000000 in
theorem Cw(h:CV w F c k G m)(hT:p7 w)(Lp:¬m.SX (Tryz.ji.g 1))(hD:G.D.length<=49)(rP:k<=1000)(zc:HS w A n l)(hn:n<=5000)(id:HT)
 (hE:eo G.D id l≠0->∀w',Kept Nil w w'->K (.tuple #[.agg Q6,.int .i64 (eo G.D id l)]) w')
 (hO:eo G.D id l=0->∀w' F' m' A n c1 B e c2,CV w' F' c k (fE k G id l) m'->m'.x=m.x->Kept (m.own c) w w'->(∀j,m'.own c j->m.own c j\/w.heap.size<=j)->(∀j,F' j->F j\/w.heap.size<=j)->
   cr w' w.heap.size A n c1 (fM k G (bG G l) l).merge->Row w' w.heap.size iX 1 B e c2 (vg (fM k G (bG G l) l).iJ)->(∀j,bp A=some j->bp B≠some j)->(∀j,bp A=some j\/bp B=some j->¬m'.own c j/\¬F' j)->
   K (.tuple #[.agg (dS (fM k G (bG G l) l) A n c1 B e c2),.int .i64 0]) w'):
 bm prog cY.id #[.pointer (some ⟨c,0,none⟩),.agg id.1,.slice A n cx] w K:=by
 have hlen:=zc.len;refine cY.of ?_;unfold cY.W;intro w1 w2;have k1:Kept Nil w w1:=(Kept.refl _ _).alloc _;have CW:w1.heap[w.heap.size]? =some (.cells id.1 ax (0,0)):=aR w _;have k2:Kept Nil w1 w2:=(Kept.refl _ _).alloc _;have lh:w2.heap[w1.heap.size]? =some (.cells zC cB (0,0)):=aR w1 _;clear_value w2;have yW:=k2.heap CW (fun h=>h);have oE:=k1.tt k2;have s1:=k1.size;have l1:=aZ CW;have l2:=aZ lh;clear_value w1;have zs:(zC:Array Value)=Q6:=rfl;have bad:∀ {u:World} {r:Int},Kept Nil w2 u->eo G.D id l=r->r≠0->(zC.size=35/\(∀n∈zC.toList,n.oneCell'=true)/\∀o,o<35->Wr u ((aU w1.heap.size).add o))/\
  let p:=setCells u (aU w1.heap.size) zC.toList 0;∃q:Array Value,(q.size=35/\Cells p (aU w1.heap.size) q)/\K (.tuple #[.agg q,.int .i64 r]) p:=fun {u r} ku hr h0=>by
  obtain⟨t1,t2,t3⟩:=lx (ku.heap lh (fun h=>h)) (cs:=zC) rfl;refine⟨⟨rfl,by rw [zs];exact kW _ _ _ _ _ _ _,fun j hj=>t1 j hj⟩,?_⟩;refine⟨_,⟨rfl,Cells.bS t2⟩,?_⟩;have:=hE (by rw [hr];exact h0) _ ((oE.tt ku).trans t3 (fun j hj e=>by omega));rw [hr]at this;exact this
 have iO:=zO G.D id l;refine qW (h.same oE) ⟨true,rfl,Split.no rfl ?_⟩;intro w3;have k3:Kept Nil w2 w3:=(Kept.refl _ _).drew;clear_value w3;have kl:=oE.tt k3;have h3:=h.same kl;refine⟨_,h3.c2,id.1,⟨id.2.1,Cells.bS (k3.heap yW (fun h=>h))⟩,_,h3.look id,?_⟩;by_cases hid:id∈ids G.D
 ·rw [if_pos hid]at iO
  exact Split.yes (by rw [if_pos hid];rfl) (bad k3 iO (by decide))
 rw [if_neg hid]at iO;refine Split.no (by rw [if_neg hid];rfl) ?_;by_cases AG:n=0
 ·rw [if_pos (by omega)]at iO
  exact Split.yes (by subst AG;rfl) (bad k3 iO (by decide))
 rw [if_neg (by omega)]at iO;refine Split.no (by simpa using (by omega:¬(n:Int)=0)) ?_;refine fW (zc.same kl) (by omega) fun A4 c4 w4 wE k4=>⟨A4,_,c4,rfl,?_⟩;have rv:=k3.tt k4;have ln:=kl.tt k4;by_cases RM:(dg l).length≠l.length
 ·rw [if_pos RM]at iO
  exact Split.yes (by simp only [bne_iff_ne,ne_eq];omega) (bad rv iO (by decide))
 rw [if_neg RM]at iO;refine Split.no (by simp only [bne_eq_false_iff_eq];omega) ?_;refine pU (h.same ln) (zc.same ln) (by omega) fun w5 k5=>⟨_,_,rfl,?_⟩;have k25:=rv.tt k5;have pg:=ln.tt k5;generalize pN:(if ki G.D l=0 then bG G l else fG)=s;intro w6;have k6:Kept Nil w5 w6:=(Kept.refl _ _).alloc _;have pQ:w6.heap[w5.heap.size]? =some (.cells fG.1 ax (0,0)):=aR w5 _;clear_value w6;obtain⟨t1,t2,t3⟩:=jt s pQ rfl;refine⟨t1,?_⟩;intro w7
 replace t2:w7.heap[w5.heap.size]? =some (.cells s.1 ax (0,0)):=t2
 replace t3:Kept (· =w5.heap.size) w6 w7:=t3
 clear_value w7;have GK:Kept Nil w5 w7:=k6.trans t3 (fun j hj e=>by omega);have TH:=k25.tt GK;have uU:=pg.tt GK;by_cases hm:ki G.D l≠0
 ·exact Split.yes (by simpa using hm) (bad TH iO hm)
 have hm:ki G.D l=0:=by omega
 rw [if_pos hm]at pN;rw [hm]at iO⊢;refine Split.no rfl ⟨s.1,⟨s.2.1,Cells.bS t2⟩,?_⟩;obtain⟨fH,gK⟩:=uI hm;have FK:s∈l:=by rw [<-pN];exact iY fH
 obtain⟨ch,mR⟩:=cM.ex h.iP.lZ s;have h7:=h.same uU;refine sW Ac (Nat.le_trans (wT G.D s gK) hD) h7 (hT.same uU) (by omega) rP (gK s FK) mR gK (zc.same uU) hn fun v q B sm bb ov Am nm cp E e ce g1 gO g3 g4 g5 g6 g7=>⟨some ⟨q,0,none⟩,rfl,?_⟩;have vu:=uU.tt g7;have D6:=TH.tt g7;have k5v:=GK.tt g7;have s07:=uU.size;have s0v:=vu.size;intro w8;have k8:Kept Nil v w8:=(Kept.refl _ _).drew;clear_value w8;have Ef:=vu.tt k8;have h8:=h.same Ef;have g18:=g1.same k8;have s8:=k8.size;refine⟨_,h8.c1,id.1,⟨id.2.1,Cells.bS ((D6.tt k8).heap yW (fun h=>h))⟩,s.1,⟨s.2.1,Cells.bS (((g7.tt k8)).heap t2 (fun h=>h))⟩,?_⟩;refine yC h8.X (by omega) (hT.same Ef) Lp (zc.same Ef) hn id s fun u S' FX' ZI k9 hS9 MD=>⟨_,rfl,?_⟩;have eX:rh G.D id s l=(fE k G id l).D/\rf G.D G.P id s l=(fE k G id l).P:=by rw [<-pN];exact⟨LK.symm,LL.symm⟩
 rw [eX.1,eX.2]at ZI;obtain⟨mx,X9,Y2⟩:=ZI;have tU:∀j,m.own c j\/F j->j<w.heap.size:=h.low;have g1q:q<v.heap.size:=aZ g1.top;have g1s:sm<v.heap.size:=g1.ov.lt;have sZ:∀j,w.heap.size<=j->¬m.SX j:=fun j hj e=>by have:=tU j (.inl (.inl e));omega
 have g19:=g18.aK k9 (sZ q (by omega)) (sZ sm (by omega)) (fun j hj _=>sZ j (by have:=g6.1;omega)) (fun a ha=>sZ _ (by have:=g5 a ha;omega));have s9:=k9.size;have Me:Kept m.SX w2 u:=((D6.tt k8).mono fun _ _ h=>h.elim).tt k9;have XX:¬m.SX c/\¬m.SX m.mb:=⟨fun e=>(h.so _ e).1 rfl,fun e=>(h.so _ e).2 rfl⟩;have MZ:u.heap[c]? =_:=k9.heap h8.top XX.1;have W6:=h8.all.aK k9 XX.2;intro w10;have tY:Kept Nil u w10:=(Kept.refl _ _).drew;clear_value w10;have M1:=tY.heap MZ (fun h=>h);have G3:=(Me.trans tY (fun _ _ h=>h.elim)).heap yW (fun e=>sZ _ (Nat.le_refl _) e);have Re:=W6.aK tY (fun h=>h);obtain⟨Bn,UD,Rc,Oa⟩:=Re.put DQ id (.pointer (some ⟨q,0,none⟩));refine⟨some m.mb,by rw [bu,aD M1];rfl,id.1,⟨id.2.1,Cells.bS G3⟩,Bn,UD,Is.mk rfl ?_⟩;have s10:=tY.size;have s11:=Oa.size;have lmb:m.mb<w.heap.size:=tU _ (.inl (.inr (.inr rfl)));have lc:c<w.heap.size:=tU _ (.inl (.inr (.inl rfl)));have GD:Kept (· =m.mb) u Bn:=(tY.mono fun _ _ h=>h.elim).tt Oa;have HE:=g19.aK GD (by omega) (by omega) (fun j hj _ e=>by have:=g6.1;omega) (fun a ha e=>by have:=g5 a ha;omega);have W2:=Row.bo HE.bl;have Ob:Kept (m.own c) w Bn:=((Ef.mono (S':=m.own c) fun _ _ h=>h.elim).trans k9 (fun _ _ h=>.inl h)).trans GD (fun _ _ h=>.inr (.inr h));refine⟨_,⟨bX ..,HE.iR⟩,?_⟩;have FV:=g1.mg.len;have YX:nm<=49:=by
  have FH:(fM k G s l).merge=cg G s l:=rfl;have vZ:(cg G s l).length<=49:=by
   have:=eh (m:=ids G.D) (lW G s l).nodup (fun y hy=>by
    rcases(iW.1 hy).1 with h|h
    ·exact h.1
    ·exact gK y h)
   rw [jH]at this;omega
  rw [FH]at FV;omega
 have R5:e<=49:=by
  have h1:=(rV k G s l).1;have h2:=(Row.bo g1.bl).len;have FH:(fM k G s l).merge=cg G s l:=rfl;have T3:(fM k G s l).iJ=(gJ k G s l).bl:=rfl;rw [T3]at h2;rw [FH]at FV;omega
 refine rE (fM k G s l) HE.mg W2 (by omega) (by omega) fun A' c1 B' c2 ph sd DA O8 FD=>⟨_,rfl,?_⟩;have NV:Kept (m.own c) w2 ph:=((Me.mono (S':=m.own c) fun _ _ h=>.inl h).trans GD (fun _ _ h=>.inr (.inr h))).trans FD (fun _ _ h=>h.elim);have fr2:∀j,w.heap.size<=j->¬m.own c j:=fun j hj e=>by have:=tU j (.inl e);omega
 have Uv:=NV.heap lh (fr2 _ (by omega));obtain⟨f1,f2,f3⟩:=lx Uv (cs:=dS (fM k G s l) A' nm c1 B' e c2) (by rw [bX];rfl);refine⟨⟨bX ..,kW _ _ _ _ _ _ _,fun j hj=>f1 j (by rw [bX];exact hj)⟩,?_⟩;intro p6
 replace f2:p6.heap[w1.heap.size]? =_:=f2
 replace f3:Kept (· =w1.heap.size) ph p6:=f3
 clear_value p6;refine⟨_,⟨bX ..,Cells.bS f2⟩,?_⟩;have sI:Kept (· =w1.heap.size) Bn p6:=(FD.mono fun _ _ h=>h.elim).tt f3;have s13:=sI.size;have lw1:w1.heap.size<w7.heap.size:=Nat.lt_of_lt_of_le l2 TH.size;rw [pN]at hO;have Ek:=lV (k:=k) (G:=G) (h:=id) (ps:=l) iO;have PB:ids (fE k G id l).D=ids G.D++ [id]:=by rw [Ek];simp [ids]
 let F':Nat->Prop:=fun j=>F j\/(w7.heap.size<=j/\j<v.heap.size)\/FX' j
 let m':CM:=⟨m.x,m.mb,mx.jf m.x,FX',fun y=>if y=id then q else m.q y,fun y=>if y=id then ov else m.sz y⟩
 have Mu:∀j,mx.jf m.x j->m.SX j\/w8.heap.size<=j:=fun j e=>hS9 j (Y2 j e);have Td:∀j,m'.own c j->m.own c j\/w8.heap.size<=j:=fun j e=>by
  rcases e with e|e|e
  ·exact(Mu j e).imp (fun e=>.inl e) (fun e=>e)
  ·exact .inl (.inr (.inl e))
  ·exact .inl (.inr (.inr e))
 have sD:∀j,F' j->F j\/(w7.heap.size<=j/\j<u.heap.size):=fun j e=>by
  rcases e with e|e|e
  ·exact .inl e
  ·exact .inr ⟨e.1,by omega⟩
  ·rcases MD j e with e'|e'
   ·exact .inl (h.fx j e')
   ·exact .inr ⟨by omega,X9.low j (.inr e)⟩
 have H8:∀j,mx.jf m.x j->j<u.heap.size:=fun j e=>X9.low j (.inl e);have Tu:Kept (fun j=>j=m.mb\/j=w1.heap.size) u p6:=(GD.mono fun _ _ h=>.inl h).trans sI (fun _ _ h=>.inr h);have n1:∀j,F' j->¬(j=m.mb\/j=w1.heap.size):=fun j e e'=>by
  rcases e' with e'|e'
  ·rcases sD j e with e|e
   ·exact h.fo j e (.inr (.inr e'))
   ·omega
  ·rcases sD j e with e|e
   ·have:=tU j (.inr e);omega
   ·omega
 have n2:∀j,mx.jf m.x j->¬(j=m.mb\/j=w1.heap.size):=fun j e e'=>by
  rcases e' with e'|e'
  ·rcases Mu j e with e|e
   ·exact(h.so j e).2 e'
   ·omega
  ·rcases Mu j e with e|e
   ·have:=tU j (.inl (.inl e));omega
   ·have:=k8.size;have:=g7.size;omega
 have HD:la p6 B q sm bb (fM k G s l) ov Am nm cp E e ce:=HE.aK sI (by omega) (by omega) (fun j hj _ e=>by have:=g6.1;omega) (fun a ha e=>by have:=g5 a ha;omega);have C':CV p6 F' c k (fE k G id l) m':=by
  refine⟨?_,?_,?_,?_,h.iP.add id l,?_,fun j e=>.inr (.inr e),?_,?_,h.ne,?_⟩
  ·exact Tu.heap MZ (fun e=>by rcases e with e|e;exact h.ne e;omega)
  ·exact⟨mx,X9.aK Tu n2 (fun j e=>n1 j (.inr (.inr e))),fun _ e=>e⟩
  ·have:=Rc.aK sI (by show ¬m.mb=_;omega)
   have ef:(fun h=>if h∈ids (fE k G id l).D then some (Value.pointer (some ⟨m'.q h,0,none⟩))else none)=fun x=>if x=id then some (Value.pointer (some ⟨q,0,none⟩))else if x∈ids G.D then some (.pointer (some ⟨m.q x,0,none⟩))else none:=by
    funext y
    rw [PB];by_cases hy:y=id
    ·simp [hy,m']
    ·by_cases Om:y∈ids G.D
     ·simp [hy,Om,m']
     ·simp [hy,Om]
   rw [ef];exact this
  ·intro y hy
   rw [PB,List.mem_append,List.mem_singleton]at hy;by_cases he:y=id
   ·subst he
    rw [(tI h.iP iO).1,pN];have e1:m'.q y=q:=if_pos rfl;have e2:m'.sz y=ov:=if_pos rfl;rw [e1,e2];refine⟨Am,nm,cp,E,e,ce,some sm,HD.top,HD.mg,Row.bo HD.bl,fun a ha=>.inr (.inl ⟨g5 a ha,?_⟩),fun a ha=>.inr (.inl ?_),.inr ⟨sm,rfl,.inr (.inl ⟨g4,g1s⟩),HD.ov⟩,.inr (.inl ⟨g3,g1q⟩)⟩
    ·have:=(g1.mA a ha).1
     have:=g6.2;omega
    ·subst ha
     obtain⟨q1,cur,q2⟩:=Row.bS g1.bl (k:=a.block) rfl;have:=aZ q2;have:=g6.1;exact⟨by omega,this |>fun _=>aZ q2⟩
   ·have hy:y∈ids G.D:=hy.elim (fun e=>e) (fun e=>absurd e he)
    rw [(tH h.iP hy).1];have e1:m'.q y=m.q y:=if_neg he;have e2:m'.sz y=m.sz y:=if_neg he;rw [e1,e2];exact(((h8.seen y hy).aK k9 (fun j e e'=>h.fo j e (.inl e'))).aK Tu (fun j e=>n1 j (.inl e))).mono (fun j e=>.inl e)
  ·have VK:cM G.D G.P (bG G l) ch:=by rw [pN];exact mR
   rw [<-pN]at gO;exact SZ.add h.Z h.iP iO VK gO
  ·intro j e e'
   rcases e' with e'|e'|e'
   ·rcases e with e|e|e
    ·rcases Mu j e' with e'|e'
     ·exact h.fo j e (.inl e')
     ·have:=tU j (.inr e);omega
    ·rcases Mu j e' with e'|e'
     ·have:=tU j (.inl (.inl e'));omega
     ·omega
    ·exact XV.off X9 j e' e
   ·rcases sD j e with e|e
    ·exact h.fo j e (.inr (.inl e'))
    ·have e':j=c:=e';omega
   ·rcases sD j e with e|e
    ·exact h.fo j e (.inr (.inr e'))
    ·have e':j=m.mb:=e';omega
  ·intro j e
   rcases Mu j e with e'|e'
   ·exact h.so j e'
   ·exact⟨by omega,by show j≠m.mb;omega⟩
  ·rintro j (e|e)
   ·rcases e with e|e|e
    ·have:=H8 j e;omega
    ·have e:j=c:=e;omega
    ·have e:j=m.mb:=e;omega
   ·rcases sD j e with e|e
    ·have:=tU j (.inr e);omega
    ·omega
 have Cr:∀j,bp A'=some j->Bn.heap.size<=j:=fun j hj=>(Row.bS sd hj).1;have Lu:∀j,bp B'=some j->Bn.heap.size<=j:=fun j hj=>(Row.bS DA hj).1;have Q1:∀j,Bn.heap.size<=j->¬m'.own c j/\¬F' j:=fun j hj=>⟨fun e=>by
  rcases e with e|e|e
  ·have:=H8 j e;omega
  ·have e:j=c:=e;omega
  ·have e:j=m.mb:=e;omega,fun e=>by
  rcases sD j e with e|e
  ·have:=tU j (.inr e);omega
  ·omega⟩
 exact hO iO p6 F' m' A' nm c1 B' e c2 C' rfl ((Ob.trans sI (fun j hj e=>by omega))) (fun j e=>(Td j e).imp (fun h=>h) (fun h=>by omega)) (fun j e=>(sD j e).imp (fun h=>h) (fun h=>by omega))
  (Row.base (Row.aK sd f3 (fun j hj e=>by have:=Cr j hj;omega)) (fun j hj=>by have:=Cr j hj;omega)) (Row.base (Row.aK DA f3 (fun j hj e=>by have:=Lu j hj;omega)) (fun j hj=>by have:=Lu j hj;omega)) O8
  (fun j hj=>Q1 j (hj.elim (Cr j) (Lu j)))
end
section
variable{k:Nat}{G:GS}
end
section
variable{w w' lu:World}{B ob bx:Nat}{av av':Nat->Prop}{acc:List HT}
end
section
variable{w w' v:World}{F:Nat->Prop}{c k:Nat}{G:GS}{m:CM}{K:Value->World->Prop}
end
section
variable{w w':World}{F:Nat->Prop}{c k:Nat}{G:GS}{m:CM}{K:Value->World->Prop}
end
structure GN(w v:World)(id:HT)(X M Q:Option Nat)(pt:Bool):Prop where
 kp:Kept Nil w v
 x:∀x,X=some x->∃S,zR v S (fun _=>False) x [⟨id,[]⟩] [-1]/\∀j,S j->w.heap.size<=j/\j<v.heap.size/\M≠some j/\Q≠some j
 m:∀m,M=some m->w.heap.size<=m/\dW v m (fun y=>if pt=true/\y=id then Q.map fun q=>.pointer (some ⟨q,0,none⟩)else none)
 q:∀q,Q=some q->w.heap.size<=q/\v.heap[q]? =some (.cells zS df (0,0))
 ne:∀m q,M=some m->Q=some q->m≠q
section
variable{w w' v u:World}{F:Nat->Prop}{c k:Nat}{G:GS}{m:CM}{K:Value->World->Prop}{id:HT}{X M Q:Option Nat}{pt:Bool}
theorem GN.Fu(h:GN w v id X none Q false):GN w (v.alloc (.map #[] 0)) id X (some v.heap.size) Q false:=by
 have k1:Kept Nil v (v.alloc (.map #[] 0)):=(Kept.refl _ _).alloc _;have hs:=k1.size;have hm:dW (v.alloc (.map #[] 0)) v.heap.size (fun _=>none):=dW.new v;refine⟨h.kp.tt k1,fun x hx=>?_,fun m oG=>?_,fun q hq=>?_,fun m q oG hq=>?_⟩
 ·obtain⟨S,h1,h2⟩:=h.x x hx
  exact⟨S,h1.same k1,fun j e=>by have:=h2 j e;exact⟨this.1,by omega,fun e=>by cases e;omega,this.2.2.2⟩⟩
 ·cases oG
  exact⟨h.kp.size,by simpa using hm⟩
 ·exact⟨(h.q q hq).1,k1.heap (h.q q hq).2 (fun h=>h)⟩
 ·cases oG
  have:=aZ (h.q q hq).2;omega
theorem GN.Ft(h:GN w v id X M none false):GN w (v.alloc (.cells zS df)) id X M (some v.heap.size) false:=by
 have k1:Kept Nil v (v.alloc (.cells zS df)):=(Kept.refl _ _).alloc _;have hs:=k1.size;refine⟨h.kp.tt k1,fun x hx=>?_,fun m oG=>?_,fun q hq=>?_,fun m q oG hq=>?_⟩
 ·obtain⟨S,h1,h2⟩:=h.x x hx
  exact⟨S,h1.same k1,fun j e=>by have:=h2 j e;exact⟨this.1,by omega,this.2.2.1,fun e=>by cases e;omega⟩⟩
 ·have:=h.m m oG
  refine⟨this.1,?_⟩;have h2:=this.2.same k1;simpa using h2
 ·cases hq
  exact⟨h.kp.size,aR v _⟩
 ·cases hq
  have:=(h.m m oG).2.lt;omega
theorem GN.zM(h:GN w v id none M Q pt){x:Nat}{S:Nat->Prop}(hX:zR u S (fun _=>False) x [⟨id,[]⟩] [-1])(hS:∀j,S j->v.heap.size<=j/\j<u.heap.size)(k1:Kept Nil v u):GN w u id (some x) M Q pt:=by
 have hs:=h.kp.size;refine⟨h.kp.tt k1,fun x' hx=>?_,fun m oG=>⟨(h.m m oG).1,(h.m m oG).2.same k1⟩,fun q hq=>⟨(h.q q hq).1,k1.heap (h.q q hq).2 (fun h=>h)⟩,h.ne⟩;cases hx;refine⟨S,hX,fun j e=>by
  have:=hS j e;exact⟨by omega,this.2,fun e=>by have:=(h.m j e).2.lt;omega,fun e=>by have:=aZ (h.q j e).2;omega⟩⟩
theorem GN.put{mm q:Nat}(h:GN w v id X (some mm) (some q) false):∃u,(Instr.mapUpdate dJ (.map (some mm)) (.agg id.1) (.pointer (some ⟨q,0,none⟩))).run prog v=.ok () u/\GN w u id X (some mm) (some q) true:=by
 obtain⟨h1,h2⟩:=h.m mm rfl;obtain⟨u,g1,g2,g3⟩:=h2.put DQ id (.pointer (some ⟨q,0,none⟩));have hs:=g3.size;refine⟨u,g1,h.kp.trans g3 (fun j hj e=>by omega),fun x hx=>?_,fun m oG=>?_,fun q' hq=>?_,h.ne⟩
 ·obtain⟨S,q1,q2⟩:=h.x x hx
  exact⟨S,q1.aK g3 (fun j e e'=>(q2 j e).2.2.1 (by rw [e'])) (fun _ h=>h.elim),fun j e=>by have:=q2 j e;exact⟨this.1,by omega,this.2.2⟩⟩
 ·cases oG
  refine⟨h1,?_⟩;have ef:(fun y=>if true=true/\y=id then(some q).map (fun q=>Value.pointer (some ⟨q,0,none⟩))else none)=fun x=>if x=id then some (.pointer (some ⟨q,0,none⟩))else if false=true/\x=id then(some q).map (fun q=>Value.pointer (some ⟨q,0,none⟩))else none:=by
   funext y
   by_cases hy:y=id<;>simp [hy]
  rw [ef];exact g2
 ·have:=h.q q' hq
  exact⟨this.1,g3.heap this.2 (fun e=>h.ne mm q' rfl hq e.symm)⟩
theorem GN.fin{x mm q:Nat}(h:GN w v id (some x) (some mm) (some q) true)(k:Nat):∃m,CV (v.alloc (.cells #[.int .i64 (k:Int),.pointer (some ⟨x,0,none⟩),.map (some mm)] fL)) (· =q) v.heap.size k (gv id) m/\m.x=x/\(∀j,m.own v.heap.size j->w.heap.size<=j)/\w.heap.size<=q:=by
 have k1:Kept Nil v (v.alloc (.cells #[.int .i64 (k:Int),.pointer (some ⟨x,0,none⟩),.map (some mm)] fL)):=(Kept.refl _ _).alloc _;have ht:=aR v (.cells #[.int .i64 (k:Int),.pointer (some ⟨x,0,none⟩),.map (some mm)] fL);generalize v.alloc (.cells #[.int .i64 (k:Int),.pointer (some ⟨x,0,none⟩),.map (some mm)] fL)=u at k1 ht⊢;obtain⟨S,h1,h2⟩:=h.x x rfl;obtain⟨h3,h4⟩:=h.m mm rfl;obtain⟨h5,h6⟩:=h.q q rfl;have fH:=h.ne mm q rfl rfl;have lm:=h4.lt;have lq:=aZ h6;have lt:=aZ ht;have hs:=k1.size;have hw:=h.kp.size;refine⟨⟨x,mm,S,fun _=>False,fun _=>q,fun _ _=>none⟩,⟨ht,h1.same k1,?_,?_,mo k id,SZ.root id,fun _ h=>h.elim,?_,?_,?_,?_⟩,rfl,?_,h5⟩
 ·have:=h4.same k1
  have ef:(fun h=>if h∈ids (gv id).D then some (Value.pointer (some ⟨q,0,none⟩))else none)=fun y=>if true=true/\y=id then(some q).map (fun q=>Value.pointer (some ⟨q,0,none⟩))else none:=by
   funext y
   by_cases hy:y=id
   ·simp [hy,gv,ids]
   ·simp [hy,gv,ids]
  show dW u mm (fun h=>if h∈ids (gv id).D then some (Value.pointer (some ⟨q,0,none⟩))else none)
  rw [ef];exact this
 ·intro y hy
  have:y=id:=by simpa [gv,ids]using hy
  subst this;obtain⟨q1,_⟩:=(mo k y).root ⟨y,[]⟩ rfl
  replace q1:(gv y).iR y=_:=q1
  rw [q1];exact⟨none,0,0,none,0,0,none,k1.heap h6 (fun h=>h),HS.nil _ _,⟨rfl,fun i b hi=>by simp at hi⟩,fun a ha=>(by cases ha),fun a ha=>(by cases ha),.inl ⟨rfl,fun _=>rfl⟩,rfl⟩
 ·rintro j rfl e
  rcases e with e|e|e
  ·exact(h2 _ e).2.2.2 rfl
  ·have e:j=v.heap.size:=e;omega
  ·exact fH e.symm
 ·intro j e
  have:=h2 j e;exact⟨by omega,fun e=>this.2.2.1 (by rw [e])⟩
 ·show v.heap.size≠mm;omega
 ·rintro j (e|e)
  ·rcases e with e|e|e
   ·have:=h2 j e;omega
   ·have e:j=v.heap.size:=e;omega
   ·have e:j=mm:=e;omega
  ·have e:j=q:=e;omega
 ·intro j e
  rcases e with e|e|e
  ·have:=h2 j e;omega
  ·have e:j=v.heap.size:=e;omega
  ·have e:j=mm:=e;omega
theorem gM(id:HT){k:Nat}(hk:k<=100)(hK:∀w' c q m,CV w' (· =q) c k (gv id) m->(∀j,m.own c j->w.heap.size<=j)->w.heap.size<=q->Kept Nil w w'->K (.tuple #[.pointer (some ⟨c,0,none⟩),.int .i64 0]) w'):
 bm prog gM.id #[.int .i64 (k:Int),.agg id.1] w K:=by
 refine gM.of ?_;unfold gM.W;intro w1;have k1:Kept Nil w w1:=(Kept.refl _ _).alloc _;have FV:w1.heap[w.heap.size]? =some (.cells id.1 ax (0,0)):=aR w _;clear_value w1;refine Split.no (decide_eq_false (by omega)) (Split.no (decide_eq_false (by omega)) ?_);intro w2;have k2:Kept Nil w1 w2:=(Kept.refl _ _).drew;clear_value w2;have oz:=k2.heap FV (fun h=>h);have oE:=k1.tt k2;have s02:=oE.size;have N0:GN w2 w2 id none none none false:=⟨Kept.refl _ _,fun _ h=>(by cases h),fun _ h=>(by cases h),fun _ h=>(by cases h),fun _ _ h=>(by cases h)⟩;have bx:∀ {v:World},Kept Nil w2 v->∃cs:Array Value,(.agg id.1:Value)=.agg cs/\cs.size=32/\Cells v ⟨w.heap.size,0,none⟩ cs:=fun kv=>⟨id.1,rfl,id.2.1,Cells.bS (kv.heap oz (fun h=>h))⟩;have fin:∀ {v:World} {x mm q:Nat},GN w2 v id (some x) (some mm) (some q) true->let p:=v.alloc (.cells #[.int .i64 (k:Int),.pointer (some ⟨x,0,none⟩),.map (some mm)] fL);K (.tuple #[.pointer (some (aU v.heap.size)),.int .i64 0]) p:=fun {v x mm q} N=>by
  obtain⟨m,h1,_,h2,h3⟩:=N.fin k;exact hK _ _ q m h1 (fun j e=>by have:=h2 j e;omega) (by omega) ((oE.tt N.kp).alloc _)
 refine⟨id.1,⟨id.2.1,Cells.bS oz⟩,id.1,⟨id.2.1,Cells.bS oz⟩,?_,?_,?_⟩
 ·refine gH id fun v x hX kv=>⟨_,rfl,?_⟩
  have N1:=N0.zM hX (fun j e=>e) kv;refine⟨bx N1.kp,⟨?_,?_⟩⟩
  ·have N2:=N1.Fu
   have N3:=N2.Ft;obtain⟨u,hu,N4⟩:=N3.put;exact⟨bx N2.kp,bx N3.kp,u,hu,fin N4⟩
  ·have N2:=N1.Ft
   have N3:=N2.Fu;obtain⟨u,hu,N4⟩:=N3.put;exact⟨bx N2.kp,bx N3.kp,u,hu,fin N4⟩
 ·have N1:=N0.Fu
  refine⟨bx N1.kp,bx N1.kp,?_,?_⟩
  ·refine gH id fun v x hX kv=>⟨_,rfl,?_⟩
   have N2:=N1.zM hX (fun j e=>e) kv;have N3:=N2.Ft;obtain⟨u,hu,N4⟩:=N3.put;exact⟨bx N2.kp,bx N3.kp,u,hu,fin N4⟩
  ·have N2:=N1.Ft
   refine⟨bx N2.kp,bx N2.kp,?_,?_⟩
   ·refine gH id fun v x hX kv=>⟨_,rfl,?_⟩
    have N3:=N2.zM hX (fun j e=>e) kv;obtain⟨u,hu,N4⟩:=N3.put;exact⟨bx N3.kp,u,hu,fin N4⟩
   ·obtain⟨u,hu,N3⟩:=N2.put
    refine⟨u,hu,bx N3.kp,?_⟩;refine gH id fun v x hX kv=>⟨_,rfl,?_⟩;exact fin (N3.zM hX (fun j e=>e) kv)
 ·have N1:=N0.Ft
  refine⟨bx N1.kp,bx N1.kp,?_,?_⟩
  ·refine gH id fun v x hX kv=>⟨_,rfl,?_⟩
   have N2:=N1.zM hX (fun j e=>e) kv;have N3:=N2.Fu;obtain⟨u,hu,N4⟩:=N3.put;exact⟨bx N2.kp,bx N3.kp,u,hu,fin N4⟩
  ·have N2:=N1.Fu
   refine⟨bx N2.kp,bx N2.kp,?_,?_⟩
   ·refine gH id fun v x hX kv=>⟨_,rfl,?_⟩
    have N3:=N2.zM hX (fun j e=>e) kv;obtain⟨u,hu,N4⟩:=N3.put;exact⟨bx N3.kp,u,hu,fin N4⟩
   ·obtain⟨u,hu,N3⟩:=N2.put
    refine⟨u,hu,bx N3.kp,?_⟩;refine gH id fun v x hX kv=>⟨_,rfl,?_⟩;exact fin (N3.zM hX (fun j e=>e) kv)
end
end Go.Proofs.YtfleamccglihoaaGreatDoor
