import Derived.Test.YtfleamccglihoaaGreatDoorMS
import Derived.Test.YtfleamccglihoaaGreatDoorMQ
import Derived.Test.YtfleamccglihoaaGreatDoorMJ
import Derived.Test.YtfleamccglihoaaGreatDoorMP
open Go.IntKind (i64 u64)
set_option linter.unusedVariables false
namespace Go.Proofs.YtfleamccglihoaaGreatDoor
open Go.Proofs.Tryz
open Go Go.cF Go.RowKit
theorem Ck(D:DG)(s:HT){l:List HT}(hl:∀x∈l,x∈ids D):(uJ D s l).length<=D.length:=by
 have:=eJ (m:=ids D) (sO D s l) (λx hx=>by
  rcases(wW.1 hx).1 with h|h
  ·exact h.1
  ·exact hl x h)
 rwa [iL]at this
theorem zo{D:DG}{l:List HT}(h:lD D l=0):l≠ []/\∀x∈l,x∈ids D:=by
 unfold lD at h;split at h
 ·cases h
 ·rename_i h0
  split at h
  ·cases h
  ·rename_i h1
   exact⟨h0,λx hx=>Classical.byContradiction λe=>h1 ⟨x,hx,e⟩⟩
section
variable{w w':World}{F:Nat->Prop}{c k:Nat}{G:GS}{m:CM}{K:Value->World->Prop}{A:Option Addr}{n cx:Nat}{l:List HT}{s:HT}
theorem oB.ln{q B sm bb cp e ce:Nat}{x:qF}{ov:HT->Option Nat}{E:Option Addr}(h:oB w B q sm bb x ov A n cp E e ce):Cells w ((⟨q,0,none⟩:Addr).add 0) (dI x A n cp E e ce):=by
 intro j u hj;rw [add_zero,bO,aI h.top,Array.getElem?_append_left (by rw [bR];have:=(Array.getElem?_eq_some_iff.1 hj).1;rw [bR]at this;omega)];rw [Nat.zero_add];exact hj
theorem xF(h:CV w F c k G m)(hT:tm w)(hD:G.D.length<=49)(pJ:k<=1000)(EH:HS w A n l)(hn:n<=5000)
 (h0:lD G.D (s::l)≠0->∀w',Kept Nil w w'->K (.tuple #[.agg (dI ⟨gu,0,[],[]⟩ none 0 0 none 0 0),.int .i64 (lD G.D (s::l))]) w')
 (h1:lD G.D (s::l)=0->∀w' A n cp E e ce,HS w' A n (dE k G s l).merge->Bo w' E e (dE k G s l).gZ->Kept Nil w w'->(∀a,A=some a->w.heap.size<=a.block)->K (.tuple #[.agg (dI (dE k G s l) A n cp E e ce),.int .i64 0]) w'):
 bJ prog eF.id #[.pointer (some ⟨c,0,none⟩),.agg s.1,.slice A n cx] w K:=by
 refine eF.of ?_;unfold eF.W;intro w1 w2;have k1:Kept Nil w w1:=(Kept.refl _ _).alloc _;have vN:w1.heap[w.heap.size]? =some (.cells s.1 ai (0,0)):=aO w _;have k2:Kept Nil w1 w2:=(Kept.refl _ _).alloc _;have lj:w2.heap[w1.heap.size]? =some (.cells zC bT (0,0)):=aO w1 _;clear_value w2;have zD:=k2.heap vN (λh=>h);have mT:=k1.tt k2;have s1:=k1.size;have l1:=bt vN;have l2:=bt lj;clear_value w1;refine⟨s.1,⟨s.2.1,Cells.bX zD⟩,s.2.1,?_⟩;intro w3;have k3:Kept Nil w2 w3:=(Kept.refl _ _).alloc _;have wc:HS w3 (some ⟨w2.heap.size,0,none⟩) 1 [s]:=jy w2 s;have oR:bY w3 w.heap.size (some ⟨w2.heap.size,0,none⟩) 1 1 [s]:=by
  have e:dK [s]=(s.1.toList++ []).toArray.toList:=by simp [dK]
  show Row _ _ _ _ _ _ _ (dK [s])
  rw [e];exact Row.made (aO w2 _) (by have:=mT.size;omega) (by simp [s.2.1]) (by unfold maxLen;omega)
 clear_value w3;have jH:=mT.tt k3;have s2:=mT.size;have s3:=jH.size;obtain⟨A2,c2,w4,zE,lh,g4,U2⟩:=dp aH oR (cx:=cx) (EH.same jH) (by omega) s3;have yh:Kept (λj=>w.heap.size<=j) w3 w4:=(Kept.refl _ _).grown g4 λj hj _=>(Row.bX oR hj).1;have mD:Kept Nil w w4:=Kept.dY jH g4 (λj hj=>(Row.bX oR hj).1);have tA:Kept Nil w2 w4:=Kept.dY k3 g4 (λj hj=>by cases hj;exact Nat.le_refl _);have CH:=tA.heap zD (λh=>h);have adO:=tA.heap lj (λh=>h);refine⟨A2,_,c2,w4,zE,?_⟩;refine zN (h.same mD) (show HS w4 A2 (1+n) (s::l)from lh.hs) (by omega) λw5 k5=>⟨_,rfl,?_⟩;have pq:=mD.tt k5;have NJ:=k5.heap CH (λh=>h);have tZ:=k5.heap adO (λh=>h);have zs:(zC:Array Value)=dI ⟨gu,0,[],[]⟩ none 0 0 none 0 0:=rfl;by_cases hm:lD G.D (s::l)=0
 ·refine Split.no (by simp [hm]) ⟨s.1,⟨s.2.1,Cells.bX NJ⟩,?_⟩
  obtain⟨_,gD⟩:=zo hm;have h5:=h.same pq;have P6:∀x∈l,x∈ids G.D:=λx hx=>gD x (List.mem_cons_of_mem _ hx);obtain⟨ch,qx⟩:=eh.ex h.iN.jv s;refine xE FW (Nat.le_trans (Ck G.D s P6) hD) h5 (hT.same pq) (by omega) pJ (gD s List.mem_cons_self) qx P6 (EH.same pq) hn λv q B sm bb ov A n cp E e ce g1 _ g3 _ g5 g6 g7=>?_;refine⟨some ⟨q,0,none⟩,rfl,Is.mk rfl ?_⟩;have Mm:=g7.heap tZ (λh=>h);obtain⟨t1,t2,t3⟩:=hU Mm (cs:=dI (dE k G s l) A n cp E e ce) (by rw [bR];rfl);refine⟨_,⟨bR ..,g1.ln⟩,⟨bR ..,gv _ _ _ _ _ _ _,λj hj=>t1 j (by rw [bR];exact hj)⟩,?_⟩;intro w8
  replace t2:w8.heap[w1.heap.size]? =_:=t2
  replace t3:Kept (· =w1.heap.size) v w8:=t3
  clear_value w8;refine⟨_,⟨bR ..,Cells.bX t2⟩,?_⟩;have s5:=pq.size;have dD:w1.heap.size<w5.heap.size:=bt tZ;refine h1 hm w8 A n cp E e ce (g1.mg.aN t3 (λa ha e=>?_)) ((Row.bo g1.bl).aN t3 (λa ha e=>?_)) ((pq.tt g7).trans t3 (λj hj e=>by omega)) (λa ha=>by have:=g5 a ha;omega)
  ·have:=g5 a ha
   omega
  ·subst ha
   have:=(Row.bX g1.bl (k:=a.block) rfl).1;have:=g6.1;omega
 ·refine Split.yes (by simpa using hm) ?_
  obtain⟨t1,t2,t3⟩:=hU tZ (cs:=zC) rfl;refine⟨⟨rfl,by rw [zs];exact gv _ _ _ _ _ _ _,λj hj=>t1 j hj⟩,?_⟩;exact⟨_,⟨rfl,Cells.bX t2⟩,h0 hm _ (pq.trans t3 (λj hj e=>by omega))⟩
end
theorem XV.off{w:World}{D:DG}{P:List Int}{m:XM}{x:Nat}{F:Nat->Prop}(h:XV w F x D P m):∀k,m.lU x k->¬F k:=λk e=>by
 obtain⟨bl,c,mb,M,G⟩:=h.G;rcases e with e|e|e|e
 ·exact G.Jh k e
 ·exact λf=>(h.fd k f).1 e
 ·exact λf=>(h.fd k f).2 e
 ·exact(h.od k e).2.2.2
section
variable{w w':World}{F F':Nat->Prop}{c k q:Nat}{G:GS}{m:CM}{K:Value->World->Prop}{A B:Option Addr}{n cx cp e ce:Nat}{l:List HT}{x:qF}{sz:HT->Option Nat}{sm:Option Nat}
theorem Seen.mono(h:Seen w F q x sz)(hF:∀j,F j->F' j):Seen w F' q x sz:=by
 obtain⟨A,n,cp,B,e,ce,sm,h⟩:=h;refine⟨A,n,cp,B,e,ce,sm,h.top,h.mg,h.bl,λa ha=>hF _ (h.fA a ha),λa ha=>hF _ (h.fB a ha),?_,hF _ h.fq⟩;rcases h.sz with g|⟨s,g1,g2,g3⟩
 ·exact .inl g
 ·exact .inr ⟨s,g1,hF _ g2,g3⟩
abbrev OO:Array Value:=dI ⟨gu,0,[],[]⟩ none 0 0 none 0 0
theorem FB(D:DG)(h:HT)(l:List HT):fg D h l=if h∈ids D then 7 else if l.length=0 then 9 else if(dP l).length≠l.length then 9 else lD D l:=by
 unfold fg lD;by_cases h1:h∈ids D
 ·rw [if_pos h1,if_pos h1]
 ·rw [if_neg h1,if_neg h1]
  by_cases h2:l.length=0
  ·rw [if_pos h2,if_pos (.inl (by have:=oI l;omega))]
  ·have hl:l≠ []:=λe=>h2 (by rw [e];rfl)
   rw [if_neg h2];by_cases h3:(dP l).length≠l.length
   ·rw [if_pos h3,if_pos (.inr h3)]
   ·have a:¬((dP l).length=0\/(dP l).length≠l.length):=by omega
    have hc:(∃p∈dP l,p∉ids D)↔∃p∈l,p∉ids D:=⟨λ⟨p,hp,hq⟩=>⟨p,dU.1 hp,hq⟩,λ⟨p,hp,hq⟩=>⟨p,dU.2 hp,hq⟩⟩;rw [if_neg h3,if_neg a,if_neg hl];by_cases h4:∃p∈l,p∉ids D
    ·rw [if_pos h4,if_pos (hc.2 h4)]
    ·rw [if_neg h4,if_neg (λe=>h4 (hc.1 e))]
set_option maxHeartbeats 2000000 in
theorem IE(h:CV w F c k G m)(hT:tm w)(Mx:¬m.SX (Tryz.lG.g 1))(hD:G.D.length<=49)(pJ:k<=1000)(EH:HS w A n l)(hn:n<=5000)(id:HT)
 (hE:fg G.D id l≠0->∀w',Kept Nil w w'->K (.tuple #[.agg OO,.int .i64 (fg G.D id l)]) w')
 (hO:fg G.D id l=0->∀w' F' m' A n c1 B e c2,CV w' F' c k (eZ k G id l) m'->m'.x=m.x->Kept (m.own c) w w'->(∀j,m'.own c j->m.own c j\/w.heap.size<=j)->(∀j,F' j->F j\/w.heap.size<=j)->
   bY w' w.heap.size A n c1 (dE k G (cf G l) l).merge->Row w' w.heap.size jW 1 B e c2 (uX (dE k G (cf G l) l).gZ)->(∀j,bL A=some j->bL B≠some j)->(∀j,bL A=some j\/bL B=some j->¬m'.own c j/\¬F' j)->
   K (.tuple #[.agg (dI (dE k G (cf G l) l) A n c1 B e c2),.int .i64 0]) w'):
 bJ prog eW.id #[.pointer (some ⟨c,0,none⟩),.agg id.1,.slice A n cx] w K:=by
 have hlen:=EH.len;refine eW.of ?_;unfold eW.W;intro w1 w2;have k1:Kept Nil w w1:=(Kept.refl _ _).alloc _;have vN:w1.heap[w.heap.size]? =some (.cells id.1 ai (0,0)):=aO w _;have k2:Kept Nil w1 w2:=(Kept.refl _ _).alloc _;have lj:w2.heap[w1.heap.size]? =some (.cells zC bT (0,0)):=aO w1 _;clear_value w2;have zD:=k2.heap vN (λh=>h);have mT:=k1.tt k2;have s1:=k1.size;have l1:=bt vN;have l2:=bt lj;clear_value w1;have zs:(zC:Array Value)=OO:=rfl;have bad:∀ {u:World} {r:Int},Kept Nil w2 u->fg G.D id l=r->r≠0->(zC.size=35/\(∀n∈zC.toList,n.oneCell'=true)/\∀o,o<35->Wr u ((aU w1.heap.size).add o))/\
  let p:=setCells u (aU w1.heap.size) zC.toList 0;∃q:Array Value,(q.size=35/\Cells p (aU w1.heap.size) q)/\K (.tuple #[.agg q,.int .i64 r]) p:=λ{u r} ku hr h0=>by
  obtain⟨t1,t2,t3⟩:=hU (ku.heap lj (λh=>h)) (cs:=zC) rfl;refine⟨⟨rfl,by rw [zs];exact gv _ _ _ _ _ _ _,λj hj=>t1 j hj⟩,?_⟩;refine⟨_,⟨rfl,Cells.bX t2⟩,?_⟩;have:=hE (by rw [hr];exact h0) _ ((mT.tt ku).trans t3 (λj hj e=>by omega));rw [hr]at this;exact this
 have lE:=FB G.D id l;refine rz (h.same mT) ⟨true,rfl,Split.no rfl ?_⟩;intro w3;have k3:Kept Nil w2 w3:=(Kept.refl _ _).drew;clear_value w3;have jH:=mT.tt k3;have h3:=h.same jH;refine⟨_,h3.c2,id.1,⟨id.2.1,Cells.bX (k3.heap zD (λh=>h))⟩,_,h3.look id,?_⟩;by_cases hid:id∈ids G.D
 ·rw [if_pos hid]at lE
  exact Split.yes (by rw [if_pos hid];rfl) (bad k3 lE (by decide))
 rw [if_neg hid]at lE;refine Split.no (by rw [if_neg hid];rfl) ?_;by_cases Gy:n=0
 ·rw [if_pos (by omega)]at lE
  exact Split.yes (by subst Gy;rfl) (bad k3 lE (by decide))
 rw [if_neg (by omega)]at lE;refine Split.no (by simpa using (by omega:¬(n:Int)=0)) ?_;refine im (EH.same jH) (by omega) λA4 c4 w4 lh k4=>⟨A4,_,c4,rfl,?_⟩;have tA:=k3.tt k4;have mD:=jH.tt k4;by_cases Ie:(dP l).length≠l.length
 ·rw [if_pos Ie]at lE
  exact Split.yes (by simp only [bne_iff_ne,ne_eq];omega) (bad tA lE (by decide))
 rw [if_neg Ie]at lE;refine Split.no (by simp only [bne_eq_false_iff_eq];omega) ?_;refine pX (h.same mD) (EH.same mD) (by omega) λw5 k5=>⟨_,_,rfl,?_⟩;have Kn:=tA.tt k5;have pq:=mD.tt k5;generalize oW:(if lD G.D l=0 then cf G l else gu)=s;intro w6;have k6:Kept Nil w5 w6:=(Kept.refl _ _).alloc _;have rr:w6.heap[w5.heap.size]? =some (.cells gu.1 ai (0,0)):=aO w5 _;clear_value w6;obtain⟨t1,t2,t3⟩:=iZ s rr rfl;refine⟨t1,?_⟩;intro w7
 replace t2:w7.heap[w5.heap.size]? =some (.cells s.1 ai (0,0)):=t2
 replace t3:Kept (· =w5.heap.size) w6 w7:=t3
 clear_value w7;have AD:Kept Nil w5 w7:=k6.trans t3 (λj hj e=>by omega);have RC:=Kn.tt AD;have tX:=pq.tt AD;by_cases hm:lD G.D l≠0
 ·exact Split.yes (by simpa using hm) (bad RC lE hm)
 have hm:lD G.D l=0:=by omega
 rw [if_pos hm]at oW;rw [hm]at lE⊢;refine Split.no rfl ⟨s.1,⟨s.2.1,Cells.bX t2⟩,?_⟩;obtain⟨gQ,gD⟩:=zo hm;have Ew:s∈l:=by rw [<-oW];exact kF gQ
 obtain⟨ch,qx⟩:=eh.ex h.iN.jv s;have h7:=h.same tX;refine xE FW (Nat.le_trans (Ck G.D s gD) hD) h7 (hT.same tX) (by omega) pJ (gD s Ew) qx gD (EH.same tX) hn λv q B sm bb ov Am nm cp E e ce g1 gO g3 g4 g5 g6 g7=>⟨some ⟨q,0,none⟩,rfl,?_⟩;have yz:=tX.tt g7;have Kl:=RC.tt g7;have k5v:=AD.tt g7;have s07:=tX.size;have s0v:=yz.size;intro w8;have k8:Kept Nil v w8:=(Kept.refl _ _).drew;clear_value w8;have Bl:=yz.tt k8;have h8:=h.same Bl;have g18:=g1.same k8;have s8:=k8.size;refine⟨_,h8.c1,id.1,⟨id.2.1,Cells.bX ((Kl.tt k8).heap zD (λh=>h))⟩,s.1,⟨s.2.1,Cells.bX (((g7.tt k8)).heap t2 (λh=>h))⟩,?_⟩;refine D3 h8.X (by omega) (hT.same Bl) Mx (EH.same Bl) hn id s λu S' FX' hX9 k9 hS9 U1=>⟨_,rfl,?_⟩;have eX:pE G.D id s l=(eZ k G id l).D/\pD G.D G.P id s l=(eZ k G id l).P:=by rw [<-oW];exact⟨LS.symm,LU.symm⟩
 rw [eX.1,eX.2]at hX9;obtain⟨mx,X9,hmx⟩:=hX9;have yw:∀j,m.own c j\/F j->j<w.heap.size:=h.low;have g1q:q<v.heap.size:=bt g1.top;have g1s:sm<v.heap.size:=g1.ov.lt;have xI:∀j,w.heap.size<=j->¬m.SX j:=λj hj e=>by have:=yw j (.inl (.inl e));omega
 have g19:=g18.aN k9 (xI q (by omega)) (xI sm (by omega)) (λj hj _=>xI j (by have:=g6.1;omega)) (λa ha=>xI _ (by have:=g5 a ha;omega));have s9:=k9.size;have Nt:Kept m.SX w2 u:=((Kl.tt k8).mono λ_ _ h=>h.elim).tt k9;have ncm:¬m.SX c/\¬m.SX m.mb:=⟨λe=>(h.so _ e).1 rfl,λe=>(h.so _ e).2 rfl⟩;have Vq:u.heap[c]? =_:=k9.heap h8.top ncm.1;have agG:=h8.all.aN k9 ncm.2;intro w10;have oV:Kept Nil u w10:=(Kept.refl _ _).drew;clear_value w10;have Vs:=oV.heap Vq (λh=>h);have NK:=(Nt.trans oV (λ_ _ h=>h.elim)).heap zD (λe=>xI _ (Nat.le_refl _) e);have aam:=agG.aN oV (λh=>h);obtain⟨oH,ad0,aal,wa⟩:=aam.put JV id (.pointer (some ⟨q,0,none⟩));refine⟨some m.mb,by rw [bO,aI Vs];rfl,id.1,⟨id.2.1,Cells.bX NK⟩,oH,ad0,Is.mk rfl ?_⟩;have s10:=oV.size;have s11:=wa.size;have lmb:m.mb<w.heap.size:=yw _ (.inl (.inr (.inr rfl)));have lc:c<w.heap.size:=yw _ (.inl (.inr (.inl rfl)));have Nk:Kept (· =m.mb) u oH:=(oV.mono λ_ _ h=>h.elim).tt wa;have OG:=g19.aN Nk (by omega) (by omega) (λj hj _ e=>by have:=g6.1;omega) (λa ha e=>by have:=g5 a ha;omega);have agC:=Row.bo OG.bl;have WR:Kept (m.own c) w oH:=((Bl.mono (S':=m.own c) λ_ _ h=>h.elim).trans k9 (λ_ _ h=>.inl h)).trans Nk (λ_ _ h=>.inr (.inr h));refine⟨_,⟨bR ..,OG.ln⟩,?_⟩;have Bs:=g1.mg.len;have hnm:nm<=49:=by
  have Mi:(dE k G s l).merge=cZ G s l:=rfl;have Br:(cZ G s l).length<=49:=by
   have:=eJ (m:=ids G.D) (mH G s l).nodup (λy hy=>by
    rcases(jR.1 hy).1 with h|h
    ·exact h.1
    ·exact gD y h)
   rw [iL]at this;omega
  rw [Mi]at Bs;omega
 have hem:e<=49:=by
  have h1:=(wm k G s l).1;have h2:=(Row.bo g1.bl).len;have Mi:(dE k G s l).merge=cZ G s l:=rfl;have hv2:(dE k G s l).gZ=(iO k G s l).bl:=rfl;rw [hv2]at h2;rw [Mi]at Bs;omega
 refine vT (dE k G s l) OG.mg agC (by omega) (by omega) λA' c1 B' c2 nM sy JH X5 yl=>⟨_,rfl,?_⟩;have WM:Kept (m.own c) w2 nM:=((Nt.mono (S':=m.own c) λ_ _ h=>.inl h).trans Nk (λ_ _ h=>.inr (.inr h))).trans yl (λ_ _ h=>h.elim);have fr2:∀j,w.heap.size<=j->¬m.own c j:=λj hj e=>by have:=yw j (.inl e);omega
 have adT:=WM.heap lj (fr2 _ (by omega));obtain⟨f1,f2,f3⟩:=hU adT (cs:=dI (dE k G s l) A' nm c1 B' e c2) (by rw [bR];rfl);refine⟨⟨bR ..,gv _ _ _ _ _ _ _,λj hj=>f1 j (by rw [bR];exact hj)⟩,?_⟩;intro oD
 replace f2:oD.heap[w1.heap.size]? =_:=f2
 replace f3:Kept (· =w1.heap.size) nM oD:=f3
 clear_value oD;refine⟨_,⟨bR ..,Cells.bX f2⟩,?_⟩;have xp:Kept (· =w1.heap.size) oH oD:=(yl.mono λ_ _ h=>h.elim).tt f3;have s13:=xp.size;have lw1:w1.heap.size<w7.heap.size:=Nat.lt_of_lt_of_le l2 RC.size;rw [oW]at hO;have yD:=nf (k:=k) (G:=G) (h:=id) (ps:=l) lE;have YB:ids (eZ k G id l).D=ids G.D++ [id]:=by rw [yD];simp [ids]
 let F':Nat->Prop:=λj=>F j\/(w7.heap.size<=j/\j<v.heap.size)\/FX' j
 let m':CM:=⟨m.x,m.mb,mx.lU m.x,FX',λy=>if y=id then q else m.q y,λy=>if y=id then ov else m.sz y⟩
 have UP:∀j,mx.lU m.x j->m.SX j\/w8.heap.size<=j:=λj e=>hS9 j (hmx j e);have acw:∀j,m'.own c j->m.own c j\/w8.heap.size<=j:=λj e=>by
  rcases e with e|e|e
  ·exact(UP j e).imp (λe=>.inl e) (λe=>e)
  ·exact .inl (.inr (.inl e))
  ·exact .inl (.inr (.inr e))
 have xf:∀j,F' j->F j\/(w7.heap.size<=j/\j<u.heap.size):=λj e=>by
  rcases e with e|e|e
  ·exact .inl e
  ·exact .inr ⟨e.1,by omega⟩
  ·rcases U1 j e with e'|e'
   ·exact .inl (h.fx j e')
   ·exact .inr ⟨by omega,X9.low j (.inr e)⟩
 have Pf:∀j,mx.lU m.x j->j<u.heap.size:=λj e=>X9.low j (.inl e);have kuW:Kept (λj=>j=m.mb\/j=w1.heap.size) u oD:=(Nk.mono λ_ _ h=>.inl h).trans xp (λ_ _ h=>.inr h);have n1:∀j,F' j->¬(j=m.mb\/j=w1.heap.size):=λj e e'=>by
  rcases e' with e'|e'
  ·rcases xf j e with e|e
   ·exact h.fo j e (.inr (.inr e'))
   ·omega
  ·rcases xf j e with e|e
   ·have:=yw j (.inr e);omega
   ·omega
 have n2:∀j,mx.lU m.x j->¬(j=m.mb\/j=w1.heap.size):=λj e e'=>by
  rcases e' with e'|e'
  ·rcases UP j e with e|e
   ·exact(h.so j e).2 e'
   ·omega
  ·rcases UP j e with e|e
   ·have:=yw j (.inl (.inl e));omega
   ·have:=k8.size;have:=g7.size;omega
 have OF:oB oD B q sm bb (dE k G s l) ov Am nm cp E e ce:=OG.aN xp (by omega) (by omega) (λj hj _ e=>by have:=g6.1;omega) (λa ha e=>by have:=g5 a ha;omega);have C':CV oD F' c k (eZ k G id l) m':=by
  refine⟨?_,?_,?_,?_,h.iN.add id l,?_,λj e=>.inr (.inr e),?_,?_,h.ne,?_⟩
  ·exact kuW.heap Vq (λe=>by rcases e with e|e;exact h.ne e;omega)
  ·exact⟨mx,X9.aN kuW n2 (λj e=>n1 j (.inr (.inr e))),λ_ e=>e⟩
  ·have:=aal.aN xp (by show ¬m.mb=_;omega)
   have ef:(λh=>if h∈ids (eZ k G id l).D then some (Value.pointer (some ⟨m'.q h,0,none⟩))else none)=λx=>if x=id then some (Value.pointer (some ⟨q,0,none⟩))else if x∈ids G.D then some (.pointer (some ⟨m.q x,0,none⟩))else none:=by
    funext y
    rw [YB];by_cases hy:y=id
    ·simp [hy,m']
    ·by_cases PC:y∈ids G.D
     ·simp [hy,PC,m']
     ·simp [hy,PC]
   rw [ef];exact this
  ·intro y hy
   rw [YB,List.mem_append,List.mem_singleton]at hy;by_cases he:y=id
   ·subst he
    rw [(uq h.iN lE).1,oW];have e1:m'.q y=q:=if_pos rfl;have e2:m'.sz y=ov:=if_pos rfl;rw [e1,e2];refine⟨Am,nm,cp,E,e,ce,some sm,OF.top,OF.mg,Row.bo OF.bl,λa ha=>.inr (.inl ⟨g5 a ha,?_⟩),λa ha=>.inr (.inl ?_),.inr ⟨sm,rfl,.inr (.inl ⟨g4,g1s⟩),OF.ov⟩,.inr (.inl ⟨g3,g1q⟩)⟩
    ·have:=(g1.mA a ha).1
     have:=g6.2;omega
    ·subst ha
     obtain⟨q1,cur,q2⟩:=Row.bX g1.bl (k:=a.block) rfl;have:=bt q2;have:=g6.1;exact⟨by omega,this |>λ_=>bt q2⟩
   ·have hy:y∈ids G.D:=hy.elim (λe=>e) (λe=>absurd e he)
    rw [(pF h.iN hy).1];have e1:m'.q y=m.q y:=if_neg he;have e2:m'.sz y=m.sz y:=if_neg he;rw [e1,e2];exact(((h8.seen y hy).aN k9 (λj e e'=>h.fo j e (.inl e'))).aN kuW (λj e=>n1 j (.inl e))).mono (λj e=>.inl e)
  ·have afb:eh G.D G.P (cf G l) ch:=by rw [oW];exact qx
   rw [<-oW]at gO;exact SZ.add h.Z h.iN lE afb gO
  ·intro j e e'
   rcases e' with e'|e'|e'
   ·rcases e with e|e|e
    ·rcases UP j e' with e'|e'
     ·exact h.fo j e (.inl e')
     ·have:=yw j (.inr e);omega
    ·rcases UP j e' with e'|e'
     ·have:=yw j (.inl (.inl e'));omega
     ·omega
    ·exact XV.off X9 j e' e
   ·rcases xf j e with e|e
    ·exact h.fo j e (.inr (.inl e'))
    ·have e':j=c:=e';omega
   ·rcases xf j e with e|e
    ·exact h.fo j e (.inr (.inr e'))
    ·have e':j=m.mb:=e';omega
  ·intro j e
   rcases UP j e with e'|e'
   ·exact h.so j e'
   ·exact⟨by omega,by show j≠m.mb;omega⟩
  ·rintro j (e|e)
   ·rcases e with e|e|e
    ·have:=Pf j e;omega
    ·have e:j=c:=e;omega
    ·have e:j=m.mb:=e;omega
   ·rcases xf j e with e|e
    ·have:=yw j (.inr e);omega
    ·omega
 have IA:∀j,bL A'=some j->oH.heap.size<=j:=λj hj=>(Row.bX sy hj).1;have TM:∀j,bL B'=some j->oH.heap.size<=j:=λj hj=>(Row.bX JH hj).1;have Z9:∀j,oH.heap.size<=j->¬m'.own c j/\¬F' j:=λj hj=>⟨λe=>by
  rcases e with e|e|e
  ·have:=Pf j e;omega
  ·have e:j=c:=e;omega
  ·have e:j=m.mb:=e;omega,λe=>by
  rcases xf j e with e|e
  ·have:=yw j (.inr e);omega
  ·omega⟩
 exact hO lE oD F' m' A' nm c1 B' e c2 C' rfl ((WR.trans xp (λj hj e=>by omega))) (λj e=>(acw j e).imp (λh=>h) (λh=>by omega)) (λj e=>(xf j e).imp (λh=>h) (λh=>by omega))
  (Row.base (Row.aN sy f3 (λj hj e=>by have:=IA j hj;omega)) (λj hj=>by have:=IA j hj;omega)) (Row.base (Row.aN JH f3 (λj hj e=>by have:=TM j hj;omega)) (λj hj=>by have:=TM j hj;omega)) X5
  (λj hj=>Z9 j (hj.elim (IA j) (TM j)))
end
section
variable{k:Nat}{G:GS}
theorem zT:∀(m:List HT) (b:List Bool),(fF m b).length<=m.length
 | [],_=>by simp [fF]
 |_::_,[]=>by simp [fF]
 |h::l,b::m=>by
  have:=zT l m;unfold fF;split
  ·simp only [List.length_cons];omega
  ·simp only [List.length_cons];omega
end
section
variable{w w' np:World}{B ob bx:Nat}{av av':Nat->Prop}{acc:List HT}
end
section
variable{w w' v:World}{F:Nat->Prop}{c k:Nat}{G:GS}{m:CM}{K:Value->World->Prop}
end
section
variable{w w':World}{F:Nat->Prop}{c k:Nat}{G:GS}{m:CM}{K:Value->World->Prop}
theorem ux(h:jM k G){a:HT}(ha:a∈ids G.D):(G.world a).length<=G.D.length:=by
 have:=eJ (m:=ids G.D) (h.wd a ha).1 (λb hb=>(((h.wd a ha).2.1 b hb).mem h.W).1)
 rwa [iL]at this
theorem xG(h:CV w F c k G m){a b:HT}(ha:a∈ids G.D)(hb:b∈ids G.D)(hK:∀w',Kept Nil w w'->K (.agg (if gl G a b then b else a).1) w'):
 bJ prog fy.id #[.pointer (some ⟨c,0,none⟩),.agg a.1,.agg b.1] w K:=by
 refine fy.of ?_;unfold fy.W;intro w4 w5 w6 w7;have k4:Kept Nil w w4:=(Kept.refl _ _).alloc _;have CS:w4.heap[w.heap.size]? =some (.cells a.1 ai (0,0)):=aO w _;have k5:Kept Nil w4 w5:=(Kept.refl _ _).alloc _;have o9:w5.heap[w4.heap.size]? =some (.cells b.1 ai (0,0)):=aO w4 _;have k6:Kept Nil w5 w6:=(Kept.refl _ _).alloc _;have PM:w6.heap[w5.heap.size]? =some (.cells gu.1 ai (0,0)):=aO w5 _;have k7:Kept Nil w6 w7:=(Kept.refl _ _).drew;clear_value w7;have Mm:=k7.heap PM (λh=>h);have AD:=k6.tt k7;have Le:=AD.heap o9 (λh=>h);have ha7:=AD.heap (k5.heap CS (λh=>h)) (λh=>h);have tX:=(k4.tt k5).tt AD;have s5:=(k4.tt k5).size;clear_value w6 w5 w4;refine rz (h.same tX) ⟨true,rfl,Split.no rfl ?_⟩;have h7:=h.same tX;refine⟨_,h7.c2,b.1,⟨b.2.1,Cells.bX Le⟩,_,h7.qi hb,Split.no rfl ?_⟩;intro w8;have k8:Kept Nil w7 w8:=(Kept.refl _ _).drew;clear_value w8;have h8:=h7.same k8;refine⟨_,h8.c2,a.1,⟨a.2.1,Cells.bX (k8.heap ha7 (λh=>h))⟩,_,h8.qi ha,Split.no rfl ⟨a.1,⟨a.2.1,Cells.bX (k8.heap ha7 (λh=>h))⟩,b.1,⟨b.2.1,Cells.bX (k8.heap Le (λh=>h))⟩,?_⟩⟩;refine rC h8 ha hb λw9 k9=>⟨_,rfl,?_⟩;have k79:=k8.tt k9;have Dv:=tX.tt k79;have Xo:=k79.heap Mm (λh=>h);refine Split.dec (λdD=>?_) (λgE=>?_)
 ·rw [if_pos (AX.1 dD)]at hK
  obtain⟨t1,t2,t3⟩:=iZ b Xo rfl;exact⟨b.1,⟨b.2.1,Cells.bX (k79.heap Le (λh=>h))⟩,t1,_,⟨b.2.1,Cells.bX t2⟩,hK _ (Dv.trans t3 (λj hj e=>by omega))⟩
 ·rw [if_neg (λe=>gE (AX.2 e))]at hK
  obtain⟨t1,t2,t3⟩:=iZ a Xo rfl;exact⟨a.1,⟨a.2.1,Cells.bX (k79.heap ha7 (λh=>h))⟩,t1,_,⟨a.2.1,Cells.bX t2⟩,hK _ (Dv.trans t3 (λj hj e=>by omega))⟩
end
structure GN(w v:World)(id:HT)(X M Q:Option Nat)(pt:Bool):Prop where
 kp:Kept Nil w v
 x:∀x,X=some x->∃S,FF v S (λ_=>False) x [⟨id,[]⟩] [-1]/\∀j,S j->w.heap.size<=j/\j<v.heap.size/\M≠some j/\Q≠some j
 m:∀m,M=some m->w.heap.size<=m/\gX v m (λy=>if pt=true/\y=id then Q.map λq=>.pointer (some ⟨q,0,none⟩)else none)
 q:∀q,Q=some q->w.heap.size<=q/\v.heap[q]? =some (.cells zS fG (0,0))
 ne:∀m q,M=some m->Q=some q->m≠q
section
variable{w w' v u:World}{F:Nat->Prop}{c k:Nat}{G:GS}{m:CM}{K:Value->World->Prop}{id:HT}{X M Q:Option Nat}{pt:Bool}
theorem GN.LQ(h:GN w v id X none Q false):GN w (v.alloc (.map #[] 0)) id X (some v.heap.size) Q false:=by
 have k1:Kept Nil v (v.alloc (.map #[] 0)):=(Kept.refl _ _).alloc _;have hs:=k1.size;have hm:gX (v.alloc (.map #[] 0)) v.heap.size (λ_=>none):=gX.new v;refine⟨h.kp.tt k1,λx hx=>?_,λm nC=>?_,λq hq=>?_,λm q nC hq=>?_⟩
 ·obtain⟨S,h1,h2⟩:=h.x x hx
  exact⟨S,h1.same k1,λj e=>by have:=h2 j e;exact⟨this.1,by omega,λe=>by cases e;omega,this.2.2.2⟩⟩
 ·cases nC
  exact⟨h.kp.size,by simpa using hm⟩
 ·exact⟨(h.q q hq).1,k1.heap (h.q q hq).2 (λh=>h)⟩
 ·cases nC
  have:=bt (h.q q hq).2;omega
theorem GN.LP(h:GN w v id X M none false):GN w (v.alloc (.cells zS fG)) id X M (some v.heap.size) false:=by
 have k1:Kept Nil v (v.alloc (.cells zS fG)):=(Kept.refl _ _).alloc _;have hs:=k1.size;refine⟨h.kp.tt k1,λx hx=>?_,λm nC=>?_,λq hq=>?_,λm q nC hq=>?_⟩
 ·obtain⟨S,h1,h2⟩:=h.x x hx
  exact⟨S,h1.same k1,λj e=>by have:=h2 j e;exact⟨this.1,by omega,this.2.2.1,λe=>by cases e;omega⟩⟩
 ·have:=h.m m nC
  refine⟨this.1,?_⟩;have h2:=this.2.same k1;simpa using h2
 ·cases hq
  exact⟨h.kp.size,aO v _⟩
 ·cases hq
  have:=(h.m m nC).2.lt;omega
theorem GN.Fz(h:GN w v id none M Q pt){x:Nat}{S:Nat->Prop}(hX:FF u S (λ_=>False) x [⟨id,[]⟩] [-1])(hS:∀j,S j->v.heap.size<=j/\j<u.heap.size)(k1:Kept Nil v u):GN w u id (some x) M Q pt:=by
 have hs:=h.kp.size;refine⟨h.kp.tt k1,λx' hx=>?_,λm nC=>⟨(h.m m nC).1,(h.m m nC).2.same k1⟩,λq hq=>⟨(h.q q hq).1,k1.heap (h.q q hq).2 (λh=>h)⟩,h.ne⟩;cases hx;refine⟨S,hX,λj e=>by
  have:=hS j e;exact⟨by omega,this.2,λe=>by have:=(h.m j e).2.lt;omega,λe=>by have:=bt (h.q j e).2;omega⟩⟩
theorem GN.put{mm q:Nat}(h:GN w v id X (some mm) (some q) false):∃u,(Instr.mapUpdate gz (.map (some mm)) (.agg id.1) (.pointer (some ⟨q,0,none⟩))).run prog v=.ok () u/\GN w u id X (some mm) (some q) true:=by
 obtain⟨h1,h2⟩:=h.m mm rfl;obtain⟨u,g1,g2,g3⟩:=h2.put JV id (.pointer (some ⟨q,0,none⟩));have hs:=g3.size;refine⟨u,g1,h.kp.trans g3 (λj hj e=>by omega),λx hx=>?_,λm nC=>?_,λq' hq=>?_,h.ne⟩
 ·obtain⟨S,q1,q2⟩:=h.x x hx
  exact⟨S,q1.aN g3 (λj e e'=>(q2 j e).2.2.1 (by rw [e'])) (λ_ h=>h.elim),λj e=>by have:=q2 j e;exact⟨this.1,by omega,this.2.2⟩⟩
 ·cases nC
  refine⟨h1,?_⟩;have ef:(λy=>if true=true/\y=id then(some q).map (λq=>Value.pointer (some ⟨q,0,none⟩))else none)=λx=>if x=id then some (.pointer (some ⟨q,0,none⟩))else if false=true/\x=id then(some q).map (λq=>Value.pointer (some ⟨q,0,none⟩))else none:=by
   funext y
   by_cases hy:y=id<;>simp [hy]
  rw [ef];exact g2
 ·have:=h.q q' hq
  exact⟨this.1,g3.heap this.2 (λe=>h.ne mm q' rfl hq e.symm)⟩
theorem GN.fin{x mm q:Nat}(h:GN w v id (some x) (some mm) (some q) true)(k:Nat):∃m,CV (v.alloc (.cells #[.int .i64 (k:Int),.pointer (some ⟨x,0,none⟩),.map (some mm)] jm)) (· =q) v.heap.size k (fH id) m/\m.x=x/\(∀j,m.own v.heap.size j->w.heap.size<=j)/\w.heap.size<=q:=by
 have k1:Kept Nil v (v.alloc (.cells #[.int .i64 (k:Int),.pointer (some ⟨x,0,none⟩),.map (some mm)] jm)):=(Kept.refl _ _).alloc _;have ht:=aO v (.cells #[.int .i64 (k:Int),.pointer (some ⟨x,0,none⟩),.map (some mm)] jm);generalize v.alloc (.cells #[.int .i64 (k:Int),.pointer (some ⟨x,0,none⟩),.map (some mm)] jm)=u at k1 ht⊢;obtain⟨S,h1,h2⟩:=h.x x rfl;obtain⟨h3,h4⟩:=h.m mm rfl;obtain⟨h5,h6⟩:=h.q q rfl;have gQ:=h.ne mm q rfl rfl;have lm:=h4.lt;have lq:=bt h6;have lt:=bt ht;have hs:=k1.size;have hw:=h.kp.size;refine⟨⟨x,mm,S,λ_=>False,λ_=>q,λ_ _=>none⟩,⟨ht,h1.same k1,?_,?_,lM k id,SZ.root id,λ_ h=>h.elim,?_,?_,?_,?_⟩,rfl,?_,h5⟩
 ·have:=h4.same k1
  have ef:(λh=>if h∈ids (fH id).D then some (Value.pointer (some ⟨q,0,none⟩))else none)=λy=>if true=true/\y=id then(some q).map (λq=>Value.pointer (some ⟨q,0,none⟩))else none:=by
   funext y
   by_cases hy:y=id
   ·simp [hy,fH,ids]
   ·simp [hy,fH,ids]
  show gX u mm (λh=>if h∈ids (fH id).D then some (Value.pointer (some ⟨q,0,none⟩))else none)
  rw [ef];exact this
 ·intro y hy
  have:y=id:=by simpa [fH,ids]using hy
  subst this;obtain⟨q1,_⟩:=(lM k y).root ⟨y,[]⟩ rfl
  replace q1:(fH y).ln y=_:=q1
  rw [q1];exact⟨none,0,0,none,0,0,none,k1.heap h6 (λh=>h),HS.nil _ _,⟨rfl,λi b hi=>by simp at hi⟩,λa ha=>(by cases ha),λa ha=>(by cases ha),.inl ⟨rfl,λ_=>rfl⟩,rfl⟩
 ·rintro j rfl e
  rcases e with e|e|e
  ·exact(h2 _ e).2.2.2 rfl
  ·have e:j=v.heap.size:=e;omega
  ·exact gQ e.symm
 ·intro j e
  have:=h2 j e;exact⟨by omega,λe=>this.2.2.1 (by rw [e])⟩
 ·show v.heap.size≠mm;omega
 ·rintro j (e|e)
  ·rcases e with e|e|e
   ·have:=h2 j e;omega
   ·have e:j=v.heap.size:=e;omega
   ·have e:j=mm:=e;omega
  ·have e:j=q:=e;omega
 ·intro j e
  rcases e with e|e|e
  ·have:=h2 j e;omega
  ·have e:j=v.heap.size:=e;omega
  ·have e:j=mm:=e;omega
theorem jI(id:HT){k:Nat}(hk:k<=100)(hK:∀w' c q m,CV w' (· =q) c k (fH id) m->(∀j,m.own c j->w.heap.size<=j)->w.heap.size<=q->Kept Nil w w'->K (.tuple #[.pointer (some ⟨c,0,none⟩),.int .i64 0]) w'):
 bJ prog jI.id #[.int .i64 (k:Int),.agg id.1] w K:=by
 refine jI.of ?_;unfold jI.W;intro w1;have k1:Kept Nil w w1:=(Kept.refl _ _).alloc _;have Bs:w1.heap[w.heap.size]? =some (.cells id.1 ai (0,0)):=aO w _;clear_value w1;refine Split.no (decide_eq_false (by omega)) (Split.no (decide_eq_false (by omega)) ?_);intro w2;have k2:Kept Nil w1 w2:=(Kept.refl _ _).drew;clear_value w2;have oN:=k2.heap Bs (λh=>h);have mT:=k1.tt k2;have s02:=mT.size;have N0:GN w2 w2 id none none none false:=⟨Kept.refl _ _,λ_ h=>(by cases h),λ_ h=>(by cases h),λ_ h=>(by cases h),λ_ _ h=>(by cases h)⟩;have bx:∀ {v:World},Kept Nil w2 v->∃cs:Array Value,(.agg id.1:Value)=.agg cs/\cs.size=32/\Cells v ⟨w.heap.size,0,none⟩ cs:=λkv=>⟨id.1,rfl,id.2.1,Cells.bX (kv.heap oN (λh=>h))⟩;have fin:∀ {v:World} {x mm q:Nat},GN w2 v id (some x) (some mm) (some q) true->let p:=v.alloc (.cells #[.int .i64 (k:Int),.pointer (some ⟨x,0,none⟩),.map (some mm)] jm);K (.tuple #[.pointer (some (aU v.heap.size)),.int .i64 0]) p:=λ{v x mm q} N=>by
  obtain⟨m,h1,_,h2,h3⟩:=N.fin k;exact hK _ _ q m h1 (λj e=>by have:=h2 j e;omega) (by omega) ((mT.tt N.kp).alloc _)
 refine⟨id.1,⟨id.2.1,Cells.bX oN⟩,id.1,⟨id.2.1,Cells.bX oN⟩,?_,?_,?_⟩
 ·refine jQ id λv x hX kv=>⟨_,rfl,?_⟩
  have N1:=N0.Fz hX (λj e=>e) kv;refine⟨bx N1.kp,⟨?_,?_⟩⟩
  ·have N2:=N1.LQ
   have N3:=N2.LP;obtain⟨u,hu,N4⟩:=N3.put;exact⟨bx N2.kp,bx N3.kp,u,hu,fin N4⟩
  ·have N2:=N1.LP
   have N3:=N2.LQ;obtain⟨u,hu,N4⟩:=N3.put;exact⟨bx N2.kp,bx N3.kp,u,hu,fin N4⟩
 ·have N1:=N0.LQ
  refine⟨bx N1.kp,bx N1.kp,?_,?_⟩
  ·refine jQ id λv x hX kv=>⟨_,rfl,?_⟩
   have N2:=N1.Fz hX (λj e=>e) kv;have N3:=N2.LP;obtain⟨u,hu,N4⟩:=N3.put;exact⟨bx N2.kp,bx N3.kp,u,hu,fin N4⟩
  ·have N2:=N1.LP
   refine⟨bx N2.kp,bx N2.kp,?_,?_⟩
   ·refine jQ id λv x hX kv=>⟨_,rfl,?_⟩
    have N3:=N2.Fz hX (λj e=>e) kv;obtain⟨u,hu,N4⟩:=N3.put;exact⟨bx N3.kp,u,hu,fin N4⟩
   ·obtain⟨u,hu,N3⟩:=N2.put
    refine⟨u,hu,bx N3.kp,?_⟩;refine jQ id λv x hX kv=>⟨_,rfl,?_⟩;exact fin (N3.Fz hX (λj e=>e) kv)
 ·have N1:=N0.LP
  refine⟨bx N1.kp,bx N1.kp,?_,?_⟩
  ·refine jQ id λv x hX kv=>⟨_,rfl,?_⟩
   have N2:=N1.Fz hX (λj e=>e) kv;have N3:=N2.LQ;obtain⟨u,hu,N4⟩:=N3.put;exact⟨bx N2.kp,bx N3.kp,u,hu,fin N4⟩
  ·have N2:=N1.LQ
   refine⟨bx N2.kp,bx N2.kp,?_,?_⟩
   ·refine jQ id λv x hX kv=>⟨_,rfl,?_⟩
    have N3:=N2.Fz hX (λj e=>e) kv;obtain⟨u,hu,N4⟩:=N3.put;exact⟨bx N3.kp,u,hu,fin N4⟩
   ·obtain⟨u,hu,N3⟩:=N2.put
    refine⟨u,hu,bx N3.kp,?_⟩;refine jQ id λv x hX kv=>⟨_,rfl,?_⟩;exact fin (N3.Fz hX (λj e=>e) kv)
end
end Go.Proofs.YtfleamccglihoaaGreatDoor
