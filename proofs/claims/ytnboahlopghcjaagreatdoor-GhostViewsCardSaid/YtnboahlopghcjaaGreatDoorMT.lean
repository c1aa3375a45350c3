import Derived.Test.YtnboahlopghcjaaGreatDoorMS
import Derived.Test.YtnboahlopghcjaaGreatDoorMQ
import Derived.Test.YtnboahlopghcjaaGreatDoorMJ
import Derived.Test.YtnboahlopghcjaaGreatDoorMP
set_option linter.unusedVariables false
namespace Go.Proofs.YtnboahlopghcjaaGreatDoor
open Go.Proofs.Tryz
open Go Go.bS Go.RowKit
theorem yf(D:DG)(s:HT){l:List HT}(hl: ∀x∈l,x∈ids D):(q9 D s l).length<=D.length:=by
 have:=cO (m:=ids D) (pD D s l) (fun x hx=>by
  rcases(tO.1 hx).1 with h|h
  ·exact h.1
  ·exact hl x h)
 rwa [fI]at this
theorem oU{D:DG}{l:List HT}(h:iT D l=0):l≠ []/\ ∀x∈l,x∈ids D:=by
 unfold iT at h;split at h
 ·cases h
 ·rename_i h0
  split at h
  ·cases h
  ·rename_i h1
   exact⟨h0,fun x hx=>Classical.byContradiction fun e=>h1 ⟨x,hx,e⟩⟩
section
variable{w w':World}{F:Nat->Prop}{c k:Nat}{G:GS}{m:CM}{K:Value->World->Prop}{A:Option Addr}{n cx:Nat}{l:List HT}{s:HT}
theorem lE.iw{q B sm bb cp e ce:Nat}{x:nN}{ov:HT->Option Nat}{E:Option Addr}(h:lE w B q sm bb x ov A n cp E e ce):Cells w ((⟨q,0,none⟩:Addr).add 0) (cC x A n cp E e ce):=by
 intro j u hj;rw [add_zero,a8,ax h.top,Array.getElem?_append_left (by rw [a7];have:=(Array.getElem?_eq_some_iff.1 hj).1;rw [a7]at this;omega)];rw [Nat.zero_add];exact hj
theorem AP(h:CV w F c k G m)(hT:rI w)(hD:G.D.length<=49)(nf:k<=1000)(yI:HS w A n l)(hn:n<=5000)
 (h0:iT G.D (s::l)≠0-> ∀w',Kept Nil w w'->K (.tuple #[.agg (cC ⟨de,0,[],[]⟩ none 0 0 none 0 0),.int .i64 (iT G.D (s::l))]) w')
 (h1:iT G.D (s::l)=0-> ∀w' A n cp E e ce,HS w' A n (cu k G s l).merge->Bo w' E e (cu k G s l).dM->Kept Nil w w'->K (.tuple #[.agg (cC (cu k G s l) A n cp E e ce),.int .i64 0]) w'):
 bk prog dd.id #[.pointer (some ⟨c,0,none⟩),.agg s.1,.slice A n cx] w K:=by
 refine dd.of ?_;unfold dd.W;intro w1 w2;have k1:Kept Nil w w1:=(Kept.refl _ _).alloc _;have ow:w1.heap[w.heap.size]? =some (.cells s.1 ai (0,0)):=aH w _;have k2:Kept Nil w1 w2:=(Kept.refl _ _).alloc _;have ji:w2.heap[w1.heap.size]? =some (.cells zC bj (0,0)):=aH w1 _;clear_value w2;have vf:=k2.heap ow (fun h=>h);have mY:=k1.trans k2 (fun _ _ h=>h);have s1:=k1.size;have l1:=aT ow;have l2:=aT ji;clear_value w1;refine⟨s.1,⟨s.2.1,Cells.bA vf⟩,s.2.1,?_⟩;intro w3;have k3:Kept Nil w2 w3:=(Kept.refl _ _).alloc _;have zt:HS w3 (some ⟨w2.heap.size,0,none⟩) 1 [s]:=iW w2 s;have kK:bQ w3 w.heap.size (some ⟨w2.heap.size,0,none⟩) 1 1 [s]:=by
  have e:cJ [s]=(s.1.toList++ []).toArray.toList:=by simp [cJ]
  show Row _ _ _ _ _ _ _ (cJ [s])
  rw [e];exact Row.made (aH w2 _) (by have:=mY.size;omega) (by simp [s.2.1]) (by unfold maxLen;omega)
 clear_value w3;have mi:=mY.trans k3 (fun _ _ h=>h);have s2:=mY.size;have s3:=mi.size;obtain⟨A2,c2,w4,uP,iO,g4,Oq⟩:=cD ay kK (cx:=cx) (yI.same mi) (by omega) s3;have yr:Kept (fun j=>w.heap.size<=j) w3 w4:=(Kept.refl _ _).grown g4 fun j hj _=>(Row.bA kK hj).1;have pI:Kept Nil w w4:=Kept.dw mi g4 (fun j hj=>(Row.bA kK hj).1);have pU:Kept Nil w2 w4:=Kept.dw k3 g4 (fun j hj=>by cases hj;exact Nat.le_refl _);have KN:=pU.heap vf (fun h=>h);have X4:=pU.heap ji (fun h=>h);refine⟨A2,_,c2,w4,uP,?_⟩;refine wg (h.same pI) (show HS w4 A2 (1+n) (s::l)from iO.hs) (by omega) fun w5 k5=>⟨_,rfl,?_⟩;have mI:=pI.trans k5 (fun _ _ h=>h);have hs5:=k5.heap KN (fun h=>h);have rp:=k5.heap X4 (fun h=>h);have zs:(zC:Array Value)=cC ⟨de,0,[],[]⟩ none 0 0 none 0 0:=rfl;by_cases hm:iT G.D (s::l)=0
 ·refine Split.no (by simp [hm]) ⟨s.1,⟨s.2.1,Cells.bA hs5⟩,?_⟩
  obtain⟨_,fh⟩:=oU hm;have h5:=h.same mI;have Sq: ∀x∈l,x∈ids G.D:=fun x hx=>fh x (List.mem_cons_of_mem _ hx);obtain⟨ch,nA⟩:=cY.ex h.fO.jJ s;refine uo BH (Nat.le_trans (yf G.D s Sq) hD) h5 (hT.same mI) (by omega) nf (fh s List.mem_cons_self) nA Sq (yI.same mI) hn fun v q B sm bb ov A n cp E e ce g1 _ g3 _ g5 g6 g7=>?_;refine⟨some ⟨q,0,none⟩,rfl,Is.mk rfl ?_⟩;have ED:=g7.heap rp (fun h=>h);obtain⟨t1,t2,t3⟩:=dH ED (cs:=cC (cu k G s l) A n cp E e ce) (by rw [a7];rfl);refine⟨_,⟨a7 ..,g1.iw⟩,⟨a7 ..,dL _ _ _ _ _ _ _,fun j hj=>t1 j (by rw [a7];exact hj)⟩,?_⟩;intro w8
  replace t2:w8.heap[w1.heap.size]? =_:=t2
  replace t3:Kept (· =w1.heap.size) v w8:=t3
  clear_value w8;refine⟨_,⟨a7 ..,Cells.bA t2⟩,?_⟩;have s5:=mI.size;have cH:w1.heap.size<w5.heap.size:=aT rp;refine h1 hm w8 A n cp E e ce (g1.mg.aD t3 (fun a ha e=>?_)) ((Row.bo g1.bl).aD t3 (fun a ha e=>?_)) ((mI.trans g7 (fun _ _ h=>h)).trans t3 (fun j hj e=>by omega))
  ·have:=g5 a ha
   omega
  ·subst ha
   have:=(Row.bA g1.bl (k:=a.block) rfl).1;have:=g6.1;omega
 ·refine Split.yes (by simpa using hm) ?_
  obtain⟨t1,t2,t3⟩:=dH rp (cs:=zC) rfl;refine⟨⟨rfl,by rw [zs];exact dL _ _ _ _ _ _ _,fun j hj=>t1 j hj⟩,?_⟩;exact⟨_,⟨rfl,Cells.bA t2⟩,h0 hm _ (mI.trans t3 (fun j hj e=>by omega))⟩
end
end Go.Proofs.YtnboahlopghcjaaGreatDoor
namespace Go.Proofs.YtnboahlopghcjaaGreatDoor
open Go.Proofs.Tryz
open Go Go.bS Go.RowKit
theorem XV.off{w:World}{D:DG}{P:List Int}{m:XM}{x:Nat}{F:Nat->Prop}(h:XV w F x D P m): ∀k,m.jB x k-> ¬F k:=fun k e=>by
 obtain⟨bl,c,mb,M,G⟩:=h.G;rcases e with e|e|e|e
 ·exact G.EL k e
 ·exact fun f=>(h.fd k f).1 e
 ·exact fun f=>(h.fd k f).2 e
 ·exact(h.od k e).2.2.2
section
variable{w w':World}{F F':Nat->Prop}{c k q:Nat}{G:GS}{m:CM}{K:Value->World->Prop}{A B:Option Addr}{n cx cp e ce:Nat}{l:List HT}{x:nN}{sz:HT->Option Nat}{sm:Option Nat}
theorem Seen.mono(h:Seen w F q x sz)(hF: ∀j,F j->F' j):Seen w F' q x sz:=by
 obtain⟨A,n,cp,B,e,ce,sm,h⟩:=h;refine⟨A,n,cp,B,e,ce,sm,h.top,h.mg,h.bl,fun a ha=>hF _ (h.fA a ha),fun a ha=>hF _ (h.fB a ha),?_,hF _ h.fq⟩;rcases h.sz with g|⟨s,g1,g2,g3⟩
 ·exact .inl g
 ·exact .inr ⟨s,g1,hF _ g2,g3⟩
abbrev JJ:Array Value:=cC ⟨de,0,[],[]⟩ none 0 0 none 0 0
theorem Bp(D:DG)(h:HT)(l:List HT):dg D h l=if h∈ids D then 7 else if l.length=0 then 9 else if(df l).length≠l.length then 9 else iT D l:=by
 unfold dg iT;by_cases h1:h∈ids D
 ·rw [if_pos h1,if_pos h1]
 ·rw [if_neg h1,if_neg h1]
  by_cases h2:l.length=0
  ·rw [if_pos h2,if_pos (.inl (by have:=oN l;omega))]
  ·have hl:l≠ []:=fun e=>h2 (by rw [e];rfl)
   rw [if_neg h2];by_cases h3:(df l).length≠l.length
   ·rw [if_pos h3,if_pos (.inr h3)]
   ·have a: ¬((df l).length=0\/(df l).length≠l.length):=by omega
    have hc:(∃p∈df l,p∉ids D)↔ ∃p∈l,p∉ids D:=⟨fun⟨p,hp,hq⟩=>⟨p,dv.1 hp,hq⟩,fun⟨p,hp,hq⟩=>⟨p,dv.2 hp,hq⟩⟩;rw [if_neg h3,if_neg a,if_neg hl];by_cases h4: ∃p∈l,p∉ids D
    ·rw [if_pos h4,if_pos (hc.2 h4)]
    ·rw [if_neg h4,if_neg (fun e=>h4 (hc.1 e))]
set_option maxHeartbeats 2000000 in
theorem D9(h:CV w F c k G m)(hT:rI w)(HW: ¬m.SX (Tryz.iZ.g 1))(hD:G.D.length<=49)(nf:k<=1000)(yI:HS w A n l)(hn:n<=5000)(id:HT)
 (hE:dg G.D id l≠0-> ∀w',Kept Nil w w'->K (.tuple #[.agg JJ,.int .i64 (dg G.D id l)]) w')
 (hO:dg G.D id l=0-> ∀w' F' m' A n c1 B e c2,CV w' F' c k (dq k G id l) m'->m'.x=m.x->Kept (m.own c) w w'->(∀j,m'.own c j->m.own c j\/w.heap.size<=j)->(∀j,F' j->F j\/w.heap.size<=j)->
   bQ w' w.heap.size A n c1 (cu k G (bZ G l) l).merge->Row w' w.heap.size gM 1 B e c2 (qO (cu k G (bZ G l) l).dM)->(∀j,bg A=some j->bg B≠some j)->(∀j,bg A=some j\/bg B=some j-> ¬m'.own c j/\ ¬F' j)->
   K (.tuple #[.agg (cC (cu k G (bZ G l) l) A n c1 B e c2),.int .i64 0]) w'):
 bk prog dt.id #[.pointer (some ⟨c,0,none⟩),.agg id.1,.slice A n cx] w K:=by
 have hlen:=yI.len;refine dt.of ?_;unfold dt.W;intro w1 w2;have k1:Kept Nil w w1:=(Kept.refl _ _).alloc _;have ow:w1.heap[w.heap.size]? =some (.cells id.1 ai (0,0)):=aH w _;have k2:Kept Nil w1 w2:=(Kept.refl _ _).alloc _;have ji:w2.heap[w1.heap.size]? =some (.cells zC bj (0,0)):=aH w1 _;clear_value w2;have vf:=k2.heap ow (fun h=>h);have mY:=k1.trans k2 (fun _ _ h=>h);have s1:=k1.size;have l1:=aT ow;have l2:=aT ji;clear_value w1;have zs:(zC:Array Value)=JJ:=rfl;have bad: ∀ {u:World} {r:Int},Kept Nil w2 u->dg G.D id l=r->r≠0->(zC.size=35/\(∀n∈zC.toList,n.oneCell'=true)/\ ∀o,o<35->Wr u ((⟨w1.heap.size,0,none⟩:Addr).add o))/\
  let p:=setCells u (⟨w1.heap.size,0,none⟩:Addr) zC.toList 0;∃q:Array Value,(q.size=35/\Cells p (⟨w1.heap.size,0,none⟩:Addr) q)/\K (.tuple #[.agg q,.int .i64 r]) p:=fun {u r} ku hr h0=>by
  obtain⟨t1,t2,t3⟩:=dH (ku.heap ji (fun h=>h)) (cs:=zC) rfl;refine⟨⟨rfl,by rw [zs];exact dL _ _ _ _ _ _ _,fun j hj=>t1 j hj⟩,?_⟩;refine⟨_,⟨rfl,Cells.bA t2⟩,?_⟩;have:=hE (by rw [hr];exact h0) _ ((mY.trans ku (fun _ _ h=>h)).trans t3 (fun j hj e=>by omega));rw [hr]at this;exact this
 have iV:=Bp G.D id l;refine oB (h.same mY) ⟨true,rfl,Split.no rfl ?_⟩;intro w3;have k3:Kept Nil w2 w3:=(Kept.refl _ _).drew;clear_value w3;have mi:=mY.trans k3 (fun _ _ h=>h);have h3:=h.same mi;refine⟨_,h3.c2,id.1,⟨id.2.1,Cells.bA (k3.heap vf (fun h=>h))⟩,_,h3.look id,?_⟩;by_cases hid:id∈ids G.D
 ·rw [if_pos hid]at iV
  exact Split.yes (by rw [if_pos hid];rfl) (bad k3 iV (by decide))
 rw [if_neg hid]at iV;refine Split.no (by rw [if_neg hid];rfl) ?_;by_cases DX:n=0
 ·rw [if_pos (by omega)]at iV
  exact Split.yes (by subst DX;rfl) (bad k3 iV (by decide))
 rw [if_neg (by omega)]at iV;refine Split.no (by simpa using (by omega: ¬(n:Int)=0)) ?_;refine hZ (yI.same mi) (by omega) fun A4 c4 w4 iO k4=>⟨A4,_,c4,rfl,?_⟩;have pU:=k3.trans k4 (fun _ _ h=>h);have pI:=mi.trans k4 (fun _ _ h=>h);by_cases DS:(df l).length≠l.length
 ·rw [if_pos DS]at iV
  exact Split.yes (by simp only [bne_iff_ne,ne_eq];omega) (bad pU iV (by decide))
 rw [if_neg DS]at iV;refine Split.no (by simp only [bne_eq_false_iff_eq];omega) ?_;refine qx (h.same pI) (yI.same pI) (by omega) fun w5 k5=>⟨_,_,rfl,?_⟩;have FW:=pU.trans k5 (fun _ _ h=>h);have mI:=pI.trans k5 (fun _ _ h=>h);generalize kN:(if iT G.D l=0 then bZ G l else de)=s;intro w6;have k6:Kept Nil w5 w6:=(Kept.refl _ _).alloc _;have nK:w6.heap[w5.heap.size]? =some (.cells de.1 ai (0,0)):=aH w5 _;clear_value w6;obtain⟨t1,t2,t3⟩:=gY s nK rfl;refine⟨t1,?_⟩;intro w7
 replace t2:w7.heap[w5.heap.size]? =some (.cells s.1 ai (0,0)):=t2
 replace t3:Kept (· =w5.heap.size) w6 w7:=t3
 clear_value w7;have DH:Kept Nil w5 w7:=k6.trans t3 (fun j hj e=>by omega);have Mr:=FW.trans DH (fun _ _ h=>h);have uN:=mI.trans DH (fun _ _ h=>h);by_cases hm:iT G.D l≠0
 ·exact Split.yes (by simpa using hm) (bad Mr iV hm)
 have hm:iT G.D l=0:=by omega
 rw [if_pos hm]at kN;rw [hm]at iV⊢;refine Split.no rfl ⟨s.1,⟨s.2.1,Cells.bA t2⟩,?_⟩;obtain⟨fE,fh⟩:=oU hm;have Cl:s∈l:=by rw [<-kN];exact jT fE
 obtain⟨ch,nA⟩:=cY.ex h.fO.jJ s;have h7:=h.same uN;refine uo BH (Nat.le_trans (yf G.D s fh) hD) h7 (hT.same uN) (by omega) nf (fh s Cl) nA fh (yI.same uN) hn fun v q B sm bb ov Am nm cp E e ce g1 gO g3 g4 g5 g6 g7=>⟨some ⟨q,0,none⟩,rfl,?_⟩;have Ag:=uN.trans g7 (fun _ _ h=>h);have FV:=Mr.trans g7 (fun _ _ h=>h);have k5v:=DH.trans g7 (fun _ _ h=>h);have s07:=uN.size;have s0v:=Ag.size;intro w8;have k8:Kept Nil v w8:=(Kept.refl _ _).drew;clear_value w8;have rY:=Ag.trans k8 (fun _ _ h=>h);have h8:=h.same rY;have g18:=g1.same k8;have s8:=k8.size;refine⟨_,h8.c1,id.1,⟨id.2.1,Cells.bA ((FV.trans k8 (fun _ _ h=>h)).heap vf (fun h=>h))⟩,s.1,⟨s.2.1,Cells.bA (((g7.trans k8 (fun _ _ h=>h))).heap t2 (fun h=>h))⟩,?_⟩;refine zT h8.X (by omega) (hT.same rY) HW (yI.same rY) hn id s fun u S' FX' hX9 k9 hS9 Pu=>⟨_,rfl,?_⟩;have eX:mz G.D id s l=(dq k G id l).D/\mw G.D G.P id s l=(dq k G id l).P:=by rw [<-kN];exact⟨Hu.symm,Hv.symm⟩
 rw [eX.1,eX.2]at hX9;obtain⟨mx,X9,hmx⟩:=hX9;have uY: ∀j,m.own c j\/F j->j<w.heap.size:=h.low;have g1q:q<v.heap.size:=aT g1.top;have g1s:sm<v.heap.size:=g1.ov.lt;have uu: ∀j,w.heap.size<=j-> ¬m.SX j:=fun j hj e=>by have:=uY j (.inl (.inl e));omega
 have g19:=g18.aD k9 (uu q (by omega)) (uu sm (by omega)) (fun j hj _=>uu j (by have:=g6.1;omega)) (fun a ha=>uu _ (by have:=g5 a ha;omega));have s9:=k9.size;have IN:Kept m.SX w2 u:=((FV.trans k8 (fun _ _ h=>h)).mono fun _ _ h=>h.elim).trans k9 (fun _ _ h=>h);have ncm: ¬m.SX c/\ ¬m.SX m.mb:=⟨fun e=>(h.so _ e).1 rfl,fun e=>(h.so _ e).2 rfl⟩;have PX:u.heap[c]? =_:=k9.heap h8.top ncm.1;have aaO:=h8.all.aD k9 ncm.2;intro w10;have nv:Kept Nil u w10:=(Kept.refl _ _).drew;clear_value w10;have PZ:=nv.heap PX (fun h=>h);have I0:=(IN.trans nv (fun _ _ h=>h.elim)).heap vf (fun e=>uu _ (Nat.le_refl _) e);have Ut:=aaO.aD nv (fun h=>h);obtain⟨sQ,Yl,Us,HJ⟩:=Ut.put FE id (.pointer (some ⟨q,0,none⟩));refine⟨some m.mb,by rw [a8,ax PZ];rfl,id.1,⟨id.2.1,Cells.bA I0⟩,sQ,Yl,Is.mk rfl ?_⟩;have s10:=nv.size;have s11:=HJ.size;have lmb:m.mb<w.heap.size:=uY _ (.inl (.inr (.inr rfl)));have lc:c<w.heap.size:=uY _ (.inl (.inr (.inl rfl)));have IG:Kept (· =m.mb) u sQ:=(nv.mono fun _ _ h=>h.elim).trans HJ (fun _ _ h=>h);have JC:=g19.aD IG (by omega) (by omega) (fun j hj _ e=>by have:=g6.1;omega) (fun a ha e=>by have:=g5 a ha;omega);have aaK:=Row.bo JC.bl;have Q2:Kept (m.own c) w sQ:=((rY.mono (S':=m.own c) fun _ _ h=>h.elim).trans k9 (fun _ _ h=>.inl h)).trans IG (fun _ _ h=>.inr (.inr h));refine⟨_,⟨a7 ..,JC.iw⟩,?_⟩;have xq:=g1.mg.len;have hnm:nm<=49:=by
  have HM:(cu k G s l).merge=ct G s l:=rfl;have xp:(ct G s l).length<=49:=by
   have:=cO (m:=ids G.D) (jO G s l).nodup (fun y hy=>by
    rcases(iA.1 hy).1 with h|h
    ·exact h.1
    ·exact fh y h)
   rw [fI]at this;omega
  rw [HM]at xq;omega
 have Vl:e<=49:=by
  have h1:=(pX k G s l).1;have h2:=(Row.bo g1.bl).len;have HM:(cu k G s l).merge=ct G s l:=rfl;have XC:(cu k G s l).dM=(eU k G s l).bl:=rfl;rw [XC]at h2;rw [HM]at xq;omega
 refine sE (cu k G s l) JC.mg aaK (by omega) (by omega) fun A' c1 B' c2 lF tw Fm R1 vX=>⟨_,rfl,?_⟩;have QX:Kept (m.own c) w2 lF:=((IN.mono (S':=m.own c) fun _ _ h=>.inl h).trans IG (fun _ _ h=>.inr (.inr h))).trans vX (fun _ _ h=>h.elim);have fr2: ∀j,w.heap.size<=j-> ¬m.own c j:=fun j hj e=>by have:=uY j (.inl e);omega
 have Yc:=QX.heap ji (fr2 _ (by omega));obtain⟨f1,f2,f3⟩:=dH Yc (cs:=cC (cu k G s l) A' nm c1 B' e c2) (by rw [a7];rfl);refine⟨⟨a7 ..,dL _ _ _ _ _ _ _,fun j hj=>f1 j (by rw [a7];exact hj)⟩,?_⟩;intro kr
 replace f2:kr.heap[w1.heap.size]? =_:=f2
 replace f3:Kept (· =w1.heap.size) lF kr:=f3
 clear_value kr;refine⟨_,⟨a7 ..,Cells.bA f2⟩,?_⟩;have ua:Kept (· =w1.heap.size) sQ kr:=(vX.mono fun _ _ h=>h.elim).trans f3 (fun _ _ h=>h);have s13:=ua.size;have lw1:w1.heap.size<w7.heap.size:=Nat.lt_of_lt_of_le l2 Mr.size;rw [kN]at hO;have yA:=ke (k:=k) (G:=G) (h:=id) (ps:=l) iV;have Sx:ids (dq k G id l).D=ids G.D++ [id]:=by rw [yA];simp [ids]
 let F':Nat->Prop:=fun j=>F j\/(w7.heap.size<=j/\j<v.heap.size)\/FX' j
 let m':CM:=⟨m.x,m.mb,mx.jB m.x,FX',fun y=>if y=id then q else m.q y,fun y=>if y=id then ov else m.sz y⟩
 have Pm: ∀j,mx.jB m.x j->m.SX j\/w8.heap.size<=j:=fun j e=>hS9 j (hmx j e);have WD: ∀j,m'.own c j->m.own c j\/w8.heap.size<=j:=fun j e=>by
  rcases e with e|e|e
  ·exact(Pm j e).imp (fun e=>.inl e) (fun e=>e)
  ·exact .inl (.inr (.inl e))
  ·exact .inl (.inr (.inr e))
 have tU: ∀j,F' j->F j\/(w7.heap.size<=j/\j<u.heap.size):=fun j e=>by
  rcases e with e|e|e
  ·exact .inl e
  ·exact .inr ⟨e.1,by omega⟩
  ·rcases Pu j e with e'|e'
   ·exact .inl (h.fx j e')
   ·exact .inr ⟨by omega,X9.low j (.inr e)⟩
 have Kg: ∀j,mx.jB m.x j->j<u.heap.size:=fun j e=>X9.low j (.inl e);have WY:Kept (fun j=>j=m.mb\/j=w1.heap.size) u kr:=(IG.mono fun _ _ h=>.inl h).trans ua (fun _ _ h=>.inr h);have n1: ∀j,F' j-> ¬(j=m.mb\/j=w1.heap.size):=fun j e e'=>by
  rcases e' with e'|e'
  ·rcases tU j e with e|e
   ·exact h.fo j e (.inr (.inr e'))
   ·omega
  ·rcases tU j e with e|e
   ·have:=uY j (.inr e);omega
   ·omega
 have n2: ∀j,mx.jB m.x j-> ¬(j=m.mb\/j=w1.heap.size):=fun j e e'=>by
  rcases e' with e'|e'
  ·rcases Pm j e with e|e
   ·exact(h.so j e).2 e'
   ·omega
  ·rcases Pm j e with e|e
   ·have:=uY j (.inl (.inl e));omega
   ·have:=k8.size;have:=g7.size;omega
 have JB:lE kr B q sm bb (cu k G s l) ov Am nm cp E e ce:=JC.aD ua (by omega) (by omega) (fun j hj _ e=>by have:=g6.1;omega) (fun a ha e=>by have:=g5 a ha;omega);have C':CV kr F' c k (dq k G id l) m':=by
  refine⟨?_,?_,?_,?_,h.fO.add id l,?_,fun j e=>.inr (.inr e),?_,?_,h.ne,?_⟩
  ·exact WY.heap PX (fun e=>by rcases e with e|e;exact h.ne e;omega)
  ·exact⟨mx,X9.aD WY n2 (fun j e=>n1 j (.inr (.inr e))),fun _ e=>e⟩
  ·have:=Us.aD ua (by show ¬m.mb=_;omega)
   have ef:(fun h=>if h∈ids (dq k G id l).D then some (Value.pointer (some ⟨m'.q h,0,none⟩))else none)=fun x=>if x=id then some (Value.pointer (some ⟨q,0,none⟩))else if x∈ids G.D then some (.pointer (some ⟨m.q x,0,none⟩))else none:=by
    funext y
    rw [Sx];by_cases hy:y=id
    ·simp [hy,m']
    ·by_cases hy2:y∈ids G.D
     ·simp [hy,hy2,m']
     ·simp [hy,hy2]
   rw [ef];exact this
  ·intro y hy
   rw [Sx,List.mem_append,List.mem_singleton]at hy;by_cases he:y=id
   ·subst he
    rw [(mC h.fO iV).1,kN];have e1:m'.q y=q:=if_pos rfl;have e2:m'.sz y=ov:=if_pos rfl;rw [e1,e2];refine⟨Am,nm,cp,E,e,ce,some sm,JB.top,JB.mg,Row.bo JB.bl,fun a ha=>.inr (.inl ⟨g5 a ha,?_⟩),fun a ha=>.inr (.inl ?_),.inr ⟨sm,rfl,.inr (.inl ⟨g4,g1s⟩),JB.ov⟩,.inr (.inl ⟨g3,g1q⟩)⟩
    ·have:=(g1.mA a ha).1
     have:=g6.2;omega
    ·subst ha
     obtain⟨q1,cur,q2⟩:=Row.bA g1.bl (k:=a.block) rfl;have:=aT q2;have:=g6.1;exact⟨by omega,this |>fun _=>aT q2⟩
   ·have hy:y∈ids G.D:=hy.elim (fun e=>e) (fun e=>absurd e he)
    rw [(mB h.fO hy).1];have e1:m'.q y=m.q y:=if_neg he;have e2:m'.sz y=m.sz y:=if_neg he;rw [e1,e2];exact(((h8.seen y hy).aD k9 (fun j e e'=>h.fo j e (.inl e'))).aD WY (fun j e=>n1 j (.inl e))).mono (fun j e=>.inl e)
  ·have Zt:cY G.D G.P (bZ G l) ch:=by rw [kN];exact nA
   rw [<-kN]at gO;exact SZ.add h.Z h.fO iV Zt gO
  ·intro j e e'
   rcases e' with e'|e'|e'
   ·rcases e with e|e|e
    ·rcases Pm j e' with e'|e'
     ·exact h.fo j e (.inl e')
     ·have:=uY j (.inr e);omega
    ·rcases Pm j e' with e'|e'
     ·have:=uY j (.inl (.inl e'));omega
     ·omega
    ·exact XV.off X9 j e' e
   ·rcases tU j e with e|e
    ·exact h.fo j e (.inr (.inl e'))
    ·have e':j=c:=e';omega
   ·rcases tU j e with e|e
    ·exact h.fo j e (.inr (.inr e'))
    ·have e':j=m.mb:=e';omega
  ·intro j e
   rcases Pm j e with e'|e'
   ·exact h.so j e'
   ·exact⟨by omega,by show j≠m.mb;omega⟩
  ·rintro j (e|e)
   ·rcases e with e|e|e
    ·have:=Kg j e;omega
    ·have e:j=c:=e;omega
    ·have e:j=m.mb:=e;omega
   ·rcases tU j e with e|e
    ·have:=uY j (.inr e);omega
    ·omega
 have D6: ∀j,bg A'=some j->sQ.heap.size<=j:=fun j hj=>(Row.bA tw hj).1;have Om: ∀j,bg B'=some j->sQ.heap.size<=j:=fun j hj=>(Row.bA Fm hj).1;have Uf: ∀j,sQ.heap.size<=j-> ¬m'.own c j/\ ¬F' j:=fun j hj=>⟨fun e=>by
  rcases e with e|e|e
  ·have:=Kg j e;omega
  ·have e:j=c:=e;omega
  ·have e:j=m.mb:=e;omega,fun e=>by
  rcases tU j e with e|e
  ·have:=uY j (.inr e);omega
  ·omega⟩
 exact hO iV kr F' m' A' nm c1 B' e c2 C' rfl ((Q2.trans ua (fun j hj e=>by omega))) (fun j e=>(WD j e).imp (fun h=>h) (fun h=>by omega)) (fun j e=>(tU j e).imp (fun h=>h) (fun h=>by omega))
  (Row.base (Row.aD tw f3 (fun j hj e=>by have:=D6 j hj;omega)) (fun j hj=>by have:=D6 j hj;omega)) (Row.base (Row.aD Fm f3 (fun j hj e=>by have:=Om j hj;omega)) (fun j hj=>by have:=Om j hj;omega)) R1
  (fun j hj=>Uf j (hj.elim (D6 j) (Om j)))
end
end Go.Proofs.YtnboahlopghcjaaGreatDoor
namespace Go.Proofs.YtnboahlopghcjaaGreatDoor
open Go.Proofs.Tryz
open Go Go.bS Go.RowKit
section
variable{k:Nat}{G:GS}
theorem Ee(H:jE k G){h:HT}(hm:h∈ids G.D):(G.iw h).merge.length<=G.D.length/\(G.iw h).dM.length=(G.iw h).merge.length:=by
 obtain⟨l,c⟩:=cY.ex H.jJ h;rcases c.inv H.W H.jJ hm with⟨_,nd,h0,rfl⟩|⟨t,r',_,pK,_,_⟩
 ·obtain⟨q1,_⟩:=H.root nd h0
  rw [q1];simp
 ·obtain⟨_,_,q3,q4,q5⟩:=H.up t h pK
  refine⟨?_,q3⟩;have:=cO (m:=ids G.D) q4 (fun y hy=>(((q5 y).1 hy).1.mem H.W).1)
  rwa [fI]at this
theorem wo: ∀(m:List HT) (b:List Bool),(dJ m b).length<=m.length
 | [],_=>by simp [dJ]
 |_::_,[]=>by simp [dJ]
 |h::l,b::m=>by
  have:=wo l m;unfold dJ;split
  ·simp only [List.length_cons];omega
  ·simp only [List.length_cons];omega
end
section
variable{w w' je:World}{B ob bx:Nat}{av av':Nat->Prop}{acc:List HT}
end
end Go.Proofs.YtnboahlopghcjaaGreatDoor
namespace Go.Proofs.YtnboahlopghcjaaGreatDoor
open Go.Proofs.Tryz
open Go Go.bS Go.RowKit
section
variable{w w' v:World}{F:Nat->Prop}{c k:Nat}{G:GS}{m:CM}{K:Value->World->Prop}
end
end Go.Proofs.YtnboahlopghcjaaGreatDoor
namespace Go.Proofs.YtnboahlopghcjaaGreatDoor
open Go.Proofs.Tryz
open Go Go.bS Go.RowKit
section
variable{w w':World}{F:Nat->Prop}{c k:Nat}{G:GS}{m:CM}{K:Value->World->Prop}
theorem qQ(h:jE k G){a:HT}(ha:a∈ids G.D):(G.world a).length<=G.D.length:=by
 have:=cO (m:=ids G.D) (h.wd a ha).1 (fun b hb=>(((h.wd a ha).2.1 b hb).mem h.W).1)
 rwa [fI]at this
theorem uq(h:CV w F c k G m){a b:HT}(ha:a∈ids G.D)(hb:b∈ids G.D)(hK: ∀w',Kept Nil w w'->K (.agg (if gl G a b then b else a).1) w'):
 bk prog dE.id #[.pointer (some ⟨c,0,none⟩),.agg a.1,.agg b.1] w K:=by
 refine dE.of ?_;unfold dE.W;intro w4 w5 w6 w7;have k4:Kept Nil w w4:=(Kept.refl _ _).alloc _;have vn:w4.heap[w.heap.size]? =some (.cells a.1 ai (0,0)):=aH w _;have k5:Kept Nil w4 w5:=(Kept.refl _ _).alloc _;have lU:w5.heap[w4.heap.size]? =some (.cells b.1 ai (0,0)):=aH w4 _;have k6:Kept Nil w5 w6:=(Kept.refl _ _).alloc _;have U9:w6.heap[w5.heap.size]? =some (.cells de.1 ai (0,0)):=aH w5 _;have k7:Kept Nil w6 w7:=(Kept.refl _ _).drew;clear_value w7;have ED:=k7.heap U9 (fun h=>h);have DH:=k6.trans k7 (fun _ _ h=>h);have NX:=DH.heap lU (fun h=>h);have ZX:=DH.heap (k5.heap vn (fun h=>h)) (fun h=>h);have uN:=(k4.trans k5 (fun _ _ h=>h)).trans DH (fun _ _ h=>h);have s5:=(k4.trans k5 (fun _ _ h=>h)).size;clear_value w6 w5 w4;refine oB (h.same uN) ⟨true,rfl,Split.no rfl ?_⟩;have h7:=h.same uN;refine⟨_,h7.c2,b.1,⟨b.2.1,Cells.bA NX⟩,_,h7.mW hb,Split.no rfl ?_⟩;intro w8;have k8:Kept Nil w7 w8:=(Kept.refl _ _).drew;clear_value w8;have h8:=h7.same k8;refine⟨_,h8.c2,a.1,⟨a.2.1,Cells.bA (k8.heap ZX (fun h=>h))⟩,_,h8.mW ha,Split.no rfl ⟨a.1,⟨a.2.1,Cells.bA (k8.heap ZX (fun h=>h))⟩,b.1,⟨b.2.1,Cells.bA (k8.heap NX (fun h=>h))⟩,?_⟩⟩;refine lL h8 ha hb fun w9 k9=>⟨_,rfl,?_⟩;have UY:=k8.trans k9 (fun _ _ h=>h);have vc:=uN.trans UY (fun _ _ h=>h);have hr9:=UY.heap ED (fun h=>h);refine Split.dec (fun cH=>?_) (fun fV=>?_)
 ·rw [if_pos (qE.1 cH)]at hK
  obtain⟨t1,t2,t3⟩:=gY b hr9 rfl;exact⟨b.1,⟨b.2.1,Cells.bA (UY.heap NX (fun h=>h))⟩,t1,_,⟨b.2.1,Cells.bA t2⟩,hK _ (vc.trans t3 (fun j hj e=>by omega))⟩
 ·rw [if_neg (fun e=>fV (qE.2 e))]at hK
  obtain⟨t1,t2,t3⟩:=gY a hr9 rfl;exact⟨a.1,⟨a.2.1,Cells.bA (UY.heap ZX (fun h=>h))⟩,t1,_,⟨a.2.1,Cells.bA t2⟩,hK _ (vc.trans t3 (fun j hj e=>by omega))⟩
end
end Go.Proofs.YtnboahlopghcjaaGreatDoor
namespace Go.Proofs.YtnboahlopghcjaaGreatDoor
open Go.Proofs.Tryz
open Go Go.bS Go.RowKit
structure GN(w v:World)(id:HT)(X M Q:Option Nat)(pt:Bool):Prop where
 kp:Kept Nil w v
 x: ∀x,X=some x-> ∃S,Br v S (fun _=>False) x [⟨id,[]⟩] [-1]/\ ∀j,S j->w.heap.size<=j/\j<v.heap.size/\M≠some j/\Q≠some j
 m: ∀m,M=some m->w.heap.size<=m/\fc v m (fun y=>if pt=true/\y=id then Q.map fun q=>.pointer (some ⟨q,0,none⟩)else none)
 q: ∀q,Q=some q->w.heap.size<=q/\v.heap[q]? =some (.cells zS dK (0,0))
 ne: ∀m q,M=some m->Q=some q->m≠q
section
variable{w w' v u:World}{F:Nat->Prop}{c k:Nat}{G:GS}{m:CM}{K:Value->World->Prop}{id:HT}{X M Q:Option Nat}{pt:Bool}
theorem GN.Ht(h:GN w v id X none Q false):GN w (v.alloc (.map #[] 0)) id X (some v.heap.size) Q false:=by
 have k1:Kept Nil v (v.alloc (.map #[] 0)):=(Kept.refl _ _).alloc _;have hs:=k1.size;have hm:fc (v.alloc (.map #[] 0)) v.heap.size (fun _=>none):=fc.new v;refine⟨h.kp.trans k1 (fun _ _ h=>h),fun x hx=>?_,fun m lT=>?_,fun q hq=>?_,fun m q lT hq=>?_⟩
 ·obtain⟨S,h1,h2⟩:=h.x x hx
  exact⟨S,h1.same k1,fun j e=>by have:=h2 j e;exact⟨this.1,by omega,fun e=>by cases e;omega,this.2.2.2⟩⟩
 ·cases lT
  exact⟨h.kp.size,by simpa using hm⟩
 ·exact⟨(h.q q hq).1,k1.heap (h.q q hq).2 (fun h=>h)⟩
 ·cases lT
  have:=aT (h.q q hq).2;omega
theorem GN.Hs(h:GN w v id X M none false):GN w (v.alloc (.cells zS dK)) id X M (some v.heap.size) false:=by
 have k1:Kept Nil v (v.alloc (.cells zS dK)):=(Kept.refl _ _).alloc _;have hs:=k1.size;refine⟨h.kp.trans k1 (fun _ _ h=>h),fun x hx=>?_,fun m lT=>?_,fun q hq=>?_,fun m q lT hq=>?_⟩
 ·obtain⟨S,h1,h2⟩:=h.x x hx
  exact⟨S,h1.same k1,fun j e=>by have:=h2 j e;exact⟨this.1,by omega,this.2.2.1,fun e=>by cases e;omega⟩⟩
 ·have:=h.m m lT
  refine⟨this.1,?_⟩;have h2:=this.2.same k1;simpa using h2
 ·cases hq
  exact⟨h.kp.size,aH v _⟩
 ·cases hq
  have:=(h.m m lT).2.lt;omega
theorem GN.Bm(h:GN w v id none M Q pt){x:Nat}{S:Nat->Prop}(hX:Br u S (fun _=>False) x [⟨id,[]⟩] [-1])(hS: ∀j,S j->v.heap.size<=j/\j<u.heap.size)(k1:Kept Nil v u):GN w u id (some x) M Q pt:=by
 have hs:=h.kp.size;refine⟨h.kp.trans k1 (fun _ _ h=>h),fun x' hx=>?_,fun m lT=>⟨(h.m m lT).1,(h.m m lT).2.same k1⟩,fun q hq=>⟨(h.q q hq).1,k1.heap (h.q q hq).2 (fun h=>h)⟩,h.ne⟩;cases hx;refine⟨S,hX,fun j e=>by
  have:=hS j e;exact⟨by omega,this.2,fun e=>by have:=(h.m j e).2.lt;omega,fun e=>by have:=aT (h.q j e).2;omega⟩⟩
theorem GN.put{mm q:Nat}(h:GN w v id X (some mm) (some q) false): ∃u,(Instr.mapUpdate eA (.map (some mm)) (.agg id.1) (.pointer (some ⟨q,0,none⟩))).run prog v=.ok () u/\GN w u id X (some mm) (some q) true:=by
 obtain⟨h1,h2⟩:=h.m mm rfl;obtain⟨u,g1,g2,g3⟩:=h2.put FE id (.pointer (some ⟨q,0,none⟩));have hs:=g3.size;refine⟨u,g1,h.kp.trans g3 (fun j hj e=>by omega),fun x hx=>?_,fun m lT=>?_,fun q' hq=>?_,h.ne⟩
 ·obtain⟨S,q1,q2⟩:=h.x x hx
  exact⟨S,q1.aD g3 (fun j e e'=>(q2 j e).2.2.1 (by rw [e'])) (fun _ h=>h.elim),fun j e=>by have:=q2 j e;exact⟨this.1,by omega,this.2.2⟩⟩
 ·cases lT
  refine⟨h1,?_⟩;have ef:(fun y=>if true=true/\y=id then(some q).map (fun q=>Value.pointer (some ⟨q,0,none⟩))else none)=fun x=>if x=id then some (.pointer (some ⟨q,0,none⟩))else if false=true/\x=id then(some q).map (fun q=>Value.pointer (some ⟨q,0,none⟩))else none:=by
   funext y
   by_cases hy:y=id<;>simp [hy]
  rw [ef];exact g2
 ·have:=h.q q' hq
  exact⟨this.1,g3.heap this.2 (fun e=>h.ne mm q' rfl hq e.symm)⟩
theorem GN.fin{x mm q:Nat}(h:GN w v id (some x) (some mm) (some q) true)(k:Nat): ∃m,CV (v.alloc (.cells #[.int .i64 (k:Int),.pointer (some ⟨x,0,none⟩),.map (some mm)] gg)) (· =q) v.heap.size k (cV id) m/\m.x=x/\(∀j,m.own v.heap.size j->w.heap.size<=j)/\w.heap.size<=q:=by
 have k1:Kept Nil v (v.alloc (.cells #[.int .i64 (k:Int),.pointer (some ⟨x,0,none⟩),.map (some mm)] gg)):=(Kept.refl _ _).alloc _;have ht:=aH v (.cells #[.int .i64 (k:Int),.pointer (some ⟨x,0,none⟩),.map (some mm)] gg);generalize v.alloc (.cells #[.int .i64 (k:Int),.pointer (some ⟨x,0,none⟩),.map (some mm)] gg)=u at k1 ht⊢;obtain⟨S,h1,h2⟩:=h.x x rfl;obtain⟨h3,h4⟩:=h.m mm rfl;obtain⟨h5,h6⟩:=h.q q rfl;have fE:=h.ne mm q rfl rfl;have lm:=h4.lt;have lq:=aT h6;have lt:=aT ht;have hs:=k1.size;have hw:=h.kp.size;refine⟨⟨x,mm,S,fun _=>False,fun _=>q,fun _ _=>none⟩,⟨ht,h1.same k1,?_,?_,lf k id,SZ.root id,fun _ h=>h.elim,?_,?_,?_,?_⟩,rfl,?_,h5⟩
 ·have:=h4.same k1
  have ef:(fun h=>if h∈ids (cV id).D then some (Value.pointer (some ⟨q,0,none⟩))else none)=fun y=>if true=true/\y=id then(some q).map (fun q=>Value.pointer (some ⟨q,0,none⟩))else none:=by
   funext y
   by_cases hy:y=id
   ·simp [hy,cV,ids]
   ·simp [hy,cV,ids]
  show fc u mm (fun h=>if h∈ids (cV id).D then some (Value.pointer (some ⟨q,0,none⟩))else none)
  rw [ef];exact this
 ·intro y hy
  have:y=id:=by simpa [cV,ids]using hy
  subst this;obtain⟨q1,_⟩:=(lf k y).root ⟨y,[]⟩ rfl
  replace q1:(cV y).iw y=_:=q1
  rw [q1];exact⟨none,0,0,none,0,0,none,k1.heap h6 (fun h=>h),HS.nil _ _,⟨rfl,fun i b hi=>by simp at hi⟩,fun a ha=>(by cases ha),fun a ha=>(by cases ha),.inl ⟨rfl,fun _=>rfl⟩,rfl⟩
 ·rintro j rfl e
  rcases e with e|e|e
  ·exact(h2 _ e).2.2.2 rfl
  ·have e:j=v.heap.size:=e;omega
  ·exact fE e.symm
 ·intro j e
  have:=h2 j e;exact⟨by omega,fun e=>this.2.2.1 (by rw [e])⟩
 ·show v.heap.size≠mm;omega
 ·rintro j (e|e)
  ·rcases e with e|e|e
   ·have:=h2 j e;omega
   ·have e:j=v.heap.size:=e;omega
   ·have e:j=mm:=e;omega
  ·have e:j=q:=e;omega
 ·intro j e
  rcases e with e|e|e
  ·have:=h2 j e;omega
  ·have e:j=v.heap.size:=e;omega
  ·have e:j=mm:=e;omega
theorem gK(id:HT){k:Nat}(hk:k<=100)(hK: ∀w' c q m,CV w' (· =q) c k (cV id) m->(∀j,m.own c j->w.heap.size<=j)->w.heap.size<=q->Kept Nil w w'->K (.tuple #[.pointer (some ⟨c,0,none⟩),.int .i64 0]) w'):
 bk prog gK.id #[.int .i64 (k:Int),.agg id.1] w K:=by
 refine gK.of ?_;unfold gK.W;intro w1;have k1:Kept Nil w w1:=(Kept.refl _ _).alloc _;have xq:w1.heap[w.heap.size]? =some (.cells id.1 ai (0,0)):=aH w _;clear_value w1;refine Split.no (decide_eq_false (by omega)) (Split.no (decide_eq_false (by omega)) ?_);intro w2;have k2:Kept Nil w1 w2:=(Kept.refl _ _).drew;clear_value w2;have lK:=k2.heap xq (fun h=>h);have mY:=k1.trans k2 (fun _ _ h=>h);have s02:=mY.size;have N0:GN w2 w2 id none none none false:=⟨Kept.refl _ _,fun _ h=>(by cases h),fun _ h=>(by cases h),fun _ h=>(by cases h),fun _ _ h=>(by cases h)⟩;have bx: ∀ {v:World},Kept Nil w2 v-> ∃cs:Array Value,(.agg id.1:Value)=.agg cs/\cs.size=32/\Cells v ⟨w.heap.size,0,none⟩ cs:=fun kv=>⟨id.1,rfl,id.2.1,Cells.bA (kv.heap lK (fun h=>h))⟩;have fin: ∀ {v:World} {x mm q:Nat},GN w2 v id (some x) (some mm) (some q) true->let p:=v.alloc (.cells #[.int .i64 (k:Int),.pointer (some ⟨x,0,none⟩),.map (some mm)] gg);K (.tuple #[.pointer (some (⟨v.heap.size,0,none⟩:Addr)),.int .i64 0]) p:=fun {v x mm q} N=>by
  obtain⟨m,h1,_,h2,h3⟩:=N.fin k;exact hK _ _ q m h1 (fun j e=>by have:=h2 j e;omega) (by omega) ((mY.trans N.kp (fun _ _ h=>h)).alloc _)
 refine⟨id.1,⟨id.2.1,Cells.bA lK⟩,id.1,⟨id.2.1,Cells.bA lK⟩,?_,?_,?_⟩
 ·refine gU id fun v x hX kv=>⟨_,rfl,?_⟩
  have N1:=N0.Bm hX (fun j e=>e) kv;refine⟨bx N1.kp,⟨?_,?_⟩⟩
  ·have N2:=N1.Ht
   have N3:=N2.Hs;obtain⟨u,hu,N4⟩:=N3.put;exact⟨bx N2.kp,bx N3.kp,u,hu,fin N4⟩
  ·have N2:=N1.Hs
   have N3:=N2.Ht;obtain⟨u,hu,N4⟩:=N3.put;exact⟨bx N2.kp,bx N3.kp,u,hu,fin N4⟩
 ·have N1:=N0.Ht
  refine⟨bx N1.kp,bx N1.kp,?_,?_⟩
  ·refine gU id fun v x hX kv=>⟨_,rfl,?_⟩
   have N2:=N1.Bm hX (fun j e=>e) kv;have N3:=N2.Hs;obtain⟨u,hu,N4⟩:=N3.put;exact⟨bx N2.kp,bx N3.kp,u,hu,fin N4⟩
  ·have N2:=N1.Hs
   refine⟨bx N2.kp,bx N2.kp,?_,?_⟩
   ·refine gU id fun v x hX kv=>⟨_,rfl,?_⟩
    have N3:=N2.Bm hX (fun j e=>e) kv;obtain⟨u,hu,N4⟩:=N3.put;exact⟨bx N3.kp,u,hu,fin N4⟩
   ·obtain⟨u,hu,N3⟩:=N2.put
    refine⟨u,hu,bx N3.kp,?_⟩;refine gU id fun v x hX kv=>⟨_,rfl,?_⟩;exact fin (N3.Bm hX (fun j e=>e) kv)
 ·have N1:=N0.Hs
  refine⟨bx N1.kp,bx N1.kp,?_,?_⟩
  ·refine gU id fun v x hX kv=>⟨_,rfl,?_⟩
   have N2:=N1.Bm hX (fun j e=>e) kv;have N3:=N2.Ht;obtain⟨u,hu,N4⟩:=N3.put;exact⟨bx N2.kp,bx N3.kp,u,hu,fin N4⟩
  ·have N2:=N1.Ht
   refine⟨bx N2.kp,bx N2.kp,?_,?_⟩
   ·refine gU id fun v x hX kv=>⟨_,rfl,?_⟩
    have N3:=N2.Bm hX (fun j e=>e) kv;obtain⟨u,hu,N4⟩:=N3.put;exact⟨bx N3.kp,u,hu,fin N4⟩
   ·obtain⟨u,hu,N3⟩:=N2.put
    refine⟨u,hu,bx N3.kp,?_⟩;refine gU id fun v x hX kv=>⟨_,rfl,?_⟩;exact fin (N3.Bm hX (fun j e=>e) kv)
end
end Go.Proofs.YtnboahlopghcjaaGreatDoor
