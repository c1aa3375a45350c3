import Derived.Test.YtfleamccglihoaaGreatDoorMS
import Derived.Test.YtfleamccglihoaaGreatDoorMQ
import Derived.Test.YtfleamccglihoaaGreatDoorMJ
import Derived.Test.YtfleamccglihoaaGreatDoorMP
open Go.IntKind (i64 u64)
set_option linter.unusedVariables false
namespace Go.Proofs.YtfleamccglihoaaGreatDoor
open Go.Proofs.Tryz
open Go Go.bT Go.RowKit
theorem AD(D:DG)(s:HT){l:List HT}(hl:∀x∈l,x∈ids D):(tg D s l).length<=D.length:=by
 have:=dc (m:=ids D) (rh D s l) (fun x hx=>by
  rcases(vG.1 hx).1 with h|h
  ·exact h.1
  ·exact hl x h)
 rwa [gq]at this
theorem ti{D:DG}{l:List HT}(h:kZ D l=0):l≠ []/\∀x∈l,x∈ids D:=by
 unfold kZ at h;split at h
 ·cases h
 ·rename_i h0
  split at h
  ·cases h
  ·rename_i h1
   exact⟨h0,fun x hx=>Classical.byContradiction fun e=>h1 ⟨x,hx,e⟩⟩
section
variable{w w':World}{F:Nat->Prop}{c k:Nat}{G:GS}{m:CM}{K:Value->World->Prop}{A:Option Addr}{n cx:Nat}{l:List HT}{s:HT}
theorem mT.gF{q B sm bb cp e ce:Nat}{x:ou}{ov:HT->Option Nat}{E:Option Addr}(h:mT w B q sm bb x ov A n cp E e ce):Cells w ((⟨q,0,none⟩:Addr).add 0) (cQ x A n cp E e ce):=by
 intro j u hj;rw [add_zero,br,aD h.top,Array.getElem?_append_left (by rw [aZ];have:=(Array.getElem?_eq_some_iff.1 hj).1;rw [aZ]at this;omega)];rw [Nat.zero_add];exact hj
theorem Df(h:CV w F c k G m)(hT:tJ w)(hD:G.D.length<=49)(qw:k<=1000)(zy:HS w A n l)(hn:n<=5000)
 (h0:kZ G.D (s::l)≠0->∀w',Kept Nil w w'->K (.tuple #[.agg (cQ ⟨dX,0,[],[]⟩ none 0 0 none 0 0),.int .i64 (kZ G.D (s::l))]) w')
 (h1:kZ G.D (s::l)=0->∀w' A n cp E e ce,HS w' A n (cR k G s l).merge->Bo w' E e (cR k G s l).fh->Kept Nil w w'->(∀a,A=some a->w.heap.size<=a.block)->K (.tuple #[.agg (cQ (cR k G s l) A n cp E e ce),.int .i64 0]) w'):
 bu prog dT.id #[.pointer (some ⟨c,0,none⟩),.agg s.1,.slice A n cx] w K:=by
 refine dT.of ?_;unfold dT.W;intro w1 w2;have k1:Kept Nil w w1:=(Kept.refl _ _).alloc _;have sO:w1.heap[w.heap.size]? =some (.cells s.1 ah (0,0)):=aI w _;have k2:Kept Nil w1 w2:=(Kept.refl _ _).alloc _;have jF:w2.heap[w1.heap.size]? =some (.cells zC bn (0,0)):=aI w1 _;clear_value w2;have uS:=k2.heap sO (fun h=>h);have js:=k1.tt k2;have s1:=k1.size;have l1:=aQ sO;have l2:=aQ jF;clear_value w1;refine⟨s.1,⟨s.2.1,Cells.bI uS⟩,s.2.1,?_⟩;intro w3;have k3:Kept Nil w2 w3:=(Kept.refl _ _).alloc _;have BZ:HS w3 (some ⟨w2.heap.size,0,none⟩) 1 [s]:=iL w2 s;have jR:bK w3 w.heap.size (some ⟨w2.heap.size,0,none⟩) 1 1 [s]:=by
  have e:c9 [s]=(s.1.toList++ []).toArray.toList:=by simp [c9]
  show Row _ _ _ _ _ _ _ (c9 [s])
  rw [e];exact Row.made (aI w2 _) (by have:=js.size;omega) (by simp [s.2.1]) (by unfold maxLen;omega)
 clear_value w3;have jY:=js.tt k3;have s2:=js.size;have s3:=jY.size;obtain⟨A2,c2,w4,wJ,iG,g4,NW⟩:=ct ay jR (cx:=cx) (zy.same jY) (by omega) s3;have AR:Kept (fun j=>w.heap.size<=j) w3 w4:=(Kept.refl _ _).grown g4 fun j hj _=>(Row.bI jR hj).1;have mW:Kept Nil w w4:=Kept.dA jY g4 (fun j hj=>(Row.bI jR hj).1);have pT:Kept Nil w2 w4:=Kept.dA k3 g4 (fun j hj=>by cases hj;exact Nat.le_refl _);have Hb:=pT.heap uS (fun h=>h);have aaR:=pT.heap jF (fun h=>h);refine⟨A2,_,c2,w4,wJ,?_⟩;refine yc (h.same mW) (show HS w4 A2 (1+n) (s::l)from iG.hs) (by omega) fun w5 k5=>⟨_,rfl,?_⟩;have nQ:=mW.tt k5;have hs5:=k5.heap Hb (fun h=>h);have sA:=k5.heap aaR (fun h=>h);have zs:(zC:Array Value)=cQ ⟨dX,0,[],[]⟩ none 0 0 none 0 0:=rfl;by_cases hm:kZ G.D (s::l)=0
 ·refine Split.no (by simp [hm]) ⟨s.1,⟨s.2.1,Cells.bI hs5⟩,?_⟩
  obtain⟨_,fJ⟩:=ti hm;have h5:=h.same nQ;have Vd:∀x∈l,x∈ids G.D:=fun x hx=>fJ x (List.mem_cons_of_mem _ hx);obtain⟨ch,nH⟩:=cI.ex h.fg.iY s;refine we DX (Nat.le_trans (AD G.D s Vd) hD) h5 (hT.same nQ) (by omega) qw (fJ s List.mem_cons_self) nH Vd (zy.same nQ) hn fun v q B sm bb ov A n cp E e ce g1 _ g3 _ g5 g6 g7=>?_;refine⟨some ⟨q,0,none⟩,rfl,Is.mk rfl ?_⟩;have Kv:=g7.heap sA (fun h=>h);obtain⟨t1,t2,t3⟩:=dG Kv (cs:=cQ (cR k G s l) A n cp E e ce) (by rw [aZ];rfl);refine⟨_,⟨aZ ..,g1.gF⟩,⟨aZ ..,dJ _ _ _ _ _ _ _,fun j hj=>t1 j (by rw [aZ];exact hj)⟩,?_⟩;intro w8
  replace t2:w8.heap[w1.heap.size]? =_:=t2
  replace t3:Kept (· =w1.heap.size) v w8:=t3
  clear_value w8;refine⟨_,⟨aZ ..,Cells.bI t2⟩,?_⟩;have s5:=nQ.size;have cU:w1.heap.size<w5.heap.size:=aQ sA;refine h1 hm w8 A n cp E e ce (g1.mg.aF t3 (fun a ha e=>?_)) ((Row.bo g1.bl).aF t3 (fun a ha e=>?_)) ((nQ.tt g7).trans t3 (fun j hj e=>by omega)) (fun a ha=>by have:=g5 a ha;omega)
  ·have:=g5 a ha
   omega
  ·subst ha
   have:=(Row.bI g1.bl (k:=a.block) rfl).1;have:=g6.1;omega
 ·refine Split.yes (by simpa using hm) ?_
  obtain⟨t1,t2,t3⟩:=dG sA (cs:=zC) rfl;refine⟨⟨rfl,by rw [zs];exact dJ _ _ _ _ _ _ _,fun j hj=>t1 j hj⟩,?_⟩;exact⟨_,⟨rfl,Cells.bI t2⟩,h0 hm _ (nQ.trans t3 (fun j hj e=>by omega))⟩
end
theorem XV.off{w:World}{D:DG}{P:List Int}{m:XM}{x:Nat}{F:Nat->Prop}(h:XV w F x D P m):∀k,m.la x k->¬F k:=fun k e=>by
 obtain⟨bl,c,mb,M,G⟩:=h.G;rcases e with e|e|e|e
 ·exact G.Hk k e
 ·exact fun f=>(h.fd k f).1 e
 ·exact fun f=>(h.fd k f).2 e
 ·exact(h.od k e).2.2.2
section
variable{w w':World}{F F':Nat->Prop}{c k q:Nat}{G:GS}{m:CM}{K:Value->World->Prop}{A B:Option Addr}{n cx cp e ce:Nat}{l:List HT}{x:ou}{sz:HT->Option Nat}{sm:Option Nat}
theorem Seen.mono(h:Seen w F q x sz)(hF:∀j,F j->F' j):Seen w F' q x sz:=by
 obtain⟨A,n,cp,B,e,ce,sm,h⟩:=h;refine⟨A,n,cp,B,e,ce,sm,h.top,h.mg,h.bl,fun a ha=>hF _ (h.fA a ha),fun a ha=>hF _ (h.fB a ha),?_,hF _ h.fq⟩;rcases h.sz with g|⟨s,g1,g2,g3⟩
 ·exact .inl g
 ·exact .inr ⟨s,g1,hF _ g2,g3⟩
abbrev Mn:Array Value:=cQ ⟨dX,0,[],[]⟩ none 0 0 none 0 0
theorem DH(D:DG)(h:HT)(l:List HT):dF D h l=if h∈ids D then 7 else if l.length=0 then 9 else if(dw l).length≠l.length then 9 else kZ D l:=by
 unfold dF kZ;by_cases h1:h∈ids D
 ·rw [if_pos h1,if_pos h1]
 ·rw [if_neg h1,if_neg h1]
  by_cases h2:l.length=0
  ·rw [if_pos h2,if_pos (.inl (by have:=qi l;omega))]
  ·have hl:l≠ []:=fun e=>h2 (by rw [e];rfl)
   rw [if_neg h2];by_cases h3:(dw l).length≠l.length
   ·rw [if_pos h3,if_pos (.inr h3)]
   ·have a:¬((dw l).length=0\/(dw l).length≠l.length):=by omega
    have hc:(∃p∈dw l,p∉ids D)↔∃p∈l,p∉ids D:=⟨fun⟨p,hp,hq⟩=>⟨p,dM.1 hp,hq⟩,fun⟨p,hp,hq⟩=>⟨p,dM.2 hp,hq⟩⟩;rw [if_neg h3,if_neg a,if_neg hl];by_cases h4:∃p∈l,p∉ids D
    ·rw [if_pos h4,if_pos (hc.2 h4)]
    ·rw [if_neg h4,if_neg (fun e=>h4 (hc.1 e))]
set_option maxHeartbeats 2000000 in
theorem GA(h:CV w F c k G m)(hT:tJ w)(KE:¬m.SX (Tryz.jX.g 1))(hD:G.D.length<=49)(qw:k<=1000)(zy:HS w A n l)(hn:n<=5000)(id:HT)
 (hE:dF G.D id l≠0->∀w',Kept Nil w w'->K (.tuple #[.agg Mn,.int .i64 (dF G.D id l)]) w')
 (hO:dF G.D id l=0->∀w' F' m' A n c1 B e c2,CV w' F' c k (dz k G id l) m'->m'.x=m.x->Kept (m.own c) w w'->(∀j,m'.own c j->m.own c j\/w.heap.size<=j)->(∀j,F' j->F j\/w.heap.size<=j)->
   bK w' w.heap.size A n c1 (cR k G (cC G l) l).merge->Row w' w.heap.size iK 1 B e c2 (sQ (cR k G (cC G l) l).fh)->(∀j,a8 A=some j->a8 B≠some j)->(∀j,a8 A=some j\/a8 B=some j->¬m'.own c j/\¬F' j)->
   K (.tuple #[.agg (cQ (cR k G (cC G l) l) A n c1 B e c2),.int .i64 0]) w'):
 bu prog dI.id #[.pointer (some ⟨c,0,none⟩),.agg id.1,.slice A n cx] w K:=by
 have hlen:=zy.len;refine dI.of ?_;unfold dI.W;intro w1 w2;have k1:Kept Nil w w1:=(Kept.refl _ _).alloc _;have sO:w1.heap[w.heap.size]? =some (.cells id.1 ah (0,0)):=aI w _;have k2:Kept Nil w1 w2:=(Kept.refl _ _).alloc _;have jF:w2.heap[w1.heap.size]? =some (.cells zC bn (0,0)):=aI w1 _;clear_value w2;have uS:=k2.heap sO (fun h=>h);have js:=k1.tt k2;have s1:=k1.size;have l1:=aQ sO;have l2:=aQ jF;clear_value w1;have zs:(zC:Array Value)=Mn:=rfl;have bad:∀ {u:World} {r:Int},Kept Nil w2 u->dF G.D id l=r->r≠0->(zC.size=35/\(∀n∈zC.toList,n.oneCell'=true)/\∀o,o<35->Wr u ((⟨w1.heap.size,0,none⟩:Addr).add o))/\
  let p:=setCells u (⟨w1.heap.size,0,none⟩:Addr) zC.toList 0;∃q:Array Value,(q.size=35/\Cells p (⟨w1.heap.size,0,none⟩:Addr) q)/\K (.tuple #[.agg q,.int .i64 r]) p:=fun {u r} ku hr h0=>by
  obtain⟨t1,t2,t3⟩:=dG (ku.heap jF (fun h=>h)) (cs:=zC) rfl;refine⟨⟨rfl,by rw [zs];exact dJ _ _ _ _ _ _ _,fun j hj=>t1 j hj⟩,?_⟩;refine⟨_,⟨rfl,Cells.bI t2⟩,?_⟩;have:=hE (by rw [hr];exact h0) _ ((js.tt ku).trans t3 (fun j hj e=>by omega));rw [hr]at this;exact this
 have jT:=DH G.D id l;refine nf (h.same js) ⟨true,rfl,Split.no rfl ?_⟩;intro w3;have k3:Kept Nil w2 w3:=(Kept.refl _ _).drew;clear_value w3;have jY:=js.tt k3;have h3:=h.same jY;refine⟨_,h3.c2,id.1,⟨id.2.1,Cells.bI (k3.heap uS (fun h=>h))⟩,_,h3.look id,?_⟩;by_cases hid:id∈ids G.D
 ·rw [if_pos hid]at jT
  exact Split.yes (by rw [if_pos hid];rfl) (bad k3 jT (by decide))
 rw [if_neg hid]at jT;refine Split.no (by rw [if_neg hid];rfl) ?_;by_cases Gq:n=0
 ·rw [if_pos (by omega)]at jT
  exact Split.yes (by subst Gq;rfl) (bad k3 jT (by decide))
 rw [if_neg (by omega)]at jT;refine Split.no (by simpa using (by omega:¬(n:Int)=0)) ?_;refine jf (zy.same jY) (by omega) fun A4 c4 w4 iG k4=>⟨A4,_,c4,rfl,?_⟩;have pT:=k3.tt k4;have mW:=jY.tt k4;by_cases Gk:(dw l).length≠l.length
 ·rw [if_pos Gk]at jT
  exact Split.yes (by simp only [bne_iff_ne,ne_eq];omega) (bad pT jT (by decide))
 rw [if_neg Gk]at jT;refine Split.no (by simp only [bne_eq_false_iff_eq];omega) ?_;refine y0 (h.same mW) (zy.same mW) (by omega) fun w5 k5=>⟨_,_,rfl,?_⟩;have zr:=pT.tt k5;have nQ:=mW.tt k5;generalize nt:(if kZ G.D l=0 then cC G l else dX)=s;intro w6;have k6:Kept Nil w5 w6:=(Kept.refl _ _).alloc _;have qJ:w6.heap[w5.heap.size]? =some (.cells dX.1 ah (0,0)):=aI w5 _;clear_value w6;obtain⟨t1,t2,t3⟩:=jU s qJ rfl;refine⟨t1,?_⟩;intro w7
 replace t2:w7.heap[w5.heap.size]? =some (.cells s.1 ah (0,0)):=t2
 replace t3:Kept (· =w5.heap.size) w6 w7:=t3
 clear_value w7;have Lk:Kept Nil w5 w7:=k6.trans t3 (fun j hj e=>by omega);have Pf:=zr.tt Lk;have zu:=nQ.tt Lk;by_cases hm:kZ G.D l≠0
 ·exact Split.yes (by simpa using hm) (bad Pf jT hm)
 have hm:kZ G.D l=0:=by omega
 rw [if_pos hm]at nt;rw [hm]at jT⊢;refine Split.no rfl ⟨s.1,⟨s.2.1,Cells.bI t2⟩,?_⟩;obtain⟨fL,fJ⟩:=ti hm;have CQ:s∈l:=by rw [<-nt];exact lM fL
 obtain⟨ch,nH⟩:=cI.ex h.fg.iY s;have h7:=h.same zu;refine we DX (Nat.le_trans (AD G.D s fJ) hD) h7 (hT.same zu) (by omega) qw (fJ s CQ) nH fJ (zy.same zu) hn fun v q B sm bb ov Am nm cp E e ce g1 gO g3 g4 g5 g6 g7=>⟨some ⟨q,0,none⟩,rfl,?_⟩;have AY:=zu.tt g7;have Iw:=Pf.tt g7;have k5v:=Lk.tt g7;have s07:=zu.size;have s0v:=AY.size;intro w8;have k8:Kept Nil v w8:=(Kept.refl _ _).drew;clear_value w8;have uQ:=AY.tt k8;have h8:=h.same uQ;have g18:=g1.same k8;have s8:=k8.size;refine⟨_,h8.c1,id.1,⟨id.2.1,Cells.bI ((Iw.tt k8).heap uS (fun h=>h))⟩,s.1,⟨s.2.1,Cells.bI (((g7.tt k8)).heap t2 (fun h=>h))⟩,?_⟩;refine Cz h8.X (by omega) (hT.same uQ) KE (zy.same uQ) hn id s fun u S' FX' hX9 k9 hS9 RY=>⟨_,rfl,?_⟩;have eX:nX G.D id s l=(dz k G id l).D/\nW G.D G.P id s l=(dz k G id l).P:=by rw [<-nt];exact⟨Kb.symm,Kc.symm⟩
 rw [eX.1,eX.2]at hX9;obtain⟨mx,X9,hmx⟩:=hX9;have wT:∀j,m.own c j\/F j->j<w.heap.size:=h.low;have g1q:q<v.heap.size:=aQ g1.top;have g1s:sm<v.heap.size:=g1.ov.lt;have wh:∀j,w.heap.size<=j->¬m.SX j:=fun j hj e=>by have:=wT j (.inl (.inl e));omega
 have g19:=g18.aF k9 (wh q (by omega)) (wh sm (by omega)) (fun j hj _=>wh j (by have:=g6.1;omega)) (fun a ha=>wh _ (by have:=g5 a ha;omega));have s9:=k9.size;have G8:Kept m.SX w2 u:=((Iw.tt k8).mono fun _ _ h=>h.elim).tt k9;have ncm:¬m.SX c/\¬m.SX m.mb:=⟨fun e=>(h.so _ e).1 rfl,fun e=>(h.so _ e).2 rfl⟩;have Sp:u.heap[c]? =_:=k9.heap h8.top ncm.1;have adK:=h8.all.aF k9 ncm.2;intro w10;have lh:Kept Nil u w10:=(Kept.refl _ _).drew;clear_value w10;have Sr:=lh.heap Sp (fun h=>h);have Lw:=(G8.trans lh (fun _ _ h=>h.elim)).heap uS (fun e=>wh _ (Nat.le_refl _) e);have Xi:=adK.aF lh (fun h=>h);obtain⟨nM,aa7,Xh,tm⟩:=Xi.put Ib id (.pointer (some ⟨q,0,none⟩));refine⟨some m.mb,by rw [br,aD Sr];rfl,id.1,⟨id.2.1,Cells.bI Lw⟩,nM,aa7,Is.mk rfl ?_⟩;have Zo:=lh.size;have Zn:=tm.size;have lmb:m.mb<w.heap.size:=wT _ (.inl (.inr (.inr rfl)));have lc:c<w.heap.size:=wT _ (.inl (.inr (.inl rfl)));have rr:Kept (· =m.mb) u nM:=(lh.mono fun _ _ h=>h.elim).tt tm;have Mh:=g19.aF rr (by omega) (by omega) (fun j hj _ e=>by have:=g6.1;omega) (fun a ha e=>by have:=g5 a ha;omega);have adG:=Row.bo Mh.bl;have TO:Kept (m.own c) w nM:=((uQ.mono (S':=m.own c) fun _ _ h=>h.elim).trans k9 (fun _ _ h=>.inl h)).trans rr (fun _ _ h=>.inr (.inr h));refine⟨_,⟨aZ ..,Mh.gF⟩,?_⟩;have yY:=g1.mg.len;have hnm:nm<=49:=by
  have Kt:(cR k G s l).merge=cP G s l:=rfl;have vV:(cP G s l).length<=49:=by
   have:=dc (m:=ids G.D) (lG G s l).nodup (fun y hy=>by
    rcases(jw.1 hy).1 with h|h
    ·exact h.1
    ·exact fJ y h)
   rw [gq]at this;omega
  rw [Kt]at yY;omega
 have Yj:e<=49:=by
  have h1:=(rP k G s l).1;have h2:=(Row.bo g1.bl).len;have Kt:(cR k G s l).merge=cP G s l:=rfl;have hv2:(cR k G s l).fh=(fK k G s l).bl:=rfl;rw [hv2]at h2;rw [Kt]at yY;omega
 refine oT (cR k G s l) Mh.mg adG (by omega) (by omega) fun A' c1 B' c2 lL pC HM UN wI=>⟨_,rfl,?_⟩;have TJ:Kept (m.own c) w2 lL:=((G8.mono (S':=m.own c) fun _ _ h=>.inl h).trans rr (fun _ _ h=>.inr (.inr h))).trans wI (fun _ _ h=>h.elim);have fr2:∀j,w.heap.size<=j->¬m.own c j:=fun j hj e=>by have:=wT j (.inl e);omega
 have I8:=TJ.heap jF (fr2 _ (by omega));obtain⟨f1,f2,f3⟩:=dG I8 (cs:=cQ (cR k G s l) A' nm c1 B' e c2) (by rw [aZ];rfl);refine⟨⟨aZ ..,dJ _ _ _ _ _ _ _,fun j hj=>f1 j (by rw [aZ];exact hj)⟩,?_⟩;intro mz
 replace f2:mz.heap[w1.heap.size]? =_:=f2
 replace f3:Kept (· =w1.heap.size) lL mz:=f3
 clear_value mz;refine⟨_,⟨aZ ..,Cells.bI f2⟩,?_⟩;have vR:Kept (· =w1.heap.size) nM mz:=(wI.mono fun _ _ h=>h.elim).tt f3;have s13:=vR.size;have lw1:w1.heap.size<w7.heap.size:=Nat.lt_of_lt_of_le l2 Pf.size;rw [nt]at hO;have A9:=mQ (k:=k) (G:=G) (h:=id) (ps:=l) jT;have Vm:ids (dz k G id l).D=ids G.D++ [id]:=by rw [A9];simp [ids]
 let F':Nat->Prop:=fun j=>F j\/(w7.heap.size<=j/\j<v.heap.size)\/FX' j
 let m':CM:=⟨m.x,m.mb,mx.la m.x,FX',fun y=>if y=id then q else m.q y,fun y=>if y=id then ov else m.sz y⟩
 have RP:∀j,mx.la m.x j->m.SX j\/w8.heap.size<=j:=fun j e=>hS9 j (hmx j e);have Zx:∀j,m'.own c j->m.own c j\/w8.heap.size<=j:=fun j e=>by
  rcases e with e|e|e
  ·exact(RP j e).imp (fun e=>.inl e) (fun e=>e)
  ·exact .inl (.inr (.inl e))
  ·exact .inl (.inr (.inr e))
 have vL:∀j,F' j->F j\/(w7.heap.size<=j/\j<u.heap.size):=fun j e=>by
  rcases e with e|e|e
  ·exact .inl e
  ·exact .inr ⟨e.1,by omega⟩
  ·rcases RY j e with e'|e'
   ·exact .inl (h.fx j e')
   ·exact .inr ⟨by omega,X9.low j (.inr e)⟩
 have MK:∀j,mx.la m.x j->j<u.heap.size:=fun j e=>X9.low j (.inl e);have ZS:Kept (fun j=>j=m.mb\/j=w1.heap.size) u mz:=(rr.mono fun _ _ h=>.inl h).trans vR (fun _ _ h=>.inr h);have n1:∀j,F' j->¬(j=m.mb\/j=w1.heap.size):=fun j e e'=>by
  rcases e' with e'|e'
  ·rcases vL j e with e|e
   ·exact h.fo j e (.inr (.inr e'))
   ·omega
  ·rcases vL j e with e|e
   ·have:=wT j (.inr e);omega
   ·omega
 have n2:∀j,mx.la m.x j->¬(j=m.mb\/j=w1.heap.size):=fun j e e'=>by
  rcases e' with e'|e'
  ·rcases RP j e with e|e
   ·exact(h.so j e).2 e'
   ·omega
  ·rcases RP j e with e|e
   ·have:=wT j (.inl (.inl e));omega
   ·have:=k8.size;have:=g7.size;omega
 have Mg:mT mz B q sm bb (cR k G s l) ov Am nm cp E e ce:=Mh.aF vR (by omega) (by omega) (fun j hj _ e=>by have:=g6.1;omega) (fun a ha e=>by have:=g5 a ha;omega);have C':CV mz F' c k (dz k G id l) m':=by
  refine⟨?_,?_,?_,?_,h.fg.add id l,?_,fun j e=>.inr (.inr e),?_,?_,h.ne,?_⟩
  ·exact ZS.heap Sp (fun e=>by rcases e with e|e;exact h.ne e;omega)
  ·exact⟨mx,X9.aF ZS n2 (fun j e=>n1 j (.inr (.inr e))),fun _ e=>e⟩
  ·have:=Xh.aF vR (by show ¬m.mb=_;omega)
   have ef:(fun h=>if h∈ids (dz k G id l).D then some (Value.pointer (some ⟨m'.q h,0,none⟩))else none)=fun x=>if x=id then some (Value.pointer (some ⟨q,0,none⟩))else if x∈ids G.D then some (.pointer (some ⟨m.q x,0,none⟩))else none:=by
    funext y
    rw [Vm];by_cases hy:y=id
    ·simp [hy,m']
    ·by_cases hy2:y∈ids G.D
     ·simp [hy,hy2,m']
     ·simp [hy,hy2]
   rw [ef];exact this
  ·intro y hy
   rw [Vm,List.mem_append,List.mem_singleton]at hy;by_cases he:y=id
   ·subst he
    rw [(og h.fg jT).1,nt];have e1:m'.q y=q:=if_pos rfl;have e2:m'.sz y=ov:=if_pos rfl;rw [e1,e2];refine⟨Am,nm,cp,E,e,ce,some sm,Mg.top,Mg.mg,Row.bo Mg.bl,fun a ha=>.inr (.inl ⟨g5 a ha,?_⟩),fun a ha=>.inr (.inl ?_),.inr ⟨sm,rfl,.inr (.inl ⟨g4,g1s⟩),Mg.ov⟩,.inr (.inl ⟨g3,g1q⟩)⟩
    ·have:=(g1.mA a ha).1
     have:=g6.2;omega
    ·subst ha
     obtain⟨q1,cur,q2⟩:=Row.bI g1.bl (k:=a.block) rfl;have:=aQ q2;have:=g6.1;exact⟨by omega,this |>fun _=>aQ q2⟩
   ·have hy:y∈ids G.D:=hy.elim (fun e=>e) (fun e=>absurd e he)
    rw [(nZ h.fg hy).1];have e1:m'.q y=m.q y:=if_neg he;have e2:m'.sz y=m.sz y:=if_neg he;rw [e1,e2];exact(((h8.seen y hy).aF k9 (fun j e e'=>h.fo j e (.inl e'))).aF ZS (fun j e=>n1 j (.inl e))).mono (fun j e=>.inl e)
  ·have ach:cI G.D G.P (cC G l) ch:=by rw [nt];exact nH
   rw [<-nt]at gO;exact SZ.add h.Z h.fg jT ach gO
  ·intro j e e'
   rcases e' with e'|e'|e'
   ·rcases e with e|e|e
    ·rcases RP j e' with e'|e'
     ·exact h.fo j e (.inl e')
     ·have:=wT j (.inr e);omega
    ·rcases RP j e' with e'|e'
     ·have:=wT j (.inl (.inl e'));omega
     ·omega
    ·exact XV.off X9 j e' e
   ·rcases vL j e with e|e
    ·exact h.fo j e (.inr (.inl e'))
    ·have e':j=c:=e';omega
   ·rcases vL j e with e|e
    ·exact h.fo j e (.inr (.inr e'))
    ·have e':j=m.mb:=e';omega
  ·intro j e
   rcases RP j e with e'|e'
   ·exact h.so j e'
   ·exact⟨by omega,by show j≠m.mb;omega⟩
  ·rintro j (e|e)
   ·rcases e with e|e|e
    ·have:=MK j e;omega
    ·have e:j=c:=e;omega
    ·have e:j=m.mb:=e;omega
   ·rcases vL j e with e|e
    ·have:=wT j (.inr e);omega
    ·omega
 have EK:∀j,a8 A'=some j->nM.heap.size<=j:=fun j hj=>(Row.bI pC hj).1;have Q1:∀j,a8 B'=some j->nM.heap.size<=j:=fun j hj=>(Row.bI HM hj).1;have WY:∀j,nM.heap.size<=j->¬m'.own c j/\¬F' j:=fun j hj=>⟨fun e=>by
  rcases e with e|e|e
  ·have:=MK j e;omega
  ·have e:j=c:=e;omega
  ·have e:j=m.mb:=e;omega,fun e=>by
  rcases vL j e with e|e
  ·have:=wT j (.inr e);omega
  ·omega⟩
 exact hO jT mz F' m' A' nm c1 B' e c2 C' rfl ((TO.trans vR (fun j hj e=>by omega))) (fun j e=>(Zx j e).imp (fun h=>h) (fun h=>by omega)) (fun j e=>(vL j e).imp (fun h=>h) (fun h=>by omega))
  (Row.base (Row.aF pC f3 (fun j hj e=>by have:=EK j hj;omega)) (fun j hj=>by have:=EK j hj;omega)) (Row.base (Row.aF HM f3 (fun j hj e=>by have:=Q1 j hj;omega)) (fun j hj=>by have:=Q1 j hj;omega)) UN
  (fun j hj=>WY j (hj.elim (EK j) (Q1 j)))
end
theorem cI.Ij{D:DG}{P:List Int}{h:HT}{l:List HT}(hc:cI D P h l)(H:rO D P):l.length<=D.length:=by
 rcases hc with⟨_,rfl⟩|⟨i,nd,ks,h1,_,h3,rfl⟩
 ·exact Nat.zero_le _
 ·have:=h3.len H.par
  rw [List.length_map];have:=(lgeS h1).1;omega
section
variable{k:Nat}{G:GS}
theorem qy(H:iD k G){h:HT}(hm:h∈ids G.D):(G.gF h).merge.length<=G.D.length/\(G.gF h).fh.length=(G.gF h).merge.length:=by
 obtain⟨l,c⟩:=cI.ex H.iY h;rcases c.inv H.W H.iY hm with⟨_,nd,h0,rfl⟩|⟨t,r',_,qG,_,_⟩
 ·obtain⟨q1,_⟩:=H.root nd h0
  rw [q1];simp
 ·obtain⟨_,_,q3,q4,q5⟩:=H.up t h qG
  refine⟨?_,q3⟩;have:=dc (m:=ids G.D) q4 (fun y hy=>(((q5 y).1 hy).1.mem H.W).1)
  rwa [gq]at this
theorem ym:∀(m:List HT) (b:List Bool),(dZ m b).length<=m.length
 | [],_=>by simp [dZ]
 |_::_,[]=>by simp [dZ]
 |h::l,b::m=>by
  have:=ym l m;unfold dZ;split
  ·simp only [List.length_cons];omega
  ·simp only [List.length_cons];omega
end
section
variable{w w' jM:World}{B ob bx:Nat}{av av':Nat->Prop}{acc:List HT}
end
section
variable{w w' v:World}{F:Nat->Prop}{c k:Nat}{G:GS}{m:CM}{K:Value->World->Prop}
end
section
variable{w w':World}{F:Nat->Prop}{c k:Nat}{G:GS}{m:CM}{K:Value->World->Prop}
theorem sS(h:iD k G){a:HT}(ha:a∈ids G.D):(G.world a).length<=G.D.length:=by
 have:=dc (m:=ids G.D) (h.wd a ha).1 (fun b hb=>(((h.wd a ha).2.1 b hb).mem h.W).1)
 rwa [gq]at this
end
structure GN(w v:World)(id:HT)(X M Q:Option Nat)(pt:Bool):Prop where
 kp:Kept Nil w v
 x:∀x,X=some x->∃S,DK v S (fun _=>False) x [⟨id,[]⟩] [-1]/\∀j,S j->w.heap.size<=j/\j<v.heap.size/\M≠some j/\Q≠some j
 m:∀m,M=some m->w.heap.size<=m/\fR v m (fun y=>if pt=true/\y=id then Q.map fun q=>.pointer (some ⟨q,0,none⟩)else none)
 q:∀q,Q=some q->w.heap.size<=q/\v.heap[q]? =some (.cells zS eh (0,0))
 ne:∀m q,M=some m->Q=some q->m≠q
section
variable{w w' v u:World}{F:Nat->Prop}{c k:Nat}{G:GS}{m:CM}{K:Value->World->Prop}{id:HT}{X M Q:Option Nat}{pt:Bool}
theorem GN.J0(h:GN w v id X none Q false):GN w (v.alloc (.map #[] 0)) id X (some v.heap.size) Q false:=by
 have k1:Kept Nil v (v.alloc (.map #[] 0)):=(Kept.refl _ _).alloc _;have hs:=k1.size;have hm:fR (v.alloc (.map #[] 0)) v.heap.size (fun _=>none):=fR.new v;refine⟨h.kp.tt k1,fun x hx=>?_,fun m nv=>?_,fun q hq=>?_,fun m q nv hq=>?_⟩
 ·obtain⟨S,h1,h2⟩:=h.x x hx
  exact⟨S,h1.same k1,fun j e=>by have:=h2 j e;exact⟨this.1,by omega,fun e=>by cases e;omega,this.2.2.2⟩⟩
 ·cases nv
  exact⟨h.kp.size,by simpa using hm⟩
 ·exact⟨(h.q q hq).1,k1.heap (h.q q hq).2 (fun h=>h)⟩
 ·cases nv
  have:=aQ (h.q q hq).2;omega
theorem GN.JZ(h:GN w v id X M none false):GN w (v.alloc (.cells zS eh)) id X M (some v.heap.size) false:=by
 have k1:Kept Nil v (v.alloc (.cells zS eh)):=(Kept.refl _ _).alloc _;have hs:=k1.size;refine⟨h.kp.tt k1,fun x hx=>?_,fun m nv=>?_,fun q hq=>?_,fun m q nv hq=>?_⟩
 ·obtain⟨S,h1,h2⟩:=h.x x hx
  exact⟨S,h1.same k1,fun j e=>by have:=h2 j e;exact⟨this.1,by omega,this.2.2.1,fun e=>by cases e;omega⟩⟩
 ·have:=h.m m nv
  refine⟨this.1,?_⟩;have h2:=this.2.same k1;simpa using h2
 ·cases hq
  exact⟨h.kp.size,aI v _⟩
 ·cases hq
  have:=(h.m m nv).2.lt;omega
theorem GN.DE(h:GN w v id none M Q pt){x:Nat}{S:Nat->Prop}(hX:DK u S (fun _=>False) x [⟨id,[]⟩] [-1])(hS:∀j,S j->v.heap.size<=j/\j<u.heap.size)(k1:Kept Nil v u):GN w u id (some x) M Q pt:=by
 have hs:=h.kp.size;refine⟨h.kp.tt k1,fun x' hx=>?_,fun m nv=>⟨(h.m m nv).1,(h.m m nv).2.same k1⟩,fun q hq=>⟨(h.q q hq).1,k1.heap (h.q q hq).2 (fun h=>h)⟩,h.ne⟩;cases hx;refine⟨S,hX,fun j e=>by
  have:=hS j e;exact⟨by omega,this.2,fun e=>by have:=(h.m j e).2.lt;omega,fun e=>by have:=aQ (h.q j e).2;omega⟩⟩
theorem GN.put{mm q:Nat}(h:GN w v id X (some mm) (some q) false):∃u,(Instr.mapUpdate dK (.map (some mm)) (.agg id.1) (.pointer (some ⟨q,0,none⟩))).run prog v=.ok () u/\GN w u id X (some mm) (some q) true:=by
 obtain⟨h1,h2⟩:=h.m mm rfl;obtain⟨u,g1,g2,g3⟩:=h2.put Ib id (.pointer (some ⟨q,0,none⟩));have hs:=g3.size;refine⟨u,g1,h.kp.trans g3 (fun j hj e=>by omega),fun x hx=>?_,fun m nv=>?_,fun q' hq=>?_,h.ne⟩
 ·obtain⟨S,q1,q2⟩:=h.x x hx
  exact⟨S,q1.aF g3 (fun j e e'=>(q2 j e).2.2.1 (by rw [e'])) (fun _ h=>h.elim),fun j e=>by have:=q2 j e;exact⟨this.1,by omega,this.2.2⟩⟩
 ·cases nv
  refine⟨h1,?_⟩;have ef:(fun y=>if true=true/\y=id then(some q).map (fun q=>Value.pointer (some ⟨q,0,none⟩))else none)=fun x=>if x=id then some (.pointer (some ⟨q,0,none⟩))else if false=true/\x=id then(some q).map (fun q=>Value.pointer (some ⟨q,0,none⟩))else none:=by
   funext y
   by_cases hy:y=id<;>simp [hy]
  rw [ef];exact g2
 ·have:=h.q q' hq
  exact⟨this.1,g3.heap this.2 (fun e=>h.ne mm q' rfl hq e.symm)⟩
theorem GN.fin{x mm q:Nat}(h:GN w v id (some x) (some mm) (some q) true)(k:Nat):∃m,CV (v.alloc (.cells #[.int .i64 (k:Int),.pointer (some ⟨x,0,none⟩),.map (some mm)] im)) (· =q) v.heap.size k (dm id) m/\m.x=x/\(∀j,m.own v.heap.size j->w.heap.size<=j)/\w.heap.size<=q:=by
 have k1:Kept Nil v (v.alloc (.cells #[.int .i64 (k:Int),.pointer (some ⟨x,0,none⟩),.map (some mm)] im)):=(Kept.refl _ _).alloc _;have ht:=aI v (.cells #[.int .i64 (k:Int),.pointer (some ⟨x,0,none⟩),.map (some mm)] im);generalize v.alloc (.cells #[.int .i64 (k:Int),.pointer (some ⟨x,0,none⟩),.map (some mm)] im)=u at k1 ht⊢;obtain⟨S,h1,h2⟩:=h.x x rfl;obtain⟨h3,h4⟩:=h.m mm rfl;obtain⟨h5,h6⟩:=h.q q rfl;have fL:=h.ne mm q rfl rfl;have lm:=h4.lt;have lq:=aQ h6;have lt:=aQ ht;have hs:=k1.size;have hw:=h.kp.size;refine⟨⟨x,mm,S,fun _=>False,fun _=>q,fun _ _=>none⟩,⟨ht,h1.same k1,?_,?_,mG k id,SZ.root id,fun _ h=>h.elim,?_,?_,?_,?_⟩,rfl,?_,h5⟩
 ·have:=h4.same k1
  have ef:(fun h=>if h∈ids (dm id).D then some (Value.pointer (some ⟨q,0,none⟩))else none)=fun y=>if true=true/\y=id then(some q).map (fun q=>Value.pointer (some ⟨q,0,none⟩))else none:=by
   funext y
   by_cases hy:y=id
   ·simp [hy,dm,ids]
   ·simp [hy,dm,ids]
  show fR u mm (fun h=>if h∈ids (dm id).D then some (Value.pointer (some ⟨q,0,none⟩))else none)
  rw [ef];exact this
 ·intro y hy
  have:y=id:=by simpa [dm,ids]using hy
  subst this;obtain⟨q1,_⟩:=(mG k y).root ⟨y,[]⟩ rfl
  replace q1:(dm y).gF y=_:=q1
  rw [q1];exact⟨none,0,0,none,0,0,none,k1.heap h6 (fun h=>h),HS.nil _ _,⟨rfl,fun i b hi=>by simp at hi⟩,fun a ha=>(by cases ha),fun a ha=>(by cases ha),.inl ⟨rfl,fun _=>rfl⟩,rfl⟩
 ·rintro j rfl e
  rcases e with e|e|e
  ·exact(h2 _ e).2.2.2 rfl
  ·have e:j=v.heap.size:=e;omega
  ·exact fL e.symm
 ·intro j e
  have:=h2 j e;exact⟨by omega,fun e=>this.2.2.1 (by rw [e])⟩
 ·show v.heap.size≠mm;omega
 ·rintro j (e|e)
  ·rcases e with e|e|e
   ·have:=h2 j e;omega
   ·have e:j=v.heap.size:=e;omega
   ·have e:j=mm:=e;omega
  ·have e:j=q:=e;omega
 ·intro j e
  rcases e with e|e|e
  ·have:=h2 j e;omega
  ·have e:j=v.heap.size:=e;omega
  ·have e:j=mm:=e;omega
theorem iI(id:HT){k:Nat}(hk:k<=100)(hK:∀w' c q m,CV w' (· =q) c k (dm id) m->(∀j,m.own c j->w.heap.size<=j)->w.heap.size<=q->Kept Nil w w'->K (.tuple #[.pointer (some ⟨c,0,none⟩),.int .i64 0]) w'):
 bu prog iI.id #[.int .i64 (k:Int),.agg id.1] w K:=by
 refine iI.of ?_;unfold iI.W;intro w1;have k1:Kept Nil w w1:=(Kept.refl _ _).alloc _;have yY:w1.heap[w.heap.size]? =some (.cells id.1 ah (0,0)):=aI w _;clear_value w1;refine Split.no (decide_eq_false (by omega)) (Split.no (decide_eq_false (by omega)) ?_);intro w2;have k2:Kept Nil w1 w2:=(Kept.refl _ _).drew;clear_value w2;have lT:=k2.heap yY (fun h=>h);have js:=k1.tt k2;have s02:=js.size;have N0:GN w2 w2 id none none none false:=⟨Kept.refl _ _,fun _ h=>(by cases h),fun _ h=>(by cases h),fun _ h=>(by cases h),fun _ _ h=>(by cases h)⟩;have bx:∀ {v:World},Kept Nil w2 v->∃cs:Array Value,(.agg id.1:Value)=.agg cs/\cs.size=32/\Cells v ⟨w.heap.size,0,none⟩ cs:=fun kv=>⟨id.1,rfl,id.2.1,Cells.bI (kv.heap lT (fun h=>h))⟩;have fin:∀ {v:World} {x mm q:Nat},GN w2 v id (some x) (some mm) (some q) true->let p:=v.alloc (.cells #[.int .i64 (k:Int),.pointer (some ⟨x,0,none⟩),.map (some mm)] im);K (.tuple #[.pointer (some (⟨v.heap.size,0,none⟩:Addr)),.int .i64 0]) p:=fun {v x mm q} N=>by
  obtain⟨m,h1,_,h2,h3⟩:=N.fin k;exact hK _ _ q m h1 (fun j e=>by have:=h2 j e;omega) (by omega) ((js.tt N.kp).alloc _)
 refine⟨id.1,⟨id.2.1,Cells.bI lT⟩,id.1,⟨id.2.1,Cells.bI lT⟩,?_,?_,?_⟩
 ·refine iU id fun v x hX kv=>⟨_,rfl,?_⟩
  have N1:=N0.DE hX (fun j e=>e) kv;refine⟨bx N1.kp,⟨?_,?_⟩⟩
  ·have N2:=N1.J0
   have N3:=N2.JZ;obtain⟨u,hu,N4⟩:=N3.put;exact⟨bx N2.kp,bx N3.kp,u,hu,fin N4⟩
  ·have N2:=N1.JZ
   have N3:=N2.J0;obtain⟨u,hu,N4⟩:=N3.put;exact⟨bx N2.kp,bx N3.kp,u,hu,fin N4⟩
 ·have N1:=N0.J0
  refine⟨bx N1.kp,bx N1.kp,?_,?_⟩
  ·refine iU id fun v x hX kv=>⟨_,rfl,?_⟩
   have N2:=N1.DE hX (fun j e=>e) kv;have N3:=N2.JZ;obtain⟨u,hu,N4⟩:=N3.put;exact⟨bx N2.kp,bx N3.kp,u,hu,fin N4⟩
  ·have N2:=N1.JZ
   refine⟨bx N2.kp,bx N2.kp,?_,?_⟩
   ·refine iU id fun v x hX kv=>⟨_,rfl,?_⟩
    have N3:=N2.DE hX (fun j e=>e) kv;obtain⟨u,hu,N4⟩:=N3.put;exact⟨bx N3.kp,u,hu,fin N4⟩
   ·obtain⟨u,hu,N3⟩:=N2.put
    refine⟨u,hu,bx N3.kp,?_⟩;refine iU id fun v x hX kv=>⟨_,rfl,?_⟩;exact fin (N3.DE hX (fun j e=>e) kv)
 ·have N1:=N0.JZ
  refine⟨bx N1.kp,bx N1.kp,?_,?_⟩
  ·refine iU id fun v x hX kv=>⟨_,rfl,?_⟩
   have N2:=N1.DE hX (fun j e=>e) kv;have N3:=N2.J0;obtain⟨u,hu,N4⟩:=N3.put;exact⟨bx N2.kp,bx N3.kp,u,hu,fin N4⟩
  ·have N2:=N1.J0
   refine⟨bx N2.kp,bx N2.kp,?_,?_⟩
   ·refine iU id fun v x hX kv=>⟨_,rfl,?_⟩
    have N3:=N2.DE hX (fun j e=>e) kv;obtain⟨u,hu,N4⟩:=N3.put;exact⟨bx N3.kp,u,hu,fin N4⟩
   ·obtain⟨u,hu,N3⟩:=N2.put
    refine⟨u,hu,bx N3.kp,?_⟩;refine iU id fun v x hX kv=>⟨_,rfl,?_⟩;exact fin (N3.DE hX (fun j e=>e) kv)
end
end Go.Proofs.YtfleamccglihoaaGreatDoor
