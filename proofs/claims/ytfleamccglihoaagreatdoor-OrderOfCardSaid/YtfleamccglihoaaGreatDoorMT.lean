import Derived.Test.YtfleamccglihoaaGreatDoorMS
import Derived.Test.YtfleamccglihoaaGreatDoorMQ
import Derived.Test.YtfleamccglihoaaGreatDoorMJ
import Derived.Test.YtfleamccglihoaaGreatDoorMP
open Go.IntKind (i64 u64)
set_option linter.unusedVariables false
namespace Go.Proofs.YtfleamccglihoaaGreatDoor
open Go.Proofs.Tryz
open Go Go.bW Go.RowKit
theorem H8(D:DG)(s:HT){l:List HT}(hl:∀x∈l,x∈ids D):(sT D s l).length<=D.length:=by
 have:=dq (m:=ids D) (qV D s l) (fun x hx=>by
  rcases(vG.1 hx).1 with h|h
  ·exact h.1
  ·exact hl x h)
 rwa [gz]at this
theorem FQ{D:DG}{l:List HT}(h:nQ D l=0):l≠ []/\∀x∈l,x∈ids D:=by
 unfold nQ at h;split at h
 ·cases h
 ·rename_i h0
  split at h
  ·cases h
  ·rename_i h1
   exact⟨h0,fun x hx=>Classical.byContradiction fun e=>h1 ⟨x,hx,e⟩⟩
section
variable{w w':World}{F:Nat->Prop}{c k:Nat}{G:GS}{m:CM}{K:Value->World->Prop}{A:Option Addr}{n cx:Nat}{l:List HT}{s:HT}
theorem mS.fZ{q B sm bb cp e ce:Nat}{x:ou}{ov:HT->Option Nat}{E:Option Addr}(h:mS w B q sm bb x ov A n cp E e ce):Cells w ((⟨q,0,none⟩:Addr).add 0) (cS x A n cp E e ce):=by
 intro j u hj;rw [add_zero,bt,aD h.top,Array.getElem?_append_left (by rw [a8];have:=(Array.getElem?_eq_some_iff.1 hj).1;rw [a8]at this;omega)];rw [Nat.zero_add];exact hj
end
theorem XV.off{w:World}{D:DG}{P:List Int}{m:XM}{x:Nat}{F:Nat->Prop}(h:XV w F x D P m):∀k,m.lg x k->¬F k:=fun k e=>by
 obtain⟨bl,c,mb,M,G⟩:=h.G;rcases e with e|e|e|e
 ·exact G.Hf k e
 ·exact fun f=>(h.fd k f).1 e
 ·exact fun f=>(h.fd k f).2 e
 ·exact(h.od k e).2.2.2
section
variable{w w':World}{F F':Nat->Prop}{c k q:Nat}{G:GS}{m:CM}{K:Value->World->Prop}{A B:Option Addr}{n cx cp e ce:Nat}{l:List HT}{x:ou}{sz:HT->Option Nat}{sm:Option Nat}
theorem Seen.mono(h:Seen w F q x sz)(hF:∀j,F j->F' j):Seen w F' q x sz:=by
 obtain⟨A,n,cp,B,e,ce,sm,h⟩:=h;refine⟨A,n,cp,B,e,ce,sm,h.top,h.mg,h.bl,fun a ha=>hF _ (h.fA a ha),fun a ha=>hF _ (h.fB a ha),?_,hF _ h.fq⟩;rcases h.sz with g|⟨s,g1,g2,g3⟩
 ·exact .inl g
 ·exact .inr ⟨s,g1,hF _ g2,g3⟩
abbrev Mz:Array Value:=cS ⟨eN,0,[],[]⟩ none 0 0 none 0 0
theorem DA(D:DG)(h:HT)(l:List HT):dL D h l=if h∈ids D then 7 else if l.length=0 then 9 else if(dD l).length≠l.length then 9 else nQ D l:=by
 unfold dL nQ;by_cases h1:h∈ids D
 ·rw [if_pos h1,if_pos h1]
 ·rw [if_neg h1,if_neg h1]
  by_cases h2:l.length=0
  ·rw [if_pos h2,if_pos (.inl (by have:=qh l;omega))]
  ·have hl:l≠ []:=fun e=>h2 (by rw [e];rfl)
   rw [if_neg h2];by_cases h3:(dD l).length≠l.length
   ·rw [if_pos h3,if_pos (.inr h3)]
   ·have a:¬((dD l).length=0\/(dD l).length≠l.length):=by omega
    have hc:(∃p∈dD l,p∉ids D)↔∃p∈l,p∉ids D:=⟨fun⟨p,hp,hq⟩=>⟨p,dV.1 hp,hq⟩,fun⟨p,hp,hq⟩=>⟨p,dV.2 hp,hq⟩⟩;rw [if_neg h3,if_neg a,if_neg hl];by_cases h4:∃p∈l,p∉ids D
    ·rw [if_pos h4,if_pos (hc.2 h4)]
    ·rw [if_neg h4,if_neg (fun e=>h4 (hc.1 e))]
set_option maxHeartbeats 2000000 in
theorem Gz(h:CV w F c k G m)(hT:uA w)(KF:¬m.SX (Tryz.jV.g 1))(hD:G.D.length<=49)(rz:k<=1000)(G9:HS w A n l)(hn:n<=5000)(id:HT)
 (hE:dL G.D id l≠0->∀w',Kept Nil w w'->K (.tuple #[.agg Mz,.int .i64 (dL G.D id l)]) w')
 (hO:dL G.D id l=0->∀w' F' m' A n c1 B e c2,CV w' F' c k (dE k G id l) m'->m'.x=m.x->Kept (m.own c) w w'->(∀j,m'.own c j->m.own c j\/w.heap.size<=j)->(∀j,F' j->F j\/w.heap.size<=j)->
   bI w' w.heap.size A n c1 (dg k G (cF G l) l).merge->Row w' w.heap.size gZ 1 B e c2 (sD (dg k G (cF G l) l).fK)->(∀j,bn A=some j->bn B≠some j)->(∀j,bn A=some j\/bn B=some j->¬m'.own c j/\¬F' j)->
   K (.tuple #[.agg (cS (dg k G (cF G l) l) A n c1 B e c2),.int .i64 0]) w'):
 bC prog dP.id #[.pointer (some ⟨c,0,none⟩),.agg id.1,.slice A n cx] w K:=by
 have hlen:=G9.len;refine dP.of ?_;unfold dP.W;intro w1 w2;have k1:Kept Nil w w1:=(Kept.refl _ _).alloc _;have yT:w1.heap[w.heap.size]? =some (.cells id.1 ag (0,0)):=aH w _;have k2:Kept Nil w1 w2:=(Kept.refl _ _).alloc _;have jJ:w2.heap[w1.heap.size]? =some (.cells zC br (0,0)):=aH w1 _;clear_value w2;have yS:=k2.heap yT (fun h=>h);have jE:=k1.tt k2;have s1:=k1.size;have l1:=aU yT;have l2:=aU jJ;clear_value w1;have zs:(zC:Array Value)=Mz:=rfl;have bad:∀ {u:World} {r:Int},Kept Nil w2 u->dL G.D id l=r->r≠0->(zC.size=35/\(∀n∈zC.toList,n.oneCell'=true)/\∀o,o<35->Wr u ((aP w1.heap.size).add o))/\
  let p:=setCells u (aP w1.heap.size) zC.toList 0;∃q:Array Value,(q.size=35/\Cells p (aP w1.heap.size) q)/\K (.tuple #[.agg q,.int .i64 r]) p:=fun {u r} ku hr h0=>by
  obtain⟨t1,t2,t3⟩:=dU (ku.heap jJ (fun h=>h)) (cs:=zC) rfl;refine⟨⟨rfl,by rw [zs];exact eh _ _ _ _ _ _ _,fun j hj=>t1 j hj⟩,?_⟩;refine⟨_,⟨rfl,Cells.bL t2⟩,?_⟩;have:=hE (by rw [hr];exact h0) _ ((jE.tt ku).trans t3 (fun j hj e=>by omega));rw [hr]at this;exact this
 have jR:=DA G.D id l;refine nh (h.same jE) ⟨true,rfl,Split.no rfl ?_⟩;intro w3;have k3:Kept Nil w2 w3:=(Kept.refl _ _).drew;clear_value w3;have kP:=jE.tt k3;have h3:=h.same kP;refine⟨_,h3.c2,id.1,⟨id.2.1,Cells.bL (k3.heap yS (fun h=>h))⟩,_,h3.look id,?_⟩;by_cases hid:id∈ids G.D
 ·rw [if_pos hid]at jR
  exact Split.yes (by rw [if_pos hid];rfl) (bad k3 jR (by decide))
 rw [if_neg hid]at jR;refine Split.no (by rw [if_neg hid];rfl) ?_;by_cases Gn:n=0
 ·rw [if_pos (by omega)]at jR
  exact Split.yes (by subst Gn;rfl) (bad k3 jR (by decide))
 rw [if_neg (by omega)]at jR;refine Split.no (by simpa using (by omega:¬(n:Int)=0)) ?_;refine ji (G9.same kP) (by omega) fun A4 c4 w4 iC k4=>⟨A4,_,c4,rfl,?_⟩;have mX:=k3.tt k4;have mE:=kP.tt k4;by_cases Gh:(dD l).length≠l.length
 ·rw [if_pos Gh]at jR
  exact Split.yes (by simp only [bne_iff_ne,ne_eq];omega) (bad mX jR (by decide))
 rw [if_neg Gh]at jR;refine Split.no (by simp only [bne_eq_false_iff_eq];omega) ?_;refine y9 (h.same mE) (G9.same mE) (by omega) fun w5 k5=>⟨_,_,rfl,?_⟩;have Eh:=mX.tt k5;have q9:=mE.tt k5;generalize nv:(if nQ G.D l=0 then cF G l else eN)=s;intro w6;have k6:Kept Nil w5 w6:=(Kept.refl _ _).alloc _;have qE:w6.heap[w5.heap.size]? =some (.cells eN.1 ag (0,0)):=aH w5 _;clear_value w6;obtain⟨t1,t2,t3⟩:=jS s qE rfl;refine⟨t1,?_⟩;intro w7
 replace t2:w7.heap[w5.heap.size]? =some (.cells s.1 ag (0,0)):=t2
 replace t3:Kept (· =w5.heap.size) w6 w7:=t3
 clear_value w7;have Lr:Kept Nil w5 w7:=k6.trans t3 (fun j hj e=>by omega);have Pw:=Eh.tt Lr;have zv:=q9.tt Lr;by_cases hm:nQ G.D l≠0
 ·exact Split.yes (by simpa using hm) (bad Pw jR hm)
 have hm:nQ G.D l=0:=by omega
 rw [if_pos hm]at nv;rw [hm]at jR⊢;refine Split.no rfl ⟨s.1,⟨s.2.1,Cells.bL t2⟩,?_⟩;obtain⟨fM,gK⟩:=FQ hm;have BU:s∈l:=by rw [<-nv];exact lL fM
 obtain⟨ch,kQ⟩:=cI.ex h.fc.iA s;have h7:=h.same zv;refine C9 KW (Nat.le_trans (H8 G.D s gK) hD) h7 (hT.same zv) (by omega) rz (gK s BU) kQ gK (G9.same zv) hn fun v q B sm bb ov Am nm cp E e ce g1 gO g3 g4 g5 g6 g7=>⟨some ⟨q,0,none⟩,rfl,?_⟩;have El:=zv.tt g7;have Ir:=Pw.tt g7;have k5v:=Lr.tt g7;have s07:=zv.size;have s0v:=El.size;intro w8;have k8:Kept Nil v w8:=(Kept.refl _ _).drew;clear_value w8;have uL:=El.tt k8;have h8:=h.same uL;have g18:=g1.same k8;have s8:=k8.size;refine⟨_,h8.c1,id.1,⟨id.2.1,Cells.bL ((Ir.tt k8).heap yS (fun h=>h))⟩,s.1,⟨s.2.1,Cells.bL (((g7.tt k8)).heap t2 (fun h=>h))⟩,?_⟩;refine Cr h8.X (by omega) (hT.same uL) KF (G9.same uL) hn id s fun u S' FX' hX9 k9 hS9 Ss=>⟨_,rfl,?_⟩;have eX:nY G.D id s l=(dE k G id l).D/\nX G.D G.P id s l=(dE k G id l).P:=by rw [<-nv];exact⟨Kf.symm,Kg.symm⟩
 rw [eX.1,eX.2]at hX9;obtain⟨mx,X9,hmx⟩:=hX9;have wT:∀j,m.own c j\/F j->j<w.heap.size:=h.low;have g1q:q<v.heap.size:=aU g1.top;have g1s:sm<v.heap.size:=g1.ov.lt;have wh:∀j,w.heap.size<=j->¬m.SX j:=fun j hj e=>by have:=wT j (.inl (.inl e));omega
 have g19:=g18.aF k9 (wh q (by omega)) (wh sm (by omega)) (fun j hj _=>wh j (by have:=g6.1;omega)) (fun a ha=>wh _ (by have:=g5 a ha;omega));have s9:=k9.size;have Lu:Kept m.SX w2 u:=((Ir.tt k8).mono fun _ _ h=>h.elim).tt k9;have ncm:¬m.SX c/\¬m.SX m.mb:=⟨fun e=>(h.so _ e).1 rfl,fun e=>(h.so _ e).2 rfl⟩;have SY:u.heap[c]? =_:=k9.heap h8.top ncm.1;have ad4:=h8.all.aF k9 ncm.2;intro w10;have lX:Kept Nil u w10:=(Kept.refl _ _).drew;clear_value w10;have S6:=lX.heap SY (fun h=>h);have LH:=(Lu.trans lX (fun _ _ h=>h.elim)).heap yS (fun e=>wh _ (Nat.le_refl _) e);have XO:=ad4.aF lX (fun h=>h);obtain⟨po,abw,XL,CA⟩:=XO.put H7 id (.pointer (some ⟨q,0,none⟩));refine⟨some m.mb,by rw [bt,aD S6];rfl,id.1,⟨id.2.1,Cells.bL LH⟩,po,abw,Is.mk rfl ?_⟩;have ZO:=lX.size;have s11:=CA.size;have lmb:m.mb<w.heap.size:=wT _ (.inl (.inr (.inr rfl)));have lc:c<w.heap.size:=wT _ (.inl (.inr (.inl rfl)));have AO:Kept (· =m.mb) u po:=(lX.mono fun _ _ h=>h.elim).tt CA;have Mt:=g19.aF AO (by omega) (by omega) (fun j hj _ e=>by have:=g6.1;omega) (fun a ha e=>by have:=g5 a ha;omega);have ad0:=Row.bo Mt.bl;have Uo:Kept (m.own c) w po:=((uL.mono (S':=m.own c) fun _ _ h=>h.elim).trans k9 (fun _ _ h=>.inl h)).trans AO (fun _ _ h=>.inr (.inr h));refine⟨_,⟨a8 ..,Mt.fZ⟩,?_⟩;have y7:=g1.mg.len;have hnm:nm<=49:=by
  have CI:(dg k G s l).merge=cR G s l:=rfl;have uN:(cR G s l).length<=49:=by
   have:=dq (m:=ids G.D) (mr G s l).nodup (fun y hy=>by
    rcases(ko.1 hy).1 with h|h
    ·exact h.1
    ·exact gK y h)
   rw [gz]at this;omega
  rw [CI]at y7;omega
 have YL:e<=49:=by
  have h1:=(uT k G s l).1;have h2:=(Row.bo g1.bl).len;have CI:(dg k G s l).merge=cR G s l:=rfl;have hv2:(dg k G s l).fK=(fU k G s l).bl:=rfl;rw [hv2]at h2;rw [CI]at y7;omega
 refine oT (dg k G s l) Mt.mg ad0 (by omega) (by omega) fun A' c1 B' c2 lK vi HI Vs um=>⟨_,rfl,?_⟩;have Uj:Kept (m.own c) w2 lK:=((Lu.mono (S':=m.own c) fun _ _ h=>.inl h).trans AO (fun _ _ h=>.inr (.inr h))).trans um (fun _ _ h=>h.elim);have fr2:∀j,w.heap.size<=j->¬m.own c j:=fun j hj e=>by have:=wT j (.inl e);omega
 have abm:=Uj.heap jJ (fr2 _ (by omega));obtain⟨f1,f2,f3⟩:=dU abm (cs:=cS (dg k G s l) A' nm c1 B' e c2) (by rw [a8];rfl);refine⟨⟨a8 ..,eh _ _ _ _ _ _ _,fun j hj=>f1 j (by rw [a8];exact hj)⟩,?_⟩;intro mT
 replace f2:mT.heap[w1.heap.size]? =_:=f2
 replace f3:Kept (· =w1.heap.size) lK mT:=f3
 clear_value mT;refine⟨_,⟨a8 ..,Cells.bL f2⟩,?_⟩;have vS:Kept (· =w1.heap.size) po mT:=(um.mono fun _ _ h=>h.elim).tt f3;have s13:=vS.size;have lw1:w1.heap.size<w7.heap.size:=Nat.lt_of_lt_of_le l2 Pw.size;rw [nv]at hO;have uo:=mP (k:=k) (G:=G) (h:=id) (ps:=l) jR;have Jl:ids (dE k G id l).D=ids G.D++ [id]:=by rw [uo];simp [ids]
 let F':Nat->Prop:=fun j=>F j\/(w7.heap.size<=j/\j<v.heap.size)\/FX' j
 let m':CM:=⟨m.x,m.mb,mx.lg m.x,FX',fun y=>if y=id then q else m.q y,fun y=>if y=id then ov else m.sz y⟩
 have Sg:∀j,mx.lg m.x j->m.SX j\/w8.heap.size<=j:=fun j e=>hS9 j (hmx j e);have ZW:∀j,m'.own c j->m.own c j\/w8.heap.size<=j:=fun j e=>by
  rcases e with e|e|e
  ·exact(Sg j e).imp (fun e=>.inl e) (fun e=>e)
  ·exact .inl (.inr (.inl e))
  ·exact .inl (.inr (.inr e))
 have vL:∀j,F' j->F j\/(w7.heap.size<=j/\j<u.heap.size):=fun j e=>by
  rcases e with e|e|e
  ·exact .inl e
  ·exact .inr ⟨e.1,by omega⟩
  ·rcases Ss j e with e'|e'
   ·exact .inl (h.fx j e')
   ·exact .inr ⟨by omega,X9.low j (.inr e)⟩
 have MW:∀j,mx.lg m.x j->j<u.heap.size:=fun j e=>X9.low j (.inl e);have kuW:Kept (fun j=>j=m.mb\/j=w1.heap.size) u mT:=(AO.mono fun _ _ h=>.inl h).trans vS (fun _ _ h=>.inr h);have n1:∀j,F' j->¬(j=m.mb\/j=w1.heap.size):=fun j e e'=>by
  rcases e' with e'|e'
  ·rcases vL j e with e|e
   ·exact h.fo j e (.inr (.inr e'))
   ·omega
  ·rcases vL j e with e|e
   ·have:=wT j (.inr e);omega
   ·omega
 have n2:∀j,mx.lg m.x j->¬(j=m.mb\/j=w1.heap.size):=fun j e e'=>by
  rcases e' with e'|e'
  ·rcases Sg j e with e|e
   ·exact(h.so j e).2 e'
   ·omega
  ·rcases Sg j e with e|e
   ·have:=wT j (.inl (.inl e));omega
   ·have:=k8.size;have:=g7.size;omega
 have Mr:mS mT B q sm bb (dg k G s l) ov Am nm cp E e ce:=Mt.aF vS (by omega) (by omega) (fun j hj _ e=>by have:=g6.1;omega) (fun a ha e=>by have:=g5 a ha;omega);have C':CV mT F' c k (dE k G id l) m':=by
  refine⟨?_,?_,?_,?_,h.fc.add id l,?_,fun j e=>.inr (.inr e),?_,?_,h.ne,?_⟩
  ·exact kuW.heap SY (fun e=>by rcases e with e|e;exact h.ne e;omega)
  ·exact⟨mx,X9.aF kuW n2 (fun j e=>n1 j (.inr (.inr e))),fun _ e=>e⟩
  ·have:=XL.aF vS (by show ¬m.mb=_;omega)
   have ef:(fun h=>if h∈ids (dE k G id l).D then some (Value.pointer (some ⟨m'.q h,0,none⟩))else none)=fun x=>if x=id then some (Value.pointer (some ⟨q,0,none⟩))else if x∈ids G.D then some (.pointer (some ⟨m.q x,0,none⟩))else none:=by
    funext y
    rw [Jl];by_cases hy:y=id
    ·simp [hy,m']
    ·by_cases hy2:y∈ids G.D
     ·simp [hy,hy2,m']
     ·simp [hy,hy2]
   rw [ef];exact this
  ·intro y hy
   rw [Jl,List.mem_append,List.mem_singleton]at hy;by_cases he:y=id
   ·subst he
    rw [(oh h.fc jR).1,nv];have e1:m'.q y=q:=if_pos rfl;have e2:m'.sz y=ov:=if_pos rfl;rw [e1,e2];refine⟨Am,nm,cp,E,e,ce,some sm,Mr.top,Mr.mg,Row.bo Mr.bl,fun a ha=>.inr (.inl ⟨g5 a ha,?_⟩),fun a ha=>.inr (.inl ?_),.inr ⟨sm,rfl,.inr (.inl ⟨g4,g1s⟩),Mr.ov⟩,.inr (.inl ⟨g3,g1q⟩)⟩
    ·have:=(g1.mA a ha).1
     have:=g6.2;omega
    ·subst ha
     obtain⟨q1,cur,q2⟩:=Row.bL g1.bl (k:=a.block) rfl;have:=aU q2;have:=g6.1;exact⟨by omega,this |>fun _=>aU q2⟩
   ·have hy:y∈ids G.D:=hy.elim (fun e=>e) (fun e=>absurd e he)
    rw [(og h.fc hy).1];have e1:m'.q y=m.q y:=if_neg he;have e2:m'.sz y=m.sz y:=if_neg he;rw [e1,e2];exact(((h8.seen y hy).aF k9 (fun j e e'=>h.fo j e (.inl e'))).aF kuW (fun j e=>n1 j (.inl e))).mono (fun j e=>.inl e)
  ·have Jo:cI G.D G.P (cF G l) ch:=by rw [nv];exact kQ
   rw [<-nv]at gO;exact SZ.add h.Z h.fc jR Jo gO
  ·intro j e e'
   rcases e' with e'|e'|e'
   ·rcases e with e|e|e
    ·rcases Sg j e' with e'|e'
     ·exact h.fo j e (.inl e')
     ·have:=wT j (.inr e);omega
    ·rcases Sg j e' with e'|e'
     ·have:=wT j (.inl (.inl e'));omega
     ·omega
    ·exact XV.off X9 j e' e
   ·rcases vL j e with e|e
    ·exact h.fo j e (.inr (.inl e'))
    ·have e':j=c:=e';omega
   ·rcases vL j e with e|e
    ·exact h.fo j e (.inr (.inr e'))
    ·have e':j=m.mb:=e';omega
  ·intro j e
   rcases Sg j e with e'|e'
   ·exact h.so j e'
   ·exact⟨by omega,by show j≠m.mb;omega⟩
  ·rintro j (e|e)
   ·rcases e with e|e|e
    ·have:=MW j e;omega
    ·have e:j=c:=e;omega
    ·have e:j=m.mb:=e;omega
   ·rcases vL j e with e|e
    ·have:=wT j (.inr e);omega
    ·omega
 have EH:∀j,bn A'=some j->po.heap.size<=j:=fun j hj=>(Row.bL vi hj).1;have Rh:∀j,bn B'=some j->po.heap.size<=j:=fun j hj=>(Row.bL HI hj).1;have Xy:∀j,po.heap.size<=j->¬m'.own c j/\¬F' j:=fun j hj=>⟨fun e=>by
  rcases e with e|e|e
  ·have:=MW j e;omega
  ·have e:j=c:=e;omega
  ·have e:j=m.mb:=e;omega,fun e=>by
  rcases vL j e with e|e
  ·have:=wT j (.inr e);omega
  ·omega⟩
 exact hO jR mT F' m' A' nm c1 B' e c2 C' rfl ((Uo.trans vS (fun j hj e=>by omega))) (fun j e=>(ZW j e).imp (fun h=>h) (fun h=>by omega)) (fun j e=>(vL j e).imp (fun h=>h) (fun h=>by omega))
  (Row.base (Row.aF vi f3 (fun j hj e=>by have:=EH j hj;omega)) (fun j hj=>by have:=EH j hj;omega)) (Row.base (Row.aF HI f3 (fun j hj e=>by have:=Rh j hj;omega)) (fun j hj=>by have:=Rh j hj;omega)) Vs
  (fun j hj=>Xy j (hj.elim (EH j) (Rh j)))
end
theorem cI.yL{D:DG}{P:List Int}{h:HT}{l:List HT}(hc:cI D P h l)(H:rF D P):l.length<=D.length:=by
 rcases hc with⟨_,rfl⟩|⟨i,nd,ks,h1,_,h3,rfl⟩
 ·exact Nat.zero_le _
 ·have:=h3.len H.par
  rw [List.length_map];have:=(lgeS h1).1;omega
section
variable{k:Nat}{G:GS}
theorem nV(H:iH k G){h:HT}(hm:h∈ids G.D):(G.fZ h).merge.length<=G.D.length/\(G.fZ h).fK.length=(G.fZ h).merge.length:=by
 obtain⟨l,c⟩:=cI.ex H.iA h;rcases c.inv H.W H.iA hm with⟨_,nd,h0,rfl⟩|⟨t,r',_,qy,_,_⟩
 ·obtain⟨q1,_⟩:=H.root nd h0
  rw [q1];simp
 ·obtain⟨_,_,q3,q4,q5⟩:=H.up t h qy
  refine⟨?_,q3⟩;have:=dq (m:=ids G.D) q4 (fun y hy=>(((q5 y).1 hy).1.mem H.W).1)
  rwa [gz]at this
theorem yk:∀(m:List HT) (b:List Bool),(eA m b).length<=m.length
 | [],_=>by simp [eA]
 |_::_,[]=>by simp [eA]
 |h::l,b::m=>by
  have:=yk l m;unfold eA;split
  ·simp only [List.length_cons];omega
  ·simp only [List.length_cons];omega
end
section
variable{w w' jH:World}{B ob bx:Nat}{av av':Nat->Prop}{acc:List HT}
end
section
variable{w w' v:World}{F:Nat->Prop}{c k:Nat}{G:GS}{m:CM}{K:Value->World->Prop}
end
section
variable{w w':World}{F:Nat->Prop}{c k:Nat}{G:GS}{m:CM}{K:Value->World->Prop}
theorem sF(h:iH k G){a:HT}(ha:a∈ids G.D):(G.world a).length<=G.D.length:=by
 have:=dq (m:=ids G.D) (h.wd a ha).1 (fun b hb=>(((h.wd a ha).2.1 b hb).mem h.W).1)
 rwa [gz]at this
end
structure GN(w v:World)(id:HT)(X M Q:Option Nat)(pt:Bool):Prop where
 kp:Kept Nil w v
 x:∀x,X=some x->∃S,DD v S (fun _=>False) x [⟨id,[]⟩] [-1]/\∀j,S j->w.heap.size<=j/\j<v.heap.size/\M≠some j/\Q≠some j
 m:∀m,M=some m->w.heap.size<=m/\fR v m (fun y=>if pt=true/\y=id then Q.map fun q=>.pointer (some ⟨q,0,none⟩)else none)
 q:∀q,Q=some q->w.heap.size<=q/\v.heap[q]? =some (.cells zS eB (0,0))
 ne:∀m q,M=some m->Q=some q->m≠q
section
variable{w w' v u:World}{F:Nat->Prop}{c k:Nat}{G:GS}{m:CM}{K:Value->World->Prop}{id:HT}{X M Q:Option Nat}{pt:Bool}
theorem GN.Kc(h:GN w v id X none Q false):GN w (v.alloc (.map #[] 0)) id X (some v.heap.size) Q false:=by
 have k1:Kept Nil v (v.alloc (.map #[] 0)):=(Kept.refl _ _).alloc _;have hs:=k1.size;have hm:fR (v.alloc (.map #[] 0)) v.heap.size (fun _=>none):=fR.new v;refine⟨h.kp.tt k1,fun x hx=>?_,fun m nA=>?_,fun q hq=>?_,fun m q nA hq=>?_⟩
 ·obtain⟨S,h1,h2⟩:=h.x x hx
  exact⟨S,h1.same k1,fun j e=>by have:=h2 j e;exact⟨this.1,by omega,fun e=>by cases e;omega,this.2.2.2⟩⟩
 ·cases nA
  exact⟨h.kp.size,by simpa using hm⟩
 ·exact⟨(h.q q hq).1,k1.heap (h.q q hq).2 (fun h=>h)⟩
 ·cases nA
  have:=aU (h.q q hq).2;omega
theorem GN.Kb(h:GN w v id X M none false):GN w (v.alloc (.cells zS eB)) id X M (some v.heap.size) false:=by
 have k1:Kept Nil v (v.alloc (.cells zS eB)):=(Kept.refl _ _).alloc _;have hs:=k1.size;refine⟨h.kp.tt k1,fun x hx=>?_,fun m nA=>?_,fun q hq=>?_,fun m q nA hq=>?_⟩
 ·obtain⟨S,h1,h2⟩:=h.x x hx
  exact⟨S,h1.same k1,fun j e=>by have:=h2 j e;exact⟨this.1,by omega,this.2.2.1,fun e=>by cases e;omega⟩⟩
 ·have:=h.m m nA
  refine⟨this.1,?_⟩;have h2:=this.2.same k1;simpa using h2
 ·cases hq
  exact⟨h.kp.size,aH v _⟩
 ·cases hq
  have:=(h.m m nA).2.lt;omega
theorem GN.Dy(h:GN w v id none M Q pt){x:Nat}{S:Nat->Prop}(hX:DD u S (fun _=>False) x [⟨id,[]⟩] [-1])(hS:∀j,S j->v.heap.size<=j/\j<u.heap.size)(k1:Kept Nil v u):GN w u id (some x) M Q pt:=by
 have hs:=h.kp.size;refine⟨h.kp.tt k1,fun x' hx=>?_,fun m nA=>⟨(h.m m nA).1,(h.m m nA).2.same k1⟩,fun q hq=>⟨(h.q q hq).1,k1.heap (h.q q hq).2 (fun h=>h)⟩,h.ne⟩;cases hx;refine⟨S,hX,fun j e=>by
  have:=hS j e;exact⟨by omega,this.2,fun e=>by have:=(h.m j e).2.lt;omega,fun e=>by have:=aU (h.q j e).2;omega⟩⟩
theorem GN.put{mm q:Nat}(h:GN w v id X (some mm) (some q) false):∃u,(Instr.mapUpdate dR (.map (some mm)) (.agg id.1) (.pointer (some ⟨q,0,none⟩))).run prog v=.ok () u/\GN w u id X (some mm) (some q) true:=by
 obtain⟨h1,h2⟩:=h.m mm rfl;obtain⟨u,g1,g2,g3⟩:=h2.put H7 id (.pointer (some ⟨q,0,none⟩));have hs:=g3.size;refine⟨u,g1,h.kp.trans g3 (fun j hj e=>by omega),fun x hx=>?_,fun m nA=>?_,fun q' hq=>?_,h.ne⟩
 ·obtain⟨S,q1,q2⟩:=h.x x hx
  exact⟨S,q1.aF g3 (fun j e e'=>(q2 j e).2.2.1 (by rw [e'])) (fun _ h=>h.elim),fun j e=>by have:=q2 j e;exact⟨this.1,by omega,this.2.2⟩⟩
 ·cases nA
  refine⟨h1,?_⟩;have ef:(fun y=>if true=true/\y=id then(some q).map (fun q=>Value.pointer (some ⟨q,0,none⟩))else none)=fun x=>if x=id then some (.pointer (some ⟨q,0,none⟩))else if false=true/\x=id then(some q).map (fun q=>Value.pointer (some ⟨q,0,none⟩))else none:=by
   funext y
   by_cases hy:y=id<;>simp [hy]
  rw [ef];exact g2
 ·have:=h.q q' hq
  exact⟨this.1,g3.heap this.2 (fun e=>h.ne mm q' rfl hq e.symm)⟩
theorem GN.fin{x mm q:Nat}(h:GN w v id (some x) (some mm) (some q) true)(k:Nat):∃m,CV (v.alloc (.cells #[.int .i64 (k:Int),.pointer (some ⟨x,0,none⟩),.map (some mm)] iq)) (· =q) v.heap.size k (du id) m/\m.x=x/\(∀j,m.own v.heap.size j->w.heap.size<=j)/\w.heap.size<=q:=by
 have k1:Kept Nil v (v.alloc (.cells #[.int .i64 (k:Int),.pointer (some ⟨x,0,none⟩),.map (some mm)] iq)):=(Kept.refl _ _).alloc _;have ht:=aH v (.cells #[.int .i64 (k:Int),.pointer (some ⟨x,0,none⟩),.map (some mm)] iq);generalize v.alloc (.cells #[.int .i64 (k:Int),.pointer (some ⟨x,0,none⟩),.map (some mm)] iq)=u at k1 ht⊢;obtain⟨S,h1,h2⟩:=h.x x rfl;obtain⟨h3,h4⟩:=h.m mm rfl;obtain⟨h5,h6⟩:=h.q q rfl;have fM:=h.ne mm q rfl rfl;have lm:=h4.lt;have lq:=aU h6;have lt:=aU ht;have hs:=k1.size;have hw:=h.kp.size;refine⟨⟨x,mm,S,fun _=>False,fun _=>q,fun _ _=>none⟩,⟨ht,h1.same k1,?_,?_,mC k id,SZ.root id,fun _ h=>h.elim,?_,?_,?_,?_⟩,rfl,?_,h5⟩
 ·have:=h4.same k1
  have ef:(fun h=>if h∈ids (du id).D then some (Value.pointer (some ⟨q,0,none⟩))else none)=fun y=>if true=true/\y=id then(some q).map (fun q=>Value.pointer (some ⟨q,0,none⟩))else none:=by
   funext y
   by_cases hy:y=id
   ·simp [hy,du,ids]
   ·simp [hy,du,ids]
  show fR u mm (fun h=>if h∈ids (du id).D then some (Value.pointer (some ⟨q,0,none⟩))else none)
  rw [ef];exact this
 ·intro y hy
  have:y=id:=by simpa [du,ids]using hy
  subst this;obtain⟨q1,_⟩:=(mC k y).root ⟨y,[]⟩ rfl
  replace q1:(du y).fZ y=_:=q1
  rw [q1];exact⟨none,0,0,none,0,0,none,k1.heap h6 (fun h=>h),HS.nil _ _,⟨rfl,fun i b hi=>by simp at hi⟩,fun a ha=>(by cases ha),fun a ha=>(by cases ha),.inl ⟨rfl,fun _=>rfl⟩,rfl⟩
 ·rintro j rfl e
  rcases e with e|e|e
  ·exact(h2 _ e).2.2.2 rfl
  ·have e:j=v.heap.size:=e;omega
  ·exact fM e.symm
 ·intro j e
  have:=h2 j e;exact⟨by omega,fun e=>this.2.2.1 (by rw [e])⟩
 ·show v.heap.size≠mm;omega
 ·rintro j (e|e)
  ·rcases e with e|e|e
   ·have:=h2 j e;omega
   ·have e:j=v.heap.size:=e;omega
   ·have e:j=mm:=e;omega
  ·have e:j=q:=e;omega
 ·intro j e
  rcases e with e|e|e
  ·have:=h2 j e;omega
  ·have e:j=v.heap.size:=e;omega
  ·have e:j=mm:=e;omega
theorem iM(id:HT){k:Nat}(hk:k<=100)(hK:∀w' c q m,CV w' (· =q) c k (du id) m->(∀j,m.own c j->w.heap.size<=j)->w.heap.size<=q->Kept Nil w w'->K (.tuple #[.pointer (some ⟨c,0,none⟩),.int .i64 0]) w'):
 bC prog iM.id #[.int .i64 (k:Int),.agg id.1] w K:=by
 refine iM.of ?_;unfold iM.W;intro w1;have k1:Kept Nil w w1:=(Kept.refl _ _).alloc _;have y7:w1.heap[w.heap.size]? =some (.cells id.1 ag (0,0)):=aH w _;clear_value w1;refine Split.no (decide_eq_false (by omega)) (Split.no (decide_eq_false (by omega)) ?_);intro w2;have k2:Kept Nil w1 w2:=(Kept.refl _ _).drew;clear_value w2;have lE:=k2.heap y7 (fun h=>h);have jE:=k1.tt k2;have s02:=jE.size;have N0:GN w2 w2 id none none none false:=⟨Kept.refl _ _,fun _ h=>(by cases h),fun _ h=>(by cases h),fun _ h=>(by cases h),fun _ _ h=>(by cases h)⟩;have bx:∀ {v:World},Kept Nil w2 v->∃cs:Array Value,(.agg id.1:Value)=.agg cs/\cs.size=32/\Cells v ⟨w.heap.size,0,none⟩ cs:=fun kv=>⟨id.1,rfl,id.2.1,Cells.bL (kv.heap lE (fun h=>h))⟩;have fin:∀ {v:World} {x mm q:Nat},GN w2 v id (some x) (some mm) (some q) true->let p:=v.alloc (.cells #[.int .i64 (k:Int),.pointer (some ⟨x,0,none⟩),.map (some mm)] iq);K (.tuple #[.pointer (some (aP v.heap.size)),.int .i64 0]) p:=fun {v x mm q} N=>by
  obtain⟨m,h1,_,h2,h3⟩:=N.fin k;exact hK _ _ q m h1 (fun j e=>by have:=h2 j e;omega) (by omega) ((jE.tt N.kp).alloc _)
 refine⟨id.1,⟨id.2.1,Cells.bL lE⟩,id.1,⟨id.2.1,Cells.bL lE⟩,?_,?_,?_⟩
 ·refine iX id fun v x hX kv=>⟨_,rfl,?_⟩
  have N1:=N0.Dy hX (fun j e=>e) kv;refine⟨bx N1.kp,⟨?_,?_⟩⟩
  ·have N2:=N1.Kc
   have N3:=N2.Kb;obtain⟨u,hu,N4⟩:=N3.put;exact⟨bx N2.kp,bx N3.kp,u,hu,fin N4⟩
  ·have N2:=N1.Kb
   have N3:=N2.Kc;obtain⟨u,hu,N4⟩:=N3.put;exact⟨bx N2.kp,bx N3.kp,u,hu,fin N4⟩
 ·have N1:=N0.Kc
  refine⟨bx N1.kp,bx N1.kp,?_,?_⟩
  ·refine iX id fun v x hX kv=>⟨_,rfl,?_⟩
   have N2:=N1.Dy hX (fun j e=>e) kv;have N3:=N2.Kb;obtain⟨u,hu,N4⟩:=N3.put;exact⟨bx N2.kp,bx N3.kp,u,hu,fin N4⟩
  ·have N2:=N1.Kb
   refine⟨bx N2.kp,bx N2.kp,?_,?_⟩
   ·refine iX id fun v x hX kv=>⟨_,rfl,?_⟩
    have N3:=N2.Dy hX (fun j e=>e) kv;obtain⟨u,hu,N4⟩:=N3.put;exact⟨bx N3.kp,u,hu,fin N4⟩
   ·obtain⟨u,hu,N3⟩:=N2.put
    refine⟨u,hu,bx N3.kp,?_⟩;refine iX id fun v x hX kv=>⟨_,rfl,?_⟩;exact fin (N3.Dy hX (fun j e=>e) kv)
 ·have N1:=N0.Kb
  refine⟨bx N1.kp,bx N1.kp,?_,?_⟩
  ·refine iX id fun v x hX kv=>⟨_,rfl,?_⟩
   have N2:=N1.Dy hX (fun j e=>e) kv;have N3:=N2.Kc;obtain⟨u,hu,N4⟩:=N3.put;exact⟨bx N2.kp,bx N3.kp,u,hu,fin N4⟩
  ·have N2:=N1.Kc
   refine⟨bx N2.kp,bx N2.kp,?_,?_⟩
   ·refine iX id fun v x hX kv=>⟨_,rfl,?_⟩
    have N3:=N2.Dy hX (fun j e=>e) kv;obtain⟨u,hu,N4⟩:=N3.put;exact⟨bx N3.kp,u,hu,fin N4⟩
   ·obtain⟨u,hu,N3⟩:=N2.put
    refine⟨u,hu,bx N3.kp,?_⟩;refine iX id fun v x hX kv=>⟨_,rfl,?_⟩;exact fin (N3.Dy hX (fun j e=>e) kv)
end
end Go.Proofs.YtfleamccglihoaaGreatDoor
