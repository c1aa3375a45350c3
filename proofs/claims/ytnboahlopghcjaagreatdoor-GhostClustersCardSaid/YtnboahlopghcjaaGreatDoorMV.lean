import Derived.Test.YtnboahlopghcjaaGreatDoorMU
import Derived.Test.YtnboahlopghcjaaGreatDoorMN
import Derived.Test.YtnboahlopghcjaaGreatDoorMJ
open Go.IntKind (i64 u64)
set_option linter.unusedVariables false
namespace Go.Proofs.YtnboahlopghcjaaGreatDoor
open Go.Proofs.Tryz
open Go Go.bU Go.RowKit
def abN(l:List DN)(Jj:Nat):Prop:=(∀nd∈l,nd.ps.length<=6)/\l.length<=Jj
noncomputable def jC(k:Nat)(G:GS)(id:HT)(l:List HT):nZ:=if dr G.D id l=0 then cQ k G (bZ G l) l else⟨dO,0,[],[]⟩
noncomputable def xD(k:Nat)(root:HT)(l:List DN):GS:=l.foldl (fun G s=>dd k G s.id s.ps) (cS root)
theorem zN(k:Nat)(G:GS)(h:HT)(l:List HT):(dd k G h l).D.length<=G.D.length+1:=by
 rw [sd];unfold l9;split<;>simp
theorem rU(k:Nat):∀(l:List DN) (G:GS),(l.foldl (fun G s=>dd k G s.id s.ps) G).D.length<=G.D.length+l.length
 | [],_=>by simp
 |s::l,G=>by
  have h1:=rU k l (dd k G s.id s.ps);have h2:=zN k G s.id s.ps;rw [List.foldl_cons,List.length_cons];omega
theorem BO(k:Nat)(root:HT)(l:List DN):(xD k root l).D.length<=1+l.length:=rU k l (cS root)
theorem BD{k:Nat}{G:GS}{l:List DN}{i:Nat}{s:DN}(h:l[i]? =some s):(l.take (i+1)).foldl (fun G s=>dd k G s.id s.ps) G=dd k ((l.take i).foldl (fun G s=>dd k G s.id s.ps) G) s.id s.ps:=by
 rw [List.take_add_one,h];simp
section
variable{w w' v:World}{S F FP FR:Nat->Prop}{c r x k:Nat}{G:GS}{m:CM}{K:Value->World->Prop}
theorem KE{A:Option Addr}{n cx:Nat}{l:List DN}(hl:NS w FP A n l)(hn:n<9223372036854775808)(Jj:Nat)(hK:∀x:Bool,(x=true↔abN l Jj)->K (.bool x) w):
 bk prog cr.id #[.slice A n cx,.int .i64 (Jj:Int)] w K:=by
 have hlen:=hl.len;refine cr.of (cr.cf (I:=fun s w'=>w'=w/\∃i:Nat,s=(false,(i:Int))/\i<=n/\∀nd∈l.take i,nd.ps.length<=6) (μ:=fun s _=>((n:Int)-s.2).toNat) (s:=(false,0)) ⟨rfl,0,rfl,Nat.zero_le _,by simp⟩ ?_);rintro s w' ⟨rfl,i,rfl,hi,cY⟩;refine Split.dec (fun jb=>?_) (fun fV=>?_)
 ·simp only at jb
  have dQ:i<n:=by omega
  obtain⟨nd,eQ⟩:∃nd,l[i]? =some nd:=⟨_,List.getElem?_eq_getElem (by omega)⟩;refine hl.ps (i:=(i:Int)) (by omega) (by rw [Int.toNat_natCast];exact eQ) fun pA pn pc oP _=>?_;have pH:=oP.len;refine Split.dec (fun wA=>?_) (fun hle=>?_)
  ·refine hK false ⟨(fun h=>by cases h),fun h=>?_⟩
   have:=h.1 nd (List.mem_of_getElem? eQ);omega
  ·simp only
   rw [gU (x:=(i:Int)+1) (by omega) (by omega)];refine⟨(false,(i:Int)+1),rfl,⟨rfl,i+1,rfl,dQ,fun md hm=>?_⟩,by simp only;omega⟩;rw [List.take_add_one,eQ]at hm;simp only [Option.toList_some,List.mem_append,List.mem_singleton]at hm;rcases hm with hm|rfl
   ·exact cY md hm
   ·omega
 ·simp only at fV
  rw [aP,cr.dh];rw [List.take_of_length_le (by omega)]at cY;refine hK _ ⟨fun h=>⟨cY,?_⟩,fun h=>decide_eq_true ?_⟩
  ·have:=of_decide_eq_true h;omega
  ·have:=h.2;omega
theorem lO(h:CV w F c k G m)(hT:tc w)(IK:¬m.SX (Tryz.jl.g 1))(hD:G.D.length<=49)(pS:k<=1000){A:Option Addr}{n cx:Nat}{l:List HT}(Fs:HS w A n l)(hn:n<=5000)(id:HT)
 (hK:∀w' F' m' A n c1 B e c2,CV w' F' c k (dd k G id l) m'->m'.x=m.x->Kept (m.own c) w w'->(∀j,m'.own c j->m.own c j\/w.heap.size<=j)->(∀j,F' j->F j\/w.heap.size<=j)->
   bQ w' w.heap.size A n c1 (jC k G id l).merge->Row w' w.heap.size gM 1 B e c2 (qW (jC k G id l).dg)->(∀j,bg A=some j->bg B≠some j)->(∀j,bg A=some j\/bg B=some j->¬m'.own c j/\¬F' j)->
   K (.tuple #[.agg (cF (jC k G id l) A n c1 B e c2),.int .i64 (dr G.D id l)]) w'):
 bk prog dD.id #[.pointer (some ⟨c,0,none⟩),.agg id.1,.slice A n cx] w K:=by
 refine EL h hT IK hD pS Fs hn id (fun he w' k'=>?_) (fun he w' F' m' A n c1 B e c2 h1 h2 h3 h4 h5 h6 h7 h8 h9=>?_)
 ·have e1:jC k G id l=⟨dO,0,[],[]⟩:=if_neg he
  have:=hK w' F m none 0 0 none 0 0 (by rw [q9 he];exact h.same k') rfl (k'.mono fun _ _ h=>h.elim) (fun j h=>.inl h) (fun j h=>.inl h) (by rw [e1];exact bQ.nil _ _) (by rw [e1];exact Row.nil _ _ _ _) (fun j hj=>(by cases hj)) (fun j hj=>by rcases hj with hj|hj<;>cases hj);rw [e1]at this;exact this
 ·have e1:jC k G id l=cQ k G (bZ G l) l:=if_pos he
  have:=hK w' F' m' A n c1 B e c2 h1 h2 h3 h4 h5 (by rw [e1];exact h6) (by rw [e1];exact h7) h8 h9;rw [e1,he]at this;exact this
theorem tP(h:R3 w F r x k G)(hD:G.D.length<=300)(pS:k<=1000){A:Option Addr}{n cx:Nat}{l:List HT}(hl:HS w A n l)(hn:n<=5000)(id:HT)
 (hK:∀w' A n c B e ce,R3 w' (fun j=>F j\/(w.heap.size<=j/\j<w'.heap.size)) r x k (dd k G id l)->Kept (fun j=>j=r\/j=x) w w'->HS w' A n (jC k G id l).merge->Bo w' B e (jC k G id l).dg->(∀a,A=some a\/B=some a->w.heap.size<=a.block)->K (.tuple #[.agg (cF (jC k G id l) A n c B e ce),.int .i64 (dr G.D id l)]) w'):
 bk prog dC.id #[.pointer (some ⟨r,0,none⟩),.agg id.1,.slice A n cx] w K:=by
 have Wu:=h.lt;have LS:=h.lx;refine xa h hD pS hl hn id (fun he w' k'=>?_) (fun he w' A n c B e ce h1 h2 h3 h4 h5=>?_)
 ·have e1:jC k G id l=⟨dO,0,[],[]⟩:=if_neg he
  have h':=h.same k';have hs:=k'.size;obtain⟨A1,c1,B1,Vr,g1,g2,g3⟩:=h'.top;have:=hK w' none 0 0 none 0 0 (by
   rw [q9 he];exact⟨⟨A1,c1,B1,Vr,g1,g2.mono (fun j hj=>.inl hj),g3.mono (fun j hj=>.inl hj)⟩,h'.X.mono (fun j hj=>.inl hj) (fun e=>e.elim h.X.gR (fun e=>by omega)),fun e=>e.elim h.gR (fun e=>by omega),h.ne,h.eo,fun j e=>e.elim (h'.lo j) (fun e=>e.2)⟩) (k'.mono fun _ _ h=>h.elim) (by rw [e1];exact HS.nil _ _) (by rw [e1];exact⟨rfl,fun i b hi=>by simp at hi⟩) (fun a ha=>by rcases ha with ha|ha<;>cases ha)
  rw [e1]at this;exact this
 ·have e1:jC k G id l=cQ k G (bZ G l) l:=if_pos he
  have:=hK w' A n c B e ce h1 h2 (by rw [e1];exact h3) (by rw [e1];exact h4) h5;rw [e1,he]at this;exact this
structure ji(w:World)(F:Nat->Prop)(c:Nat)(m:CM)(FR:Nat->Prop)(r x k:Nat)(G:GS):Prop where
 C:CV w F c k G m
 R:R3 w FR r x k G
 rS:∀j,j=r\/j=x->¬m.own c j/\¬F j
 fS:∀j,FR j->¬m.own c j
theorem ji.aC{S0:Nat->Prop}(B:ji w F c m FR r x k G)(hk:Kept S0 w w')(h1:∀j,m.own c j\/F j\/FR j\/j=r\/j=x->¬S0 j):ji w' F c m FR r x k G:=
 ⟨B.C.aC hk (fun j e=>h1 j (.inl e)) (fun j e=>h1 j (.inr (.inl e))),B.R.aC hk (h1 _ (.inr (.inr (.inr (.inl rfl))))) (h1 _ (.inr (.inr (.inr (.inr rfl))))) (fun j e=>h1 j (.inr (.inr (.inl e)))),B.rS,B.fS⟩
theorem ji.same(B:ji w F c m FR r x k G)(hk:Kept Nil w w'):ji w' F c m FR r x k G:=B.aC hk (fun _ _ h=>h)
theorem ji.low(B:ji w F c m FR r x k G):∀j,m.own c j\/F j\/FR j\/j=r\/j=x->j<w.heap.size:=fun j e=>by
 rcases e with e|e|e|e|e
 ·exact B.C.low j (.inl e)
 ·exact B.C.low j (.inr e)
 ·exact B.R.lo j e
 ·rw [e];exact B.R.lt
 ·rw [e];exact B.R.lx
theorem ji.after{F':Nat->Prop}{m':CM}{G':GS}(B:ji w F c m FR r x k G)(kv:Kept (m.own c) w v)(h1:∀j,m'.own c j->m.own c j\/w.heap.size<=j)(h2:∀j,F' j->F j\/w.heap.size<=j)(hC:CV v F' c k G' m'){u:World}(Wb:Kept Nil v u):
 R3 u FR r x k G/\∀t,R3 t (fun j=>FR j\/(u.heap.size<=j/\j<t.heap.size)) r x k G'->Kept (fun j=>j=r\/j=x) u t->ji t F' c m' (fun j=>FR j\/(u.heap.size<=j/\j<t.heap.size)) r x k G':=by
 have hr:=B.R.lt;have hx:=B.R.lx;have nr:∀j,j=r\/j=x->¬m'.own c j/\¬F' j:=fun j hj=>by
  have cH:j<w.heap.size:=by rcases hj with rfl|rfl;exact hr;exact hx
  refine⟨fun e=>?_,fun e=>?_⟩
  ·rcases h1 j e with e|e
   ·exact(B.rS j hj).1 e
   ·omega
  ·rcases h2 j e with e|e
   ·exact(B.rS j hj).2 e
   ·omega
 refine⟨(B.R.aC kv (fun e=>(B.rS r (.inl rfl)).1 e) (fun e=>(B.rS x (.inr rfl)).1 e) B.fS).same Wb,fun t hR kt=>⟨?_,hR,nr,fun j hj e=>?_⟩⟩
 ·exact(hC.same Wb).aC kt (fun j e e'=>(nr j e').1 e) (fun j e e'=>(nr j e').2 e)
 ·have mR:=hC.low j (.inl e)
  have:=Wb.size;rcases hj with hj|hj
  ·rcases h1 j e with e|e
   ·exact B.fS j hj e
   ·have:=B.R.lo j hj;omega
  ·omega
end
section
variable{w w' v:World}{S F FP FR:Nat->Prop}{c r x k:Nat}{G:GS}{m:CM}{K:Value->World->Prop}
set_option maxHeartbeats 2000000 in
theorem BR{A:Option Addr}{n cx:Nat}{l:List DN}(hl:NS w FP A n l)(hn:n<=40)(oP:∀nd∈l,nd.ps.length<=1000)(root:HT)(pS:k<=100)(hT:tc w)
 (hK:∀v F c m FR r x,ji v F c m FR r x k (xD k root l)->Kept Nil w v->(∀j,m.own c j\/F j\/FR j\/j=r\/j=x->w.heap.size<=j)->K (.tuple #[.pointer (some ⟨c,0,none⟩),.pointer (some ⟨r,0,none⟩),.bool true]) v):
 bk prog aH.id #[.int .i64 (k:Int),.agg root.1,.slice A n cx] w K:=by
 have hlen:=hl.len;refine aH.of ?_;unfold aH.W;intro w1;have k1:Kept Nil w w1:=(Kept.refl _ _).alloc _;have xV:w1.heap[w.heap.size]? =some (.cells root.1 aj (0,0)):=aJ w _;clear_value w1;refine⟨root.1,⟨root.2.1,Cells.bC xV⟩,?_⟩;refine gX root pS fun w2 c q m C hm hq k2=>⟨_,_,rfl,Split.no rfl (Split.no rfl ⟨root.1,⟨root.2.1,Cells.bC (k2.heap xV (fun h=>h))⟩,?_⟩)⟩;refine wZ root k fun w3 r x FR R hFR hr hx k3=>⟨_,rfl,?_⟩;have s1:=k1.size;have s2:=k2.size;have mh:=(k1.tt k2).tt k3;have B0:ji w3 (· =q) c m FR r x k (cS root):=⟨C.same k3,R,fun j hj=>by
  have fV:w2.heap.size<=j:=by rcases hj with rfl|rfl;exact hr;exact hx
  exact⟨fun e=>by have:=C.low j (.inl e);omega,fun e=>by have:=C.low j (.inr e);omega⟩,fun j hj e=>by have:=hFR j hj;have:=C.low j (.inl e);omega⟩
 refine aH.cf (I:=fun s v=>∃(i:Nat) (F:Nat->Prop) (m:CM) (FR:Nat->Prop),s=(none,none,false,(i:Int))/\i<=n/\ji v F c m FR r x k ((l.take i).foldl (fun G s=>dd k G s.id s.ps) (cS root))/\Kept Nil w v/\∀j,m.own c j\/F j\/FR j\/j=r\/j=x->w.heap.size<=j) (μ:=fun s _=>((n:Int)-s.2.2.2).toNat) (s:=(none,none,false,0)) ⟨0,(· =q),m,FR,rfl,Nat.zero_le _,B0,mh,fun j e=>by
  rcases e with e|e|e|e|e
  ·have:=hm j e;omega
  ·have e:j=q:=e;omega
  ·have:=hFR j e;omega
  ·omega
  ·omega⟩ ?_
 clear B0 hFR hm C R hq k2 k3;rintro s v ⟨i,F,m,FR,rfl,hi,B,kv,Br⟩;unfold aH.B1;refine Split.dec (fun cH=>?_) (fun fV=>?_)
 ·simp only at cH
  have dQ:i<n:=by omega
  obtain⟨nd,eQ⟩:∃nd,l[i]? =some nd:=⟨_,List.getElem?_eq_getElem (by omega)⟩;have mQ:l[((i:Nat):Int).toNat]? =some nd:=by rw [Int.toNat_natCast];exact eQ
  have pH:=oP nd (List.mem_of_getElem? eQ);have LC:=BD (k:=k) (G:=cS root) eQ;have WR:=rU k (l.take i) (cS root);rw [List.length_take]at WR;have hD1:(cS root).D.length=1:=rfl;generalize hG:(l.take i).foldl (fun G s=>dd k G s.id s.ps) (cS root)=G at B LC WR;have hTl:=hT.lt;have mR:=B.low;have sv:=kv.size;have j2:∀ {u:World} {F' Xi:Nat->Prop} {m':CM} {b1 b2:Nat} {A1 E1 A2 E2:Option Addr} {n1 p1 e1 q1 n2 p2 e2 q2:Nat},ji u F' c m' Xi r x k (dd k G nd.id nd.ps)->Kept Nil w u->(∀j,m'.own c j\/F' j\/Xi j\/j=r\/j=x->w.heap.size<=j)->
   u.heap[b1]? =some (.cells (cF (jC k G nd.id nd.ps) A1 n1 p1 E1 e1 q1) bf (0,0))->u.heap[b2]? =some (.cells (cF (jC k G nd.id nd.ps) A2 n2 p2 E2 e2 q2) bf (0,0))->HS u A1 n1 (jC k G nd.id nd.ps).merge->HS u A2 n2 (jC k G nd.id nd.ps).merge->Bo u E1 e1 (jC k G nd.id nd.ps).dg->Bo u E2 e2 (jC k G nd.id nd.ps).dg->n1<=100000->e1<=100000->
   aH.J2 A n cx none none false (some ⟨c,0,none⟩) (some ⟨r,0,none⟩) (i:Int) ⟨b1,0,none⟩ (dr G.D nd.id nd.ps) ⟨b2,0,none⟩ (dr G.D nd.id nd.ps) (bI (aH.e1 A n cx (some ⟨c,0,none⟩) (some ⟨r,0,none⟩)) (fun s v=>∃(i:Nat) (F:Nat->Prop) (m:CM) (FR:Nat->Prop),s=(none,none,false,(i:Int))/\i<=n/\ji v F c m FR r x k ((l.take i).foldl (fun G s=>dd k G s.id s.ps) (cS root))/\Kept Nil w v/\∀j,m.own c j\/F j\/FR j\/j=r\/j=x->w.heap.size<=j) (fun s _=>((n:Int)-s.2.2.2).toNat) (none,none,false,(i:Int)) v (aH.q1 K)) u:=by
   intro u F' Xi m' b1 b2 A1 E1 A2 E2 n1 p1 e1 q1 n2 p2 e2 q2 B' ku aas h1 h2 g1 g2 g3 g4 g5 g6;unfold aH.J2;refine Split.no (by simp) ⟨_,⟨aX ..,Cells.bC h1⟩,_,⟨aX ..,Cells.bC h2⟩,?_⟩;refine I4 g1 g2 g3 g4 g5 g6 fun t kt=>⟨true,rfl,Split.no rfl ?_⟩;rw [dq (n:=(i:Int)) (by omega) (by omega)];refine⟨(none,none,false,(i:Int)+1),rfl,⟨i+1,F',m',Xi,rfl,dQ,?_,ku.tt kt,aas⟩,by simp only;omega⟩;rw [LC];exact B'.same kt
  have j1:∀ {u u0:World} {F':Nat->Prop} {m':CM} {b1:Nat} {A1 E1:Option Addr} {n1 p1 e1 q1:Nat},CV u0 F' c k (dd k G nd.id nd.ps) m'->Kept (m.own c) v u0->(∀j,m'.own c j->m.own c j\/v.heap.size<=j)->(∀j,F' j->F j\/v.heap.size<=j)->Kept Nil u0 u->
   u.heap[b1]? =some (.cells (cF (jC k G nd.id nd.ps) A1 n1 p1 E1 e1 q1) bf (0,0))->v.heap.size<=b1->bQ u v.heap.size A1 n1 p1 (jC k G nd.id nd.ps).merge->Row u v.heap.size gM 1 E1 e1 q1 (qW (jC k G nd.id nd.ps).dg)->
   aH.J1 A n cx none none false (some ⟨c,0,none⟩) (some ⟨r,0,none⟩) (i:Int) ⟨b1,0,none⟩ (dr G.D nd.id nd.ps) (bI (aH.e1 A n cx (some ⟨c,0,none⟩) (some ⟨r,0,none⟩)) (fun s v=>∃(i:Nat) (F:Nat->Prop) (m:CM) (FR:Nat->Prop),s=(none,none,false,(i:Int))/\i<=n/\ji v F c m FR r x k ((l.take i).foldl (fun G s=>dd k G s.id s.ps) (cS root))/\Kept Nil w v/\∀j,m.own c j\/F j\/FR j\/j=r\/j=x->w.heap.size<=j) (fun s _=>((n:Int)-s.2.2.2).toNat) (none,none,false,(i:Int)) v (aH.q1 K)) u:=by
   intro u u0 F' m' b1 A1 E1 n1 p1 e1 q1 hC k0 lZ HD ku xV Si rA rE;unfold aH.J1;have Yj:Kept Nil w u0:=kv.trans k0 (fun j hj e=>by have:=Br j (.inl e);omega);have PY:Kept Nil w u:=Yj.tt ku;have suv:=k0.size;have suu:=ku.size;intro u1;have Cz:Kept Nil u u1:=(Kept.refl _ _).drew;clear_value u1;have Ee:=PY.tt Cz;have s11:=Cz.size;have Ji:n1<=100000/\e1<=100000:=by
    have Vr:=bQ.len rA;have e2':=(Row.bo rE).len;have hG1:=hC.eo;by_cases hc:dr G.D nd.id nd.ps=0
    ·have kQ:jC k G nd.id nd.ps=(dd k G nd.id nd.ps).eK nd.id:=by
      rw [(lR B.C.eo hc).1];exact if_pos hc
     have gB:nd.id∈ids (dd k G nd.id nd.ps).D:=by rw [jN hc];simp [ids]
     obtain⟨z1,z2⟩:=ln hG1 gB;have:=zN k G nd.id nd.ps;rw [kQ]at Vr e2';omega
    ·have kQ:jC k G nd.id nd.ps=⟨dO,0,[],[]⟩:=if_neg hc
     rw [kQ]at Vr e2';simp at Vr e2';omega
   have Sa:∀ {t:World},Kept Nil w t->Cells t (((A.get!).add (((i:Nat):Int).toNat*33)).add 0) nd.id.1:=by
    intro t kt;obtain⟨a,pA,pn,pc,rfl,_,_,h4,_,_⟩:=(hl.aC kt (fun _ _ h=>h)).at_ i nd eQ;intro j z hj;rw [add_zero,Int.toNat_natCast];exact h4 j z (tT hj)
   have ps1:∃a pA pn pc,A=some a/\HS w pA pn nd.ps/\∀ {t:World},Kept Nil w t->t.cell? ((a.add (((i:Nat):Int).toNat*33)).add 32)=some (.slice pA pn pc):=by
    obtain⟨a,pA,pn,pc,rfl,_,_,h4,h5,_⟩:=hl.at_ i nd eQ;exact⟨a,pA,pn,pc,rfl,h5,fun kt=>by rw [Int.toNat_natCast];exact kt.cell (h4 32 _ (po _ _)) (fun h=>h)⟩
   obtain⟨a,pA,pn,pc,rfl,Bj,qh⟩:=ps1;have JU:=Bj.len;have hb:0<=(i:Int)/\(i:Int)<(n:Int):=⟨by omega,by omega⟩;refine⟨hb,Is.mk rfl ⟨nd.id.1,⟨nd.id.2.1,Sa Ee⟩,hb,Is.mk rfl ⟨pA,pn,pc,qh Ee,?_,?_⟩⟩⟩
   ·obtain⟨hR,O8⟩:=B.after k0 lZ HD hC (ku.tt Cz)
    refine tP hR (by omega) (by omega) (Bj.same Ee) (by omega) nd.id fun t A2 n2 p2 E2 e2 q2 hRt kt Fq kZ Pb=>⟨_,_,rfl,?_⟩;have B':=O8 t hRt kt;have st:=kt.size;intro t1;have kt1:Kept Nil t t1:=(Kept.refl _ _).alloc _;have Lv:t1.heap[t.heap.size]? =some (.cells zC bf (0,0)):=aJ t _;clear_value t1;obtain⟨z1,z2,z3⟩:=dT Lv (cs:=cF (jC k G nd.id nd.ps) A2 n2 p2 E2 e2 q2) (by rw [aX];rfl);refine⟨⟨aX ..,dP _ _ _ _ _ _ _,fun j hj=>z1 j (by rw [aX];exact hj)⟩,?_⟩;have RK:Kept Nil t (setCells t1 ⟨t.heap.size,0,none⟩ (cF (jC k G nd.id nd.ps) A2 n2 p2 E2 e2 q2).toList 0):=kt1.trans z3 (fun j hj e=>by omega);have K4:∀j,v.heap.size<=j->¬(j=r\/j=x):=fun j hj e=>by have:=mR j (.inr (.inr (.inr e)));omega
    have RF:Kept (fun j=>j=r\/j=x) u _:=(Cz.mono fun _ _ h=>h.elim).tt (kt.trans RK (fun _ _ h=>h.elim));refine aH.pR (j2 (B'.same RK) (Ee.trans (kt.trans RK (fun _ _ h=>h.elim)) (fun j hj e=>by have:=Br j (.inr (.inr (.inr e)));omega)) (fun j e=>?_) (RF.heap xV (K4 _ Si)) z2 ((bQ.hs rA).aC RF (fun a ha=>K4 _ (Row.bC rA (k:=a.block) (by rw [ha];rfl)).1)) (Fq.same RK) ((Row.bo rE).aC RF (fun a ha=>K4 _ (Row.bC rE (k:=a.block) (by rw [ha];rfl)).1)) (kZ.same RK) Ji.1 Ji.2);rcases e with e|e|(e|e)|e
    ·rcases lZ j e with e|e
     ·exact Br j (.inl e)
     ·omega
    ·rcases HD j e with e|e
     ·exact Br j (.inr (.inl e))
     ·omega
    ·exact Br j (.inr (.inr (.inl e)))
    ·omega
    ·exact Br j (.inr (.inr (.inr e)))
   ·intro u2
    have Fk:Kept Nil u1 u2:=(Kept.refl _ _).alloc _;have Lu:u2.heap[u1.heap.size]? =some (.cells zC bf (0,0)):=aJ u1 _;clear_value u2;have Jp:=Ee.tt Fk;have s22:=Fk.size;refine⟨qh Jp,⟨_,rfl,nd.id.2.1,Sa Jp⟩,?_⟩;obtain⟨hR,O8⟩:=B.after k0 lZ HD hC ((ku.tt Cz).tt Fk);refine tP hR (by omega) (by omega) (Bj.same Jp) (by omega) nd.id fun t A2 n2 p2 E2 e2 q2 hRt kt Fq kZ Pb=>⟨_,_,rfl,?_⟩;have B':=O8 t hRt kt;have st:=kt.size;have K4:∀j,v.heap.size<=j->¬(j=r\/j=x):=fun j hj e=>by have:=mR j (.inr (.inr (.inr e)));omega
    have hxt:=kt.heap Lu (K4 _ (by omega));obtain⟨z1,z2,z3⟩:=dT hxt (cs:=cF (jC k G nd.id nd.ps) A2 n2 p2 E2 e2 q2) (by rw [aX];rfl);refine⟨⟨aX ..,dP _ _ _ _ _ _ _,fun j hj=>z1 j (by rw [aX];exact hj)⟩,?_⟩;have lo0:∀j,m'.own c j\/F' j->j<u1.heap.size:=fun j e=>by have:=hC.low j e;omega
    have B2:ji (setCells t ⟨u1.heap.size,0,none⟩ (cF (jC k G nd.id nd.ps) A2 n2 p2 E2 e2 q2).toList 0) F' c m' (fun j=>FR j\/(u2.heap.size<=j/\j<t.heap.size)) r x k (dd k G nd.id nd.ps):=B'.aC z3 (fun j e e'=>by
     have l1:=aQ Lu;rcases e with e|e|(e|e)|e
     ·have:=lo0 j (.inl e);omega
     ·have:=lo0 j (.inr e);omega
     ·have:=B.R.lo j e;omega
     ·omega
     ·have:=mR j (.inr (.inr (.inr e)));omega)
    have RF:Kept (fun j=>j=r\/j=x) u t:=((Cz.tt Fk).mono fun _ _ h=>h.elim).tt kt;have Ng:Kept (fun j=>j=r\/j=x) u _:=RF.trans z3 (fun j hj e=>by omega);refine aH.pR (j2 B2 ((Jp.trans kt (fun j hj e=>by have:=Br j (.inr (.inr (.inr e)));omega)).trans z3 (fun j hj e=>by have:=Ee.size;omega)) (fun j e=>?_) (Ng.heap xV (K4 _ Si)) z2 ((bQ.hs rA).aC Ng (fun a ha=>K4 _ (Row.bC rA (k:=a.block) (by rw [ha];rfl)).1)) (Fq.aC z3 (fun a ha e=>by have:=Pb a (.inl ha);have:=aQ Lu;omega)) ((Row.bo rE).aC Ng (fun a ha=>K4 _ (Row.bC rE (k:=a.block) (by rw [ha];rfl)).1)) (kZ.aC z3 (fun a ha e=>by have:=Pb a (.inr ha);have:=aQ Lu;omega)) Ji.1 Ji.2)
    ·rcases e with e|e|(e|e)|e
     ·rcases lZ j e with e|e
      ·exact Br j (.inl e)
      ·omega
     ·rcases HD j e with e|e
      ·exact Br j (.inr (.inl e))
      ·omega
     ·exact Br j (.inr (.inr (.inl e)))
     ·omega
     ·exact Br j (.inr (.inr (.inr e)))
  intro w2;have k2:Kept Nil v w2:=(Kept.refl _ _).drew;clear_value w2;have Rx:=kv.tt k2;have sv2:=k2.size;have Sa:∀ {t:World},Kept Nil w t->Cells t ((A.get!.add (((i:Nat):Int).toNat*33)).add 0) nd.id.1:=by
   intro t kt;obtain⟨a,pA,pn,pc,rfl,_,_,h4,_,_⟩:=(hl.aC kt (fun _ _ h=>h)).at_ i nd eQ;intro j z hj;rw [add_zero,Int.toNat_natCast];exact h4 j z (tT hj)
  obtain⟨a,pA,pn,pc,hA,Bj,qh⟩:∃a pA pn pc,A=some a/\HS w pA pn nd.ps/\∀ {t:World},Kept Nil w t->t.cell? ((a.add (((i:Nat):Int).toNat*33)).add 32)=some (.slice pA pn pc):=by
   obtain⟨a,pA,pn,pc,hA,_,_,h4,h5,_⟩:=hl.at_ i nd eQ;exact⟨a,pA,pn,pc,hA,h5,fun kt=>by rw [Int.toNat_natCast];exact kt.cell (h4 32 _ (po _ _)) (fun h=>h)⟩
  subst hA;have JU:=Bj.len;have hb:0<=(i:Int)/\(i:Int)<(n:Int):=⟨by omega,by omega⟩;have IK:¬m.SX (Tryz.jl.g 1):=fun e=>by have:=Br _ (.inl (.inl e));omega
  refine⟨hb,Is.mk rfl ⟨nd.id.1,⟨nd.id.2.1,Sa Rx⟩,hb,Is.mk rfl ⟨pA,pn,pc,qh Rx,?_,?_⟩⟩⟩
  ·refine lO (B.C.same k2) (hT.same Rx) IK (by omega) (by omega) (Bj.same Rx) (by omega) nd.id fun u F' m' A1 n1 p1 E1 e1 q1 hC _ ku lZ HD rA rE _ _=>⟨_,_,rfl,?_⟩
   intro u1;have Cz:Kept Nil u u1:=(Kept.refl _ _).alloc _;have Lv:u1.heap[u.heap.size]? =some (.cells zC bf (0,0)):=aJ u _;clear_value u1;obtain⟨z1,z2,z3⟩:=dT Lv (cs:=cF (jC k G nd.id nd.ps) A1 n1 p1 E1 e1 q1) (by rw [aX];rfl);refine⟨⟨aX ..,dP _ _ _ _ _ _ _,fun j hj=>z1 j (by rw [aX];exact hj)⟩,?_⟩;have Fk:Kept Nil u (setCells u1 ⟨u.heap.size,0,none⟩ (cF (jC k G nd.id nd.ps) A1 n1 p1 E1 e1 q1).toList 0):=Cz.trans z3 (fun j hj e=>by omega);have su:=ku.size;refine aH.nI (j1 hC ((k2.mono fun _ _ h=>h.elim).tt ku) (fun j e=>(lZ j e).imp (fun h=>h) (fun h=>by omega)) (fun j e=>(HD j e).imp (fun h=>h) (fun h=>by omega)) Fk z2 (by omega) ?_ ?_)
   ·exact Row.base (Row.aC rA Fk (fun _ _ h=>h)) (fun j hj=>by have:=(Row.bC rA hj).1;omega)
   ·exact Row.base (Row.aC rE Fk (fun _ _ h=>h)) (fun j hj=>by have:=(Row.bC rE hj).1;omega)
  ·intro w3
   have k3:Kept Nil w2 w3:=(Kept.refl _ _).alloc _;have zc:w3.heap[w2.heap.size]? =some (.cells zC bf (0,0)):=aJ w2 _;clear_value w3;have K9:=Rx.tt k3;have s23:=k3.size;have l3:=aQ zc;refine⟨qh K9,⟨_,rfl,nd.id.2.1,Sa K9⟩,?_⟩;refine lO (B.C.same (k2.tt k3)) (hT.same K9) IK (by omega) (by omega) (Bj.same K9) (by omega) nd.id fun u F' m' A1 n1 p1 E1 e1 q1 hC _ ku lZ HD rA rE _ _=>⟨_,_,rfl,?_⟩;have su:=ku.size;have hxu:=ku.heap zc (fun e=>by have:=mR _ (.inl e);omega);obtain⟨z1,z2,z3⟩:=dT hxu (cs:=cF (jC k G nd.id nd.ps) A1 n1 p1 E1 e1 q1) (by rw [aX];rfl);refine⟨⟨aX ..,dP _ _ _ _ _ _ _,fun j hj=>z1 j (by rw [aX];exact hj)⟩,?_⟩;have no1:∀j,m'.own c j->j≠w2.heap.size:=fun j e e'=>by
    rcases lZ j e with e|e
    ·have:=mR j (.inl e);omega
    ·omega
   have no2:∀j,F' j->j≠w2.heap.size:=fun j e e'=>by
    rcases HD j e with e|e
    ·have:=mR j (.inr (.inl e));omega
    ·omega
   refine aH.nI (j1 (hC.aC z3 no1 no2) ((((k2.tt k3).mono fun _ _ h=>h.elim).tt ku).trans z3 (fun j hj e=>by omega)) (fun j e=>(lZ j e).imp (fun h=>h) (fun h=>by omega)) (fun j e=>(HD j e).imp (fun h=>h) (fun h=>by omega)) (Kept.refl _ _) z2 sv2 ?_ ?_)
   ·exact Row.base (Row.aC rA z3 (fun j hj e=>by have:=(Row.bC rA hj).1;omega)) (fun j hj=>by have:=(Row.bC rA hj).1;omega)
   ·exact Row.base (Row.aC rE z3 (fun j hj e=>by have:=(Row.bC rE hj).1;omega)) (fun j hj=>by have:=(Row.bC rE hj).1;omega)
 ·simp only at fV
  have:i=n:=by omega
  subst this;rw [aP,aH.dh];rw [List.take_of_length_le (by omega)]at B;exact hK v F c m FR r x B kv Br
end
section
variable{k:Nat}{G:GS}{s:HT}
theorem yL(G:GS)(s:HT):cC G s [s]= []:=by
 rw [List.eq_nil_iff_forall_not_mem];intro h hm;obtain⟨h1,h2,h3⟩:=jt.1 hm;rcases h1 with⟨_,p,hp,ha⟩|h1
 ·rw [List.mem_singleton]at hp;subst hp;exact h3 ha
 ·rw [List.mem_singleton]at h1;exact h2 h1
theorem pf(k:Nat)(G:GS)(s:HT):cQ k G s [s]=⟨s,G.score s+1,[],[]⟩/\(fg k G s [s]).wd=G.world s++ [s]:=by
 unfold cQ fg;rw [yL];exact⟨rfl,rfl⟩
variable{r a b c:HT}(Ey:r≠a)(zf:r≠b)(LG:r≠c)(lM:a≠b)(Mj:a≠c)(Hw:b≠c)
include Ey zf lM in
theorem kG2(k:Nat):∃G1 G2:GS,dd k (cS r) a [r]=G1/\dd k G1 b [r]=G2/\dr (cS r).D a [r]=0/\dr G1.D b [r]=0/\ga k G2/\G1.D= [⟨r,[]⟩,⟨a,[r]⟩]/\G2.D= [⟨r,[]⟩,⟨a,[r]⟩,⟨b,[r]⟩]/\G2.score a=1/\G2.score b=1/\G2.score r=0/\G2.world a= [r]/\G2.world b= [r]/\
 (∀x,eB G2.D x a↔x=r)/\(∀x,eB G2.D x b↔x=r)/\∀x,¬eB G2.D x r:=by
 have H0:=jr k r;have c1:dr (cS r).D a [r]=0:=(k1 Ey).1;have H1:=H0.add a [r];have D1:(dd k (cS r) a [r]).D= [⟨r,[]⟩,⟨a,[r]⟩]:=by rw [sd];exact(k1 Ey).2
 obtain⟨r1,r2⟩:=H0.root ⟨r,[]⟩ rfl
 replace r1:(cS r).eK r=_:=r1
 replace r2:(cS r).world r=_:=r2
 have rQ:r∈ids (cS r).D:=by simp [cS,ids]
 obtain⟨n1,n2⟩:=lR H0 c1;obtain⟨o1,o2⟩:=jO (h:=a) (ps:= [r]) H0 rQ
 replace n1:(dd k (cS r) a [r]).eK a=cQ k (cS r) r [r]:=n1
 replace n2:(dd k (cS r) a [r]).world a=(fg k (cS r) r [r]).wd:=n2
 rw [(pf k (cS r) r).1]at n1;rw [(pf k (cS r) r).2,r2]at n2;have sr:(cS r).score r=0:=by unfold GS.score;rw [r1]
 rw [sr]at n1;rw [r1]at o1;rw [r2]at o2;generalize hG1:dd k (cS r) a [r]=G1 at*;have c2:dr G1.D b [r]=0:=by rw [D1];exact(k2 zf lM).1
 have D2:(dd k G1 b [r]).D= [⟨r,[]⟩,⟨a,[r]⟩,⟨b,[r]⟩]:=by rw [sd,D1];exact(k2 zf lM).2
 have H2:=H1.add b [r];obtain⟨p1,p2⟩:=lR H1 c2
 replace p1:(dd k G1 b [r]).eK b=cQ k G1 r [r]:=p1
 replace p2:(dd k G1 b [r]).world b=(fg k G1 r [r]).wd:=p2
 rw [(pf k G1 r).1]at p1;rw [(pf k G1 r).2,o2]at p2;have sr1:G1.score r=0:=by unfold GS.score;rw [o1]
 rw [sr1]at p1;have kQ:r∈ids G1.D:=by rw [D1];simp [ids]
 have Qv:a∈ids G1.D:=by rw [D1];simp [ids]
 obtain⟨q1,_⟩:=jO (h:=b) (ps:= [r]) H1 kQ;obtain⟨q3,q4⟩:=jO (h:=b) (ps:= [r]) H1 Qv;have W2:=H2.W;have hr:∀x,¬eB (dd k G1 b [r]).D x r:=fun x h=>by
  obtain⟨p,hp,_⟩:=(tz W2 (i:=0) (nd:=⟨r,[]⟩) (by rw [D2];rfl) x).1 h;simp at hp
 have hx:∀(i:Nat) (y:HT),(dd k G1 b [r]).D[i]? =some ⟨y,[r]⟩->∀x,eB (dd k G1 b [r]).D x y↔x=r:=fun i y hi x=>by
  rw [tz W2 (i:=i) (nd:=⟨y,[r]⟩) hi x];constructor
  ·rintro⟨p,hp,e⟩
   rw [List.mem_singleton]at hp;subst hp;rcases e with e|e
   ·exact e
   ·exact absurd e (hr x)
  ·rintro rfl
   exact⟨x,by simp,.inl rfl⟩
 refine⟨G1,_,rfl,rfl,c1,c2,H2,D1,D2,?_,?_,?_,?_,p2,hx 1 a (by rw [D2];rfl),hx 2 b (by rw [D2];rfl),hr⟩
 ·unfold GS.score;rw [q3,n1]
 ·unfold GS.score;rw [p1]
 ·unfold GS.score;rw [q1,o1]
 ·rw [q4,n2];rfl
include Ey zf LG lM Mj Hw in
theorem kG3(cH:cH b a=true){G1 G2:GS}(h1:dd 0 (cS r) a [r]=G1)(h2:dd 0 G1 b [r]=G2):dr G2.D c [a,b]=0/\jC 0 G2 c [a,b]=⟨a,2,[b],[false]⟩:=by
 obtain⟨G1',G2',e1,e2,_,_,H2,_,D2,sa,sb,_,wa,_,aa,ab,ar⟩:=kG2 Ey zf lM 0;rw [h1]at e1;subst e1;rw [h2]at e2;subst e2;have c3:dr G2.D c [a,b]=0:=by rw [D2];exact(k3 LG lM Mj Hw).1
 refine⟨c3,?_⟩;unfold jC;rw [if_pos c3];have OL:gl G2 a b=false:=by
  unfold gl;rw [sa,sb];cases h:Go.Proofs.YtnboahlopghcjaaGreatDoor.cH a b
  ·rfl
  ·have:=jz h cH
   rw [gJ]at this;cases this
 have lK:bZ G2 [a,b]=a:=by
  show(if gl G2 a b then b else a)=a;rw [OL];rfl
 rw [lK];have hm:cC G2 a [a,b]= [b]:=by
  refine(rJ (by simp [SO]) fun x=>?_).symm;rw [List.mem_singleton,ug];constructor
  ·rintro rfl
   exact⟨.inr (by simp),fun e=>lM e.symm,fun e=>zf ((aa x).1 e).symm⟩
  ·rintro⟨h|h,h3,h4⟩
   ·obtain⟨_,p,hp,hA⟩:=h
    simp at hp;rcases hp with rfl|rfl
    ·exact absurd hA h4
    ·exact absurd ((aa x).2 ((ab x).1 hA)) h4
   ·simp at h
    rcases h with h|h
    ·exact absurd h h3
    ·exact h
 have hb:mV 0 G2.D [r,a] b=false:=by
  unfold mV;rw [decide_eq_false_iff_not];rintro⟨h,_⟩;have:a∈bJ G2.D [r,a] b:=dR.2 ⟨by simp,lM,fun e=>Ey ((ab a).1 e).symm,fun e=>zf ((aa b).1 e).symm⟩;have h0:bJ G2.D [r,a] b= []:=List.eq_nil_of_length_eq_zero (by omega);rw [h0]at this;simp at this
 unfold cQ fg;rw [hm,wa,sa];have hf: [b].foldl (ly 0 G2.D) ⟨[r]++ [a],[]⟩=⟨[r,a],[false]⟩:=by
  show ly 0 G2.D ⟨[r,a],[]⟩ b=_
  unfold ly;rw [hb];rfl
 rw [hf];rfl
end
section
variable{w w':World}{K:Value->World->Prop}
set_option maxHeartbeats 1000000 in
theorem AQ(hT:tc w)(hK:∀w',Kept Nil w w'->K (.bool true) w'):bk prog gA.id #[] w K:=by
 let r:=hx 1 (by omega)
 let a:=hx 3 (by omega)
 let b:=hx 2 (by omega)
 let c:=hx 4 (by omega)
 have Ey:r≠a:=rO (by omega);have zf:r≠b:=rO (by omega);have LG:r≠c:=rO (by omega);have lM:a≠b:=rO (by omega);have Mj:a≠c:=rO (by omega);have Hw:b≠c:=rO (by omega);have Z2:cH b a=true:=by decide
 refine gA.of ?_;unfold gA.W;intro w1 w2 w3 w4;obtain⟨⟨f1,f2,f3,f4⟩,hr,ha,hb,hc,l1,l2,l3,l4,k⟩:=four w r a b c;refine⟨⟨r.2.1,r.2.one,f1⟩,?_⟩;intro w7;refine⟨⟨a.2.1,a.2.one,f2⟩,?_⟩;intro w10;refine⟨⟨b.2.1,b.2.one,f3⟩,?_⟩;intro lV;refine⟨⟨c.2.1,c.2.one,f4⟩,?_⟩;intro iZ
 replace hr:iZ.heap[w.heap.size]? =some (.cells r.1 aj (0,0)):=hr
 replace ha:iZ.heap[w1.heap.size]? =some (.cells a.1 aj (0,0)):=ha
 replace hb:iZ.heap[w2.heap.size]? =some (.cells b.1 aj (0,0)):=hb
 replace hc:iZ.heap[w3.heap.size]? =some (.cells c.1 aj (0,0)):=hc
 replace k:Kept Nil w iZ:=k
 replace l1:w.heap.size<w1.heap.size:=l1
 replace l2:w1.heap.size<w2.heap.size:=l2
 replace l3:w2.heap.size<w3.heap.size:=l3
 replace l4:w3.heap.size<iZ.heap.size:=l4
 clear f1 f2 f3 f4;clear_value iZ;clear lV w10 w7;clear_value w3;clear w4;clear_value w2;clear_value w1;have hTl:=hT.lt;have V0:=k.size;have box:∀ {u:World} {S:Nat->Prop},Kept S iZ u->(∀k,S k->iZ.heap.size<=k)->Cells u (⟨w.heap.size,0,none⟩:Addr) r.1/\Cells u (⟨w1.heap.size,0,none⟩:Addr) a.1/\Cells u (⟨w2.heap.size,0,none⟩:Addr) b.1/\Cells u (⟨w3.heap.size,0,none⟩:Addr) c.1:=fun ku hS=>
  ⟨Cells.bC (ku.heap hr (fun e=>by have:=hS _ e;omega)),Cells.bC (ku.heap ha (fun e=>by have:=hS _ e;omega)),Cells.bC (ku.heap hb (fun e=>by have:=hS _ e;omega)),Cells.bC (ku.heap hc (fun e=>by have:=hS _ e;omega))⟩
 obtain⟨G1,G2,e1,e2,c1,c2,H2,D1,D2,_⟩:=kG2 Ey zf lM 0;obtain⟨c3,hR⟩:=kG3 Ey zf LG lM Mj Hw Z2 e1 e2;refine⟨r.1,⟨r.2.1,Cells.bC hr⟩,gX r (k:=0) (by omega) fun oa cc q m C hm hq wx=>⟨_,_,rfl,Split.no rfl (Split.no rfl ?_)⟩⟩;obtain⟨b1,b2,b3,b4⟩:=box wx (fun _ h=>h.elim);refine⟨a.1,⟨a.2.1,b2⟩,r.1,⟨r.2.1,b1⟩,r.2.1,?_⟩;intro la;have pQ:Kept Nil oa la:=(Kept.refl _ _).alloc _;have Kr:HS la (some ⟨oa.heap.size,0,none⟩) 1 [r]:=iq oa r;clear_value la;have AX:=wx.tt pQ;have VZ:=AX.size;refine lO (C.same pQ) (hT.same (k.tt AX)) (fun e=>by have:=hm _ (.inl e);omega) (by simp [cS]) (by omega) Kr (by omega) a fun pW F2 m2 A2 n2 p2 E2 q2 z2 C2 _ Ek Fq _ _ _ _ _=>⟨_,_,rfl,?_⟩;rw [e1]at C2;have XX:∀j,m2.own cc j->iZ.heap.size<=j:=fun j e=>(Fq j e).elim (hm j) (fun h=>by omega);have Lk:Kept (fun q=>iZ.heap.size<=q) iZ pW:=(AX.mono (S':=fun q=>iZ.heap.size<=q) (fun _ _ h=>h.elim)).trans Ek (fun q _ h=>hm q h);obtain⟨b1,b2,b3,b4⟩:=box Lk (fun _ h=>h);refine⟨b.1,⟨b.2.1,b3⟩,r.1,⟨r.2.1,b1⟩,r.2.1,?_⟩;intro FF;have Lg:Kept Nil pW FF:=(Kept.refl _ _).alloc _;have UG:HS FF (some ⟨pW.heap.size,0,none⟩) 1 [r]:=iq pW r;clear_value FF;have GJ:=Lk.trans Lg (fun _ _ h=>h.elim);have s31:=GJ.size;refine lO (C2.same Lg) ((hT.same k).aC GJ (fun e=>by omega)) (fun e=>by have:=XX _ (.inl e);omega) (by rw [D1];simp) (by omega) UG (by omega) b fun re F3 m3 A3 n3 p3 E3 q3 z3 C3 _ AS ZX _ _ _ _ _=>⟨_,_,rfl,?_⟩;rw [e2]at C3;have om3:∀j,m3.own cc j->iZ.heap.size<=j:=fun j e=>(ZX j e).elim (XX j) (fun h=>by omega);have Lj:Kept (fun q=>iZ.heap.size<=q) iZ re:=GJ.trans AS (fun q _ h=>XX q h)
 obtain⟨b1,b2,b3,b4⟩:=box Lj (fun _ h=>h);refine⟨c.1,⟨c.2.1,b4⟩,a.1,⟨a.2.1,b2⟩,b.1,⟨b.2.1,b3⟩,a.2.1,b.2.1,?_⟩;intro Fi;have Gz:Kept Nil re Fi:=(Kept.refl _ _).alloc _;have Kq:HS Fi (some ⟨re.heap.size,0,none⟩) 2 [a,b]:=HS.lay (l:= [a,b]) (t:=aj) (aJ re (.cells (dc [a,b]).toArray aj));clear_value Fi;have GI:=Lj.trans Gz (fun _ _ h=>h.elim);have s39:=GI.size;refine lO (C3.same Gz) ((hT.same k).aC GI (fun e=>by omega)) (fun e=>by have:=om3 _ (.inl e);omega) (by rw [D2];simp) (by omega) Kq (by omega) c fun Ca F4 m4 A4 n4 p4 E4 q4 z4 _ _ Nn _ _ rA rE _ _=>⟨_,_,rfl,?_⟩;rw [c3];rw [hR]at rA rE⊢;have Li:Kept (fun q=>iZ.heap.size<=q) iZ Ca:=GI.trans Nn (fun q _ h=>om3 q h);have s41:=Li.size;intro zU;have Gx:Kept Nil Ca zU:=(Kept.refl _ _).alloc _;have YN:zU.heap[Ca.heap.size]? =some (.cells zC bf (0,0)):=aJ Ca _;clear_value zU;obtain⟨t1,t2,t3⟩:=dT YN (cs:=cF ⟨a,2,[b],[false]⟩ A4 n4 p4 E4 q4 z4) (by rw [aX];rfl);refine⟨⟨aX ..,dP _ _ _ _ _ _ _,fun j hj=>t1 j (by rw [aX];exact hj)⟩,?_⟩;intro Fh Dq
 replace t2:Fh.heap[Ca.heap.size]? =some (.cells (cF ⟨a,2,[b],[false]⟩ A4 n4 p4 E4 q4 z4) bf (0,0)):=t2
 replace t3:Kept (· =Ca.heap.size) zU Fh:=t3
 have Nl:Kept Nil Fh Dq:=(Kept.refl _ _).drew;clear_value Dq;have ht:=Nl.heap t2 (fun h=>h);have Gy:Kept Nil Ca Dq:=(Gx.trans t3 (fun j hj e=>by omega)).tt Nl;clear_value Fh;have Lh:=Li.trans Gy (fun _ _ h=>h.elim);obtain⟨b1,b2,b3,b4⟩:=box Lh (fun _ h=>h);have g:=dJ ⟨a,2,[b],[false]⟩ A4 n4 p4 E4 q4 z4 #[];rw [Array.append_empty]at g;have hn4:n4=1:=by have:=bQ.len rA;simpa using this.symm
 have Zw:q4=1:=by have:=(Row.bo rE).len;simpa using this.symm
 subst hn4 Zw;have mg:=(bQ.hs rA).same Gy;have bl:=(Row.bo rE).same Gy;have gV:Cells Dq ((⟨Ca.heap.size,0,none⟩:Addr).add 0) a.1:=fun j u hj=>by
  have cH:=(Array.getElem?_eq_some_iff.1 hj).1;rw [add_zero,a8,ay ht,Nat.zero_add];unfold cF;rw [Array.getElem?_append_left cH];exact hj
 refine Split.yes rfl ⟨a.1,⟨a.2.1,gV⟩,a.1,⟨a.2.1,b2⟩,⟨a.2.ints,a.2.ints⟩,?_⟩;rw [du];refine Split.yes (decide_eq_true rfl) ⟨2,by rw [a8,ay ht];exact g.1,Split.yes rfl ⟨A4,1,p4,by rw [a8,ay ht];exact g.2.1,Split.yes rfl ⟨A4,1,p4,by rw [a8,ay ht];exact g.2.1,?_⟩⟩⟩;refine mg.load (i:=0) (by omega) rfl ⟨b.1,⟨b.2.1,b3⟩,⟨b.2.ints,b.2.ints⟩,?_⟩;rw [du];obtain⟨aE,h1,_,h3⟩:=bl.at_ 0 false rfl;subst h1;refine Split.yes (decide_eq_true rfl) ⟨some aE,1,z4,by rw [a8,ay ht];exact g.2.2.1,Split.yes rfl ⟨some aE,1,z4,by rw [a8,ay ht];exact g.2.2.1,⟨by omega,by omega⟩,false,h3,?_⟩⟩;exact hK Dq (k.trans Lh (fun q hq e=>by omega))
end
section
variable{w w' v:World}{F FP FR:Nat->Prop}{c r x k:Nat}{G:GS}{m:CM}{K:Value->World->Prop}
theorem R3.graph(h:R3 w F r x k G):∃A c,w.cell? (((⟨x,0,none⟩:Addr).add 0).add 0)=some (.slice A G.D.length c)/\NS w F A G.D.length G.D:=by
 obtain⟨A,c,B,e,l,h1,h2,_⟩:=h.X.ex;exact⟨A,c,by rw [add_zero,add_zero,ay h1];rfl,h2⟩
theorem M1(h:ga k G){i:Nat}{nd:DN}(hi:G.D[i]? =some nd):G.pK[i]? =some (G.eK nd.id)/\G.ja[i]? =some (G.world nd.id)/\nd.id∈ids G.D:=by
 have dQ:=(lgeS hi).1;obtain⟨c,hc⟩:∃c,G.pK[i]? =some c:=⟨_,List.getElem?_eq_getElem (by rw [h.lc];exact dQ)⟩;obtain⟨l,hl⟩:∃l,G.ja[i]? =some l:=⟨_,List.getElem?_eq_getElem (by rw [h.lw];exact dQ)⟩;exact⟨by rw [GS.HX h.W hi hc];exact hc,by rw [GS.x9 h.W hi hl];exact hl,dt.2 ⟨nd,List.mem_of_getElem? hi,rfl⟩⟩
end
theorem tV(D:DG)(x b:HT):bJ D [x] b=if jS D x b then [x]else []:=by
 unfold bJ;rw [List.filter_cons];by_cases h:jS D x b<;>simp [h]
def Fair(k:Nat)(D:DG)(wd:List HT):Prop:=∀b∈wd,(bJ D wd b).length<=k
theorem Fair.step{k:Nat}{D:DG}{s:VS}{h:HT}(H:Fair k D s.wd):Fair k D (ly k D s h).wd:=by
 unfold ly;simp only;cases hb:mV k D s.wd h with
 |false=>simpa using H
 |true=>
  rw [if_pos rfl];obtain⟨h1,h2⟩:=of_decide_eq_true hb;intro b hm;rw [eh,List.length_append,tV];rcases List.mem_append.1 hm with hm|hm
  ·split
   ·rename_i ha
    have:=h2 b (dR.2 ⟨hm,ha.symm⟩);simp only [List.length_cons,List.length_nil];omega
   ·have:=H b hm
    simp only [List.length_nil];omega
  ·have:b=h:=by simpa using hm
   subst this;rw [if_neg (fun e=>e.1 rfl)];simpa using h1
theorem Fair.fold{k:Nat}{D:DG}:∀(l:List HT) (s:VS),Fair k D s.wd->Fair k D (l.foldl (ly k D) s).wd
 | [],_,H=>H
 |x::l,s,H=>by
  rw [List.foldl_cons];exact Fair.fold l _ H.step
theorem yo{G:GS}:∀ {l:List HT} {p:HT},p∈l->G.score p<=G.score (bZ G l)
 |x::l,p,hp=>by
  have gs:∀ {a b:HT},gl G a b=true->G.score a<=G.score b:=fun {a b} h=>by
   simp only [gl,Bool.or_eq_true,Bool.and_eq_true,decide_eq_true_eq]at h;omega
  have gn:∀ {a b:HT},gl G a b=false->G.score b<=G.score a:=fun {a b} h=>by
   simp only [gl,Bool.or_eq_false_iff,decide_eq_false_iff_not]at h;omega
  have key:∀(l:List HT) (b:HT),G.score b<=G.score (l.foldl (fun b y=>if gl G b y then y else b) b)/\∀p∈l,G.score p<=G.score (l.foldl (fun b y=>if gl G b y then y else b) b):=by
   intro l
   induction l with
   |nil=>intro b;exact⟨Nat.le_refl _,fun p hp=>by cases hp⟩
   |cons y l ih=>
    intro b;rw [List.foldl_cons];obtain⟨h1,h2⟩:=ih (if gl G b y then y else b);cases hg:gl G b y with
    |true=>
     rw [hg,if_pos rfl]at h1 h2;rw [if_pos rfl];refine⟨Nat.le_trans (gs hg) h1,fun p hp=>?_⟩;rcases List.mem_cons.1 hp with rfl|hp
     ·exact h1
     ·exact h2 p hp
    |false=>
     rw [hg,if_neg (by simp)]at h1 h2;rw [if_neg (by simp)];refine⟨h1,fun p hp=>?_⟩;rcases List.mem_cons.1 hp with rfl|hp
     ·exact Nat.le_trans (gn hg) h1
     ·exact h2 p hp
  obtain⟨h1,h2⟩:=key l x;show G.score p<=G.score (l.foldl (fun b y=>if gl G b y then y else b) x)
  rcases List.mem_cons.1 hp with rfl|hp
  ·exact h1
  ·exact h2 p hp
structure Ag(k:Nat)(G:GS):Prop where
 cl:∀h∈ids G.D,Fair k G.D (G.world h)
 mx:∀h p,ma G.D p h->G.score p<=G.score (G.eK h).gV
section
variable{k:Nat}{G:GS}{h:HT}{ps:List HT}
theorem Ag.root(k:Nat)(r:HT):Ag k (cS r):=by
 refine⟨fun h hm b hb=>?_,fun h p hp=>?_⟩
 ·have hh:h=r:=by simpa [cS,ids]using hm
  subst hh;rw [((jr k h).root ⟨h,[]⟩ rfl).2]at hb;cases hb
 ·obtain⟨nd,eQ,_,oP⟩:=hp
  have:nd=⟨r,[]⟩:=by simpa [cS]using eQ
  subst this;cases oP
theorem Ag.add(C:Ag k G)(H:ga k G)(h:HT)(ps:List HT):Ag k (dd k G h ps):=by
 by_cases hc:dr G.D h ps=0
 ·obtain⟨hn,fC,eQ,oP⟩:=jP hc
  obtain⟨q1,q2⟩:=lR H hc;obtain⟨a1,a2⟩:=u9 H hc;obtain⟨j,m,_,_,_,Et,Ev⟩:=Az H hc;have eD:(dd k G h ps).D=G.D++ [⟨h,de ps⟩]:=by rw [jN hc]
  have SN:∀p∈ps,p∈ids G.D:=fun p hp=>oP p (df.2 hp);have W9:∀ {a b:HT},a∈ids G.D->b∈ids G.D->(jS (dd k G h ps).D a b↔jS G.D a b):=fun {a b} ha hb=>by
   unfold jS;rw [eD,a2 a b hb,a2 b a ha]
  have zW:∀ {wd:List HT},(∀a∈wd,a∈ids G.D)->Fair k G.D wd->Fair k (dd k G h ps).D wd:=fun {wd} fF F b hb=>by
   rw [nv fun a ha=>W9 (fF a ha) (fF b hb)];exact F b hb
  have sc:∀ {y:HT},y∈ids G.D->(dd k G h ps).score y=G.score y:=fun {y} hy=>by unfold GS.score;rw [(jO H hy).1]
  have mem:∀ {y:HT},y∈ids (dd k G h ps).D->y∈ids G.D\/y=h:=fun {y} hy=>by
   rw [eD]at hy;simpa [ids]using hy
  refine⟨fun y hy=>?_,fun y p hp=>?_⟩
  ·rcases mem hy with hy|rfl
   ·rw [(jO H hy).2]
    exact zW (fun a ha=>(((H.wd y hy).2.1 a ha).mem H.W).1) (C.cl y hy)
   ·rw [q2]
    obtain⟨_,_,v3⟩:=wP H Ev ps SN;refine zW (fun a ha=>(v3 a ha).1) ?_;unfold fg;refine Fair.fold _ _ ?_;have hw:=(H.wd _ Ev).2.1;intro b hb;simp only at hb⊢;rw [eh,tV,List.length_append];rcases List.mem_append.1 hb with hb|hb
    ·have:=C.cl _ Ev b hb
     rw [if_neg (fun e=>e.2.2 (hw b hb))];simpa using this
    ·have:b=bZ G ps:=by simpa using hb
     subst this;rw [if_neg (fun e=>e.1 rfl)];have:bJ G.D (G.world (bZ G ps)) (bZ G ps)= []:=by
      rw [List.eq_nil_iff_forall_not_mem];intro a ha;obtain⟨h1,h2⟩:=dR.1 ha;exact h2.2.1 (hw a h1)
     rw [this];simp
  ·obtain⟨nd,eQ,rfl,hp⟩:=hp
   rw [eD]at eQ;rcases List.mem_append.1 eQ with eQ|eQ
   ·have hy:nd.id∈ids G.D:=dt.2 ⟨nd,eQ,rfl⟩
    have jT:ma G.D p nd.id:=⟨nd,eQ,rfl,hp⟩;have hpi:=((eB.one jT).mem H.W).1;have mi:=C.mx _ _ jT;rw [(jO H hy).1,sc hpi];obtain⟨i,jj,m',nd',qg,lZ,mQ,e1,e2,_⟩:=jT.at_ H.W;have hP:=(lgeS mQ).1;obtain⟨pz,Fo⟩:∃pz,G.P[jj]? =some pz:=⟨_,List.getElem?_eq_getElem (by rw [H.gV.len];exact hP)⟩;obtain⟨j2,m2,rfl,_,Fq,OF⟩:=H.gV.up jj pz nd' (by omega) Fo mQ;have lK:=(H.up m2.id nd.id ⟨jj,j2,nd',m2,mQ,e2,Fo,Fq,rfl⟩).1;rw [sc (by rw [lK];exact dt.2 ⟨m2,List.mem_of_getElem? Fq,rfl⟩)];exact mi
   ·have:nd=⟨h,de ps⟩:=by simpa using eQ
    subst this;have Fp:p∈ps:=df.1 hp;rw [q1,sc (SN p Fp)];show G.score p<=(dd k G h ps).score (bZ G ps)
    rw [sc Ev];exact yo Fp
 ·rw [q9 hc];exact C
theorem EX(k:Nat)(root:HT)(l:List DN):Ag k (xD k root l):=by
 have key:∀(l:List DN) (G:GS),ga k G->Ag k G->Ag k (l.foldl (fun G s=>dd k G s.id s.ps) G):=by
  intro l
  induction l with
  |nil=>intro G _ C;exact C
  |cons s l ih=>intro G H C;rw [List.foldl_cons];exact ih _ (H.add _ _) (C.add H _ _)
 exact key l _ (jr k root) (Ag.root k root)
theorem FW(H:ga k G){p y:HT}(hp:ma G.D p y):iz G.D G.P (G.eK y).gV y:=by
 obtain⟨i,jj,m',nd',qg,lZ,mQ,e1,e2,_⟩:=hp.at_ H.W;have hP:=(lgeS mQ).1;obtain⟨pz,Fo⟩:∃pz,G.P[jj]? =some pz:=⟨_,List.getElem?_eq_getElem (by rw [H.gV.len];exact hP)⟩;obtain⟨j2,m2,rfl,_,Fq,OF⟩:=H.gV.up jj pz nd' (by omega) Fo mQ;have hs:iz G.D G.P m2.id y:=⟨jj,j2,nd',m2,mQ,e2,Fo,Fq,rfl⟩;have:=(H.up _ _ hs).1;rw [this];exact hs
theorem DP(H:ga k G){s y:HT}(hs:iz G.D G.P s y):G.score s<G.score y:=by
 have hy:eB G.D s y:=.one (hs.par H.gV);obtain⟨m1,m2⟩:=hy.mem H.W;rw [(H.wd s m1).2.2,(H.wd y m2).2.2,(H.up s y hs).2.1];simp only [List.length_append,List.length_cons,List.length_nil];omega
theorem vV(C:Ag k G)(H:ga k G){p y:HT}(hp:ma G.D p y):G.score p<G.score y:=
 Nat.lt_of_le_of_lt (C.mx y p hp) (DP H (FW H hp))
theorem ry(C:Ag k G)(H:ga k G){a y:HT}(h:eB G.D a y):G.score a<G.score y:=by
 induction h with
 |one hp=>exact vV C H hp
 |more _ hp ih=>exact Nat.lt_trans ih (vV C H hp)
theorem D5(C:Ag k G)(H:ga k G){s y z:HT}(hs:iz G.D G.P s y)(hz:z∈(G.eK y).merge):jS G.D z s:=by
 obtain⟨e,_,_,_,hm⟩:=H.up s y hs;obtain⟨h1,h2,h3⟩:=(hm z).1 hz;refine⟨h2,h3,fun h4=>?_⟩;have l1:=ry C H h4;obtain⟨p,hp,hzp⟩:∃p,ma G.D p y/\(z=p\/eB G.D z p):=by
  cases h1 with
  |one hp=>exact⟨z,hp,.inl rfl⟩
  |more ha hp=>exact⟨_,hp,.inr ha⟩
 have l2:=C.mx y p hp;rw [e]at l2;rcases hzp with rfl|ha
 ·omega
 ·have:=ry C H ha
  omega
theorem ub{l m:List HT}(hl:l.Nodup)(hm:m.Nodup)(h:∀x,x∈l↔x∈m):l.length=m.length:=
 Nat.le_antisymm (cJ hl fun x hx=>(h x).1 hx) (cJ hm fun x hx=>(h x).2 hx)
theorem AI(H:ga k G){s y:HT}(hs:iz G.D G.P s y):
 (cy G.D [s]++ [s]++(G.eK y).merge).length=(cy G.D [y]).length/\de (cy G.D [s]++ [s]++(G.eK y).merge)=cy G.D [y]:=by
 obtain⟨e,_,_,eQ,hm⟩:=H.up s y hs;have JL:eB G.D s y:=.one (hs.par H.gV);obtain⟨m1,m2⟩:=JL.mem H.W;have hp:∀ {a b:HT},a∈cy G.D [b]↔eB G.D a b:=fun {a b}=>by
  unfold cy;rw [iw];simp only [List.mem_singleton,exists_eq_left];exact⟨fun h=>h.2,fun h=>⟨(h.mem H.W).1,h⟩⟩
 have gB:∀x,x∈cy G.D [s]++ [s]++(G.eK y).merge↔x∈cy G.D [y]:=fun x=>by
  rw [List.mem_append,List.mem_append,hp,hp,hm,List.mem_singleton];constructor
  ·rintro((h|rfl)|h)
   ·exact h.trans JL
   ·exact JL
   ·exact h.1
  ·intro h
   by_cases h1:x=s
   ·exact .inl (.inr h1)
   ·by_cases h2:eB G.D x s
    ·exact .inl (.inl h2)
    ·exact .inr ⟨h,h1,h2⟩
 have CR:∀b,(cy G.D [b]).Nodup:=fun b=>(gN _).nodup;have hn:(cy G.D [s]++ [s]++(G.eK y).merge).Nodup:=by
  refine List.nodup_append.2 ⟨List.nodup_append.2 ⟨CR s,by simp,?_⟩,eQ,?_⟩
  ·intro a ha b hb e
   have hb:b=s:=by simpa using hb
   rw [e,hb]at ha;exact eB.irrefl H.W _ (hp.1 ha)
  ·intro a ha b hb e
   subst e;obtain⟨_,h3,h4⟩:=(hm _).1 hb;rcases List.mem_append.1 ha with ha|ha
   ·exact h4 (hp.1 ha)
   ·exact h3 (by simpa using ha)
 refine⟨ub hn (CR y) gB,?_⟩;rw [tk gB];exact yl (gN _)
theorem HP(C:Ag k G)(H:ga k G){y b:HT}(hy:y∈ids G.D)(hb:b∈de (G.world y)):((de (G.world y)).filter fun z=>decide (jS G.D b z)).length<=k:=by
 have h1:=C.cl y hy b (df.1 hb);have hn:=(H.wd y hy).1;have:=ub (l:=(de (G.world y)).filter fun z=>decide (jS G.D b z)) (m:=bJ G.D (G.world y) b) ((gN _).nodup.filter _) (hn.filter _) (fun x=>by
  rw [dR,List.mem_filter,df,decide_eq_true_eq];exact⟨fun h=>⟨h.1,h.2.symm⟩,fun h=>⟨h.1,h.2.symm⟩⟩)
 omega
end
structure CX(u:World)(F:Nat->Prop)(cb:Nat)(m:CM)(FR:Nat->Prop)(rb xr k:Nat)(G:GS)(y:HT)(xb:Nat)(A:Option Addr)(n cp:Nat)(E:Option Addr)(ne ce:Nat)(Pa:Option Addr)(pn:Nat):Prop where
 B:ji u F cb m FR rb xr k G
 hx:u.heap[xb]? =some (.cells (cF (G.eK y) A n cp E ne ce) bf (0,0))
 mg:HS u A n (G.eK y).merge
 ps:HS u Pa pn (cy G.D [y])
section
variable{u w:World}{F:Nat->Prop}{cb:Nat}{m:CM}{FR:Nat->Prop}{rb xr k:Nat}{G:GS}{y:HT}{xb:Nat}{A:Option Addr}{n cp:Nat}{E:Option Addr}{ne ce:Nat}{Pa:Option Addr}{pn:Nat}
theorem CX.same(h:CX u F cb m FR rb xr k G y xb A n cp E ne ce Pa pn)(hk:Kept Nil u w):CX w F cb m FR rb xr k G y xb A n cp E ne ce Pa pn:=
 ⟨h.B.same hk,hk.heap h.hx (fun h=>h),h.mg.same hk,h.ps.same hk⟩
theorem CX.Dc(h:CX u F cb m FR rb xr k G y xb A n cp E ne ce Pa pn):u.cell? ((⟨xb,0,none⟩:Addr).add 33)=some (.slice A n cp):=by
 have:=(dJ (G.eK y) A n cp E ne ce #[]).2.1;rw [Array.append_empty]at this;rw [a8,ay h.hx];exact this
theorem CX.Px(h:CX u F cb m FR rb xr k G y xb A n cp E ne ce Pa pn):u.cell? ((⟨xb,0,none⟩:Addr).add 32)=some (.int .u64 ((G.eK y).score:Int)):=by
 have:=(dJ (G.eK y) A n cp E ne ce #[]).1;rw [Array.append_empty]at this;rw [a8,ay h.hx];exact this
theorem CX.cs(h:CX u F cb m FR rb xr k G y xb A n cp E ne ce Pa pn):Cells u ((⟨xb,0,none⟩:Addr).add 0) (G.eK y).gV.1:=by
 intro j v hj;rw [add_zero,a8,ay h.hx];unfold cF;rw [Nat.zero_add,Array.getElem?_append_left (Array.getElem?_eq_some_iff.1 hj).1];exact hj
theorem CX.num(h:CX u F cb m FR rb xr k G y xb A n cp E ne ce Pa pn):n=(G.eK y).merge.length/\pn=(cy G.D [y]).length:=⟨h.mg.len.symm,h.ps.len.symm⟩
set_option maxHeartbeats 1000000 in
theorem rV{a:Int}{c d:Option Addr}{e:Int}{f:Addr}{g:Option Addr}{i j:Nat}{Q:aN}{j1:Option Addr}{k1 m1:Nat}{n1:World}{b:Bool}{s:HT}
 (hc:c=some ⟨cb,0,none⟩) (hd:d=some ⟨rb,0,none⟩) (hf:f=⟨xb,0,none⟩)
 (X:CX n1 F cb m FR rb xr k G y xb A n cp E ne ce g i) (C:Ag k G) (hD:G.D.length<=100) (hs:iz G.D G.P s y) (hP:HS n1 j1 k1 (cy G.D [s]++ [s]++(G.eK y).merge))
 (hQ:∀w',Kept Nil n1 w'->Q .normal [(0,.int .i64 a),(6,.bool b),(7,.pointer c),(8,.pointer d),(10,.int .i64 (i64.wrap (e+(1:Int))))] w'):
 Split ((k1:Int) != (i:Int)) (Q .ret [(0,.int .i64 a),(6,.bool false),(7,.pointer c),(8,.pointer d),(10,.int .i64 e),(14,.pointer (some f))] n1) (bk prog 28 #[.slice j1 k1 m1] n1 fun o1 p1=>∃q1:OA,∃r1 t1:Nat,o1=.slice q1 r1 t1/\bk prog 27 #[.slice q1 r1 t1,.slice g i j] p1 fun u1 v1=>∃x1:Bool,u1=.bool x1/\Split (!x1) (Q .ret [(0,.int .i64 a),(6,.bool false),(7,.pointer c),(8,.pointer d),(10,.int .i64 e),(14,.pointer (some f))] v1) (Holds none [] prog 209 (.loop (lB (bB (sR (sR (sR (sR (sR (sR (sR (sR (sR (sR (sR (bB (sL (sR (lB (bB (sR (sL (sR (sR (sR (sR (body Tryz.f5)))))))))))))))))))))))))) (ae.q5 Q) [(0,.int .i64 a),(6,.bool b),(7,.pointer c),(8,.pointer d),(10,.int .i64 e),(14,.pointer (some f)),(24,.int .i64 0)] v1)):=by
 have H:=X.B.C.eo;obtain⟨p1,p2⟩:=AI H hs;obtain⟨x1,x2⟩:=X.num;have hk:=hP.len;have pH:(cy G.D [y]).length<=G.D.length:=jK _ _;have Lr:=((eB.one (hs.par H.gV)).mem H.W).2;have Hj:=(ln H Lr).1;have Za:=(H.up s y hs).1;refine Split.no (by simp;omega) ?_;refine nu hP (by omega) fun A2 c2 w2 r2 k2=>⟨A2,_,c2,rfl,?_⟩;have z6:=me (cy G.D [s]++ [s]++(G.eK y).merge);refine vZ (bQ.hs r2) (X.ps.same k2) (by omega) fun w3 k3=>⟨_,rfl,Split.no (by rw [decide_eq_true p2];rfl) ?_⟩;have mh:=k2.tt k3;refine ae.Gn (I:=fun s u=>∃t:Nat,s=(b,(t:Int))/\t<=n/\Kept Nil n1 u) (μ:=fun s _=>((n:Int)-s.2).toNat) (s:=(b,0)) ⟨0,rfl,Nat.zero_le _,mh⟩ ?_;rintro⟨_,_⟩ u ⟨t,et,ht,ku⟩;cases et;unfold ae.B5;have Xu:=X.same ku;subst hc hd hf;refine⟨A,n,cp,Xu.Dc,Split.dec (fun cH=>?_) (fun fV=>?_)⟩
 ·simp only at cH
  have Ly:t<n:=by omega
  intro w5;have k5:Kept Nil u w5:=(Kept.refl _ _).drew;clear_value w5;have X5:=Xu.same k5;obtain⟨z,hz⟩:=X5.mg.get_mem Ly;refine Is.mk rfl ⟨_,X5.B.R.c1,Is.mk rfl ⟨A,n,cp,X5.Dc,X5.mg.load (i:=(t:Int)) (x:=z) (by omega) (by rw [Int.toNat_natCast];exact hz) ⟨_,⟨(G.eK y).gV.2.1,X5.cs⟩,?_⟩⟩⟩;refine rD X5.B.R.X.gr H.W (by omega) z (G.eK y).gV fun w6 b6 nM k6=>⟨b6,rfl,?_⟩;have O7:jS G.D z (G.eK y).gV:=by rw [Za];exact D5 C H hs (List.mem_of_getElem? hz)
  have:b6=true:=nM.2 O7;refine Split.no (by rw [this];rfl) ?_;simp only;rw [dq (n:=(t:Int)) (by omega) (by omega)];exact⟨(b,(t:Int)+1),rfl,⟨t+1,rfl,Ly,(ku.tt k5).tt k6⟩,by simp only;omega⟩
 ·rw [aP,ae.IU]
  exact hQ u ku
end
section
variable{u w:World}{F:Nat->Prop}{cb:Nat}{m:CM}{FR:Nat->Prop}{rb xr k:Nat}{G:GS}{y:HT}{xb:Nat}{A:Option Addr}{n cp:Nat}{E:Option Addr}{ne ce:Nat}{Pa:Option Addr}{pn:Nat}
theorem uT{w0 v:World}{A2:Option Addr}{l2 c2 bb:Nat}{s:HT}{lp:List HT}(X0:CX w0 F cb m FR rb xr k G y xb A n cp E ne ce Pa pn)(k0:Kept Nil w0 v)(row:bQ v w0.heap.size A2 l2 c2 lp)(hb:HS v (some ⟨bb,0,none⟩) 1 [s])
 (h1:l2<=1000) (h2:n<=1000):
 ∃e1 g1 i1,(Builtin.append_ #[az,az] az #[.slice A2 l2 c2,.slice (some ⟨bb,0,none⟩) 1 1]).run prog v=.ok (.slice e1 (l2+1) g1) i1/\Kept Nil w0 i1/\
  ∃j1 m1 n1,(Builtin.append_ #[az,az] az #[.slice e1 (l2+1) g1,.slice A n cp]).run prog i1=.ok (.slice j1 (l2+1+n) m1) n1/\Kept Nil w0 n1/\HS n1 j1 (l2+1+n) (lp++ [s]++(G.eK y).merge):=by
 obtain⟨e1,g1,i1,r1,jW,gr1,b1⟩:=cD az row (cx:=1) hb (by omega) k0.size;have ki:Kept Nil w0 i1:=Kept.dM k0 gr1 (fun j hj=>(Row.bC row hj).1);obtain⟨j1,m1,n1,r2,fz,gr2,b2⟩:=cD az jW (cx:=cp) (X0.same ki).mg (by omega) ki.size;have kn:Kept Nil w0 n1:=Kept.dM ki gr2 (fun j hj=>(Row.bC jW hj).1);exact⟨e1,g1,i1,r1,ki,j1,m1,n1,r2,kn,fz.hs⟩
set_option maxHeartbeats 2000000 in
theorem KL{w:World}{a:Int}{ei pc:Nat}{Q:aN}{b:Bool}{kz:Int}
 (X:CX w F cb m FR rb xr k G y xb A n cp E ne ce Pa pn) (C:Ag k G) (hD:G.D.length<=100) (hs:ei≠0->iz G.D G.P (G.eK y).gV y)
 (hQ:∀w',Kept Nil w w'->Q .normal [(0,.int .i64 a),(6,.bool b),(7,.pointer (some ⟨cb,0,none⟩)),(8,.pointer (some ⟨rb,0,none⟩)),(10,.int .i64 (i64.wrap ((ei:Int)+(1:Int))))] w'):
 ae.vd a b (some ⟨cb,0,none⟩) (some ⟨rb,0,none⟩) (ei:Int) ⟨xb,0,none⟩ Pa pn pc kz Q w:=by
 unfold ae.vd;by_cases he:ei=0
 ·subst he
  exact Split.yes rfl (hQ w (Kept.refl _ _))
 refine Split.no (by simpa using he) ?_
 replace hs:=hs he
 have H:=X.B.C.eo;have W:=H.W;generalize Za:(G.eK y).gV=s at hs;have Lr:=((eB.one (hs.par H.gV)).mem H.W).2;have Hj:=(ln H Lr).1;have Ql:=X.num.1;have pH:(cy G.D [s]).length<=G.D.length:=jK _ _;have C6:s.1.size=32:=s.2.1;intro w1;have k1:Kept Nil w w1:=(Kept.refl _ _).drew;clear_value w1;have X1:=X.same k1;have CS:∀ {v:World},CX v F cb m FR rb xr k G y xb A n cp E ne ce Pa pn->Cells v ((⟨xb,0,none⟩:Addr).add 0) s.1:=fun h=>by rw [<-Za];exact h.cs
 have CS':∀ {v:World},CX v F cb m FR rb xr k G y xb A n cp E ne ce Pa pn->∃cs:Array Value,(.agg s.1:Value)=.agg cs/\cs.size=32/\Cells v ((⟨xb,0,none⟩:Addr).add 0) cs:=fun h=>⟨_,rfl,C6,CS h⟩;refine Is.mk rfl ⟨_,X1.B.R.c1,Is.mk rfl ⟨s.1,⟨C6,CS X1⟩,s.1,⟨C6,CS X1⟩,A,n,cp,X1.Dc,⟨C6,?_⟩,⟨C6,?_⟩⟩⟩
 ·intro x
  have kx:Kept Nil w1 x:=(Kept.refl _ _).alloc _;have bx:HS x (some ⟨w1.heap.size,0,none⟩) 1 [s]:=iq w1 s;clear_value x;have Xx:=X1.same kx;have k0x:=k1.tt kx;refine⟨Xx.Dc,CS' Xx,Xx.B.R.c1,?_,C6,?_⟩
  ·refine mI Xx.B.R.X.gr W (by omega) bx (by omega) fun A2 c2 w2 r2 k2=>⟨A2,_,c2,rfl,(Xx.same k2).Dc,CS' (Xx.same k2),C6,?_⟩
   intro d1;have kd:Kept Nil w2 d1:=(Kept.refl _ _).alloc _;have bd:HS d1 (some ⟨w2.heap.size,0,none⟩) 1 [s]:=iq w2 s;clear_value d1;have k0d:=k2.tt kd;obtain⟨e1,g1,i1,q1,ki,j1,m1,n1,q2,kn,hP⟩:=uT Xx k0d (Row.aC r2 kd (fun _ _ h=>h)) bd (by omega) (by omega);exact⟨(Xx.same k0d).Dc,e1,_,g1,i1,q1,(Xx.same ki).Dc,j1,_,m1,n1,q2,rV rfl rfl rfl (Xx.same kn) C hD hs hP fun w' kw=>hQ w' ((k0x.tt kn).tt kw)⟩
  ·intro y1
   have ky:Kept Nil x y1:=(Kept.refl _ _).alloc _;have by1:HS y1 (some ⟨x.heap.size,0,none⟩) 1 [s]:=iq x s;clear_value y1;have Xy:=Xx.same ky;have k0y:=k0x.tt ky;refine⟨Xy.Dc,Xy.B.R.c1,?_⟩;refine mI Xy.B.R.X.gr W (by omega) (bx.same ky) (by omega) fun A2 c2 w2 r2 k2=>⟨A2,_,c2,rfl,(Xy.same k2).Dc,?_⟩;obtain⟨e1,g1,i1,q1,ki,j1,m1,n1,q2,kn,hP⟩:=uT Xy k2 r2 (by1.same k2) (by omega) (by omega);exact⟨e1,_,g1,i1,q1,(Xy.same ki).Dc,j1,_,m1,n1,q2,rV rfl rfl rfl (Xy.same kn) C hD hs hP fun w' kw=>hQ w' ((k0y.tt kn).tt kw)⟩
 ·intro y2
  have ky:Kept Nil w1 y2:=(Kept.refl _ _).alloc _;have by2:HS y2 (some ⟨w1.heap.size,0,none⟩) 1 [s]:=iq w1 s;clear_value y2;have Xy:=X1.same ky;refine⟨Xy.Dc,CS' Xy,Xy.B.R.c1,C6,?_⟩;intro z2;have kz:Kept Nil y2 z2:=(Kept.refl _ _).alloc _;have bz:HS z2 (some ⟨y2.heap.size,0,none⟩) 1 [s]:=iq y2 s;clear_value z2;have Xz:=Xy.same kz;have k0z:=(k1.tt ky).tt kz;refine⟨Xz.Dc,Xz.B.R.c1,?_⟩;refine mI Xz.B.R.X.gr W (by omega) bz (by omega) fun A2 c2 w2 r2 k2=>⟨A2,_,c2,rfl,(Xz.same k2).Dc,?_⟩;obtain⟨e1,g1,i1,q1,ki,j1,m1,n1,q2,kn,hP⟩:=uT Xz k2 r2 ((by2.same kz).same k2) (by omega) (by omega);exact⟨e1,_,g1,i1,q1,(Xz.same ki).Dc,j1,_,m1,n1,q2,rV rfl rfl rfl (Xz.same kn) C hD hs hP fun w' kw=>hQ w' ((k0z.tt kn).tt kw)⟩
end
section
variable{u w:World}{F FP:Nat->Prop}{cb:Nat}{m:CM}{FR:Nat->Prop}{rb xr k:Nat}{G:GS}{y:HT}{xb:Nat}{A:Option Addr}{n cp:Nat}{E:Option Addr}{ne ce:Nat}{K:Value->World->Prop}
set_option maxHeartbeats 2000000 in
theorem KM{w:World}{a:Int}{ei hb:Nat}{Wa:Option Addr}{wn wc:Nat}{Q:aN}{b:Bool}{mz:Int}
 (B:ji w F cb m FR rb xr k G) (hx:w.heap[xb]? =some (.cells (cF (G.eK y) A n cp E ne ce) bf (0,0))) (mg:HS w A n (G.eK y).merge)
 (hh:w.heap[hb]? =some (.cells y.1 aj (0,0))) (C:Ag k G) (hD:G.D.length<=100) (hs:ei≠0->iz G.D G.P (G.eK y).gV y)
 (hQ:∀w',Kept Nil w w'->Q .normal [(0,.int .i64 a),(6,.bool b),(7,.pointer (some ⟨cb,0,none⟩)),(8,.pointer (some ⟨rb,0,none⟩)),(10,.int .i64 (i64.wrap ((ei:Int)+(1:Int))))] w'):
 ae.gY a b (some ⟨cb,0,none⟩) (some ⟨rb,0,none⟩) (ei:Int) ⟨hb,0,none⟩ Wa wn wc ⟨xb,0,none⟩ mz Q w:=by
 unfold ae.gY;have H:=B.C.eo;have W:=H.W;intro w1;have k1:Kept Nil w w1:=(Kept.refl _ _).drew;clear_value w1;refine Is.mk rfl ⟨_,(B.same k1).R.c1,Is.mk rfl ⟨y.1,⟨y.2.1,Cells.bC (k1.heap hh (fun h=>h))⟩,y.2.1,?_⟩⟩;intro w2;have y0:Kept Nil w1 w2:=(Kept.refl _ _).alloc _;have b2:HS w2 (some ⟨w1.heap.size,0,none⟩) 1 [y]:=iq w1 y;clear_value w2;have k2:=k1.tt y0;refine⟨(B.same k2).R.c1,?_⟩;have pH:(cy G.D [y]).length<=G.D.length:=jK _ _;refine mI (B.same k2).R.X.gr W (by omega) b2 (by omega) fun Pa pc w3 r3 k3=>⟨Pa,_,pc,rfl,?_⟩;have mh:=k2.tt k3;have X3:CX w3 F cb m FR rb xr k G y xb A n cp E ne ce Pa (cy G.D [y]).length:=⟨B.same mh,mh.heap hx (fun h=>h),mg.same mh,bQ.hs r3⟩;refine ae.yN (I:=fun s u=>∃t:Nat,s=(b,(t:Int))/\t<=(cy G.D [y]).length/\Kept Nil w3 u) (μ:=fun s _=>(((cy G.D [y]).length:Int)-s.2).toNat) (s:=(b,0)) ⟨0,rfl,Nat.zero_le _,Kept.refl _ _⟩ ?_;rintro⟨_,_⟩ u ⟨t,et,ht,ku⟩;cases et;unfold ae.B4;have Xu:=X3.same ku;refine Split.dec (fun cH=>?_) (fun fV=>?_)
 ·simp only at cH
  have Ly:t<(cy G.D [y]).length:=by omega
  obtain⟨z,hz⟩:=Xu.ps.get_mem Ly;have P8:=List.mem_of_getElem? hz;have NO:eB G.D z y:=by
   have:=(iw.1 P8).2;simpa using this
  have Sc:=(NO.mem W).1;refine Xu.ps.load (i:=(t:Int)) (x:=z) (by omega) (by rw [Int.toNat_natCast];exact hz) ?_;refine wE Xu.B.C (by omega) Sc fun A5 n5 c5 E5 e5 d5 w5 _ _ _ k5=>⟨_,_,rfl,?_⟩;intro w6;have k6:Kept Nil w5 w6:=(Kept.refl _ _).alloc _;have GW:w6.heap[w5.heap.size]? =some (.cells zC bf (0,0)):=aJ w5 _;clear_value w6;obtain⟨t1,t2,t3⟩:=dT GW (cs:=cF (G.eK z) A5 n5 c5 E5 e5 d5) (by rw [aX];rfl);refine⟨⟨aX ..,dP _ _ _ _ _ _ _,fun j hj=>t1 j (by rw [aX];exact hj)⟩,?_⟩;intro w7
  replace t2:w7.heap[w5.heap.size]? =some (.cells (cF (G.eK z) A5 n5 c5 E5 e5 d5) bf (0,0)):=t2
  replace t3:Kept (· =w5.heap.size) w6 w7:=t3
  clear_value w7;have CA:Kept Nil w5 w7:=k6.trans t3 (fun j hj e=>by omega);have vt:=ku.tt (k5.tt CA);refine Split.no rfl ⟨((G.eK z).score:Int),?_,((G.eK y).score:Int),(X3.same vt).Px,?_⟩
  ·have:=(dJ (G.eK z) A5 n5 c5 E5 e5 d5 #[]).1
   rw [Array.append_empty]at this;rw [a8,ay t2];exact this
  ·have Bb:(G.eK z).score<(G.eK y).score:=ry C H NO
   refine Split.dec (fun h=>by exfalso;omega) (fun _=>?_);simp only;rw [dq (n:=(t:Int)) (by omega) (by omega)];exact⟨(b,(t:Int)+1),rfl,⟨t+1,rfl,Ly,vt⟩,by simp only;omega⟩
 ·rw [aP,ae.Ai]
  exact KL Xu C hD hs fun w' kw=>hQ w' ((mh.tt ku).tt kw)
set_option maxHeartbeats 2000000 in
theorem KK{w:World}{ei hb:Nat}{Wa:Option Addr}{wn wc:Nat}{wl:List HT}{Q:aN}{b:Bool}
 (B:ji w F cb m FR rb xr k G) (hD:G.D.length<=100) (hw:HS w Wa wn wl) (hwn:wn<=1000) (hf:∀z∈wl,(wl.filter fun v=>decide (jS G.D z v)).length<=k)
 (hQ:∀w' mz,Kept Nil w w'->ae.gY (k:Int) b (some ⟨cb,0,none⟩) (some ⟨rb,0,none⟩) (ei:Int) ⟨hb,0,none⟩ Wa wn wc ⟨xb,0,none⟩ mz Q w'):
 Holds none [] prog 209 (.loop (lB (bB (sR (sL (sR (sR (sR (sR (bB (sL (sR (lB (bB (sR (sL (sR (sR (sR (sR (body Tryz.f5))))))))))))))))))))) (ae.q2 Q) (ae.e2 (k:Int) (some ⟨cb,0,none⟩) (some ⟨rb,0,none⟩) (ei:Int) ⟨hb,0,none⟩ Wa wn wc ⟨xb,0,none⟩ (b,0)) w:=by
 have H:=B.C.eo;have Wl:=hw.len;refine ae.gz (I:=fun s u=>∃t:Nat,s=(b,(t:Int))/\t<=wn/\Kept Nil w u) (μ:=fun s _=>((wn:Int)-s.2).toNat) (s:=(b,0)) ⟨0,rfl,Nat.zero_le _,Kept.refl _ _⟩ ?_;rintro⟨_,_⟩ u ⟨t,et,ht,ku⟩;cases et;unfold ae.B2;refine Split.dec (fun cH=>?_) (fun fV=>?_)
 ·simp only at cH
  have Ly:t<wn:=by omega
  obtain⟨z,hz⟩:=hw.get_mem Ly;have P8:=List.mem_of_getElem? hz;refine ae.qL (I:=fun s v=>∃q:Nat,s=((((wl.take q).filter fun v=>decide (jS G.D z v)).length:Int),(q:Int))/\q<=wn/\Kept Nil w v) (μ:=fun s _=>((wn:Int)-s.2).toNat) (s:=(0,0)) ⟨0,rfl,Nat.zero_le _,ku⟩ ?_;rintro⟨_,_⟩ v ⟨q,eq,hq,kv⟩;cases eq;unfold ae.B3;refine Split.dec (fun Ka=>?_) (fun Kh=>?_)
  ·simp only at Ka
   have SI:q<wn:=by omega
   obtain⟨o,ho⟩:=hw.get_mem SI;have qh:((wl.take q).filter fun v=>decide (jS G.D z v)).length<=q:=by
    refine Nat.le_trans (List.length_filter_le _ _) ?_;rw [List.length_take];omega
   intro w5;have k5:Kept Nil v w5:=(Kept.refl _ _).drew;clear_value w5;have pG:=kv.tt k5;have B5:=B.same pG;refine Is.mk rfl ⟨_,B5.R.c1,Is.mk rfl ((hw.same pG).load (i:=(t:Int)) (x:=z) (by omega) (by rw [Int.toNat_natCast];exact hz) ((hw.same pG).load (i:=(q:Int)) (x:=o) (by omega) (by rw [Int.toNat_natCast];exact ho) ?_))⟩;refine rD B5.R.X.gr H.W (by omega) z o fun w6 b6 nM k6=>⟨b6,rfl,?_⟩;have mM:=pG.tt k6;have et:wl.take (q+1)=wl.take q++ [o]:=by rw [List.take_add_one,ho];rfl
   refine Split.mk (fun h1=>?_) (fun h1=>?_)
   ·have ha:jS G.D z o:=nM.1 h1
    simp only;rw [dq (n:=(q:Int)) (by omega) (by omega),dq (n:=((((wl.take q).filter fun v=>decide (jS G.D z v)).length:Nat):Int)) (by omega) (by omega)];refine⟨((((wl.take q).filter fun v=>decide (jS G.D z v)).length:Int)+1,(q:Int)+1),rfl,⟨q+1,?_,SI,mM⟩,by simp only;omega⟩;rw [et,List.filter_append,List.length_append];simp [ha]
   ·have ha:¬jS G.D z o:=fun e=>by rw [nM.2 e]at h1;cases h1
    simp only;rw [dq (n:=(q:Int)) (by omega) (by omega)];refine⟨((((wl.take q).filter fun v=>decide (jS G.D z v)).length:Int),(q:Int)+1),rfl,⟨q+1,?_,SI,mM⟩,by simp only;omega⟩;rw [et,List.filter_append,List.length_append];simp [ha]
  ·simp only at Kh
   have SJ:q=wn:=by omega
   subst SJ;rw [aP,ae.wO];unfold ae.se;have Wz:=hf z P8;rw [List.take_of_length_le (by omega)];refine Split.dec (fun h=>by exfalso;omega) (fun _=>?_);simp only;rw [dq (n:=(t:Int)) (by omega) (by omega)];exact⟨(b,(t:Int)+1),rfl,⟨t+1,rfl,Ly,kv⟩,by simp only;omega⟩
 ·rw [aP,ae.jB]
  exact hQ u _ ku
set_option maxHeartbeats 2000000 in
theorem ES{A:Option Addr}{n cx:Nat}{l:List DN}(hl:NS w FP A n l)(hn:n<9223372036854775808)(k:Int)(root:HT)(hT:tc w)(hK:∀w',Kept Nil w w'->K (.bool true) w'):
 bk prog ae.id #[.int .i64 k,.agg root.1,.slice A n cx] w K:=by
 have hlen:=hl.len;refine ae.of ?_;unfold ae.W;intro w1;have k1:Kept Nil w w1:=(Kept.refl _ _).alloc _;have kQ:w1.heap[w.heap.size]? =some (.cells root.1 aj (0,0)):=aJ w _;clear_value w1;have kn:∀ {v:World},Kept Nil w v->bk prog gA.id #[] v fun v3 w_4=>∃t:Bool,v3=.bool t/\K (.bool t) w_4:=fun k=>AQ (hT.same k) fun w4 k4=>⟨true,rfl,hK w4 (k.tt k4)⟩;refine Split.dec (fun _=>kn k1) (fun IF=>Split.dec (fun _=>kn k1) (fun mE=>?_));refine KE (hl.same k1) hn 20 fun b hb=>⟨b,rfl,?_⟩;cases b with
 |false=>exact Split.yes rfl (kn k1)
 |true=>
 obtain⟨oP,hll⟩:=hb.1 rfl;obtain⟨k,rfl⟩:∃k':Nat,k=(k':Int):=⟨k.toNat,by omega⟩;refine Split.no rfl ⟨root.1,⟨root.2.1,Cells.bC kQ⟩,?_⟩;refine BR (hl.same k1) (by omega) (fun nd eQ=>by have:=oP nd eQ;omega) root (by omega) (hT.same k1) fun w2 F c m FR r x B k2 _=>⟨_,_,true,rfl,Split.no rfl ?_⟩;have WR:=BO k root l;have Cl:=EX k root l;generalize xD k root l=G at B WR Cl;have og:=k1.tt k2;have H:=B.C.eo;have W:=H.W;refine ae.cf (I:=fun s v=>∃i:Nat,s=(false,(i:Int))/\i<=G.D.length/\Kept Nil w2 v) (μ:=fun s _=>((G.D.length:Int)-s.2).toNat) (s:=(false,0)) ⟨0,rfl,Nat.zero_le _,Kept.refl _ _⟩ ?_;rintro⟨_,_⟩ v ⟨i,ei,hi,kv⟩;cases ei;unfold ae.B1;have Bv:=B.same kv;obtain⟨A0,c0,q1,rh⟩:=Bv.R.graph;refine Is.mk rfl ⟨_,Bv.R.c1,Is.mk rfl ⟨A0,_,c0,q1,Split.dec (fun cH=>?_) (fun fV=>?_)⟩⟩
 ·simp only at cH
  have dQ:i<G.D.length:=by omega
  obtain⟨nd,eQ⟩:∃nd,G.D[i]? =some nd:=⟨_,List.getElem?_eq_getElem dQ⟩;obtain⟨OX,ag1,fF⟩:=M1 H eQ;refine Is.mk rfl ⟨_,Bv.R.c1,Is.mk rfl ⟨A0,_,c0,q1,rh.id (i:=(i:Int)) (by omega) (by rw [Int.toNat_natCast];exact eQ) ?_⟩⟩;intro w3;obtain⟨qR,iD,iH⟩:=gg (w:=v) (z:=dO.1) (cs:=nd.id.1) (t:=aj) (by rw [nd.id.2.1];rfl);refine⟨⟨nd.id.2.1,nd.id.2.one,fun j hj=>qR j (by rw [nd.id.2.1];exact hj)⟩,?_⟩;intro w4
  replace iD:w4.heap[v.heap.size]? =some (.cells nd.id.1 aj (0,0)):=iD
  replace iH:Kept Nil v w4:=iH
  clear_value w4;have oe:=kv.tt iH;refine⟨nd.id.1,⟨nd.id.2.1,Cells.bC iD⟩,?_⟩;refine zu (B.same oe).C (by omega) fF fun A8 c8 w8 r8 k8=>⟨A8,_,c8,0,rfl,?_⟩;have P0:=oe.tt k8;have Kp:=k8.heap iD (fun h=>h);refine⟨nd.id.1,⟨nd.id.2.1,Cells.bC Kp⟩,?_⟩;refine wE (B.same P0).C (by omega) fF fun A5 n5 c5 E5 e5 d5 w5 r5 b5 _ k5=>⟨_,_,rfl,?_⟩;have yT:=P0.tt k5;intro w6;have k6:Kept Nil w5 w6:=(Kept.refl _ _).alloc _;have GW:w6.heap[w5.heap.size]? =some (.cells zC bf (0,0)):=aJ w5 _;clear_value w6;obtain⟨t1,t2,t3⟩:=dT GW (cs:=cF (G.eK nd.id) A5 n5 c5 E5 e5 d5) (by rw [aX];rfl);refine⟨⟨aX ..,dP _ _ _ _ _ _ _,fun j hj=>t1 j (by rw [aX];exact hj)⟩,?_⟩;intro w7
  replace t2:w7.heap[w5.heap.size]? =some (.cells (cF (G.eK nd.id) A5 n5 c5 E5 e5 d5) bf (0,0)):=t2
  replace t3:Kept (· =w5.heap.size) w6 w7:=t3
  clear_value w7;have CA:Kept Nil w5 w7:=k6.trans t3 (fun j hj e=>by omega);have Ys:=k5.tt CA;have kv7:=P0.tt Ys;refine Split.no rfl (Split.no rfl ?_);have Wl:=pe H fF;have z6:=me (G.world nd.id);refine KK (B.same kv7) (by omega) ((bQ.hs r8).same Ys) (by omega) (fun z hz=>HP Cl H fF hz) fun w9 mz k9=>?_;have RD:=kv7.tt k9;refine KM (B.same RD) (k9.heap t2 (fun h=>h)) ((bQ.hs r5).same (CA.tt k9)) ((Ys.tt k9).heap Kp (fun h=>h)) Cl (by omega) (fun hi0=>?_) (fun w10 ny=>?_)
  ·obtain⟨pz,Fo⟩:∃pz,G.P[i]? =some pz:=⟨_,List.getElem?_eq_getElem (by rw [H.gV.len];exact dQ)⟩
   obtain⟨j2,m2,rfl,_,Fq,OF⟩:=H.gV.up i pz nd (by omega) Fo eQ;exact FW H ⟨nd,List.mem_of_getElem? eQ,rfl,OF⟩
  ·rw [dq (n:=(i:Int)) (by omega) (by omega)]
   exact⟨(false,(i:Int)+1),rfl,⟨i+1,rfl,dQ,RD.tt ny⟩,by simp only;omega⟩
 ·rw [aP,ae.dh]
  exact kn (og.tt kv)
end
end Go.Proofs.YtnboahlopghcjaaGreatDoor
