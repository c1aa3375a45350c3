import Derived.Test.YtnboahlopghcjaaGreatDoorMU
import Derived.Test.YtnboahlopghcjaaGreatDoorMN
import Derived.Test.YtnboahlopghcjaaGreatDoorMJ
open Go.IntKind (i64 u64)
set_option linter.unusedVariables false
namespace Go.Proofs.YtnboahlopghcjaaGreatDoor
open Go.Proofs.Tryz
open Go Go.bT Go.RowKit
def aeS(l:List DN)(Lr:Nat):Prop:=(∀nd∈l,nd.ps.length<=6)/\l.length<=Lr
noncomputable def ik(k:Nat)(G:GS)(id:HT)(l:List HT):oC:=if du G.D id l=0 then cR k G (b9 G l) l else⟨dG,0,[],[]⟩
noncomputable def oa(k:Nat)(root:HT)(l:List DN):GS:=l.foldl (fun G s=>cU k G s.id s.ps) (de root)
theorem AU(k:Nat)(G:GS)(h:HT)(l:List HT):(cU k G h l).D.length<=G.D.length+1:=by
 rw [sX];unfold mn;split<;>simp
theorem nh(k:Nat):∀(l:List DN) (G:GS),(l.foldl (fun G s=>cU k G s.id s.ps) G).D.length<=G.D.length+l.length
 | [],_=>by simp
 |s::l,G=>by
  have h1:=nh k l (cU k G s.id s.ps);have h2:=AU k G s.id s.ps;rw [List.foldl_cons,List.length_cons];omega
theorem qM(k:Nat)(root:HT)(l:List DN):(oa k root l).D.length<=1+l.length:=nh k l (de root)
theorem qJ{k:Nat}{G:GS}{l:List DN}{i:Nat}{s:DN}(h:l[i]? =some s):(l.take (i+1)).foldl (fun G s=>cU k G s.id s.ps) G=cU k ((l.take i).foldl (fun G s=>cU k G s.id s.ps) G) s.id s.ps:=by
 rw [List.take_add_one,h];simp
section
variable{w w' v:World}{S F FP FR:Nat->Prop}{c r x k:Nat}{G:GS}{m:CM}{K:Value->World->Prop}
theorem yn{A:Option Addr}{n cx:Nat}{l:List DN}(hl:NS w FP A n l)(hn:n<9223372036854775808)(Lr:Nat)(hK:∀x:Bool,(x=true↔aeS l Lr)->K (.bool x) w):
 bj prog ct.id #[.slice A n cx,.int .i64 (Lr:Int)] w K:=by
 have hlen:=hl.len;refine ct.of (ct.b6 (I:=fun s w'=>w'=w/\∃i:Nat,s=(false,(i:Int))/\i<=n/\∀nd∈l.take i,nd.ps.length<=6) (μ:=fun s _=>((n:Int)-s.2).toNat) (s:=(false,0)) ⟨rfl,0,rfl,Nat.zero_le _,by simp⟩ ?_);rintro s w' ⟨rfl,i,rfl,hi,cZ⟩;refine Split.dec (fun jc=>?_) (fun gq=>?_)
 ·simp only at jc
  have dQ:i<n:=by omega
  obtain⟨nd,dW⟩:∃nd,l[i]? =some nd:=⟨_,List.getElem?_eq_getElem (by omega)⟩;refine hl.ps (i:=(i:Int)) (by omega) (by rw [Int.toNat_natCast];exact dW) fun pA pn pc o8 _=>?_;have qk:=o8.len;refine Split.dec (fun xf=>?_) (fun hle=>?_)
  ·refine hK false ⟨(fun h=>by cases h),fun h=>?_⟩
   have:=h.1 nd (List.mem_of_getElem? dW);omega
  ·simp only
   rw [gZ (x:=(i:Int)+1) (by omega) (by omega)];refine⟨(false,(i:Int)+1),rfl,⟨rfl,i+1,rfl,dQ,fun md hm=>?_⟩,by simp only;omega⟩;rw [List.take_add_one,dW]at hm;simp only [Option.toList_some,List.mem_append,List.mem_singleton]at hm;rcases hm with hm|rfl
   ·exact cZ md hm
   ·omega
 ·simp only at gq
  rw [aP,ct.cX];rw [List.take_of_length_le (by omega)]at cZ;refine hK _ ⟨fun h=>⟨cZ,?_⟩,fun h=>decide_eq_true ?_⟩
  ·have:=of_decide_eq_true h;omega
  ·have:=h.2;omega
theorem kl(h:CV w F c k G m)(hT:rZ w)(KK:¬m.SX (Tryz.jt.g 1))(hD:G.D.length<=49)(nW:k<=1000){A:Option Addr}{n cx:Nat}{l:List HT}(DZ:HS w A n l)(hn:n<=5000)(id:HT)
 (hK:∀w' F' m' A n c1 B e c2,CV w' F' c k (cU k G id l) m'->m'.x=m.x->Kept (m.own c) w w'->(∀j,m'.own c j->m.own c j\/w.heap.size<=j)->(∀j,F' j->F j\/w.heap.size<=j)->
   bL w' w.heap.size A n c1 (ik k G id l).merge->Row w' w.heap.size gh 1 B e c2 (oB (ik k G id l).dR)->(∀j,aW A=some j->aW B≠some j)->(∀j,aW A=some j\/aW B=some j->¬m'.own c j/\¬F' j)->
   K (.tuple #[.agg (cF (ik k G id l) A n c1 B e c2),.int .i64 (du G.D id l)]) w'):
 bj prog di.id #[.pointer (some ⟨c,0,none⟩),.agg id.1,.slice A n cx] w K:=by
 refine Gj h hT KK hD nW DZ hn id (fun he w' k'=>?_) (fun he w' F' m' A n c1 B e c2 h1 h2 h3 h4 h5 h6 h7 h8 h9=>?_)
 ·have e1:ik k G id l=⟨dG,0,[],[]⟩:=if_neg he
  have:=hK w' F m none 0 0 none 0 0 (by rw [ue he];exact h.same k') rfl (k'.mono fun _ _ h=>h.elim) (fun j h=>.inl h) (fun j h=>.inl h) (by rw [e1];exact bL.nil _ _) (by rw [e1];exact Row.nil _ _ _ _) (fun j hj=>(by cases hj)) (fun j hj=>by rcases hj with hj|hj<;>cases hj);rw [e1]at this;exact this
 ·have e1:ik k G id l=cR k G (b9 G l) l:=if_pos he
  have:=hK w' F' m' A n c1 B e c2 h1 h2 h3 h4 h5 (by rw [e1];exact h6) (by rw [e1];exact h7) h8 h9;rw [e1,he]at this;exact this
theorem uA(h:R3 w F r x k G)(hD:G.D.length<=300)(nW:k<=1000){A:Option Addr}{n cx:Nat}{l:List HT}(hl:HS w A n l)(hn:n<=5000)(id:HT)
 (hK:∀w' A n c B e ce,R3 w' (fun j=>F j\/(w.heap.size<=j/\j<w'.heap.size)) r x k (cU k G id l)->Kept (fun j=>j=r\/j=x) w w'->HS w' A n (ik k G id l).merge->Bo w' B e (ik k G id l).dR->(∀a,A=some a\/B=some a->w.heap.size<=a.block)->K (.tuple #[.agg (cF (ik k G id l) A n c B e ce),.int .i64 (du G.D id l)]) w'):
 bj prog dE.id #[.pointer (some ⟨r,0,none⟩),.agg id.1,.slice A n cx] w K:=by
 have ZB:=h.lt;have OB:=h.lx;refine xO h hD nW hl hn id (fun he w' k'=>?_) (fun he w' A n c B e ce h1 h2 h3 h4 h5=>?_)
 ·have e1:ik k G id l=⟨dG,0,[],[]⟩:=if_neg he
  have h':=h.same k';have hs:=k'.size;obtain⟨A1,c1,B1,Yx,g1,g2,g3⟩:=h'.top;have:=hK w' none 0 0 none 0 0 (by
   rw [ue he];exact⟨⟨A1,c1,B1,Yx,g1,g2.mono (fun j hj=>.inl hj),g3.mono (fun j hj=>.inl hj)⟩,h'.X.mono (fun j hj=>.inl hj) (fun e=>e.elim h.X.hU (fun e=>by omega)),fun e=>e.elim h.hU (fun e=>by omega),h.ne,h.fG,fun j e=>e.elim (h'.lo j) (fun e=>e.2)⟩) (k'.mono fun _ _ h=>h.elim) (by rw [e1];exact HS.nil _ _) (by rw [e1];exact⟨rfl,fun i b hi=>by simp at hi⟩) (fun a ha=>by rcases ha with ha|ha<;>cases ha)
  rw [e1]at this;exact this
 ·have e1:ik k G id l=cR k G (b9 G l) l:=if_pos he
  have:=hK w' A n c B e ce h1 h2 (by rw [e1];exact h3) (by rw [e1];exact h4) h5;rw [e1,he]at this;exact this
structure jI(w:World)(F:Nat->Prop)(c:Nat)(m:CM)(FR:Nat->Prop)(r x k:Nat)(G:GS):Prop where
 C:CV w F c k G m
 R:R3 w FR r x k G
 rS:∀j,j=r\/j=x->¬m.own c j/\¬F j
 fS:∀j,FR j->¬m.own c j
theorem jI.az{S0:Nat->Prop}(B:jI w F c m FR r x k G)(hk:Kept S0 w w')(h1:∀j,m.own c j\/F j\/FR j\/j=r\/j=x->¬S0 j):jI w' F c m FR r x k G:=
 ⟨B.C.az hk (fun j e=>h1 j (.inl e)) (fun j e=>h1 j (.inr (.inl e))),B.R.az hk (h1 _ (.inr (.inr (.inr (.inl rfl))))) (h1 _ (.inr (.inr (.inr (.inr rfl))))) (fun j e=>h1 j (.inr (.inr (.inl e)))),B.rS,B.fS⟩
theorem jI.same(B:jI w F c m FR r x k G)(hk:Kept Nil w w'):jI w' F c m FR r x k G:=B.az hk (fun _ _ h=>h)
theorem jI.low(B:jI w F c m FR r x k G):∀j,m.own c j\/F j\/FR j\/j=r\/j=x->j<w.heap.size:=fun j e=>by
 rcases e with e|e|e|e|e
 ·exact B.C.low j (.inl e)
 ·exact B.C.low j (.inr e)
 ·exact B.R.lo j e
 ·rw [e];exact B.R.lt
 ·rw [e];exact B.R.lx
theorem jI.after{F':Nat->Prop}{m':CM}{G':GS}(B:jI w F c m FR r x k G)(kv:Kept (m.own c) w v)(h1:∀j,m'.own c j->m.own c j\/w.heap.size<=j)(h2:∀j,F' j->F j\/w.heap.size<=j)(hC:CV v F' c k G' m'){u:World}(Sy:Kept Nil v u):
 R3 u FR r x k G/\∀t,R3 t (fun j=>FR j\/(u.heap.size<=j/\j<t.heap.size)) r x k G'->Kept (fun j=>j=r\/j=x) u t->jI t F' c m' (fun j=>FR j\/(u.heap.size<=j/\j<t.heap.size)) r x k G':=by
 have hr:=B.R.lt;have hx:=B.R.lx;have nr:∀j,j=r\/j=x->¬m'.own c j/\¬F' j:=fun j hj=>by
  have cH:j<w.heap.size:=by rcases hj with rfl|rfl;exact hr;exact hx
  refine⟨fun e=>?_,fun e=>?_⟩
  ·rcases h1 j e with e|e
   ·exact(B.rS j hj).1 e
   ·omega
  ·rcases h2 j e with e|e
   ·exact(B.rS j hj).2 e
   ·omega
 refine⟨(B.R.az kv (fun e=>(B.rS r (.inl rfl)).1 e) (fun e=>(B.rS x (.inr rfl)).1 e) B.fS).same Sy,fun t hR kt=>⟨?_,hR,nr,fun j hj e=>?_⟩⟩
 ·exact(hC.same Sy).az kt (fun j e e'=>(nr j e').1 e) (fun j e e'=>(nr j e').2 e)
 ·have mi:=hC.low j (.inl e)
  have:=Sy.size;rcases hj with hj|hj
  ·rcases h1 j e with e|e
   ·exact B.fS j hj e
   ·have:=B.R.lo j hj;omega
  ·omega
end
section
variable{w w' v:World}{S F FP FR:Nat->Prop}{c r x k:Nat}{G:GS}{m:CM}{K:Value->World->Prop}
set_option maxHeartbeats 2000000 in
theorem qN{A:Option Addr}{n cx:Nat}{l:List DN}(hl:NS w FP A n l)(hn:n<=40)(o8:∀nd∈l,nd.ps.length<=1000)(root:HT)(nW:k<=100)(hT:rZ w)
 (hK:∀v F c m FR r x,jI v F c m FR r x k (oa k root l)->Kept Nil w v->(∀j,m.own c j\/F j\/FR j\/j=r\/j=x->w.heap.size<=j)->K (.tuple #[.pointer (some ⟨c,0,none⟩),.pointer (some ⟨r,0,none⟩),.bool true]) v):
 bj prog aG.id #[.int .i64 (k:Int),.agg root.1,.slice A n cx] w K:=by
 have hlen:=hl.len;refine aG.of ?_;unfold aG.W;intro w1;have k1:Kept Nil w w1:=(Kept.refl _ _).alloc _;have yI:w1.heap[w.heap.size]? =some (.cells root.1 aj (0,0)):=aH w _;clear_value w1;refine⟨root.1,⟨root.2.1,Cells.bz yI⟩,?_⟩;refine ij root nW fun w2 c q m C hm hq k2=>⟨_,_,rfl,Split.no rfl (Split.no rfl ⟨root.1,⟨root.2.1,Cells.bz (k2.heap yI (fun h=>h))⟩,?_⟩)⟩;refine xN root k fun w3 r x FR R hFR hr hx k3=>⟨_,rfl,?_⟩;have s1:=k1.size;have s2:=k2.size;have nV:=(k1.tt k2).tt k3;have B0:jI w3 (· =q) c m FR r x k (de root):=⟨C.same k3,R,fun j hj=>by
  have gq:w2.heap.size<=j:=by rcases hj with rfl|rfl;exact hr;exact hx
  exact⟨fun e=>by have:=C.low j (.inl e);omega,fun e=>by have:=C.low j (.inr e);omega⟩,fun j hj e=>by have:=hFR j hj;have:=C.low j (.inl e);omega⟩
 refine aG.b6 (I:=fun s v=>∃(i:Nat) (F:Nat->Prop) (m:CM) (FR:Nat->Prop),s=(none,none,false,(i:Int))/\i<=n/\jI v F c m FR r x k ((l.take i).foldl (fun G s=>cU k G s.id s.ps) (de root))/\Kept Nil w v/\∀j,m.own c j\/F j\/FR j\/j=r\/j=x->w.heap.size<=j) (μ:=fun s _=>((n:Int)-s.2.2.2).toNat) (s:=(none,none,false,0)) ⟨0,(· =q),m,FR,rfl,Nat.zero_le _,B0,nV,fun j e=>by
  rcases e with e|e|e|e|e
  ·have:=hm j e;omega
  ·have e:j=q:=e;omega
  ·have:=hFR j e;omega
  ·omega
  ·omega⟩ ?_
 clear B0 hFR hm C R hq k2 k3;rintro s v ⟨i,F,m,FR,rfl,hi,B,kv,Cv⟩;unfold aG.B1;refine Split.dec (fun cH=>?_) (fun gq=>?_)
 ·simp only at cH
  have dQ:i<n:=by omega
  obtain⟨nd,dW⟩:∃nd,l[i]? =some nd:=⟨_,List.getElem?_eq_getElem (by omega)⟩;have tL:l[((i:Nat):Int).toNat]? =some nd:=by rw [Int.toNat_natCast];exact dW
  have qk:=o8 nd (List.mem_of_getElem? dW);have Oe:=qJ (k:=k) (G:=de root) dW;have O2:=nh k (l.take i) (de root);rw [List.length_take]at O2;have hD1:(de root).D.length=1:=rfl;generalize hG:(l.take i).foldl (fun G s=>cU k G s.id s.ps) (de root)=G at B Oe O2;have hTl:=hT.lt;have mi:=B.low;have sv:=kv.size;have j2:∀ {u:World} {F' FR':Nat->Prop} {m':CM} {b1 b2:Nat} {A1 E1 A2 E2:Option Addr} {n1 p1 e1 q1 n2 p2 e2 q2:Nat},jI u F' c m' FR' r x k (cU k G nd.id nd.ps)->Kept Nil w u->(∀j,m'.own c j\/F' j\/FR' j\/j=r\/j=x->w.heap.size<=j)->
   u.heap[b1]? =some (.cells (cF (ik k G nd.id nd.ps) A1 n1 p1 E1 e1 q1) bg (0,0))->u.heap[b2]? =some (.cells (cF (ik k G nd.id nd.ps) A2 n2 p2 E2 e2 q2) bg (0,0))->HS u A1 n1 (ik k G nd.id nd.ps).merge->HS u A2 n2 (ik k G nd.id nd.ps).merge->Bo u E1 e1 (ik k G nd.id nd.ps).dR->Bo u E2 e2 (ik k G nd.id nd.ps).dR->n1<=100000->e1<=100000->
   aG.J2 A n cx none none false (some ⟨c,0,none⟩) (some ⟨r,0,none⟩) (i:Int) ⟨b1,0,none⟩ (du G.D nd.id nd.ps) ⟨b2,0,none⟩ (du G.D nd.id nd.ps) (bH (aG.e1 A n cx (some ⟨c,0,none⟩) (some ⟨r,0,none⟩)) (fun s v=>∃(i:Nat) (F:Nat->Prop) (m:CM) (FR:Nat->Prop),s=(none,none,false,(i:Int))/\i<=n/\jI v F c m FR r x k ((l.take i).foldl (fun G s=>cU k G s.id s.ps) (de root))/\Kept Nil w v/\∀j,m.own c j\/F j\/FR j\/j=r\/j=x->w.heap.size<=j) (fun s _=>((n:Int)-s.2.2.2).toNat) (none,none,false,(i:Int)) v (aG.q1 K)) u:=by
   intro u F' FR' m' b1 b2 A1 E1 A2 E2 n1 p1 e1 q1 n2 p2 e2 q2 B' ku adx h1 h2 g1 g2 g3 g4 g5 g6;unfold aG.J2;refine Split.no (by simp) ⟨_,⟨aS ..,Cells.bz h1⟩,_,⟨aS ..,Cells.bz h2⟩,?_⟩;refine xI g1 g2 g3 g4 g5 g6 fun t kt=>⟨true,rfl,Split.no rfl ?_⟩;rw [dw (n:=(i:Int)) (by omega) (by omega)];refine⟨(none,none,false,(i:Int)+1),rfl,⟨i+1,F',m',FR',rfl,dQ,?_,ku.tt kt,adx⟩,by simp only;omega⟩;rw [Oe];exact B'.same kt
  have j1:∀ {u u0:World} {F':Nat->Prop} {m':CM} {b1:Nat} {A1 E1:Option Addr} {n1 p1 e1 q1:Nat},CV u0 F' c k (cU k G nd.id nd.ps) m'->Kept (m.own c) v u0->(∀j,m'.own c j->m.own c j\/v.heap.size<=j)->(∀j,F' j->F j\/v.heap.size<=j)->Kept Nil u0 u->
   u.heap[b1]? =some (.cells (cF (ik k G nd.id nd.ps) A1 n1 p1 E1 e1 q1) bg (0,0))->v.heap.size<=b1->bL u v.heap.size A1 n1 p1 (ik k G nd.id nd.ps).merge->Row u v.heap.size gh 1 E1 e1 q1 (oB (ik k G nd.id nd.ps).dR)->
   aG.J1 A n cx none none false (some ⟨c,0,none⟩) (some ⟨r,0,none⟩) (i:Int) ⟨b1,0,none⟩ (du G.D nd.id nd.ps) (bH (aG.e1 A n cx (some ⟨c,0,none⟩) (some ⟨r,0,none⟩)) (fun s v=>∃(i:Nat) (F:Nat->Prop) (m:CM) (FR:Nat->Prop),s=(none,none,false,(i:Int))/\i<=n/\jI v F c m FR r x k ((l.take i).foldl (fun G s=>cU k G s.id s.ps) (de root))/\Kept Nil w v/\∀j,m.own c j\/F j\/FR j\/j=r\/j=x->w.heap.size<=j) (fun s _=>((n:Int)-s.2.2.2).toNat) (none,none,false,(i:Int)) v (aG.q1 K)) u:=by
   intro u u0 F' m' b1 A1 E1 n1 p1 e1 q1 hC k0 lM JH ku yI Vg rA rE;unfold aG.J1;have aba:Kept Nil w u0:=kv.trans k0 (fun j hj e=>by have:=Cv j (.inl e);omega);have Ly:Kept Nil w u:=aba.tt ku;have suv:=k0.size;have suu:=ku.size;intro u1;have zG:Kept Nil u u1:=(Kept.refl _ _).drew;clear_value u1;have FC:=Ly.tt zG;have s11:=zG.size;have Lq:n1<=100000/\e1<=100000:=by
    have Yx:=bL.len rA;have e2':=(Row.bo rE).len;have hG1:=hC.fG;by_cases hc:du G.D nd.id nd.ps=0
    ·have lf:ik k G nd.id nd.ps=(cU k G nd.id nd.ps).gR nd.id:=by
      rw [(nx B.C.fG hc).1];exact if_pos hc
     have ig:nd.id∈ids (cU k G nd.id nd.ps).D:=by rw [kW hc];simp [ids]
     obtain⟨z1,z2⟩:=xn hG1 ig;have:=AU k G nd.id nd.ps;rw [lf]at Yx e2';omega
    ·have lf:ik k G nd.id nd.ps=⟨dG,0,[],[]⟩:=if_neg hc
     rw [lf]at Yx e2';simp at Yx e2';omega
   have U7:∀ {t:World},Kept Nil w t->Cells t (((A.get!).add (((i:Nat):Int).toNat*33)).add 0) nd.id.1:=by
    intro t kt;obtain⟨a,pA,pn,pc,rfl,_,_,h4,_,_⟩:=(hl.az kt (fun _ _ h=>h)).at_ i nd dW;intro j z hj;rw [add_zero,Int.toNat_natCast];exact h4 j z (qZ hj)
   have ps1:∃a pA pn pc,A=some a/\HS w pA pn nd.ps/\∀ {t:World},Kept Nil w t->t.cell? ((a.add (((i:Nat):Int).toNat*33)).add 32)=some (.slice pA pn pc):=by
    obtain⟨a,pA,pn,pc,rfl,_,_,h4,h5,_⟩:=hl.at_ i nd dW;exact⟨a,pA,pn,pc,rfl,h5,fun kt=>by rw [Int.toNat_natCast];exact kt.cell (h4 32 _ (mT _ _)) (fun h=>h)⟩
   obtain⟨a,pA,pn,pc,rfl,Cn,qH⟩:=ps1;have I8:=Cn.len;have hb:0<=(i:Int)/\(i:Int)<(n:Int):=⟨by omega,by omega⟩;refine⟨hb,Is.mk rfl ⟨nd.id.1,⟨nd.id.2.1,U7 FC⟩,hb,Is.mk rfl ⟨pA,pn,pc,qH FC,?_,?_⟩⟩⟩
   ·obtain⟨hR,RH⟩:=B.after k0 lM JH hC (ku.tt zG)
    refine uA hR (by omega) (by omega) (Cn.same FC) (by omega) nd.id fun t A2 n2 p2 E2 e2 q2 hRt kt Mn mu RI=>⟨_,_,rfl,?_⟩;have B':=RH t hRt kt;have st:=kt.size;intro t1;have kt1:Kept Nil t t1:=(Kept.refl _ _).alloc _;have FT:t1.heap[t.heap.size]? =some (.cells zC bg (0,0)):=aH t _;clear_value t1;obtain⟨z1,z2,z3⟩:=dD FT (cs:=cF (ik k G nd.id nd.ps) A2 n2 p2 E2 e2 q2) (by rw [aS];rfl);refine⟨⟨aS ..,dt _ _ _ _ _ _ _,fun j hj=>z1 j (by rw [aS];exact hj)⟩,?_⟩;have LF:Kept Nil t (setCells t1 ⟨t.heap.size,0,none⟩ (cF (ik k G nd.id nd.ps) A2 n2 p2 E2 e2 q2).toList 0):=kt1.trans z3 (fun j hj e=>by omega);have Nt:∀j,v.heap.size<=j->¬(j=r\/j=x):=fun j hj e=>by have:=mi j (.inr (.inr (.inr e)));omega
    have UC:Kept (fun j=>j=r\/j=x) u _:=(zG.mono fun _ _ h=>h.elim).tt (kt.trans LF (fun _ _ h=>h.elim));refine aG.qj (j2 (B'.same LF) (FC.trans (kt.trans LF (fun _ _ h=>h.elim)) (fun j hj e=>by have:=Cv j (.inr (.inr (.inr e)));omega)) (fun j e=>?_) (UC.heap yI (Nt _ Vg)) z2 ((bL.hs rA).az UC (fun a ha=>Nt _ (Row.bz rA (k:=a.block) (by rw [ha];rfl)).1)) (Mn.same LF) ((Row.bo rE).az UC (fun a ha=>Nt _ (Row.bz rE (k:=a.block) (by rw [ha];rfl)).1)) (mu.same LF) Lq.1 Lq.2);rcases e with e|e|(e|e)|e
    ·rcases lM j e with e|e
     ·exact Cv j (.inl e)
     ·omega
    ·rcases JH j e with e|e
     ·exact Cv j (.inr (.inl e))
     ·omega
    ·exact Cv j (.inr (.inr (.inl e)))
    ·omega
    ·exact Cv j (.inr (.inr (.inr e)))
   ·intro u2
    have GO:Kept Nil u1 u2:=(Kept.refl _ _).alloc _;have NZ:u2.heap[u1.heap.size]? =some (.cells zC bg (0,0)):=aH u1 _;clear_value u2;have Lx:=FC.tt GO;have s22:=GO.size;refine⟨qH Lx,⟨_,rfl,nd.id.2.1,U7 Lx⟩,?_⟩;obtain⟨hR,RH⟩:=B.after k0 lM JH hC ((ku.tt zG).tt GO);refine uA hR (by omega) (by omega) (Cn.same Lx) (by omega) nd.id fun t A2 n2 p2 E2 e2 q2 hRt kt Mn mu RI=>⟨_,_,rfl,?_⟩;have B':=RH t hRt kt;have st:=kt.size;have Nt:∀j,v.heap.size<=j->¬(j=r\/j=x):=fun j hj e=>by have:=mi j (.inr (.inr (.inr e)));omega
    have hxt:=kt.heap NZ (Nt _ (by omega));obtain⟨z1,z2,z3⟩:=dD hxt (cs:=cF (ik k G nd.id nd.ps) A2 n2 p2 E2 e2 q2) (by rw [aS];rfl);refine⟨⟨aS ..,dt _ _ _ _ _ _ _,fun j hj=>z1 j (by rw [aS];exact hj)⟩,?_⟩;have lo0:∀j,m'.own c j\/F' j->j<u1.heap.size:=fun j e=>by have:=hC.low j e;omega
    have B2:jI (setCells t ⟨u1.heap.size,0,none⟩ (cF (ik k G nd.id nd.ps) A2 n2 p2 E2 e2 q2).toList 0) F' c m' (fun j=>FR j\/(u2.heap.size<=j/\j<t.heap.size)) r x k (cU k G nd.id nd.ps):=B'.az z3 (fun j e e'=>by
     have l1:=aO NZ;rcases e with e|e|(e|e)|e
     ·have:=lo0 j (.inl e);omega
     ·have:=lo0 j (.inr e);omega
     ·have:=B.R.lo j e;omega
     ·omega
     ·have:=mi j (.inr (.inr (.inr e)));omega)
    have UC:Kept (fun j=>j=r\/j=x) u t:=((zG.tt GO).mono fun _ _ h=>h.elim).tt kt;have P0:Kept (fun j=>j=r\/j=x) u _:=UC.trans z3 (fun j hj e=>by omega);refine aG.qj (j2 B2 ((Lx.trans kt (fun j hj e=>by have:=Cv j (.inr (.inr (.inr e)));omega)).trans z3 (fun j hj e=>by have:=FC.size;omega)) (fun j e=>?_) (P0.heap yI (Nt _ Vg)) z2 ((bL.hs rA).az P0 (fun a ha=>Nt _ (Row.bz rA (k:=a.block) (by rw [ha];rfl)).1)) (Mn.az z3 (fun a ha e=>by have:=RI a (.inl ha);have:=aO NZ;omega)) ((Row.bo rE).az P0 (fun a ha=>Nt _ (Row.bz rE (k:=a.block) (by rw [ha];rfl)).1)) (mu.az z3 (fun a ha e=>by have:=RI a (.inr ha);have:=aO NZ;omega)) Lq.1 Lq.2)
    ·rcases e with e|e|(e|e)|e
     ·rcases lM j e with e|e
      ·exact Cv j (.inl e)
      ·omega
     ·rcases JH j e with e|e
      ·exact Cv j (.inr (.inl e))
      ·omega
     ·exact Cv j (.inr (.inr (.inl e)))
     ·omega
     ·exact Cv j (.inr (.inr (.inr e)))
  intro w2;have k2:Kept Nil v w2:=(Kept.refl _ _).drew;clear_value w2;have Uv:=kv.tt k2;have sv2:=k2.size;have U7:∀ {t:World},Kept Nil w t->Cells t ((A.get!.add (((i:Nat):Int).toNat*33)).add 0) nd.id.1:=by
   intro t kt;obtain⟨a,pA,pn,pc,rfl,_,_,h4,_,_⟩:=(hl.az kt (fun _ _ h=>h)).at_ i nd dW;intro j z hj;rw [add_zero,Int.toNat_natCast];exact h4 j z (qZ hj)
  obtain⟨a,pA,pn,pc,hA,Cn,qH⟩:∃a pA pn pc,A=some a/\HS w pA pn nd.ps/\∀ {t:World},Kept Nil w t->t.cell? ((a.add (((i:Nat):Int).toNat*33)).add 32)=some (.slice pA pn pc):=by
   obtain⟨a,pA,pn,pc,hA,_,_,h4,h5,_⟩:=hl.at_ i nd dW;exact⟨a,pA,pn,pc,hA,h5,fun kt=>by rw [Int.toNat_natCast];exact kt.cell (h4 32 _ (mT _ _)) (fun h=>h)⟩
  subst hA;have I8:=Cn.len;have hb:0<=(i:Int)/\(i:Int)<(n:Int):=⟨by omega,by omega⟩;have KK:¬m.SX (Tryz.jt.g 1):=fun e=>by have:=Cv _ (.inl (.inl e));omega
  refine⟨hb,Is.mk rfl ⟨nd.id.1,⟨nd.id.2.1,U7 Uv⟩,hb,Is.mk rfl ⟨pA,pn,pc,qH Uv,?_,?_⟩⟩⟩
  ·refine kl (B.C.same k2) (hT.same Uv) KK (by omega) (by omega) (Cn.same Uv) (by omega) nd.id fun u F' m' A1 n1 p1 E1 e1 q1 hC _ ku lM JH rA rE _ _=>⟨_,_,rfl,?_⟩
   intro u1;have zG:Kept Nil u u1:=(Kept.refl _ _).alloc _;have FT:u1.heap[u.heap.size]? =some (.cells zC bg (0,0)):=aH u _;clear_value u1;obtain⟨z1,z2,z3⟩:=dD FT (cs:=cF (ik k G nd.id nd.ps) A1 n1 p1 E1 e1 q1) (by rw [aS];rfl);refine⟨⟨aS ..,dt _ _ _ _ _ _ _,fun j hj=>z1 j (by rw [aS];exact hj)⟩,?_⟩;have GO:Kept Nil u (setCells u1 ⟨u.heap.size,0,none⟩ (cF (ik k G nd.id nd.ps) A1 n1 p1 E1 e1 q1).toList 0):=zG.trans z3 (fun j hj e=>by omega);have su:=ku.size;refine aG.ox (j1 hC ((k2.mono fun _ _ h=>h.elim).tt ku) (fun j e=>(lM j e).imp (fun h=>h) (fun h=>by omega)) (fun j e=>(JH j e).imp (fun h=>h) (fun h=>by omega)) GO z2 (by omega) ?_ ?_)
   ·exact Row.base (Row.az rA GO (fun _ _ h=>h)) (fun j hj=>by have:=(Row.bz rA hj).1;omega)
   ·exact Row.base (Row.az rE GO (fun _ _ h=>h)) (fun j hj=>by have:=(Row.bz rE hj).1;omega)
  ·intro w3
   have k3:Kept Nil w2 w3:=(Kept.refl _ _).alloc _;have Cd:w3.heap[w2.heap.size]? =some (.cells zC bg (0,0)):=aH w2 _;clear_value w3;have Nz:=Uv.tt k3;have s23:=k3.size;have l3:=aO Cd;refine⟨qH Nz,⟨_,rfl,nd.id.2.1,U7 Nz⟩,?_⟩;refine kl (B.C.same (k2.tt k3)) (hT.same Nz) KK (by omega) (by omega) (Cn.same Nz) (by omega) nd.id fun u F' m' A1 n1 p1 E1 e1 q1 hC _ ku lM JH rA rE _ _=>⟨_,_,rfl,?_⟩;have su:=ku.size;have hxu:=ku.heap Cd (fun e=>by have:=mi _ (.inl e);omega);obtain⟨z1,z2,z3⟩:=dD hxu (cs:=cF (ik k G nd.id nd.ps) A1 n1 p1 E1 e1 q1) (by rw [aS];rfl);refine⟨⟨aS ..,dt _ _ _ _ _ _ _,fun j hj=>z1 j (by rw [aS];exact hj)⟩,?_⟩;have no1:∀j,m'.own c j->j≠w2.heap.size:=fun j e e'=>by
    rcases lM j e with e|e
    ·have:=mi j (.inl e);omega
    ·omega
   have no2:∀j,F' j->j≠w2.heap.size:=fun j e e'=>by
    rcases JH j e with e|e
    ·have:=mi j (.inr (.inl e));omega
    ·omega
   refine aG.ox (j1 (hC.az z3 no1 no2) ((((k2.tt k3).mono fun _ _ h=>h.elim).tt ku).trans z3 (fun j hj e=>by omega)) (fun j e=>(lM j e).imp (fun h=>h) (fun h=>by omega)) (fun j e=>(JH j e).imp (fun h=>h) (fun h=>by omega)) (Kept.refl _ _) z2 sv2 ?_ ?_)
   ·exact Row.base (Row.az rA z3 (fun j hj e=>by have:=(Row.bz rA hj).1;omega)) (fun j hj=>by have:=(Row.bz rA hj).1;omega)
   ·exact Row.base (Row.az rE z3 (fun j hj e=>by have:=(Row.bz rE hj).1;omega)) (fun j hj=>by have:=(Row.bz rE hj).1;omega)
 ·simp only at gq
  have:i=n:=by omega
  subst this;rw [aP,aG.cX];rw [List.take_of_length_le (by omega)]at B;exact hK v F c m FR r x B kv Cv
end
section
variable{k:Nat}{G:GS}{s:HT}
theorem zx(G:GS)(s:HT):cD G s [s]= []:=by
 rw [List.eq_nil_iff_forall_not_mem];intro h hm;obtain⟨h1,h2,h3⟩:=iV.1 hm;rcases h1 with⟨_,p,hp,ha⟩|h1
 ·rw [List.mem_singleton]at hp;subst hp;exact h3 ha
 ·rw [List.mem_singleton]at h1;exact h2 h1
theorem pD(k:Nat)(G:GS)(s:HT):cR k G s [s]=⟨s,G.score s+1,[],[]⟩/\(fF k G s [s]).wd=G.world s++ [s]:=by
 unfold cR fF;rw [zx];exact⟨rfl,rfl⟩
variable{r a b c:HT}(FZ:r≠a)(zY:r≠b)(Oi:r≠c)(lG:a≠b)(OY:a≠c)(JA:b≠c)
include FZ zY lG in
theorem kG2(k:Nat):∃G1 G2:GS,cU k (de r) a [r]=G1/\cU k G1 b [r]=G2/\du (de r).D a [r]=0/\du G1.D b [r]=0/\jr k G2/\G1.D= [⟨r,[]⟩,⟨a,[r]⟩]/\G2.D= [⟨r,[]⟩,⟨a,[r]⟩,⟨b,[r]⟩]/\G2.score a=1/\G2.score b=1/\G2.score r=0/\G2.world a= [r]/\G2.world b= [r]/\
 (∀x,fC G2.D x a↔x=r)/\(∀x,fC G2.D x b↔x=r)/\∀x,¬fC G2.D x r:=by
 have H0:=lS k r;have c1:du (de r).D a [r]=0:=(k1 FZ).1;have H1:=H0.add a [r];have D1:(cU k (de r) a [r]).D= [⟨r,[]⟩,⟨a,[r]⟩]:=by rw [sX];exact(k1 FZ).2
 obtain⟨r1,r2⟩:=H0.root ⟨r,[]⟩ rfl
 replace r1:(de r).gR r=_:=r1
 replace r2:(de r).world r=_:=r2
 have qG:r∈ids (de r).D:=by simp [de,ids]
 obtain⟨n1,n2⟩:=nx H0 c1;obtain⟨o1,o2⟩:=nv (h:=a) (ps:= [r]) H0 qG
 replace n1:(cU k (de r) a [r]).gR a=cR k (de r) r [r]:=n1
 replace n2:(cU k (de r) a [r]).world a=(fF k (de r) r [r]).wd:=n2
 rw [(pD k (de r) r).1]at n1;rw [(pD k (de r) r).2,r2]at n2;have sr:(de r).score r=0:=by unfold GS.score;rw [r1]
 rw [sr]at n1;rw [r1]at o1;rw [r2]at o2;generalize hG1:cU k (de r) a [r]=G1 at*;have c2:du G1.D b [r]=0:=by rw [D1];exact(k2 zY lG).1
 have D2:(cU k G1 b [r]).D= [⟨r,[]⟩,⟨a,[r]⟩,⟨b,[r]⟩]:=by rw [sX,D1];exact(k2 zY lG).2
 have H2:=H1.add b [r];obtain⟨p1,p2⟩:=nx H1 c2
 replace p1:(cU k G1 b [r]).gR b=cR k G1 r [r]:=p1
 replace p2:(cU k G1 b [r]).world b=(fF k G1 r [r]).wd:=p2
 rw [(pD k G1 r).1]at p1;rw [(pD k G1 r).2,o2]at p2;have sr1:G1.score r=0:=by unfold GS.score;rw [o1]
 rw [sr1]at p1;have lf:r∈ids G1.D:=by rw [D1];simp [ids]
 have Th:a∈ids G1.D:=by rw [D1];simp [ids]
 obtain⟨q1,_⟩:=nv (h:=b) (ps:= [r]) H1 lf;obtain⟨q3,q4⟩:=nv (h:=b) (ps:= [r]) H1 Th;have W2:=H2.W;have hr:∀x,¬fC (cU k G1 b [r]).D x r:=fun x h=>by
  obtain⟨p,hp,_⟩:=(ud W2 (i:=0) (nd:=⟨r,[]⟩) (by rw [D2];rfl) x).1 h;simp at hp
 have hx:∀(i:Nat) (y:HT),(cU k G1 b [r]).D[i]? =some ⟨y,[r]⟩->∀x,fC (cU k G1 b [r]).D x y↔x=r:=fun i y hi x=>by
  rw [ud W2 (i:=i) (nd:=⟨y,[r]⟩) hi x];constructor
  ·rintro⟨p,hp,e⟩
   rw [List.mem_singleton]at hp;subst hp;rcases e with e|e
   ·exact e
   ·exact absurd e (hr x)
  ·rintro rfl
   exact⟨x,by simp,.inl rfl⟩
 refine⟨G1,_,rfl,rfl,c1,c2,H2,D1,D2,?_,?_,?_,?_,p2,hx 1 a (by rw [D2];rfl),hx 2 b (by rw [D2];rfl),hr⟩
 ·unfold GS.score;rw [q3,n1]
 ·unfold GS.score;rw [p1]
 ·unfold GS.score;rw [q1,o1]
 ·rw [q4,n2];rfl
include FZ zY Oi lG OY JA in
theorem kG3(cH:cH b a=true){G1 G2:GS}(h1:cU 0 (de r) a [r]=G1)(h2:cU 0 G1 b [r]=G2):du G2.D c [a,b]=0/\ik 0 G2 c [a,b]=⟨a,2,[b],[false]⟩:=by
 obtain⟨G1',G2',e1,e2,_,_,H2,_,D2,sa,sb,_,wa,_,aa,ab,ar⟩:=kG2 FZ zY lG 0;rw [h1]at e1;subst e1;rw [h2]at e2;subst e2;have c3:du G2.D c [a,b]=0:=by rw [D2];exact(k3 Oi lG OY JA).1
 refine⟨c3,?_⟩;unfold ik;rw [if_pos c3];have Rh:gl G2 a b=false:=by
  unfold gl;rw [sa,sb];cases h:Go.Proofs.YtnboahlopghcjaaGreatDoor.cH a b
  ·rfl
  ·have:=jG h cH
   rw [gV]at this;cases this
 have mG:b9 G2 [a,b]=a:=by
  show(if gl G2 a b then b else a)=a;rw [Rh];rfl
 rw [mG];have hm:cD G2 a [a,b]= [b]:=by
  refine(sC (by simp [SO]) fun x=>?_).symm;rw [List.mem_singleton,uL];constructor
  ·rintro rfl
   exact⟨.inr (by simp),fun e=>lG e.symm,fun e=>zY ((aa x).1 e).symm⟩
  ·rintro⟨h|h,h3,h4⟩
   ·obtain⟨_,p,hp,hA⟩:=h
    simp at hp;rcases hp with rfl|rfl
    ·exact absurd hA h4
    ·exact absurd ((aa x).2 ((ab x).1 hA)) h4
   ·simp at h
    rcases h with h|h
    ·exact absurd h h3
    ·exact h
 have hb:oA 0 G2.D [r,a] b=false:=by
  unfold oA;rw [decide_eq_false_iff_not];rintro⟨h,_⟩;have:a∈bO G2.D [r,a] b:=fI.2 ⟨by simp,lG,fun e=>FZ ((ab a).1 e).symm,fun e=>zY ((aa b).1 e).symm⟩;have h0:bO G2.D [r,a] b= []:=List.eq_nil_of_length_eq_zero (by omega);rw [h0]at this;simp at this
 unfold cR fF;rw [hm,wa,sa];have hf: [b].foldl (om 0 G2.D) ⟨[r]++ [a],[]⟩=⟨[r,a],[false]⟩:=by
  show om 0 G2.D ⟨[r,a],[]⟩ b=_
  unfold om;rw [hb];rfl
 rw [hf];rfl
end
section
variable{w w':World}{K:Value->World->Prop}
set_option maxHeartbeats 1000000 in
theorem BT(hT:rZ w)(hK:∀w',Kept Nil w w'->K (.bool true) w'):bj prog gw.id #[] w K:=by
 let r:=hx 1 (by omega)
 let a:=hx 3 (by omega)
 let b:=hx 2 (by omega)
 let c:=hx 4 (by omega)
 have FZ:r≠a:=sK (by omega);have zY:r≠b:=sK (by omega);have Oi:r≠c:=sK (by omega);have lG:a≠b:=sK (by omega);have OY:a≠c:=sK (by omega);have JA:b≠c:=sK (by omega);have ac1:cH b a=true:=by decide
 refine gw.of ?_;unfold gw.W;intro w1 w2 w3 w4;obtain⟨⟨f1,f2,f3,f4⟩,hr,ha,hb,hc,l1,l2,l3,l4,k⟩:=four w r a b c;refine⟨⟨r.2.1,r.2.one,f1⟩,?_⟩;intro w7;refine⟨⟨a.2.1,a.2.one,f2⟩,?_⟩;intro w10;refine⟨⟨b.2.1,b.2.one,f3⟩,?_⟩;intro lh;refine⟨⟨c.2.1,c.2.one,f4⟩,?_⟩;intro jx
 replace hr:jx.heap[w.heap.size]? =some (.cells r.1 aj (0,0)):=hr
 replace ha:jx.heap[w1.heap.size]? =some (.cells a.1 aj (0,0)):=ha
 replace hb:jx.heap[w2.heap.size]? =some (.cells b.1 aj (0,0)):=hb
 replace hc:jx.heap[w3.heap.size]? =some (.cells c.1 aj (0,0)):=hc
 replace k:Kept Nil w jx:=k
 replace l1:w.heap.size<w1.heap.size:=l1
 replace l2:w1.heap.size<w2.heap.size:=l2
 replace l3:w2.heap.size<w3.heap.size:=l3
 replace l4:w3.heap.size<jx.heap.size:=l4
 clear f1 f2 f3 f4;clear_value jx;clear lh w10 w7;clear_value w3;clear w4;clear_value w2;clear_value w1;have hTl:=hT.lt;have Y8:=k.size;have box:∀ {u:World} {S:Nat->Prop},Kept S jx u->(∀k,S k->jx.heap.size<=k)->Cells u (⟨w.heap.size,0,none⟩:Addr) r.1/\Cells u (⟨w1.heap.size,0,none⟩:Addr) a.1/\Cells u (⟨w2.heap.size,0,none⟩:Addr) b.1/\Cells u (⟨w3.heap.size,0,none⟩:Addr) c.1:=fun ku hS=>
  ⟨Cells.bz (ku.heap hr (fun e=>by have:=hS _ e;omega)),Cells.bz (ku.heap ha (fun e=>by have:=hS _ e;omega)),Cells.bz (ku.heap hb (fun e=>by have:=hS _ e;omega)),Cells.bz (ku.heap hc (fun e=>by have:=hS _ e;omega))⟩
 obtain⟨G1,G2,e1,e2,c1,c2,H2,D1,D2,_⟩:=kG2 FZ zY lG 0;obtain⟨c3,hR⟩:=kG3 FZ zY Oi lG OY JA ac1 e1 e2;refine⟨r.1,⟨r.2.1,Cells.bz hr⟩,ij r (k:=0) (by omega) fun mP cc q m C hm hq sF=>⟨_,_,rfl,Split.no rfl (Split.no rfl ?_)⟩⟩;obtain⟨b1,b2,b3,b4⟩:=box sF (fun _ h=>h.elim);refine⟨a.1,⟨a.2.1,b2⟩,r.1,⟨r.2.1,b1⟩,r.2.1,?_⟩;intro lJ;have qh:Kept Nil mP lJ:=(Kept.refl _ _).alloc _;have MD:HS lJ (some ⟨mP.heap.size,0,none⟩) 1 [r]:=jA mP r;clear_value lJ;have BZ:=sF.tt qh;have Y7:=BZ.size;refine kl (C.same qh) (hT.same (k.tt BZ)) (fun e=>by have:=hm _ (.inl e);omega) (by simp [de]) (by omega) MD (by omega) a fun qp F2 m2 A2 n2 p2 E2 q2 z2 C2 _ FK Mn _ _ _ _ _=>⟨_,_,rfl,?_⟩;rw [e1]at C2;have om2:∀j,m2.own cc j->jx.heap.size<=j:=fun j e=>(Mn j e).elim (hm j) (fun h=>by omega);have NO:Kept (fun q=>jx.heap.size<=q) jx qp:=(BZ.mono (S':=fun q=>jx.heap.size<=q) (fun _ _ h=>h.elim)).trans FK (fun q _ h=>hm q h);obtain⟨b1,b2,b3,b4⟩:=box NO (fun _ h=>h);refine⟨b.1,⟨b.2.1,b3⟩,r.1,⟨r.2.1,b1⟩,r.2.1,?_⟩;intro ug;have zO:Kept Nil qp ug:=(Kept.refl _ _).alloc _;have MB:HS ug (some ⟨qp.heap.size,0,none⟩) 1 [r]:=jA qp r;clear_value ug;have IC:=NO.trans zO (fun _ _ h=>h.elim);have s31:=IC.size;refine kl (C2.same zO) ((hT.same k).az IC (fun e=>by omega)) (fun e=>by have:=om2 _ (.inl e);omega) (by rw [D1];simp) (by omega) MB (by omega) b fun nJ F3 m3 A3 n3 p3 E3 q3 z3 C3 _ wT hm3 _ _ _ _ _=>⟨_,_,rfl,?_⟩;rw [e2]at C3;have om3:∀j,m3.own cc j->jx.heap.size<=j:=fun j e=>(hm3 j e).elim (om2 j) (fun h=>by omega);have NN:Kept (fun q=>jx.heap.size<=q) jx nJ:=IC.trans wT (fun q _ h=>om2 q h)
 obtain⟨b1,b2,b3,b4⟩:=box NN (fun _ h=>h);refine⟨c.1,⟨c.2.1,b4⟩,a.1,⟨a.2.1,b2⟩,b.1,⟨b.2.1,b3⟩,a.2.1,b.2.1,?_⟩;intro GM;have It:Kept Nil nJ GM:=(Kept.refl _ _).alloc _;have MA:HS GM (some ⟨nJ.heap.size,0,none⟩) 2 [a,b]:=HS.lay (l:= [a,b]) (t:=aj) (aH nJ (.cells (df [a,b]).toArray aj));clear_value GM;have IB:=NN.trans It (fun _ _ h=>h.elim);have s39:=IB.size;refine kl (C3.same It) ((hT.same k).az IB (fun e=>by omega)) (fun e=>by have:=om3 _ (.inl e);omega) (by rw [D2];simp) (by omega) MA (by omega) c fun Df F4 m4 A4 n4 p4 E4 q4 z4 _ _ P7 _ _ rA rE _ _=>⟨_,_,rfl,?_⟩;rw [c3];rw [hR]at rA rE⊢;have NL:Kept (fun q=>jx.heap.size<=q) jx Df:=IB.trans P7 (fun q _ h=>om3 q h);have s41:=NL.size;intro Bd;have Iq:Kept Nil Df Bd:=(Kept.refl _ _).alloc _;have abM:Bd.heap[Df.heap.size]? =some (.cells zC bg (0,0)):=aH Df _;clear_value Bd;obtain⟨t1,t2,t3⟩:=dD abM (cs:=cF ⟨a,2,[b],[false]⟩ A4 n4 p4 E4 q4 z4) (by rw [aS];rfl);refine⟨⟨aS ..,dt _ _ _ _ _ _ _,fun j hj=>t1 j (by rw [aS];exact hj)⟩,?_⟩;intro Hl EA
 replace t2:Hl.heap[Df.heap.size]? =some (.cells (cF ⟨a,2,[b],[false]⟩ A4 n4 p4 E4 q4 z4) bg (0,0)):=t2
 replace t3:Kept (· =Df.heap.size) Bd Hl:=t3
 have P6:Kept Nil Hl EA:=(Kept.refl _ _).drew;clear_value EA;have ht:=P6.heap t2 (fun h=>h);have Ir:Kept Nil Df EA:=(Iq.trans t3 (fun j hj e=>by omega)).tt P6;clear_value Hl;have NK:=NL.trans Ir (fun _ _ h=>h.elim);obtain⟨b1,b2,b3,b4⟩:=box NK (fun _ h=>h);have g:=eW ⟨a,2,[b],[false]⟩ A4 n4 p4 E4 q4 z4 #[];rw [Array.append_empty]at g;have hn4:n4=1:=by have:=bL.len rA;simpa using this.symm
 have hq4:q4=1:=by have:=(Row.bo rE).len;simpa using this.symm
 subst hn4 hq4;have mg:=(bL.hs rA).same Ir;have bl:=(Row.bo rE).same Ir;have jX:Cells EA ((⟨Df.heap.size,0,none⟩:Addr).add 0) a.1:=fun j u hj=>by
  have cH:=(Array.getElem?_eq_some_iff.1 hj).1;rw [add_zero,a8,ay ht,Nat.zero_add];unfold cF;rw [Array.getElem?_append_left cH];exact hj
 refine Split.yes rfl ⟨a.1,⟨a.2.1,jX⟩,a.1,⟨a.2.1,b2⟩,⟨a.2.ints,a.2.ints⟩,?_⟩;rw [dL];refine Split.yes (decide_eq_true rfl) ⟨2,by rw [a8,ay ht];exact g.1,Split.yes rfl ⟨A4,1,p4,by rw [a8,ay ht];exact g.2.1,Split.yes rfl ⟨A4,1,p4,by rw [a8,ay ht];exact g.2.1,?_⟩⟩⟩;refine mg.load (i:=0) (by omega) rfl ⟨b.1,⟨b.2.1,b3⟩,⟨b.2.ints,b.2.ints⟩,?_⟩;rw [dL];obtain⟨aE,h1,_,h3⟩:=bl.at_ 0 false rfl;subst h1;refine Split.yes (decide_eq_true rfl) ⟨some aE,1,z4,by rw [a8,ay ht];exact g.2.2.1,Split.yes rfl ⟨some aE,1,z4,by rw [a8,ay ht];exact g.2.2.1,⟨by omega,by omega⟩,false,h3,?_⟩⟩;exact hK EA (k.trans NK (fun q hq e=>by omega))
end
section
variable{w w' v:World}{F FP FR:Nat->Prop}{c r x k:Nat}{G:GS}{m:CM}{K:Value->World->Prop}
theorem R3.graph(h:R3 w F r x k G):∃A c,w.cell? (((⟨x,0,none⟩:Addr).add 0).add 0)=some (.slice A G.D.length c)/\NS w F A G.D.length G.D:=by
 obtain⟨A,c,B,e,l,h1,h2,_⟩:=h.X.ex;exact⟨A,c,by rw [add_zero,add_zero,ay h1];rfl,h2⟩
theorem HQ(h:jr k G){i:Nat}{nd:DN}(hi:G.D[i]? =some nd):G.p8[i]? =some (G.gR nd.id)/\G.jh[i]? =some (G.world nd.id)/\nd.id∈ids G.D:=by
 have dQ:=(lgeS hi).1;obtain⟨c,hc⟩:∃c,G.p8[i]? =some c:=⟨_,List.getElem?_eq_getElem (by rw [h.lc];exact dQ)⟩;obtain⟨l,hl⟩:∃l,G.jh[i]? =some l:=⟨_,List.getElem?_eq_getElem (by rw [h.lw];exact dQ)⟩;exact⟨by rw [GS.JW h.W hi hc];exact hc,by rw [GS.yQ h.W hi hl];exact hl,dI.2 ⟨nd,List.mem_of_getElem? hi,rfl⟩⟩
theorem yp(H:jr k G){h:HT}(hm:h∈ids G.D){n m:Nat}{A B:Option Addr}(h1:HS w A n (G.gR h).merge)(h2:Bo w B m (G.gR h).dR):n<=G.D.length/\m<=G.D.length:=by
 obtain⟨a,b⟩:=xn H hm;have:=h1.len;have:=h2.len;omega
end
section
variable{w v:World}{F FP FR:Nat->Prop}{c r x k:Nat}{G:GS}{m:CM}{K:Value->World->Prop}{O:Option Addr}{on oc:Nat}{lo:List HT}{s:HT}{sb xb:Nat}{xv:Array Value}
theorem yV(k:Nat){G:GS}(s:HT){lo:List HT}(fN:∀y∈lo,y∈ids G.D):(cR k G s lo).merge.length<=G.D.length/\(cR k G s lo).dR.length<=G.D.length:=by
 have GW:(cD G s lo).length<=G.D.length:=by
  have:=cQ (m:=ids G.D) (kr G s lo).nodup (fun x hx=>by
   rcases iV.1 hx with⟨h|h,_⟩
   ·exact h.1
   ·exact fN x h)
  rwa [fX]at this
 exact⟨GW,by show(fF k G s lo).bl.length<=_;rw [(oJ k G s lo).1];exact GW⟩
end
theorem uq:yA prog cj dr 33 56:=⟨by kernel_rfl,by kernel_rfl⟩
section
variable{w w':World}{F S:Nat->Prop}{A:Option Addr}{n c B:Nat}{l:List DN}{news:List Value}{K:Value->World->Prop}
def Kp(w:World)(l:List DN)(news:List Value):Prop:=
 ∀(i:Nat) nd,l[i]? =some nd->∃pA pn pc,HS w pA pn nd.ps/\∀(j:Nat) v,(nd.id.1.push (.slice pA pn pc))[j]? =some v->news[i*33+j]? =some v
theorem Kp.same(h:Kp w l news)(k:Kept Nil w w'):Kp w' l news:=fun i nd hi=>by
 obtain⟨pA,pn,pc,h1,h2⟩:=h i nd hi;exact⟨pA,pn,pc,h1.same k,h2⟩
theorem Kp.app{l2:List DN}{HU:List Value}(h:Kp w l news)(h2:Kp w l2 HU)(hl:news.length=l.length*33):Kp w (l++l2) (news++HU):=fun i nd hi=>by
 rw [List.getElem?_append]at hi;split at hi
 ·obtain⟨pA,pn,pc,q1,q2⟩:=h i nd hi
  exact⟨pA,pn,pc,q1,fun j v hj=>by
   have:=q2 j v hj;rw [List.getElem?_append_left (lgeS this).1];exact this⟩
 ·rename_i gq
  obtain⟨pA,pn,pc,q1,q2⟩:=h2 _ nd hi;exact⟨pA,pn,pc,q1,fun j v hj=>by
   rw [List.getElem?_append_right (by omega),hl,show i*33+j-l.length*33=(i-l.length)*33+j by omega];exact q2 j v hj⟩
theorem TP(h:Row w B dr 33 A n c news)(hl:l.length=n)(s:Kp w l news):NS w (fun _=>True) A n l:=
 ⟨hl,fun i nd hi=>by
   obtain⟨pA,pn,pc,h1,h2⟩:=s i nd hi;have:=(lgeS hi).1;obtain⟨b,rfl⟩:=Row.some h (by omega);obtain⟨_,cur,lr⟩:=Row.bz h (k:=b) rfl;exact⟨_,pA,pn,pc,rfl,aO lr,trivial,fun j v hj=>by rw [jU];exact Row.cells h _ _ (h2 j v hj),h1,fun _ _=>trivial⟩⟩
theorem NS.PO{F:Nat->Prop}(h:NS w F none n l):n=0/\l= []:=by
 have hl:=h.len;cases l with
 |nil=>exact⟨by simpa using hl.symm,rfl⟩
 |cons x l=>
  obtain⟨a,_,_,_,e,_⟩:=h.at_ 0 x rfl;cases e
theorem xz{w0:World}{l1:List DN}{A1:Option Addr}{n1 c1 cx:Nat}{zt:List Value}{F:Nat->Prop}(k0:Kept Nil w0 w)(row:Row w w0.heap.size dr 33 A1 n1 c1 zt)(hr:zt.length=l1.length*33)(s1:Kp w0 l1 zt)(h:NS w0 F A n l)(hm:n1+n<=100000):
 ∃A' c' w' HV,(Builtin.append_ #[cj,cj] cj #[.slice A1 n1 c1,.slice A n cx]).run prog w=.ok (.slice A' (n1+n) c') w'/\
  Row w' w0.heap.size dr 33 A' (n1+n) c' HV/\HV.length=(l1++l).length*33/\Kp w0 (l1++l) HV/\Kept Nil w0 w':=by
 have hlen:=h.len;cases A with
 |some a=>
  obtain⟨news,e1,e2,e3,e4⟩:=h.cells n (Nat.le_refl _);obtain⟨A',c',w',Om,eI,hg,hb⟩:=dS (P:=prog) (t:=cj) (ty:=cj) (bytes:=56) uq row (a:=a) (m:=n) (cx:=cx) (news:=news) e1 (fun j u hj=>k0.cell (e2 a rfl j u hj) (fun h=>h)) e3 (by omega) (by unfold maxLen;omega) k0.size;have kk:Kept Nil w0 w':=Kept.eA k0 hg (fun j hj=>(Row.bz row hj).1);have s2:Kp w0 l news:=fun i nd hi=>by
   obtain⟨pA,pn,pc,q1,_,q2⟩:=e4 i nd (by have:=(lgeS hi).1;omega) hi;exact⟨pA,pn,pc,q1,q2⟩
  refine⟨A',c',w',zt++news,Om,eI,by rw [List.length_append,List.length_append,hr,e1,<-hlen];omega,s1.app s2 hr,kk⟩
 |none=>
  obtain⟨rfl,rfl⟩:=h.PO;refine⟨A1,c1,w,zt,?_,by simpa using row,by simpa using hr,by simpa using s1,k0⟩;obtain⟨i,z,hi,hz,hs,Jt,B9⟩:=uq.inf;have hn:n1<=c1:=by rcases Row.own row with⟨_,h1,h2,_⟩|⟨_,_,_,_,_,h1,_⟩<;>omega
  simp [Builtin.append_,run_underlying uq.oD,sizeOf,typeInfo,hi,Builtin.lenOf,Builtin.firstCells,hn];cases A1<;>simp [storeCells]
end
theorem one_setCell(w:World)(b j:Nat)(v:Value):Kept (· =b) w (w.setCell ⟨b,j,none⟩ v):=by
 have:=fe (b:=b) [v] w j 0;exact this
section
variable{u v w:World}{Bm Be xb n cp ce:Nat}{A E:Option Addr}{x:oC}
structure WZ(u:World)(Bb:Nat)(xb n cp ce:Nat)(A E:Option Addr)(x:oC):Prop where
 mg:∃l,bL u Bb A n cp l
 bl:∃l:List Bool,Row u Bb gh 1 E n ce (oB l)
 bx:u.heap[xb]? =some (.cells (cF x A n cp E n ce) bg (0,0))
theorem WZ.same{Bb:Nat}(h:WZ u Bb xb n cp ce A E x)(k:Kept Nil u v):WZ v Bb xb n cp ce A E x:=by
 obtain⟨⟨l,h1⟩,⟨b,h2⟩,h3⟩:=h;exact⟨⟨l,Row.az h1 k (fun _ _ h=>h)⟩,⟨b,Row.az h2 k (fun _ _ h=>h)⟩,k.heap h3 (fun h=>h)⟩
theorem WZ.G8{Bb:Nat}(h:WZ u Bb xb n cp ce A E x):u.cell? ((⟨xb,0,none⟩:Addr).add 33)=some (.slice A n cp):=by
 have:=(eW x A n cp E n ce #[]).2.1;rw [Array.append_empty]at this;rw [a8,ay h.bx];exact this
theorem WZ.c34{Bb:Nat}(h:WZ u Bb xb n cp ce A E x):u.cell? ((⟨xb,0,none⟩:Addr).add 34)=some (.slice E n ce):=by
 have:=(eW x A n cp E n ce #[]).2.2.1;rw [Array.append_empty]at this;rw [a8,ay h.bx];exact this
set_option maxHeartbeats 1000000 in
theorem Ez{a d:Option Addr}{b c e f:Nat}{g i j k m nn:Option Addr}{o:Int}{Q:aM}{Bb:Nat}(h:WZ u Bb xb n cp ce A E x)(hxA:aW A≠some xb)(hxE:aW E≠some xb)(ZW:∀q,aW A=some q->aW E≠some q)(hn:n<=100000)
 (hQ:∀u',Kept (fun q=>aW A=some q\/aW E=some q) u u'->Q .normal [(3,.slice a b c),(4,.slice d e f),(10,.bool false),(11,.pointer g),(14,.pointer i),(15,.pointer j),(16,.pointer k),(18,.pointer m),(19,.pointer nn),(21,.int .i64 (i64.wrap (o+(1:Int))))] u'):
 Holds none [] prog 294 (.loop (lB (bB (sR (sR (bB (sL (sR (lB (bB (sR (sL (sR (sR (sR (sR (sR (sR (sR (sR (body Tryz.f7))))))))))))))))))))) (af.q2 Q) (af.e2 a b c d e f g i j k m nn o ⟨xb,0,none⟩ 0) u:=by
 refine af.gI (I:=fun s v=>∃t:Nat,s=(t:Int)/\t<=n/\WZ v Bb xb n cp ce A E x/\Kept (fun q=>aW A=some q\/aW E=some q) u v) (μ:=fun s _=>((n:Int)-s).toNat) (s:=0) ⟨0,rfl,Nat.zero_le _,h,Kept.refl _ _⟩ ?_;rintro s v ⟨t,rfl,ht,hv,ku⟩;unfold af.B2;refine⟨A,n,cp,hv.G8,Split.dec (fun cH=>?_) (fun gq=>?_)⟩
 ·have QG:t<n:=by omega
  intro w1;have k1:Kept Nil v w1:=(Kept.refl _ _).drew;clear_value w1;have h1:=hv.same k1;obtain⟨⟨lm,rm⟩,⟨lb,re⟩,bx⟩:=h1;have h1:=hv.same k1;have hlm:=bL.len rm;have hlb:lb.length=n:=by have:=Row.len re;simpa [oB]using this
  obtain⟨ab,rfl⟩:=Row.some rm (by omega);obtain⟨eb,rfl⟩:=Row.some re (by omega);have lG:ab≠xb:=fun e=>hxA (by rw [e];rfl);have heb:eb≠xb:=fun e=>hxE (by rw [e];rfl);have KJ:ab≠eb:=fun e=>ZW ab rfl (by rw [e];rfl);obtain⟨bo,hbo⟩:∃bo,lb[t]? =some bo:=⟨_,List.getElem?_eq_getElem (by omega)⟩;refine⟨_,n,cp,h1.G8,_,n,ce,h1.c34,_,n,ce,h1.c34,⟨by omega,by omega⟩,Is.mk rfl ⟨bo,?_,⟨by omega,by omega⟩,Is.mk rfl ⟨⟨dG.2.1,dG.2.one,fun q hq=>?_⟩,?_⟩⟩⟩
  ·rw [Int.toNat_natCast,Nat.mul_one]
   exact Row.cells re t _ (by simp [oB,hbo])
  ·rw [Int.toNat_natCast,a8,Nat.zero_add]
   exact bL.KV rm QG q hq
  ·intro w2
   have e2:w2=setCells w1 ⟨ab,t*32,none⟩ dG.1.toList 0:=by
    show setCells w1 ((⟨ab,0,none⟩:Addr).add ((t:Int).toNat*32)) zH.toList 0=_
    rw [Int.toNat_natCast,a8,Nat.zero_add];rfl
   have k2:Kept (· =ab) w1 w2:=by rw [e2];exact fe _ _ _ _
   have rm2:bL w2 Bb (some ⟨ab,0,none⟩) n cp (lm.set t dG):=by rw [e2];exact bL.setAt rm QG dG
   clear_value w2;have re2:Row w2 Bb gh 1 (some ⟨eb,0,none⟩) n ce (oB lb):=Row.az re k2 (fun q hq e=>by cases hq;exact KJ e.symm);have h2:WZ w2 Bb xb n cp ce (some ⟨ab,0,none⟩) (some ⟨eb,0,none⟩) x:=⟨⟨_,rm2⟩,⟨_,re2⟩,k2.heap bx (fun e=>lG e.symm)⟩;refine⟨h2.c34,⟨by omega,by omega⟩,Is.mk rfl ⟨?_,?_⟩⟩
   ·rw [Int.toNat_natCast,Nat.mul_one,a8,Nat.zero_add]
    exact Row.wr re2 (by simp [oB];omega)
   ·intro w3
    have e3:w3=w2.setCell ⟨eb,t,none⟩ (.bool (!bo)):=by
     show w2.setCell ((⟨eb,0,none⟩:Addr).add ((t:Int).toNat*1)) _=_
     rw [Int.toNat_natCast,Nat.mul_one,a8,Nat.zero_add]
    have k3:Kept (· =eb) w2 w3:=by rw [e3];exact one_setCell _ _ _ _
    have re3:Row w3 Bb gh 1 (some ⟨eb,0,none⟩) n ce (oB (lb.set t (!bo))):=by
     have:=Row.set re2 (j:=t) (by simp [oB];omega) (.bool (!bo));rw [e3];unfold oB at this⊢;rw [List.map_set];exact this
    clear_value w3;have h3:WZ w3 Bb xb n cp ce (some ⟨ab,0,none⟩) (some ⟨eb,0,none⟩) x:=⟨⟨_,Row.az rm2 k3 (fun q hq e=>by cases hq;exact KJ e)⟩,⟨_,re3⟩,k3.heap h2.bx (fun e=>heb e.symm)⟩;rw [dw (n:=(t:Int)) (by omega) (by omega)];refine⟨(t:Int)+1,rfl,⟨t+1,rfl,QG,h3,?_⟩,by simp only;omega⟩;exact((ku.trans k1 (fun _ _ h=>h.elim)).trans k2 (fun q _ e=>.inl (by rw [e];rfl))).trans k3 (fun q _ e=>.inr (by rw [e];rfl))
 ·rw [aP,af.jJ]
  exact hQ v ku
end
section
variable{w w' wI wb v:World}{F FP m0 F0:Nat->Prop}{cb k:Nat}{G:GS}{A:Option Addr}{n cx:Nat}{l:List DN}{K:Value->World->Prop}
theorem NS.both(h:NS w F A n l){i:Nat}{nd:DN}(hi:l[i]? =some nd):∃a pA pn pc,A=some a/\HS w pA pn nd.ps/\(∀ {w'},Kept Nil w w'->Cells w' ((a.add ((i:Int).toNat*33)).add 0) nd.id.1)/\(∀ {w'},Kept Nil w w'->w'.cell? ((a.add ((i:Int).toNat*33)).add 32)=some (.slice pA pn pc)):=by
 obtain⟨a,pA,pn,pc,e,h2,h3,h4,h5,h6⟩:=h.at_ i nd hi;refine⟨a,pA,pn,pc,e,h5,fun k j u hj=>?_,fun k=>?_⟩
 ·rw [Int.toNat_natCast,add_zero]
  refine k.cell (h4 j u ?_) (fun h=>h);exact qZ hj
 ·rw [Int.toNat_natCast]
  exact k.cell (h4 32 _ (mT _ _)) (fun h=>h)
def AG(wb v:World)(m0 F0:Nat->Prop)(cb k:Nat)(G:GS):Prop:=
 ∃F' m',CV v F' cb k G m'/\(∀j,m'.own cb j->m0 j\/wb.heap.size<=j)/\(∀j,F' j->F0 j\/wb.heap.size<=j)/\Kept m0 wb v
theorem AG.az{S:Nat->Prop}(h:AG wb v m0 F0 cb k G)(hk:Kept S v w)(GY:∀j,S j->wb.heap.size<=j)(hS:∀j,S j->v.heap.size<=j):AG wb w m0 F0 cb k G:=by
 obtain⟨F',m',h1,h2,h3,h4⟩:=h;refine⟨F',m',h1.az hk (fun j e e'=>?_) (fun j e e'=>?_),h2,h3,h4.trans hk (fun j hj e=>by have:=GY j e;omega)⟩
 ·have:=h1.low j (.inl e);have:=hS j e';omega
 ·have:=h1.low j (.inr e);have:=hS j e';omega
theorem AG.same(h:AG wb v m0 F0 cb k G)(hk:Kept Nil v w):AG wb w m0 F0 cb k G:=h.az hk (fun _ h=>h.elim) (fun _ h=>h.elim)
theorem Kj(k:Nat)(G:GS)(id:HT)(l:List HT):(ik k G id l).merge.length=(ik k G id l).dR.length:=by
 unfold ik;split
 ·exact(oJ k G _ l).1.symm
 ·rfl
theorem C4{k:Nat}{G:GS}{id:HT}{l:List HT}:(ik k G id l).merge.length<=G.D.length:=by
 unfold ik;split
 ·rename_i hc
  obtain⟨_,_,_,o8⟩:=jV hc;exact(yV k _ fun y hy=>o8 y (dF.2 hy)).1
 ·exact Nat.zero_le _
theorem AG.add{v0:World}{ps:List HT}(h:AG wb v0 m0 F0 cb k G)(k0:Kept Nil v0 v)(hT:rZ wI)(kI:Kept Nil wI wb)(Ac:∀j,m0 j->wI.heap.size<=j)(hD:G.D.length<=49)(nW:k<=1000)(DZ:HS v A n ps)(hn:n<=5000)(id:HT)
 (hK:∀w' A n c1 B c2,AG wb w' m0 F0 cb k (cU k G id ps)->Kept (fun j=>j<v0.heap.size/\(m0 j\/wb.heap.size<=j)) v w'->
   bL w' v.heap.size A n c1 (ik k G id ps).merge->Row w' v.heap.size gh 1 B n c2 (oB (ik k G id ps).dR)->(∀j,aW A=some j->aW B≠some j)->n<=100000->
   (∀u1 u,Kept (fun q=>v0.heap.size<=q/\q<v.heap.size) w' u1->Kept (fun q=>aW A=some q\/aW B=some q) u1 u->AG wb u m0 F0 cb k (cU k G id ps))->
   K (.tuple #[.agg (cF (ik k G id ps) A n c1 B n c2),.int .i64 (du G.D id ps)]) w'):
 bj prog di.id #[.pointer (some ⟨cb,0,none⟩),.agg id.1,.slice A n cx] v K:=by
 obtain⟨F',m',ZV,ho,hF,ml⟩:=h;have hC:=ZV.same k0;have hk:=ml.trans k0 (fun _ _ e=>e.elim);have sv:=ml.size;have sv0:=k0.size;have sI:=kI.size;have hTl:=hT.lt;have kIv:Kept Nil wI v:=kI.trans hk (fun j hj e=>by have:=Ac j e;omega);refine kl hC (hT.same kIv) (fun e=>?_) hD nW DZ hn id fun w' F'' m'' A n c1 B e c2 g1 g2 g3 g4 g5 g6 g7 g8 g9=>?_
 ·rcases ho _ (.inl e)with e|e
  ·have:=Ac _ e;omega
  ·omega
 ·have hr:=Kj k G id ps
  have hs:=C4 (k:=k) (G:=G) (id:=id) (l:=ps);have e1:=bL.len g6;have e2:=(Row.bo g7).len;have:e=n:=by omega
  subst this;have o2:∀j,m''.own cb j->m0 j\/wb.heap.size<=j:=fun j e=>by
   rcases g4 j e with e|e
   ·exact ho j e
   ·exact .inr (by omega)
  have f2:∀j,F'' j->F0 j\/wb.heap.size<=j:=fun j e=>by
   rcases g5 j e with e|e
   ·exact hF j e
   ·exact .inr (by omega)
  have k2:Kept m0 wb w':=hk.trans g3 (fun j hj e=>by
   rcases ho j e with e|e
   ·exact e
   ·omega)
  refine hK w' A e c1 B c2 ⟨F'',m'',g1,o2,f2,k2⟩ (g3.mono fun j hj e=>⟨ZV.low j (.inl e),ho j e⟩) g6 g7 g8 (by omega) fun u1 u zG ku=>⟨F'',m'',(g1.az zG (fun j e e'=>?_) (fun j e e'=>?_)).az ku (fun j e e'=>(g9 j e').1 e) (fun j e e'=>(g9 j e').2 e),o2,f2,(k2.trans zG (fun j _ e=>by omega)).trans ku (fun j hj e=>?_)⟩
  ·rcases g4 j e with e|e
   ·have:=ZV.low j (.inl e);omega
   ·omega
  ·rcases g5 j e with e|e
   ·have:=ZV.low j (.inr e);omega
   ·omega
  ·rcases e with e|e
   ·have:=(Row.bz g6 e).1;omega
   ·have:=(Row.bz g7 e).1;omega
end
section
variable{w w' wI wb v:World}{F FP m0 F0:Nat->Prop}{cb k:Nat}{G0:GS}{A:Option Addr}{n cx:Nat}{l:List DN}{K:Value->World->Prop}
set_option maxHeartbeats 2000000 in
theorem AP{d i j kk m nn:Option Addr}{e f:Nat}(hT:rZ wI)(kI:Kept Nil wI wb)(Ac:∀j,m0 j->wI.heap.size<=j)(h:AG wb wb m0 F0 cb k G0)(hl:NS wI FP A n l)(hn:n<=12)(o8:∀nd∈l,nd.ps.length<=1000)(hD:G0.D.length<=30)(nW:k<=1000)
 (hQ:∀v o,AG wb v m0 F0 cb k (l.foldl (fun G s=>cU k G s.id s.ps) G0)->af.cI A n cx d e f (some ⟨cb,0,none⟩) i j kk m nn o K v):
 Holds none [] prog 294 (.loop (lB (bB (sR (sL (sR (sR (sR (sR (sR (sR (sR (sR (body Tryz.f7)))))))))))))) (af.q1 K) (af.e1 A n cx d e f (some ⟨cb,0,none⟩) i j kk m nn 0) wb:=by
 have hlen:=hl.len;refine af.b6 (I:=fun s v=>∃t:Nat,s=(t:Int)/\t<=n/\AG wb v m0 F0 cb k ((l.take t).foldl (fun G s=>cU k G s.id s.ps) G0)) (μ:=fun s _=>((n:Int)-s).toNat) (s:=0) ⟨0,rfl,Nat.zero_le _,h⟩ ?_;rintro s v ⟨t,rfl,ht,hv⟩;unfold af.B1;refine Split.dec (fun cH=>?_) (fun gq=>?_)
 ·have QG:t<n:=by omega
  obtain⟨nd,dW⟩:∃nd,l[t]? =some nd:=⟨_,List.getElem?_eq_getElem (by omega)⟩;have qk:=o8 nd (List.mem_of_getElem? dW);have O2:=nh k (l.take t) G0;rw [List.length_take]at O2;have Vn:=qJ (k:=k) (G:=G0) dW;generalize (l.take t).foldl (fun G s=>cU k G s.id s.ps) G0=G at hv O2 Vn;obtain⟨a,pA,pn,pc,rfl,Jb,hid,S6⟩:=hl.both dW;have I8:=Jb.len;have kw:∀ {u:World},AG wb u m0 F0 cb k G->Kept Nil wI u:=fun h=>by
   obtain⟨_,_,_,_,_,hk⟩:=h;have:=kI.size;exact kI.trans hk (fun j hj e=>by have:=Ac j e;omega)
  have kwn:∀ {u:World},AG wb u m0 F0 cb k (cU k G nd.id nd.ps)->Kept Nil wI u:=fun h=>by
   obtain⟨_,_,_,_,_,hk⟩:=h;have:=kI.size;exact kI.trans hk (fun j hj e=>by have:=Ac j e;omega)
  intro p;have kp:Kept Nil v p:=(Kept.refl _ _).drew;clear_value p;have hp:=hv.same kp;have Nx:=kw hp;have hb:0<=(t:Int)/\(t:Int)<(n:Int):=⟨by omega,by omega⟩;have sb:wb.heap.size<=p.heap.size:=by obtain⟨_,_,_,_,_,hk⟩:=hp;exact hk.size
  have tail:∀ {u w':World} {A' B':Option Addr} {n' c1 c2 xb Bb:Nat} {S:Nat->Prop},Kept S w' u->WZ u Bb xb n' c1 c2 A' B' (ik k G nd.id nd.ps)->aW A'≠some xb->aW B'≠some xb->(∀j,aW A'=some j->aW B'≠some j)->n'<=100000->
   (∀u1 u,Kept S w' u1->Kept (fun q=>aW A'=some q\/aW B'=some q) u1 u->AG wb u m0 F0 cb k (cU k G nd.id nd.ps))->
   Holds none [] prog 294 (.loop (lB (bB (sR (sR (bB (sL (sR (lB (bB (sR (sL (sR (sR (sR (sR (sR (sR (sR (sR (body Tryz.f7))))))))))))))))))))) (af.q2 (bH (af.e1 (some a) n cx d e f (some ⟨cb,0,none⟩) i j kk m nn) (fun s v=>∃t:Nat,s=(t:Int)/\t<=n/\AG wb v m0 F0 cb k ((l.take t).foldl (fun G s=>cU k G s.id s.ps) G0)) (fun s _=>((n:Int)-s).toNat) (t:Int) v (af.q1 K))) (af.e2 (some a) n cx d e f (some ⟨cb,0,none⟩) i j kk m nn (t:Int) ⟨xb,0,none⟩ 0) u:=by
   intro u w' A' B' n' c1 c2 xb Bb S ku hz hA hB hAB Oz hw;refine Ez hz hA hB hAB Oz fun u' SA=>?_;rw [dw (n:=(t:Int)) (by omega) (by omega)];exact⟨(t:Int)+1,rfl,⟨t+1,rfl,QG,by rw [Vn];exact hw u u' ku SA⟩,by simp only;omega⟩
  refine⟨hb,Is.mk rfl ⟨nd.id.1,⟨nd.id.2.1,hid Nx⟩,hb,Is.mk rfl ⟨pA,pn,pc,S6 Nx,?_,?_⟩⟩⟩
  ·refine hp.add (Kept.refl _ _) hT kI Ac (by omega) nW (Jb.same Nx) (by omega) nd.id fun w' A' n' c1 B' c2 g1 g2 g3 g4 g5 g6 g7=>⟨_,_,rfl,?_⟩
   intro t1;have kt1:Kept Nil w' t1:=(Kept.refl _ _).alloc _;have FT:t1.heap[w'.heap.size]? =some (.cells zC bg (0,0)):=aH w' _;clear_value t1;obtain⟨z1,z2,z3⟩:=dD FT (cs:=cF (ik k G nd.id nd.ps) A' n' c1 B' n' c2) (by rw [aS];rfl);refine⟨⟨aS ..,dt _ _ _ _ _ _ _,fun j hj=>z1 j (by rw [aS];exact hj)⟩,?_⟩;have LF:=kt1.trans z3 (fun j hj e=>by omega);have r3:bL _ _ _ _ _ _:=Row.az g3 LF (fun _ _ h=>h);have r4:=Row.az g4 LF (fun _ _ h=>h);refine tail (LF.mono fun _ _ h=>h.elim) ⟨⟨_,r3⟩,⟨_,r4⟩,z2⟩ (fun e=>?_) (fun e=>?_) g5 g6 g7
   ·obtain⟨_,cur,lr⟩:=Row.bz g3 e
    have:=aO lr;omega
   ·obtain⟨_,cur,lr⟩:=Row.bz g4 e
    have:=aO lr;omega
  ·intro g1
   have kg:Kept Nil p g1:=(Kept.refl _ _).alloc _;have FT:g1.heap[p.heap.size]? =some (.cells zC bg (0,0)):=aH p _;clear_value g1;have hg:=hp.same kg;have kwg:=kw hg;have lx:=aO FT;have sp:wI.heap.size<=p.heap.size:=Nx.size;refine⟨S6 kwg,⟨_,rfl,nd.id.2.1,hid kwg⟩,?_⟩;refine hp.add kg hT kI Ac (by omega) nW (Jb.same kwg) (by omega) nd.id fun w' A' n' c1 B' c2 g1' g2 g3 g4 g5 g6 g7=>⟨_,_,rfl,?_⟩;have hxw:=g2.heap FT (fun e=>by omega);obtain⟨z1,z2,z3⟩:=dD hxw (cs:=cF (ik k G nd.id nd.ps) A' n' c1 B' n' c2) (by rw [aS];rfl);refine⟨⟨aS ..,dt _ _ _ _ _ _ _,fun j hj=>z1 j (by rw [aS];exact hj)⟩,?_⟩;have nA:∀j,aW A'=some j->¬j=p.heap.size:=fun j hj e=>by have:=(Row.bz g3 hj).1;omega
   have nB:∀j,aW B'=some j->¬j=p.heap.size:=fun j hj e=>by have:=(Row.bz g4 hj).1;omega
   have r3:bL _ _ _ _ _ _:=Row.az g3 z3 nA;have r4:=Row.az g4 z3 nB;exact tail (z3.mono fun q _ e=>⟨by omega,by omega⟩) ⟨⟨_,r3⟩,⟨_,r4⟩,z2⟩ (fun e=>nA _ e rfl) (fun e=>nB _ e rfl) g5 g6 g7
 ·rw [aP,af.cX]
  have:t=n:=by omega
  subst this;rw [List.take_of_length_le (by omega)]at hv;exact hQ v _ hv
set_option maxHeartbeats 2000000 in
theorem AO{d f g i j:Option Addr}(hT:rZ wI)(kI:Kept Nil wI wb)(Ac:∀j,m0 j->wI.heap.size<=j)(h:AG wb wb m0 F0 cb k G0)(hl:NS wI FP A n l)(hn:n<=12)(o8:∀nd∈l,nd.ps.length<=1000)(hD:G0.D.length<=30)(nW:k<=1000)
 (hQ:∀v o,AG wb v m0 F0 cb k (l.foldl (fun G s=>cU k G s.id s.ps) G0)->af.rU A n cx d (some ⟨cb,0,none⟩) f g i j o K v):
 Holds none [] prog 294 (.loop (lB (bB (sR (sL (sR (sR (sR (sR (sR (sR (sR (sR (sR (body Tryz.f7))))))))))))))) (af.q3 K) (af.e3 A n cx d (some ⟨cb,0,none⟩) f g i j 0) wb:=by
 have hlen:=hl.len;refine af.rr (I:=fun s v=>∃t:Nat,s=(t:Int)/\t<=n/\AG wb v m0 F0 cb k ((l.take t).foldl (fun G s=>cU k G s.id s.ps) G0)) (μ:=fun s _=>((n:Int)-s).toNat) (s:=0) ⟨0,rfl,Nat.zero_le _,h⟩ ?_;rintro s v ⟨t,rfl,ht,hv⟩;unfold af.B3;refine Split.dec (fun cH=>?_) (fun gq=>?_)
 ·have QG:t<n:=by omega
  obtain⟨nd,dW⟩:∃nd,l[t]? =some nd:=⟨_,List.getElem?_eq_getElem (by omega)⟩;have qk:=o8 nd (List.mem_of_getElem? dW);have O2:=nh k (l.take t) G0;rw [List.length_take]at O2;have Vn:=qJ (k:=k) (G:=G0) dW;generalize (l.take t).foldl (fun G s=>cU k G s.id s.ps) G0=G at hv O2 Vn;obtain⟨a,pA,pn,pc,rfl,Jb,hid,S6⟩:=hl.both dW;have I8:=Jb.len;intro p;have kp:Kept Nil v p:=(Kept.refl _ _).drew;clear_value p;have hp:=hv.same kp;have Nx:Kept Nil wI p:=by
   obtain⟨_,_,_,_,_,hk⟩:=hp;have:=kI.size;exact kI.trans hk (fun j hj e=>by have:=Ac j e;omega)
  have hb:0<=(t:Int)/\(t:Int)<(n:Int):=⟨by omega,by omega⟩;refine⟨hb,Is.mk rfl ⟨nd.id.1,⟨nd.id.2.1,hid Nx⟩,hb,Is.mk rfl ⟨pA,pn,pc,S6 Nx,?_⟩⟩⟩;refine hp.add (Kept.refl _ _) hT kI Ac (by omega) nW (Jb.same Nx) (by omega) nd.id fun w' A' n' c1 B' c2 g1 g2 g3 g4 g5 g6 g7=>⟨_,_,rfl,?_⟩;rw [dw (n:=(t:Int)) (by omega) (by omega)];exact⟨(t:Int)+1,rfl,⟨t+1,rfl,QG,by rw [Vn];exact g1⟩,by simp only;omega⟩
 ·rw [aP,af.xD]
  have:t=n:=by omega
  subst this;rw [List.take_of_length_le (by omega)]at hv;exact hQ v _ hv
end
section
variable{w w' u v:World}{F F1 FP:Nat->Prop}{cb c2 r x k:Nat}{G:GS}{m m1:CM}{FR:Nat->Prop}{K:Value->World->Prop}
set_option maxHeartbeats 2000000 in
theorem AN{o i j:Option Addr}(C:CV v F cb k G m)(B:jI v F1 c2 m1 FR r x k G)(hD:G.D.length<=100)
 (hQ:∀u z,Kept Nil v u->af.vD false (some ⟨cb,0,none⟩) o (some ⟨c2,0,none⟩) (some ⟨r,0,none⟩) i j z K u):
 Holds none [] prog 294 (.loop (lB (bB (sR (sL (sR (sR (sR (sR (sR (sR (sR (sR (sR (sR (body Tryz.f7)))))))))))))))) (af.q4 K) (af.e4 (some ⟨cb,0,none⟩) o (some ⟨c2,0,none⟩) (some ⟨r,0,none⟩) i j (false,0)) v:=by
 have H:=C.fG;refine af.zz (I:=fun s u=>∃t:Nat,s=(false,(t:Int))/\t<=G.D.length/\Kept Nil v u) (μ:=fun s _=>((G.D.length:Int)-s.2).toNat) (s:=(false,0)) ⟨0,rfl,Nat.zero_le _,Kept.refl _ _⟩ ?_;rintro⟨_,_⟩ u ⟨t,et,ht,ku⟩;cases et;unfold af.B4;have Bu:=B.same ku;obtain⟨A0,c0,q1,qS⟩:=Bu.R.graph;refine Is.mk rfl ⟨_,Bu.R.c1,Is.mk rfl ⟨A0,_,c0,q1,Split.dec (fun cH=>?_) (fun gq=>?_)⟩⟩
 ·simp only at cH
  have dQ:t<G.D.length:=by omega
  obtain⟨nd,dW⟩:∃nd,G.D[t]? =some nd:=⟨_,List.getElem?_eq_getElem dQ⟩;obtain⟨_,_,fN⟩:=HQ H dW;refine Is.mk rfl ⟨_,Bu.R.c1,Is.mk rfl ⟨A0,_,c0,q1,qS.id (i:=(t:Int)) (by omega) (by rw [Int.toNat_natCast];exact dW) ?_⟩⟩;refine pO (C.same ku) (by omega) fN fun A5 n5 c5 E5 e5 d5 w5 r5 b5 _ k5=>⟨_,_,rfl,?_⟩;intro w6;have k6:Kept Nil w5 w6:=(Kept.refl _ _).alloc _;have IP:w6.heap[w5.heap.size]? =some (.cells zC bg (0,0)):=aH w5 _;clear_value w6;obtain⟨t1,t2,t3⟩:=dD IP (cs:=cF (G.gR nd.id) A5 n5 c5 E5 e5 d5) (by rw [aS];rfl);refine⟨⟨aS ..,dt _ _ _ _ _ _ _,fun j hj=>t1 j (by rw [aS];exact hj)⟩,?_⟩;intro w7
  replace t2:w7.heap[w5.heap.size]? =some (.cells (cF (G.gR nd.id) A5 n5 c5 E5 e5 d5) bg (0,0)):=t2
  replace t3:Kept (· =w5.heap.size) w6 w7:=t3
  clear_value w7;have zL:Kept Nil w5 w7:=k6.trans t3 (fun j hj e=>by omega);have sG:=ku.tt (k5.tt zL);have B7:=B.same sG;obtain⟨A1,c1,q2,QT⟩:=B7.R.graph;refine Is.mk rfl ⟨_,B7.R.c1,Is.mk rfl ⟨A1,_,c1,q2,QT.id (i:=(t:Int)) (by omega) (by rw [Int.toNat_natCast];exact dW) ?_⟩⟩;refine pO B7.C (by omega) fN fun A8 n8 c8 E8 e8 d8 w8 r8 b8 _ k8=>⟨_,_,rfl,?_⟩;intro w9;have k9:Kept Nil w8 w9:=(Kept.refl _ _).alloc _;have Va:w9.heap[w8.heap.size]? =some (.cells zC bg (0,0)):=aH w8 _;clear_value w9;obtain⟨s1,s2,s3⟩:=dD Va (cs:=cF (G.gR nd.id) A8 n8 c8 E8 e8 d8) (by rw [aS];rfl);refine⟨⟨aS ..,dt _ _ _ _ _ _ _,fun j hj=>s1 j (by rw [aS];exact hj)⟩,?_⟩;intro w10
  replace s2:w10.heap[w8.heap.size]? =some (.cells (cF (G.gR nd.id) A8 n8 c8 E8 e8 d8) bg (0,0)):=s2
  replace s3:Kept (· =w8.heap.size) w9 w10:=s3
  clear_value w10;have BU:Kept Nil w8 w10:=k9.trans s3 (fun j hj e=>by omega);have xV:=k8.tt BU;refine⟨_,⟨aS ..,Cells.bz (xV.heap t2 (fun h=>h))⟩,_,⟨aS ..,Cells.bz s2⟩,?_⟩;have m1:=(bL.hs r5).same (zL.tt xV);have m2:=(bL.hs r8).same BU;have l1:=(Row.bo b5).same (zL.tt xV);have l2:=(Row.bo b8).same BU;obtain⟨y1,y2⟩:=yp H fN m1 l1;obtain⟨y3,y4⟩:=yp H fN m2 l2;refine xI m1 m2 l1 l2 (by omega) (by omega) fun qR vE=>⟨true,rfl,Split.no rfl ?_⟩;simp only;rw [dw (n:=(t:Int)) (by omega) (by omega)];exact⟨(false,(t:Int)+1),rfl,⟨t+1,rfl,dQ,(sG.tt xV).tt vE⟩,by simp only;omega⟩
 ·rw [aP,af.Br]
  exact hQ u _ ku
set_option maxHeartbeats 2000000 in
theorem AM{o i:Option Addr}(C:CV v F cb k G m)(B:jI v F1 c2 m1 FR r x k G)(hD:G.D.length<=100)
 (hQ:∀u z,Kept Nil v u->af.AY false o (some ⟨cb,0,none⟩) i (some ⟨c2,0,none⟩) (some ⟨r,0,none⟩) z K u):
 Holds none [] prog 294 (.loop (lB (bB (sR (sL (sR (sR (sR (sR (sR (sR (sR (sR (sR (sR (sR (body Tryz.f7))))))))))))))))) (af.q5 K) (af.e5 o (some ⟨cb,0,none⟩) i (some ⟨c2,0,none⟩) (some ⟨r,0,none⟩) (false,0)) v:=by
 have H:=C.fG;refine af.H7 (I:=fun s u=>∃t:Nat,s=(false,(t:Int))/\t<=G.D.length/\Kept Nil v u) (μ:=fun s _=>((G.D.length:Int)-s.2).toNat) (s:=(false,0)) ⟨0,rfl,Nat.zero_le _,Kept.refl _ _⟩ ?_;rintro⟨_,_⟩ u ⟨t,et,ht,ku⟩;cases et;unfold af.B5;have Bu:=B.same ku;obtain⟨A0,c0,q1,qS⟩:=Bu.R.graph;refine Is.mk rfl ⟨_,Bu.R.c1,Is.mk rfl ⟨A0,_,c0,q1,Split.dec (fun cH=>?_) (fun gq=>?_)⟩⟩
 ·simp only at cH
  have dQ:t<G.D.length:=by omega
  obtain⟨nd,dW⟩:∃nd,G.D[t]? =some nd:=⟨_,List.getElem?_eq_getElem dQ⟩;obtain⟨_,_,fN⟩:=HQ H dW;refine Is.mk rfl ⟨_,Bu.R.c1,Is.mk rfl ⟨A0,_,c0,q1,qS.id (i:=(t:Int)) (by omega) (by rw [Int.toNat_natCast];exact dW) ?_⟩⟩;refine pO (C.same ku) (by omega) fN fun A5 n5 c5 E5 e5 d5 w5 r5 b5 _ k5=>⟨_,_,rfl,?_⟩;intro w6;have k6:Kept Nil w5 w6:=(Kept.refl _ _).alloc _;have IP:w6.heap[w5.heap.size]? =some (.cells zC bg (0,0)):=aH w5 _;clear_value w6;obtain⟨t1,t2,t3⟩:=dD IP (cs:=cF (G.gR nd.id) A5 n5 c5 E5 e5 d5) (by rw [aS];rfl);refine⟨⟨aS ..,dt _ _ _ _ _ _ _,fun j hj=>t1 j (by rw [aS];exact hj)⟩,?_⟩;intro w7
  replace t2:w7.heap[w5.heap.size]? =some (.cells (cF (G.gR nd.id) A5 n5 c5 E5 e5 d5) bg (0,0)):=t2
  replace t3:Kept (· =w5.heap.size) w6 w7:=t3
  clear_value w7;have zL:Kept Nil w5 w7:=k6.trans t3 (fun j hj e=>by omega);have sG:=ku.tt (k5.tt zL);have B7:=B.same sG;obtain⟨A1,c1,q2,QT⟩:=B7.R.graph;refine Is.mk rfl ⟨_,B7.R.c1,Is.mk rfl ⟨A1,_,c1,q2,QT.id (i:=(t:Int)) (by omega) (by rw [Int.toNat_natCast];exact dW) ?_⟩⟩;refine pO B7.C (by omega) fN fun A8 n8 c8 E8 e8 d8 w8 r8 b8 _ k8=>⟨_,_,rfl,?_⟩;intro w9;have k9:Kept Nil w8 w9:=(Kept.refl _ _).alloc _;have Va:w9.heap[w8.heap.size]? =some (.cells zC bg (0,0)):=aH w8 _;clear_value w9;obtain⟨s1,s2,s3⟩:=dD Va (cs:=cF (G.gR nd.id) A8 n8 c8 E8 e8 d8) (by rw [aS];rfl);refine⟨⟨aS ..,dt _ _ _ _ _ _ _,fun j hj=>s1 j (by rw [aS];exact hj)⟩,?_⟩;intro w10
  replace s2:w10.heap[w8.heap.size]? =some (.cells (cF (G.gR nd.id) A8 n8 c8 E8 e8 d8) bg (0,0)):=s2
  replace s3:Kept (· =w8.heap.size) w9 w10:=s3
  clear_value w10;have BU:Kept Nil w8 w10:=k9.trans s3 (fun j hj e=>by omega);have xV:=k8.tt BU;refine⟨_,⟨aS ..,Cells.bz (xV.heap t2 (fun h=>h))⟩,_,⟨aS ..,Cells.bz s2⟩,?_⟩;have m1:=(bL.hs r5).same (zL.tt xV);have m2:=(bL.hs r8).same BU;have l1:=(Row.bo b5).same (zL.tt xV);have l2:=(Row.bo b8).same BU;obtain⟨y1,y2⟩:=yp H fN m1 l1;obtain⟨y3,y4⟩:=yp H fN m2 l2;refine xI m1 m2 l1 l2 (by omega) (by omega) fun qR vE=>⟨true,rfl,Split.no rfl ?_⟩;simp only;rw [dw (n:=(t:Int)) (by omega) (by omega)];exact⟨(false,(t:Int)+1),rfl,⟨t+1,rfl,dQ,(sG.tt xV).tt vE⟩,by simp only;omega⟩
 ·rw [aP,af.KU]
  exact hQ u _ ku
end
section
variable{w w' u v:World}{F F1 FP:Nat->Prop}{cb c2 r x k:Nat}{G:GS}{m m1:CM}{FR:Nat->Prop}{K:Value->World->Prop}
theorem uW{A A':Option Addr}{n n' cx cx':Nat}{l l':List DN}(h:NS u FP A n l)(h':NS u FP A' n' l')(hn:n<=1000)(Oz:n'<=1000):
 ∃e f g i2,(Builtin.append_ #[cj,cj] cj #[.slice none 0 0,.slice A n cx]).run prog u=.ok (.slice e f g) i2/\Kept Nil u i2/\
  ∃j q p n2,(Builtin.append_ #[cj,cj] cj #[.slice e f g,.slice A' n' cx']).run prog i2=.ok (.slice j q p) n2/\Kept Nil u n2/\NS n2 (fun _=>True) j q (l++l')/\q=n+n':=by
 obtain⟨e,g,i2,news,r1,ke,q1,s1,k1⟩:=xz (l1:= []) (cx:=cx) (Kept.refl Nil u) (Row.nil u u.heap.size dr 33) rfl (fun i nd hi=>by simp at hi) h (by omega);rw [Nat.zero_add]at r1 ke;rw [List.nil_append]at q1 s1;obtain⟨j,p,n2,HU,r2,fW,q2,s2,k2⟩:=xz (cx:=cx') k1 ke q1 s1 h' (by omega);have e1:=h.len;have e2:=h'.len;exact⟨e,n,g,i2,r1,k1,j,n+n',p,n2,r2,k2,TP fW (by rw [List.length_append];omega) (s2.same k2),rfl⟩
theorem oq{F:Nat->Prop}{x:Nat}{D:DG}{P:List Int}{m:XM}(h:XV w F x D P m)(hK:K (.pointer (some ⟨m.g,0,none⟩)) w):bj prog ek.id #[.pointer (some ⟨x,0,none⟩)] w K:=
 ek.of (Split.no rfl (Is.mk rfl ⟨_,h.c0,hK⟩))
set_option maxHeartbeats 1000000 in
theorem Kf{i:Option Addr}{z:Int}{ca ra xa ka:Nat}{Fa FRa:Nat->Prop}{ma:CM}{Ga Gb:GS}{co rb xc kb:Nat}{Fo FRb:Nat->Prop}{mo:CM}{kc kd:Nat}
 (C:CV w Fa ca kc Ga ma) (Co:CV w Fo co kd Gb mo) (Ra:R3 w FRa ra xa ka Ga) (Rb:R3 w FRb rb xc kb Gb) (kn':∀ {u:World},Kept Nil w u->bj prog gw.id #[] u fun v3 w_4=>∃t:Bool,v3=.bool t/\K (.bool t) w_4):
 af.AY false (some ⟨ca,0,none⟩) (some ⟨co,0,none⟩) (some ⟨ra,0,none⟩) i (some ⟨rb,0,none⟩) z K w:=by
 unfold af.AY;intro w1;have k1:Kept Nil w w1:=(Kept.refl _ _).drew;clear_value w1;have Ca:=C.same k1;have Cb:=Co.same k1;have Ra:=Ra.same k1;have Rb:=Rb.same k1;obtain⟨A0,c0,q0,_⟩:=Ra.graph;obtain⟨A1,c1,q1,_⟩:=Rb.graph;obtain⟨xm,Xa,_⟩:=Ca.X;obtain⟨xm2,Xb,_⟩:=Cb.X;refine Is.mk rfl ⟨_,Ra.c1,Is.mk rfl ⟨A0,_,c0,q0,?_⟩⟩;refine tA Ca ⟨_,rfl,q0,Ra.c1,?_⟩;refine oq Xa ⟨_,rfl,q0,Ra.c1,?_⟩;obtain⟨_,_,_,_,Gv⟩:=Xa.G;refine Eh Gv ⟨_,rfl,q0,Ra.c1,Split.yes (by simp) ?_⟩;refine Is.mk rfl ⟨_,Rb.c1,Is.mk rfl ⟨A1,_,c1,q1,?_⟩⟩;refine tA Cb ⟨_,rfl,q1,Rb.c1,?_⟩;refine oq Xb ⟨_,rfl,q1,Rb.c1,?_⟩;obtain⟨_,_,_,_,Gw⟩:=Xb.G;exact Eh Gw ⟨_,rfl,q1,Rb.c1,Split.yes (by simp) (kn' k1)⟩
end
section
variable{w:World}{FP:Nat->Prop}{K:Value->World->Prop}
theorem xt(k:Nat)(root:HT)(l a:List DN):a.foldl (fun G s=>cU k G s.id s.ps) (oa k root l)=oa k root (l++a):=by
 unfold oa;rw [List.foldl_append]
set_option maxHeartbeats 4000000 in
theorem CY{A A' A'':Option Addr}{n n' n'' cx cx' Yz:Nat}{l a b:List DN}(hl:NS w FP A n l)(ha:NS w FP A' n' a)(hb:NS w FP A'' n'' b)(hn:n<9223372036854775808)(Oz:n'<9223372036854775808)(acQ:n''<9223372036854775808)(k:Int)(root:HT)(hT:rZ w)(hK:∀w',Kept Nil w w'->K (.bool true) w'):
 bj prog af.id #[.int .i64 k,.agg root.1,.slice A n cx,.slice A' n' cx',.slice A'' n'' Yz] w K:=by
 have hlen:=hl.len;have D4:=ha.len;have ac4:=hb.len;refine af.of ?_;unfold af.W;intro w1;have k1:Kept Nil w w1:=(Kept.refl _ _).alloc _;have lf:w1.heap[w.heap.size]? =some (.cells root.1 aj (0,0)):=aH w _;clear_value w1;have kn:∀ {v:World},Kept Nil w v->bj prog gw.id #[] v fun v3 w_4=>∃t:Bool,v3=.bool t/\K (.bool t) w_4:=fun k=>BT (hT.same k) fun w4 k4=>⟨true,rfl,hK w4 (k.tt k4)⟩;refine Split.dec (fun _=>kn k1) (fun Bl=>Split.dec (fun _=>kn k1) (fun lg=>?_));refine yn (hl.same k1) hn 12 fun b1 h1=>⟨b1,rfl,?_⟩;cases b1 with
 |false=>exact Split.yes rfl (kn k1)
 |true=>
 refine Split.no rfl (yn (ha.same k1) Oz 6 fun b2 h2=>⟨b2,rfl,?_⟩);cases b2 with
 |false=>exact Split.yes rfl (kn k1)
 |true=>
 refine Split.no rfl (yn (hb.same k1) acQ 6 fun b3 h3=>⟨b3,rfl,?_⟩);cases b3 with
 |false=>exact Split.yes rfl (kn k1)
 |true=>
 obtain⟨p1,l1⟩:=h1.1 rfl;obtain⟨p2,l2⟩:=h2.1 rfl;obtain⟨p3,l3⟩:=h3.1 rfl;obtain⟨k,rfl⟩:∃k':Nat,k=(k':Int):=⟨k.toNat,by omega⟩;have Jn:k<=100:=by omega
 refine Split.no rfl ⟨root.1,⟨root.2.1,Cells.bz lf⟩,?_⟩;refine qN (hl.same k1) (by omega) (fun nd dW=>by have:=p1 nd dW;omega) root Jn (hT.same k1) fun w2 F c m FR r x B k2 Ur=>⟨_,_,true,rfl,Split.no rfl ?_⟩;have oI:=k1.tt k2;have C2:=B.C;have GY:=C2.low;have hfo:=C2.fo;have hD0:=qM k root l;refine CD C2 (by omega) fun w3 co mo Co Mm k3=>⟨_,rfl,?_⟩;have nV:=oI.tt k3;have Ml:∀j,mo.own co j->j<w3.heap.size:=fun j e=>Co.low j (.inl e);intro u4;have k4:Kept Nil w3 u4:=(Kept.refl _ _).drew;clear_value u4;have qi:=nV.tt k4;refine⟨root.1,⟨root.2.1,Cells.bz ((k1.tt (k2.tt (k3.tt k4)) |>fun _=>(k2.tt (k3.tt k4)).heap lf (fun h=>h)))⟩,?_⟩;have vG:u4.heap[w.heap.size]? =some (.cells root.1 aj (0,0)):=(k2.tt (k3.tt k4)).heap lf (fun h=>h);obtain⟨e2,f2,g2,i2,r1,ki2,j2,q2,m2,n2,r2,SB,ns2,I7⟩:=uW (cx:=cx) (cx':=cx') (hl.same qi) (ha.same qi) (by omega) (by omega);refine⟨e2,f2,g2,i2,r1,⟨_,rfl,root.2.1,Cells.bz (ki2.heap vG (fun h=>h))⟩,j2,q2,m2,n2,r2,⟨_,rfl,root.2.1,Cells.bz (SB.heap vG (fun h=>h))⟩,?_⟩;have k0n:=qi.tt SB;refine qN ns2 (by omega) (fun nd dW=>by
  rcases List.mem_append.1 dW with h|h
  ·have:=p1 nd h;omega
  ·have:=p2 nd h;omega) root Jn (hT.same k0n) fun w5 Fx cx5 mx FRx rx xx Bx k5 lox=>⟨_,_,true,rfl,?_⟩
 have sH:=k0n.tt k5;intro u6;have k6:Kept Nil w5 u6:=(Kept.refl _ _).drew;clear_value u6;have nK:=sH.tt k6;have S5:u6.heap[w.heap.size]? =some (.cells root.1 aj (0,0)):=((SB.tt k5).tt k6).heap vG (fun h=>h);refine⟨root.1,⟨root.2.1,Cells.bz S5⟩,?_⟩;obtain⟨x2,y2,z2,a3,r3,ka3,b3,c3,d3,e3,r4,SC,ns3,Tf⟩:=uW (cx:=cx) (cx':=Yz) (hl.same nK) (hb.same nK) (by omega) (by omega);refine⟨x2,y2,z2,a3,r3,⟨_,rfl,root.2.1,Cells.bz (ka3.heap S5 (fun h=>h))⟩,b3,c3,d3,e3,r4,⟨_,rfl,root.2.1,Cells.bz (SC.heap S5 (fun h=>h))⟩,?_⟩;have sG:=nK.tt SC;refine qN ns3 (by omega) (fun nd dW=>by
  rcases List.mem_append.1 dW with h|h
  ·have:=p1 nd h;omega
  ·have:=p3 nd h;omega) root Jn (hT.same sG) fun w8 Fy cy my FRy ry xy By k8 loy=>⟨_,_,true,rfl,Split.no rfl (Split.no rfl ?_)⟩
 have wX:=sG.tt k8;have xW:Kept Nil w2 w8:=(((k3.tt k4).tt SB).tt ((k5.tt k6).tt SC)).tt k8;have LP:Kept Nil w3 w8:=((k4.tt SB).tt ((k5.tt k6).tt SC)).tt k8;have FG:Kept Nil w5 w8:=(k6.tt SC).tt k8;have FL:Kept Nil w1 w8:=k2.tt xW;have z23:=k3.size;have z3n:w3.heap.size<=n2.heap.size:=by have:=k4.size;have:=SB.size;omega
 have zn5:=k5.size;have z56:=k6.size;have z6e:=SC.size;have ze8:=k8.size;have z38:=LP.size;have z12:=k2.size;have z01:=k1.size;have Bx8:=Bx.same FG;have Co8:=Co.same LP;have GX:∀j,m.own c j->w1.heap.size<=j:=fun j e=>Ur j (.inl e);refine AP (m0:=m.own c) (F0:=F) (wI:=w1) (G0:=oa k root l) (l:=a) (hT.same k1) FL GX ⟨F,m,C2.same xW,fun j e=>.inl e,fun j e=>.inl e,Kept.refl _ _⟩ (ha.same k1) (by omega) (fun nd dW=>by have:=p2 nd dW;omega) (by omega) (by omega) fun v9 o9 hA9=>?_;obtain⟨F9,m9,C9,ho9,O0,k9⟩:=hA9;rw [xt]at C9;have z89:=k9.size;have Sw:Kept (fun j=>w1.heap.size<=j) w v9:=(wX.mono fun _ _ h=>h.elim).trans k9 (fun j _ e=>GX j e);have kI9:Kept Nil w1 v9:=FL.trans k9 (fun j hj e=>by have:=GX j e;omega);have Co9:CV v9 F co k (oa k root l) mo:=Co8.az k9 (fun j e e'=>by have:=Mm j e;have:=GY j (.inl e');omega) (fun j e e'=>hfo j e e');have Bx9:=Bx8.az k9 (fun j e e'=>by
  have:=lox j e;have:=GY j (.inl e');omega)
 have By9:=By.az k9 (fun j e e'=>by
  have:=loy j e;have:=GY j (.inl e');omega)
 unfold af.cI;have Wl:∀j,mo.own co j->w1.heap.size<=j:=fun j e=>by have:=Mm j e;omega
 refine AO (m0:=mo.own co) (F0:=F) (wI:=w1) (G0:=oa k root l) (l:=b) (hT.same k1) kI9 Wl ⟨F,mo,Co9,fun j e=>.inl e,fun j e=>.inl e,Kept.refl _ _⟩ (hb.same k1) (by omega) (fun nd dW=>by have:=p3 nd dW;omega) (by omega) (by omega) fun v10 o10 RX=>?_;obtain⟨F10,m10,C10,QS,amq,me⟩:=RX;rw [xt]at C10;have C9':CV v10 F9 c k (oa k root (l++a)) m9:=C9.az me (fun j e e'=>by
  have h1:=Mm j e';have h2:=Ml j e';rcases ho9 j e with h|h
  ·have:=GY j (.inl h);omega
  ·omega) (fun j e e'=>by
  have h1:=Mm j e';have h2:=Ml j e';rcases O0 j e with h|h
  ·have:=GY j (.inr h);omega
  ·omega)
 have YX:=Bx9.az me (fun j e e'=>by
  have:=lox j e;have:=Ml j e';omega)
 have YW:=By9.az me (fun j e e'=>by
  have:=loy j e;have:=Ml j e';omega)
 have abn:Kept Nil w1 v10:=kI9.trans me (fun j hj e=>by have:=Wl j e;omega);have xY:Kept Nil w v10:=k1.tt abn;have hDa:=qM k root (l++a);have hDb:=qM k root (l++b);rw [List.length_append]at hDa hDb;unfold af.rU;refine AN C9' YX (by omega) fun v11 z11 vE=>?_;unfold af.vD;refine AM (C10.same vE) (YW.same vE) (by omega) fun v12 z12 wW=>?_;have zT:=vE.tt wW;have qD:=xY.tt zT;exact Kf (kc:=k) (kd:=k) (C9'.same zT) (C10.same zT) (YX.same zT).R (YW.same zT).R (fun ku=>kn (qD.tt ku))
end
end Go.Proofs.YtnboahlopghcjaaGreatDoor
