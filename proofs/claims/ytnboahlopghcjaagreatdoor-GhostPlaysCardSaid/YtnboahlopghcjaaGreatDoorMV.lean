import Derived.Test.YtnboahlopghcjaaGreatDoorMU
import Derived.Test.YtnboahlopghcjaaGreatDoorMN
import Derived.Test.YtnboahlopghcjaaGreatDoorMJ
set_option linter.unusedVariables false
namespace Go.Proofs.YtnboahlopghcjaaGreatDoor
open Go.Proofs.Tryz
open Go Go.bV Go.RowKit
def abS(l:List DN)(I6:Nat):Prop:=(∀nd∈l,nd.ps.length<=6)/\l.length<=I6
noncomputable def jD(k:Nat)(G:GS)(id:HT)(l:List HT):oc:=if dp G.D id l=0 then cO k G (b7 G l) l else⟨dL,0,[],[]⟩
noncomputable def BI(k:Nat)(root:HT)(l:List DN):GS:=l.foldl (fun G s=>dz k G s.id s.ps) (dc root)
theorem zD(k:Nat)(G:GS)(h:HT)(l:List HT):(dz k G h l).D.length<=G.D.length+1:=by
 rw [r9];unfold lZ;split<;>simp
theorem rU(k:Nat): ∀(l:List DN) (G:GS),(l.foldl (fun G s=>dz k G s.id s.ps) G).D.length<=G.D.length+l.length
 | [],_=>by simp
 |s::l,G=>by
  have h1:=rU k l (dz k G s.id s.ps);have h2:=zD k G s.id s.ps;rw [List.foldl_cons,List.length_cons];omega
theorem BH(k:Nat)(root:HT)(l:List DN):(BI k root l).D.length<=1+l.length:=rU k l (dc root)
theorem Bt{k:Nat}{G:GS}{l:List DN}{i:Nat}{s:DN}(h:l[i]? =some s):(l.take (i+1)).foldl (fun G s=>dz k G s.id s.ps) G=dz k ((l.take i).foldl (fun G s=>dz k G s.id s.ps) G) s.id s.ps:=by
 rw [List.take_add_one,h];simp
section
variable{w w' v:World}{S F FP FR:Nat->Prop}{c r x k:Nat}{G:GS}{m:CM}{K:Value->World->Prop}
theorem Kv{A:Option Addr}{n cx:Nat}{l:List DN}(hl:NS w FP A n l)(hn:n<9223372036854775808)(I6:Nat)(hK: ∀x:Bool,(x=true↔abS l I6)->K (.bool x) w):
 bn prog cr.id #[.slice A n cx,.int .i64 (I6:Int)] w K:=by
 have hlen:=hl.len;refine cr.of (cr.b6 (I:=fun s w'=>w'=w/\ ∃i:Nat,s=(false,(i:Int))/\i<=n/\ ∀nd∈l.take i,nd.ps.length<=6) (μ:=fun s _=>((n:Int)-s.2).toNat) (s:=(false,0)) ⟨rfl,0,rfl,Nat.zero_le _,by simp⟩ ?_);rintro s w' ⟨rfl,i,rfl,hi,cS⟩;refine Split.dec (fun jf=>?_) (fun gu=>?_)
 ·simp only at jf
  have dP:i<n:=by omega
  obtain⟨nd,fw⟩: ∃nd,l[i]? =some nd:=⟨_,List.getElem?_eq_getElem (by omega)⟩;refine hl.ps (i:=(i:Int)) (by omega) (by rw [Int.toNat_natCast];exact fw) fun pA pn pc qg _=>?_;have qp:=qg.len;refine Split.dec (fun wo=>?_) (fun hle=>?_)
  ·refine hK false ⟨(fun h=>by cases h),fun h=>?_⟩
   have:=h.1 nd (List.mem_of_getElem? fw);omega
  ·simp only
   rw [gY (x:=(i:Int)+1) (by omega) (by omega)];refine⟨(false,(i:Int)+1),rfl,⟨rfl,i+1,rfl,dP,fun md hm=>?_⟩,by simp only;omega⟩;rw [List.take_add_one,fw]at hm;simp only [Option.toList_some,List.mem_append,List.mem_singleton]at hm;rcases hm with hm|rfl
   ·exact cS md hm
   ·omega
 ·simp only at gu
  rw [aS,cr.cX];rw [List.take_of_length_le (by omega)]at cS;refine hK _ ⟨fun h=>⟨cS,?_⟩,fun h=>decide_eq_true ?_⟩
  ·have:=of_decide_eq_true h;omega
  ·have:=h.2;omega
theorem lN(h:CV w F c k G m)(hT:tg w)(IA: ¬m.SX (Tryz.jn.g 1))(hD:G.D.length<=49)(pP:k<=1000){A:Option Addr}{n cx:Nat}{l:List HT}(Ff:HS w A n l)(hn:n<=5000)(id:HT)
 (hK: ∀w' F' m' A n c1 B e c2,CV w' F' c k (dz k G id l) m'->m'.x=m.x->Kept (m.own c) w w'->(∀j,m'.own c j->m.own c j\/w.heap.size<=j)->(∀j,F' j->F j\/w.heap.size<=j)->
   bO w' w.heap.size A n c1 (jD k G id l).merge->Row w' w.heap.size gQ 1 B e c2 (qW (jD k G id l).de)->(∀j,bg A=some j->bg B≠some j)->(∀j,bg A=some j\/bg B=some j-> ¬m'.own c j/\ ¬F' j)->
   K (.tuple #[.agg (cF (jD k G id l) A n c1 B e c2),.int .i64 (dp G.D id l)]) w'):
 bn prog dC.id #[.pointer (some ⟨c,0,none⟩),.agg id.1,.slice A n cx] w K:=by
 refine EE h hT IA hD pP Ff hn id (fun he w' k'=>?_) (fun he w' F' m' A n c1 B e c2 h1 h2 h3 h4 h5 h6 h7 h8 h9=>?_)
 ·have e1:jD k G id l=⟨dL,0,[],[]⟩:=if_neg he
  have:=hK w' F m none 0 0 none 0 0 (by rw [tz he];exact h.same k') rfl (k'.mono fun _ _ h=>h.elim) (fun j h=>.inl h) (fun j h=>.inl h) (by rw [e1];exact bO.nil _ _) (by rw [e1];exact Row.nil _ _ _ _) (fun j hj=>(by cases hj)) (fun j hj=>by rcases hj with hj|hj<;>cases hj);rw [e1]at this;exact this
 ·have e1:jD k G id l=cO k G (b7 G l) l:=if_pos he
  have:=hK w' F' m' A n c1 B e c2 h1 h2 h3 h4 h5 (by rw [e1];exact h6) (by rw [e1];exact h7) h8 h9;rw [e1,he]at this;exact this
theorem tQ(h:R3 w F r x k G)(hD:G.D.length<=300)(pP:k<=1000){A:Option Addr}{n cx:Nat}{l:List HT}(hl:HS w A n l)(hn:n<=5000)(id:HT)
 (hK: ∀w' A n c B e ce,R3 w' (fun j=>F j\/(w.heap.size<=j/\j<w'.heap.size)) r x k (dz k G id l)->Kept (fun j=>j=r\/j=x) w w'->HS w' A n (jD k G id l).merge->Bo w' B e (jD k G id l).de->(∀a,A=some a\/B=some a->w.heap.size<=a.block)->K (.tuple #[.agg (cF (jD k G id l) A n c B e ce),.int .i64 (dp G.D id l)]) w'):
 bn prog dA.id #[.pointer (some ⟨r,0,none⟩),.agg id.1,.slice A n cx] w K:=by
 have Wx:=h.lt;have LF:=h.lx;refine wQ h hD pP hl hn id (fun he w' k'=>?_) (fun he w' A n c B e ce h1 h2 h3 h4 h5=>?_)
 ·have e1:jD k G id l=⟨dL,0,[],[]⟩:=if_neg he
  have h':=h.same k';have hs:=k'.size;obtain⟨A1,c1,B1,Vx,g1,g2,g3⟩:=h'.top;have:=hK w' none 0 0 none 0 0 (by
   rw [tz he];exact⟨⟨A1,c1,B1,Vx,g1,g2.mono (fun j hj=>.inl hj),g3.mono (fun j hj=>.inl hj)⟩,h'.X.mono (fun j hj=>.inl hj) (fun e=>e.elim h.X.gU (fun e=>by omega)),fun e=>e.elim h.gU (fun e=>by omega),h.ne,h.eM,fun j e=>e.elim (h'.lo j) (fun e=>e.2)⟩) (k'.mono fun _ _ h=>h.elim) (by rw [e1];exact HS.nil _ _) (by rw [e1];exact⟨rfl,fun i b hi=>by simp at hi⟩) (fun a ha=>by rcases ha with ha|ha<;>cases ha)
  rw [e1]at this;exact this
 ·have e1:jD k G id l=cO k G (b7 G l) l:=if_pos he
  have:=hK w' A n c B e ce h1 h2 (by rw [e1];exact h3) (by rw [e1];exact h4) h5;rw [e1,he]at this;exact this
structure jT(w:World)(F:Nat->Prop)(c:Nat)(m:CM)(FR:Nat->Prop)(r x k:Nat)(G:GS):Prop where
 C:CV w F c k G m
 R:R3 w FR r x k G
 rS: ∀j,j=r\/j=x-> ¬m.own c j/\ ¬F j
 fS: ∀j,FR j-> ¬m.own c j
theorem jT.aC{S0:Nat->Prop}(B:jT w F c m FR r x k G)(hk:Kept S0 w w')(h1: ∀j,m.own c j\/F j\/FR j\/j=r\/j=x-> ¬S0 j):jT w' F c m FR r x k G:=
 ⟨B.C.aC hk (fun j e=>h1 j (.inl e)) (fun j e=>h1 j (.inr (.inl e))),B.R.aC hk (h1 _ (.inr (.inr (.inr (.inl rfl))))) (h1 _ (.inr (.inr (.inr (.inr rfl))))) (fun j e=>h1 j (.inr (.inr (.inl e)))),B.rS,B.fS⟩
theorem jT.same(B:jT w F c m FR r x k G)(hk:Kept Nil w w'):jT w' F c m FR r x k G:=B.aC hk (fun _ _ h=>h)
theorem jT.low(B:jT w F c m FR r x k G): ∀j,m.own c j\/F j\/FR j\/j=r\/j=x->j<w.heap.size:=fun j e=>by
 rcases e with e|e|e|e|e
 ·exact B.C.low j (.inl e)
 ·exact B.C.low j (.inr e)
 ·exact B.R.lo j e
 ·rw [e];exact B.R.lt
 ·rw [e];exact B.R.lx
theorem jT.after{F':Nat->Prop}{m':CM}{G':GS}(B:jT w F c m FR r x k G)(kv:Kept (m.own c) w v)(h1: ∀j,m'.own c j->m.own c j\/w.heap.size<=j)(h2: ∀j,F' j->F j\/w.heap.size<=j)(hC:CV v F' c k G' m'){u:World}(KY:Kept Nil v u):
 R3 u FR r x k G/\ ∀t,R3 t (fun j=>FR j\/(u.heap.size<=j/\j<t.heap.size)) r x k G'->Kept (fun j=>j=r\/j=x) u t->jT t F' c m' (fun j=>FR j\/(u.heap.size<=j/\j<t.heap.size)) r x k G':=by
 have hr:=B.R.lt;have hx:=B.R.lx;have nr: ∀j,j=r\/j=x-> ¬m'.own c j/\ ¬F' j:=fun j hj=>by
  have cI:j<w.heap.size:=by rcases hj with rfl|rfl;exact hr;exact hx
  refine⟨fun e=>?_,fun e=>?_⟩
  ·rcases h1 j e with e|e
   ·exact(B.rS j hj).1 e
   ·omega
  ·rcases h2 j e with e|e
   ·exact(B.rS j hj).2 e
   ·omega
 refine⟨(B.R.aC kv (fun e=>(B.rS r (.inl rfl)).1 e) (fun e=>(B.rS x (.inr rfl)).1 e) B.fS).same KY,fun t hR kt=>⟨?_,hR,nr,fun j hj e=>?_⟩⟩
 ·exact(hC.same KY).aC kt (fun j e e'=>(nr j e').1 e) (fun j e e'=>(nr j e').2 e)
 ·have mO:=hC.low j (.inl e)
  have:=KY.size;rcases hj with hj|hj
  ·rcases h1 j e with e|e
   ·exact B.fS j hj e
   ·have:=B.R.lo j hj;omega
  ·omega
end
end Go.Proofs.YtnboahlopghcjaaGreatDoor
namespace Go.Proofs.YtnboahlopghcjaaGreatDoor
open Go.Proofs.Tryz
open Go Go.bV Go.RowKit
section
variable{w w' v:World}{S F FP FR:Nat->Prop}{c r x k:Nat}{G:GS}{m:CM}{K:Value->World->Prop}
set_option maxHeartbeats 2000000 in
theorem BL{A:Option Addr}{n cx:Nat}{l:List DN}(hl:NS w FP A n l)(hn:n<=40)(qg: ∀nd∈l,nd.ps.length<=1000)(root:HT)(pP:k<=100)(hT:tg w)
 (hK: ∀v F c m FR r x,jT v F c m FR r x k (BI k root l)->Kept Nil w v->(∀j,m.own c j\/F j\/FR j\/j=r\/j=x->w.heap.size<=j)->K (.tuple #[.pointer (some ⟨c,0,none⟩),.pointer (some ⟨r,0,none⟩),.bool true]) v):
 bn prog aH.id #[.int .i64 (k:Int),.agg root.1,.slice A n cx] w K:=by
 have hlen:=hl.len;refine aH.of ?_;unfold aH.W;intro w1;have k1:Kept Nil w w1:=(Kept.refl _ _).alloc _;have xM:w1.heap[w.heap.size]? =some (.cells root.1 ag (0,0)):=aJ w _;clear_value w1;refine⟨root.1,⟨root.2.1,Cells.bC xM⟩,?_⟩;refine hU root pP fun w2 c q m C hm hq k2=>⟨_,_,rfl,Split.no rfl (Split.no rfl ⟨root.1,⟨root.2.1,Cells.bC (k2.heap xM (fun h=>h))⟩,?_⟩)⟩;refine wP root k fun w3 r x FR R hFR hr hx k3=>⟨_,rfl,?_⟩;have s1:=k1.size;have s2:=k2.size;have nS:=(k1.trans k2 (fun _ _ h=>h)).trans k3 (fun _ _ h=>h);have B0:jT w3 (· =q) c m FR r x k (dc root):=⟨C.same k3,R,fun j hj=>by
  have gu:w2.heap.size<=j:=by rcases hj with rfl|rfl;exact hr;exact hx
  exact⟨fun e=>by have:=C.low j (.inl e);omega,fun e=>by have:=C.low j (.inr e);omega⟩,fun j hj e=>by have:=hFR j hj;have:=C.low j (.inl e);omega⟩
 refine aH.b6 (I:=fun s v=> ∃(i:Nat) (F:Nat->Prop) (m:CM) (FR:Nat->Prop),s=(none,none,false,(i:Int))/\i<=n/\jT v F c m FR r x k ((l.take i).foldl (fun G s=>dz k G s.id s.ps) (dc root))/\Kept Nil w v/\ ∀j,m.own c j\/F j\/FR j\/j=r\/j=x->w.heap.size<=j) (μ:=fun s _=>((n:Int)-s.2.2.2).toNat) (s:=(none,none,false,0)) ⟨0,(· =q),m,FR,rfl,Nat.zero_le _,B0,nS,fun j e=>by
  rcases e with e|e|e|e|e
  ·have:=hm j e;omega
  ·have e:j=q:=e;omega
  ·have:=hFR j e;omega
  ·omega
  ·omega⟩ ?_
 clear B0 hFR hm C R hq k2 k3;rintro s v ⟨i,F,m,FR,rfl,hi,B,kv,Bi⟩;unfold aH.B1;refine Split.dec (fun cI=>?_) (fun gu=>?_)
 ·simp only at cI
  have dP:i<n:=by omega
  obtain⟨nd,fw⟩: ∃nd,l[i]? =some nd:=⟨_,List.getElem?_eq_getElem (by omega)⟩;have sU:l[((i:Nat):Int).toNat]? =some nd:=by rw [Int.toNat_natCast];exact fw
  have qp:=qg nd (List.mem_of_getElem? fw);have Lp:=Bt (k:=k) (G:=dc root) fw;have WT:=rU k (l.take i) (dc root);rw [List.length_take]at WT;have hD1:(dc root).D.length=1:=rfl;generalize hG:(l.take i).foldl (fun G s=>dz k G s.id s.ps) (dc root)=G at B Lp WT;have hTl:=hT.lt;have mO:=B.low;have sv:=kv.size;have j2: ∀ {u:World} {F' Xk:Nat->Prop} {m':CM} {b1 b2:Nat} {A1 E1 A2 E2:Option Addr} {n1 p1 e1 q1 n2 p2 e2 q2:Nat},jT u F' c m' Xk r x k (dz k G nd.id nd.ps)->Kept Nil w u->(∀j,m'.own c j\/F' j\/Xk j\/j=r\/j=x->w.heap.size<=j)->
   u.heap[b1]? =some (.cells (cF (jD k G nd.id nd.ps) A1 n1 p1 E1 e1 q1) bk (0,0))->u.heap[b2]? =some (.cells (cF (jD k G nd.id nd.ps) A2 n2 p2 E2 e2 q2) bk (0,0))->HS u A1 n1 (jD k G nd.id nd.ps).merge->HS u A2 n2 (jD k G nd.id nd.ps).merge->Bo u E1 e1 (jD k G nd.id nd.ps).de->Bo u E2 e2 (jD k G nd.id nd.ps).de->n1<=100000->e1<=100000->
   aH.J2 A n cx none none false (some ⟨c,0,none⟩) (some ⟨r,0,none⟩) (i:Int) ⟨b1,0,none⟩ (dp G.D nd.id nd.ps) ⟨b2,0,none⟩ (dp G.D nd.id nd.ps) (bJ (aH.e1 A n cx (some ⟨c,0,none⟩) (some ⟨r,0,none⟩)) (fun s v=> ∃(i:Nat) (F:Nat->Prop) (m:CM) (FR:Nat->Prop),s=(none,none,false,(i:Int))/\i<=n/\jT v F c m FR r x k ((l.take i).foldl (fun G s=>dz k G s.id s.ps) (dc root))/\Kept Nil w v/\ ∀j,m.own c j\/F j\/FR j\/j=r\/j=x->w.heap.size<=j) (fun s _=>((n:Int)-s.2.2.2).toNat) (none,none,false,(i:Int)) v (aH.q1 K)) u:=by
   intro u F' Xk m' b1 b2 A1 E1 A2 E2 n1 p1 e1 q1 n2 p2 e2 q2 B' ku aay h1 h2 g1 g2 g3 g4 g5 g6;unfold aH.J2;refine Split.no (by simp) ⟨_,⟨aY ..,Cells.bC h1⟩,_,⟨aY ..,Cells.bC h2⟩,?_⟩;refine Cf g1 g2 g3 g4 g5 g6 fun t kt=>⟨true,rfl,Split.no rfl ?_⟩;rw [dE (n:=(i:Int)) (by omega) (by omega)];refine⟨(none,none,false,(i:Int)+1),rfl,⟨i+1,F',m',Xk,rfl,dP,?_,ku.trans kt (fun _ _ h=>h),aay⟩,by simp only;omega⟩;rw [Lp];exact B'.same kt
  have j1: ∀ {u u0:World} {F':Nat->Prop} {m':CM} {b1:Nat} {A1 E1:Option Addr} {n1 p1 e1 q1:Nat},CV u0 F' c k (dz k G nd.id nd.ps) m'->Kept (m.own c) v u0->(∀j,m'.own c j->m.own c j\/v.heap.size<=j)->(∀j,F' j->F j\/v.heap.size<=j)->Kept Nil u0 u->
   u.heap[b1]? =some (.cells (cF (jD k G nd.id nd.ps) A1 n1 p1 E1 e1 q1) bk (0,0))->v.heap.size<=b1->bO u v.heap.size A1 n1 p1 (jD k G nd.id nd.ps).merge->Row u v.heap.size gQ 1 E1 e1 q1 (qW (jD k G nd.id nd.ps).de)->
   aH.J1 A n cx none none false (some ⟨c,0,none⟩) (some ⟨r,0,none⟩) (i:Int) ⟨b1,0,none⟩ (dp G.D nd.id nd.ps) (bJ (aH.e1 A n cx (some ⟨c,0,none⟩) (some ⟨r,0,none⟩)) (fun s v=> ∃(i:Nat) (F:Nat->Prop) (m:CM) (FR:Nat->Prop),s=(none,none,false,(i:Int))/\i<=n/\jT v F c m FR r x k ((l.take i).foldl (fun G s=>dz k G s.id s.ps) (dc root))/\Kept Nil w v/\ ∀j,m.own c j\/F j\/FR j\/j=r\/j=x->w.heap.size<=j) (fun s _=>((n:Int)-s.2.2.2).toNat) (none,none,false,(i:Int)) v (aH.q1 K)) u:=by
   intro u u0 F' m' b1 A1 E1 n1 p1 e1 q1 hC k0 mr Hx ku xM Sh rA rE;unfold aH.J1;have Yf:Kept Nil w u0:=kv.trans k0 (fun j hj e=>by have:=Bi j (.inl e);omega);have PL:Kept Nil w u:=Yf.trans ku (fun _ _ h=>h);have suv:=k0.size;have suu:=ku.size;intro u1;have Cx:Kept Nil u u1:=(Kept.refl _ _).drew;clear_value u1;have D7:=PL.trans Cx (fun _ _ h=>h);have s11:=Cx.size;have I5:n1<=100000/\e1<=100000:=by
    have Vx:=bO.len rA;have e2':=(Row.bo rE).len;have hG1:=hC.eM;by_cases hc:dp G.D nd.id nd.ps=0
    ·have kQ:jD k G nd.id nd.ps=(dz k G nd.id nd.ps).ga nd.id:=by
      rw [(mW B.C.eM hc).1];exact if_pos hc
     have gZ:nd.id∈ids (dz k G nd.id nd.ps).D:=by rw [kH hc];simp [ids]
     obtain⟨z1,z2⟩:=mR hG1 gZ;have:=zD k G nd.id nd.ps;rw [kQ]at Vx e2';omega
    ·have kQ:jD k G nd.id nd.ps=⟨dL,0,[],[]⟩:=if_neg hc
     rw [kQ]at Vx e2';simp at Vx e2';omega
   have R9: ∀ {t:World},Kept Nil w t->Cells t (((A.get!).add (((i:Nat):Int).toNat*33)).add 0) nd.id.1:=by
    intro t kt;obtain⟨a,pA,pn,pc,rfl,_,_,h4,_,_⟩:=(hl.aC kt (fun _ _ h=>h)).at_ i nd fw;intro j z hj;rw [add_zero,Int.toNat_natCast];exact h4 j z (tU hj)
   have ps1: ∃a pA pn pc,A=some a/\HS w pA pn nd.ps/\ ∀ {t:World},Kept Nil w t->t.cell? ((a.add (((i:Nat):Int).toNat*33)).add 32)=some (.slice pA pn pc):=by
    obtain⟨a,pA,pn,pc,rfl,_,_,h4,h5,_⟩:=hl.at_ i nd fw;exact⟨a,pA,pn,pc,rfl,h5,fun kt=>by rw [Int.toNat_natCast];exact kt.cell (h4 32 _ (po _ _)) (fun h=>h)⟩
   obtain⟨a,pA,pn,pc,rfl,Bc,qq⟩:=ps1;have JH:=Bc.len;have hb:0<=(i:Int)/\(i:Int)<(n:Int):=⟨by omega,by omega⟩;refine⟨hb,Is.mk rfl ⟨nd.id.1,⟨nd.id.2.1,R9 D7⟩,hb,Is.mk rfl ⟨pA,pn,pc,qq D7,?_,?_⟩⟩⟩
   ·obtain⟨hR,OZ⟩:=B.after k0 mr Hx hC (ku.trans Cx (fun _ _ h=>h))
    refine tQ hR (by omega) (by omega) (Bc.same D7) (by omega) nd.id fun t A2 n2 p2 E2 e2 q2 hRt kt P9 la O1=>⟨_,_,rfl,?_⟩;have B':=OZ t hRt kt;have st:=kt.size;intro t1;have kt1:Kept Nil t t1:=(Kept.refl _ _).alloc _;have Lj:t1.heap[t.heap.size]? =some (.cells zC bk (0,0)):=aJ t _;clear_value t1;obtain⟨z1,z2,z3⟩:=dT Lj (cs:=cF (jD k G nd.id nd.ps) A2 n2 p2 E2 e2 q2) (by rw [aY];rfl);refine⟨⟨aY ..,ek _ _ _ _ _ _ _,fun j hj=>z1 j (by rw [aY];exact hj)⟩,?_⟩;have RD:Kept Nil t (setCells t1 ⟨t.heap.size,0,none⟩ (cF (jD k G nd.id nd.ps) A2 n2 p2 E2 e2 q2).toList 0):=kt1.trans z3 (fun j hj e=>by omega);have KR: ∀j,v.heap.size<=j-> ¬(j=r\/j=x):=fun j hj e=>by have:=mO j (.inr (.inr (.inr e)));omega
    have Rx:Kept (fun j=>j=r\/j=x) u _:=(Cx.mono fun _ _ h=>h.elim).trans (kt.trans RD (fun _ _ h=>h.elim)) (fun _ _ h=>h);refine aH.pO (j2 (B'.same RD) (D7.trans (kt.trans RD (fun _ _ h=>h.elim)) (fun j hj e=>by have:=Bi j (.inr (.inr (.inr e)));omega)) (fun j e=>?_) (Rx.heap xM (KR _ Sh)) z2 ((bO.hs rA).aC Rx (fun a ha=>KR _ (Row.bC rA (k:=a.block) (by rw [ha];rfl)).1)) (P9.same RD) ((Row.bo rE).aC Rx (fun a ha=>KR _ (Row.bC rE (k:=a.block) (by rw [ha];rfl)).1)) (la.same RD) I5.1 I5.2);rcases e with e|e|(e|e)|e
    ·rcases mr j e with e|e
     ·exact Bi j (.inl e)
     ·omega
    ·rcases Hx j e with e|e
     ·exact Bi j (.inr (.inl e))
     ·omega
    ·exact Bi j (.inr (.inr (.inl e)))
    ·omega
    ·exact Bi j (.inr (.inr (.inr e)))
   ·intro u2
    have Fa:Kept Nil u1 u2:=(Kept.refl _ _).alloc _;have Li:u2.heap[u1.heap.size]? =some (.cells zC bk (0,0)):=aJ u1 _;clear_value u2;have Jc:=D7.trans Fa (fun _ _ h=>h);have s22:=Fa.size;refine⟨qq Jc,⟨_,rfl,nd.id.2.1,R9 Jc⟩,?_⟩;obtain⟨hR,OZ⟩:=B.after k0 mr Hx hC ((ku.trans Cx (fun _ _ h=>h)).trans Fa (fun _ _ h=>h));refine tQ hR (by omega) (by omega) (Bc.same Jc) (by omega) nd.id fun t A2 n2 p2 E2 e2 q2 hRt kt P9 la O1=>⟨_,_,rfl,?_⟩;have B':=OZ t hRt kt;have st:=kt.size;have KR: ∀j,v.heap.size<=j-> ¬(j=r\/j=x):=fun j hj e=>by have:=mO j (.inr (.inr (.inr e)));omega
    have hxt:=kt.heap Li (KR _ (by omega));obtain⟨z1,z2,z3⟩:=dT hxt (cs:=cF (jD k G nd.id nd.ps) A2 n2 p2 E2 e2 q2) (by rw [aY];rfl);refine⟨⟨aY ..,ek _ _ _ _ _ _ _,fun j hj=>z1 j (by rw [aY];exact hj)⟩,?_⟩;have lo0: ∀j,m'.own c j\/F' j->j<u1.heap.size:=fun j e=>by have:=hC.low j e;omega
    have B2:jT (setCells t ⟨u1.heap.size,0,none⟩ (cF (jD k G nd.id nd.ps) A2 n2 p2 E2 e2 q2).toList 0) F' c m' (fun j=>FR j\/(u2.heap.size<=j/\j<t.heap.size)) r x k (dz k G nd.id nd.ps):=B'.aC z3 (fun j e e'=>by
     have l1:=aQ Li;rcases e with e|e|(e|e)|e
     ·have:=lo0 j (.inl e);omega
     ·have:=lo0 j (.inr e);omega
     ·have:=B.R.lo j e;omega
     ·omega
     ·have:=mO j (.inr (.inr (.inr e)));omega)
    have Rx:Kept (fun j=>j=r\/j=x) u t:=((Cx.trans Fa (fun _ _ h=>h)).mono fun _ _ h=>h.elim).trans kt (fun _ _ h=>h);have M0:Kept (fun j=>j=r\/j=x) u _:=Rx.trans z3 (fun j hj e=>by omega);refine aH.pO (j2 B2 ((Jc.trans kt (fun j hj e=>by have:=Bi j (.inr (.inr (.inr e)));omega)).trans z3 (fun j hj e=>by have:=D7.size;omega)) (fun j e=>?_) (M0.heap xM (KR _ Sh)) z2 ((bO.hs rA).aC M0 (fun a ha=>KR _ (Row.bC rA (k:=a.block) (by rw [ha];rfl)).1)) (P9.aC z3 (fun a ha e=>by have:=O1 a (.inl ha);have:=aQ Li;omega)) ((Row.bo rE).aC M0 (fun a ha=>KR _ (Row.bC rE (k:=a.block) (by rw [ha];rfl)).1)) (la.aC z3 (fun a ha e=>by have:=O1 a (.inr ha);have:=aQ Li;omega)) I5.1 I5.2)
    ·rcases e with e|e|(e|e)|e
     ·rcases mr j e with e|e
      ·exact Bi j (.inl e)
      ·omega
     ·rcases Hx j e with e|e
      ·exact Bi j (.inr (.inl e))
      ·omega
     ·exact Bi j (.inr (.inr (.inl e)))
     ·omega
     ·exact Bi j (.inr (.inr (.inr e)))
  intro w2;have k2:Kept Nil v w2:=(Kept.refl _ _).drew;clear_value w2;have Rn:=kv.trans k2 (fun _ _ h=>h);have sv2:=k2.size;have R9: ∀ {t:World},Kept Nil w t->Cells t ((A.get!.add (((i:Nat):Int).toNat*33)).add 0) nd.id.1:=by
   intro t kt;obtain⟨a,pA,pn,pc,rfl,_,_,h4,_,_⟩:=(hl.aC kt (fun _ _ h=>h)).at_ i nd fw;intro j z hj;rw [add_zero,Int.toNat_natCast];exact h4 j z (tU hj)
  obtain⟨a,pA,pn,pc,hA,Bc,qq⟩: ∃a pA pn pc,A=some a/\HS w pA pn nd.ps/\ ∀ {t:World},Kept Nil w t->t.cell? ((a.add (((i:Nat):Int).toNat*33)).add 32)=some (.slice pA pn pc):=by
   obtain⟨a,pA,pn,pc,hA,_,_,h4,h5,_⟩:=hl.at_ i nd fw;exact⟨a,pA,pn,pc,hA,h5,fun kt=>by rw [Int.toNat_natCast];exact kt.cell (h4 32 _ (po _ _)) (fun h=>h)⟩
  subst hA;have JH:=Bc.len;have hb:0<=(i:Int)/\(i:Int)<(n:Int):=⟨by omega,by omega⟩;have IA: ¬m.SX (Tryz.jn.g 1):=fun e=>by have:=Bi _ (.inl (.inl e));omega
  refine⟨hb,Is.mk rfl ⟨nd.id.1,⟨nd.id.2.1,R9 Rn⟩,hb,Is.mk rfl ⟨pA,pn,pc,qq Rn,?_,?_⟩⟩⟩
  ·refine lN (B.C.same k2) (hT.same Rn) IA (by omega) (by omega) (Bc.same Rn) (by omega) nd.id fun u F' m' A1 n1 p1 E1 e1 q1 hC _ ku mr Hx rA rE _ _=>⟨_,_,rfl,?_⟩
   intro u1;have Cx:Kept Nil u u1:=(Kept.refl _ _).alloc _;have Lj:u1.heap[u.heap.size]? =some (.cells zC bk (0,0)):=aJ u _;clear_value u1;obtain⟨z1,z2,z3⟩:=dT Lj (cs:=cF (jD k G nd.id nd.ps) A1 n1 p1 E1 e1 q1) (by rw [aY];rfl);refine⟨⟨aY ..,ek _ _ _ _ _ _ _,fun j hj=>z1 j (by rw [aY];exact hj)⟩,?_⟩;have Fa:Kept Nil u (setCells u1 ⟨u.heap.size,0,none⟩ (cF (jD k G nd.id nd.ps) A1 n1 p1 E1 e1 q1).toList 0):=Cx.trans z3 (fun j hj e=>by omega);have su:=ku.size;refine aH.nH (j1 hC ((k2.mono fun _ _ h=>h.elim).trans ku (fun _ _ h=>h)) (fun j e=>(mr j e).imp (fun h=>h) (fun h=>by omega)) (fun j e=>(Hx j e).imp (fun h=>h) (fun h=>by omega)) Fa z2 (by omega) ?_ ?_)
   ·exact Row.base (Row.aC rA Fa (fun _ _ h=>h)) (fun j hj=>by have:=(Row.bC rA hj).1;omega)
   ·exact Row.base (Row.aC rE Fa (fun _ _ h=>h)) (fun j hj=>by have:=(Row.bC rE hj).1;omega)
  ·intro w3
   have k3:Kept Nil w2 w3:=(Kept.refl _ _).alloc _;have yW:w3.heap[w2.heap.size]? =some (.cells zC bk (0,0)):=aJ w2 _;clear_value w3;have KX:=Rn.trans k3 (fun _ _ h=>h);have s23:=k3.size;have l3:=aQ yW;refine⟨qq KX,⟨_,rfl,nd.id.2.1,R9 KX⟩,?_⟩;refine lN (B.C.same (k2.trans k3 (fun _ _ h=>h))) (hT.same KX) IA (by omega) (by omega) (Bc.same KX) (by omega) nd.id fun u F' m' A1 n1 p1 E1 e1 q1 hC _ ku mr Hx rA rE _ _=>⟨_,_,rfl,?_⟩;have su:=ku.size;have hxu:=ku.heap yW (fun e=>by have:=mO _ (.inl e);omega);obtain⟨z1,z2,z3⟩:=dT hxu (cs:=cF (jD k G nd.id nd.ps) A1 n1 p1 E1 e1 q1) (by rw [aY];rfl);refine⟨⟨aY ..,ek _ _ _ _ _ _ _,fun j hj=>z1 j (by rw [aY];exact hj)⟩,?_⟩;have no1: ∀j,m'.own c j->j≠w2.heap.size:=fun j e e'=>by
    rcases mr j e with e|e
    ·have:=mO j (.inl e);omega
    ·omega
   have no2: ∀j,F' j->j≠w2.heap.size:=fun j e e'=>by
    rcases Hx j e with e|e
    ·have:=mO j (.inr (.inl e));omega
    ·omega
   refine aH.nH (j1 (hC.aC z3 no1 no2) ((((k2.trans k3 (fun _ _ h=>h)).mono fun _ _ h=>h.elim).trans ku (fun _ _ h=>h)).trans z3 (fun j hj e=>by omega)) (fun j e=>(mr j e).imp (fun h=>h) (fun h=>by omega)) (fun j e=>(Hx j e).imp (fun h=>h) (fun h=>by omega)) (Kept.refl _ _) z2 sv2 ?_ ?_)
   ·exact Row.base (Row.aC rA z3 (fun j hj e=>by have:=(Row.bC rA hj).1;omega)) (fun j hj=>by have:=(Row.bC rA hj).1;omega)
   ·exact Row.base (Row.aC rE z3 (fun j hj e=>by have:=(Row.bC rE hj).1;omega)) (fun j hj=>by have:=(Row.bC rE hj).1;omega)
 ·simp only at gu
  have:i=n:=by omega
  subst this;rw [aS,aH.cX];rw [List.take_of_length_le (by omega)]at B;exact hK v F c m FR r x B kv Bi
end
end Go.Proofs.YtnboahlopghcjaaGreatDoor
namespace Go.Proofs.YtnboahlopghcjaaGreatDoor
open Go.Proofs.Tryz
open Go Go.bV Go.RowKit
section
variable{k:Nat}{G:GS}{s:HT}
theorem yC(G:GS)(s:HT):cy G s [s]= []:=by
 rw [List.eq_nil_iff_forall_not_mem];intro h hm;obtain⟨h1,h2,h3⟩:=ju.1 hm;rcases h1 with⟨_,p,hp,ha⟩|h1
 ·rw [List.mem_singleton]at hp;subst hp;exact h3 ha
 ·rw [List.mem_singleton]at h1;exact h2 h1
theorem pf(k:Nat)(G:GS)(s:HT):cO k G s [s]=⟨s,G.score s+1,[],[]⟩/\(ft k G s [s]).wd=G.world s++ [s]:=by
 unfold cO ft;rw [yC];exact⟨rfl,rfl⟩
variable{r a b c:HT}(Eo:r≠a)(yZ:r≠b)(Lt:r≠c)(lL:a≠b)(L6:a≠c)(Hp:b≠c)
include Eo yZ lL in
theorem kG2(k:Nat): ∃G1 G2:GS,dz k (dc r) a [r]=G1/\dz k G1 b [r]=G2/\dp (dc r).D a [r]=0/\dp G1.D b [r]=0/\iS k G2/\G1.D= [⟨r,[]⟩,⟨a,[r]⟩]/\G2.D= [⟨r,[]⟩,⟨a,[r]⟩,⟨b,[r]⟩]/\G2.score a=1/\G2.score b=1/\G2.score r=0/\G2.world a= [r]/\G2.world b= [r]/\
 (∀x,eZ G2.D x a↔x=r)/\(∀x,eZ G2.D x b↔x=r)/\ ∀x,¬eZ G2.D x r:=by
 have H0:=lE k r;have c1:dp (dc r).D a [r]=0:=(k1 Eo).1;have H1:=H0.add a [r];have D1:(dz k (dc r) a [r]).D= [⟨r,[]⟩,⟨a,[r]⟩]:=by rw [r9];exact(k1 Eo).2
 obtain⟨r1,r2⟩:=H0.root ⟨r,[]⟩ rfl
 replace r1:(dc r).ga r=_:=r1
 replace r2:(dc r).world r=_:=r2
 have rP:r∈ids (dc r).D:=by simp [dc,ids]
 obtain⟨n1,n2⟩:=mW H0 c1;obtain⟨o1,o2⟩:=mV (h:=a) (ps:= [r]) H0 rP
 replace n1:(dz k (dc r) a [r]).ga a=cO k (dc r) r [r]:=n1
 replace n2:(dz k (dc r) a [r]).world a=(ft k (dc r) r [r]).wd:=n2
 rw [(pf k (dc r) r).1]at n1;rw [(pf k (dc r) r).2,r2]at n2;have sr:(dc r).score r=0:=by unfold GS.score;rw [r1]
 rw [sr]at n1;rw [r1]at o1;rw [r2]at o2;generalize hG1:dz k (dc r) a [r]=G1 at*;have c2:dp G1.D b [r]=0:=by rw [D1];exact(k2 yZ lL).1
 have D2:(dz k G1 b [r]).D= [⟨r,[]⟩,⟨a,[r]⟩,⟨b,[r]⟩]:=by rw [r9,D1];exact(k2 yZ lL).2
 have H2:=H1.add b [r];obtain⟨p1,p2⟩:=mW H1 c2
 replace p1:(dz k G1 b [r]).ga b=cO k G1 r [r]:=p1
 replace p2:(dz k G1 b [r]).world b=(ft k G1 r [r]).wd:=p2
 rw [(pf k G1 r).1]at p1;rw [(pf k G1 r).2,o2]at p2;have sr1:G1.score r=0:=by unfold GS.score;rw [o1]
 rw [sr1]at p1;have kQ:r∈ids G1.D:=by rw [D1];simp [ids]
 have Qg:a∈ids G1.D:=by rw [D1];simp [ids]
 obtain⟨q1,_⟩:=mV (h:=b) (ps:= [r]) H1 kQ;obtain⟨q3,q4⟩:=mV (h:=b) (ps:= [r]) H1 Qg;have W2:=H2.W;have hr: ∀x,¬eZ (dz k G1 b [r]).D x r:=fun x h=>by
  obtain⟨p,hp,_⟩:=(tw W2 (i:=0) (nd:=⟨r,[]⟩) (by rw [D2];rfl) x).1 h;simp at hp
 have hx: ∀(i:Nat) (y:HT),(dz k G1 b [r]).D[i]? =some ⟨y,[r]⟩-> ∀x,eZ (dz k G1 b [r]).D x y↔x=r:=fun i y hi x=>by
  rw [tw W2 (i:=i) (nd:=⟨y,[r]⟩) hi x];constructor
  ·rintro⟨p,hp,e⟩
   rw [List.mem_singleton]at hp;subst hp;rcases e with e|e
   ·exact e
   ·exact absurd e (hr x)
  ·rintro rfl
   exact⟨x,by simp,.inl rfl⟩
 refine⟨G1,_,rfl,rfl,c1,c2,H2,D1,D2,?_,?_,?_,?_,p2,hx 1 a (by rw [D2];rfl),hx 2 b (by rw [D2];rfl),hr⟩
 ·unfold GS.score;rw [q3,n1]
 ·unfold GS.score;rw [p1]
 ·unfold GS.score;rw [q1,o1]
 ·rw [q4,n2];rfl
include Eo yZ Lt lL L6 Hp in
theorem kG3(cI:cI b a=true){G1 G2:GS}(h1:dz 0 (dc r) a [r]=G1)(h2:dz 0 G1 b [r]=G2):dp G2.D c [a,b]=0/\jD 0 G2 c [a,b]=⟨a,2,[b],[false]⟩:=by
 obtain⟨G1',G2',e1,e2,_,_,H2,_,D2,sa,sb,_,wa,_,aa,ab,ar⟩:=kG2 Eo yZ lL 0;rw [h1]at e1;subst e1;rw [h2]at e2;subst e2;have c3:dp G2.D c [a,b]=0:=by rw [D2];exact(k3 Lt lL L6 Hp).1
 refine⟨c3,?_⟩;unfold jD;rw [if_pos c3];have OC:gl G2 a b=false:=by
  unfold gl;rw [sa,sb];cases h:Go.Proofs.YtnboahlopghcjaaGreatDoor.cI a b
  ·rfl
  ·have:=jA h cI
   rw [gL]at this;cases this
 have ml:b7 G2 [a,b]=a:=by
  show(if gl G2 a b then b else a)=a;rw [OC];rfl
 rw [ml];have hm:cy G2 a [a,b]= [b]:=by
  refine(rH (by simp [SO]) fun x=>?_).symm;rw [List.mem_singleton,uf];constructor
  ·rintro rfl
   exact⟨.inr (by simp),fun e=>lL e.symm,fun e=>yZ ((aa x).1 e).symm⟩
  ·rintro⟨h|h,h3,h4⟩
   ·obtain⟨_,p,hp,hA⟩:=h
    simp at hp;rcases hp with rfl|rfl
    ·exact absurd hA h4
    ·exact absurd ((aa x).2 ((ab x).1 hA)) h4
   ·simp at h
    rcases h with h|h
    ·exact absurd h h3
    ·exact h
 have hb:nN 0 G2.D [r,a] b=false:=by
  unfold nN;rw [decide_eq_false_iff_not];rintro⟨h,_⟩;have:a∈bN G2.D [r,a] b:=fh.2 ⟨by simp,lL,fun e=>Eo ((ab a).1 e).symm,fun e=>yZ ((aa b).1 e).symm⟩;have h0:bN G2.D [r,a] b= []:=List.eq_nil_of_length_eq_zero (by omega);rw [h0]at this;simp at this
 unfold cO ft;rw [hm,wa,sa];have hf: [b].foldl (nD 0 G2.D) ⟨[r]++ [a],[]⟩=⟨[r,a],[false]⟩:=by
  show nD 0 G2.D ⟨[r,a],[]⟩ b=_
  unfold nD;rw [hb];rfl
 rw [hf];rfl
end
section
variable{w w':World}{K:Value->World->Prop}
set_option maxHeartbeats 1000000 in
theorem AH(hT:tg w)(hK: ∀w',Kept Nil w w'->K (.bool true) w'):bn prog gE.id #[] w K:=by
 let r:=hx 1 (by omega)
 let a:=hx 3 (by omega)
 let b:=hx 2 (by omega)
 let c:=hx 4 (by omega)
 have Eo:r≠a:=rN (by omega);have yZ:r≠b:=rN (by omega);have Lt:r≠c:=rN (by omega);have lL:a≠b:=rN (by omega);have L6:a≠c:=rN (by omega);have Hp:b≠c:=rN (by omega);have Z7:cI b a=true:=by decide
 refine gE.of ?_;unfold gE.W;intro w1 w2 w3 w4;obtain⟨⟨f1,f2,f3,f4⟩,hr,ha,hb,hc,l1,l2,l3,l4,k⟩:=four w r a b c;refine⟨⟨r.2.1,r.2.one,f1⟩,?_⟩;intro w7;refine⟨⟨a.2.1,a.2.one,f2⟩,?_⟩;intro w10;refine⟨⟨b.2.1,b.2.one,f3⟩,?_⟩;intro kN;refine⟨⟨c.2.1,c.2.one,f4⟩,?_⟩;intro iz
 replace hr:iz.heap[w.heap.size]? =some (.cells r.1 ag (0,0)):=hr
 replace ha:iz.heap[w1.heap.size]? =some (.cells a.1 ag (0,0)):=ha
 replace hb:iz.heap[w2.heap.size]? =some (.cells b.1 ag (0,0)):=hb
 replace hc:iz.heap[w3.heap.size]? =some (.cells c.1 ag (0,0)):=hc
 replace k:Kept Nil w iz:=k
 replace l1:w.heap.size<w1.heap.size:=l1
 replace l2:w1.heap.size<w2.heap.size:=l2
 replace l3:w2.heap.size<w3.heap.size:=l3
 replace l4:w3.heap.size<iz.heap.size:=l4
 clear f1 f2 f3 f4;clear_value iz;clear kN w10 w7;clear_value w3;clear w4;clear_value w2;clear_value w1;have hTl:=hT.lt;have QQ:=k.size;have box: ∀ {u:World} {S:Nat->Prop},Kept S iz u->(∀k,S k->iz.heap.size<=k)->Cells u (⟨w.heap.size,0,none⟩:Addr) r.1/\Cells u (⟨w1.heap.size,0,none⟩:Addr) a.1/\Cells u (⟨w2.heap.size,0,none⟩:Addr) b.1/\Cells u (⟨w3.heap.size,0,none⟩:Addr) c.1:=fun ku hS=>
  ⟨Cells.bC (ku.heap hr (fun e=>by have:=hS _ e;omega)),Cells.bC (ku.heap ha (fun e=>by have:=hS _ e;omega)),Cells.bC (ku.heap hb (fun e=>by have:=hS _ e;omega)),Cells.bC (ku.heap hc (fun e=>by have:=hS _ e;omega))⟩
 obtain⟨G1,G2,e1,e2,c1,c2,H2,D1,D2,_⟩:=kG2 Eo yZ lL 0;obtain⟨c3,hR⟩:=kG3 Eo yZ Lt lL L6 Hp Z7 e1 e2;refine⟨r.1,⟨r.2.1,Cells.bC hr⟩,hU r (k:=0) (by omega) fun nQ cc q m C hm hq sA=>⟨_,_,rfl,Split.no rfl (Split.no rfl ?_)⟩⟩;obtain⟨b1,b2,b3,b4⟩:=box sA (fun _ h=>h.elim);refine⟨a.1,⟨a.2.1,b2⟩,r.1,⟨r.2.1,b1⟩,r.2.1,?_⟩;intro lf;have pN:Kept Nil nQ lf:=(Kept.refl _ _).alloc _;have Kh:HS lf (some ⟨nQ.heap.size,0,none⟩) 1 [r]:=jb nQ r;clear_value lf;have AO:=sA.trans pN (fun _ _ h=>h);have V7:=AO.size;refine lN (C.same pN) (hT.same (k.trans AO (fun _ _ h=>h))) (fun e=>by have:=hm _ (.inl e);omega) (by simp [dc]) (by omega) Kh (by omega) a fun oe F2 m2 A2 n2 p2 E2 q2 z2 C2 _ yQ P9 _ _ _ _ _=>⟨_,_,rfl,?_⟩;rw [e1]at C2;have XX: ∀j,m2.own cc j->iz.heap.size<=j:=fun j e=>(P9 j e).elim (hm j) (fun h=>by omega);have K9:Kept (fun q=>iz.heap.size<=q) iz oe:=(AO.mono (S':=fun q=>iz.heap.size<=q) (fun _ _ h=>h.elim)).trans yQ (fun q _ h=>hm q h);obtain⟨b1,b2,b3,b4⟩:=box K9 (fun _ h=>h);refine⟨b.1,⟨b.2.1,b3⟩,r.1,⟨r.2.1,b1⟩,r.2.1,?_⟩;intro Fu;have K5:Kept Nil oe Fu:=(Kept.refl _ _).alloc _;have UH:HS Fu (some ⟨oe.heap.size,0,none⟩) 1 [r]:=jb oe r;clear_value Fu;have Gx:=K9.trans K5 (fun _ _ h=>h.elim);have s31:=Gx.size;refine lN (C2.same K5) ((hT.same k).aC Gx (fun e=>by omega)) (fun e=>by have:=XX _ (.inl e);omega) (by rw [D1];simp) (by omega) UH (by omega) b fun ra F3 m3 A3 n3 p3 E3 q3 z3 C3 _ AJ Z2 _ _ _ _ _=>⟨_,_,rfl,?_⟩;rw [e2]at C3;have om3: ∀j,m3.own cc j->iz.heap.size<=j:=fun j e=>(Z2 j e).elim (XX j) (fun h=>by omega)
 have K8:Kept (fun q=>iz.heap.size<=q) iz ra:=Gx.trans AJ (fun q _ h=>XX q h);obtain⟨b1,b2,b3,b4⟩:=box K8 (fun _ h=>h);refine⟨c.1,⟨c.2.1,b4⟩,a.1,⟨a.2.1,b2⟩,b.1,⟨b.2.1,b3⟩,a.2.1,b.2.1,?_⟩;intro E8;have Gq:Kept Nil ra E8:=(Kept.refl _ _).alloc _;have Kg:HS E8 (some ⟨ra.heap.size,0,none⟩) 2 [a,b]:=HS.lay (l:= [a,b]) (t:=ag) (aJ ra (.cells (dd [a,b]).toArray ag));clear_value E8;have Gw:=K8.trans Gq (fun _ _ h=>h.elim);have s39:=Gw.size;refine lN (C3.same Gq) ((hT.same k).aC Gw (fun e=>by omega)) (fun e=>by have:=om3 _ (.inl e);omega) (by rw [D2];simp) (by omega) Kg (by omega) c fun B7 F4 m4 A4 n4 p4 E4 q4 z4 _ _ M9 _ _ rA rE _ _=>⟨_,_,rfl,?_⟩;rw [c3];rw [hR]at rA rE⊢;have K7:Kept (fun q=>iz.heap.size<=q) iz B7:=Gw.trans M9 (fun q _ h=>om3 q h);have s41:=K7.size;intro zM;have Gn:Kept Nil B7 zM:=(Kept.refl _ _).alloc _;have YN:zM.heap[B7.heap.size]? =some (.cells zC bk (0,0)):=aJ B7 _;clear_value zM;obtain⟨t1,t2,t3⟩:=dT YN (cs:=cF ⟨a,2,[b],[false]⟩ A4 n4 p4 E4 q4 z4) (by rw [aY];rfl);refine⟨⟨aY ..,ek _ _ _ _ _ _ _,fun j hj=>t1 j (by rw [aY];exact hj)⟩,?_⟩;intro E7 Dj
 replace t2:E7.heap[B7.heap.size]? =some (.cells (cF ⟨a,2,[b],[false]⟩ A4 n4 p4 E4 q4 z4) bk (0,0)):=t2
 replace t3:Kept (· =B7.heap.size) zM E7:=t3
 have M8:Kept Nil E7 Dj:=(Kept.refl _ _).drew;clear_value Dj;have ht:=M8.heap t2 (fun h=>h);have Gp:Kept Nil B7 Dj:=(Gn.trans t3 (fun j hj e=>by omega)).trans M8 (fun _ _ h=>h);clear_value E7;have K6:=K7.trans Gp (fun _ _ h=>h.elim);obtain⟨b1,b2,b3,b4⟩:=box K6 (fun _ h=>h);have g:=eN ⟨a,2,[b],[false]⟩ A4 n4 p4 E4 q4 z4 #[];rw [Array.append_empty]at g;have hn4:n4=1:=by have:=bO.len rA;simpa using this.symm
 have ZA:q4=1:=by have:=(Row.bo rE).len;simpa using this.symm
 subst hn4 ZA;have mg:=(bO.hs rA).same Gp;have bl:=(Row.bo rE).same Gp;have je:Cells Dj ((⟨B7.heap.size,0,none⟩:Addr).add 0) a.1:=fun j u hj=>by
  have cI:=(Array.getElem?_eq_some_iff.1 hj).1;rw [add_zero,ba,ax ht,Nat.zero_add];unfold cF;rw [Array.getElem?_append_left cI];exact hj
 refine Split.yes rfl ⟨a.1,⟨a.2.1,je⟩,a.1,⟨a.2.1,b2⟩,⟨a.2.ints,a.2.ints⟩,?_⟩;rw [dq];refine Split.yes (decide_eq_true rfl) ⟨2,by rw [ba,ax ht];exact g.1,Split.yes rfl ⟨A4,1,p4,by rw [ba,ax ht];exact g.2.1,Split.yes rfl ⟨A4,1,p4,by rw [ba,ax ht];exact g.2.1,?_⟩⟩⟩;refine mg.load (i:=0) (by omega) rfl ⟨b.1,⟨b.2.1,b3⟩,⟨b.2.ints,b.2.ints⟩,?_⟩;rw [dq];obtain⟨aE,h1,_,h3⟩:=bl.at_ 0 false rfl;subst h1;refine Split.yes (decide_eq_true rfl) ⟨some aE,1,z4,by rw [ba,ax ht];exact g.2.2.1,Split.yes rfl ⟨some aE,1,z4,by rw [ba,ax ht];exact g.2.2.1,⟨by omega,by omega⟩,false,h3,?_⟩⟩;exact hK Dj (k.trans K6 (fun q hq e=>by omega))
end
end Go.Proofs.YtnboahlopghcjaaGreatDoor
namespace Go.Proofs.YtnboahlopghcjaaGreatDoor
open Go.Proofs.Tryz
open Go Go.bV Go.RowKit
section
variable{w w' v:World}{F FP FR:Nat->Prop}{c r x k:Nat}{G:GS}{m:CM}{K:Value->World->Prop}
theorem R3.graph(h:R3 w F r x k G): ∃A c,w.cell? (((⟨x,0,none⟩:Addr).add 0).add 0)=some (.slice A G.D.length c)/\NS w F A G.D.length G.D:=by
 obtain⟨A,c,B,e,l,h1,h2,_⟩:=h.X.ex;exact⟨A,c,by rw [add_zero,add_zero,ax h1];rfl,h2⟩
theorem R3.ab9(h:R3 w F r x k G): ∃A c,w.cell? ((⟨r,0,none⟩:Addr).add 2)=some (.slice A G.D.length c)/\pH w F A G.D.length G.o5:=by
 obtain⟨A,c,B,e,g1,g2,_⟩:=h.top;exact⟨A,c,by rw [ba,ax g1];rfl,g2⟩
theorem R3.Xt(h:R3 w F r x k G): ∃A c,w.cell? ((⟨r,0,none⟩:Addr).add 3)=some (.slice A G.D.length c)/\oa w F A G.D.length G.iJ:=by
 obtain⟨A,c,B,e,g1,_,g3⟩:=h.top;exact⟨B,e,by rw [ba,ax g1];rfl,g3⟩
theorem MP(h:iS k G){i:Nat}{nd:DN}(hi:G.D[i]? =some nd):G.o5[i]? =some (G.ga nd.id)/\G.iJ[i]? =some (G.world nd.id)/\nd.id∈ids G.D:=by
 have dP:=(List.getElem?_eq_some_iff.1 hi).1;obtain⟨c,hc⟩: ∃c,G.o5[i]? =some c:=⟨_,List.getElem?_eq_getElem (by rw [h.lc];exact dP)⟩;obtain⟨l,hl⟩: ∃l,G.iJ[i]? =some l:=⟨_,List.getElem?_eq_getElem (by rw [h.lw];exact dP)⟩;exact⟨by rw [GS.HN h.W hi hc];exact hc,by rw [GS.xV h.W hi hl];exact hl,dB.2 ⟨nd,List.mem_of_getElem? hi,rfl⟩⟩
theorem Pk(H:iS k G){h:HT}(hm:h∈ids G.D){n m:Nat}{A B:Option Addr}(h1:HS w A n (G.ga h).merge)(h2:Bo w B m (G.ga h).de):n<=G.D.length/\m<=G.D.length:=by
 obtain⟨a,b⟩:=mR H hm;have:=h1.len;have:=h2.len;omega
set_option maxHeartbeats 2000000 in
theorem Ax{A:Option Addr}{n cx:Nat}{l:List DN}(hl:NS w FP A n l)(hn:n<9223372036854775808)(k:Int)(root:HT)(hT:tg w)(hK: ∀w',Kept Nil w w'->K (.bool true) w'):
 bn prog aA.id #[.int .i64 k,.agg root.1,.slice A n cx] w K:=by
 have hlen:=hl.len;refine aA.of ?_;unfold aA.W;intro w1;have k1:Kept Nil w w1:=(Kept.refl _ _).alloc _;have kQ:w1.heap[w.heap.size]? =some (.cells root.1 ag (0,0)):=aJ w _;clear_value w1;have kn: ∀ {v:World},Kept Nil w v->bn prog gE.id #[] v fun v3 w_4=> ∃t:Bool,v3=.bool t/\K (.bool t) w_4:=fun k=>AH (hT.same k) fun w4 k4=>⟨true,rfl,hK w4 (k.trans k4 (fun _ _ h=>h))⟩;refine Split.dec (fun _=>kn k1) (fun Iu=>Split.dec (fun _=>kn k1) (fun mD=>?_));refine Kv (hl.same k1) hn 20 fun b hb=>⟨b,rfl,?_⟩;cases b with
 |false=>exact Split.yes rfl (kn k1)
 |true=>
 obtain⟨qg,Wz⟩:=hb.1 rfl;obtain⟨k,rfl⟩: ∃k':Nat,k=(k':Int):=⟨k.toNat,by omega⟩;refine Split.no rfl ⟨root.1,⟨root.2.1,Cells.bC kQ⟩,?_⟩;refine BL (hl.same k1) (by omega) (fun nd fw=>by have:=qg nd fw;omega) root (by omega) (hT.same k1) fun w2 F c m FR r x B k2 _=>⟨_,_,true,rfl,Split.no rfl ?_⟩;have WT:=BH k root l;generalize BI k root l=G at B WT;have oh:=k1.trans k2 (fun _ _ h=>h);have H:=B.C.eM;have W:=H.W;refine Kq B.C ⟨_,rfl,Split.no (by simp) ?_⟩;refine aA.b6 (I:=fun s v=> ∃i:Nat,s=(false,(i:Int))/\i<=G.D.length/\Kept Nil w2 v) (μ:=fun s _=>((G.D.length:Int)-s.2).toNat) (s:=(false,0)) ⟨0,rfl,Nat.zero_le _,Kept.refl _ _⟩ ?_;rintro s v ⟨i,rfl,hi,kv⟩;unfold aA.B1;have Bv:=B.same kv;obtain⟨A0,c0,q1,rf⟩:=Bv.R.graph;refine Is.mk rfl ⟨_,Bv.R.c1,Is.mk rfl ⟨A0,_,c0,q1,Split.dec (fun cI=>?_) (fun gu=>?_)⟩⟩
 ·simp only at cI
  have dP:i<G.D.length:=by omega
  obtain⟨nd,fw⟩: ∃nd,G.D[i]? =some nd:=⟨_,List.getElem?_eq_getElem dP⟩;obtain⟨Kc,YW,fN⟩:=MP H fw;refine Is.mk rfl ⟨_,Bv.R.c1,Is.mk rfl ⟨A0,_,c0,q1,rf.id (i:=(i:Int)) (by omega) (by rw [Int.toNat_natCast];exact fw) ?_⟩⟩;intro w3;obtain⟨qP,iC,iI⟩:=fT (w:=v) (z:=dL.1) (cs:=nd.id.1) (t:=ag) (by rw [nd.id.2.1];rfl);refine⟨⟨nd.id.2.1,nd.id.2.one,fun j hj=>qP j (by rw [nd.id.2.1];exact hj)⟩,?_⟩;intro w4
  replace iC:w4.heap[v.heap.size]? =some (.cells nd.id.1 ag (0,0)):=iC
  replace iI:Kept Nil v w4:=iI
  clear_value w4;have nR:=kv.trans iI (fun _ _ h=>h);refine⟨nd.id.1,⟨nd.id.2.1,Cells.bC iC⟩,?_⟩;refine ED (B.same nR).C (by omega) fN fun A5 n5 c5 E5 e5 d5 w5 r5 b5 _ k5=>⟨_,_,rfl,?_⟩;have yJ:=nR.trans k5 (fun _ _ h=>h);intro w6;have k6:Kept Nil w5 w6:=(Kept.refl _ _).alloc _;have Jy:w6.heap[w5.heap.size]? =some (.cells zC bk (0,0)):=aJ w5 _;clear_value w6;obtain⟨t1,t2,t3⟩:=dT Jy (cs:=cF (G.ga nd.id) A5 n5 c5 E5 e5 d5) (by rw [aY];rfl);refine⟨⟨aY ..,ek _ _ _ _ _ _ _,fun j hj=>t1 j (by rw [aY];exact hj)⟩,?_⟩;intro w7
  replace t2:w7.heap[w5.heap.size]? =some (.cells (cF (G.ga nd.id) A5 n5 c5 E5 e5 d5) bk (0,0)):=t2
  replace t3:Kept (· =w5.heap.size) w6 w7:=t3
  clear_value w7;have Fb:Kept Nil w5 w7:=k6.trans t3 (fun j hj e=>by omega);have Yx:=k5.trans Fb (fun _ _ h=>h);have kv7:=nR.trans Yx (fun _ _ h=>h);refine⟨nd.id.1,⟨nd.id.2.1,Cells.bC (Yx.heap iC (fun h=>h))⟩,?_⟩;refine sG (B.same kv7).C (by omega) fN fun A8 c8 w8 r8 k8=>⟨A8,_,c8,0,rfl,?_⟩;have Ru:=kv7.trans k8 (fun _ _ h=>h);obtain⟨A9,c9,q9,hw9⟩:=(B.same Ru).R.Xt;obtain⟨a9,Aw,nw,cw,p1,p2,p3,p4,p5,p6⟩:=hw9.at_ i _ YW;subst p1;refine Is.mk rfl ⟨_,_,c9,q9,⟨by simp only;omega,by simp only;omega⟩,Is.mk rfl ⟨Aw,nw,cw,by rw [Int.toNat_natCast];exact p4,?_⟩⟩;have YX:=mF H fN;have hwn:=p5.len;refine nv p5 (by omega) fun zK C7 w10 r10 mC=>⟨zK,_,C7,rfl,?_⟩;intro tB;have Ef:Kept Nil w10 tB:=(Kept.refl _ _).drew;clear_value tB;have M6:=mC.trans Ef (fun _ _ h=>h);have Rw:=Ru.trans M6 (fun _ _ h=>h);have RI:=k8.trans M6 (fun _ _ h=>h);refine Split.no rfl (Split.no rfl ⟨_,⟨aY ..,Cells.bC (RI.heap t2 (fun h=>h))⟩,?_⟩);obtain⟨A12,c12,q12,cS⟩:=(B.same Rw).R.ab9;obtain⟨a12,A1,n1,c1,B1,m1,d1,z1,z2,z3,z4,z5,z6,_⟩:=cS.at_ i _ Kc;subst z1;refine Is.mk rfl ⟨_,_,c12,q12,⟨by simp only;omega,by simp only;omega⟩,Is.mk rfl ⟨_,⟨aY ..,by rw [Int.toNat_natCast];exact z4⟩,?_⟩⟩;have RN:=Fb.trans RI (fun _ _ h=>h);have To:=(bO.hs r5).same RN;have vy:=(Row.bo b5).same RN;obtain⟨y1,y2⟩:=Pk H fN To vy;refine Cf To z5 vy z6 (by omega) (by omega) fun lU vc=>⟨true,rfl,Split.no rfl ?_⟩;have Yl:=Rw.trans vc (fun _ _ h=>h);have RH:=M6.trans vc (fun _ _ h=>h);have AS:=l9 (G.world nd.id);have Sf:HS lU zK (df (G.world nd.id)).length (df (G.world nd.id)):=(bO.hs r10).same (Ef.trans vc (fun _ _ h=>h))
  refine vV ((bO.hs r8).same RH) Sf (by omega) fun kN re=>⟨_,rfl,Split.no (by rw [decide_eq_true rfl];rfl) ?_⟩;have Yk:=Yl.trans re (fun _ _ h=>h);have Yy:Kept Nil w4 kN:=Yx.trans (k8.trans (RH.trans re (fun _ _ h=>h)) (fun _ _ h=>h)) (fun _ _ h=>h);refine aA.gD (I:=fun s u=> ∃j:Nat,s=(false,(j:Int))/\j<=G.D.length/\Kept Nil kN u) (μ:=fun s _=>((G.D.length:Int)-s.2).toNat) (s:=(false,0)) ⟨0,rfl,Nat.zero_le _,Kept.refl _ _⟩ ?_;rintro s u ⟨j,rfl,hj,ku⟩;have KY:=Yk.trans ku (fun _ _ h=>h);have Bu:=B.same KY;unfold aA.B2;obtain⟨A2,c2,g1,ZQ⟩:=Bu.R.graph;refine Is.mk rfl ⟨_,Bu.R.c1,Is.mk rfl ⟨A2,_,c2,g1,Split.dec (fun JR=>?_) (fun OD=>?_)⟩⟩
  ·simp only at JR
   have ri:j<G.D.length:=by omega
   obtain⟨md,ve⟩: ∃md,G.D[j]? =some md:=⟨_,List.getElem?_eq_getElem ri⟩;refine Is.mk rfl ⟨_,Bu.R.c1,Is.mk rfl ⟨A2,_,c2,g1,ZQ.id (i:=(j:Int)) (by omega) (by rw [Int.toNat_natCast];exact ve) ?_⟩⟩;intro ie;obtain⟨YV,Hm,Oo⟩:=fT (w:=u) (z:=dL.1) (cs:=md.id.1) (t:=ag) (by rw [md.id.2.1];rfl);refine⟨⟨md.id.2.1,md.id.2.one,fun j hj=>YV j (by rw [md.id.2.1];exact hj)⟩,?_⟩;intro lT iz
   replace Hm:lT.heap[u.heap.size]? =some (.cells md.id.1 ag (0,0)):=Hm
   replace Oo:Kept Nil u lT:=Oo
   have jS:Kept Nil lT iz:=(Kept.refl _ _).drew;clear_value iz;have Ex:=jS.heap Hm (fun h=>h);have RB:=Oo.trans jS (fun _ _ h=>h);clear_value lT;have Gh:=KY.trans RB (fun _ _ h=>h);have bh: ∀ {t:World},Kept Nil kN t->t.heap[v.heap.size]? =some (.cells nd.id.1 ag (0,0)):=fun kt=>(Yy.trans kt (fun _ _ h=>h)).heap iC (fun h=>h);have GB:=ku.trans RB (fun _ _ h=>h);refine⟨md.id.1,⟨md.id.2.1,Cells.bC Ex⟩,nd.id.1,⟨nd.id.2.1,Cells.bC (bh GB)⟩,md.id.1,⟨md.id.2.1,Cells.bC Ex⟩,?_⟩;refine Br (B.same Gh).C (by omega) md.id fN fun vh zP=>⟨_,rfl,⟨_,rfl,md.id.2.1,Cells.bC (zP.heap Ex (fun h=>h))⟩,?_⟩;have adm:=Gh.trans zP (fun _ _ h=>h);have RY:=GB.trans zP (fun _ _ h=>h);refine rz md.id (Sf.same (re.trans RY (fun _ _ h=>h))) (by omega) fun pU AM=>⟨_,rfl,?_⟩;have e:decide (md.id∈df (G.world nd.id))=decide (md.id∈G.world nd.id):=by rw [decide_eq_decide];exact dm
   rw [e];refine Split.no (by simp) ?_;have Gy:=zP.trans AM (fun _ _ h=>h);have CF:=GB.trans Gy (fun _ _ h=>h);have Rq:=Gh.trans Gy (fun _ _ h=>h);have Hr:=Gy.heap Ex (fun h=>h);have Qy:=B.same Rq;have bx:=fun {t:World} (kt:Kept Nil pU t)=>(⟨_,rfl,md.id.2.1,Cells.bC (kt.heap Hr (fun h=>h))⟩: ∃cs:Array Value,(.agg md.id.1:Value)=.agg cs/\cs.size=32/\Cells t ⟨u.heap.size,0,none⟩ cs);have by_:=fun {t:World} (kt:Kept Nil pU t)=>(⟨_,rfl,nd.id.2.1,Cells.bC (bh (CF.trans kt (fun _ _ h=>h)))⟩: ∃cs:Array Value,(.agg nd.id.1:Value)=.agg cs/\cs.size=32/\Cells t ⟨v.heap.size,0,none⟩ cs);refine⟨md.id.1,⟨md.id.2.1,Cells.bC Hr⟩,nd.id.1,⟨nd.id.2.1,Cells.bC (bh CF)⟩,Is.mk rfl ⟨_,Qy.R.c1,md.id.1,⟨md.id.2.1,Cells.bC Hr⟩,nd.id.1,⟨nd.id.2.1,Cells.bC (bh CF)⟩,?_⟩⟩;refine zk Qy.C ⟨_,rfl,by_ (Kept.refl _ _),bx (Kept.refl _ _),Qy.R.c1,by_ (Kept.refl _ _),bx (Kept.refl _ _),?_⟩;obtain⟨mx,X18,_⟩:=Qy.C.X;refine oG X18 md.id nd.id fun nQ b19 OW sA=>⟨b19,rfl,by_ sA,bx sA,(Qy.same sA).R.c1,?_⟩;refine yp (Qy.same sA).R.X (by omega) md.id nd.id fun B9 b20 aba xF=>⟨b20,rfl,?_⟩;have eb:b19=b20:=by rw [Bool.eq_iff_iff,OW,aba]
   refine Split.no (by rw [eb];simp) ?_;simp only;rw [dE (n:=(j:Int)) (by omega) (by omega)];exact⟨(false,(j:Int)+1),rfl,⟨j+1,rfl,ri,CF.trans (sA.trans xF (fun _ _ h=>h)) (fun _ _ h=>h)⟩,by simp only;omega⟩
  ·rw [aS,aA.jC]
   unfold aA.iu;simp only;rw [dE (n:=(i:Int)) (by omega) (by omega)];exact⟨(false,(i:Int)+1),rfl,⟨i+1,rfl,dP,KY⟩,by simp only;omega⟩
 ·rw [aS,aA.cX]
  exact kn (oh.trans kv (fun _ _ h=>h))
end
end Go.Proofs.YtnboahlopghcjaaGreatDoor
