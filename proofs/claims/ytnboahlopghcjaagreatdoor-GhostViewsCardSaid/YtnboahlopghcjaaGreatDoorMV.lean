import Derived.Test.YtnboahlopghcjaaGreatDoorMU
import Derived.Test.YtnboahlopghcjaaGreatDoorMN
import Derived.Test.YtnboahlopghcjaaGreatDoorMJ
set_option linter.unusedVariables false
namespace Go.Proofs.YtnboahlopghcjaaGreatDoor
open Go.Proofs.Tryz
open Go Go.bS Go.RowKit
def aay(l:List DN)(Iu:Nat):Prop:=(∀nd∈l,nd.ps.length<=6)/\l.length<=Iu
noncomputable def jr(k:Nat)(G:GS)(id:HT)(l:List HT):nN:=if dg G.D id l=0 then cu k G (bZ G l) l else⟨de,0,[],[]⟩
noncomputable def Bf(k:Nat)(root:HT)(l:List DN):GS:=l.foldl (fun G s=>dq k G s.id s.ps) (cV root)
theorem zi(k:Nat)(G:GS)(h:HT)(l:List HT):(dq k G h l).D.length<=G.D.length+1:=by
 rw [rH];unfold lI;split<;>simp
theorem rv(k:Nat): ∀(l:List DN) (G:GS),(l.foldl (fun G s=>dq k G s.id s.ps) G).D.length<=G.D.length+l.length
 | [],_=>by simp
 |s::l,G=>by
  have h1:=rv k l (dq k G s.id s.ps);have h2:=zi k G s.id s.ps;rw [List.foldl_cons,List.length_cons];omega
theorem Be(k:Nat)(root:HT)(l:List DN):(Bf k root l).D.length<=1+l.length:=rv k l (cV root)
theorem AR{k:Nat}{G:GS}{l:List DN}{i:Nat}{s:DN}(h:l[i]? =some s):(l.take (i+1)).foldl (fun G s=>dq k G s.id s.ps) G=dq k ((l.take i).foldl (fun G s=>dq k G s.id s.ps) G) s.id s.ps:=by
 rw [List.take_add_one,h];simp
section
variable{w w' v:World}{S F FP FR:Nat->Prop}{c r x k:Nat}{G:GS}{m:CM}{K:Value->World->Prop}
theorem JF{A:Option Addr}{n cx:Nat}{l:List DN}(hl:NS w FP A n l)(hn:n<9223372036854775808)(Iu:Nat)(hK: ∀x:Bool,(x=true↔aay l Iu)->K (.bool x) w):
 bk prog cj.id #[.slice A n cx,.int .i64 (Iu:Int)] w K:=by
 have hlen:=hl.len;refine cj.of (cj.b9 (I:=fun s w'=>w'=w/\ ∃i:Nat,s=(false,(i:Int))/\i<=n/\ ∀nd∈l.take i,nd.ps.length<=6) (μ:=fun s _=>((n:Int)-s.2).toNat) (s:=(false,0)) ⟨rfl,0,rfl,Nat.zero_le _,by simp⟩ ?_);rintro s w' ⟨rfl,i,rfl,hi,cP⟩;refine Split.dec (fun iP=>?_) (fun fV=>?_)
 ·simp only at iP
  have dN:i<n:=by omega
  obtain⟨nd,fy⟩: ∃nd,l[i]? =some nd:=⟨_,List.getElem?_eq_getElem (by omega)⟩;refine hl.ps (i:=(i:Int)) (by omega) (by rw [Int.toNat_natCast];exact fy) fun pA pn pc pM _=>?_;have pV:=pM.len;refine Split.dec (fun v7=>?_) (fun hle=>?_)
  ·refine hK false ⟨(fun h=>by cases h),fun h=>?_⟩
   have:=h.1 nd (List.mem_of_getElem? fy);omega
  ·simp only
   rw [gH (x:=(i:Int)+1) (by omega) (by omega)];refine⟨(false,(i:Int)+1),rfl,⟨rfl,i+1,rfl,dN,fun md hm=>?_⟩,by simp only;omega⟩;rw [List.take_add_one,fy]at hm;simp only [Option.toList_some,List.mem_append,List.mem_singleton]at hm;rcases hm with hm|rfl
   ·exact cP md hm
   ·omega
 ·simp only at fV
  rw [aS,cj.cZ];rw [List.take_of_length_le (by omega)]at cP;refine hK _ ⟨fun h=>⟨cP,?_⟩,fun h=>decide_eq_true ?_⟩
  ·have:=of_decide_eq_true h;omega
  ·have:=h.2;omega
theorem lv(h:CV w F c k G m)(hT:rI w)(HW: ¬m.SX (Tryz.iZ.g 1))(hD:G.D.length<=49)(nf:k<=1000){A:Option Addr}{n cx:Nat}{l:List HT}(yI:HS w A n l)(hn:n<=5000)(id:HT)
 (hK: ∀w' F' m' A n c1 B e c2,CV w' F' c k (dq k G id l) m'->m'.x=m.x->Kept (m.own c) w w'->(∀j,m'.own c j->m.own c j\/w.heap.size<=j)->(∀j,F' j->F j\/w.heap.size<=j)->
   bQ w' w.heap.size A n c1 (jr k G id l).merge->Row w' w.heap.size gM 1 B e c2 (qO (jr k G id l).dM)->(∀j,bg A=some j->bg B≠some j)->(∀j,bg A=some j\/bg B=some j-> ¬m'.own c j/\ ¬F' j)->
   K (.tuple #[.agg (cC (jr k G id l) A n c1 B e c2),.int .i64 (dg G.D id l)]) w'):
 bk prog dt.id #[.pointer (some ⟨c,0,none⟩),.agg id.1,.slice A n cx] w K:=by
 refine D9 h hT HW hD nf yI hn id (fun he w' k'=>?_) (fun he w' F' m' A n c1 B e c2 h1 h2 h3 h4 h5 h6 h7 h8 h9=>?_)
 ·have e1:jr k G id l=⟨de,0,[],[]⟩:=if_neg he
  have:=hK w' F m none 0 0 none 0 0 (by rw [tg he];exact h.same k') rfl (k'.mono fun _ _ h=>h.elim) (fun j h=>.inl h) (fun j h=>.inl h) (by rw [e1];exact bQ.nil _ _) (by rw [e1];exact Row.nil _ _ _ _) (fun j hj=>(by cases hj)) (fun j hj=>by rcases hj with hj|hj<;>cases hj);rw [e1]at this;exact this
 ·have e1:jr k G id l=cu k G (bZ G l) l:=if_pos he
  have:=hK w' F' m' A n c1 B e c2 h1 h2 h3 h4 h5 (by rw [e1];exact h6) (by rw [e1];exact h7) h8 h9;rw [e1,he]at this;exact this
theorem tA(h:R3 w F r x k G)(hD:G.D.length<=300)(nf:k<=1000){A:Option Addr}{n cx:Nat}{l:List HT}(hl:HS w A n l)(hn:n<=5000)(id:HT)
 (hK: ∀w' A n c B e ce,R3 w' (fun j=>F j\/(w.heap.size<=j/\j<w'.heap.size)) r x k (dq k G id l)->Kept (fun j=>j=r\/j=x) w w'->HS w' A n (jr k G id l).merge->Bo w' B e (jr k G id l).dM->(∀a,A=some a\/B=some a->w.heap.size<=a.block)->K (.tuple #[.agg (cC (jr k G id l) A n c B e ce),.int .i64 (dg G.D id l)]) w'):
 bk prog dr.id #[.pointer (some ⟨r,0,none⟩),.agg id.1,.slice A n cx] w K:=by
 have Ve:=h.lt;have K2:=h.lx;refine wH h hD nf hl hn id (fun he w' k'=>?_) (fun he w' A n c B e ce h1 h2 h3 h4 h5=>?_)
 ·have e1:jr k G id l=⟨de,0,[],[]⟩:=if_neg he
  have h':=h.same k';have hs:=k'.size;obtain⟨A1,c1,B1,Ui,g1,g2,g3⟩:=h'.top;have:=hK w' none 0 0 none 0 0 (by
   rw [tg he];exact⟨⟨A1,c1,B1,Ui,g1,g2.mono (fun j hj=>.inl hj),g3.mono (fun j hj=>.inl hj)⟩,h'.X.mono (fun j hj=>.inl hj) (fun e=>e.elim h.X.gD (fun e=>by omega)),fun e=>e.elim h.gD (fun e=>by omega),h.ne,h.fO,fun j e=>e.elim (h'.lo j) (fun e=>e.2)⟩) (k'.mono fun _ _ h=>h.elim) (by rw [e1];exact HS.nil _ _) (by rw [e1];exact⟨rfl,fun i b hi=>by simp at hi⟩) (fun a ha=>by rcases ha with ha|ha<;>cases ha)
  rw [e1]at this;exact this
 ·have e1:jr k G id l=cu k G (bZ G l) l:=if_pos he
  have:=hK w' A n c B e ce h1 h2 (by rw [e1];exact h3) (by rw [e1];exact h4) h5;rw [e1,he]at this;exact this
structure jq(w:World)(F:Nat->Prop)(c:Nat)(m:CM)(FR:Nat->Prop)(r x k:Nat)(G:GS):Prop where
 C:CV w F c k G m
 R:R3 w FR r x k G
 rS: ∀j,j=r\/j=x-> ¬m.own c j/\ ¬F j
 fS: ∀j,FR j-> ¬m.own c j
theorem jq.aD{S0:Nat->Prop}(B:jq w F c m FR r x k G)(hk:Kept S0 w w')(h1: ∀j,m.own c j\/F j\/FR j\/j=r\/j=x-> ¬S0 j):jq w' F c m FR r x k G:=
 ⟨B.C.aD hk (fun j e=>h1 j (.inl e)) (fun j e=>h1 j (.inr (.inl e))),B.R.aD hk (h1 _ (.inr (.inr (.inr (.inl rfl))))) (h1 _ (.inr (.inr (.inr (.inr rfl))))) (fun j e=>h1 j (.inr (.inr (.inl e)))),B.rS,B.fS⟩
theorem jq.same(B:jq w F c m FR r x k G)(hk:Kept Nil w w'):jq w' F c m FR r x k G:=B.aD hk (fun _ _ h=>h)
theorem jq.low(B:jq w F c m FR r x k G): ∀j,m.own c j\/F j\/FR j\/j=r\/j=x->j<w.heap.size:=fun j e=>by
 rcases e with e|e|e|e|e
 ·exact B.C.low j (.inl e)
 ·exact B.C.low j (.inr e)
 ·exact B.R.lo j e
 ·rw [e];exact B.R.lt
 ·rw [e];exact B.R.lx
theorem jq.after{F':Nat->Prop}{m':CM}{G':GS}(B:jq w F c m FR r x k G)(kv:Kept (m.own c) w v)(h1: ∀j,m'.own c j->m.own c j\/w.heap.size<=j)(h2: ∀j,F' j->F j\/w.heap.size<=j)(hC:CV v F' c k G' m'){u:World}(UQ:Kept Nil v u):
 R3 u FR r x k G/\ ∀t,R3 t (fun j=>FR j\/(u.heap.size<=j/\j<t.heap.size)) r x k G'->Kept (fun j=>j=r\/j=x) u t->jq t F' c m' (fun j=>FR j\/(u.heap.size<=j/\j<t.heap.size)) r x k G':=by
 have hr:=B.R.lt;have hx:=B.R.lx;have nr: ∀j,j=r\/j=x-> ¬m'.own c j/\ ¬F' j:=fun j hj=>by
  have cH:j<w.heap.size:=by rcases hj with rfl|rfl;exact hr;exact hx
  refine⟨fun e=>?_,fun e=>?_⟩
  ·rcases h1 j e with e|e
   ·exact(B.rS j hj).1 e
   ·omega
  ·rcases h2 j e with e|e
   ·exact(B.rS j hj).2 e
   ·omega
 refine⟨(B.R.aD kv (fun e=>(B.rS r (.inl rfl)).1 e) (fun e=>(B.rS x (.inr rfl)).1 e) B.fS).same UQ,fun t hR kt=>⟨?_,hR,nr,fun j hj e=>?_⟩⟩
 ·exact(hC.same UQ).aD kt (fun j e e'=>(nr j e').1 e) (fun j e e'=>(nr j e').2 e)
 ·have mq:=hC.low j (.inl e)
  have:=UQ.size;rcases hj with hj|hj
  ·rcases h1 j e with e|e
   ·exact B.fS j hj e
   ·have:=B.R.lo j hj;omega
  ·omega
end
end Go.Proofs.YtnboahlopghcjaaGreatDoor
namespace Go.Proofs.YtnboahlopghcjaaGreatDoor
open Go.Proofs.Tryz
open Go Go.bS Go.RowKit
section
variable{w w' v:World}{S F FP FR:Nat->Prop}{c r x k:Nat}{G:GS}{m:CM}{K:Value->World->Prop}
set_option maxHeartbeats 2000000 in
theorem Bi{A:Option Addr}{n cx:Nat}{l:List DN}(hl:NS w FP A n l)(hn:n<=40)(pM: ∀nd∈l,nd.ps.length<=1000)(root:HT)(nf:k<=100)(hT:rI w)
 (hK: ∀v F c m FR r x,jq v F c m FR r x k (Bf k root l)->Kept Nil w v->(∀j,m.own c j\/F j\/FR j\/j=r\/j=x->w.heap.size<=j)->K (.tuple #[.pointer (some ⟨c,0,none⟩),.pointer (some ⟨r,0,none⟩),.bool true]) v):
 bk prog aF.id #[.int .i64 (k:Int),.agg root.1,.slice A n cx] w K:=by
 have hlen:=hl.len;refine aF.of ?_;unfold aF.W;intro w1;have k1:Kept Nil w w1:=(Kept.refl _ _).alloc _;have xq:w1.heap[w.heap.size]? =some (.cells root.1 ai (0,0)):=aH w _;clear_value w1;refine⟨root.1,⟨root.2.1,Cells.bA xq⟩,?_⟩;refine gK root nf fun w2 c q m C hm hq k2=>⟨_,_,rfl,Split.no rfl (Split.no rfl ⟨root.1,⟨root.2.1,Cells.bA (k2.heap xq (fun h=>h))⟩,?_⟩)⟩;refine wG root k fun w3 r x FR R hFR hr hx k3=>⟨_,rfl,?_⟩;have s1:=k1.size;have s2:=k2.size;have mi:=(k1.trans k2 (fun _ _ h=>h)).trans k3 (fun _ _ h=>h);have B0:jq w3 (· =q) c m FR r x k (cV root):=⟨C.same k3,R,fun j hj=>by
  have fV:w2.heap.size<=j:=by rcases hj with rfl|rfl;exact hr;exact hx
  exact⟨fun e=>by have:=C.low j (.inl e);omega,fun e=>by have:=C.low j (.inr e);omega⟩,fun j hj e=>by have:=hFR j hj;have:=C.low j (.inl e);omega⟩
 refine aF.b9 (I:=fun s v=> ∃(i:Nat) (F:Nat->Prop) (m:CM) (FR:Nat->Prop),s=(none,none,false,(i:Int))/\i<=n/\jq v F c m FR r x k ((l.take i).foldl (fun G s=>dq k G s.id s.ps) (cV root))/\Kept Nil w v/\ ∀j,m.own c j\/F j\/FR j\/j=r\/j=x->w.heap.size<=j) (μ:=fun s _=>((n:Int)-s.2.2.2).toNat) (s:=(none,none,false,0)) ⟨0,(· =q),m,FR,rfl,Nat.zero_le _,B0,mi,fun j e=>by
  rcases e with e|e|e|e|e
  ·have:=hm j e;omega
  ·have e:j=q:=e;omega
  ·have:=hFR j e;omega
  ·omega
  ·omega⟩ ?_
 clear B0 hFR hm C R hq k2 k3;rintro s v ⟨i,F,m,FR,rfl,hi,B,kv,AG⟩;unfold aF.B1;refine Split.dec (fun cH=>?_) (fun fV=>?_)
 ·simp only at cH
  have dN:i<n:=by omega
  obtain⟨nd,fy⟩: ∃nd,l[i]? =some nd:=⟨_,List.getElem?_eq_getElem (by omega)⟩;have sy:l[((i:Nat):Int).toNat]? =some nd:=by rw [Int.toNat_natCast];exact fy
  have pV:=pM nd (List.mem_of_getElem? fy);have KI:=AR (k:=k) (G:=cV root) fy;have VC:=rv k (l.take i) (cV root);rw [List.length_take]at VC;have hD1:(cV root).D.length=1:=rfl;generalize hG:(l.take i).foldl (fun G s=>dq k G s.id s.ps) (cV root)=G at B KI VC;have hTl:=hT.lt;have mq:=B.low;have sv:=kv.size;have j2: ∀ {u:World} {F' V1:Nat->Prop} {m':CM} {b1 b2:Nat} {A1 E1 A2 E2:Option Addr} {n1 p1 e1 q1 n2 p2 e2 q2:Nat},jq u F' c m' V1 r x k (dq k G nd.id nd.ps)->Kept Nil w u->(∀j,m'.own c j\/F' j\/V1 j\/j=r\/j=x->w.heap.size<=j)->
   u.heap[b1]? =some (.cells (cC (jr k G nd.id nd.ps) A1 n1 p1 E1 e1 q1) bj (0,0))->u.heap[b2]? =some (.cells (cC (jr k G nd.id nd.ps) A2 n2 p2 E2 e2 q2) bj (0,0))->HS u A1 n1 (jr k G nd.id nd.ps).merge->HS u A2 n2 (jr k G nd.id nd.ps).merge->Bo u E1 e1 (jr k G nd.id nd.ps).dM->Bo u E2 e2 (jr k G nd.id nd.ps).dM->n1<=100000->e1<=100000->
   aF.J2 A n cx none none false (some ⟨c,0,none⟩) (some ⟨r,0,none⟩) (i:Int) ⟨b1,0,none⟩ (dg G.D nd.id nd.ps) ⟨b2,0,none⟩ (dg G.D nd.id nd.ps) (bK (aF.e1 A n cx (some ⟨c,0,none⟩) (some ⟨r,0,none⟩)) (fun s v=> ∃(i:Nat) (F:Nat->Prop) (m:CM) (FR:Nat->Prop),s=(none,none,false,(i:Int))/\i<=n/\jq v F c m FR r x k ((l.take i).foldl (fun G s=>dq k G s.id s.ps) (cV root))/\Kept Nil w v/\ ∀j,m.own c j\/F j\/FR j\/j=r\/j=x->w.heap.size<=j) (fun s _=>((n:Int)-s.2.2.2).toNat) (none,none,false,(i:Int)) v (aF.q1 K)) u:=by
   intro u F' V1 m' b1 b2 A1 E1 A2 E2 n1 p1 e1 q1 n2 p2 e2 q2 B' ku Ze h1 h2 g1 g2 g3 g4 g5 g6;unfold aF.J2;refine Split.no (by simp) ⟨_,⟨a7 ..,Cells.bA h1⟩,_,⟨a7 ..,Cells.bA h2⟩,?_⟩;refine wB g1 g2 g3 g4 g5 g6 fun t kt=>⟨true,rfl,Split.no rfl ?_⟩;rw [dG (n:=(i:Int)) (by omega) (by omega)];refine⟨(none,none,false,(i:Int)+1),rfl,⟨i+1,F',m',V1,rfl,dN,?_,ku.trans kt (fun _ _ h=>h),Ze⟩,by simp only;omega⟩;rw [KI];exact B'.same kt
  have j1: ∀ {u u0:World} {F':Nat->Prop} {m':CM} {b1:Nat} {A1 E1:Option Addr} {n1 p1 e1 q1:Nat},CV u0 F' c k (dq k G nd.id nd.ps) m'->Kept (m.own c) v u0->(∀j,m'.own c j->m.own c j\/v.heap.size<=j)->(∀j,F' j->F j\/v.heap.size<=j)->Kept Nil u0 u->
   u.heap[b1]? =some (.cells (cC (jr k G nd.id nd.ps) A1 n1 p1 E1 e1 q1) bj (0,0))->v.heap.size<=b1->bQ u v.heap.size A1 n1 p1 (jr k G nd.id nd.ps).merge->Row u v.heap.size gM 1 E1 e1 q1 (qO (jr k G nd.id nd.ps).dM)->
   aF.J1 A n cx none none false (some ⟨c,0,none⟩) (some ⟨r,0,none⟩) (i:Int) ⟨b1,0,none⟩ (dg G.D nd.id nd.ps) (bK (aF.e1 A n cx (some ⟨c,0,none⟩) (some ⟨r,0,none⟩)) (fun s v=> ∃(i:Nat) (F:Nat->Prop) (m:CM) (FR:Nat->Prop),s=(none,none,false,(i:Int))/\i<=n/\jq v F c m FR r x k ((l.take i).foldl (fun G s=>dq k G s.id s.ps) (cV root))/\Kept Nil w v/\ ∀j,m.own c j\/F j\/FR j\/j=r\/j=x->w.heap.size<=j) (fun s _=>((n:Int)-s.2.2.2).toNat) (none,none,false,(i:Int)) v (aF.q1 K)) u:=by
   intro u u0 F' m' b1 A1 E1 n1 p1 e1 q1 hC k0 lT G0 ku xq Ri rA rE;unfold aF.J1;have WS:Kept Nil w u0:=kv.trans k0 (fun j hj e=>by have:=AG j (.inl e);omega);have OY:Kept Nil w u:=WS.trans ku (fun _ _ h=>h);have suv:=k0.size;have suu:=ku.size;intro u1;have B7:Kept Nil u u1:=(Kept.refl _ _).drew;clear_value u1;have DC:=OY.trans B7 (fun _ _ h=>h);have s11:=B7.size;have It:n1<=100000/\e1<=100000:=by
    have Ui:=bQ.len rA;have e2':=(Row.bo rE).len;have hG1:=hC.fO;by_cases hc:dg G.D nd.id nd.ps=0
    ·have kF:jr k G nd.id nd.ps=(dq k G nd.id nd.ps).iw nd.id:=by
      rw [(mC B.C.fO hc).1];exact if_pos hc
     have gJ:nd.id∈ids (dq k G nd.id nd.ps).D:=by rw [ke hc];simp [ids]
     obtain⟨z1,z2⟩:=Ee hG1 gJ;have:=zi k G nd.id nd.ps;rw [kF]at Ui e2';omega
    ·have kF:jr k G nd.id nd.ps=⟨de,0,[],[]⟩:=if_neg hc
     rw [kF]at Ui e2';simp at Ui e2';omega
   have Q9: ∀ {t:World},Kept Nil w t->Cells t (((A.get!).add (((i:Nat):Int).toNat*33)).add 0) nd.id.1:=by
    intro t kt;obtain⟨a,pA,pn,pc,rfl,_,_,h4,_,_⟩:=(hl.aD kt (fun _ _ h=>h)).at_ i nd fy;intro j z hj;rw [add_zero,Int.toNat_natCast];exact h4 j z (tD hj)
   have ps1: ∃a pA pn pc,A=some a/\HS w pA pn nd.ps/\ ∀ {t:World},Kept Nil w t->t.cell? ((a.add (((i:Nat):Int).toNat*33)).add 32)=some (.slice pA pn pc):=by
    obtain⟨a,pA,pn,pc,rfl,_,_,h4,h5,_⟩:=hl.at_ i nd fy;exact⟨a,pA,pn,pc,rfl,h5,fun kt=>by rw [Int.toNat_natCast];exact kt.cell (h4 32 _ (oS _ _)) (fun h=>h)⟩
   obtain⟨a,pA,pn,pc,rfl,Av,pW⟩:=ps1;have I6:=Av.len;have hb:0<=(i:Int)/\(i:Int)<(n:Int):=⟨by omega,by omega⟩;refine⟨hb,Is.mk rfl ⟨nd.id.1,⟨nd.id.2.1,Q9 DC⟩,hb,Is.mk rfl ⟨pA,pn,pc,pW DC,?_,?_⟩⟩⟩
   ·obtain⟨hR,Ob⟩:=B.after k0 lT G0 hC (ku.trans B7 (fun _ _ h=>h))
    refine tA hR (by omega) (by omega) (Av.same DC) (by omega) nd.id fun t A2 n2 p2 E2 e2 q2 Z8 kt Pn lK Od=>⟨_,_,rfl,?_⟩;have B':=Ob t Z8 kt;have st:=kt.size;intro t1;have kt1:Kept Nil t t1:=(Kept.refl _ _).alloc _;have Gh:t1.heap[t.heap.size]? =some (.cells zC bj (0,0)):=aH t _;clear_value t1;obtain⟨z1,z2,z3⟩:=dH Gh (cs:=cC (jr k G nd.id nd.ps) A2 n2 p2 E2 e2 q2) (by rw [a7];rfl);refine⟨⟨a7 ..,dL _ _ _ _ _ _ _,fun j hj=>z1 j (by rw [a7];exact hj)⟩,?_⟩;have QL:Kept Nil t (setCells t1 ⟨t.heap.size,0,none⟩ (cC (jr k G nd.id nd.ps) A2 n2 p2 E2 e2 q2).toList 0):=kt1.trans z3 (fun j hj e=>by omega);have Kc: ∀j,v.heap.size<=j-> ¬(j=r\/j=x):=fun j hj e=>by have:=mq j (.inr (.inr (.inr e)));omega
    have QH:Kept (fun j=>j=r\/j=x) u _:=(B7.mono fun _ _ h=>h.elim).trans (kt.trans QL (fun _ _ h=>h.elim)) (fun _ _ h=>h);refine aF.pj (j2 (B'.same QL) (DC.trans (kt.trans QL (fun _ _ h=>h.elim)) (fun j hj e=>by have:=AG j (.inr (.inr (.inr e)));omega)) (fun j e=>?_) (QH.heap xq (Kc _ Ri)) z2 ((bQ.hs rA).aD QH (fun a ha=>Kc _ (Row.bA rA (k:=a.block) (by rw [ha];rfl)).1)) (Pn.same QL) ((Row.bo rE).aD QH (fun a ha=>Kc _ (Row.bA rE (k:=a.block) (by rw [ha];rfl)).1)) (lK.same QL) It.1 It.2);rcases e with e|e|(e|e)|e
    ·rcases lT j e with e|e
     ·exact AG j (.inl e)
     ·omega
    ·rcases G0 j e with e|e
     ·exact AG j (.inr (.inl e))
     ·omega
    ·exact AG j (.inr (.inr (.inl e)))
    ·omega
    ·exact AG j (.inr (.inr (.inr e)))
   ·intro u2
    have Ez:Kept Nil u1 u2:=(Kept.refl _ _).alloc _;have KD:u2.heap[u1.heap.size]? =some (.cells zC bj (0,0)):=aH u1 _;clear_value u2;have IB:=DC.trans Ez (fun _ _ h=>h);have s22:=Ez.size;refine⟨pW IB,⟨_,rfl,nd.id.2.1,Q9 IB⟩,?_⟩;obtain⟨hR,Ob⟩:=B.after k0 lT G0 hC ((ku.trans B7 (fun _ _ h=>h)).trans Ez (fun _ _ h=>h));refine tA hR (by omega) (by omega) (Av.same IB) (by omega) nd.id fun t A2 n2 p2 E2 e2 q2 Z8 kt Pn lK Od=>⟨_,_,rfl,?_⟩;have B':=Ob t Z8 kt;have st:=kt.size;have Kc: ∀j,v.heap.size<=j-> ¬(j=r\/j=x):=fun j hj e=>by have:=mq j (.inr (.inr (.inr e)));omega
    have hxt:=kt.heap KD (Kc _ (by omega));obtain⟨z1,z2,z3⟩:=dH hxt (cs:=cC (jr k G nd.id nd.ps) A2 n2 p2 E2 e2 q2) (by rw [a7];rfl);refine⟨⟨a7 ..,dL _ _ _ _ _ _ _,fun j hj=>z1 j (by rw [a7];exact hj)⟩,?_⟩;have lo0: ∀j,m'.own c j\/F' j->j<u1.heap.size:=fun j e=>by have:=hC.low j e;omega
    have B2:jq (setCells t ⟨u1.heap.size,0,none⟩ (cC (jr k G nd.id nd.ps) A2 n2 p2 E2 e2 q2).toList 0) F' c m' (fun j=>FR j\/(u2.heap.size<=j/\j<t.heap.size)) r x k (dq k G nd.id nd.ps):=B'.aD z3 (fun j e e'=>by
     have l1:=aT KD;rcases e with e|e|(e|e)|e
     ·have:=lo0 j (.inl e);omega
     ·have:=lo0 j (.inr e);omega
     ·have:=B.R.lo j e;omega
     ·omega
     ·have:=mq j (.inr (.inr (.inr e)));omega)
    have QH:Kept (fun j=>j=r\/j=x) u t:=((B7.trans Ez (fun _ _ h=>h)).mono fun _ _ h=>h.elim).trans kt (fun _ _ h=>h);have Mk:Kept (fun j=>j=r\/j=x) u _:=QH.trans z3 (fun j hj e=>by omega);refine aF.pj (j2 B2 ((IB.trans kt (fun j hj e=>by have:=AG j (.inr (.inr (.inr e)));omega)).trans z3 (fun j hj e=>by have:=DC.size;omega)) (fun j e=>?_) (Mk.heap xq (Kc _ Ri)) z2 ((bQ.hs rA).aD Mk (fun a ha=>Kc _ (Row.bA rA (k:=a.block) (by rw [ha];rfl)).1)) (Pn.aD z3 (fun a ha e=>by have:=Od a (.inl ha);have:=aT KD;omega)) ((Row.bo rE).aD Mk (fun a ha=>Kc _ (Row.bA rE (k:=a.block) (by rw [ha];rfl)).1)) (lK.aD z3 (fun a ha e=>by have:=Od a (.inr ha);have:=aT KD;omega)) It.1 It.2)
    ·rcases e with e|e|(e|e)|e
     ·rcases lT j e with e|e
      ·exact AG j (.inl e)
      ·omega
     ·rcases G0 j e with e|e
      ·exact AG j (.inr (.inl e))
      ·omega
     ·exact AG j (.inr (.inr (.inl e)))
     ·omega
     ·exact AG j (.inr (.inr (.inr e)))
  intro w2;have k2:Kept Nil v w2:=(Kept.refl _ _).drew;clear_value w2;have QA:=kv.trans k2 (fun _ _ h=>h);have sv2:=k2.size;have Q9: ∀ {t:World},Kept Nil w t->Cells t ((A.get!.add (((i:Nat):Int).toNat*33)).add 0) nd.id.1:=by
   intro t kt;obtain⟨a,pA,pn,pc,rfl,_,_,h4,_,_⟩:=(hl.aD kt (fun _ _ h=>h)).at_ i nd fy;intro j z hj;rw [add_zero,Int.toNat_natCast];exact h4 j z (tD hj)
  obtain⟨a,pA,pn,pc,hA,Av,pW⟩: ∃a pA pn pc,A=some a/\HS w pA pn nd.ps/\ ∀ {t:World},Kept Nil w t->t.cell? ((a.add (((i:Nat):Int).toNat*33)).add 32)=some (.slice pA pn pc):=by
   obtain⟨a,pA,pn,pc,hA,_,_,h4,h5,_⟩:=hl.at_ i nd fy;exact⟨a,pA,pn,pc,hA,h5,fun kt=>by rw [Int.toNat_natCast];exact kt.cell (h4 32 _ (oS _ _)) (fun h=>h)⟩
  subst hA;have I6:=Av.len;have hb:0<=(i:Int)/\(i:Int)<(n:Int):=⟨by omega,by omega⟩;have HW: ¬m.SX (Tryz.iZ.g 1):=fun e=>by have:=AG _ (.inl (.inl e));omega
  refine⟨hb,Is.mk rfl ⟨nd.id.1,⟨nd.id.2.1,Q9 QA⟩,hb,Is.mk rfl ⟨pA,pn,pc,pW QA,?_,?_⟩⟩⟩
  ·refine lv (B.C.same k2) (hT.same QA) HW (by omega) (by omega) (Av.same QA) (by omega) nd.id fun u F' m' A1 n1 p1 E1 e1 q1 hC _ ku lT G0 rA rE _ _=>⟨_,_,rfl,?_⟩
   intro u1;have B7:Kept Nil u u1:=(Kept.refl _ _).alloc _;have Gh:u1.heap[u.heap.size]? =some (.cells zC bj (0,0)):=aH u _;clear_value u1;obtain⟨z1,z2,z3⟩:=dH Gh (cs:=cC (jr k G nd.id nd.ps) A1 n1 p1 E1 e1 q1) (by rw [a7];rfl);refine⟨⟨a7 ..,dL _ _ _ _ _ _ _,fun j hj=>z1 j (by rw [a7];exact hj)⟩,?_⟩;have Ez:Kept Nil u (setCells u1 ⟨u.heap.size,0,none⟩ (cC (jr k G nd.id nd.ps) A1 n1 p1 E1 e1 q1).toList 0):=B7.trans z3 (fun j hj e=>by omega);have su:=ku.size;refine aF.lj (j1 hC ((k2.mono fun _ _ h=>h.elim).trans ku (fun _ _ h=>h)) (fun j e=>(lT j e).imp (fun h=>h) (fun h=>by omega)) (fun j e=>(G0 j e).imp (fun h=>h) (fun h=>by omega)) Ez z2 (by omega) ?_ ?_)
   ·exact Row.base (Row.aD rA Ez (fun _ _ h=>h)) (fun j hj=>by have:=(Row.bA rA hj).1;omega)
   ·exact Row.base (Row.aD rE Ez (fun _ _ h=>h)) (fun j hj=>by have:=(Row.bA rE hj).1;omega)
  ·intro w3
   have k3:Kept Nil w2 w3:=(Kept.refl _ _).alloc _;have zt:w3.heap[w2.heap.size]? =some (.cells zC bj (0,0)):=aH w2 _;clear_value w3;have Ki:=QA.trans k3 (fun _ _ h=>h);have s23:=k3.size;have l3:=aT zt;refine⟨pW Ki,⟨_,rfl,nd.id.2.1,Q9 Ki⟩,?_⟩;refine lv (B.C.same (k2.trans k3 (fun _ _ h=>h))) (hT.same Ki) HW (by omega) (by omega) (Av.same Ki) (by omega) nd.id fun u F' m' A1 n1 p1 E1 e1 q1 hC _ ku lT G0 rA rE _ _=>⟨_,_,rfl,?_⟩;have su:=ku.size;have hxu:=ku.heap zt (fun e=>by have:=mq _ (.inl e);omega);obtain⟨z1,z2,z3⟩:=dH hxu (cs:=cC (jr k G nd.id nd.ps) A1 n1 p1 E1 e1 q1) (by rw [a7];rfl);refine⟨⟨a7 ..,dL _ _ _ _ _ _ _,fun j hj=>z1 j (by rw [a7];exact hj)⟩,?_⟩;have no1: ∀j,m'.own c j->j≠w2.heap.size:=fun j e e'=>by
    rcases lT j e with e|e
    ·have:=mq j (.inl e);omega
    ·omega
   have no2: ∀j,F' j->j≠w2.heap.size:=fun j e e'=>by
    rcases G0 j e with e|e
    ·have:=mq j (.inr (.inl e));omega
    ·omega
   refine aF.lj (j1 (hC.aD z3 no1 no2) ((((k2.trans k3 (fun _ _ h=>h)).mono fun _ _ h=>h.elim).trans ku (fun _ _ h=>h)).trans z3 (fun j hj e=>by omega)) (fun j e=>(lT j e).imp (fun h=>h) (fun h=>by omega)) (fun j e=>(G0 j e).imp (fun h=>h) (fun h=>by omega)) (Kept.refl _ _) z2 sv2 ?_ ?_)
   ·exact Row.base (Row.aD rA z3 (fun j hj e=>by have:=(Row.bA rA hj).1;omega)) (fun j hj=>by have:=(Row.bA rA hj).1;omega)
   ·exact Row.base (Row.aD rE z3 (fun j hj e=>by have:=(Row.bA rE hj).1;omega)) (fun j hj=>by have:=(Row.bA rE hj).1;omega)
 ·simp only at fV
  have:i=n:=by omega
  subst this;rw [aS,aF.cZ];rw [List.take_of_length_le (by omega)]at B;exact hK v F c m FR r x B kv AG
end
end Go.Proofs.YtnboahlopghcjaaGreatDoor
namespace Go.Proofs.YtnboahlopghcjaaGreatDoor
open Go.Proofs.Tryz
open Go Go.bS Go.RowKit
section
variable{k:Nat}{G:GS}{s:HT}
theorem yg(G:GS)(s:HT):ct G s [s]= []:=by
 rw [List.eq_nil_iff_forall_not_mem];intro h hm;obtain⟨h1,h2,h3⟩:=iA.1 hm;rcases h1 with⟨_,p,hp,ha⟩|h1
 ·rw [List.mem_singleton]at hp;subst hp;exact h3 ha
 ·rw [List.mem_singleton]at h1;exact h2 h1
theorem oM(k:Nat)(G:GS)(s:HT):cu k G s [s]=⟨s,G.score s+1,[],[]⟩/\(eU k G s [s]).wd=G.world s++ [s]:=by
 unfold cu eU;rw [yg];exact⟨rfl,rfl⟩
variable{r a b c:HT}(DV:r≠a)(yD:r≠b)(KO:r≠c)(lr:a≠b)(Ln:a≠c)(GR:b≠c)
include DV yD lr in
theorem kG2(k:Nat): ∃G1 G2:GS,dq k (cV r) a [r]=G1/\dq k G1 b [r]=G2/\dg (cV r).D a [r]=0/\dg G1.D b [r]=0/\jE k G2/\G1.D= [⟨r,[]⟩,⟨a,[r]⟩]/\G2.D= [⟨r,[]⟩,⟨a,[r]⟩,⟨b,[r]⟩]/\G2.score a=1/\G2.score b=1/\G2.score r=0/\G2.world a= [r]/\G2.world b= [r]/\
 (∀x,eT G2.D x a↔x=r)/\(∀x,eT G2.D x b↔x=r)/\ ∀x,¬eT G2.D x r:=by
 have H0:=lf k r;have c1:dg (cV r).D a [r]=0:=(k1 DV).1;have H1:=H0.add a [r];have D1:(dq k (cV r) a [r]).D= [⟨r,[]⟩,⟨a,[r]⟩]:=by rw [rH];exact(k1 DV).2
 obtain⟨r1,r2⟩:=H0.root ⟨r,[]⟩ rfl
 replace r1:(cV r).iw r=_:=r1
 replace r2:(cV r).world r=_:=r2
 have qt:r∈ids (cV r).D:=by simp [cV,ids]
 obtain⟨n1,n2⟩:=mC H0 c1;obtain⟨o1,o2⟩:=mB (h:=a) (ps:= [r]) H0 qt
 replace n1:(dq k (cV r) a [r]).iw a=cu k (cV r) r [r]:=n1
 replace n2:(dq k (cV r) a [r]).world a=(eU k (cV r) r [r]).wd:=n2
 rw [(oM k (cV r) r).1]at n1;rw [(oM k (cV r) r).2,r2]at n2;have sr:(cV r).score r=0:=by unfold GS.score;rw [r1]
 rw [sr]at n1;rw [r1]at o1;rw [r2]at o2;generalize hG1:dq k (cV r) a [r]=G1 at*;have c2:dg G1.D b [r]=0:=by rw [D1];exact(k2 yD lr).1
 have D2:(dq k G1 b [r]).D= [⟨r,[]⟩,⟨a,[r]⟩,⟨b,[r]⟩]:=by rw [rH,D1];exact(k2 yD lr).2
 have H2:=H1.add b [r];obtain⟨p1,p2⟩:=mC H1 c2
 replace p1:(dq k G1 b [r]).iw b=cu k G1 r [r]:=p1
 replace p2:(dq k G1 b [r]).world b=(eU k G1 r [r]).wd:=p2
 rw [(oM k G1 r).1]at p1;rw [(oM k G1 r).2,o2]at p2;have sr1:G1.score r=0:=by unfold GS.score;rw [o1]
 rw [sr1]at p1;have kF:r∈ids G1.D:=by rw [D1];simp [ids]
 have ZZ:a∈ids G1.D:=by rw [D1];simp [ids]
 obtain⟨q1,_⟩:=mB (h:=b) (ps:= [r]) H1 kF;obtain⟨q3,q4⟩:=mB (h:=b) (ps:= [r]) H1 ZZ;have W2:=H2.W;have hr: ∀x,¬eT (dq k G1 b [r]).D x r:=fun x h=>by
  obtain⟨p,hp,_⟩:=(tf W2 (i:=0) (nd:=⟨r,[]⟩) (by rw [D2];rfl) x).1 h;simp at hp
 have hx: ∀(i:Nat) (y:HT),(dq k G1 b [r]).D[i]? =some ⟨y,[r]⟩-> ∀x,eT (dq k G1 b [r]).D x y↔x=r:=fun i y hi x=>by
  rw [tf W2 (i:=i) (nd:=⟨y,[r]⟩) hi x];constructor
  ·rintro⟨p,hp,e⟩
   rw [List.mem_singleton]at hp;subst hp;rcases e with e|e
   ·exact e
   ·exact absurd e (hr x)
  ·rintro rfl
   exact⟨x,by simp,.inl rfl⟩
 refine⟨G1,_,rfl,rfl,c1,c2,H2,D1,D2,?_,?_,?_,?_,p2,hx 1 a (by rw [D2];rfl),hx 2 b (by rw [D2];rfl),hr⟩
 ·unfold GS.score;rw [q3,n1]
 ·unfold GS.score;rw [p1]
 ·unfold GS.score;rw [q1,o1]
 ·rw [q4,n2];rfl
include DV yD KO lr Ln GR in
theorem kG3(cH:cH b a=true){G1 G2:GS}(h1:dq 0 (cV r) a [r]=G1)(h2:dq 0 G1 b [r]=G2):dg G2.D c [a,b]=0/\jr 0 G2 c [a,b]=⟨a,2,[b],[false]⟩:=by
 obtain⟨G1',G2',e1,e2,_,_,H2,_,D2,sa,sb,_,wa,_,aa,ab,ar⟩:=kG2 DV yD lr 0;rw [h1]at e1;subst e1;rw [h2]at e2;subst e2;have c3:dg G2.D c [a,b]=0:=by rw [D2];exact(k3 KO lr Ln GR).1
 refine⟨c3,?_⟩;unfold jr;rw [if_pos c3];have Nz:gl G2 a b=false:=by
  unfold gl;rw [sa,sb];cases h:Go.Proofs.YtnboahlopghcjaaGreatDoor.cH a b
  ·rfl
  ·have:=jn h cH
   rw [gz]at this;cases this
 have kN:bZ G2 [a,b]=a:=by
  show(if gl G2 a b then b else a)=a;rw [Nz];rfl
 rw [kN];have hm:ct G2 a [a,b]= [b]:=by
  refine(ra (by simp [SO]) fun x=>?_).symm;rw [List.mem_singleton,tO];constructor
  ·rintro rfl
   exact⟨.inr (by simp),fun e=>lr e.symm,fun e=>yD ((aa x).1 e).symm⟩
  ·rintro⟨h|h,h3,h4⟩
   ·obtain⟨_,p,hp,hA⟩:=h
    simp at hp;rcases hp with rfl|rfl
    ·exact absurd hA h4
    ·exact absurd ((aa x).2 ((ab x).1 hA)) h4
   ·simp at h
    rcases h with h|h
    ·exact absurd h h3
    ·exact h
 have hb:ns 0 G2.D [r,a] b=false:=by
  unfold ns;rw [decide_eq_false_iff_not];rintro⟨h,_⟩;have:a∈bL G2.D [r,a] b:=eZ.2 ⟨by simp,lr,fun e=>DV ((ab a).1 e).symm,fun e=>yD ((aa b).1 e).symm⟩;have h0:bL G2.D [r,a] b= []:=List.eq_nil_of_length_eq_zero (by omega);rw [h0]at this;simp at this
 unfold cu eU;rw [hm,wa,sa];have hf: [b].foldl (mT 0 G2.D) ⟨[r]++ [a],[]⟩=⟨[r,a],[false]⟩:=by
  show mT 0 G2.D ⟨[r,a],[]⟩ b=_
  unfold mT;rw [hb];rfl
 rw [hf];rfl
end
section
variable{w w':World}{K:Value->World->Prop}
set_option maxHeartbeats 1000000 in
theorem z8(hT:rI w)(hK: ∀w',Kept Nil w w'->K (.bool true) w'):bk prog fp.id #[] w K:=by
 let r:=hx 1 (by omega)
 let a:=hx 3 (by omega)
 let b:=hx 2 (by omega)
 let c:=hx 4 (by omega)
 have DV:r≠a:=rj (by omega);have yD:r≠b:=rj (by omega);have KO:r≠c:=rj (by omega);have lr:a≠b:=rj (by omega);have Ln:a≠c:=rj (by omega);have GR:b≠c:=rj (by omega);have YM:cH b a=true:=by decide
 refine fp.of ?_;unfold fp.W;intro w1 w2 w3 w4;obtain⟨⟨f1,f2,f3,f4⟩,hr,ha,hb,hc,l1,l2,l3,l4,k⟩:=four w r a b c;refine⟨⟨r.2.1,r.2.one,f1⟩,?_⟩;intro w7;refine⟨⟨a.2.1,a.2.one,f2⟩,?_⟩;intro w10;refine⟨⟨b.2.1,b.2.one,f3⟩,?_⟩;intro kr;refine⟨⟨c.2.1,c.2.one,f4⟩,?_⟩;intro je
 replace hr:je.heap[w.heap.size]? =some (.cells r.1 ai (0,0)):=hr
 replace ha:je.heap[w1.heap.size]? =some (.cells a.1 ai (0,0)):=ha
 replace hb:je.heap[w2.heap.size]? =some (.cells b.1 ai (0,0)):=hb
 replace hc:je.heap[w3.heap.size]? =some (.cells c.1 ai (0,0)):=hc
 replace k:Kept Nil w je:=k
 replace l1:w.heap.size<w1.heap.size:=l1
 replace l2:w1.heap.size<w2.heap.size:=l2
 replace l3:w2.heap.size<w3.heap.size:=l3
 replace l4:w3.heap.size<je.heap.size:=l4
 clear f1 f2 f3 f4;clear_value je;clear kr w10 w7;clear_value w3;clear w4;clear_value w2;clear_value w1;have hTl:=hT.lt;have UM:=k.size;have box: ∀ {u:World} {S:Nat->Prop},Kept S je u->(∀k,S k->je.heap.size<=k)->Cells u (⟨w.heap.size,0,none⟩:Addr) r.1/\Cells u (⟨w1.heap.size,0,none⟩:Addr) a.1/\Cells u (⟨w2.heap.size,0,none⟩:Addr) b.1/\Cells u (⟨w3.heap.size,0,none⟩:Addr) c.1:=fun ku hS=>
  ⟨Cells.bA (ku.heap hr (fun e=>by have:=hS _ e;omega)),Cells.bA (ku.heap ha (fun e=>by have:=hS _ e;omega)),Cells.bA (ku.heap hb (fun e=>by have:=hS _ e;omega)),Cells.bA (ku.heap hc (fun e=>by have:=hS _ e;omega))⟩
 obtain⟨G1,G2,e1,e2,c1,c2,H2,D1,D2,_⟩:=kG2 DV yD lr 0;obtain⟨c3,hR⟩:=kG3 DV yD KO lr Ln GR YM e1 e2;refine⟨r.1,⟨r.2.1,Cells.bA hr⟩,gK r (k:=0) (by omega) fun nI cc q m C hm hq vW=>⟨_,_,rfl,Split.no rfl (Split.no rfl ?_)⟩⟩;obtain⟨b1,b2,b3,b4⟩:=box vW (fun _ h=>h.elim);refine⟨a.1,⟨a.2.1,b2⟩,r.1,⟨r.2.1,b1⟩,r.2.1,?_⟩;intro kP;have pU:Kept Nil nI kP:=(Kept.refl _ _).alloc _;have Js:HS kP (some ⟨nI.heap.size,0,none⟩) 1 [r]:=iW nI r;clear_value kP;have Ah:=vW.trans pU (fun _ _ h=>h);have Ww:=Ah.size;refine lv (C.same pU) (hT.same (k.trans Ah (fun _ _ h=>h))) (fun e=>by have:=hm _ (.inl e);omega) (by simp [cV]) (by omega) Js (by omega) a fun pr F2 m2 A2 n2 p2 E2 q2 z2 C2 _ DK Pn _ _ _ _ _=>⟨_,_,rfl,?_⟩;rw [e1]at C2;have WE: ∀j,m2.own cc j->je.heap.size<=j:=fun j e=>(Pn j e).elim (hm j) (fun h=>by omega);have Ks:Kept (fun q=>je.heap.size<=q) je pr:=(Ah.mono (S':=fun q=>je.heap.size<=q) (fun _ _ h=>h.elim)).trans DK (fun q _ h=>hm q h);obtain⟨b1,b2,b3,b4⟩:=box Ks (fun _ h=>h);refine⟨b.1,⟨b.2.1,b3⟩,r.1,⟨r.2.1,b1⟩,r.2.1,?_⟩;intro EZ;have Ko:Kept Nil pr EZ:=(Kept.refl _ _).alloc _;have Tz:HS EZ (some ⟨pr.heap.size,0,none⟩) 1 [r]:=iW pr r;clear_value EZ;have F7:=Ks.trans Ko (fun _ _ h=>h.elim);have s31:=F7.size;refine lv (C2.same Ko) ((hT.same k).aD F7 (fun e=>by omega)) (fun e=>by have:=WE _ (.inl e);omega) (by rw [D1];simp) (by omega) Tz (by omega) b fun qM F3 m3 A3 n3 p3 E3 q3 z3 C3 _ Ad YI _ _ _ _ _=>⟨_,_,rfl,?_⟩;rw [e2]at C3;have om3: ∀j,m3.own cc j->je.heap.size<=j:=fun j e=>(YI j e).elim (WE j) (fun h=>by omega)
 have Kr:Kept (fun q=>je.heap.size<=q) je qM:=F7.trans Ad (fun q _ h=>WE q h);obtain⟨b1,b2,b3,b4⟩:=box Kr (fun _ h=>h);refine⟨c.1,⟨c.2.1,b4⟩,a.1,⟨a.2.1,b2⟩,b.1,⟨b.2.1,b3⟩,a.2.1,b.2.1,?_⟩;intro Ex;have FU:Kept Nil qM Ex:=(Kept.refl _ _).alloc _;have Jr:HS Ex (some ⟨qM.heap.size,0,none⟩) 2 [a,b]:=HS.lay (l:= [a,b]) (t:=ai) (aH qM (.cells (cJ [a,b]).toArray ai));clear_value Ex;have F6:=Kr.trans FU (fun _ _ h=>h.elim);have s39:=F6.size;refine lv (C3.same FU) ((hT.same k).aD F6 (fun e=>by omega)) (fun e=>by have:=om3 _ (.inl e);omega) (by rw [D2];simp) (by omega) Jr (by omega) c fun Bz F4 m4 A4 n4 p4 E4 q4 z4 _ _ Mq _ _ rA rE _ _=>⟨_,_,rfl,?_⟩;rw [c3];rw [hR]at rA rE⊢;have Kq:Kept (fun q=>je.heap.size<=q) je Bz:=F6.trans Mq (fun q _ h=>om3 q h);have s41:=Kq.size;intro zo;have FQ:Kept Nil Bz zo:=(Kept.refl _ _).alloc _;have Xq:zo.heap[Bz.heap.size]? =some (.cells zC bj (0,0)):=aH Bz _;clear_value zo;obtain⟨t1,t2,t3⟩:=dH Xq (cs:=cC ⟨a,2,[b],[false]⟩ A4 n4 p4 E4 q4 z4) (by rw [a7];rfl);refine⟨⟨a7 ..,dL _ _ _ _ _ _ _,fun j hj=>t1 j (by rw [a7];exact hj)⟩,?_⟩;intro EY CO
 replace t2:EY.heap[Bz.heap.size]? =some (.cells (cC ⟨a,2,[b],[false]⟩ A4 n4 p4 E4 q4 z4) bj (0,0)):=t2
 replace t3:Kept (· =Bz.heap.size) zo EY:=t3
 have Mp:Kept Nil EY CO:=(Kept.refl _ _).drew;clear_value CO;have ht:=Mp.heap t2 (fun h=>h);have FT:Kept Nil Bz CO:=(FQ.trans t3 (fun j hj e=>by omega)).trans Mp (fun _ _ h=>h);clear_value EY;have Kp:=Kq.trans FT (fun _ _ h=>h.elim);obtain⟨b1,b2,b3,b4⟩:=box Kp (fun _ h=>h);have g:=eV ⟨a,2,[b],[false]⟩ A4 n4 p4 E4 q4 z4 #[];rw [Array.append_empty]at g;have hn4:n4=1:=by have:=bQ.len rA;simpa using this.symm
 have Yh:q4=1:=by have:=(Row.bo rE).len;simpa using this.symm
 subst hn4 Yh;have mg:=(bQ.hs rA).same FT;have bl:=(Row.bo rE).same FT;have jJ:Cells CO ((⟨Bz.heap.size,0,none⟩:Addr).add 0) a.1:=fun j u hj=>by
  have cH:=(Array.getElem?_eq_some_iff.1 hj).1;rw [add_zero,a8,ax ht,Nat.zero_add];unfold cC;rw [Array.getElem?_append_left cH];exact hj
 refine Split.yes rfl ⟨a.1,⟨a.2.1,jJ⟩,a.1,⟨a.2.1,b2⟩,⟨a.2.ints,a.2.ints⟩,?_⟩;rw [cQ];refine Split.yes (decide_eq_true rfl) ⟨2,by rw [a8,ax ht];exact g.1,Split.yes rfl ⟨A4,1,p4,by rw [a8,ax ht];exact g.2.1,Split.yes rfl ⟨A4,1,p4,by rw [a8,ax ht];exact g.2.1,?_⟩⟩⟩;refine mg.load (i:=0) (by omega) rfl ⟨b.1,⟨b.2.1,b3⟩,⟨b.2.ints,b.2.ints⟩,?_⟩;rw [cQ];obtain⟨aE,h1,_,h3⟩:=bl.at_ 0 false rfl;subst h1;refine Split.yes (decide_eq_true rfl) ⟨some aE,1,z4,by rw [a8,ax ht];exact g.2.2.1,Split.yes rfl ⟨some aE,1,z4,by rw [a8,ax ht];exact g.2.2.1,⟨by omega,by omega⟩,false,h3,?_⟩⟩;exact hK CO (k.trans Kp (fun q hq e=>by omega))
end
end Go.Proofs.YtnboahlopghcjaaGreatDoor
namespace Go.Proofs.YtnboahlopghcjaaGreatDoor
open Go.Proofs.Tryz
open Go Go.bS Go.RowKit
section
variable{w w' v:World}{F FP FR:Nat->Prop}{c r x k:Nat}{G:GS}{m:CM}{K:Value->World->Prop}
end
end Go.Proofs.YtnboahlopghcjaaGreatDoor
namespace Go.Proofs.YtnboahlopghcjaaGreatDoor
open Go.Proofs.Tryz
open Go Go.bS Go.RowKit
section
variable{w v:World}{F FP FR:Nat->Prop}{c r x k:Nat}{G:GS}{m:CM}{K:Value->World->Prop}{O:Option Addr}{on oc:Nat}{lo:List HT}{s:HT}{sb xb:Nat}{xv:Array Value}
def qL(v:World)(k:Nat)(G:GS)(s:HT)(lo:List HT)(xv:Array Value):Prop:=
 (iT G.D (s::lo)≠0/\xv=cC ⟨de,0,[],[]⟩ none 0 0 none 0 0)\/
 (iT G.D (s::lo)=0/\ ∃A n cp E e ce,xv=cC (cu k G s lo) A n cp E e ce/\HS v A n (cu k G s lo).merge/\Bo v E e (cu k G s lo).dM)
theorem qL.same(h:qL v k G s lo xv)(hk:Kept Nil v w):qL w k G s lo xv:=by
 rcases h with h|⟨h,A,n,cp,E,e,ce,h1,h2,h3⟩
 ·exact .inl h
 ·exact .inr ⟨h,A,n,cp,E,e,ce,h1,h2.same hk,h3.same hk⟩
theorem qL.one(h:qL v k G s lo xv): ∀u∈xv.toList,u.oneCell'=true:=by
 rcases h with⟨_,rfl⟩|⟨_,A,n,cp,E,e,ce,rfl,_⟩<;>exact dL _ _ _ _ _ _ _
theorem yS{n cx:Nat}{A:Option Addr}(h:CV w F c k G m)(hT:rI w)(hD:G.D.length<=49)(nf:k<=1000)(yI:HS w A n lo)(hn:n<=5000)
 (hK: ∀w' xv,qL w' k G s lo xv->Kept Nil w w'->K (.tuple #[.agg xv,.int .i64 (iT G.D (s::lo))]) w'):
 bk prog dd.id #[.pointer (some ⟨c,0,none⟩),.agg s.1,.slice A n cx] w K:=by
 refine AP h hT hD nf yI hn (fun h w' kv=>hK w' _ (.inl ⟨h,rfl⟩) kv) (fun h w' A n cp E e ce g1 g2 kv=>?_);have:=hK w' _ (.inr ⟨h,A,n,cp,E,e,ce,rfl,g1,g2⟩) kv;rw [h]at this;exact this
theorem qL.size(h:qL v k G s lo xv):xv.size=35:=by
 rcases h with⟨_,rfl⟩|⟨_,A,n,cp,E,e,ce,rfl,_⟩<;>exact a7 ..
set_option maxHeartbeats 2000000 in
theorem zD(B:jq v F c m FR r x k G)(hD:G.D.length<=40)(ho:HS v O on lo)(Vc:on<=6)(ow:v.heap[sb]? =some (.cells s.1 ai (0,0)))(hs:s∈ids G.D)(fh: ∀y∈lo,y∈ids G.D)
 (kn: ∀u,Kept Nil v u->bk prog fp.id #[] u fun v3 PT=> ∃t:Bool,v3=.bool t/\K (.bool t) PT):
 Holds none [] prog 143 (.loop (lB (bB (sR (sL (sR (sR (sR (sR (sR (sR (sR (sR (sR (sR (body Tryz.f4)))))))))))))))) (aP.q1 K) [(4,.slice O on oc),(8,.pointer (some ⟨sb,0,none⟩)),(10,.bool false),(11,.pointer (some ⟨c,0,none⟩)),(12,.pointer (some ⟨r,0,none⟩)),(22,.int .i64 0)] v:=by
 have hlen:=ho.len;refine aP.b9 (I:=fun s u=> ∃i:Nat,s=(false,(i:Int))/\i<=on/\Kept Nil v u) (μ:=fun s _=>((on:Int)-s.2).toNat) (s:=(false,0)) ⟨0,rfl,Nat.zero_le _,Kept.refl _ _⟩ ?_;rintro⟨_,_⟩ u ⟨i,e,hi,ku⟩;cases e;unfold aP.B1;refine Split.dec (fun cH=>?_) (fun fV=>?_)
 ·simp only at cH
  have dN:i<on:=by omega
  obtain⟨y,hy⟩:=ho.get_mem dN;have Kz:y∈ids G.D:=fh y (List.mem_of_getElem? hy);refine⟨s.1,⟨s.2.1,Cells.bA (ku.heap ow (fun h=>h))⟩,?_⟩;intro w3;obtain⟨rk,iN,iU⟩:=gq (w:=u) (z:=de.1) (cs:=s.1) (t:=ai) (by rw [s.2.1];rfl);refine⟨⟨s.2.1,s.2.one,fun j hj=>rk j (by rw [s.2.1];exact hj)⟩,?_⟩;intro w4 w5
  replace iN:w4.heap[u.heap.size]? =some (.cells s.1 ai (0,0)):=iN
  replace iU:Kept Nil u w4:=iU
  have k5:Kept Nil w4 w5:=(Kept.refl _ _).drew;clear_value w5;have lU:=k5.heap iN (fun h=>h);have zp:=iU.trans k5 (fun _ _ h=>h);clear_value w4;have uZ:=ku.trans zp (fun _ _ h=>h);refine⟨s.1,⟨s.2.1,Cells.bA (uZ.heap ow (fun h=>h))⟩,(ho.same uZ).load (i:=(i:Int)) (x:=y) (by omega) (by rw [Int.toNat_natCast];exact hy) ?_⟩;have su:=aT ow;have sz:=ku.size;refine lO (B.same uZ).R (by omega) hs Kz fun w6 k6=>⟨_,rfl,?_⟩;have HG:=uZ.trans k6 (fun _ _ h=>h);have HH:=zp.trans k6 (fun _ _ h=>h);have nK:=k6.heap lU (fun h=>h);clear_value w3;cases hg:gl G s y with
  |true=>
   refine Split.yes rfl ((ho.same HG).load (i:=(i:Int)) (x:=y) (by omega) (by rw [Int.toNat_natCast];exact hy) ?_);obtain⟨t1,t2,t3⟩:=dH nK (cs:=y.1) (by rw [s.2.1,y.2.1]);refine⟨⟨y.2.1,y.2.one,fun j hj=>t1 j (by rw [y.2.1];exact hj)⟩,?_⟩;intro w7 w8
   replace t2:w7.heap[u.heap.size]? =some (.cells y.1 ai (0,0)):=t2
   replace t3:Kept (· =u.heap.size) w6 w7:=t3
   have k8:Kept Nil w7 w8:=(Kept.refl _ _).drew;clear_value w8;have EH:=k8.heap t2 (fun h=>h);have O5:=t3.trans k8 (fun _ _ h=>h.elim);clear_value w7;have z7:Kept Nil v w8:=HG.trans O5 (fun j hj e=>by omega);refine⟨s.1,⟨s.2.1,Cells.bA (z7.heap ow (fun h=>h))⟩,(ho.same z7).load (i:=(i:Int)) (x:=y) (by omega) (by rw [Int.toNat_natCast];exact hy) ⟨y.1,⟨y.2.1,Cells.bA EH⟩,?_⟩⟩;refine uq (B.same z7).C hs Kz fun w9 k9=>⟨_,rfl,⟨_,rfl,y.2.1,Cells.bA (k9.heap EH (fun h=>h))⟩,?_⟩;rw [if_pos hg];refine⟨⟨y.2.ints,y.2.ints⟩,Split.no (by rw [cQ];simp) ?_⟩;simp only;rw [dG (n:=(i:Int)) (by omega) (by omega)];exact⟨(false,(i:Int)+1),rfl,⟨i+1,rfl,dN,z7.trans k9 (fun _ _ h=>h)⟩,by simp only;omega⟩
  |false=>
   refine Split.no rfl ?_;intro w8;have k8:Kept Nil w6 w8:=(Kept.refl _ _).drew;clear_value w8;have EH:=k8.heap nK (fun h=>h);have z7:=HG.trans k8 (fun _ _ h=>h);refine⟨s.1,⟨s.2.1,Cells.bA (z7.heap ow (fun h=>h))⟩,(ho.same z7).load (i:=(i:Int)) (x:=y) (by omega) (by rw [Int.toNat_natCast];exact hy) ⟨s.1,⟨s.2.1,Cells.bA EH⟩,?_⟩⟩;refine uq (B.same z7).C hs Kz fun w9 k9=>⟨_,rfl,⟨_,rfl,s.2.1,Cells.bA (k9.heap EH (fun h=>h))⟩,?_⟩;rw [if_neg (by rw [hg];simp)];refine⟨⟨s.2.ints,s.2.ints⟩,Split.no (by rw [cQ];simp) ?_⟩;simp only;rw [dG (n:=(i:Int)) (by omega) (by omega)];exact⟨(false,(i:Int)+1),rfl,⟨i+1,rfl,dN,z7.trans k9 (fun _ _ h=>h)⟩,by simp only;omega⟩
 ·rw [aS,aP.cZ]
  exact kn u ku
theorem xF(k:Nat){G:GS}(s:HT){lo:List HT}(fh: ∀y∈lo,y∈ids G.D):(cu k G s lo).merge.length<=G.D.length/\(cu k G s lo).dM.length<=G.D.length:=by
 have EF:(ct G s lo).length<=G.D.length:=by
  have:=cO (m:=ids G.D) (jO G s lo).nodup (fun x hx=>by
   rcases iA.1 hx with⟨h|h,_⟩
   ·exact h.1
   ·exact fh x h)
  rwa [fI]at this
 exact⟨EF,by show(eU k G s lo).bl.length<=_;rw [(pX k G s lo).1];exact EF⟩
theorem Bo.nil(w:World)(A:Option Addr):Bo w A 0 []:=⟨rfl,fun i x hi=>by simp at hi⟩
set_option maxHeartbeats 2000000 in
theorem E5(B:jq v F c m FR r x k G)(hD:G.D.length<=40)(nf:k<=1000)(ho:HS v O on lo)(Vc:on<=6)(ow:v.heap[sb]? =some (.cells s.1 ai (0,0)))(Gh:v.heap[xb]? =some (.cells xv bj (0,0)))(hX:qL v k G s lo xv)
 (kn: ∀u,Kept Nil v u->bk prog fp.id #[] u fun v3 PT=> ∃t:Bool,v3=.bool t/\K (.bool t) PT):
 aP.J1 O on oc ⟨sb,0,none⟩ (some ⟨c,0,none⟩) (some ⟨r,0,none⟩) ⟨xb,0,none⟩ (iT G.D (s::lo)) K v:=by
 unfold aP.J1;refine⟨s.1,⟨s.2.1,Cells.bA ow⟩,s.2.1,?_⟩;intro w3;have k3:Kept Nil v w3:=(Kept.refl _ _).alloc _;have kK:bQ w3 v.heap.size (some ⟨v.heap.size,0,none⟩) 1 1 [s]:=by
  have e:cJ [s]=(s.1.toList++ []).toArray.toList:=by simp [cJ]
  show Row _ _ _ _ _ _ _ (cJ [s])
  rw [e];exact Row.made (aH v _) (by omega) (by simp [s.2.1]) (by unfold maxLen;omega)
 clear_value w3;have s3:=k3.size;obtain⟨A2,c2,w4,uP,iO,g4,Oq⟩:=cD ay kK (cx:=oc) (ho.same k3) (by omega) s3;have pI:Kept Nil v w4:=Kept.dw k3 g4 (fun j hj=>(Row.bA kK hj).1);refine⟨A2,1+on,c2,w4,uP,?_⟩;have h4:HS w4 A2 (1+on) (s::lo):=iO.hs;refine qd (B.same pI).R (by omega) h4 (by omega) fun w5 k5=>⟨_,rfl,?_⟩;have mI:=pI.trans k5 (fun _ _ h=>h);have hX5:=hX.same mI;have KC:=mI.heap Gh (fun h=>h);have zs:(zC:Array Value)=cC ⟨de,0,[],[]⟩ none 0 0 none 0 0:=rfl;by_cases hm:iT G.D (s::lo)=0
 ·obtain⟨_,fh⟩:=oU hm
  have hs:=fh s List.mem_cons_self;have dN: ∀y∈lo,y∈ids G.D:=fun y hy=>fh y (List.mem_cons_of_mem _ hy);refine Split.no (by simp [hm]) ⟨s.1,⟨s.2.1,Cells.bA (mI.heap ow (fun h=>h))⟩,?_⟩;refine pf (B.same mI).R (by omega) nf hs (ho.same mI) (by omega) dN fun u A n cp E e ce Wd nw cw r1 r2 r3 k6=>⟨_,Wd,nw,cw,rfl,?_⟩;intro w7;have k7:Kept Nil u w7:=(Kept.refl _ _).alloc _;have MS:w7.heap[u.heap.size]? =some (.cells zC bj (0,0)):=aH u _;clear_value w7;obtain⟨t1,t2,t3⟩:=dH MS (cs:=cC (cu k G s lo) A n cp E e ce) (by rw [a7];rfl);refine⟨⟨a7 ..,dL _ _ _ _ _ _ _,fun j hj=>t1 j (by rw [a7];exact hj)⟩,?_⟩;intro w8
  replace t2:w8.heap[u.heap.size]? =some (.cells (cC (cu k G s lo) A n cp E e ce) bj (0,0)):=t2
  replace t3:Kept (· =u.heap.size) w7 w8:=t3
  clear_value w8;have WZ:Kept Nil u w8:=k7.trans t3 (fun j hj e=>by omega);have DF:=k6.trans WZ (fun _ _ h=>h);have rY:=mI.trans DF (fun _ _ h=>h);refine Split.no (by simp [hm]) ⟨xv,⟨hX.size,Cells.bA (rY.heap Gh (fun h=>h))⟩,_,⟨a7 ..,Cells.bA t2⟩,?_⟩;rcases hX.same rY with⟨h,_⟩|⟨_,A',n',uR,E',e',qG,rfl,g1,g2⟩
  ·exact absurd hm h
  ·have q1:=(bQ.hs r1).same WZ
   have q2:=(Row.bo r2).same WZ;have K0:=xF k s dN;have e1:=q1.len;have e2:=q2.len;have e3:=g1.len;have e4:=g2.len;refine wB g1 q1 g2 q2 (by omega) (by omega) fun w9 k9=>⟨true,rfl,Split.no rfl ?_⟩;have vc:=rY.trans k9 (fun _ _ h=>h);exact zD (B.same vc) hD (ho.same vc) Vc (vc.heap ow (fun h=>h)) hs dN fun u ku=>kn u (vc.trans ku (fun _ _ h=>h))
 ·refine Split.yes (by simpa using hm) (Split.yes (by simp) ⟨xv,⟨hX.size,Cells.bA KC⟩,?_⟩)
  rcases hX5 with⟨_,rfl⟩|⟨h,_⟩
  ·rw [zs]
   refine wB (c:=⟨de,0,[],[]⟩) (HS.nil _ _) (HS.nil _ _) (Bo.nil _ _) (Bo.nil _ _) (by omega) (by omega) fun w9 k9=>⟨true,rfl,Split.yes rfl (kn w9 (mI.trans k9 (fun _ _ h=>h)))⟩
  ·exact absurd h hm
set_option maxHeartbeats 2000000 in
theorem zE{A:Option Addr}{n cx:Nat}{l:List DN}(hl:NS w FP A n l)(hn:n<9223372036854775808)(k:Int)(root s:HT)(ho:HS w O on lo)(hT:rI w)(hK: ∀w',Kept Nil w w'->K (.bool true) w'):
 bk prog aP.id #[.int .i64 k,.agg root.1,.slice A n cx,.agg s.1,.slice O on oc] w K:=by
 have hlen:=hl.len;refine aP.of ?_;unfold aP.W;intro w0 w1;have k0:Kept Nil w w0:=(Kept.refl _ _).alloc _;have qt:w0.heap[w.heap.size]? =some (.cells root.1 ai (0,0)):=aH w _;have U0:Kept Nil w0 w1:=(Kept.refl _ _).alloc _;have ow:w1.heap[w0.heap.size]? =some (.cells s.1 ai (0,0)):=aH w0 _;clear_value w1;have kF:=U0.heap qt (fun h=>h);have k1:=k0.trans U0 (fun _ _ h=>h);generalize EC:w0.heap.size=sb at ow;clear_value w0;have kn: ∀v,Kept Nil w v->bk prog fp.id #[] v fun v3 PT=> ∃t:Bool,v3=.bool t/\K (.bool t) PT:=fun v k=>z8 (hT.same k) fun w4 k4=>⟨true,rfl,hK w4 (k.trans k4 (fun _ _ h=>h))⟩;refine Split.dec (fun _=>kn _ k1) (fun HQ=>Split.dec (fun _=>kn _ k1) (fun mZ=>?_));refine JF (hl.same k1) hn 20 fun b hb=>⟨b,rfl,?_⟩;cases b with
 |false=>exact Split.yes rfl (kn _ k1)
 |true=>
 obtain⟨pM,hll⟩:=hb.1 rfl;obtain⟨k,rfl⟩: ∃k':Nat,k=(k':Int):=⟨k.toNat,by omega⟩;refine Split.no rfl (Split.dec (fun _=>kn _ k1) (fun af4=>?_));have Vc:on<=6:=by omega
 refine⟨root.1,⟨root.2.1,Cells.bA kF⟩,?_⟩;refine Bi (hl.same k1) (by omega) (fun nd fy=>by have:=pM nd fy;omega) root (by omega) (hT.same k1) fun w2 F c m FR r x B k2 _=>⟨_,_,true,rfl,Split.no rfl ?_⟩;have VC:=Be k root l;generalize Bf k root l=G at B VC;have mY:=k1.trans k2 (fun _ _ h=>h);have vf:=k2.heap ow (fun h=>h);refine⟨s.1,⟨s.2.1,Cells.bA vf⟩,?_⟩;refine yS B.C (hT.same mY) (by omega) (by omega) (ho.same mY) (by omega) fun v xv hX kv=>⟨_,_,rfl,?_⟩;have Xn:=hX.size;intro w7;have k7:Kept Nil v w7:=(Kept.refl _ _).alloc _;have MS:w7.heap[v.heap.size]? =some (.cells zC bj (0,0)):=aH v _;clear_value w7;obtain⟨t1,t2,t3⟩:=dH MS (cs:=xv) (by rw [Xn];rfl);refine⟨⟨Xn,hX.one,fun j hj=>t1 j (by rw [Xn];exact hj)⟩,?_⟩;intro w8
 replace t2:w8.heap[v.heap.size]? =some (.cells xv bj (0,0)):=t2
 replace t3:Kept (· =v.heap.size) w7 w8:=t3
 clear_value w8;have z7:Kept Nil v w8:=k7.trans t3 (fun j hj e=>by omega);have yv:=kv.trans z7 (fun _ _ h=>h);have rY:=mY.trans yv (fun _ _ h=>h);generalize Rc:v.heap.size=xb at t2;refine qx (B.same yv).C (ho.same rY) (by omega) fun w9 k9=>⟨_,_,rfl,?_⟩;generalize kN:(if iT G.D lo=0 then bZ G lo else de)=sl;intro w10;obtain⟨rk,iN,iU⟩:=gq (w:=w9) (z:=de.1) (cs:=sl.1) (t:=ai) (by rw [sl.2.1];rfl);refine⟨⟨sl.2.1,sl.2.one,fun j hj=>rk j (by rw [sl.2.1];exact hj)⟩,?_⟩;intro sQ
 replace iN:sQ.heap[w9.heap.size]? =some (.cells sl.1 ai (0,0)):=iN
 replace iU:Kept Nil w9 sQ:=iU
 clear_value sQ;have QO:=k9.trans iU (fun _ _ h=>h);have Mv:=yv.trans QO (fun _ _ h=>h);have DP:=mY.trans Mv (fun _ _ h=>h);refine qd (B.same Mv).R (by omega) (ho.same DP) (by omega) fun lF vX=>⟨_,rfl,?_⟩;intro kr;have sV:Kept Nil lF kr:=(Kept.refl _ _).drew;clear_value kr;have Cf:=vX.trans sV (fun _ _ h=>h);have Xd:=Mv.trans Cf (fun _ _ h=>h);have Xf:=DP.trans Cf (fun _ _ h=>h);have sD:=Cf.heap iN (fun h=>h);have J: ∀u,Kept Nil kr u->aP.J1 O on oc ⟨sb,0,none⟩ (some ⟨c,0,none⟩) (some ⟨r,0,none⟩) ⟨xb,0,none⟩ (iT G.D (s::lo)) K u:=fun u ku=>by
  have O4:=(QO.trans Cf (fun _ _ h=>h)).trans ku (fun _ _ h=>h);exact E5 (B.same (yv.trans O4 (fun _ _ h=>h))) (by omega) (by omega) (ho.same (rY.trans O4 (fun _ _ h=>h))) Vc ((yv.trans O4 (fun _ _ h=>h)).heap vf (fun h=>h)) (O4.heap t2 (fun h=>h)) ((hX.same z7).same O4) fun z kz=>kn z ((rY.trans O4 (fun _ _ h=>h)).trans kz (fun _ _ h=>h))
 refine Split.no (by simp) (Split.mk (fun hz=>?_) (fun _=>aP.lj (J _ (Kept.refl _ _))));have hm:iT G.D lo=0:=by simpa using hz
 obtain⟨h0,fh⟩:=oU hm;rw [if_pos hm]at kN;refine⟨sl.1,⟨sl.2.1,Cells.bA sD⟩,?_⟩;refine mV (B.same Xd).R (by omega) (ho.same Xf) h0 (by omega) fh fun gN DL=>⟨_,rfl,⟨_,rfl,sl.2.1,Cells.bA (DL.heap sD (fun h=>h))⟩,?_⟩;rw [kN];exact⟨⟨sl.2.ints,sl.2.ints⟩,Split.no (by rw [cQ];simp) (aP.lj (J _ DL))⟩
end
end Go.Proofs.YtnboahlopghcjaaGreatDoor
