import Derived.Test.YtnboahlopghcjaaGreatDoorMU
import Derived.Test.YtnboahlopghcjaaGreatDoorMN
import Derived.Test.YtnboahlopghcjaaGreatDoorMJ
import Derived.Test.YtnboahlopghcjaaGreatDoorMK
open Go.IntKind (i64 u64)
set_option linter.unusedVariables false
namespace Go.Proofs.YtnboahlopghcjaaGreatDoor
open Go.Proofs.Tryz
open Go Go.bP Go.RowKit
def abE(l:List DN)(Jj:Nat):Prop:=(∀nd∈l,nd.ps.length<=6)/\l.length<=Jj
noncomputable def iV(k:Nat)(G:GS)(id:HT)(l:List HT):nW:=if c9 G.D id l=0 then cG k G (bR G l) l else⟨dU,0,[],[]⟩
noncomputable def uQ(k:Nat)(root:HT)(l:List DN):GS:=l.foldl (fun G s=>cO k G s.id s.ps) (cM root)
theorem zu(k:Nat)(G:GS)(h:HT)(l:List HT):(cO k G h l).D.length<=G.D.length+1:=by
 rw [rP];unfold lP;split<;>simp
theorem rJ(k:Nat):∀(l:List DN) (G:GS),(l.foldl (fun G s=>cO k G s.id s.ps) G).D.length<=G.D.length+l.length
 | [],_=>by simp
 |s::l,G=>by
  have h1:=rJ k l (cO k G s.id s.ps);have h2:=zu k G s.id s.ps;rw [List.foldl_cons,List.length_cons];omega
theorem Bw(k:Nat)(root:HT)(l:List DN):(uQ k root l).D.length<=1+l.length:=rJ k l (cM root)
theorem Bd{k:Nat}{G:GS}{l:List DN}{i:Nat}{s:DN}(h:l[i]? =some s):(l.take (i+1)).foldl (fun G s=>cO k G s.id s.ps) G=cO k ((l.take i).foldl (fun G s=>cO k G s.id s.ps) G) s.id s.ps:=by
 rw [List.take_add_one,h];simp
section
variable{w w' v:World}{S F FP FR:Nat->Prop}{c r x k:Nat}{G:GS}{m:CM}{K:Value->World->Prop}
theorem KC{A:Option Addr}{n cx:Nat}{l:List DN}(hl:NS w FP A n l)(hn:n<9223372036854775808)(Jj:Nat)(hK:∀x:Bool,(x=true↔abE l Jj)->K (.bool x) w):
 bj prog cr.id #[.slice A n cx,.int .i64 (Jj:Int)] w K:=by
 have hlen:=hl.len;refine cr.of (cr.b7 (I:=fun s w'=>w'=w/\∃i:Nat,s=(false,(i:Int))/\i<=n/\∀nd∈l.take i,nd.ps.length<=6) (μ:=fun s _=>((n:Int)-s.2).toNat) (s:=(false,0)) ⟨rfl,0,rfl,Nat.zero_le _,by simp⟩ ?_);rintro s w' ⟨rfl,i,rfl,hi,cR⟩;refine Split.dec (fun iU=>?_) (fun fU=>?_)
 ·simp only at iU
  have dW:i<n:=by omega
  obtain⟨nd,eF⟩:∃nd,l[i]? =some nd:=⟨_,List.getElem?_eq_getElem (by omega)⟩;refine hl.ps (i:=(i:Int)) (by omega) (by rw [Int.toNat_natCast];exact eF) fun pA pn pc mQ _=>?_;have nz:=mQ.len;refine Split.dec (fun wj=>?_) (fun hle=>?_)
  ·refine hK false ⟨(fun h=>by cases h),fun h=>?_⟩
   have:=h.1 nd (List.mem_of_getElem? eF);omega
  ·simp only
   rw [gQ (x:=(i:Int)+1) (by omega) (by omega)];refine⟨(false,(i:Int)+1),rfl,⟨rfl,i+1,rfl,dW,fun md hm=>?_⟩,by simp only;omega⟩;rw [List.take_add_one,eF]at hm;simp only [Option.toList_some,List.mem_append,List.mem_singleton]at hm;rcases hm with hm|rfl
   ·exact cR md hm
   ·omega
 ·simp only at fU
  rw [aQ,cr.c8];rw [List.take_of_length_le (by omega)]at cR;refine hK _ ⟨fun h=>⟨cR,?_⟩,fun h=>decide_eq_true ?_⟩
  ·have:=of_decide_eq_true h;omega
  ·have:=h.2;omega
theorem jr(h:CV w F c k G m)(hT:rQ w)(IL:¬m.SX (Tryz.jf.g 1))(hD:G.D.length<=49)(nP:k<=1000){A:Option Addr}{n cx:Nat}{l:List HT}(Fc:HS w A n l)(hn:n<=5000)(id:HT)
 (hK:∀w' F' m' A n c1 B e c2,CV w' F' c k (cO k G id l) m'->m'.x=m.x->Kept (m.own c) w w'->(∀j,m'.own c j->m.own c j\/w.heap.size<=j)->(∀j,F' j->F j\/w.heap.size<=j)->
   bQ w' w.heap.size A n c1 (iV k G id l).merge->Row w' w.heap.size gJ 1 B e c2 (qM (iV k G id l).dJ)->(∀j,a8 A=some j->a8 B≠some j)->(∀j,a8 A=some j\/a8 B=some j->¬m'.own c j/\¬F' j)->
   K (.tuple #[.agg (cD (iV k G id l) A n c1 B e c2),.int .i64 (c9 G.D id l)]) w'):
 bj prog dt.id #[.pointer (some ⟨c,0,none⟩),.agg id.1,.slice A n cx] w K:=by
 refine EA h hT IL hD nP Fc hn id (fun he w' k'=>?_) (fun he w' F' m' A n c1 B e c2 h1 h2 h3 h4 h5 h6 h7 h8 h9=>?_)
 ·have e1:iV k G id l=⟨dU,0,[],[]⟩:=if_neg he
  have:=hK w' F m none 0 0 none 0 0 (by rw [ph he];exact h.same k') rfl (k'.mono fun _ _ h=>h.elim) (fun j h=>.inl h) (fun j h=>.inl h) (by rw [e1];exact bQ.nil _ _) (by rw [e1];exact Row.nil _ _ _ _) (fun j hj=>(by cases hj)) (fun j hj=>by rcases hj with hj|hj<;>cases hj);rw [e1]at this;exact this
 ·have e1:iV k G id l=cG k G (bR G l) l:=if_pos he
  have:=hK w' F' m' A n c1 B e c2 h1 h2 h3 h4 h5 (by rw [e1];exact h6) (by rw [e1];exact h7) h8 h9;rw [e1,he]at this;exact this
theorem tL(h:R3 w F r x k G)(hD:G.D.length<=300)(nP:k<=1000){A:Option Addr}{n cx:Nat}{l:List HT}(hl:HS w A n l)(hn:n<=5000)(id:HT)
 (hK:∀w' A n c B e ce,R3 w' (fun j=>F j\/(w.heap.size<=j/\j<w'.heap.size)) r x k (cO k G id l)->Kept (fun j=>j=r\/j=x) w w'->HS w' A n (iV k G id l).merge->Bo w' B e (iV k G id l).dJ->(∀a,A=some a\/B=some a->w.heap.size<=a.block)->K (.tuple #[.agg (cD (iV k G id l) A n c B e ce),.int .i64 (c9 G.D id l)]) w'):
 bj prog dr.id #[.pointer (some ⟨r,0,none⟩),.agg id.1,.slice A n cx] w K:=by
 have Wu:=h.lt;have LM:=h.lx;refine wP h hD nP hl hn id (fun he w' k'=>?_) (fun he w' A n c B e ce h1 h2 h3 h4 h5=>?_)
 ·have e1:iV k G id l=⟨dU,0,[],[]⟩:=if_neg he
  have h':=h.same k';have hs:=k'.size;obtain⟨A1,c1,B1,Vq,g1,g2,g3⟩:=h'.top;have:=hK w' none 0 0 none 0 0 (by
   rw [ph he];exact⟨⟨A1,c1,B1,Vq,g1,g2.mono (fun j hj=>.inl hj),g3.mono (fun j hj=>.inl hj)⟩,h'.X.mono (fun j hj=>.inl hj) (fun e=>e.elim h.X.gL (fun e=>by omega)),fun e=>e.elim h.gL (fun e=>by omega),h.ne,h.eM,fun j e=>e.elim (h'.lo j) (fun e=>e.2)⟩) (k'.mono fun _ _ h=>h.elim) (by rw [e1];exact HS.nil _ _) (by rw [e1];exact⟨rfl,fun i b hi=>by simp at hi⟩) (fun a ha=>by rcases ha with ha|ha<;>cases ha)
  rw [e1]at this;exact this
 ·have e1:iV k G id l=cG k G (bR G l) l:=if_pos he
  have:=hK w' A n c B e ce h1 h2 (by rw [e1];exact h3) (by rw [e1];exact h4) h5;rw [e1,he]at this;exact this
structure jc(w:World)(F:Nat->Prop)(c:Nat)(m:CM)(FR:Nat->Prop)(r x k:Nat)(G:GS):Prop where
 C:CV w F c k G m
 R:R3 w FR r x k G
 rS:∀j,j=r\/j=x->¬m.own c j/\¬F j
 fS:∀j,FR j->¬m.own c j
theorem jc.aD{S0:Nat->Prop}(B:jc w F c m FR r x k G)(hk:Kept S0 w w')(h1:∀j,m.own c j\/F j\/FR j\/j=r\/j=x->¬S0 j):jc w' F c m FR r x k G:=
 ⟨B.C.aD hk (fun j e=>h1 j (.inl e)) (fun j e=>h1 j (.inr (.inl e))),B.R.aD hk (h1 _ (.inr (.inr (.inr (.inl rfl))))) (h1 _ (.inr (.inr (.inr (.inr rfl))))) (fun j e=>h1 j (.inr (.inr (.inl e)))),B.rS,B.fS⟩
theorem jc.same(B:jc w F c m FR r x k G)(hk:Kept Nil w w'):jc w' F c m FR r x k G:=B.aD hk (fun _ _ h=>h)
theorem jc.low(B:jc w F c m FR r x k G):∀j,m.own c j\/F j\/FR j\/j=r\/j=x->j<w.heap.size:=fun j e=>by
 rcases e with e|e|e|e|e
 ·exact B.C.low j (.inl e)
 ·exact B.C.low j (.inr e)
 ·exact B.R.lo j e
 ·rw [e];exact B.R.lt
 ·rw [e];exact B.R.lx
theorem jc.after{F':Nat->Prop}{m':CM}{G':GS}(B:jc w F c m FR r x k G)(kv:Kept (m.own c) w v)(h1:∀j,m'.own c j->m.own c j\/w.heap.size<=j)(h2:∀j,F' j->F j\/w.heap.size<=j)(hC:CV v F' c k G' m'){u:World}(V9:Kept Nil v u):
 R3 u FR r x k G/\∀t,R3 t (fun j=>FR j\/(u.heap.size<=j/\j<t.heap.size)) r x k G'->Kept (fun j=>j=r\/j=x) u t->jc t F' c m' (fun j=>FR j\/(u.heap.size<=j/\j<t.heap.size)) r x k G':=by
 have hr:=B.R.lt;have hx:=B.R.lx;have nr:∀j,j=r\/j=x->¬m'.own c j/\¬F' j:=fun j hj=>by
  have cy:j<w.heap.size:=by rcases hj with rfl|rfl;exact hr;exact hx
  refine⟨fun e=>?_,fun e=>?_⟩
  ·rcases h1 j e with e|e
   ·exact(B.rS j hj).1 e
   ·omega
  ·rcases h2 j e with e|e
   ·exact(B.rS j hj).2 e
   ·omega
 refine⟨(B.R.aD kv (fun e=>(B.rS r (.inl rfl)).1 e) (fun e=>(B.rS x (.inr rfl)).1 e) B.fS).same V9,fun t hR kt=>⟨?_,hR,nr,fun j hj e=>?_⟩⟩
 ·exact(hC.same V9).aD kt (fun j e e'=>(nr j e').1 e) (fun j e e'=>(nr j e').2 e)
 ·have lA:=hC.low j (.inl e)
  have:=V9.size;rcases hj with hj|hj
  ·rcases h1 j e with e|e
   ·exact B.fS j hj e
   ·have:=B.R.lo j hj;omega
  ·omega
end
section
variable{w w' v:World}{S F FP FR:Nat->Prop}{c r x k:Nat}{G:GS}{m:CM}{K:Value->World->Prop}
set_option maxHeartbeats 2000000 in
theorem BA{A:Option Addr}{n cx:Nat}{l:List DN}(hl:NS w FP A n l)(hn:n<=40)(mQ:∀nd∈l,nd.ps.length<=1000)(root:HT)(nP:k<=100)(hT:rQ w)
 (hK:∀v F c m FR r x,jc v F c m FR r x k (uQ k root l)->Kept Nil w v->(∀j,m.own c j\/F j\/FR j\/j=r\/j=x->w.heap.size<=j)->K (.tuple #[.pointer (some ⟨c,0,none⟩),.pointer (some ⟨r,0,none⟩),.bool true]) v):
 bj prog aG.id #[.int .i64 (k:Int),.agg root.1,.slice A n cx] w K:=by
 have hlen:=hl.len;refine aG.of ?_;unfold aG.W;intro w1;have k1:Kept Nil w w1:=(Kept.refl _ _).alloc _;have xK:w1.heap[w.heap.size]? =some (.cells root.1 aj (0,0)):=aJ w _;clear_value w1;refine⟨root.1,⟨root.2.1,Cells.bC xK⟩,?_⟩;refine gq root nP fun w2 c q m C hm hq k2=>⟨_,_,rfl,Split.no rfl (Split.no rfl ⟨root.1,⟨root.2.1,Cells.bC (k2.heap xK (fun h=>h))⟩,?_⟩)⟩;refine wO root k fun w3 r x FR R hFR hr hx k3=>⟨_,rfl,?_⟩;have s1:=k1.size;have s2:=k2.size;have nM:=(k1.tt k2).tt k3;have B0:jc w3 (· =q) c m FR r x k (cM root):=⟨C.same k3,R,fun j hj=>by
  have fU:w2.heap.size<=j:=by rcases hj with rfl|rfl;exact hr;exact hx
  exact⟨fun e=>by have:=C.low j (.inl e);omega,fun e=>by have:=C.low j (.inr e);omega⟩,fun j hj e=>by have:=hFR j hj;have:=C.low j (.inl e);omega⟩
 refine aG.b7 (I:=fun s v=>∃(i:Nat) (F:Nat->Prop) (m:CM) (FR:Nat->Prop),s=(none,none,false,(i:Int))/\i<=n/\jc v F c m FR r x k ((l.take i).foldl (fun G s=>cO k G s.id s.ps) (cM root))/\Kept Nil w v/\∀j,m.own c j\/F j\/FR j\/j=r\/j=x->w.heap.size<=j) (μ:=fun s _=>((n:Int)-s.2.2.2).toNat) (s:=(none,none,false,0)) ⟨0,(· =q),m,FR,rfl,Nat.zero_le _,B0,nM,fun j e=>by
  rcases e with e|e|e|e|e
  ·have:=hm j e;omega
  ·have e:j=q:=e;omega
  ·have:=hFR j e;omega
  ·omega
  ·omega⟩ ?_
 clear B0 hFR hm C R hq k2 k3;rintro s v ⟨i,F,m,FR,rfl,hi,B,kv,AU⟩;unfold aG.B1;refine Split.dec (fun cy=>?_) (fun fU=>?_)
 ·simp only at cy
  have dW:i<n:=by omega
  obtain⟨nd,eF⟩:∃nd,l[i]? =some nd:=⟨_,List.getElem?_eq_getElem (by omega)⟩;have sK:l[((i:Nat):Int).toNat]? =some nd:=by rw [Int.toNat_natCast];exact eF
  have nz:=mQ nd (List.mem_of_getElem? eF);have Lv:=Bd (k:=k) (G:=cM root) eF;have WQ:=rJ k (l.take i) (cM root);rw [List.length_take]at WQ;have hD1:(cM root).D.length=1:=rfl;generalize hG:(l.take i).foldl (fun G s=>cO k G s.id s.ps) (cM root)=G at B Lv WQ;have hTl:=hT.lt;have lA:=B.low;have sv:=kv.size;have j2:∀ {u:World} {F' Xh:Nat->Prop} {m':CM} {b1 b2:Nat} {A1 E1 A2 E2:Option Addr} {n1 p1 e1 q1 n2 p2 e2 q2:Nat},jc u F' c m' Xh r x k (cO k G nd.id nd.ps)->Kept Nil w u->(∀j,m'.own c j\/F' j\/Xh j\/j=r\/j=x->w.heap.size<=j)->
   u.heap[b1]? =some (.cells (cD (iV k G nd.id nd.ps) A1 n1 p1 E1 e1 q1) bg (0,0))->u.heap[b2]? =some (.cells (cD (iV k G nd.id nd.ps) A2 n2 p2 E2 e2 q2) bg (0,0))->HS u A1 n1 (iV k G nd.id nd.ps).merge->HS u A2 n2 (iV k G nd.id nd.ps).merge->Bo u E1 e1 (iV k G nd.id nd.ps).dJ->Bo u E2 e2 (iV k G nd.id nd.ps).dJ->n1<=100000->e1<=100000->
   aG.J2 A n cx none none false (some ⟨c,0,none⟩) (some ⟨r,0,none⟩) (i:Int) ⟨b1,0,none⟩ (c9 G.D nd.id nd.ps) ⟨b2,0,none⟩ (c9 G.D nd.id nd.ps) (bI (aG.e1 A n cx (some ⟨c,0,none⟩) (some ⟨r,0,none⟩)) (fun s v=>∃(i:Nat) (F:Nat->Prop) (m:CM) (FR:Nat->Prop),s=(none,none,false,(i:Int))/\i<=n/\jc v F c m FR r x k ((l.take i).foldl (fun G s=>cO k G s.id s.ps) (cM root))/\Kept Nil w v/\∀j,m.own c j\/F j\/FR j\/j=r\/j=x->w.heap.size<=j) (fun s _=>((n:Int)-s.2.2.2).toNat) (none,none,false,(i:Int)) v (aG.q1 K)) u:=by
   intro u F' Xh m' b1 b2 A1 E1 A2 E2 n1 p1 e1 q1 n2 p2 e2 q2 B' ku aah h1 h2 g1 g2 g3 g4 g5 g6;unfold aG.J2;refine Split.no (by simp) ⟨_,⟨aW ..,Cells.bC h1⟩,_,⟨aW ..,Cells.bC h2⟩,?_⟩;refine BY g1 g2 g3 g4 g5 g6 fun t kt=>⟨true,rfl,Split.no rfl ?_⟩;rw [dh (n:=(i:Int)) (by omega) (by omega)];refine⟨(none,none,false,(i:Int)+1),rfl,⟨i+1,F',m',Xh,rfl,dW,?_,ku.tt kt,aah⟩,by simp only;omega⟩;rw [Lv];exact B'.same kt
  have j1:∀ {u u0:World} {F':Nat->Prop} {m':CM} {b1:Nat} {A1 E1:Option Addr} {n1 p1 e1 q1:Nat},CV u0 F' c k (cO k G nd.id nd.ps) m'->Kept (m.own c) v u0->(∀j,m'.own c j->m.own c j\/v.heap.size<=j)->(∀j,F' j->F j\/v.heap.size<=j)->Kept Nil u0 u->
   u.heap[b1]? =some (.cells (cD (iV k G nd.id nd.ps) A1 n1 p1 E1 e1 q1) bg (0,0))->v.heap.size<=b1->bQ u v.heap.size A1 n1 p1 (iV k G nd.id nd.ps).merge->Row u v.heap.size gJ 1 E1 e1 q1 (qM (iV k G nd.id nd.ps).dJ)->
   aG.J1 A n cx none none false (some ⟨c,0,none⟩) (some ⟨r,0,none⟩) (i:Int) ⟨b1,0,none⟩ (c9 G.D nd.id nd.ps) (bI (aG.e1 A n cx (some ⟨c,0,none⟩) (some ⟨r,0,none⟩)) (fun s v=>∃(i:Nat) (F:Nat->Prop) (m:CM) (FR:Nat->Prop),s=(none,none,false,(i:Int))/\i<=n/\jc v F c m FR r x k ((l.take i).foldl (fun G s=>cO k G s.id s.ps) (cM root))/\Kept Nil w v/\∀j,m.own c j\/F j\/FR j\/j=r\/j=x->w.heap.size<=j) (fun s _=>((n:Int)-s.2.2.2).toNat) (none,none,false,(i:Int)) v (aG.q1 K)) u:=by
   intro u u0 F' m' b1 A1 E1 n1 p1 e1 q1 hC k0 mc HE ku xK Sg rA rE;unfold aG.J1;have X3:Kept Nil w u0:=kv.trans k0 (fun j hj e=>by have:=AU j (.inl e);omega);have PW:Kept Nil w u:=X3.tt ku;have suv:=k0.size;have suu:=ku.size;intro u1;have Cp:Kept Nil u u1:=(Kept.refl _ _).drew;clear_value u1;have D3:=PW.tt Cp;have s11:=Cp.size;have Ji:n1<=100000/\e1<=100000:=by
    have Vq:=bQ.len rA;have e2':=(Row.bo rE).len;have hG1:=hC.eM;by_cases hc:c9 G.D nd.id nd.ps=0
    ·have ki:iV k G nd.id nd.ps=(cO k G nd.id nd.ps).gm nd.id:=by
      rw [(kr B.C.eM hc).1];exact if_pos hc
     have gR:nd.id∈ids (cO k G nd.id nd.ps).D:=by rw [iL hc];simp [ids]
     obtain⟨z1,z2⟩:=wx hG1 gR;have:=zu k G nd.id nd.ps;rw [ki]at Vq e2';omega
    ·have ki:iV k G nd.id nd.ps=⟨dU,0,[],[]⟩:=if_neg hc
     rw [ki]at Vq e2';simp at Vq e2';omega
   have R9:∀ {t:World},Kept Nil w t->Cells t (((A.get!).add (((i:Nat):Int).toNat*33)).add 0) nd.id.1:=by
    intro t kt;obtain⟨a,pA,pn,pc,rfl,_,_,h4,_,_⟩:=(hl.aD kt (fun _ _ h=>h)).at_ i nd eF;intro j z hj;rw [add_zero,Int.toNat_natCast];exact h4 j z (qm hj)
   have ps1:∃a pA pn pc,A=some a/\HS w pA pn nd.ps/\∀ {t:World},Kept Nil w t->t.cell? ((a.add (((i:Nat):Int).toNat*33)).add 32)=some (.slice pA pn pc):=by
    obtain⟨a,pA,pn,pc,rfl,_,_,h4,h5,_⟩:=hl.at_ i nd eF;exact⟨a,pA,pn,pc,rfl,h5,fun kt=>by rw [Int.toNat_natCast];exact kt.cell (h4 32 _ (mu _ _)) (fun h=>h)⟩
   obtain⟨a,pA,pn,pc,rfl,AN,pG⟩:=ps1;have Hg:=AN.len;have hb:0<=(i:Int)/\(i:Int)<(n:Int):=⟨by omega,by omega⟩;refine⟨hb,Is.mk rfl ⟨nd.id.1,⟨nd.id.2.1,R9 D3⟩,hb,Is.mk rfl ⟨pA,pn,pc,pG D3,?_,?_⟩⟩⟩
   ·obtain⟨hR,Pa⟩:=B.after k0 mc HE hC (ku.tt Cp)
    refine tL hR (by omega) (by omega) (AN.same D3) (by omega) nd.id fun t A2 n2 p2 E2 e2 q2 hRt kt Qn lS Pc=>⟨_,_,rfl,?_⟩;have B':=Pa t hRt kt;have st:=kt.size;intro t1;have Yd:Kept Nil t t1:=(Kept.refl _ _).alloc _;have Ef:t1.heap[t.heap.size]? =some (.cells zC bg (0,0)):=aJ t _;clear_value t1;obtain⟨z1,z2,z3⟩:=dN Ef (cs:=cD (iV k G nd.id nd.ps) A2 n2 p2 E2 e2 q2) (by rw [aW];rfl);refine⟨⟨aW ..,dI _ _ _ _ _ _ _,fun j hj=>z1 j (by rw [aW];exact hj)⟩,?_⟩;have Ix:Kept Nil t (setCells t1 ⟨t.heap.size,0,none⟩ (cD (iV k G nd.id nd.ps) A2 n2 p2 E2 e2 q2).toList 0):=Yd.trans z3 (fun j hj e=>by omega);have K2:∀j,v.heap.size<=j->¬(j=r\/j=x):=fun j hj e=>by have:=lA j (.inr (.inr (.inr e)));omega
    have RI:Kept (fun j=>j=r\/j=x) u _:=(Cp.mono fun _ _ h=>h.elim).tt (kt.trans Ix (fun _ _ h=>h.elim));refine aG.ny (j2 (B'.same Ix) (D3.trans (kt.trans Ix (fun _ _ h=>h.elim)) (fun j hj e=>by have:=AU j (.inr (.inr (.inr e)));omega)) (fun j e=>?_) (RI.heap xK (K2 _ Sg)) z2 ((bQ.hs rA).aD RI (fun a ha=>K2 _ (Row.bC rA (k:=a.block) (by rw [ha];rfl)).1)) (Qn.same Ix) ((Row.bo rE).aD RI (fun a ha=>K2 _ (Row.bC rE (k:=a.block) (by rw [ha];rfl)).1)) (lS.same Ix) Ji.1 Ji.2);rcases e with e|e|(e|e)|e
    ·rcases mc j e with e|e
     ·exact AU j (.inl e)
     ·omega
    ·rcases HE j e with e|e
     ·exact AU j (.inr (.inl e))
     ·omega
    ·exact AU j (.inr (.inr (.inl e)))
    ·omega
    ·exact AU j (.inr (.inr (.inr e)))
   ·intro u2
    have E6:Kept Nil u1 u2:=(Kept.refl _ _).alloc _;have Lp:u2.heap[u1.heap.size]? =some (.cells zC bg (0,0)):=aJ u1 _;clear_value u2;have Jq:=D3.tt E6;have s22:=E6.size;refine⟨pG Jq,⟨_,rfl,nd.id.2.1,R9 Jq⟩,?_⟩;obtain⟨hR,Pa⟩:=B.after k0 mc HE hC ((ku.tt Cp).tt E6);refine tL hR (by omega) (by omega) (AN.same Jq) (by omega) nd.id fun t A2 n2 p2 E2 e2 q2 hRt kt Qn lS Pc=>⟨_,_,rfl,?_⟩;have B':=Pa t hRt kt;have st:=kt.size;have K2:∀j,v.heap.size<=j->¬(j=r\/j=x):=fun j hj e=>by have:=lA j (.inr (.inr (.inr e)));omega
    have hxt:=kt.heap Lp (K2 _ (by omega));obtain⟨z1,z2,z3⟩:=dN hxt (cs:=cD (iV k G nd.id nd.ps) A2 n2 p2 E2 e2 q2) (by rw [aW];rfl);refine⟨⟨aW ..,dI _ _ _ _ _ _ _,fun j hj=>z1 j (by rw [aW];exact hj)⟩,?_⟩;have lo0:∀j,m'.own c j\/F' j->j<u1.heap.size:=fun j e=>by have:=hC.low j e;omega
    have B2:jc (setCells t ⟨u1.heap.size,0,none⟩ (cD (iV k G nd.id nd.ps) A2 n2 p2 E2 e2 q2).toList 0) F' c m' (fun j=>FR j\/(u2.heap.size<=j/\j<t.heap.size)) r x k (cO k G nd.id nd.ps):=B'.aD z3 (fun j e e'=>by
     have l1:=aS Lp;rcases e with e|e|(e|e)|e
     ·have:=lo0 j (.inl e);omega
     ·have:=lo0 j (.inr e);omega
     ·have:=B.R.lo j e;omega
     ·omega
     ·have:=lA j (.inr (.inr (.inr e)));omega)
    have RI:Kept (fun j=>j=r\/j=x) u t:=((Cp.tt E6).mono fun _ _ h=>h.elim).tt kt;have M7:Kept (fun j=>j=r\/j=x) u _:=RI.trans z3 (fun j hj e=>by omega);refine aG.ny (j2 B2 ((Jq.trans kt (fun j hj e=>by have:=AU j (.inr (.inr (.inr e)));omega)).trans z3 (fun j hj e=>by have:=D3.size;omega)) (fun j e=>?_) (M7.heap xK (K2 _ Sg)) z2 ((bQ.hs rA).aD M7 (fun a ha=>K2 _ (Row.bC rA (k:=a.block) (by rw [ha];rfl)).1)) (Qn.aD z3 (fun a ha e=>by have:=Pc a (.inl ha);have:=aS Lp;omega)) ((Row.bo rE).aD M7 (fun a ha=>K2 _ (Row.bC rE (k:=a.block) (by rw [ha];rfl)).1)) (lS.aD z3 (fun a ha e=>by have:=Pc a (.inr ha);have:=aS Lp;omega)) Ji.1 Ji.2)
    ·rcases e with e|e|(e|e)|e
     ·rcases mc j e with e|e
      ·exact AU j (.inl e)
      ·omega
     ·rcases HE j e with e|e
      ·exact AU j (.inr (.inl e))
      ·omega
     ·exact AU j (.inr (.inr (.inl e)))
     ·omega
     ·exact AU j (.inr (.inr (.inr e)))
  intro w2;have k2:Kept Nil v w2:=(Kept.refl _ _).drew;clear_value w2;have RB:=kv.tt k2;have sv2:=k2.size;have R9:∀ {t:World},Kept Nil w t->Cells t ((A.get!.add (((i:Nat):Int).toNat*33)).add 0) nd.id.1:=by
   intro t kt;obtain⟨a,pA,pn,pc,rfl,_,_,h4,_,_⟩:=(hl.aD kt (fun _ _ h=>h)).at_ i nd eF;intro j z hj;rw [add_zero,Int.toNat_natCast];exact h4 j z (qm hj)
  obtain⟨a,pA,pn,pc,hA,AN,pG⟩:∃a pA pn pc,A=some a/\HS w pA pn nd.ps/\∀ {t:World},Kept Nil w t->t.cell? ((a.add (((i:Nat):Int).toNat*33)).add 32)=some (.slice pA pn pc):=by
   obtain⟨a,pA,pn,pc,hA,_,_,h4,h5,_⟩:=hl.at_ i nd eF;exact⟨a,pA,pn,pc,hA,h5,fun kt=>by rw [Int.toNat_natCast];exact kt.cell (h4 32 _ (mu _ _)) (fun h=>h)⟩
  subst hA;have Hg:=AN.len;have hb:0<=(i:Int)/\(i:Int)<(n:Int):=⟨by omega,by omega⟩;have IL:¬m.SX (Tryz.jf.g 1):=fun e=>by have:=AU _ (.inl (.inl e));omega
  refine⟨hb,Is.mk rfl ⟨nd.id.1,⟨nd.id.2.1,R9 RB⟩,hb,Is.mk rfl ⟨pA,pn,pc,pG RB,?_,?_⟩⟩⟩
  ·refine jr (B.C.same k2) (hT.same RB) IL (by omega) (by omega) (AN.same RB) (by omega) nd.id fun u F' m' A1 n1 p1 E1 e1 q1 hC _ ku mc HE rA rE _ _=>⟨_,_,rfl,?_⟩
   intro u1;have Cp:Kept Nil u u1:=(Kept.refl _ _).alloc _;have Ef:u1.heap[u.heap.size]? =some (.cells zC bg (0,0)):=aJ u _;clear_value u1;obtain⟨z1,z2,z3⟩:=dN Ef (cs:=cD (iV k G nd.id nd.ps) A1 n1 p1 E1 e1 q1) (by rw [aW];rfl);refine⟨⟨aW ..,dI _ _ _ _ _ _ _,fun j hj=>z1 j (by rw [aW];exact hj)⟩,?_⟩;have E6:Kept Nil u (setCells u1 ⟨u.heap.size,0,none⟩ (cD (iV k G nd.id nd.ps) A1 n1 p1 E1 e1 q1).toList 0):=Cp.trans z3 (fun j hj e=>by omega);have su:=ku.size;refine aG.ly (j1 hC ((k2.mono fun _ _ h=>h.elim).tt ku) (fun j e=>(mc j e).imp (fun h=>h) (fun h=>by omega)) (fun j e=>(HE j e).imp (fun h=>h) (fun h=>by omega)) E6 z2 (by omega) ?_ ?_)
   ·exact Row.base (Row.aD rA E6 (fun _ _ h=>h)) (fun j hj=>by have:=(Row.bC rA hj).1;omega)
   ·exact Row.base (Row.aD rE E6 (fun _ _ h=>h)) (fun j hj=>by have:=(Row.bC rE hj).1;omega)
  ·intro w3
   have k3:Kept Nil w2 w3:=(Kept.refl _ _).alloc _;have AB:w3.heap[w2.heap.size]? =some (.cells zC bg (0,0)):=aJ w2 _;clear_value w3;have K7:=RB.tt k3;have s23:=k3.size;have l3:=aS AB;refine⟨pG K7,⟨_,rfl,nd.id.2.1,R9 K7⟩,?_⟩;refine jr (B.C.same (k2.tt k3)) (hT.same K7) IL (by omega) (by omega) (AN.same K7) (by omega) nd.id fun u F' m' A1 n1 p1 E1 e1 q1 hC _ ku mc HE rA rE _ _=>⟨_,_,rfl,?_⟩;have su:=ku.size;have hxu:=ku.heap AB (fun e=>by have:=lA _ (.inl e);omega);obtain⟨z1,z2,z3⟩:=dN hxu (cs:=cD (iV k G nd.id nd.ps) A1 n1 p1 E1 e1 q1) (by rw [aW];rfl);refine⟨⟨aW ..,dI _ _ _ _ _ _ _,fun j hj=>z1 j (by rw [aW];exact hj)⟩,?_⟩;have no1:∀j,m'.own c j->j≠w2.heap.size:=fun j e e'=>by
    rcases mc j e with e|e
    ·have:=lA j (.inl e);omega
    ·omega
   have no2:∀j,F' j->j≠w2.heap.size:=fun j e e'=>by
    rcases HE j e with e|e
    ·have:=lA j (.inr (.inl e));omega
    ·omega
   refine aG.ly (j1 (hC.aD z3 no1 no2) ((((k2.tt k3).mono fun _ _ h=>h.elim).tt ku).trans z3 (fun j hj e=>by omega)) (fun j e=>(mc j e).imp (fun h=>h) (fun h=>by omega)) (fun j e=>(HE j e).imp (fun h=>h) (fun h=>by omega)) (Kept.refl _ _) z2 sv2 ?_ ?_)
   ·exact Row.base (Row.aD rA z3 (fun j hj e=>by have:=(Row.bC rA hj).1;omega)) (fun j hj=>by have:=(Row.bC rA hj).1;omega)
   ·exact Row.base (Row.aD rE z3 (fun j hj e=>by have:=(Row.bC rE hj).1;omega)) (fun j hj=>by have:=(Row.bC rE hj).1;omega)
 ·simp only at fU
  have:i=n:=by omega
  subst this;rw [aQ,aG.c8];rw [List.take_of_length_le (by omega)]at B;exact hK v F c m FR r x B kv AU
end
section
variable{k:Nat}{G:GS}{s:HT}
theorem yz(G:GS)(s:HT):cf G s [s]= []:=by
 rw [List.eq_nil_iff_forall_not_mem];intro h hm;obtain⟨h1,h2,h3⟩:=ig.1 hm;rcases h1 with⟨_,p,hp,ha⟩|h1
 ·rw [List.mem_singleton]at hp;subst hp;exact h3 ha
 ·rw [List.mem_singleton]at h1;exact h2 h1
theorem oY(k:Nat)(G:GS)(s:HT):cG k G s [s]=⟨s,G.score s+1,[],[]⟩/\(dv k G s [s]).wd=G.world s++ [s]:=by
 unfold cG dv;rw [yz];exact⟨rfl,rfl⟩
variable{r a b c:HT}(Ek:r≠a)(yT:r≠b)(Ly:r≠c)(lD:a≠b)(Mc:a≠c)(Hy:b≠c)
include Ek yT lD in
theorem kG2(k:Nat):∃G1 G2:GS,cO k (cM r) a [r]=G1/\cO k G1 b [r]=G2/\c9 (cM r).D a [r]=0/\c9 G1.D b [r]=0/\gV k G2/\G1.D= [⟨r,[]⟩,⟨a,[r]⟩]/\G2.D= [⟨r,[]⟩,⟨a,[r]⟩,⟨b,[r]⟩]/\G2.score a=1/\G2.score b=1/\G2.score r=0/\G2.world a= [r]/\G2.world b= [r]/\
 (∀x,eI G2.D x a↔x=r)/\(∀x,eI G2.D x b↔x=r)/\∀x,¬eI G2.D x r:=by
 have H0:=jo k r;have c1:c9 (cM r).D a [r]=0:=(k1 Ek).1;have H1:=H0.add a [r];have D1:(cO k (cM r) a [r]).D= [⟨r,[]⟩,⟨a,[r]⟩]:=by rw [rP];exact(k1 Ek).2
 obtain⟨r1,r2⟩:=H0.root ⟨r,[]⟩ rfl
 replace r1:(cM r).gm r=_:=r1
 replace r2:(cM r).world r=_:=r2
 have rG:r∈ids (cM r).D:=by simp [cM,ids]
 obtain⟨n1,n2⟩:=kr H0 c1;obtain⟨o1,o2⟩:=iq (h:=a) (ps:= [r]) H0 rG
 replace n1:(cO k (cM r) a [r]).gm a=cG k (cM r) r [r]:=n1
 replace n2:(cO k (cM r) a [r]).world a=(dv k (cM r) r [r]).wd:=n2
 rw [(oY k (cM r) r).1]at n1;rw [(oY k (cM r) r).2,r2]at n2;have sr:(cM r).score r=0:=by unfold GS.score;rw [r1]
 rw [sr]at n1;rw [r1]at o1;rw [r2]at o2;generalize hG1:cO k (cM r) a [r]=G1 at*;have c2:c9 G1.D b [r]=0:=by rw [D1];exact(k2 yT lD).1
 have D2:(cO k G1 b [r]).D= [⟨r,[]⟩,⟨a,[r]⟩,⟨b,[r]⟩]:=by rw [rP,D1];exact(k2 yT lD).2
 have H2:=H1.add b [r];obtain⟨p1,p2⟩:=kr H1 c2
 replace p1:(cO k G1 b [r]).gm b=cG k G1 r [r]:=p1
 replace p2:(cO k G1 b [r]).world b=(dv k G1 r [r]).wd:=p2
 rw [(oY k G1 r).1]at p1;rw [(oY k G1 r).2,o2]at p2;have sr1:G1.score r=0:=by unfold GS.score;rw [o1]
 rw [sr1]at p1;have ki:r∈ids G1.D:=by rw [D1];simp [ids]
 have Qv:a∈ids G1.D:=by rw [D1];simp [ids]
 obtain⟨q1,_⟩:=iq (h:=b) (ps:= [r]) H1 ki;obtain⟨q3,q4⟩:=iq (h:=b) (ps:= [r]) H1 Qv;have W2:=H2.W;have hr:∀x,¬eI (cO k G1 b [r]).D x r:=fun x h=>by
  obtain⟨p,hp,_⟩:=(tm W2 (i:=0) (nd:=⟨r,[]⟩) (by rw [D2];rfl) x).1 h;simp at hp
 have hx:∀(i:Nat) (y:HT),(cO k G1 b [r]).D[i]? =some ⟨y,[r]⟩->∀x,eI (cO k G1 b [r]).D x y↔x=r:=fun i y hi x=>by
  rw [tm W2 (i:=i) (nd:=⟨y,[r]⟩) hi x];constructor
  ·rintro⟨p,hp,e⟩
   rw [List.mem_singleton]at hp;subst hp;rcases e with e|e
   ·exact e
   ·exact absurd e (hr x)
  ·rintro rfl
   exact⟨x,by simp,.inl rfl⟩
 refine⟨G1,_,rfl,rfl,c1,c2,H2,D1,D2,?_,?_,?_,?_,p2,hx 1 a (by rw [D2];rfl),hx 2 b (by rw [D2];rfl),hr⟩
 ·unfold GS.score;rw [q3,n1]
 ·unfold GS.score;rw [p1]
 ·unfold GS.score;rw [q1,o1]
 ·rw [q4,n2];rfl
include Ek yT Ly lD Mc Hy in
theorem kG3(cy:cy b a=true){G1 G2:GS}(h1:cO 0 (cM r) a [r]=G1)(h2:cO 0 G1 b [r]=G2):c9 G2.D c [a,b]=0/\iV 0 G2 c [a,b]=⟨a,2,[b],[false]⟩:=by
 obtain⟨G1',G2',e1,e2,_,_,H2,_,D2,sa,sb,_,wa,_,aa,ab,ar⟩:=kG2 Ek yT lD 0;rw [h1]at e1;subst e1;rw [h2]at e2;subst e2;have c3:c9 G2.D c [a,b]=0:=by rw [D2];exact(k3 Ly lD Mc Hy).1
 refine⟨c3,?_⟩;unfold iV;rw [if_pos c3];have OI:gl G2 a b=false:=by
  unfold gl;rw [sa,sb];cases h:Go.Proofs.YtnboahlopghcjaaGreatDoor.cy a b
  ·rfl
  ·have:=jx h cy
   rw [gH]at this;cases this
 have lY:bR G2 [a,b]=a:=by
  show(if gl G2 a b then b else a)=a;rw [OI];rfl
 rw [lY];have hm:cf G2 a [a,b]= [b]:=by
  refine(mz (by simp [SO]) fun x=>?_).symm;rw [List.mem_singleton,mB];constructor
  ·rintro rfl
   exact⟨.inr (by simp),fun e=>lD e.symm,fun e=>yT ((aa x).1 e).symm⟩
  ·rintro⟨h|h,h3,h4⟩
   ·obtain⟨_,p,hp,hA⟩:=h
    simp at hp;rcases hp with rfl|rfl
    ·exact absurd hA h4
    ·exact absurd ((aa x).2 ((ab x).1 hA)) h4
   ·simp at h
    rcases h with h|h
    ·exact absurd h h3
    ·exact h
 have hb:lI 0 G2.D [r,a] b=false:=by
  unfold lI;rw [decide_eq_false_iff_not];rintro⟨h,_⟩;have:a∈bJ G2.D [r,a] b:=eK.2 ⟨by simp,lD,fun e=>Ek ((ab a).1 e).symm,fun e=>yT ((aa b).1 e).symm⟩;have h0:bJ G2.D [r,a] b= []:=List.eq_nil_of_length_eq_zero (by omega);rw [h0]at this;simp at this
 unfold cG dv;rw [hm,wa,sa];have hf: [b].foldl (jR 0 G2.D) ⟨[r]++ [a],[]⟩=⟨[r,a],[false]⟩:=by
  show jR 0 G2.D ⟨[r,a],[]⟩ b=_
  unfold jR;rw [hb];rfl
 rw [hf];rfl
end
section
variable{w w':World}{K:Value->World->Prop}
set_option maxHeartbeats 1000000 in
theorem Al(hT:rQ w)(hK:∀w',Kept Nil w w'->K (.bool true) w'):bj prog gz.id #[] w K:=by
 let r:=hx 1 (by omega)
 let a:=hx 3 (by omega)
 let b:=hx 2 (by omega)
 let c:=hx 4 (by omega)
 have Ek:r≠a:=ry (by omega);have yT:r≠b:=ry (by omega);have Ly:r≠c:=ry (by omega);have lD:a≠b:=ry (by omega);have Mc:a≠c:=ry (by omega);have Hy:b≠c:=ry (by omega);have ZP:cy b a=true:=by decide
 refine gz.of ?_;unfold gz.W;intro w1 w2 w3 w4;obtain⟨⟨f1,f2,f3,f4⟩,hr,ha,hb,hc,l1,l2,l3,l4,k⟩:=four w r a b c;refine⟨⟨r.2.1,r.2.one,f1⟩,?_⟩;intro w7;refine⟨⟨a.2.1,a.2.one,f2⟩,?_⟩;intro w10;refine⟨⟨b.2.1,b.2.one,f3⟩,?_⟩;intro lN;refine⟨⟨c.2.1,c.2.one,f4⟩,?_⟩;intro jk
 replace hr:jk.heap[w.heap.size]? =some (.cells r.1 aj (0,0)):=hr
 replace ha:jk.heap[w1.heap.size]? =some (.cells a.1 aj (0,0)):=ha
 replace hb:jk.heap[w2.heap.size]? =some (.cells b.1 aj (0,0)):=hb
 replace hc:jk.heap[w3.heap.size]? =some (.cells c.1 aj (0,0)):=hc
 replace k:Kept Nil w jk:=k
 replace l1:w.heap.size<w1.heap.size:=l1
 replace l2:w1.heap.size<w2.heap.size:=l2
 replace l3:w2.heap.size<w3.heap.size:=l3
 replace l4:w3.heap.size<jk.heap.size:=l4
 clear f1 f2 f3 f4;clear_value jk;clear lN w10 w7;clear_value w3;clear w4;clear_value w2;clear_value w1;have hTl:=hT.lt;have V0:=k.size;have box:∀ {u:World} {S:Nat->Prop},Kept S jk u->(∀k,S k->jk.heap.size<=k)->Cells u (⟨w.heap.size,0,none⟩:Addr) r.1/\Cells u (⟨w1.heap.size,0,none⟩:Addr) a.1/\Cells u (⟨w2.heap.size,0,none⟩:Addr) b.1/\Cells u (⟨w3.heap.size,0,none⟩:Addr) c.1:=fun ku hS=>
  ⟨Cells.bC (ku.heap hr (fun e=>by have:=hS _ e;omega)),Cells.bC (ku.heap ha (fun e=>by have:=hS _ e;omega)),Cells.bC (ku.heap hb (fun e=>by have:=hS _ e;omega)),Cells.bC (ku.heap hc (fun e=>by have:=hS _ e;omega))⟩
 obtain⟨G1,G2,e1,e2,c1,c2,H2,D1,D2,_⟩:=kG2 Ek yT lD 0;obtain⟨c3,hR⟩:=kG3 Ek yT Ly lD Mc Hy ZP e1 e2;refine⟨r.1,⟨r.2.1,Cells.bC hr⟩,gq r (k:=0) (by omega) fun nX cc q m C hm hq wg=>⟨_,_,rfl,Split.no rfl (Split.no rfl ?_)⟩⟩;obtain⟨b1,b2,b3,b4⟩:=box wg (fun _ h=>h.elim);refine⟨a.1,⟨a.2.1,b2⟩,r.1,⟨r.2.1,b1⟩,r.2.1,?_⟩;intro kW;have pF:Kept Nil nX kW:=(Kept.refl _ _).alloc _;have Kp:HS kW (some ⟨nX.heap.size,0,none⟩) 1 [r]:=ja nX r;clear_value kW;have Av:=wg.tt pF;have VZ:=Av.size;refine jr (C.same pF) (hT.same (k.tt Av)) (fun e=>by have:=hm _ (.inl e);omega) (by simp [cM]) (by omega) Kp (by omega) a fun pK F2 m2 A2 n2 p2 E2 q2 z2 C2 _ Ea Qn _ _ _ _ _=>⟨_,_,rfl,?_⟩;rw [e1]at C2;have XO:∀j,m2.own cc j->jk.heap.size<=j:=fun j e=>(Qn j e).elim (hm j) (fun h=>by omega);have Lh:Kept (fun q=>jk.heap.size<=q) jk pK:=(Av.mono (S':=fun q=>jk.heap.size<=q) (fun _ _ h=>h.elim)).trans Ea (fun q _ h=>hm q h);obtain⟨b1,b2,b3,b4⟩:=box Lh (fun _ h=>h);refine⟨b.1,⟨b.2.1,b3⟩,r.1,⟨r.2.1,b1⟩,r.2.1,?_⟩;intro Fx;have Ld:Kept Nil pK Fx:=(Kept.refl _ _).alloc _;have UE:HS Fx (some ⟨pK.heap.size,0,none⟩) 1 [r]:=ja pK r;clear_value Fx;have GH:=Lh.trans Ld (fun _ _ h=>h.elim);have s31:=GH.size;refine jr (C2.same Ld) ((hT.same k).aD GH (fun e=>by omega)) (fun e=>by have:=XO _ (.inl e);omega) (by rw [D1];simp) (by omega) UE (by omega) b fun qR F3 m3 A3 n3 p3 E3 q3 z3 C3 _ Ao ZL _ _ _ _ _=>⟨_,_,rfl,?_⟩;rw [e2]at C3;have om3:∀j,m3.own cc j->jk.heap.size<=j:=fun j e=>(ZL j e).elim (XO j) (fun h=>by omega);have Lg:Kept (fun q=>jk.heap.size<=q) jk qR:=GH.trans Ao (fun q _ h=>XO q h)
 obtain⟨b1,b2,b3,b4⟩:=box Lg (fun _ h=>h);refine⟨c.1,⟨c.2.1,b4⟩,a.1,⟨a.2.1,b2⟩,b.1,⟨b.2.1,b3⟩,a.2.1,b.2.1,?_⟩;intro EZ;have Gx:Kept Nil qR EZ:=(Kept.refl _ _).alloc _;have Ko:HS EZ (some ⟨qR.heap.size,0,none⟩) 2 [a,b]:=HS.lay (l:= [a,b]) (t:=aj) (aJ qR (.cells (cP [a,b]).toArray aj));clear_value EZ;have GF:=Lg.trans Gx (fun _ _ h=>h.elim);have s39:=GF.size;refine jr (C3.same Gx) ((hT.same k).aD GF (fun e=>by omega)) (fun e=>by have:=om3 _ (.inl e);omega) (by rw [D2];simp) (by omega) Ko (by omega) c fun BO F4 m4 A4 n4 p4 E4 q4 z4 _ _ Nf _ _ rA rE _ _=>⟨_,_,rfl,?_⟩;rw [c3];rw [hR]at rA rE⊢;have Lf:Kept (fun q=>jk.heap.size<=q) jk BO:=GF.trans Nf (fun q _ h=>om3 q h);have s41:=Lf.size;intro zA;have Gv:Kept Nil BO zA:=(Kept.refl _ _).alloc _;have YA:zA.heap[BO.heap.size]? =some (.cells zC bg (0,0)):=aJ BO _;clear_value zA;obtain⟨t1,t2,t3⟩:=dN YA (cs:=cD ⟨a,2,[b],[false]⟩ A4 n4 p4 E4 q4 z4) (by rw [aW];rfl);refine⟨⟨aW ..,dI _ _ _ _ _ _ _,fun j hj=>t1 j (by rw [aW];exact hj)⟩,?_⟩;intro Fw Da
 replace t2:Fw.heap[BO.heap.size]? =some (.cells (cD ⟨a,2,[b],[false]⟩ A4 n4 p4 E4 q4 z4) bg (0,0)):=t2
 replace t3:Kept (· =BO.heap.size) zA Fw:=t3
 have Nc:Kept Nil Fw Da:=(Kept.refl _ _).drew;clear_value Da;have ht:=Nc.heap t2 (fun h=>h);have Gw:Kept Nil BO Da:=(Gv.trans t3 (fun j hj e=>by omega)).tt Nc;clear_value Fw;have Le:=Lf.trans Gw (fun _ _ h=>h.elim);obtain⟨b1,b2,b3,b4⟩:=box Le (fun _ h=>h);have g:=fe ⟨a,2,[b],[false]⟩ A4 n4 p4 E4 q4 z4 #[];rw [Array.append_empty]at g;have hn4:n4=1:=by have:=bQ.len rA;simpa using this.symm
 have Zk:q4=1:=by have:=(Row.bo rE).len;simpa using this.symm
 subst hn4 Zk;have mg:=(bQ.hs rA).same Gw;have bl:=(Row.bo rE).same Gw;have jt:Cells Da ((⟨BO.heap.size,0,none⟩:Addr).add 0) a.1:=fun j u hj=>by
  have cy:=(Array.getElem?_eq_some_iff.1 hj).1;rw [add_zero,a7,ay ht,Nat.zero_add];unfold cD;rw [Array.getElem?_append_left cy];exact hj
 refine Split.yes rfl ⟨a.1,⟨a.2.1,jt⟩,a.1,⟨a.2.1,b2⟩,⟨a.2.ints,a.2.ints⟩,?_⟩;rw [dz];refine Split.yes (decide_eq_true rfl) ⟨2,by rw [a7,ay ht];exact g.1,Split.yes rfl ⟨A4,1,p4,by rw [a7,ay ht];exact g.2.1,Split.yes rfl ⟨A4,1,p4,by rw [a7,ay ht];exact g.2.1,?_⟩⟩⟩;refine mg.load (i:=0) (by omega) rfl ⟨b.1,⟨b.2.1,b3⟩,⟨b.2.ints,b.2.ints⟩,?_⟩;rw [dz];obtain⟨aE,h1,_,h3⟩:=bl.at_ 0 false rfl;subst h1;refine Split.yes (decide_eq_true rfl) ⟨some aE,1,z4,by rw [a7,ay ht];exact g.2.2.1,Split.yes rfl ⟨some aE,1,z4,by rw [a7,ay ht];exact g.2.2.1,⟨by omega,by omega⟩,false,h3,?_⟩⟩;exact hK Da (k.trans Le (fun q hq e=>by omega))
end
section
variable{w w' v:World}{F FP FR:Nat->Prop}{c r x k:Nat}{G:GS}{m:CM}{K:Value->World->Prop}
theorem R3.graph(h:R3 w F r x k G):∃A c,w.cell? (((⟨x,0,none⟩:Addr).add 0).add 0)=some (.slice A G.D.length c)/\NS w F A G.D.length G.D:=by
 obtain⟨A,c,B,e,l,h1,h2,_⟩:=h.X.ex;exact⟨A,c,by rw [add_zero,add_zero,ay h1];rfl,h2⟩
theorem HX(H:gV k G){h:HT}(hm:h∈ids G.D){n m:Nat}{A B:Option Addr}(h1:HS w A n (G.gm h).merge)(h2:Bo w B m (G.gm h).dJ):n<=G.D.length/\m<=G.D.length:=by
 obtain⟨a,b⟩:=wx H hm;have:=h1.len;have:=h2.len;omega
end
section
variable{w v:World}{F FP FR:Nat->Prop}{c r x k:Nat}{G:GS}{m:CM}{K:Value->World->Prop}{O:Option Addr}{on oc:Nat}{lo:List HT}{s:HT}{sb xb:Nat}{xv:Array Value}
end
section
variable{w w':World}{F S:Nat->Prop}{A:Option Addr}{n c B:Nat}{l:List DN}{news:List Value}{K:Value->World->Prop}
end
section
variable{u v w:World}{Bm Be xb n cp ce:Nat}{A E:Option Addr}{x:nW}
end
section
variable{w w' wI wb v:World}{F FP m0 F0:Nat->Prop}{cb k:Nat}{G:GS}{A:Option Addr}{n cx:Nat}{l:List DN}{K:Value->World->Prop}
theorem NS.both(h:NS w F A n l){i:Nat}{nd:DN}(hi:l[i]? =some nd):∃a pA pn pc,A=some a/\HS w pA pn nd.ps/\(∀ {w'},Kept Nil w w'->Cells w' ((a.add ((i:Int).toNat*33)).add 0) nd.id.1)/\(∀ {w'},Kept Nil w w'->w'.cell? ((a.add ((i:Int).toNat*33)).add 32)=some (.slice pA pn pc)):=by
 obtain⟨a,pA,pn,pc,e,h2,h3,h4,h5,h6⟩:=h.at_ i nd hi;refine⟨a,pA,pn,pc,e,h5,fun k j u hj=>?_,fun k=>?_⟩
 ·rw [Int.toNat_natCast,add_zero]
  refine k.cell (h4 j u ?_) (fun h=>h);exact qm hj
 ·rw [Int.toNat_natCast]
  exact k.cell (h4 32 _ (mu _ _)) (fun h=>h)
end
section
variable{k:Nat}{G:GS}{h:HT}{ps:List HT}
end
structure Sub(G G':GS):Prop where
 D:∀nd∈G.D,nd∈G'.D
 W:iS G.D
 W':iS G'.D
 cw:∀y∈ids G.D,G.gm y=G'.gm y/\G.world y=G'.world y
section
variable{k:Nat}{G G':GS}{s:HT}{l:List HT}
theorem Sub.ids(S:Sub G G'){y:HT}(h:y∈ids G.D):y∈Proofs.YtnboahlopghcjaaGreatDoor.ids G'.D:=by
 obtain⟨nd,h1,rfl⟩:=cU.1 h;exact cU.2 ⟨nd,S.D nd h1,rfl⟩
theorem iS.one{D:DG}(W:iS D){a b:DN}(ha:a∈D)(hb:b∈D)(e:a.id=b.id):a=b:=by
 obtain⟨i,hi⟩:=List.mem_iff_getElem?.1 ha;obtain⟨j,hj⟩:=List.mem_iff_getElem?.1 hb;have:=W.inj hi hj e;subst this;rw [hi]at hj;exact Option.some.inj hj
theorem Sub.par(S:Sub G G'){a b:HT}(hb:b∈Proofs.YtnboahlopghcjaaGreatDoor.ids G.D):mL G.D a b↔mL G'.D a b:=by
 constructor
 ·rintro⟨nd,h1,h2,h3⟩
  exact⟨nd,S.D nd h1,h2,h3⟩
 ·rintro⟨nd,h1,h2,h3⟩
  obtain⟨nd',h4,h5⟩:=cU.1 hb;have:=S.W'.one h1 (S.D nd' h4) (h2.trans h5.symm);subst this;exact⟨nd,h4,h2,h3⟩
theorem Sub.xw(S:Sub G G'){a b:HT}(hb:b∈Proofs.YtnboahlopghcjaaGreatDoor.ids G.D):eI G.D a b↔eI G'.D a b:=by
 constructor
 ·intro h
  clear hb
  induction h with
  |one hp=>exact .one ((S.par ((eI.one hp).mem S.W).2).1 hp)
  |more _ hp ih=>exact .more ih ((S.par ((eI.one hp).mem S.W).2).1 hp)
 ·intro h
  induction h with
  |one hp=>exact .one ((S.par hb).2 hp)
  |more _ hp ih=>
   have E9:=(S.par hb).2 hp;exact .more (ih ((eI.one E9).mem S.W).1) E9
theorem Sub.W8(S:Sub G G'){a b:HT}(ha:a∈Proofs.YtnboahlopghcjaaGreatDoor.ids G.D)(hb:b∈Proofs.YtnboahlopghcjaaGreatDoor.ids G.D):lV G.D a b↔lV G'.D a b:=by
 unfold lV;rw [S.xw hb,S.xw ha]
theorem Sub.gl(S:Sub G G'){a b:HT}(ha:a∈Proofs.YtnboahlopghcjaaGreatDoor.ids G.D)(hb:b∈Proofs.YtnboahlopghcjaaGreatDoor.ids G.D):Proofs.YtnboahlopghcjaaGreatDoor.gl G a b=Proofs.YtnboahlopghcjaaGreatDoor.gl G' a b:=by
 unfold Proofs.YtnboahlopghcjaaGreatDoor.gl GS.score;rw [(S.cw a ha).1,(S.cw b hb).1]
theorem Sub.oH(S:Sub G G')(hs:s∈Proofs.YtnboahlopghcjaaGreatDoor.ids G.D)(hl:∀p∈l,p∈Proofs.YtnboahlopghcjaaGreatDoor.ids G.D)(x:HT):x∈Proofs.YtnboahlopghcjaaGreatDoor.oH G.D s l↔x∈Proofs.YtnboahlopghcjaaGreatDoor.oH G'.D s l:=by
 rw [mB,mB,S.xw hs];constructor
 ·rintro⟨h,h2⟩
  refine⟨h.imp_left ?_,h2⟩;rintro⟨h3,p,hp,h4⟩;exact⟨S.ids h3,p,hp,(S.xw (hl p hp)).1 h4⟩
 ·rintro⟨h,h2⟩
  refine⟨h.imp_left ?_,h2⟩;rintro⟨h3,p,hp,h4⟩;have:=(S.xw (hl p hp)).2 h4;exact⟨(this.mem S.W).1,p,hp,this⟩
theorem rk(hl:∀p∈l,p∈ids G.D){x:HT}(h:x∈cf G s l):x∈ids G.D:=by
 rcases ig.1 h with⟨h|h,_⟩
 ·exact h.1
 ·exact hl x h
theorem Sub.cf(S:Sub G G')(hs:s∈Proofs.YtnboahlopghcjaaGreatDoor.ids G.D)(hl:∀p∈l,p∈Proofs.YtnboahlopghcjaaGreatDoor.ids G.D):Proofs.YtnboahlopghcjaaGreatDoor.cf G s l=Proofs.YtnboahlopghcjaaGreatDoor.cf G' s l:=by
 refine mz ?_ fun x=>?_
 ·refine List.Pairwise.imp_of_mem (fun {a b} ha hb h=>?_) (jz G s l)
  rw [<-S.gl (rk hl ha) (rk hl hb)];exact h
 ·rw [<-S.oH hs hl]
  unfold Proofs.YtnboahlopghcjaaGreatDoor.cf;exact mC
theorem Sub.K0(S:Sub G G'){wd:List HT}(hw:∀y∈wd,y∈Proofs.YtnboahlopghcjaaGreatDoor.ids G.D){b:HT}(hb:b∈Proofs.YtnboahlopghcjaaGreatDoor.ids G.D):bJ G.D wd b=bJ G'.D wd b:=
 mW fun a ha=>S.W8 (hw a ha) hb
theorem Sub.blue(S:Sub G G'){wd:List HT}(hw:∀y∈wd,y∈Proofs.YtnboahlopghcjaaGreatDoor.ids G.D){b:HT}(hb:b∈Proofs.YtnboahlopghcjaaGreatDoor.ids G.D):lI k G.D wd b=lI k G'.D wd b:=by
 unfold lI;rw [S.K0 hw hb,decide_eq_decide];refine and_congr Iff.rfl ?_;refine forall_congr' fun y=>forall_congr' fun hy=>?_;rw [S.K0 hw (hw y (eK.1 hy).1)]
theorem Sub.fold(S:Sub G G'):∀(m:List HT) (st:VS),(∀y∈m,y∈Proofs.YtnboahlopghcjaaGreatDoor.ids G.D)->(∀y∈st.wd,y∈Proofs.YtnboahlopghcjaaGreatDoor.ids G.D)->m.foldl (jR k G.D) st=m.foldl (jR k G'.D) st
 | [],_,_,_=>rfl
 |x::m,st,hm,hw=>by
  have hx:=hm x List.mem_cons_self;have e:jR k G.D st x=jR k G'.D st x:=by unfold jR;rw [S.blue hw hx]
  rw [List.foldl_cons,List.foldl_cons,<-e];refine Sub.fold S m _ (fun y hy=>hm y (List.mem_cons_of_mem _ hy)) fun y hy=>?_;unfold jR at hy;simp only at hy;split at hy
  ·rcases List.mem_append.1 hy with hy|hy
   ·exact hw y hy
   ·rw [List.mem_singleton.1 hy];exact hx
  ·exact hw y hy
theorem Sub.view(S:Sub G G')(H:gV k G)(hs:s∈Proofs.YtnboahlopghcjaaGreatDoor.ids G.D)(hl:∀p∈l,p∈Proofs.YtnboahlopghcjaaGreatDoor.ids G.D):dv k G s l=dv k G' s l/\cG k G s l=cG k G' s l:=by
 have e:dv k G s l=dv k G' s l:=by
  unfold dv;rw [<-S.cf hs hl,<-(S.cw s hs).2];refine S.fold _ _ (fun y hy=>rk hl hy) fun y hy=>?_;rcases List.mem_append.1 hy with hy|hy
  ·exact(((H.wd s hs).2.1 y hy).mem H.W).1
  ·rw [List.mem_singleton.1 hy];exact hs
 refine⟨e,?_⟩;unfold cG;rw [e,S.cf hs hl];unfold GS.score;rw [(S.cw s hs).1]
theorem oo{G:GS}:∀ {l:List HT} {p:HT},p∈l->gl G (bR G l) p=false
 |x::l,p,hp=>by
  have key:∀(l:List HT) (b:HT),gl G (l.foldl (fun b y=>if gl G b y then y else b) b) b=false/\∀p∈l,gl G (l.foldl (fun b y=>if gl G b y then y else b) b) p=false:=by
   intro l
   induction l with
   |nil=>intro b;exact⟨kZ G b,fun p hp=>by cases hp⟩
   |cons y l ih=>
    intro b;rw [List.foldl_cons];obtain⟨h1,h2⟩:=ih (if gl G b y then y else b);cases hg:gl G b y with
    |true=>
     rw [hg,if_pos rfl]at h1 h2;rw [if_pos rfl];refine⟨?_,fun p hp=>?_⟩
     ·cases hx:gl G (l.foldl (fun b y=>if gl G b y then y else b) y) b with
      |false=>rfl
      |true=>rw [lF hx hg]at h1;cases h1
     ·rcases List.mem_cons.1 hp with rfl|hp
      ·exact h1
      ·exact h2 p hp
    |false=>
     rw [hg,if_neg (by simp)]at h1 h2;rw [if_neg (by simp)];refine⟨h1,fun p hp=>?_⟩;rcases List.mem_cons.1 hp with rfl|hp
     ·cases hx:gl G (l.foldl (fun b y=>if gl G b y then y else b) b) p with
      |false=>rfl
      |true=>
       cases hy:gl G p b with
       |true=>rw [lF hx hy]at h1;cases h1
       |false=>
        have e:=lG hg hy;rw [<-e]at hx;rw [hx]at h1;cases h1
     ·exact h2 p hp
  obtain⟨h1,h2⟩:=key l x;show gl G (l.foldl (fun b y=>if gl G b y then y else b) x) p=false
  rcases List.mem_cons.1 hp with rfl|hp
  ·exact h1
  ·exact h2 p hp
theorem tF{G:GS}{l:List HT}{x:HT}(hx:x∈l)(h:∀p∈l,gl G x p=false):bR G l=x:=by
 have fg:l≠ []:=fun e=>by rw [e]at hx;cases hx
 exact lG (oo hx) (h _ (fw fg))
theorem Sub.jt(S:Sub G G')(hl:∀p∈l,p∈Proofs.YtnboahlopghcjaaGreatDoor.ids G.D)(h0:l≠ []):bR G l=bR G' l:=by
 have hm:=fw (G:=G') h0;refine tF hm fun p hp=>?_;rw [S.gl (hl _ hm) (hl p hp)];exact oo hp
theorem I6{G:GS}(h0:l≠ []):bR G (dd l)=bR G l:=by
 have hm:=fw (G:=G) h0;exact tF (cZ.2 hm) fun p hp=>oo (cZ.1 hp)
theorem tY{G:GS}:cf G s (dd l)=cf G s l:=by
 refine mz (jz _ _ _) fun x=>?_;rw [ig,mB];simp only [cZ]
theorem Fz{G:GS}:dv k G s (dd l)=dv k G s l/\cG k G s (dd l)=cG k G s l:=by
 have e:dv k G s (dd l)=dv k G s l:=by unfold dv;rw [tY]
 refine⟨e,?_⟩;unfold cG;rw [e,tY]
def Own(k:Nat)(G:GS):Prop:=∀nd∈G.D,nd.ps≠ []->G.gm nd.id=cG k G (bR G nd.ps) nd.ps/\G.world nd.id=(dv k G (bR G nd.ps) nd.ps).wd
theorem BV(H:gV k G)(h:HT)(ps:List HT):Sub G (cO k G h ps):=by
 refine⟨fun nd eF=>?_,H.W,(H.add h ps).W,fun y hy=>⟨(iq H hy).1.symm,(iq H hy).2.symm⟩⟩;by_cases hc:c9 G.D h ps=0
 ·rw [iL hc];exact List.mem_append_left _ eF
 ·rw [ph hc];exact eF
theorem KZ(W:iS G.D){nd:DN}(h:nd∈G.D):∀p∈nd.ps,p∈ids G.D:=fun p hp=>((eI.one ⟨nd,h,rfl,hp⟩).mem W).1
theorem Own.add(O:Own k G)(H:gV k G)(h:HT)(ps:List HT):Own k (cO k G h ps):=by
 by_cases hc:c9 G.D h ps=0
 ·have S:=BV H h ps
  obtain⟨hn,fg,eF,mQ⟩:=jN hc;have Of:∀p∈ps,p∈ids G.D:=fun p hp=>mQ p (cZ.2 hp);intro nd hm h0;have eD:(cO k G h ps).D=G.D++ [⟨h,dd ps⟩]:=by rw [iL hc]
  rw [eD]at hm;rcases List.mem_append.1 hm with hm|hm
  ·have fz:=KZ H.W hm
   have hi:nd.id∈ids G.D:=cU.2 ⟨nd,hm,rfl⟩;obtain⟨o1,o2⟩:=O nd hm h0;have CD:=fz _ (fw (G:=G) h0);obtain⟨v1,v2⟩:=S.view H CD fz;rw [(iq H hi).1,(iq H hi).2,<-S.jt fz h0,<-v1,<-v2];exact⟨o1,o2⟩
  ·have:nd=⟨h,dd ps⟩:=by simpa using hm
   subst this;obtain⟨q1,q2⟩:=kr H hc;have CD:=Of _ (fw (G:=G) fg);obtain⟨v1,v2⟩:=S.view H CD Of;obtain⟨s1,s2⟩:=Fz (k:=k) (G:=cO k G h ps) (s:=bR G ps) (l:=ps);simp only;rw [I6 fg,<-S.jt Of fg,q1,q2,s1,s2,v1,v2];exact⟨rfl,rfl⟩
 ·rw [ph hc];exact O
theorem EK(k:Nat)(root:HT)(l:List DN):Own k (uQ k root l):=by
 have key:∀(l:List DN) (G:GS),gV k G->Own k G->Own k (l.foldl (fun G s=>cO k G s.id s.ps) G):=by
  intro l
  induction l with
  |nil=>intro G _ C;exact C
  |cons s l ih=>intro G H C;rw [List.foldl_cons];exact ih _ (H.add _ _) (C.add H _ _)
 refine key l _ (jo k root) fun nd eF h0=>?_;have:nd=⟨root,[]⟩:=by simpa [cM]using eF
 subst this;exact absurd rfl h0
theorem Sub.next(S:Sub G G')(H:gV k G)(O:Own k G'){nd:DN}(hm:nd∈G'.D)(hn:nd.id∉Proofs.YtnboahlopghcjaaGreatDoor.ids G.D)(hp:∀p∈nd.ps,p∈Proofs.YtnboahlopghcjaaGreatDoor.ids G.D)(h0:nd.ps≠ []):
 c9 G.D nd.id nd.ps=0/\iV k G nd.id nd.ps=G'.gm nd.id/\Sub (cO k G nd.id nd.ps) G'/\(cO k G nd.id nd.ps).D=G.D++ [nd]:=by
 have rC:=S.W'.ss nd hm;have Sn:=x6 rC;have hc:c9 G.D nd.id nd.ps=0:=by
  unfold c9;rw [if_neg hn,Sn,if_neg (by
   rintro(h|h)
   ·exact h0 (List.length_eq_zero_iff.1 h)
   ·exact h rfl),if_neg (by
   rintro⟨p,h1,h2⟩;exact h2 (hp p h1))]
 obtain⟨o1,o2⟩:=O nd hm h0;have CD:=hp _ (fw (G:=G) h0);obtain⟨v1,v2⟩:=S.view H CD hp;have es:=S.jt hp h0;have hr:iV k G nd.id nd.ps=G'.gm nd.id:=by
  unfold iV;rw [if_pos hc,o1,v2,es]
 obtain⟨q1,q2⟩:=kr H hc;have eD:(cO k G nd.id nd.ps).D=G.D++ [nd]:=by rw [iL hc,Sn]
 refine⟨hc,hr,⟨fun x hx=>?_,(H.add _ _).W,S.W',fun y hy=>?_⟩,eD⟩
 ·rw [eD]at hx
  rcases List.mem_append.1 hx with hx|hx
  ·exact S.D x hx
  ·rw [List.mem_singleton.1 hx];exact hm
 ·have:y∈Proofs.YtnboahlopghcjaaGreatDoor.ids G.D\/y=nd.id:=by
   rw [eD]at hy;simpa [Proofs.YtnboahlopghcjaaGreatDoor.ids]using hy
  rcases this with hy|rfl
  ·rw [(iq H hy).1,(iq H hy).2]
   exact S.cw y hy
  ·rw [q1,q2,o1,o2,v1,v2,es]
   exact⟨rfl,rfl⟩
end
section
variable{w w' u v:World}{F FP:Nat->Prop}{cb k r x:Nat}{G:GS}{m:CM}{FR:Nat->Prop}{D:Option Addr}{dn dc:Nat}{ld:List HT}
def pP(ld:List HT)(nd:DN):Bool:= !decide (nd.id∈ld)&&nd.ps.all fun p=>decide (p∈ld)
def js(G:GS)(ld:List HT)(t:Nat):List Nat:=(List.range t).filter fun i=>match G.D[i]? with|some nd=>pP ld nd|none=>false
def lX(l:List Nat):List Value:=l.map fun(i:Nat)=>.int .i64 (i:Int)
theorem EH{t:Nat}{nd:DN}(h:G.D[t]? =some nd):js G ld (t+1)=js G ld t++if pP ld nd then [t]else []:=by
 unfold js;rw [List.range_succ,List.filter_append,List.filter_cons];simp only [h];split<;>simp
theorem yA{t i:Nat}:i∈js G ld t↔i<t/\∃nd,G.D[i]? =some nd/\pP ld nd=true:=by
 unfold js;rw [List.mem_filter,List.mem_range];cases h:G.D[i]? with
 |none=>simp
 |some nd=>simp
set_option maxHeartbeats 1000000 in
theorem DP{a e f g n t:Option Addr}{b c o p uu vv:Nat}{d r0:Bool}{q mi:Int}{ps:List HT}{Q:aM}(hd:HS w D dn ld)(zI:dn<=1000000)(hp:HS w t uu ps)(hu:uu<=1000000)
 (hQ:∀w' z,Kept Nil w w'->ae.qQ a b c d e f g D dn dc mi n o p q (r0&&ps.all fun p=>decide (p∈ld)) t uu vv z Q w'):
 Holds none [] prog 215 (.loop (lB (bB (sR (sL (sR (sR (bB (sL (sR (lB (bB (sR (sL (sR (bB (sL (sR (lB (bB (sR (sL (sR (sR (sR (sR (sR (sR (sR (body Tryz.f3)))))))))))))))))))))))))))))) (ae.q3 Q) (ae.e3 a b c d e f g D dn dc mi n o p q t uu vv (r0,0)) w:=by
 have hlen:=hp.len;refine ae.qv (I:=fun s u=>∃j:Nat,s=((r0&&(ps.take j).all fun p=>decide (p∈ld)),(j:Int))/\j<=uu/\Kept Nil w u) (μ:=fun s _=>((uu:Int)-s.2).toNat) (s:=(r0,0)) ⟨0,by simp,Nat.zero_le _,Kept.refl _ _⟩ ?_;rintro⟨_,_⟩ u ⟨j,ej,hj,ku⟩;cases ej;unfold ae.B3;refine Split.dec (fun cy=>?_) (fun fU=>?_)
 ·simp only at cy
  have Wx:j<uu:=by omega
  obtain⟨z,hz⟩:=hp.get_mem Wx;have et:ps.take (j+1)=ps.take j++ [z]:=by rw [List.take_add_one,hz];rfl
  have ea:(r0&&(ps.take (j+1)).all fun p=>decide (p∈ld))=((r0&&(ps.take j).all fun p=>decide (p∈ld))&&decide (z∈ld)):=by
   rw [et,List.all_append,Bool.and_assoc];simp
  refine Split.mk (fun h1=>?_) (fun h1=>?_)
  ·refine(hp.same ku).load (i:=(j:Int)) (x:=z) (by omega) (by rw [Int.toNat_natCast];exact hz) ?_
   refine rh z (hd.same ku) zI fun w6 k6=>⟨_,rfl,?_⟩;simp only;rw [dh (n:=(j:Int)) (by omega) (by omega)];exact⟨(decide (z∈ld),(j:Int)+1),rfl,⟨j+1,by rw [ea];simp only at h1;rw [h1];simp,Wx,ku.tt k6⟩,by simp only;omega⟩
  ·simp only
   rw [dh (n:=(j:Int)) (by omega) (by omega)];exact⟨(false,(j:Int)+1),rfl,⟨j+1,by rw [ea];simp only at h1;rw [h1];simp,Wx,ku⟩,by simp only;omega⟩
 ·simp only at fU
  have:j=uu:=by omega
  subst this;rw [aQ,ae.wE];rw [List.take_of_length_le (by omega)];exact hQ u _ ku
theorem BB{B:Nat}{A:Option Addr}{n c:Nat}{l:List Nat}(h:Row w B fR 1 A n c (lX l))(hn:n<=100000)(hB:B<=w.heap.size){b q:Nat}(hb:w.heap[b]? =some (.cells #[.int .i64 (q:Int)] fR (0,0))):
 ∃A' c' w',(Builtin.append_ #[eR,eR] eR #[.slice A n c,.slice (some ⟨b,0,none⟩) 1 1]).run prog w=.ok (.slice A' (n+1) c') w'/\Row w' B fR 1 A' (n+1) c' (lX (l++ [q]))/\w.grownBy w' (a8 A):=by
 obtain⟨A',c',w',hr,eE,hg,hb⟩:=eN (P:=prog) (t:=eR) (ty:=eR) (bytes:=8) Tr.FL h (a:=⟨b,0,none⟩) (m:=1) (cx:=1) (news:=lX [q]) rfl
  (fun j u hj=>by rw [a7,Nat.zero_add,ay hb];simpa [lX]using hj) (fun u hu=>by simp [lX]at hu;subst hu;rfl) (by omega) (by unfold maxLen;omega) hB
 refine⟨A',c',w',hr,?_,hg⟩;unfold lX at eE⊢;rw [List.map_append];exact eE
set_option maxHeartbeats 2000000 in
theorem DQ{a e g:Option Addr}{b c:Nat}{d:Bool}{mi:Int}{Q:aM}(R:R3 w FR r x k G)(hD:G.D.length<=100)(mQ:∀nd∈G.D,nd.ps.length<=100000)(hd:HS w D dn ld)(zI:dn<=1000000)
 (hQ:∀w' C cc z,Kept Nil w w'->Row w' w.heap.size fR 1 C (js G ld G.D.length).length cc (lX (js G ld G.D.length))->ae.gU a b c d e (some ⟨r,0,none⟩) g D dn dc mi C (js G ld G.D.length).length cc z Q w'):
 Holds none [] prog 215 (.loop (lB (bB (sR (sL (sR (bB (sL (sR (lB (bB (sR (sL (sR (sR (sR (sR (sR (sR (sR (body Tryz.f3))))))))))))))))))))) (ae.q2 Q) (ae.e2 a b c d e (some ⟨r,0,none⟩) g D dn dc mi (none,0,0,0)) w:=by
 refine ae.gw (I:=fun s u=>∃(t:Nat) (C:Option Addr) (cc:Nat),s=(C,(js G ld t).length,cc,(t:Int))/\t<=G.D.length/\Kept Nil w u/\Row u w.heap.size fR 1 C (js G ld t).length cc (lX (js G ld t))) (μ:=fun s _=>((G.D.length:Int)-s.2.2.2).toNat) (s:=(none,0,0,0)) ⟨0,none,0,rfl,Nat.zero_le _,Kept.refl _ _,Row.nil _ _ _ _⟩ ?_;rintro s u ⟨t,C,cc,rfl,ht,ku,row⟩;unfold ae.B2;have Ru:=R.same ku;obtain⟨A0,c0,q1,pY⟩:=Ru.graph;refine Is.mk rfl ⟨_,Ru.c1,Is.mk rfl ⟨A0,_,c0,q1,Split.dec (fun cy=>?_) (fun fU=>?_)⟩⟩
 ·simp only at cy
  have Ls:t<G.D.length:=by omega
  obtain⟨nd,eF⟩:∃nd,G.D[t]? =some nd:=⟨_,List.getElem?_eq_getElem Ls⟩;refine Is.mk rfl ⟨_,Ru.c1,Is.mk rfl ⟨A0,_,c0,q1,pY.id (i:=(t:Int)) (by omega) (by rw [Int.toNat_natCast];exact eF) ?_⟩⟩;refine rh nd.id (hd.same ku) zI fun w6 k6=>⟨_,rfl,?_⟩;have nx:=ku.tt k6;have R6:=R.same nx;obtain⟨A1,c1,q2,Oi⟩:=R6.graph;refine Is.mk rfl ⟨_,R6.c1,Is.mk rfl ⟨A1,_,c1,q2,Oi.ps (i:=(t:Int)) (by omega) (by rw [Int.toNat_natCast];exact eF) fun pA pn pc Hj _=>?_⟩⟩;have nz:=mQ nd (List.mem_of_getElem? eF);have Hg:=Hj.len;refine DP (r0:= !decide (nd.id∈ld)) (hd.same nx) zI Hj (by omega) fun w7 z k7=>?_;have rr:=nx.tt k7;have yh:=Row.aD row (k6.tt k7) (fun _ _ h=>h);have es:=EH (ld:=ld) eF;have pG:(js G ld t).length<=t:=by
   unfold js;refine Nat.le_trans (List.length_filter_le _ _) ?_;rw [List.length_range];exact Nat.le_refl _
  unfold ae.qQ;refine Split.mk (fun h1=>?_) (fun h1=>?_)
  ·have Ob:pP ld nd=true:=h1
   rw [if_pos Ob]at es;intro y;have ky:Kept Nil w7 y:=(Kept.refl _ _).alloc _;have hy:y.heap[w7.heap.size]? =some (.cells #[.int .i64 (t:Int)] fR (0,0)):=aJ w7 _;clear_value y;have k0y:=rr.tt ky;obtain⟨C',cc',w8,Qe,FU,g8⟩:=BB (Row.aD yh ky (fun _ _ h=>h)) (by omega) k0y.size hy;refine⟨C',_,cc',w8,Qe,?_⟩;have wh:Kept Nil w w8:=Kept.dF k0y g8 (fun j hj=>(Row.bC yh hj).1);rw [dh (n:=(t:Int)) (by omega) (by omega)];have el:(js G ld t).length+1=(js G ld (t+1)).length:=by rw [es];simp
   rw [el]at FU⊢;rw [<-es]at FU;exact⟨(C',(js G ld (t+1)).length,cc',(t:Int)+1),rfl,⟨t+1,C',cc',rfl,Ls,wh,FU⟩,by simp only;omega⟩
  ·have Ob:pP ld nd=false:=h1
   rw [Ob]at es;have es':js G ld (t+1)=js G ld t:=by rw [es];simp
   rw [dh (n:=(t:Int)) (by omega) (by omega)];exact⟨(C,(js G ld t).length,cc,(t:Int)+1),rfl,⟨t+1,C,cc,by rw [es'];rfl,Ls,rr,by rw [es'];exact yh⟩,by simp only;omega⟩
 ·simp only at fU
  have:t=G.D.length:=by omega
  subst this;rw [aQ,ae.jA];exact hQ u C cc _ ku row
end
section
variable{wb u v w:World}{F Fo:Nat->Prop}{cb ob k r x:Nat}{G Go:GS}{m mo:CM}{FR:Nat->Prop}{D:Option Addr}{n dc:Nat}{nd:DN}
structure OJ(wb v:World)(Fo:Nat->Prop)(ob k:Nat)(Go:GS)(mo:CM)(D:Option Addr)(n dc:Nat)(ld:List HT):Prop where
 kp:Kept Nil wb v
 C:CV v Fo ob k Go mo
 row:bQ v wb.heap.size D n dc ld
 tk:∀j,a8 D=some j->¬mo.own ob j/\¬Fo j
 lo:∀j,mo.own ob j\/Fo j->wb.heap.size<=j
theorem OJ.same{ld:List HT}(h:OJ wb v Fo ob k Go mo D n dc ld)(hk:Kept Nil v w):OJ wb w Fo ob k Go mo D n dc ld:=
 ⟨h.kp.tt hk,h.C.same hk,Row.aD h.row hk (fun _ _ h=>h),h.tk,h.lo⟩
theorem OJ.box{ld:List HT}{b:Nat}(h:OJ wb v Fo ob k Go mo D n dc ld)(hk:Kept (· =b) v w)(hb:wb.heap.size<=b)(h1:¬mo.own ob b)(h2:¬Fo b)(h3:a8 D≠some b):OJ wb w Fo ob k Go mo D n dc ld:=
 ⟨h.kp.trans hk (fun j hj e=>by omega),h.C.aD hk (fun j e e'=>by rw [e']at e;exact h1 e) (fun j e e'=>by rw [e']at e;exact h2 e),Row.aD h.row hk (fun j hj e=>by rw [e]at hj;exact h3 hj),h.tk,h.lo⟩
set_option maxHeartbeats 2000000 in
theorem Gb{a:Option Addr}{b c hb xb nn c1 e c2:Nat}{d:Bool}{mi:Int}{Q:aM}{A E:Option Addr}{ld:List HT}(B:jc wb F cb m FR r x k G)(hD:G.D.length<=100)(O:OJ wb v Fo ob k Go mo D n dc ld)(hn:n<=1000)(fz:nd.id∈ids G.D)
 (hh:v.heap[hb]? =some (.cells nd.id.1 aj (0,0))) (hx:v.heap[xb]? =some (.cells (cD (G.gm nd.id) A nn c1 E e c2) bg (0,0))) (hm:HS v A nn (G.gm nd.id).merge) (xJ:Bo v E e (G.gm nd.id).dJ)
 (hQ:∀w' D' uH,OJ wb w' Fo ob k Go mo D' (n+1) uH (ld++ [nd.id])->Q .normal [(3,.slice a b c),(8,.bool d),(9,.pointer (some ⟨cb,0,none⟩)),(10,.pointer (some ⟨r,0,none⟩)),(12,.pointer (some ⟨ob,0,none⟩)),(14,.slice D' (n+1) uH),(15,.int .i64 (i64.wrap (mi+(1:Int))))] w'):
 ae.J4 a b c d (some ⟨cb,0,none⟩) (some ⟨r,0,none⟩) (some ⟨ob,0,none⟩) D n dc mi ⟨hb,0,none⟩ ⟨xb,0,none⟩ 0 Q v:=by
 unfold ae.J4;have H:=B.C.eM;refine⟨nd.id.1,⟨nd.id.2.1,Cells.bC hh⟩,?_⟩;refine Ez (B.same O.kp).C (by omega) fz fun A5 n5 c5 E5 e5 d5 w5 r5 b5 _ k5=>⟨_,_,rfl,?_⟩;intro w6;have k6:Kept Nil w5 w6:=(Kept.refl _ _).alloc _;have JK:w6.heap[w5.heap.size]? =some (.cells zC bg (0,0)):=aJ w5 _;clear_value w6;obtain⟨t1,t2,t3⟩:=dN JK (cs:=cD (G.gm nd.id) A5 n5 c5 E5 e5 d5) (by rw [aW];rfl);refine⟨⟨aW ..,dI _ _ _ _ _ _ _,fun j hj=>t1 j (by rw [aW];exact hj)⟩,?_⟩;intro w7
 replace t2:w7.heap[w5.heap.size]? =some (.cells (cD (G.gm nd.id) A5 n5 c5 E5 e5 d5) bg (0,0)):=t2
 replace t3:Kept (· =w5.heap.size) w6 w7:=t3
 clear_value w7;have D7:Kept Nil w5 w7:=k6.trans t3 (fun j hj e=>by omega);have rr:=k5.tt D7;refine ae.GO ?_;unfold ae.J5;refine Split.no rfl (Split.no rfl ⟨_,⟨aW ..,Cells.bC (rr.heap hx (fun h=>h))⟩,_,⟨aW ..,Cells.bC t2⟩,?_⟩);have m2:=(bQ.hs r5).same D7;have l2:=(Row.bo b5).same D7;obtain⟨y3,y4⟩:=HX H fz m2 l2;obtain⟨y1,y2⟩:=HX H fz hm xJ;refine BY (hm.same rr) m2 (xJ.same rr) l2 (by omega) (by omega) fun w8 k8=>⟨true,rfl,Split.no rfl ⟨nd.id.1,⟨nd.id.2.1,Cells.bC ((rr.tt k8).heap hh (fun h=>h))⟩,nd.id.2.1,?_⟩⟩;have O8:=O.same (rr.tt k8);intro w9;have k9:Kept Nil w8 w9:=(Kept.refl _ _).alloc _;have b9:HS w9 (some ⟨w8.heap.size,0,none⟩) 1 [nd.id]:=ja w8 nd.id;clear_value w9;have O9:=O8.same k9;obtain⟨D',uH,w10,Zf,vQ,g10,aaX⟩:=cF az O9.row (cx:=1) b9 (by omega) O9.kp.size;refine⟨D',n+1,uH,w10,Zf,hQ w10 D' uH ?_⟩;have kk:Kept (fun j=>a8 D=some j) w9 w10:=(Kept.refl _ _).grown g10 fun j hj _=>hj;refine⟨Kept.dF O9.kp g10 (fun j hj=>(Row.bC O9.row hj).1),O9.C.aD kk (fun j e e'=>(O9.tk j e').1 e) (fun j e e'=>(O9.tk j e').2 e),vQ,fun j hj=>?_,O9.lo⟩;rcases aaX j hj with e|e
 ·exact O9.tk j e
 ·exact⟨fun e'=>by have:=O9.C.low j (.inl e');omega,fun e'=>by have:=O9.C.low j (.inr e');omega⟩
set_option maxHeartbeats 4000000 in
theorem MT{a:Option Addr}{b c i0:Nat}{d:Bool}{mi:Int}{Q:aM}(hT:rQ wb)(B:jc wb F cb m FR r x k G)(hD:G.D.length<=40)(nP:k<=1000)(Ow:Own k G)(S:Sub Go G)(O:OJ wb u Fo ob k Go mo D n dc (ids Go.D))(hn:n<=1000)(hDo:Go.D.length<=40)
 (eF:G.D[i0]? =some nd) (jP:nd.id∉ids Go.D) (mQ:∀p∈nd.ps,p∈ids Go.D) (h0:nd.ps≠ []) (nz:nd.ps.length<=5000)
 (hQ:∀w' D' uH KQ Jk,OJ wb w' KQ ob k (cO k Go nd.id nd.ps) Jk D' (n+1) uH (ids (cO k Go nd.id nd.ps).D)->Sub (cO k Go nd.id nd.ps) G->Q .normal [(3,.slice a b c),(8,.bool d),(9,.pointer (some ⟨cb,0,none⟩)),(10,.pointer (some ⟨r,0,none⟩)),(12,.pointer (some ⟨ob,0,none⟩)),(14,.slice D' (n+1) uH),(15,.int .i64 (i64.wrap (mi+(1:Int))))] w'):
 ae.J2 a b c d (some ⟨cb,0,none⟩) (some ⟨r,0,none⟩) (some ⟨ob,0,none⟩) D n dc mi (i0:Int) Q u:=by
 unfold ae.J2;have H:=B.C.eM;have hTl:=hT.lt;have hm:=List.mem_of_getElem? eF;have fz:nd.id∈ids G.D:=cU.2 ⟨nd,hm,rfl⟩;obtain⟨n1,n2,n3,n4⟩:=S.next O.C.eM Ow hm jP mQ h0;have Vn:ids (cO k Go nd.id nd.ps).D=ids Go.D++ [nd.id]:=by rw [n4];simp [ids]
 have Bu:=B.same O.kp;obtain⟨A0,c0,q1,pY⟩:=Bu.R.graph;have dW:=(lgeS eF).1;refine Is.mk rfl ⟨_,Bu.R.c1,Is.mk rfl ⟨A0,_,c0,q1,pY.id (i:=(i0:Int)) (by omega) (by rw [Int.toNat_natCast];exact eF) ?_⟩⟩;intro w3;obtain⟨sH,jh,jB⟩:=gM (w:=u) (z:=dU.1) (cs:=nd.id.1) (t:=aj) (by rw [nd.id.2.1];rfl);refine⟨⟨nd.id.2.1,nd.id.2.one,fun j hj=>sH j (by rw [nd.id.2.1];exact hj)⟩,?_⟩;intro w4
 replace jh:w4.heap[u.heap.size]? =some (.cells nd.id.1 aj (0,0)):=jh
 replace jB:Kept Nil u w4:=jB
 clear_value w4;clear_value w3;refine ae.GP ?_;unfold ae.J3;intro p;have kp:Kept Nil w4 p:=(Kept.refl _ _).drew;clear_value p;have kup:=jB.tt kp;have Et:=kp.heap jh (fun h=>h);have Op:=O.same kup;have Bp:=B.same Op.kp;obtain⟨A1,c1,q2,Oi⟩:=Bp.R.graph;obtain⟨ga,pA,pn,pc,rfl,Hj,hid,Ws⟩:=Oi.both eF;have Hg:=Hj.len;have lu:=aS Et;have su:=O.kp.size;have LO:=O.C.low;have adZ:=(Row.bC O.row (k:=0));refine⟨nd.id.1,⟨nd.id.2.1,Cells.bC Et⟩,Is.mk rfl ⟨_,Bp.R.c1,Is.mk rfl ⟨_,_,c1,q2,⟨by omega,by omega⟩,Is.mk rfl ⟨pA,pn,pc,Ws (Kept.refl _ _),?_,?_⟩⟩⟩⟩
 ·
  refine jr Op.C (hT.same Op.kp) (fun e=>by have:=Op.lo _ (.inl (.inl e));omega) (by omega) nP Hj (by omega) nd.id fun w' VQ Rs A XT zM B' e c2 g1 g2 g3 g4 g5 g6 g7 g8 g9=>?_;rw [n2,n1];rw [n2]at g6 g7;refine⟨_,_,rfl,?_⟩;have kw:Kept Nil wb w':=Op.kp.trans g3 (fun j hj e=>by have:=Op.lo j (.inl e);omega);have F6:bQ w' wb.heap.size D n dc (ids Go.D):=Row.aD Op.row g3 (fun j hj=>(Op.tk j hj).1);have hbw:=g3.heap Et (fun e=>by have:=LO _ (.inl e);omega);have cy:∀j,a8 D=some j->j<p.heap.size:=fun j hj=>by obtain⟨_,cur,hc⟩:=Row.bC Op.row hj;exact aS hc
  have O':OJ wb w' VQ ob k (cO k Go nd.id nd.ps) Rs D n dc (ids Go.D):=⟨kw,g1,F6,fun j hj=>by
   have:=cy j hj;refine⟨fun e=>?_,fun e=>?_⟩
   ·rcases g4 j e with e|e
    ·exact(Op.tk j hj).1 e
    ·omega
   ·rcases g5 j e with e|e
    ·exact(Op.tk j hj).2 e
    ·omega,fun j e=>by
   have sp:=Op.kp.size;rcases e with e|e
   ·rcases g4 j e with e|e
    ·exact Op.lo j (.inl e)
    ·omega
   ·rcases g5 j e with e|e
    ·exact Op.lo j (.inr e)
    ·omega⟩
  intro t1;have Yd:Kept Nil w' t1:=(Kept.refl _ _).alloc _;have Ef:t1.heap[w'.heap.size]? =some (.cells zC bg (0,0)):=aJ w' _;clear_value t1;obtain⟨z1,z2,z3⟩:=dN Ef (cs:=cD (G.gm nd.id) A XT zM B' e c2) (by rw [aW];rfl);refine⟨⟨aW ..,dI _ _ _ _ _ _ _,fun j hj=>z1 j (by rw [aW];exact hj)⟩,?_⟩;have Ix:=Yd.trans z3 (fun j hj e=>by omega);refine ae.yO (Gb B (by omega) (O'.same Ix) hn fz (Ix.heap hbw (fun h=>h)) z2 ((bQ.hs g6).same Ix) ((Row.bo g7).same Ix) fun w9 D' uH O9=>?_);exact hQ w9 D' uH VQ Rs (by rw [Vn];exact O9) n3
 ·intro g1w
  have kg:Kept Nil p g1w:=(Kept.refl _ _).alloc _;have Ef:g1w.heap[p.heap.size]? =some (.cells zC bg (0,0)):=aJ p _;clear_value g1w;have lx:=aS Ef;have Og:=Op.same kg;have Bg:=B.same Og.kp;have hbg:=kg.heap Et (fun h=>h);refine⟨Ws kg,kg.cell q2 (fun h=>h),Bg.R.c1,⟨_,rfl,nd.id.2.1,Cells.bC hbg⟩,?_⟩;refine jr Og.C (hT.same Og.kp) (fun e=>by have:=Og.lo _ (.inl (.inl e));omega) (by omega) nP (Hj.same kg) (by omega) nd.id fun w' VQ Rs A XT zM B' e c2 g1 g2 g3 g4 g5 g6 g7 g8 g9=>?_;rw [n2,n1];rw [n2]at g6 g7;refine⟨_,_,rfl,?_⟩;have kw:Kept Nil wb w':=Og.kp.trans g3 (fun j hj e=>by have:=Og.lo j (.inl e);omega);have F6:bQ w' wb.heap.size D n dc (ids Go.D):=Row.aD Og.row g3 (fun j hj=>(Og.tk j hj).1);have hbw:=g3.heap hbg (fun e=>by have:=LO _ (.inl e);omega);have cy:∀j,a8 D=some j->j<p.heap.size:=fun j hj=>by obtain⟨_,cur,hc⟩:=Row.bC Op.row hj;exact aS hc
  have sp:=Op.kp.size;have O':OJ wb w' VQ ob k (cO k Go nd.id nd.ps) Rs D n dc (ids Go.D):=⟨kw,g1,F6,fun j hj=>by
   have:=cy j hj;refine⟨fun e=>?_,fun e=>?_⟩
   ·rcases g4 j e with e|e
    ·exact(Og.tk j hj).1 e
    ·omega
   ·rcases g5 j e with e|e
    ·exact(Og.tk j hj).2 e
    ·omega,fun j e=>by
   rcases e with e|e
   ·rcases g4 j e with e|e
    ·exact Og.lo j (.inl e)
    ·omega
   ·rcases g5 j e with e|e
    ·exact Og.lo j (.inr e)
    ·omega⟩
  have ZS:=Op.C.low;have hxw:=g3.heap Ef (fun e=>by have:=ZS _ (.inl e);omega);obtain⟨z1,z2,z3⟩:=dN hxw (cs:=cD (G.gm nd.id) A XT zM B' e c2) (by rw [aW];rfl);refine⟨⟨aW ..,dI _ _ _ _ _ _ _,fun j hj=>z1 j (by rw [aW];exact hj)⟩,?_⟩;have O2:=O'.box z3 sp (fun e=>by
   rcases g4 _ e with e|e
   ·have:=ZS _ (.inl e);omega
   ·omega) (fun e=>by
   rcases g5 _ e with e|e
   ·have:=ZS _ (.inr e);omega
   ·omega) (fun e=>by have:=cy _ e;omega)
  refine ae.yO (Gb B (by omega) O2 hn fz (z3.heap hbw (fun e=>by omega)) z2 ((bQ.hs g6).aD z3 (fun a ha e=>?_)) ((Row.bo g7).aD z3 (fun a ha e=>?_)) fun w9 D' uH O9=>?_)
  ·have:=(Row.bC g6 (k:=a.block) (by rw [ha];rfl)).1;omega
  ·have:=(Row.bC g7 (k:=a.block) (by rw [ha];rfl)).1;omega
  ·exact hQ w9 D' uH VQ Rs (by rw [Vn];exact O9) n3
end
structure NI(w:World)(A:Option Addr)(n:Nat)(l:List Int):Prop where
 len:l.length=n
 at_:∀(i:Nat) x,l[i]? =some x->∃a,A=some a/\w.cell? (a.add i)=some (.int .i64 x)
section
variable{wb w w' u v:World}{F FP Fo:Nat->Prop}{cb ob k r x:Nat}{G Go:GS}{m mo:CM}{FR:Nat->Prop}{D:Option Addr}{n dc:Nat}{K:Value->World->Prop}
theorem NI.same{A:Option Addr}{l:List Int}(h:NI w A n l)(k:Kept Nil w w'):NI w' A n l:=⟨h.len,fun i x hi=>by
 obtain⟨a,e,h1⟩:=h.at_ i x hi;exact⟨a,e,k.cell h1 (fun h=>h)⟩⟩
theorem HY(W:iS G.D)(S:Sub Go G)(cy:Go.D.length<G.D.length):js G (ids Go.D) G.D.length≠ []:=by
 have hex:∃(i:Nat) (nd:DN),G.D[i]? =some nd/\nd.id∉ids Go.D:=by
  apply Classical.byContradiction;intro lZ;have rz:∀y∈ids G.D,y∈ids Go.D:=fun y hy=>by
   obtain⟨nd,h1,rfl⟩:=cU.1 hy;obtain⟨i,hi⟩:=List.mem_iff_getElem?.1 h1;exact Classical.byContradiction fun e=>lZ ⟨i,nd,hi,e⟩
  have:=cI W.nodup rz;rw [fc,fc]at this;omega
 obtain⟨i,hi,ZG⟩:∃i:Nat,(∃nd:DN,G.D[i]? =some nd/\nd.id∉ids Go.D)/\∀j,j<i->¬∃nd:DN,G.D[j]? =some nd/\nd.id∉ids Go.D:=by
  obtain⟨i,hi⟩:=hex
  induction i using Nat.strongRecOn with
  |_ i ih=>
   by_cases h:∃j,j<i/\∃nd:DN,G.D[j]? =some nd/\nd.id∉ids Go.D
   ·obtain⟨j,hj,h2⟩:=h
    exact ih j hj h2
   ·exact⟨i,hi,fun j hj h2=>h ⟨j,hj,h2⟩⟩
 obtain⟨nd,h1,h2⟩:=hi;have hm:i∈js G (ids Go.D) G.D.length:=yA.2 ⟨(lgeS h1).1,nd,h1,by
  unfold pP;rw [Bool.and_eq_true];refine⟨by simpa using h2,List.all_eq_true.2 fun p hp=>?_⟩;obtain⟨j,md,hj,uY,rfl⟩:=W.up i nd p h1 hp;have:=ZG j hj;exact decide_eq_true (Classical.byContradiction fun e=>this ⟨md,uY,e⟩)⟩
 intro e;rw [e]at hm;cases hm
theorem I1(q:Int){o:Nat}(h:0<o)(h2:o<=1000):0<=(i64.wrap (q.tmod (o:Int)+(o:Int))).tmod (o:Int)/\(i64.wrap (q.tmod (o:Int)+(o:Int))).tmod (o:Int)<(o:Int):=by
 have h3:=Int.tmod_lt_of_pos q (b:=(o:Int)) (by omega);have h4:=Int.lt_tmod_of_pos q (b:=(o:Int)) (by omega);have e:i64.wrap (q.tmod (o:Int)+(o:Int))=q.tmod (o:Int)+(o:Int):=by
  have:=dh (n:=q.tmod (o:Int)+(o:Int)-1) (by omega) (by omega)
  rwa [Int.sub_add_cancel]at this
 rw [e];exact⟨Int.tmod_nonneg _ (by omega),Int.tmod_lt_of_pos _ (by omega)⟩
set_option maxHeartbeats 2000000 in
theorem Gc{a:Option Addr}{b c cc:Nat}{d:Bool}{mi q:Int}{C:Option Addr}{Q:aM}(hT:rQ wb)(B:jc wb F cb m FR r x k G)(hD:G.D.length<=40)(nP:k<=1000)(Ow:Own k G)(S:Sub Go G)(O:OJ wb u Fo ob k Go mo D n dc (ids Go.D))(hn:n<=1000)(cy:Go.D.length<G.D.length)(CF:∀nd∈G.D,nd.ps= []->nd.id∈ids Go.D)(nz:∀nd∈G.D,nd.ps.length<=5000)
 {w0:World} (row:Row u w0.heap.size fR 1 C (js G (ids Go.D) G.D.length).length cc (lX (js G (ids Go.D) G.D.length)))
 (hQ:∀w' D' uH KQ Jk KP,OJ wb w' KQ ob k KP Jk D' (n+1) uH (ids KP.D)->Sub KP G->KP.D.length=Go.D.length+1->(∀y∈ids Go.D,y∈ids KP.D)->Q .normal [(3,.slice a b c),(8,.bool d),(9,.pointer (some ⟨cb,0,none⟩)),(10,.pointer (some ⟨r,0,none⟩)),(12,.pointer (some ⟨ob,0,none⟩)),(14,.slice D' (n+1) uH),(15,.int .i64 (i64.wrap (mi+(1:Int))))] w'):
 ae.J1 a b c d (some ⟨cb,0,none⟩) (some ⟨r,0,none⟩) (some ⟨ob,0,none⟩) D n dc mi C (js G (ids Go.D) G.D.length).length cc q Q u:=by
 unfold ae.J1;have fg:=HY B.C.eM.W S cy;have pG:(js G (ids Go.D) G.D.length).length<=G.D.length:=by
  refine Nat.le_trans (List.length_filter_le _ _) ?_;rw [List.length_range];exact Nat.le_refl _
 have im:0<(js G (ids Go.D) G.D.length).length:=List.length_pos_iff.2 fg;obtain⟨t1,t2⟩:=I1 q im (by omega);generalize (i64.wrap (q.tmod (((js G (ids Go.D) G.D.length).length:Nat):Int)+(((js G (ids Go.D) G.D.length).length:Nat):Int))).tmod (((js G (ids Go.D) G.D.length).length:Nat):Int)=ix at t1 t2⊢;obtain⟨ix,rfl⟩:∃j:Nat,ix=(j:Int):=⟨ix.toNat,by omega⟩;have hix:ix<(js G (ids Go.D) G.D.length).length:=by omega
 obtain⟨i0,hi0⟩:∃i0,(js G (ids Go.D) G.D.length)[ix]? =some i0:=⟨_,List.getElem?_eq_getElem hix⟩;obtain⟨_,nd,eF,Ob⟩:=yA.1 (List.mem_of_getElem? hi0);unfold pP at Ob;rw [Bool.and_eq_true]at Ob;obtain⟨ki,iT⟩:=Ob;have jP:nd.id∉ids Go.D:=by simpa using ki
 have mQ:∀p∈nd.ps,p∈ids Go.D:=fun p hp=>by have:=List.all_eq_true.1 iT p hp;simpa using this
 have hm:=List.mem_of_getElem? eF;obtain⟨Cb,rfl⟩:=Row.some row (by omega);refine⟨by omega,by omega,⟨t1,t2⟩,Is.mk rfl ⟨(i0:Int),?_,?_⟩⟩
 ·rw [Int.toNat_natCast,Nat.mul_one]
  exact Row.cells row ix _ (by simp [lX,hi0])
 ·refine ae.ny (MT hT B hD nP Ow S O hn (by omega) eF jP mQ (fun e=>jP (CF nd hm e)) (nz nd hm) fun w' D' uH KQ Jk O' S'=>?_)
  have rC:=S.W'.ss nd hm;have eD:(cO k Go nd.id nd.ps).D=Go.D++ [nd]:=(S.next O.C.eM Ow hm jP mQ (fun e=>jP (CF nd hm e))).2.2.2;exact hQ w' D' uH KQ Jk _ O' S' (by rw [eD];simp) (fun y hy=>by rw [eD];simp only [ids,List.map_append,List.mem_append];exact .inl hy)
end
theorem Sub.trans{G G' G'':GS}(S:Sub G G')(S':Sub G' G''):Sub G G'':=
 ⟨fun nd h=>S'.D nd (S.D nd h),S.W,S'.W',fun y hy=>⟨(S.cw y hy).1.trans (S'.cw y (S.ids hy)).1,(S.cw y hy).2.trans (S'.cw y (S.ids hy)).2⟩⟩
theorem sub_fold{k:Nat}:∀(l:List DN) (G:GS),gV k G->Sub G (l.foldl (fun G s=>cO k G s.id s.ps) G)
 | [],_,H=>⟨fun _ h=>h,H.W,H.W,fun _ _=>⟨rfl,rfl⟩⟩
 |s::l,G,H=>by
  rw [List.foldl_cons];exact(BV H s.id s.ps).trans (sub_fold l _ (H.add _ _))
section
variable{w:World}{FP:Nat->Prop}{K:Value->World->Prop}
set_option maxHeartbeats 4000000 in
theorem Af{A:Option Addr}{n cx:Nat}{l:List DN}(hl:NS w FP A n l)(hn:n<9223372036854775808)(k:Int)(root:HT){T:Option Addr}{tn tc:Nat}{lt:List Int}(ht:NI w T tn lt)(hT:rQ w)(hK:∀w',Kept Nil w w'->K (.bool true) w'):
 bj prog ae.id #[.int .i64 k,.agg root.1,.slice A n cx,.slice T tn tc] w K:=by
 have hlen:=hl.len;refine ae.of ?_;unfold ae.W;intro w1;have k1:Kept Nil w w1:=(Kept.refl _ _).alloc _;have ki:w1.heap[w.heap.size]? =some (.cells root.1 aj (0,0)):=aJ w _;clear_value w1;have kn:∀ {v:World},Kept Nil w v->bj prog gz.id #[] v fun v3 w_4=>∃t:Bool,v3=.bool t/\K (.bool t) w_4:=fun k=>Al (hT.same k) fun w4 k4=>⟨true,rfl,hK w4 (k.tt k4)⟩;refine Split.dec (fun _=>kn k1) (fun IH=>Split.dec (fun _=>kn k1) (fun nA=>?_));refine KC (hl.same k1) hn 20 fun b hb=>⟨b,rfl,?_⟩;cases b with
 |false=>exact Split.yes rfl (kn k1)
 |true=>
 obtain⟨mQ,hll⟩:=hb.1 rfl;obtain⟨k,rfl⟩:∃k':Nat,k=(k':Int):=⟨k.toNat,by omega⟩;refine Split.no rfl (Split.dec (fun _=>kn k1) (fun htn=>?_));refine⟨root.1,⟨root.2.1,Cells.bC ki⟩,?_⟩;refine BA (hl.same k1) (by omega) (fun nd eF=>by have:=mQ nd eF;omega) root (by omega) (hT.same k1) fun w2 F c m FR r x B k2 _=>⟨_,_,true,rfl,Split.no rfl ?_⟩;have WQ:=Bw k root l;have Ow:=EK k root l;have S0:Sub (cM root) (uQ k root l):=sub_fold l _ (jo k root);generalize uQ k root l=G at B WQ Ow S0;have mY:=k1.tt k2;have H:=B.C.eM;have W:=H.W;have iT:=k2.heap ki (fun h=>h);have Hd:∀nd∈G.D,nd.ps= []->nd.id=root:=fun nd hm h0=>by
  have zero:∀nd∈G.D,nd.ps= []->G.D[0]? =some nd:=fun nd hm h0=>by
   obtain⟨i,hi⟩:=List.mem_iff_getElem?.1 hm;cases i with
   |zero=>exact hi
   |succ i=>
    obtain⟨pz,Qh⟩:∃pz,G.P[i+1]? =some pz:=⟨_,List.getElem?_eq_getElem (by rw [H.jt.len];exact(lgeS hi).1)⟩;obtain⟨_,m2,_,_,_,TK⟩:=H.jt.up (i+1) pz nd (by omega) Qh hi;rw [h0]at TK;cases TK
  have h1:=zero nd hm h0;have h2:=zero ⟨root,[]⟩ (S0.D _ (by simp [cM])) rfl;rw [h1]at h2;rw [Option.some.inj h2]
 have nz:∀nd∈G.D,nd.ps.length<=G.D.length:=fun nd hm=>by
  have:=cI (m:=ids G.D) (W.ss nd hm).nodup (KZ W hm)
  rwa [fc]at this
 refine⟨root.1,⟨root.2.1,Cells.bC iT⟩,?_⟩;refine gq root (by omega) fun w3 ob q mo Co hmo hq k3=>⟨_,0,rfl,Split.no rfl ⟨root.1,⟨root.2.1,Cells.bC (k3.heap iT (fun h=>h))⟩,root.2.1,?_⟩⟩;intro w4;have k4:Kept Nil w3 w4:=(Kept.refl _ _).alloc _;have s3:=k3.size;have jn:bQ w4 w2.heap.size (some ⟨w3.heap.size,0,none⟩) 1 1 [root]:=by
  have e:cP [root]=(root.1.toList++ []).toArray.toList:=by simp [cP]
  show Row _ _ _ _ _ _ _ (cP [root])
  rw [e];exact Row.made (aJ w3 _) s3 (by simp [root.2.1]) (by unfold maxLen;omega)
 clear_value w4;have lA:=Co.low;have O0:OJ w2 w4 (· =q) ob k (cM root) mo (some ⟨w3.heap.size,0,none⟩) 1 1 (ids (cM root).D):=⟨k3.tt k4,Co.same k4,jn,fun j hj=>by
  have hj:w3.heap.size=j:=Option.some.inj hj;exact⟨fun e=>by have:=lA j (.inl e);omega,fun e=>by have:=lA j (.inr e);omega⟩,fun j e=>by
  rcases e with e|e
  ·exact hmo j e
  ·have e:j=q:=e;omega⟩
 have im:1<=G.D.length:=W.pos;refine ae.b7 (I:=fun s v=>∃(n:Nat) (D:Option Addr) (dc:Nat) (Go:GS) (Fo:Nat->Prop) (mo:CM),s=(false,D,n,dc,(n:Int))/\1<=n/\n<=G.D.length/\Go.D.length=n/\OJ w2 v Fo ob k Go mo D n dc (ids Go.D)/\Sub Go G/\root∈ids Go.D) (μ:=fun s _=>((G.D.length:Int)-s.2.2.2.2).toNat) (s:=(false,some ⟨w3.heap.size,0,none⟩,1,1,1)) ⟨1,_,1,cM root,(· =q),mo,rfl,by omega,im,rfl,O0,S0,by simp [cM,ids]⟩ ?_;rintro s v ⟨nn,D,dc,Go,Fo,mo,rfl,Fb,hnG,hGo,O,S,Qd⟩;unfold ae.B1;have Bv:=B.same O.kp;obtain⟨A0,c0,q1,pY⟩:=Bv.R.graph;refine Is.mk rfl ⟨_,Bv.R.c1,Is.mk rfl ⟨A0,_,c0,q1,Split.dec (fun cy=>?_) (fun fU=>?_)⟩⟩
 ·simp only at cy
  have Tz:nn<G.D.length:=by omega
  refine DQ Bv.R (by omega) (fun nd hm=>by have:=nz nd hm;omega) (bQ.hs O.row) (by simp only;omega) fun w' C cc z kw row=>?_;have O':=O.same kw;have T':NI w' T tn lt:=ht.same (mY.tt O'.kp);unfold ae.gU;have e1:i64.wrap ((nn:Int)-1)=(nn:Int)-1:=by
   rcases Nat.lt_or_ge 1 nn with h|h
   ·have:=dh (n:=(nn:Int)-2) (by omega) (by omega)
    rwa [show(nn:Int)-2+1=(nn:Int)-1 by omega]at this
   ·have:nn=1:=by omega
    subst this;rfl
  simp only;rw [e1];have Ls:=T'.len;have hz:0<=(nn:Int)-1:=by omega
  refine Split.dec (fun h=>⟨⟨hz,h⟩,?_⟩) (fun _=>ae.ly (Gc (hT.same mY) B (by omega) (by omega) Ow S O' (by omega) (by omega) (fun nd hm h0=>by rw [Hd nd hm h0];exact Qd) (fun nd hm=>by have:=nz nd hm;omega) row fun kM D' uH KQ Jk KP O'' S'' ZU Hr=>by
   rw [dh (n:=(nn:Int)) (by omega) (by omega)];exact⟨(false,D',nn+1,uH,(nn:Int)+1),rfl,⟨nn+1,D',uH,KP,KQ,Jk,rfl,by omega,Tz,by omega,O'',S'',Hr _ Qd⟩,by simp only;omega⟩))
  obtain⟨tv,YQ⟩:∃tv,lt[((nn:Int)-1).toNat]? =some tv:=⟨_,List.getElem?_eq_getElem (by omega)⟩;obtain⟨ta,rfl,hta⟩:=T'.at_ _ _ YQ;exact Is.mk rfl ⟨tv,by rw [Nat.mul_one];exact hta,ae.ly (Gc (hT.same mY) B (by omega) (by omega) Ow S O' (by omega) (by omega) (fun nd hm h0=>by rw [Hd nd hm h0];exact Qd) (fun nd hm=>by have:=nz nd hm;omega) row fun kM D' uH KQ Jk KP O'' S'' ZU Hr=>by
   rw [dh (n:=(nn:Int)) (by omega) (by omega)];exact⟨(false,D',nn+1,uH,(nn:Int)+1),rfl,⟨nn+1,D',uH,KP,KQ,Jk,rfl,by omega,Tz,by omega,O'',S'',Hr _ Qd⟩,by simp only;omega⟩)⟩
 ·rw [aQ,ae.c8]
  exact kn (mY.tt O.kp)
end
open Go.ChangeAt Go.ChangeShapes Go.WideShapes
theorem Vj:prog.underlying fR=some (.int .i64):=by kernel_rfl
theorem HN:prog.underlying eR=some (.slice fR):=by kernel_rfl
theorem abB:prog.cellsOf fR=1:=by kernel_rfl
section
variable{H:Type}{enc:TypeId×Value->H}{w:World}{base:Nat}{sp:Nat->Bool}{held:Bool}{fuel:Nat}{cs:List Value}{x:DataW H×List MemPlace}
theorem Rh(h:DataW.trod enc prog w base sp held fuel eR cs=some x):
 ∃A n c l,cs= [.slice A n c]/\NI w A n l/\n<=maxLen:=by
 rcases Deep.open_slice HN h with⟨rfl,_⟩|⟨a,len,cap,m,k,D,Pl,rfl,_,hl,hm,Tm,_,Ub⟩
 ·exact⟨none,0,0,[],rfl,⟨rfl,fun i h hi=>by simp at hi⟩,by decide⟩
 ·have hlm:len<=m:=by rw [Tm];split<;>omega
  have cR:∀i,i<len->∃z:Int,w.cell? (a.add i)=some (.int .i64 z):=fun i hi=>by
   obtain⟨IN,hc,hd⟩:=Ub i (by omega);rw [abB,Nat.mul_one]at hc;obtain⟨h1,h2⟩:=uM hc;obtain⟨z,hz,_,_⟩:=DataW.trod_int Vj hd;have:=h1 0 (.int .i64 z) (by rw [hz];rfl);rw [add_zero]at this;exact⟨z,this⟩
  haveI:Inhabited Int:=⟨0⟩
  obtain⟨f,hf⟩:=Deep.choose_lt cR;refine⟨some a,len,cap,(List.range len).map f,rfl,⟨by simp,fun i y hi=>?_⟩,by omega⟩;have cy:=(lgeS hi).1;simp only [List.length_map,List.length_range]at cy;simp [cy]at hi;subst hi;exact⟨a,rfl,hf i cy⟩
end
section
variable{H:Type}{enc:TypeId×Value->H}{w:World}{base:Nat}{sp:Nat->Bool}{held:Bool}{d:DataW H}{p:List MemPlace}{v:Value}
set_option maxRecDepth 100000 in
theorem H9{t:TypeId}(et:t=eR)(hv:Value.okWide prog w .any base t v)(h:∃fuel,DataW.trod enc prog w 0 sp held fuel t v.cells.toList=some (d,p)):
 ∃A n c l,v=.slice A n c/\NI w A n l/\n<=maxLen:=by
 have ht:prog.underlying t=some (.slice fR):=by rw [et];exact HN
 simp only [Value.okWide,ht,Cell.okWide]at hv;obtain⟨a0,XX,abQ,rfl⟩:∃a len cap,v=.slice a len cap:=by
  clear h;cases v<;>simp_all [Cell.ok]
 clear hv;subst et;obtain⟨fuel,h⟩:=h;obtain⟨A,n,c,l,he,h1,h2⟩:=Rh h;simp [Value.cells]at he;obtain⟨rfl,rfl,rfl⟩:=he;exact⟨_,_,_,l,rfl,h1,h2⟩
end
end Go.Proofs.YtnboahlopghcjaaGreatDoor
