import Derived.Test.YtfleamccglihoaaGreatDoorMU
import Derived.Test.YtfleamccglihoaaGreatDoorMJ
import Derived.Test.YtfleamccglihoaaGreatDoorMT
import Derived.Test.YtfleamccglihoaaGreatDoorMI
import Derived.Test.YtfleamccglihoaaGreatDoorMG
import Derived.Test.YtfleamccglihoaaGreatDoorMN
open Go.IntKind (i64 u64)
set_option linter.unusedVariables false
namespace Go.Proofs.YtfleamccglihoaaGreatDoor
open Go.Proofs.Tryz
open Go Go.bV Go.RowKit
def adJ(l:List DN)(ZS:Nat):Prop:=(∀nd∈l,nd.ps.length<=6)/\l.length<=ZS
noncomputable def oy(k:Nat)(G:GS)(id:HT)(l:List HT):oE:=if dF G.D id l=0 then cX k G (bU G l) l else⟨dz,0,[],[]⟩
noncomputable def wI(k:Nat)(root:HT)(l:List DN):GS:=l.foldl (fun G s=>dh k G s.id s.ps) (dg root)
theorem Ka(k:Nat)(G:GS)(h:HT)(l:List HT):(dh k G h l).D.length<=G.D.length+1:=by
 rw [qk];unfold nz;split<;>simp
theorem tG(k:Nat):∀(l:List DN) (G:GS),(l.foldl (fun G s=>dh k G s.id s.ps) G).D.length<=G.D.length+l.length
 | [],_=>by simp
 |s::l,G=>by
  have h1:=tG k l (dh k G s.id s.ps);have h2:=Ka k G s.id s.ps;rw [List.foldl_cons,List.length_cons];omega
theorem Dx(k:Nat)(root:HT)(l:List DN):(wI k root l).D.length<=1+l.length:=tG k l (dg root)
theorem Dm{k:Nat}{G:GS}{l:List DN}{i:Nat}{s:DN}(h:l[i]? =some s):(l.take (i+1)).foldl (fun G s=>dh k G s.id s.ps) G=dh k ((l.take i).foldl (fun G s=>dh k G s.id s.ps) G) s.id s.ps:=by
 rw [List.take_add_one,h];simp
section
variable{w w' v:World}{S F FP FR:Nat->Prop}{c r x k:Nat}{G:GS}{m:CM}{K:Value->World->Prop}
theorem mV(h:CV w F c k G m)(hT:uK w)(KF:¬m.SX (Tryz.kh.g 1))(hD:G.D.length<=49)(rP:k<=1000){A:Option Addr}{n cx:Nat}{l:List HT}(He:HS w A n l)(hn:n<=5000)(id:HT)
 (hK:∀w' F' m' A n c1 B e c2,CV w' F' c k (dh k G id l) m'->m'.x=m.x->Kept (m.own c) w w'->(∀j,m'.own c j->m.own c j\/w.heap.size<=j)->(∀j,F' j->F j\/w.heap.size<=j)->
   bM w' w.heap.size A n c1 (oy k G id l).merge->Row w' w.heap.size iK 1 B e c2 (sS (oy k G id l).fL)->(∀j,bn A=some j->bn B≠some j)->(∀j,bn A=some j\/bn B=some j->¬m'.own c j/\¬F' j)->
   K (.tuple #[.agg (cQ (oy k G id l) A n c1 B e c2),.int .i64 (dF G.D id l)]) w'):
 bz prog dN.id #[.pointer (some ⟨c,0,none⟩),.agg id.1,.slice A n cx] w K:=by
 refine GC h hT KF hD rP He hn id (fun he w' k'=>?_) (fun he w' F' m' A n c1 B e c2 h1 h2 h3 h4 h5 h6 h7 h8 h9=>?_)
 ·have e1:oy k G id l=⟨dz,0,[],[]⟩:=if_neg he
  have:=hK w' F m none 0 0 none 0 0 (by rw [oU he];exact h.same k') rfl (k'.mono fun _ _ h=>h.elim) (fun j h=>.inl h) (fun j h=>.inl h) (by rw [e1];exact bM.nil _ _) (by rw [e1];exact Row.nil _ _ _ _) (fun j hj=>(by cases hj)) (fun j hj=>by rcases hj with hj|hj<;>cases hj);rw [e1]at this;exact this
 ·have e1:oy k G id l=cX k G (bU G l) l:=if_pos he
  have:=hK w' F' m' A n c1 B e c2 h1 h2 h3 h4 h5 (by rw [e1];exact h6) (by rw [e1];exact h7) h8 h9;rw [e1,he]at this;exact this
theorem vx(h:R3 w F r x k G)(hD:G.D.length<=300)(rP:k<=1000){A:Option Addr}{n cx:Nat}{l:List HT}(hl:HS w A n l)(hn:n<=5000)(id:HT)
 (hK:∀w' A n c B e ce,R3 w' (fun j=>F j\/(w.heap.size<=j/\j<w'.heap.size)) r x k (dh k G id l)->Kept (fun j=>j=r\/j=x) w w'->HS w' A n (oy k G id l).merge->Bo w' B e (oy k G id l).fL->(∀a,A=some a\/B=some a->w.heap.size<=a.block)->K (.tuple #[.agg (cQ (oy k G id l) A n c B e ce),.int .i64 (dF G.D id l)]) w'):
 bz prog dM.id #[.pointer (some ⟨r,0,none⟩),.agg id.1,.slice A n cx] w K:=by
 have L7:=h.lt;have NT:=h.lx;refine yK h hD rP hl hn id (fun he w' k'=>?_) (fun he w' A n c B e ce h1 h2 h3 h4 h5=>?_)
 ·have e1:oy k G id l=⟨dz,0,[],[]⟩:=if_neg he
  have h':=h.same k';have hs:=k'.size;obtain⟨A1,c1,B1,e1',g1,g2,g3⟩:=h'.top;have:=hK w' none 0 0 none 0 0 (by
   rw [oU he];exact⟨⟨A1,c1,B1,e1',g1,g2.mono (fun j hj=>.inl hj),g3.mono (fun j hj=>.inl hj)⟩,h'.X.mono (fun j hj=>.inl hj) (fun e=>e.elim h.X.iC (fun e=>by omega)),fun e=>e.elim h.iC (fun e=>by omega),h.ne,h.fk,fun j e=>e.elim (h'.lo j) (fun e=>e.2)⟩) (k'.mono fun _ _ h=>h.elim) (by rw [e1];exact HS.nil _ _) (by rw [e1];exact⟨rfl,fun i b hi=>by simp at hi⟩) (fun a ha=>by rcases ha with ha|ha<;>cases ha)
  rw [e1]at this;exact this
 ·have e1:oy k G id l=cX k G (bU G l) l:=if_pos he
  have:=hK w' A n c B e ce h1 h2 (by rw [e1];exact h3) (by rw [e1];exact h4) h5;rw [e1,he]at this;exact this
structure lC(w:World)(F:Nat->Prop)(c:Nat)(m:CM)(FR:Nat->Prop)(r x k:Nat)(G:GS):Prop where
 C:CV w F c k G m
 R:R3 w FR r x k G
 rS:∀j,j=r\/j=x->¬m.own c j/\¬F j
 fS:∀j,FR j->¬m.own c j
theorem lC.aF{S0:Nat->Prop}(B:lC w F c m FR r x k G)(hk:Kept S0 w w')(h1:∀j,m.own c j\/F j\/FR j\/j=r\/j=x->¬S0 j):lC w' F c m FR r x k G:=
 ⟨B.C.aF hk (fun j e=>h1 j (.inl e)) (fun j e=>h1 j (.inr (.inl e))),B.R.aF hk (h1 _ (.inr (.inr (.inr (.inl rfl))))) (h1 _ (.inr (.inr (.inr (.inr rfl))))) (fun j e=>h1 j (.inr (.inr (.inl e)))),B.rS,B.fS⟩
theorem lC.same(B:lC w F c m FR r x k G)(hk:Kept Nil w w'):lC w' F c m FR r x k G:=B.aF hk (fun _ _ h=>h)
theorem lC.low(B:lC w F c m FR r x k G):∀j,m.own c j\/F j\/FR j\/j=r\/j=x->j<w.heap.size:=fun j e=>by
 rcases e with e|e|e|e|e
 ·exact B.C.low j (.inl e)
 ·exact B.C.low j (.inr e)
 ·exact B.R.lo j e
 ·rw [e];exact B.R.lt
 ·rw [e];exact B.R.lx
theorem lC.after{F':Nat->Prop}{m':CM}{G':GS}(B:lC w F c m FR r x k G)(kv:Kept (m.own c) w v)(h1:∀j,m'.own c j->m.own c j\/w.heap.size<=j)(h2:∀j,F' j->F j\/w.heap.size<=j)(hC:CV v F' c k G' m'){u:World}(Kp:Kept Nil v u):
 R3 u FR r x k G/\∀t,R3 t (fun j=>FR j\/(u.heap.size<=j/\j<t.heap.size)) r x k G'->Kept (fun j=>j=r\/j=x) u t->lC t F' c m' (fun j=>FR j\/(u.heap.size<=j/\j<t.heap.size)) r x k G':=by
 have hr:=B.R.lt;have hx:=B.R.lx;have nr:∀j,j=r\/j=x->¬m'.own c j/\¬F' j:=fun j hj=>by
  have cU:j<w.heap.size:=by rcases hj with rfl|rfl;exact hr;exact hx
  refine⟨fun e=>?_,fun e=>?_⟩
  ·rcases h1 j e with e|e
   ·exact(B.rS j hj).1 e
   ·omega
  ·rcases h2 j e with e|e
   ·exact(B.rS j hj).2 e
   ·omega
 refine⟨(B.R.aF kv (fun e=>(B.rS r (.inl rfl)).1 e) (fun e=>(B.rS x (.inr rfl)).1 e) B.fS).same Kp,fun t hR kt=>⟨?_,hR,nr,fun j hj e=>?_⟩⟩
 ·exact(hC.same Kp).aF kt (fun j e e'=>(nr j e').1 e) (fun j e e'=>(nr j e').2 e)
 ·have oO:=hC.low j (.inl e)
  have:=Kp.size;rcases hj with hj|hj
  ·rcases h1 j e with e|e
   ·exact B.fS j hj e
   ·have:=B.R.lo j hj;omega
  ·omega
end
section
variable{w w' v:World}{S F FP FR:Nat->Prop}{c r x k:Nat}{G:GS}{m:CM}{K:Value->World->Prop}
end
section
variable{k:Nat}{G:GS}{s:HT}
theorem AI(G:GS)(s:HT):cG G s [s]= []:=by
 rw [List.eq_nil_iff_forall_not_mem];intro h hm;obtain⟨h1,h2,h3⟩:=iX.1 hm;rcases h1 with⟨_,p,hp,ha⟩|h1
 ·rw [List.mem_singleton]at hp;subst hp;exact h3 ha
 ·rw [List.mem_singleton]at h1;exact h2 h1
theorem qt(k:Nat)(G:GS)(s:HT):cX k G s [s]=⟨s,G.score s+1,[],[]⟩/\(dP k G s [s]).wd=G.world s++ [s]:=by
 unfold cX dP;rw [AI];exact⟨rfl,rfl⟩
variable{r a b c:HT}(yZ:r≠a)(wQ:r≠b)(Ev:r≠c)(lE:a≠b)(EH:a≠c)(B9:b≠c)
include yZ wQ lE in
theorem Z9(k:Nat):∃G1 G2:GS,dh k (dg r) a [r]=G1/\dh k G1 b [r]=G2/\dF (dg r).D a [r]=0/\dF G1.D b [r]=0/\fp k G2/\G1.D= [⟨r,[]⟩,⟨a,[r]⟩]/\G2.D= [⟨r,[]⟩,⟨a,[r]⟩,⟨b,[r]⟩]/\G2.score a=1/\G2.score b=1/\G2.score r=0/\G2.world a= [r]/\G2.world b= [r]/\
 (∀x,eB G2.D x a↔x=r)/\(∀x,eB G2.D x b↔x=r)/\∀x,¬eB G2.D x r:=by
 have H0:=ju k r;have c1:dF (dg r).D a [r]=0:=(k1 yZ).1;have H1:=H0.add a [r];have D1:(dh k (dg r) a [r]).D= [⟨r,[]⟩,⟨a,[r]⟩]:=by rw [qk];exact(k1 yZ).2
 obtain⟨r1,r2⟩:=H0.root ⟨r,[]⟩ rfl
 replace r1:(dg r).fM r=_:=r1
 replace r2:(dg r).world r=_:=r2
 have tB:r∈ids (dg r).D:=by simp [dg,ids]
 obtain⟨n1,n2⟩:=lV H0 c1;obtain⟨o1,o2⟩:=iH (h:=a) (ps:= [r]) H0 tB
 replace n1:(dh k (dg r) a [r]).fM a=cX k (dg r) r [r]:=n1
 replace n2:(dh k (dg r) a [r]).world a=(dP k (dg r) r [r]).wd:=n2
 rw [(qt k (dg r) r).1]at n1;rw [(qt k (dg r) r).2,r2]at n2;have sr:(dg r).score r=0:=by unfold GS.score;rw [r1]
 rw [sr]at n1;rw [r1]at o1;rw [r2]at o2;generalize hG1:dh k (dg r) a [r]=G1 at*;have c2:dF G1.D b [r]=0:=by rw [D1];exact(k2 wQ lE).1
 have D2:(dh k G1 b [r]).D= [⟨r,[]⟩,⟨a,[r]⟩,⟨b,[r]⟩]:=by rw [qk,D1];exact(k2 wQ lE).2
 have H2:=H1.add b [r];obtain⟨p1,p2⟩:=lV H1 c2
 replace p1:(dh k G1 b [r]).fM b=cX k G1 r [r]:=p1
 replace p2:(dh k G1 b [r]).world b=(dP k G1 r [r]).wd:=p2
 rw [(qt k G1 r).1]at p1;rw [(qt k G1 r).2,o2]at p2;have sr1:G1.score r=0:=by unfold GS.score;rw [o1]
 rw [sr1]at p1;have ns:r∈ids G1.D:=by rw [D1];simp [ids]
 have uV:a∈ids G1.D:=by rw [D1];simp [ids]
 obtain⟨q1,_⟩:=iH (h:=b) (ps:= [r]) H1 ns;obtain⟨q3,q4⟩:=iH (h:=b) (ps:= [r]) H1 uV;have W2:=H2.W;have hr:∀x,¬eB (dh k G1 b [r]).D x r:=fun x h=>by
  obtain⟨p,hp,_⟩:=(sI W2 (i:=0) (nd:=⟨r,[]⟩) (by rw [D2];rfl) x).1 h;simp at hp
 have hx:∀(i:Nat) (y:HT),(dh k G1 b [r]).D[i]? =some ⟨y,[r]⟩->∀x,eB (dh k G1 b [r]).D x y↔x=r:=fun i y hi x=>by
  rw [sI W2 (i:=i) (nd:=⟨y,[r]⟩) hi x];constructor
  ·rintro⟨p,hp,e⟩
   rw [List.mem_singleton]at hp;subst hp;rcases e with e|e
   ·exact e
   ·exact absurd e (hr x)
  ·rintro rfl
   exact⟨x,by simp,.inl rfl⟩
 refine⟨G1,_,rfl,rfl,c1,c2,H2,D1,D2,?_,?_,?_,?_,p2,hx 1 a (by rw [D2];rfl),hx 2 b (by rw [D2];rfl),hr⟩
 ·unfold GS.score;rw [q3,n1]
 ·unfold GS.score;rw [p1]
 ·unfold GS.score;rw [q1,o1]
 ·rw [q4,n2];rfl
include yZ wQ Ev lE EH B9 in
theorem kG3(cU:cU b a=true){G1 G2:GS}(h1:dh 0 (dg r) a [r]=G1)(h2:dh 0 G1 b [r]=G2):dF G2.D c [a,b]=0/\oy 0 G2 c [a,b]=⟨a,2,[b],[false]⟩:=by
 obtain⟨G1',G2',e1,e2,_,_,H2,_,D2,sa,sb,_,wa,_,aa,ab,ar⟩:=Z9 yZ wQ lE 0;rw [h1]at e1;subst e1;rw [h2]at e2;subst e2;have c3:dF G2.D c [a,b]=0:=by rw [D2];exact(k3 Ev lE EH B9).1
 refine⟨c3,?_⟩;unfold oy;rw [if_pos c3];have QK:gl G2 a b=false:=by
  unfold gl;rw [sa,sb];cases h:Go.Proofs.YtfleamccglihoaaGreatDoor.cU a b
  ·rfl
  ·have:=kR h cU
   rw [iz]at this;cases this
 have mP:bU G2 [a,b]=a:=by
  show(if gl G2 a b then b else a)=a;rw [QK];rfl
 rw [mP];have hm:cG G2 a [a,b]= [b]:=by
  refine(nW (by simp [SO]) fun x=>?_).symm;rw [List.mem_singleton,nX];constructor
  ·rintro rfl
   exact⟨.inr (by simp),fun e=>lE e.symm,fun e=>wQ ((aa x).1 e).symm⟩
  ·rintro⟨h|h,h3,h4⟩
   ·obtain⟨_,p,hp,hA⟩:=h
    simp at hp;rcases hp with rfl|rfl
    ·exact absurd hA h4
    ·exact absurd ((aa x).2 ((ab x).1 hA)) h4
   ·simp at h
    rcases h with h|h
    ·exact absurd h h3
    ·exact h
 have hb:mf 0 G2.D [r,a] b=false:=by
  unfold mf;rw [decide_eq_false_iff_not];rintro⟨h,_⟩;have:a∈bS G2.D [r,a] b:=eF.2 ⟨by simp,lE,fun e=>yZ ((ab a).1 e).symm,fun e=>wQ ((aa b).1 e).symm⟩;have h0:bS G2.D [r,a] b= []:=List.eq_nil_of_length_eq_zero (by omega);rw [h0]at this;simp at this
 unfold cX dP;rw [hm,wa,sa];have hf: [b].foldl (jV 0 G2.D) ⟨[r]++ [a],[]⟩=⟨[r,a],[false]⟩:=by
  show jV 0 G2.D ⟨[r,a],[]⟩ b=_
  unfold jV;rw [hb];rfl
 rw [hf];rfl
end
section
variable{w w':World}{K:Value->World->Prop}
end
section
variable{w w' v:World}{F FP FR:Nat->Prop}{c r x k:Nat}{G:GS}{m:CM}{K:Value->World->Prop}
theorem R3.graph(h:R3 w F r x k G):∃A c,w.cell? (((⟨x,0,none⟩:Addr).add 0).add 0)=some (.slice A G.D.length c)/\NS w F A G.D.length G.D:=by
 obtain⟨A,c,B,e,l,h1,h2,_⟩:=h.X.ex;exact⟨A,c,by rw [add_zero,add_zero,aD h1];rfl,h2⟩
end
section
variable{w v:World}{F FP FR:Nat->Prop}{c r x k:Nat}{G:GS}{m:CM}{K:Value->World->Prop}{O:Option Addr}{on oc:Nat}{lo:List HT}{s:HT}{sb xb:Nat}{xv:Array Value}
end
theorem vD(D:DG)(x b:HT):bS D [x] b=if mi D x b then [x]else []:=by
 unfold bS;rw [List.filter_cons];by_cases h:mi D x b<;>simp [h]
def Fair(k:Nat)(D:DG)(wd:List HT):Prop:=∀b∈wd,(bS D wd b).length<=k
theorem Fair.step{k:Nat}{D:DG}{s:VS}{h:HT}(H:Fair k D s.wd):Fair k D (jV k D s h).wd:=by
 unfold jV;simp only;cases hb:mf k D s.wd h with
 |false=>simpa using H
 |true=>
  rw [if_pos rfl];obtain⟨h1,h2⟩:=of_decide_eq_true hb;intro b hm;rw [eW,List.length_append,vD];rcases List.mem_append.1 hm with hm|hm
  ·split
   ·rename_i ha
    have:=h2 b (eF.2 ⟨hm,ha.symm⟩);simp only [List.length_cons,List.length_nil];omega
   ·have:=H b hm
    simp only [List.length_nil];omega
  ·have:b=h:=by simpa using hm
   subst this;rw [if_neg (fun e=>e.1 rfl)];simpa using h1
theorem Fair.fold{k:Nat}{D:DG}:∀(l:List HT) (s:VS),Fair k D s.wd->Fair k D (l.foldl (jV k D) s).wd
 | [],_,H=>H
 |x::l,s,H=>by
  rw [List.foldl_cons];exact Fair.fold l _ H.step
theorem z8{G:GS}:∀ {l:List HT} {p:HT},p∈l->G.score p<=G.score (bU G l)
 |x::l,p,hp=>by
  have gs:∀ {a b:HT},gl G a b=true->G.score a<=G.score b:=fun {a b} h=>by
   simp only [gl,Bool.or_eq_true,Bool.and_eq_true,decide_eq_true_eq]at h;omega
  have gn:∀ {a b:HT},gl G a b=false->G.score b<=G.score a:=fun {a b} h=>by
   simp only [gl,Bool.or_eq_false_iff,decide_eq_false_iff_not]at h;omega
  have key:∀(l:List HT) (b:HT),G.score b<=G.score (l.foldl (fun b y=>if gl G b y then y else b) b)/\∀p∈l,G.score p<=G.score (l.foldl (fun b y=>if gl G b y then y else b) b):=by
   intro l
   induction l with
   |nil=>intro b;exact⟨Nat.le_refl _,fun p hp=>by cases hp⟩
   |cons y l ih=>
    intro b;rw [List.foldl_cons];obtain⟨h1,h2⟩:=ih (if gl G b y then y else b);cases hg:gl G b y with
    |true=>
     rw [hg,if_pos rfl]at h1 h2;rw [if_pos rfl];refine⟨Nat.le_trans (gs hg) h1,fun p hp=>?_⟩;rcases List.mem_cons.1 hp with rfl|hp
     ·exact h1
     ·exact h2 p hp
    |false=>
     rw [hg,if_neg (by simp)]at h1 h2;rw [if_neg (by simp)];refine⟨h1,fun p hp=>?_⟩;rcases List.mem_cons.1 hp with rfl|hp
     ·exact Nat.le_trans (gn hg) h1
     ·exact h2 p hp
  obtain⟨h1,h2⟩:=key l x;show G.score p<=G.score (l.foldl (fun b y=>if gl G b y then y else b) x)
  rcases List.mem_cons.1 hp with rfl|hp
  ·exact h1
  ·exact h2 p hp
structure DM(k:Nat)(G:GS):Prop where
 cl:∀h∈ids G.D,Fair k G.D (G.world h)
 mx:∀h p,mh G.D p h->G.score p<=G.score (G.fM h).gQ
section
variable{k:Nat}{G:GS}{h:HT}{ps:List HT}
theorem DM.root(k:Nat)(r:HT):DM k (dg r):=by
 refine⟨fun h hm b hb=>?_,fun h p hp=>?_⟩
 ·have hh:h=r:=by simpa [dg,ids]using hm
  subst hh;rw [((ju k h).root ⟨h,[]⟩ rfl).2]at hb;cases hb
 ·obtain⟨nd,ft,_,oY⟩:=hp
  have:nd=⟨r,[]⟩:=by simpa [dg]using ft
  subst this;cases oY
theorem DM.add(C:DM k G)(H:fp k G)(h:HT)(ps:List HT):DM k (dh k G h ps):=by
 by_cases hc:dF G.D h ps=0
 ·obtain⟨hn,fD,ft,oY⟩:=km hc
  obtain⟨q1,q2⟩:=lV H hc;obtain⟨a1,a2⟩:=wO H hc;obtain⟨j,m,_,_,_,zA,wP⟩:=Cp H hc;have eD:(dh k G h ps).D=G.D++ [⟨h,dA ps⟩]:=by rw [jZ hc]
  have Gn:∀p∈ps,p∈ids G.D:=fun p hp=>oY p (dt.2 hp);have Su:∀ {a b:HT},a∈ids G.D->b∈ids G.D->(mi (dh k G h ps).D a b↔mi G.D a b):=fun {a b} ha hb=>by
   unfold mi;rw [eD,a2 a b hb,a2 b a ha]
  have BT:∀ {wd:List HT},(∀a∈wd,a∈ids G.D)->Fair k G.D wd->Fair k (dh k G h ps).D wd:=fun {wd} fQ F b hb=>by
   rw [mq fun a ha=>Su (fQ a ha) (fQ b hb)];exact F b hb
  have sc:∀ {y:HT},y∈ids G.D->(dh k G h ps).score y=G.score y:=fun {y} hy=>by unfold GS.score;rw [(iH H hy).1]
  have mem:∀ {y:HT},y∈ids (dh k G h ps).D->y∈ids G.D\/y=h:=fun {y} hy=>by
   rw [eD]at hy;simpa [ids]using hy
  refine⟨fun y hy=>?_,fun y p hp=>?_⟩
  ·rcases mem hy with hy|rfl
   ·rw [(iH H hy).2]
    exact BT (fun a ha=>(((H.wd y hy).2.1 a ha).mem H.W).1) (C.cl y hy)
   ·rw [q2]
    obtain⟨_,_,v3⟩:=yA H wP ps Gn;refine BT (fun a ha=>(v3 a ha).1) ?_;unfold dP;refine Fair.fold _ _ ?_;have hw:=(H.wd _ wP).2.1;intro b hb;simp only at hb⊢;rw [eW,vD,List.length_append];rcases List.mem_append.1 hb with hb|hb
    ·have:=C.cl _ wP b hb
     rw [if_neg (fun e=>e.2.2 (hw b hb))];simpa using this
    ·have:b=bU G ps:=by simpa using hb
     subst this;rw [if_neg (fun e=>e.1 rfl)];have:bS G.D (G.world (bU G ps)) (bU G ps)= []:=by
      rw [List.eq_nil_iff_forall_not_mem];intro a ha;obtain⟨h1,h2⟩:=eF.1 ha;exact h2.2.1 (hw a h1)
     rw [this];simp
  ·obtain⟨nd,ft,rfl,hp⟩:=hp
   rw [eD]at ft;rcases List.mem_append.1 ft with ft|ft
   ·have hy:nd.id∈ids G.D:=cS.2 ⟨nd,ft,rfl⟩
    have jX:mh G.D p nd.id:=⟨nd,ft,rfl,hp⟩;have hpi:=((eB.one jX).mem H.W).1;have nv:=C.mx _ _ jX;rw [(iH H hy).1,sc hpi];obtain⟨i,jj,m',nd',rf,ny,om,e1,e2,_⟩:=jX.at_ H.W;have hP:=(lgeS om).1;obtain⟨pz,Kx⟩:∃pz,G.P[jj]? =some pz:=⟨_,List.getElem?_eq_getElem (by rw [H.gQ.len];exact hP)⟩;obtain⟨j2,m2,rfl,_,Jh,abZ⟩:=H.gQ.up jj pz nd' (by omega) Kx om;have mP:=(H.up m2.id nd.id ⟨jj,j2,nd',m2,om,e2,Kx,Jh,rfl⟩).1;rw [sc (by rw [mP];exact cS.2 ⟨m2,List.mem_of_getElem? Jh,rfl⟩)];exact nv
   ·have:nd=⟨h,dA ps⟩:=by simpa using ft
    subst this;have C0:p∈ps:=dt.1 hp;rw [q1,sc (Gn p C0)];show G.score p<=(dh k G h ps).score (bU G ps)
    rw [sc wP];exact z8 C0
 ·rw [oU hc];exact C
theorem GO(k:Nat)(root:HT)(l:List DN):DM k (wI k root l):=by
 have key:∀(l:List DN) (G:GS),fp k G->DM k G->DM k (l.foldl (fun G s=>dh k G s.id s.ps) G):=by
  intro l
  induction l with
  |nil=>intro G _ C;exact C
  |cons s l ih=>intro G H C;rw [List.foldl_cons];exact ih _ (H.add _ _) (C.add H _ _)
 exact key l _ (ju k root) (DM.root k root)
theorem O6(H:fp k G){p y:HT}(hp:mh G.D p y):jF G.D G.P (G.fM y).gQ y:=by
 obtain⟨i,jj,m',nd',rf,ny,om,e1,e2,_⟩:=hp.at_ H.W;have hP:=(lgeS om).1;obtain⟨pz,Kx⟩:∃pz,G.P[jj]? =some pz:=⟨_,List.getElem?_eq_getElem (by rw [H.gQ.len];exact hP)⟩;obtain⟨j2,m2,rfl,_,Jh,abZ⟩:=H.gQ.up jj pz nd' (by omega) Kx om;have hs:jF G.D G.P m2.id y:=⟨jj,j2,nd',m2,om,e2,Kx,Jh,rfl⟩;have:=(H.up _ _ hs).1;rw [this];exact hs
theorem Fx(H:fp k G){s y:HT}(hs:jF G.D G.P s y):G.score s<G.score y:=by
 have hy:eB G.D s y:=.one (hs.par H.gQ);obtain⟨m1,m2⟩:=hy.mem H.W;rw [(H.wd s m1).2.2,(H.wd y m2).2.2,(H.up s y hs).2.1];simp only [List.length_append,List.length_cons,List.length_nil];omega
theorem xL(C:DM k G)(H:fp k G){p y:HT}(hp:mh G.D p y):G.score p<G.score y:=
 Nat.lt_of_le_of_lt (C.mx y p hp) (Fx H (O6 H hp))
theorem sZ(C:DM k G)(H:fp k G){a y:HT}(h:eB G.D a y):G.score a<G.score y:=by
 induction h with
 |one hp=>exact xL C H hp
 |more _ hp ih=>exact Nat.lt_trans ih (xL C H hp)
theorem FU(C:DM k G)(H:fp k G){s y z:HT}(hs:jF G.D G.P s y)(hz:z∈(G.fM y).merge):mi G.D z s:=by
 obtain⟨e,_,_,_,hm⟩:=H.up s y hs;obtain⟨h1,h2,h3⟩:=(hm z).1 hz;refine⟨h2,h3,fun h4=>?_⟩;have l1:=sZ C H h4;obtain⟨p,hp,hzp⟩:∃p,mh G.D p y/\(z=p\/eB G.D z p):=by
  cases h1 with
  |one hp=>exact⟨z,hp,.inl rfl⟩
  |more ha hp=>exact⟨_,hp,.inr ha⟩
 have l2:=C.mx y p hp;rw [e]at l2;rcases hzp with rfl|ha
 ·omega
 ·have:=sZ C H ha
  omega
theorem Cy{l m:List HT}(hl:l.Nodup)(hm:m.Nodup)(h:∀x,x∈l↔x∈m):l.length=m.length:=
 Nat.le_antisymm (cZ hl fun x hx=>(h x).1 hx) (cZ hm fun x hx=>(h x).2 hx)
end
structure Sub(G G':GS):Prop where
 D:∀nd∈G.D,nd∈G'.D
 W:jG G.D
 W':jG G'.D
 cw:∀y∈ids G.D,G.fM y=G'.fM y/\G.world y=G'.world y
section
variable{k:Nat}{G G':GS}{s:HT}{l:List HT}
theorem Sub.ids(S:Sub G G'){y:HT}(h:y∈ids G.D):y∈Proofs.YtfleamccglihoaaGreatDoor.ids G'.D:=by
 obtain⟨nd,h1,rfl⟩:=cS.1 h;exact cS.2 ⟨nd,S.D nd h1,rfl⟩
theorem jG.one{D:DG}(W:jG D){a b:DN}(ha:a∈D)(hb:b∈D)(e:a.id=b.id):a=b:=by
 obtain⟨i,hi⟩:=List.mem_iff_getElem?.1 ha;obtain⟨j,hj⟩:=List.mem_iff_getElem?.1 hb;have:=W.inj hi hj e;subst this;rw [hi]at hj;exact Option.some.inj hj
theorem Sub.par(S:Sub G G'){a b:HT}(hb:b∈Proofs.YtfleamccglihoaaGreatDoor.ids G.D):mh G.D a b↔mh G'.D a b:=by
 constructor
 ·rintro⟨nd,h1,h2,h3⟩
  exact⟨nd,S.D nd h1,h2,h3⟩
 ·rintro⟨nd,h1,h2,h3⟩
  obtain⟨nd',h4,h5⟩:=cS.1 hb;have:=S.W'.one h1 (S.D nd' h4) (h2.trans h5.symm);subst this;exact⟨nd,h4,h2,h3⟩
theorem Sub.zr(S:Sub G G'){a b:HT}(hb:b∈Proofs.YtfleamccglihoaaGreatDoor.ids G.D):eB G.D a b↔eB G'.D a b:=by
 constructor
 ·intro h
  clear hb
  induction h with
  |one hp=>exact .one ((S.par ((eB.one hp).mem S.W).2).1 hp)
  |more _ hp ih=>exact .more ih ((S.par ((eB.one hp).mem S.W).2).1 hp)
 ·intro h
  induction h with
  |one hp=>exact .one ((S.par hb).2 hp)
  |more _ hp ih=>
   have C0:=(S.par hb).2 hp;exact .more (ih ((eB.one C0).mem S.W).1) C0
theorem Sub.Su(S:Sub G G'){a b:HT}(ha:a∈Proofs.YtfleamccglihoaaGreatDoor.ids G.D)(hb:b∈Proofs.YtfleamccglihoaaGreatDoor.ids G.D):mi G.D a b↔mi G'.D a b:=by
 unfold mi;rw [S.zr hb,S.zr ha]
theorem Sub.gl(S:Sub G G'){a b:HT}(ha:a∈Proofs.YtfleamccglihoaaGreatDoor.ids G.D)(hb:b∈Proofs.YtfleamccglihoaaGreatDoor.ids G.D):Proofs.YtfleamccglihoaaGreatDoor.gl G a b=Proofs.YtfleamccglihoaaGreatDoor.gl G' a b:=by
 unfold Proofs.YtfleamccglihoaaGreatDoor.gl GS.score;rw [(S.cw a ha).1,(S.cw b hb).1]
theorem Sub.pZ(S:Sub G G')(hs:s∈Proofs.YtfleamccglihoaaGreatDoor.ids G.D)(hl:∀p∈l,p∈Proofs.YtfleamccglihoaaGreatDoor.ids G.D)(x:HT):x∈Proofs.YtfleamccglihoaaGreatDoor.pZ G.D s l↔x∈Proofs.YtfleamccglihoaaGreatDoor.pZ G'.D s l:=by
 rw [nX,nX,S.zr hs];constructor
 ·rintro⟨h,h2⟩
  refine⟨h.imp_left ?_,h2⟩;rintro⟨h3,p,hp,h4⟩;exact⟨S.ids h3,p,hp,(S.zr (hl p hp)).1 h4⟩
 ·rintro⟨h,h2⟩
  refine⟨h.imp_left ?_,h2⟩;rintro⟨h3,p,hp,h4⟩;have:=(S.zr (hl p hp)).2 h4;exact⟨(this.mem S.W).1,p,hp,this⟩
theorem tm(hl:∀p∈l,p∈ids G.D){x:HT}(h:x∈cG G s l):x∈ids G.D:=by
 rcases iX.1 h with⟨h|h,_⟩
 ·exact h.1
 ·exact hl x h
theorem Sub.cG(S:Sub G G')(hs:s∈Proofs.YtfleamccglihoaaGreatDoor.ids G.D)(hl:∀p∈l,p∈Proofs.YtfleamccglihoaaGreatDoor.ids G.D):Proofs.YtfleamccglihoaaGreatDoor.cG G s l=Proofs.YtfleamccglihoaaGreatDoor.cG G' s l:=by
 refine nW ?_ fun x=>?_
 ·refine List.Pairwise.imp_of_mem (fun {a b} ha hb h=>?_) (jM G s l)
  rw [<-S.gl (tm hl ha) (tm hl hb)];exact h
 ·rw [<-S.pZ hs hl]
  unfold Proofs.YtfleamccglihoaaGreatDoor.cG;exact nY
theorem Sub.MY(S:Sub G G'){wd:List HT}(hw:∀y∈wd,y∈Proofs.YtfleamccglihoaaGreatDoor.ids G.D){b:HT}(hb:b∈Proofs.YtfleamccglihoaaGreatDoor.ids G.D):bS G.D wd b=bS G'.D wd b:=
 mq fun a ha=>S.Su (hw a ha) hb
theorem Sub.blue(S:Sub G G'){wd:List HT}(hw:∀y∈wd,y∈Proofs.YtfleamccglihoaaGreatDoor.ids G.D){b:HT}(hb:b∈Proofs.YtfleamccglihoaaGreatDoor.ids G.D):mf k G.D wd b=mf k G'.D wd b:=by
 unfold mf;rw [S.MY hw hb,decide_eq_decide];refine and_congr Iff.rfl ?_;refine forall_congr' fun y=>forall_congr' fun hy=>?_;rw [S.MY hw (hw y (eF.1 hy).1)]
theorem Sub.fold(S:Sub G G'):∀(m:List HT) (st:VS),(∀y∈m,y∈Proofs.YtfleamccglihoaaGreatDoor.ids G.D)->(∀y∈st.wd,y∈Proofs.YtfleamccglihoaaGreatDoor.ids G.D)->m.foldl (jV k G.D) st=m.foldl (jV k G'.D) st
 | [],_,_,_=>rfl
 |x::m,st,hm,hw=>by
  have hx:=hm x List.mem_cons_self;have e:jV k G.D st x=jV k G'.D st x:=by unfold jV;rw [S.blue hw hx]
  rw [List.foldl_cons,List.foldl_cons,<-e];refine Sub.fold S m _ (fun y hy=>hm y (List.mem_cons_of_mem _ hy)) fun y hy=>?_;unfold jV at hy;simp only at hy;split at hy
  ·rcases List.mem_append.1 hy with hy|hy
   ·exact hw y hy
   ·rw [List.mem_singleton.1 hy];exact hx
  ·exact hw y hy
theorem Sub.view(S:Sub G G')(H:fp k G)(hs:s∈Proofs.YtfleamccglihoaaGreatDoor.ids G.D)(hl:∀p∈l,p∈Proofs.YtfleamccglihoaaGreatDoor.ids G.D):dP k G s l=dP k G' s l/\cX k G s l=cX k G' s l:=by
 have e:dP k G s l=dP k G' s l:=by
  unfold dP;rw [<-S.cG hs hl,<-(S.cw s hs).2];refine S.fold _ _ (fun y hy=>tm hl hy) fun y hy=>?_;rcases List.mem_append.1 hy with hy|hy
  ·exact(((H.wd s hs).2.1 y hy).mem H.W).1
  ·rw [List.mem_singleton.1 hy];exact hs
 refine⟨e,?_⟩;unfold cX;rw [e,S.cG hs hl];unfold GS.score;rw [(S.cw s hs).1]
theorem pI{G:GS}:∀ {l:List HT} {p:HT},p∈l->gl G (bU G l) p=false
 |x::l,p,hp=>by
  have key:∀(l:List HT) (b:HT),gl G (l.foldl (fun b y=>if gl G b y then y else b) b) b=false/\∀p∈l,gl G (l.foldl (fun b y=>if gl G b y then y else b) b) p=false:=by
   intro l
   induction l with
   |nil=>intro b;exact⟨mF G b,fun p hp=>by cases hp⟩
   |cons y l ih=>
    intro b;rw [List.foldl_cons];obtain⟨h1,h2⟩:=ih (if gl G b y then y else b);cases hg:gl G b y with
    |true=>
     rw [hg,if_pos rfl]at h1 h2;rw [if_pos rfl];refine⟨?_,fun p hp=>?_⟩
     ·cases hx:gl G (l.foldl (fun b y=>if gl G b y then y else b) y) b with
      |false=>rfl
      |true=>rw [mT hx hg]at h1;cases h1
     ·rcases List.mem_cons.1 hp with rfl|hp
      ·exact h1
      ·exact h2 p hp
    |false=>
     rw [hg,if_neg (by simp)]at h1 h2;rw [if_neg (by simp)];refine⟨h1,fun p hp=>?_⟩;rcases List.mem_cons.1 hp with rfl|hp
     ·cases hx:gl G (l.foldl (fun b y=>if gl G b y then y else b) b) p with
      |false=>rfl
      |true=>
       cases hy:gl G p b with
       |true=>rw [mT hx hy]at h1;cases h1
       |false=>
        have e:=mU hg hy;rw [<-e]at hx;rw [hx]at h1;cases h1
     ·exact h2 p hp
  obtain⟨h1,h2⟩:=key l x;show gl G (l.foldl (fun b y=>if gl G b y then y else b) x) p=false
  rcases List.mem_cons.1 hp with rfl|hp
  ·exact h1
  ·exact h2 p hp
theorem vn{G:GS}{l:List HT}{x:HT}(hx:x∈l)(h:∀p∈l,gl G x p=false):bU G l=x:=by
 have fD:l≠ []:=fun e=>by rw [e]at hx;cases hx
 exact mU (pI hx) (h _ (gK fD))
theorem Sub.gQ(S:Sub G G')(hl:∀p∈l,p∈Proofs.YtfleamccglihoaaGreatDoor.ids G.D)(h0:l≠ []):bU G l=bU G' l:=by
 have hm:=gK (G:=G') h0;refine vn hm fun p hp=>?_;rw [S.gl (hl _ hm) (hl p hp)];exact pI hp
theorem KZ{G:GS}(h0:l≠ []):bU G (dA l)=bU G l:=by
 have hm:=gK (G:=G) h0;exact vn (dt.2 hm) fun p hp=>pI (dt.1 hp)
theorem vM{G:GS}:cG G s (dA l)=cG G s l:=by
 refine nW (jM _ _ _) fun x=>?_;rw [iX,nX];simp only [dt]
theorem Hx{G:GS}:dP k G s (dA l)=dP k G s l/\cX k G s (dA l)=cX k G s l:=by
 have e:dP k G s (dA l)=dP k G s l:=by unfold dP;rw [vM]
 refine⟨e,?_⟩;unfold cX;rw [e,vM]
def Own(k:Nat)(G:GS):Prop:=∀nd∈G.D,nd.ps≠ []->G.fM nd.id=cX k G (bU G nd.ps) nd.ps/\G.world nd.id=(dP k G (bU G nd.ps) nd.ps).wd
theorem KV(H:fp k G)(h:HT)(ps:List HT):Sub G (dh k G h ps):=by
 refine⟨fun nd ft=>?_,H.W,(H.add h ps).W,fun y hy=>⟨(iH H hy).1.symm,(iH H hy).2.symm⟩⟩;by_cases hc:dF G.D h ps=0
 ·rw [jZ hc];exact List.mem_append_left _ ft
 ·rw [oU hc];exact ft
theorem Tl(W:jG G.D){nd:DN}(h:nd∈G.D):∀p∈nd.ps,p∈ids G.D:=fun p hp=>((eB.one ⟨nd,h,rfl,hp⟩).mem W).1
theorem Own.add(O:Own k G)(H:fp k G)(h:HT)(ps:List HT):Own k (dh k G h ps):=by
 by_cases hc:dF G.D h ps=0
 ·have S:=KV H h ps
  obtain⟨hn,fD,ft,oY⟩:=km hc;have Gn:∀p∈ps,p∈ids G.D:=fun p hp=>oY p (dt.2 hp);intro nd hm h0;have eD:(dh k G h ps).D=G.D++ [⟨h,dA ps⟩]:=by rw [jZ hc]
  rw [eD]at hm;rcases List.mem_append.1 hm with hm|hm
  ·have fQ:=Tl H.W hm
   have hi:nd.id∈ids G.D:=cS.2 ⟨nd,hm,rfl⟩;obtain⟨o1,o2⟩:=O nd hm h0;have wP:=fQ _ (gK (G:=G) h0);obtain⟨v1,v2⟩:=S.view H wP fQ;rw [(iH H hi).1,(iH H hi).2,<-S.gQ fQ h0,<-v1,<-v2];exact⟨o1,o2⟩
  ·have:nd=⟨h,dA ps⟩:=by simpa using hm
   subst this;obtain⟨q1,q2⟩:=lV H hc;have wP:=Gn _ (gK (G:=G) fD);obtain⟨v1,v2⟩:=S.view H wP Gn;obtain⟨s1,s2⟩:=Hx (k:=k) (G:=dh k G h ps) (s:=bU G ps) (l:=ps);simp only;rw [KZ fD,<-S.gQ Gn fD,q1,q2,s1,s2,v1,v2];exact⟨rfl,rfl⟩
 ·rw [oU hc];exact O
theorem GM(k:Nat)(root:HT)(l:List DN):Own k (wI k root l):=by
 have key:∀(l:List DN) (G:GS),fp k G->Own k G->Own k (l.foldl (fun G s=>dh k G s.id s.ps) G):=by
  intro l
  induction l with
  |nil=>intro G _ C;exact C
  |cons s l ih=>intro G H C;rw [List.foldl_cons];exact ih _ (H.add _ _) (C.add H _ _)
 refine key l _ (ju k root) fun nd ft h0=>?_;have:nd=⟨root,[]⟩:=by simpa [dg]using ft
 subst this;exact absurd rfl h0
end
def fP(G:GS):List HT->List HT
 | []=> []
 | [_]=> []
 |x::y::l=>fP G (y::l)++((G.fM x).gQ::(G.fM x).merge)
section
variable{k:Nat}{G:GS}{h:HT}{l:List HT}
theorem cF.cons{D:DG}{P:List Int}(W:jG D)(H:rR D P){h:HT}{l:List HT}(hm:h∈ids D)(c:cF D P h l):∃r,l=h::r:=by
 rcases c.inv W H hm with⟨e,_⟩|⟨_,r,e,_⟩
 ·exact⟨[],e⟩
 ·exact⟨r,e⟩
theorem sd(H:fp k G)(hm:h∈ids G.D)(c:cF G.D G.P h l):(fP G l= []/\(∃nd,G.D[0]? =some nd/\nd.id=h)/\l= [h])\/∃s r,l=h::r/\jF G.D G.P s h/\s∈ids G.D/\cF G.D G.P s r/\fP G l=fP G r++s::(G.fM h).merge:=by
 rcases c.inv H.W H.gQ hm with⟨rfl,e⟩|⟨s,r,rfl,hs,wP,cs⟩
 ·exact .inl ⟨rfl,e,rfl⟩
 ·obtain⟨r',rfl⟩:=cs.cons H.W H.gQ wP
  refine .inr ⟨s,s::r',rfl,hs,wP,cs,?_⟩;show fP G (s::r')++((G.fM h).gQ::(G.fM h).merge)=_
  rw [(H.up s h hs).1]
theorem ud(H:fp k G){nd:DN}(h0:G.D[0]? =some nd)(a:HT):¬eB G.D a nd.id:=fun ha=>by
 rcases(sI H.W h0 a).1 ha with⟨p,hp,_⟩;obtain⟨j,_,hj,_⟩:=H.W.up 0 nd p h0 hp;omega
theorem se(C:DM k G)(O:Own k G)(H:fp k G):∀(l:List HT) (h:HT),h∈ids G.D->cF G.D G.P h l->(fP G l).Nodup/\(∀x,x∈fP G l↔eB G.D x h)/\(fP G l).Pairwise fun a b=>¬eB G.D b a
 | [],h,hm,c=>by
   obtain⟨r,e⟩:=c.cons H.W H.gQ hm;cases e
 |x::l,h,hm,c=>by
  rcases sd H hm c with⟨e,⟨nd,h0,rfl⟩,_⟩|⟨s,r,el,hs,wP,cs,e⟩
  ·rw [e]
   exact⟨List.nodup_nil,fun x=>⟨fun hx=>(by cases hx),fun hx=>absurd hx (ud H h0 x)⟩,List.Pairwise.nil⟩
  ·have er:r=l:=by cases el;rfl
   subst er;obtain⟨i1,i2,i3⟩:=se C O H r s wP cs;obtain⟨e1,_,_,ft,Yw⟩:=H.up s h hs;have hsh:eB G.D s h:=.one (hs.par H.gQ);have CQ:SO G (G.fM h).merge:=by
    obtain⟨i,j,ni,mm,g1,g2,g3,g4,g5⟩:=hs;have LW:=List.mem_of_getElem? g1;have h0:ni.ps≠ []:=fun e0=>by
     have:mh G.D s h:=(jF.par H.gQ ⟨i,j,ni,mm,g1,g2,g3,g4,g5⟩);obtain⟨nd',Vn,hid,hp⟩:=this;have:=H.W.one Vn LW (hid.trans g2.symm);subst this;rw [e0]at hp;cases hp
    have:=(O ni LW h0).1;rw [g2]at this;rw [this];exact jM G _ _
   rw [e];refine⟨?_,fun x=>?_,?_⟩
   ·refine List.nodup_append.2 ⟨i1,List.nodup_cons.2 ⟨fun hx=>((Yw s).1 hx).2.1 rfl,ft⟩,?_⟩
    intro a ha b hb eab;subst eab;have h1:=(i2 a).1 ha;rcases List.mem_cons.1 hb with rfl|hb
    ·exact eB.irrefl H.W _ h1
    ·exact((Yw a).1 hb).2.2 h1
   ·rw [List.mem_append,List.mem_cons,i2,Yw]
    constructor
    ·rintro(hx|rfl|hx)
     ·exact hx.trans hsh
     ·exact hsh
     ·exact hx.1
    ·intro hx
     by_cases h1:x=s
     ·exact .inr (.inl h1)
     ·by_cases h2:eB G.D x s
      ·exact .inl h2
      ·exact .inr (.inr ⟨hx,h1,h2⟩)
   ·refine List.pairwise_append.2 ⟨i3,List.pairwise_cons.2 ⟨fun y hy ha=>?_,?_⟩,?_⟩
    ·exact(FU C H hs hy).2.1 ha
    ·refine List.Pairwise.imp (fun {a b} lE ha=>?_) CQ
     have h1:=sZ C H ha;simp only [gl,Bool.or_eq_true,Bool.and_eq_true,decide_eq_true_eq]at lE;omega
    ·intro a ha b hb Sj
     have h1:=(i2 a).1 ha;rcases List.mem_cons.1 hb with rfl|hb
     ·exact eB.asymm H.W h1 Sj
     ·exact((Yw b).1 hb).2.2 (Sj.trans h1)
theorem K8(C:DM k G)(O:Own k G)(H:fp k G)(hm:h∈ids G.D)(c:cF G.D G.P h l):(fP G l).length=(dG G.D [h]).length/\dA (fP G l)=dG G.D [h]:=by
 obtain⟨h1,h2,_⟩:=se C O H l h hm c;have hp:∀x,x∈fP G l↔x∈dG G.D [h]:=fun x=>by
  unfold dG;rw [h2,jv];simp only [List.mem_singleton,exists_eq_left];exact⟨fun h=>⟨(h.mem H.W).1,h⟩,fun h=>h.2⟩
 refine⟨Cy h1 (iL _).nodup hp,?_⟩;rw [yF hp];exact zW (iL _)
end
section
variable{k:Nat}{G:GS}{h:HT}{l:List HT}
def jr(G:GS)(x:HT):List HT:=(G.fM x).gQ::(G.fM x).merge
theorem xS{x:HT}{l:List HT}(h:l≠ []):fP G (x::l)=fP G l++jr G x:=by
 cases l with
 |nil=>exact absurd rfl h
 |cons y l=>rfl
theorem qC:∀l:List HT,fP G l=(l.reverse.drop 1).flatMap (jr G)
 | []=>rfl
 | [x]=>rfl
 |x::y::l=>by
  have e:(x::y::l).reverse=(y::l).reverse++ [x]:=List.reverse_cons;rw [xS (by simp),qC (y::l),e,List.drop_append_of_le_length (by simp),List.flatMap_append];simp
theorem FO{l:List HT}{i:Nat}{x:HT}(hx:l[i]? =some x)(hi:i+1<l.length):fP G (l.drop i)=fP G (l.drop (i+1))++jr G x:=by
 have cU:i<l.length:=by omega
 rw [List.drop_eq_getElem_cons cU];have e:l[i]=x:=(lgeS hx).2;rw [e];refine xS fun e=>?_;have:=congrArg List.length e;rw [List.length_drop,List.length_nil]at this;omega
theorem FN{l:List HT}(h:l≠ []):fP G (l.drop (l.length-1))= []:=by
 have hl:=List.length_pos_iff.2 h;rw [List.drop_eq_getElem_cons (by omega:l.length-1<l.length),List.drop_of_length_le (by omega)];rfl
end
section
variable{w w':World}{K:Value->World->Prop}{B n cx b:Nat}{A:Option Addr}{F:Nat->Prop}{c k:Nat}{G:GS}{m:CM}{l:List HT}
theorem HV{l dk:List HT}{n i:Nat}(hn:l.length=n)(hd:dk.length=n)(rf:i<n-1-i)(h:∀t,t<n->dk[t]? =if t<i\/n-1-i<t then l.reverse[t]? else l[t]?){x y:HT}(hx:dk[i]? =some x)(hy:dk[n-1-i]? =some y):
 ∀t,t<n->((dk.set i y).set (n-1-i) x)[t]? =if t<i+1\/n-1-(i+1)<t then l.reverse[t]? else l[t]? :=by
 have e1:=h i (by omega);rw [if_neg (by omega),hx]at e1;have e2:=h (n-1-i) (by omega);rw [if_neg (by omega),hy]at e2;intro t ht;by_cases h1:t=n-1-i
 ·subst h1
  rw [List.getElem?_set_self (by simp;omega),if_pos (by omega),List.getElem?_reverse (by omega),show l.length-1-(n-1-i)=i by omega];exact e1
 ·rw [List.getElem?_set_ne (by omega)]
  by_cases h2:t=i
  ·subst h2
   rw [List.getElem?_set_self (by omega),if_pos (by omega),List.getElem?_reverse (by omega),show l.length-1-t=n-1-t by omega];exact e2
  ·rw [List.getElem?_set_ne (by omega),h t ht]
   by_cases h3:t<i\/n-1-i<t
   ·rw [if_pos h3,if_pos (by omega)]
   ·rw [if_neg h3,if_neg (by omega)]
theorem bM.at0{v:World}{l:List HT}(hr:bM v B (some ⟨b,0,none⟩) n cx l){i:Nat}{x:HT}(hx:l[i]? =some x):Cells v ((⟨b,0,none⟩:Addr).add (i*32)) x.1:=by
 obtain⟨a,h1,_,h3⟩:=(bM.hs hr).at_ i x hx;cases h1;exact h3
theorem Cu(row:bM w B A n cx l)(hn:n<=1000000)(hK:∀w',bM w' B A n cx l.reverse->Kept (fun j=>bn A=some j) w w'->K (.tuple #[]) w'):
 bz prog aL.id #[.slice A n cx] w K:=by
 have hlen:=row.len;refine aL.of ?_;unfold aL.W;rw [gP (x:=(n:Int)-1) (by omega) (by omega)];refine aL.cy (I:=fun s v=>∃(i:Nat) (dk:List HT),s=((i:Int),(n:Int)-1-i)/\i<=n/\bM v B A n cx dk/\(∀t,t<n->dk[t]? =if t<i\/n-1-i<t then l.reverse[t]? else l[t]?)/\Kept (fun j=>bn A=some j) w v) (μ:=fun s _=>(s.2+1-s.1).toNat) (s:=(0,(n:Int)-1)) ⟨0,l,by simp,Nat.zero_le _,row,fun t ht=>by rw [if_neg (by omega)],Kept.refl _ _⟩ ?_;rintro⟨_,_⟩ v ⟨i,dk,e,hi,hr,Wm,kv⟩;cases e;have YC:=hr.len;unfold aL.B1;refine Split.dec (fun cU=>?_) (fun gE=>?_)
 ·simp only at cU
  have abP:i<n-1-i:=by omega
  obtain⟨b,rfl⟩:=Row.some hr (by omega);intro w3;have k3:Kept Nil v w3:=(Kept.refl _ _).drew;clear_value w3;have um:bM w3 B (some ⟨b,0,none⟩) n cx dk:=Row.aF hr k3 (fun _ _ h=>h);obtain⟨x,hx⟩:∃x,dk[i]? =some x:=⟨_,List.getElem?_eq_getElem (by omega)⟩;obtain⟨y,hy⟩:∃y,dk[n-1-i]? =some y:=⟨_,List.getElem?_eq_getElem (by omega)⟩;have ej:((n:Int)-1-(i:Int))=((n-1-i:Nat):Int):=by omega
  have r1:bM (setCells w3 ⟨b,i*32,none⟩ y.1.toList 0) B (some ⟨b,0,none⟩) n cx (dk.set i y):=bM.setAt um (by omega) y;have r2:bM (setCells (setCells w3 ⟨b,i*32,none⟩ y.1.toList 0) ⟨b,(n-1-i)*32,none⟩ x.1.toList 0) B (some ⟨b,0,none⟩) n cx ((dk.set i y).set (n-1-i) x):=bM.setAt r1 (by omega) x;have kk:Kept (· =b) w3 (setCells (setCells w3 ⟨b,i*32,none⟩ y.1.toList 0) ⟨b,(n-1-i)*32,none⟩ x.1.toList 0):=(fu _ _ _ _).tt (fu _ _ _ _);have c1:=bM.at0 um hx;have c2:=bM.at0 um hy;have w1:=bM.Hq um (k:=i) (by omega);have w2:=bM.Hq r1 (k:=n-1-i) (by omega);simp-zeta only [ej,Int.toNat_natCast];simp only [bt]at c1 c2;simp-zeta only [bt,Nat.zero_add]at*;refine⟨⟨by omega,by omega⟩,Is.mk rfl ⟨y.1,⟨y.2.1,by simp only [bt,Nat.zero_add];exact c2⟩,⟨by omega,by omega⟩,Is.mk rfl ⟨x.1,⟨x.2.1,by simp only [bt,Nat.zero_add];exact c1⟩,⟨by omega,by omega⟩,Is.mk rfl ⟨⟨y.2.1,y.2.one,fun o ho=>by have:=w1 o ho;simpa only [bt,Nat.zero_add]using this⟩,?_⟩⟩⟩⟩;simp-zeta only [bt,Nat.zero_add];intro p;refine⟨⟨by omega,by omega⟩,Is.mk rfl ⟨⟨x.2.1,x.2.one,fun o ho=>by have:=w2 o ho;simpa only [bt,Nat.zero_add]using this⟩,?_⟩⟩;simp-zeta only [bt,Nat.zero_add];intro u;rw [dH (n:=(i:Int)) (by omega) (by omega),gP (by omega) (by omega)];refine⟨((i:Int)+1,((n-1-i:Nat):Int)-1),rfl,⟨i+1,_,by rw [Prod.mk.injEq];exact⟨by omega,by omega⟩,by omega,r2,HV hlen YC abP Wm hx hy,?_⟩,by simp only;omega⟩;exact kv.trans ((k3.mono fun _ _ h=>h.elim).tt kk) (fun j _ e=>by rw [e];rfl)
 ·simp only at gE
  rw [aS,aL.dq];unfold aL.cV;have e:dk=l.reverse:=List.ext_getElem? fun t=>by
   by_cases ht:t<n
   ·rw [Wm t ht]
    by_cases h1:t<i\/n-1-i<t
    ·rw [if_pos h1]
    ·rw [if_neg h1,List.getElem?_reverse (by omega),show l.length-1-t=t by omega]
   ·rw [List.getElem?_eq_none (by omega),List.getElem?_eq_none (by simp;omega)]
  rw [<-e]at hK;exact hK v hr kv
theorem CV.TB(h:CV w F c k G m){y:HT}(hy:y∉ids G.D):(Instr.lookup dO (.map (some m.mb)) (.agg y.1) false).run prog w=.ok (.pointer none) w:=by
 have:=h.look y;rwa [if_neg hy]at this
theorem Dj(h:CV w F c k G m){a:HT}(ha:a∉ids G.D)(hK:∀w',Kept Nil w w'->K (.tuple #[.agg (cQ ⟨dz,0,[],[]⟩ none 0 0 none 0 0),.int .i64 6]) w'):
 bz prog dp.id #[.pointer (some ⟨c,0,none⟩),.agg a.1] w K:=by
 refine dp.of ?_;unfold dp.W;intro w1 w2;have k1:Kept Nil w w1:=(Kept.refl _ _).alloc _;have uV:w1.heap[w.heap.size]? =some (.cells a.1 ag (0,0)):=aI w _;have k2:Kept Nil w1 w2:=(Kept.refl _ _).alloc _;have jP:w2.heap[w1.heap.size]? =some (.cells zC br (0,0)):=aI w1 _;clear_value w2;have Df:=k2.heap uV (fun h=>h);have jS:=k1.tt k2;have s1:=k1.size;have l1:=aV uV;clear_value w1;refine nD (h.same jS) ⟨true,rfl,Split.no rfl ?_⟩;intro w3;have k3:Kept Nil w2 w3:=(Kept.refl _ _).drew;clear_value w3;have h3:=h.same (jS.tt k3);have um:=k3.heap jP (fun h=>h);have zs:(zC:Array Value)=cQ ⟨dz,0,[],[]⟩ none 0 0 none 0 0:=rfl;obtain⟨t1,t2,t3⟩:=dR um (cs:=zC) rfl;refine Is.mk rfl ⟨_,h3.c2,a.1,⟨a.2.1,Cells.bJ (k3.heap Df (fun h=>h))⟩,_,h3.TB ha,Split.yes rfl ⟨⟨rfl,by rw [zs];exact dZ _ _ _ _ _ _ _,fun j hj=>t1 j hj⟩,?_⟩⟩;exact⟨_,⟨rfl,Cells.bJ t2⟩,hK _ ((jS.tt k3).trans t3 (fun j hj e=>by omega))⟩
open Classical in
noncomputable def Ib(D:DG)(l:List HT):Int:=if ∃x∈l,x∉ids D then 6 else 0
theorem nZ{D:DG}{l:List HT}(h:∀x∈l,x∈ids D):Ib D l=0:=by unfold Ib;rw [if_neg];rintro⟨x,hx,e⟩;exact e (h x hx)
theorem qD{D:DG}{l:List HT}{x:HT}(hx:x∈l)(e:x∉ids D):Ib D l=6:=by unfold Ib;rw [if_pos ⟨x,hx,e⟩]
set_option maxHeartbeats 1000000 in
theorem lu(h:CV w F c k G m)(hD:G.D.length<=5000)(hl:HS w A n l)(hn:n<=1000000)(hK:∀w',Kept Nil w w'->K (.int .i64 (Ib G.D l)) w'):
 bz prog cH.id #[.pointer (some ⟨c,0,none⟩),.slice A n cx] w K:=by
 have hlen:=hl.len;refine cH.of ?_;unfold cH.W;refine uo h ⟨_,rfl,?_⟩;obtain⟨mx,X,_⟩:=h.X;refine gq.of (Split.no rfl (Is.mk rfl ⟨_,X.c0,⟨_,rfl,Split.no rfl ?_⟩⟩));refine cH.cy (I:=fun s v=>∃i:Nat,s=(0,(i:Int))/\i<=n/\(∀x∈l.take i,x∈ids G.D)/\Kept Nil w v) (μ:=fun s _=>((n:Int)-s.2).toNat) (s:=(0,0)) ⟨0,rfl,Nat.zero_le _,by simp,Kept.refl _ _⟩ ?_;rintro⟨_,_⟩ v ⟨i,e,hi,fQ,kv⟩;cases e;unfold cH.B1;refine Split.dec (fun cU=>?_) (fun gE=>?_)
 ·simp only at cU
  have dY:i<n:=by omega
  obtain⟨x,hx⟩:∃x,l[i]? =some x:=⟨_,List.getElem?_eq_getElem (by omega)⟩;refine(hl.same kv).load (i:=(i:Int)) (x:=x) (by omega) (by rw [Int.toNat_natCast];exact hx) ?_;intro w3;obtain⟨tz,jT,kL⟩:=iu (w:=v) (z:=dz.1) (cs:=x.1) (t:=ag) (by rw [x.2.1];rfl);refine⟨⟨x.2.1,x.2.one,fun j hj=>tz j (by rw [x.2.1];exact hj)⟩,?_⟩;intro w4
  replace jT:w4.heap[v.heap.size]? =some (.cells x.1 ag (0,0)):=jT
  replace kL:Kept Nil v w4:=kL
  clear_value w4;have np:=kv.tt kL;refine⟨x.1,⟨x.2.1,Cells.bJ jT⟩,?_⟩;have fin:∀ {u:World} {C:oE} {A1 E1:Option Addr} {n1 p1 e1 q1:Nat} {Z:Prop},Kept Nil w u->(∀u',Kept Nil w u'->u'=setCells (u.alloc (.cells zC br)) ⟨u.heap.size,0,none⟩ (cQ C A1 n1 p1 E1 e1 q1).toList 0->Z)->
   ((cQ C A1 n1 p1 E1 e1 q1).size=35/\(∀x∈(cQ C A1 n1 p1 E1 e1 q1).toList,x.oneCell'=true)/\∀y,y<35->Wr (u.alloc (.cells zC br)) ((aR u.heap.size).add y))/\Z:=by
   intro u C A1 E1 n1 p1 e1 q1 Z ku hz;have IN:(u.alloc (.cells zC br)).heap[u.heap.size]? =some (.cells zC br (0,0)):=aI u _;obtain⟨t1,t2,t3⟩:=dR IN (cs:=cQ C A1 n1 p1 E1 e1 q1) (by rw [a8];rfl);exact⟨⟨a8 ..,dZ _ _ _ _ _ _ _,fun j hj=>t1 j (by rw [a8];exact hj)⟩,hz _ ((ku.alloc _).trans t3 (fun j hj e=>by have:=ku.size;omega)) rfl⟩
  by_cases hm:x∈ids G.D
  ·refine ym (h.same np) hD hm fun A5 n5 c5 E5 e5 d5 w5 _ _ _ k5=>⟨_,_,rfl,?_⟩
   intro w6;refine fin (np.tt k5) fun u' Kr eu=>?_;intro w7;refine Split.no rfl ?_;have e7:w7=u':=eu.symm;rw [e7,dH (n:=(i:Int)) (by omega) (by omega)];refine⟨(0,(i:Int)+1),rfl,⟨i+1,rfl,dY,fun y hy=>?_,Kr⟩,by simp only;omega⟩;rcases(bN hx).1 hy with hy|rfl
   ·exact fQ y hy
   ·exact hm
  ·refine Dj (h.same np) hm fun w5 k5=>⟨_,_,rfl,?_⟩
   intro w6;refine fin (np.tt k5) fun u' Kr eu=>?_;intro w7;refine Split.yes rfl ?_;have e7:w7=u':=eu.symm;rw [e7];have:=hK u' Kr;rw [qD (List.mem_of_getElem? hx) hm]at this;exact this
 ·simp only at gE
  rw [aS,cH.dq];rw [List.take_of_length_le (by omega)]at fQ;have:=hK v kv;rw [nZ fQ]at this;exact this
theorem pU(h:CV w F c k G m)(hD:G.D.length<=5000){a:HT}(ha:a∈ids G.D)(hc:cF G.D G.P a l)(hK:∀A cx w',bM w' w.heap.size A l.length cx l.reverse->Kept Nil w w'->K (.slice A l.length cx) w'):
 bz prog iM.id #[.pointer (some ⟨c,0,none⟩),.agg a.1] w K:=by
 refine iM.of ?_;unfold iM.W;intro w1 w2;have k1:Kept Nil w w1:=(Kept.refl _ _).alloc _;have uV:w1.heap[w.heap.size]? =some (.cells a.1 ag (0,0)):=aI w _;have k2:Kept Nil w1 w2:=(Kept.refl _ _).drew;clear_value w2;have Df:=k2.heap uV (fun h=>h);have jS:=k1.tt k2;clear_value w1;have h2:=h.same jS;obtain⟨mx,X,_⟩:=h2.X;refine⟨a.1,⟨a.2.1,Cells.bJ Df⟩,uo h2 ⟨_,rfl,⟨_,rfl,a.2.1,Cells.bJ Df⟩,?_⟩⟩;refine pP a fun w3 pb qb k3 hp hq zB Yt=>⟨_,rfl,?_⟩;have lD:=jS.tt k3;have hll:l.length<=G.D.length:=hc.CB h.fk.gQ;refine wD (xs:=l) aZ.at_ rfl (yC (F:=m.FX) (x:=m.x) (m:=mx) (pb:=pb) (qb:=qb) hc (by omega)) (fun u ku=>⟨X.same (k3.tt ku),ku.heap hp (fun h=>h),ku.heap hq (fun h=>h)⟩) (by omega) fun A cx w4 iU k4=>⟨_,_,_,rfl,?_⟩;have mE:=lD.tt k4;have s3:=lD.size;refine Cu iU (by omega) fun w5 jI k5=>⟨rfl,?_⟩;refine hK A cx w5 (Row.base jI (fun j hj=>by have:=(Row.bJ iU hj).1;omega)) (mE.trans k5 (fun j hj e=>by have:=(Row.bJ iU e).1;omega))
end
section
variable{w w' v:World}{K:Value->World->Prop}{B n cx b q:Nat}{A E:Option Addr}{F:Nat->Prop}{c k:Nat}{G:GS}{m:CM}{l:List HT}{C:oE}{cp e ce:Nat}
theorem K0(w:World)(s:HT){B:Nat}(hB:B<=w.heap.size):bM (w.alloc (.cells (s.1.toList++ []).toArray ag)) B (some ⟨w.heap.size,0,none⟩) 1 1 [s]:=by
 have e:df [s]=(s.1.toList++ []).toArray.toList:=by simp [df]
 show Row _ _ _ _ _ _ _ (df [s])
 rw [e];exact Row.made (aI w _) hB (by simp [s.2.1]) (by unfold maxLen;omega)
theorem mW(hx:v.heap[q]? =some (.cells (cQ C A n cp E e ce) br (0,0))):
 Cells v ((⟨q,0,none⟩:Addr).add 0) C.gQ.1/\v.cell? ((⟨q,0,none⟩:Addr).add 32)=some (.int .u64 (C.score:Int))/\v.cell? ((⟨q,0,none⟩:Addr).add 33)=some (.slice A n cp)/\v.cell? ((⟨q,0,none⟩:Addr).add 34)=some (.slice E e ce):=by
 have g:=gD C A n cp E e ce #[];rw [Array.append_empty]at g;refine⟨fun j u hj=>?_,by rw [bt,aD hx];exact g.1,by rw [bt,aD hx];exact g.2.1,by rw [bt,aD hx];exact g.2.2.1⟩;have cU:=(Array.getElem?_eq_some_iff.1 hj).1;rw [add_zero,bt,aD hx,Nat.zero_add];unfold cQ;rw [Array.getElem?_append_left cU];exact hj
theorem zk(u:World)(C:oE)(A:Option Addr)(n cp:Nat)(E:Option Addr)(e ce:Nat):
 ((cQ C A n cp E e ce).size=35/\(∀x∈(cQ C A n cp E e ce).toList,x.oneCell'=true)/\∀y,y<35->Wr (u.alloc (.cells zC br)) ((aR u.heap.size).add y))/\
   (setCells (u.alloc (.cells zC br)) ⟨u.heap.size,0,none⟩ (cQ C A n cp E e ce).toList 0).heap[u.heap.size]? =some (.cells (cQ C A n cp E e ce) br (0,0))/\
   Kept Nil u (setCells (u.alloc (.cells zC br)) ⟨u.heap.size,0,none⟩ (cQ C A n cp E e ce).toList 0):=by
 have IN:(u.alloc (.cells zC br)).heap[u.heap.size]? =some (.cells zC br (0,0)):=aI u _;obtain⟨t1,t2,t3⟩:=dR IN (cs:=cQ C A n cp E e ce) (by rw [a8];rfl);exact⟨⟨a8 ..,dZ _ _ _ _ _ _ _,fun j hj=>t1 j (by rw [a8];exact hj)⟩,t2,((Kept.refl _ _).alloc _).trans t3 (fun j hj e=>by omega)⟩
theorem oo(u:World)(x:HT):(x.1.size=32/\(∀y∈x.1.toList,y.oneCell'=true)/\∀y,y<32->Wr (u.alloc (.cells zH ag)) ((aR u.heap.size).add y))/\
 (setCells (u.alloc (.cells zH ag)) ⟨u.heap.size,0,none⟩ x.1.toList 0).heap[u.heap.size]? =some (.cells x.1 ag (0,0))/\Kept Nil u (setCells (u.alloc (.cells zH ag)) ⟨u.heap.size,0,none⟩ x.1.toList 0):=by
 obtain⟨tz,jT,kL⟩:=iu (w:=u) (z:=zH) (cs:=x.1) (t:=ag) (by rw [x.2.1];rfl);exact⟨⟨x.2.1,x.2.one,fun j hj=>tz j (by rw [x.2.1];exact hj)⟩,jT,kL⟩
theorem H4(h:CV w F c k G m)(hD:G.D.length<=5000)(a:HT)(hc:cF G.D G.P a l)
 (kW:a∉ids G.D->∀w',Kept Nil w w'->K (.tuple #[.slice none 0 0,.int .i64 6]) w')
 (hK:a∈ids G.D->∀A cx w',bM w' w.heap.size A l.length cx l.reverse->Kept Nil w w'->K (.tuple #[.slice A l.length cx,.int .i64 0]) w'):
 bz prog iP.id #[.pointer (some ⟨c,0,none⟩),.agg a.1] w K:=by
 refine iP.of ?_;unfold iP.W;intro w1;have k1:Kept Nil w w1:=(Kept.refl _ _).alloc _;have uV:w1.heap[w.heap.size]? =some (.cells a.1 ag (0,0)):=aI w _;clear_value w1;refine⟨a.1,⟨a.2.1,Cells.bJ uV⟩,a.2.1,?_⟩;intro w2;have k2:Kept Nil w1 w2:=(Kept.refl _ _).alloc _;have kX:HS w2 (some ⟨w1.heap.size,0,none⟩) 1 [a]:=jq w1 a;clear_value w2;have jS:=k1.tt k2;refine lu (h.same jS) hD kX (by omega) fun w3 k3=>⟨_,rfl,?_⟩;have lD:=jS.tt k3;have ui:=k2.tt k3;by_cases hm:a∈ids G.D
 ·rw [nZ (by simpa using hm)]
  refine Split.no rfl ⟨a.1,⟨a.2.1,Cells.bJ (ui.heap uV (fun h=>h))⟩,?_⟩;have s3:=lD.size;exact pU (h.same lD) hD hm hc fun A cx w4 iU k4=>⟨_,_,_,rfl,hK hm A cx w4 (Row.base iU (fun j hj=>by have:=(Row.bJ iU hj).1;omega)) (lD.tt k4)⟩
 ·rw [qD (x:=a) (by simp) hm]
  exact Split.yes rfl (kW hm w3 lD)
theorem pV(a:HT)(hK:∀w' pb qb,Kept Nil w w'->w'.heap[pb]? =some (.cells #[.pointer (some ⟨c,0,none⟩)] eU (0,0))->w'.heap[qb]? =some (.cells a.1 ag (0,0))->w.heap.size<=pb->w.heap.size<=qb->K (.func (.func bC.id) #[] #[.pointer (some ⟨pb,0,none⟩),.pointer (some ⟨qb,0,none⟩)]) w'):
 bz prog iN.id #[.pointer (some ⟨c,0,none⟩),.agg a.1] w K:=by
 refine iN.of ?_;unfold iN.W;intro w3 w4;have k3:Kept Nil w w3:=(Kept.refl _ _).alloc _;have hp3:w3.heap[w.heap.size]? =some (.cells #[.pointer (some ⟨c,0,none⟩)] eU (0,0)):=aI w _;have k4:Kept Nil w3 w4:=(Kept.refl _ _).alloc _;have hq4:w4.heap[w3.heap.size]? =some (.cells a.1 ag (0,0)):=aI w3 _;clear_value w4;exact hK w4 _ _ (k3.tt k4) (k4.heap hp3 (fun h=>h)) hq4 (Nat.le_refl _) k3.size
def HJ(G:GS)(x:HT)(vs:List Value)(w:World):Prop:=∃A n cx B,vs= [.agg x.1,.slice A n cx]/\bM w B A n cx (jr G x)
theorem Fi(H:fp k G){x:HT}(hx:x∈ids G.D){A:Option Addr}{n:Nat}(hm:HS w A n (G.fM x).merge):n<=G.D.length:=by
 have e1:=hm.len;have:=(ot H hx).1;omega
set_option maxHeartbeats 1000000 in
theorem vh{pb qb:Nat}{a:HT}(hl:cF G.D G.P a l)(hD:G.D.length<=5000):
 yy prog bC.id #[] #[.pointer (some ⟨pb,0,none⟩),.pointer (some ⟨qb,0,none⟩)] (l.reverse.drop 1) (HJ G) (fun w=>CV w F c k G m/\w.heap[pb]? =some (.cells #[.pointer (some ⟨c,0,none⟩)] eU (0,0))/\w.heap[qb]? =some (.cells a.1 ag (0,0))):=by
 intro y I Q w0 hI hQ oN h0 oM;obtain⟨hC,LS,NJ⟩:=oN 0 Nil w0 h0;have H:=hC.fk;refine bC.of ?_;unfold bC.W;refine⟨_,by rw [aD LS];rfl,a.1,⟨a.2.1,Cells.bJ NJ⟩,a.2.1,?_⟩;intro w1;have k1:Kept Nil w0 w1:=(Kept.refl _ _).alloc _;have zc:HS w1 (some ⟨w0.heap.size,0,none⟩) 1 [a]:=jq w0 a;clear_value w1;refine lu (hC.same k1) hD zc (by omega) fun w2 k2=>⟨_,rfl,?_⟩;have jS:=k1.tt k2;by_cases hm:a∈ids G.D
 ·rw [nZ (by simpa using hm)]
  refine Split.no rfl ⟨_,by rw [aD (jS.heap LS (fun h=>h))];rfl,a.1,⟨a.2.1,Cells.bJ (jS.heap NJ (fun h=>h))⟩,?_⟩;refine pU (hC.same jS) hD hm hl fun A cx w3 mn k3=>⟨A,_,cx,rfl,?_⟩;have lD:=jS.tt k3;have s2:=jS.size;obtain⟨r,L7⟩:=hl.cons H.W H.gQ hm;have v8:1<=l.length:=by rw [L7];simp
  have hll:l.length<=G.D.length:=hl.CB H.gQ;have Sd:∀x∈l.reverse.drop 1,x∈ids G.D:=fun x hx=>by
   have h1:=List.mem_reverse.1 (List.mem_of_mem_drop hx);obtain⟨i,j,ni,nj,g1,_,g3,g4,_⟩:=(hl.mem H.W H.gQ).1 h1;exact cS.2 ⟨nj,List.mem_of_getElem? g3,g4⟩
  refine⟨⟨by omega,by omega⟩,?_⟩;have Dc:=bM.cap mn;refine bC.cy (I:=fun s v=>∃i:Nat,s=(i:Int)/\i<=l.length-1/\I i (fun j=>bn A=some j) v/\bM v w2.heap.size A l.length cx l.reverse) (μ:=fun s _=>((l.length:Int)-s).toNat) (s:=0) ⟨0,rfl,Nat.zero_le _,hI 0 Nil _ w0 w3 h0 lD (fun j hj=>.inr ?_),mn⟩ ?_
  ·obtain⟨gE,cur,lv⟩:=Row.bJ mn hj
   exact⟨by omega,aV lv⟩
  rintro s v ⟨i,rfl,hi,hv,Fz⟩;unfold bC.B1;refine Split.dec (fun cU=>?_) (fun gE=>?_)
  ·have dY:i<l.length-1:=by simp at cU;omega
   obtain⟨x,hx⟩:∃x,(l.reverse.drop 1)[i]? =some x:=⟨_,List.getElem?_eq_getElem (by simp;omega)⟩;have RZ:=Sd x (List.mem_of_getElem? hx);have hs:=(bM.hs Fz).drop (k:=1) Dc v8;obtain⟨hCv,hpv,hqv⟩:=oN i _ v hv;refine HS.load hs (i:=(i:Int)) (x:=x) (by omega) (by rw [Int.toNat_natCast];exact hx) ?_;intro w4;obtain⟨zc,kX,nC⟩:=oo v x;refine⟨zc,?_⟩;intro w5
   replace kX:w5.heap[v.heap.size]? =some (.cells x.1 ag (0,0)):=kX
   replace nC:Kept Nil v w5:=nC
   clear_value w5;refine⟨_,by rw [aD (nC.heap hpv (fun h=>h))];rfl,x.1,⟨x.2.1,Cells.bJ kX⟩,?_⟩;refine ym (hCv.same nC) hD RZ fun A5 n5 c5 E5 e5 d5 w6 r5 _ _ k6=>⟨_,_,rfl,?_⟩;intro w7;obtain⟨t1,t2,t3⟩:=zk w6 (G.fM x) A5 n5 c5 E5 e5 d5;refine⟨t1,?_⟩;intro w8 w9
   replace t2:w8.heap[w6.heap.size]? =some (.cells (cQ (G.fM x) A5 n5 c5 E5 e5 d5) br (0,0)):=t2
   replace t3:Kept Nil w6 w8:=t3
   have k9:Kept Nil w8 w9:=(Kept.refl _ _).drew;clear_value w9;have t29:=k9.heap t2 (fun h=>h);have Lr:=t3.tt k9;clear_value w8;have Nb:=k6.tt Lr;have X8:=nC.tt Nb;obtain⟨f1,_,f3,_⟩:=mW t29;refine⟨x.1,⟨x.2.1,Cells.bJ (Nb.heap kX (fun h=>h))⟩,_,⟨(G.fM x).gQ.2.1,f1⟩,A5,n5,c5,f3,(G.fM x).gQ.2.1,?_⟩;intro w10;have mD:Kept Nil w9 w10:=(Kept.refl _ _).alloc _;have vu:bM w10 w9.heap.size (some ⟨w9.heap.size,0,none⟩) 1 1 [(G.fM x).gQ]:=K0 w9 _ (Nat.le_refl _);clear_value w10;have ZT:=((bM.hs r5).same Lr).same mD;have hn5:=Fi H RZ (bM.hs r5);have s10:=mD.size;obtain⟨A6,c6,qU,Ys,Cr,g6,hA6⟩:=cK ay vu (cx:=c5) ZT (by omega) s10;have AU:Kept Nil w9 qU:=Kept.eQ mD g6 (fun j hj=>(Row.bJ vu hj).1);have Px:=Lr.tt AU;have TO:=X8.tt AU;have aaf:=Nb.tt AU;refine⟨(mW (mD.heap t29 (fun h=>h))).2.2.1,⟨_,rfl,x.2.1,Cells.bJ (mD.heap (Nb.heap kX (fun h=>h)) (fun h=>h))⟩,A6,_,c6,qU,Ys,⟨_,rfl,x.2.1,Cells.bJ (aaf.heap kX (fun h=>h))⟩,?_⟩;refine(oM i x [.agg x.1,.slice A6 (1+n5) c6] (fun j=>bn A=some j) qU hx ⟨A6,1+n5,c6,_,rfl,Cr⟩ (hI i _ _ v qU hv TO (fun j hj=>.inl hj))).mono ?_;rintro bb lY ⟨ht,hf⟩;cases bb with
   |true=>
    obtain⟨Xb,kI⟩:=ht rfl;refine Split.no rfl ?_;rw [dH (n:=(i:Int)) (by omega) (by omega)];have O7:bM qU w2.heap.size A l.length cx l.reverse:=Row.aF Fz TO (fun _ _ h=>h);exact⟨(i:Int)+1,rfl,⟨i+1,rfl,dY,Xb,Row.aF O7 kI (fun j hj e=>e hj)⟩,by simp only;omega⟩
   |false=>exact Split.yes rfl (Or.inr (hf rfl))
  ·rw [aS,bC.dq]
   have e:i=(l.reverse.drop 1).length:=by
    simp at gE⊢;omega
   subst e;exact Or.inl ⟨_,hv⟩
 ·rw [qD (x:=a) (by simp) hm]
  have e:l= []:=by
   rcases hl with⟨_,rfl⟩|⟨i,nd,ks,h1,h2,_,_⟩
   ·rfl
   ·exact absurd (cS.2 ⟨nd,List.mem_of_getElem? h1,h2⟩) hm
  subst e;exact Split.yes rfl (Or.inl ⟨Nil,hI 0 Nil Nil w0 w2 h0 jS (fun j hj=>hj.elim)⟩)
end
section
variable{w w' v:World}{K:Value->World->Prop}{B n cx b q:Nat}{A E:Option Addr}{F:Nat->Prop}{c k:Nat}{G:GS}{m:CM}{l:List HT}{C:oE}{cp e ce:Nat}{a:HT}
theorem xR(l:List HT){i:Nat}{x:HT}(hx:(l.reverse.drop 1)[i]? =some x):((l.reverse.drop 1).take (i+1)).flatMap (jr G)=((l.reverse.drop 1).take i).flatMap (jr G)++jr G x:=by
 rw [List.take_add_one,hx];simp
theorem vi(H:fp k G){x:HT}(hx:x∈ids G.D):(jr G x).length<=G.D.length+1:=by
 have:=(ot H hx).1;unfold jr;simp only [List.length_cons];omega
theorem zh(H:fp k G):∀l:List HT,(∀x∈l,x∈ids G.D)->(l.flatMap (jr G)).length<=l.length*(G.D.length+1)
 | [],_=>by simp
 |x::l,h=>by
  have h1:=vi H (h x List.mem_cons_self);have h2:=zh H l (fun y hy=>h y (List.mem_cons_of_mem _ hy));rw [List.flatMap_cons,List.length_append,List.length_cons,Nat.add_mul];omega
theorem BH(H:fp k G)(hl:cF G.D G.P a l):∀x∈l,x∈ids G.D:=fun x hx=>by
 obtain⟨i,j,ni,nj,g1,_,g3,g4,_⟩:=(hl.mem H.W H.gQ).1 hx;exact cS.2 ⟨nj,List.mem_of_getElem? g3,g4⟩
theorem rV(H:fp k G)(hl:cF G.D G.P a l):∀x∈l.reverse.drop 1,x∈ids G.D:=fun x hx=>BH H hl x (List.mem_reverse.1 (List.mem_of_mem_drop hx))
theorem K9(H:fp k G)(hl:cF G.D G.P a l):(fP G l).length<=G.D.length*(G.D.length+1):=by
 rw [qC];refine Nat.le_trans (zh H _ (rV H hl)) (Nat.mul_le_mul_right _ ?_);have:=hl.CB H.gQ;simp only [List.length_drop,List.length_reverse];omega
theorem zX{d i:Nat}(hd:d<=900)(hi:i<=d):i*(d+1)<=900*901:=Nat.mul_le_mul (by omega) (by omega)
set_option maxHeartbeats 1000000 in
theorem tZ(h:CV w F c k G m)(hD:G.D.length<=900)(a:HT)(hc:cF G.D G.P a l)
 (kW:a∉ids G.D->∀w',Kept Nil w w'->K (.tuple #[.slice none 0 0,.int .i64 6]) w')
 (hK:a∈ids G.D->∀A cx w',bM w' w.heap.size A (fP G l).length cx (fP G l)->Kept Nil w w'->K (.tuple #[.slice A (fP G l).length cx,.int .i64 0]) w'):
 bz prog dd.id #[.pointer (some ⟨c,0,none⟩),.agg a.1] w K:=by
 have H:=h.fk;refine dd.of ?_;unfold dd.W;intro w1;have k1:Kept Nil w w1:=(Kept.refl _ _).alloc _;have uV:w1.heap[w.heap.size]? =some (.cells a.1 ag (0,0)):=aI w _;clear_value w1;refine⟨a.1,⟨a.2.1,Cells.bJ uV⟩,a.2.1,?_⟩;intro w2;have k2:Kept Nil w1 w2:=(Kept.refl _ _).alloc _;have kX:HS w2 (some ⟨w1.heap.size,0,none⟩) 1 [a]:=jq w1 a;clear_value w2;have jS:=k1.tt k2;refine lu (h.same jS) (by omega) kX (by omega) fun w3 k3=>⟨_,rfl,?_⟩;have lD:=jS.tt k3;have ui:=k2.tt k3;by_cases hm:a∈ids G.D
 ·rw [nZ (by simpa using hm)]
  refine Split.no rfl ?_;intro w4;have k4:Kept Nil w3 w4:=(Kept.refl _ _).alloc _;have ho4:w4.heap[w3.heap.size]? =some (.cells #[.slice none 0 0] ay (0,0)):=aI w3 _;clear_value w4;have mE:=lD.tt k4;refine⟨a.1,⟨a.2.1,Cells.bJ ((ui.tt k4).heap uV (fun h=>h))⟩,?_⟩;refine pV a fun w5 pb qb k5 hp5 Yu zB Yt=>⟨_,rfl,?_⟩;have qM:=mE.tt k5;have ho5:=k5.heap ho4 (fun h=>h);have s3:=lD.size;have s4:=k4.size;have s5:=k5.size;have l4:=aV ho4;generalize B7:w3.heap.size=ob at ho5 l4;have lo5:=aV ho5
  let uW:Value:=.func (.func bC.id) #[] #[.pointer (some ⟨pb,0,none⟩),.pointer (some ⟨qb,0,none⟩)]
  let ρ0:Env:= [(4,.slice none 0 0),(5,.int .i64 0),(7,.pointer (some ⟨ob,0,none⟩)),(19,uW)]
  let xs:=l.reverse.drop 1
  let J:Nat->(Nat->Prop)->World->Prop:=fun i Pr u=>i<=xs.length/\Kept (· =ob) w5 u/\(∃A n cx,u.heap[ob]? =some (.cells #[.slice A n cx] ay (0,0))/\bM u w5.heap.size A n cx ((xs.take i).flatMap (jr G))/\(∀j,bn A=some j->¬Pr j))/\∀j,Pr j->w5.heap.size<=j/\j<u.heap.size
  have kJ:∀ {u:World},Kept (· =ob) w5 u->Kept Nil w u:=fun k=>qM.trans k (fun j hj e=>by omega);have kJ5:∀ {u:World},Kept (· =ob) w5 u->Kept Nil w3 u:=fun k=>(k4.tt k5).trans k (fun j hj e=>by omega)
  change Holds none [] prog _ _ _ ρ0 w5
  refine tX (n:=26) (ρ:=ρ0) (ρ0:=ρ0) ng mix dd.k (t:=19) (ps:= #[20,21]) (by kernel_rfl) (by decide) rfl bC.at_ rfl (.inl rfl) (fun i x hi hx=>hx) rfl xs (HJ G) (fun x vs u hE=>by obtain⟨A,n,cx,B,rfl,_⟩:=hE;rfl) (fun q hq=>by
   have Rr:q=20\/q=21:=by simpa using hq
   rcases Rr with rfl|rfl<;>exact⟨by decide,by decide⟩) (vh (F:=F) (c:=c) (k:=k) (m:=m) (pb:=pb) (qb:=qb) hc (by omega)) J (fun _ _=>False) ?_ (fun _ _ _ _ _ h=>h.elim) (fun i Pr u hJ=>⟨h.same (kJ hJ.2.1),hJ.2.1.heap hp5 (by omega),hJ.2.1.heap Yu (by omega)⟩) ?_ ?_ ?_ (fun _ _ h=>h.elim) (fun _ _ _ h=>h.elim)
  ·rintro i Pr MN u1 u2 R nt ⟨h0,h1,⟨A,n,cx,h2,h3,h4⟩,h5⟩ hk hp
   have su:=hk.size;have sw:=h1.size;refine⟨h0,h1.trans hk (fun j hj e=>by omega),⟨A,n,cx,hk.heap h2 (by omega),Row.apart h3 hk (fun cs t fr h=>by rw [nt.loop]at h;cases h),fun j hj e=>?_⟩,fun j hj=>?_⟩
   ·rcases hp j e with e|e
    ·exact h4 j hj e
    ·obtain⟨_,cur,lv⟩:=Row.bJ h3 hj
     have:=aV lv;omega
   ·rcases hp j hj with e|e
    ·have:=h5 j e;omega
    ·omega
  ·intro R
   exact⟨Nat.zero_le _,((Kept.refl _ _).alloc _).alloc _,⟨none,0,0,jk (jk ho5 _) _,bM.nil _ _,fun j hj=>by cases hj⟩,fun j hj=>hj.elim⟩
  ·rintro i x vs Pr u1 R hx ⟨A2,n2,c2,B2,rfl,yX⟩ ⟨h0,h1,⟨A,n,cx,h2,h3,h4⟩,h5⟩ nt LP
   have e7:kH ρ0 ((#[20,21]:Array Nat).toList.zip [.agg x.1,.slice A2 n2 c2])= [(4,.slice none 0 0),(5,.int .i64 0),(7,.pointer (some ⟨ob,0,none⟩)),(19,uW),(20,.agg x.1),(21,.slice A2 n2 c2)]:=rfl;rw [e7,dd.a1];unfold dd.A1;refine⟨nt,fun w2 R2 mw qO=>?_⟩;rw [dd.y1];unfold dd.Y1;have dY:=(lgeS hx).1;have QF:i<xs.length:=dY;have RZ:=rV H hc x (List.mem_of_getElem? hx);have zE:=mw.heap h2 (by omega);have Hh:bM w2 w5.heap.size A n cx ((xs.take i).flatMap (jr G)):=Row.apart h3 mw (fun cs t fr h=>by rw [nt.loop]at h;cases h);have Gm:HS w2 A2 n2 (jr G x):=bM.hs (Row.apart yX mw (fun cs t fr h=>by rw [nt.loop]at h;cases h));have hlen:=Hh.len;have EE:=zh H (xs.take i) (fun y hy=>rV H hc y (List.mem_of_mem_take hy));have uD:xs.length<=G.D.length:=by
    have:=hc.CB H.gQ;simp only [xs,List.length_drop,List.length_reverse];omega
   rw [List.length_take,Nat.min_eq_left (by omega)]at EE;have hsq:=zX hD (i:=i) (by omega);have BY:=vi H RZ;have Vl:=Gm.len;have sw2:=mw.size;have sh1:=h1.size;obtain⟨A3,c3,SK,uU,iU,g4,Rm⟩:=cK ay Hh (cx:=c2) Gm (by omega) (by omega);have kg:Kept (fun j=>bn A=some j) w2 SK:=Kept.grown (Kept.refl _ _) g4 fun j hj _=>hj;have nob:bn A≠some ob:=fun e=>by
    have:=(Row.bJ Hh e).1;omega
   have h24:=kg.heap zE nob;have ll4:Live (w5.heap.size+1) w5.heap.size R2 SK:=by
    refine qO.aF kg ?_ ?_
    ·intro e
     obtain⟨_,cur,lv⟩:=Row.bJ Hh e;exact ki lv qO.loop rfl
    ·intro e
     obtain⟨_,cur,lv⟩:=Row.bJ Hh e;exact si lv qO.mark rfl
   refine⟨A,n,cx,by rw [aD zE];rfl,A3,_,c3,SK,uU,dS h24 (by simp),?_⟩;intro Zt;have oD:Zt.heap[ob]? =some (.cells #[.slice A3 (n+n2) c3] ay (0,0)):=di h24 0 _;have TU:Kept (· =ob) SK Zt:=Kept.setCell (S:=fun k=>k=ob) (Kept.refl _ SK) (p:=⟨ob,0,none⟩) (fun _=>rfl) _;clear_value Zt;have sg:=kg.size;have sb:=TU.size;have hA3:∀j,bn A3=some j->¬Pr j:=fun j hj e=>by
    rcases Rm j hj with e2|e2
    ·exact h4 j e2 e
    ·have:=(h5 j e).2;omega
   have nA3:∀j,bn A3=some j->j≠ob:=fun j hj e=>by
    have:=(Row.bJ iU hj).1;omega
   refine⟨ll4.aF TU (fun e=>by omega) (fun e=>by omega),⟨QF,?_,⟨A3,n+n2,c3,oD,?_,hA3⟩,fun j hj=>by have:=h5 j hj;omega⟩,?_⟩
   ·exact((h1.trans mw (fun j hj e=>by omega)).trans kg (fun j hj e=>by have:=(Row.bJ Hh e).1;omega)).trans TU (fun j hj e=>e)
   ·have:=Row.aF iU TU nA3
    rw [xR l hx];exact this
   ·refine((mw.mono (S':=fun j=>¬Pr j) (fun j hj e hp=>by have:=LP j hp;omega)).trans kg (fun j hj e=>h4 j e)).trans TU (fun j hj e hp=>by have:=h5 j hp;omega)
  ·rintro Pr u1 R ⟨h0,h1,⟨A,n,cx,h2,h3,h4⟩,h5⟩ nt
   have e7:fN ρ0 w5.heap.size= [(4,.slice none 0 0),(5,.int .i64 0),(7,.pointer (some ⟨ob,0,none⟩)),(19,uW),(4294967296,.agg (nK [w5.heap.size]))]:=rfl;rw [e7,dd.iF];unfold dd.fT;rw [kQ];have kt:=im [w5.heap.size] u1;have Vp:∀E∈ [w5.heap.size],u1.heap[E]? =some (.deferred (some [])):=fun E hE=>by
    rw [List.mem_singleton]at hE;subst hE;exact nt.mark
   rw [List.take_of_length_le (Nat.le_refl _),<-qC]at h3;have hn:=h3.len;refine⟨A,n,cx,by rw [aD h2];rfl,jw [w5.heap.size] u1 (by simp) Vp,?_⟩;subst hn;have s05:=qM.size;refine hK hm A cx _ ?_ ((kJ h1).trans kt (fun j hj e=>by rw [List.mem_singleton]at e;omega));refine Row.base (Row.aF h3 kt (fun j hj e=>?_)) (fun j hj=>by have:=(Row.bJ h3 hj).1;omega);rw [List.mem_singleton]at e;subst e;obtain⟨_,cur,lv⟩:=Row.bJ h3 hj;exact si lv nt.mark rfl
 ·rw [qD (x:=a) (by simp) hm]
  exact Split.yes rfl (kW hm w3 lD)
end
section
variable{w w' v:World}{K:Value->World->Prop}{B n cx b q:Nat}{A O:Option Addr}{F:Nat->Prop}{c k:Nat}{G:GS}{m:CM}{l lo:List HT}{on oc:Nat}{a s:HT}
theorem CL{l:List HT}(h:HT)(hl:HS w A n l)(hn:n<=1000000)(kW:∀w',h∉l->Kept Nil w w'->K (.int .i64 (-1)) w')
 (hK:∀w' (i:Nat),l[i]? =some h->h∉l.take i->Kept Nil w w'->K (.int .i64 (i:Int)) w'):
 bz prog aK.id #[.slice A n cx,.agg h.1] w K:=by
 have hlen:=hl.len;refine aK.of ?_;unfold aK.W;intro w4;have k4:Kept Nil w w4:=(Kept.refl _ _).alloc _;have pg:w4.heap[w.heap.size]? =some (.cells h.1 ag (0,0)):=aI w _;clear_value w4;refine aK.cy (I:=fun s w'=>∃i:Nat,s=(0,(i:Int))/\i<=n/\Kept Nil w4 w'/\h∉l.take i) (μ:=fun s _=>((n:Int)-s.2).toNat) (s:=(0,0)) ⟨0,rfl,Nat.zero_le _,Kept.refl _ _,by simp⟩ ?_;rintro s w' ⟨i,rfl,hi,kw,Gp⟩;refine Split.dec (fun cU=>?_) (fun gE=>?_)
 ·simp only at cU
  have dY:i<n:=by omega
  obtain⟨y,hy⟩:∃y,l[i]? =some y:=⟨_,List.getElem?_eq_getElem (by omega)⟩;intro w9;have k9:Kept Nil w' w9:=(Kept.refl _ _).drew;clear_value w9;have Py:=kw.tt k9;have BW:=k4.tt Py;refine⟨h.1,⟨h.2.1,Cells.bJ (Py.heap pg (fun h=>h))⟩,?_⟩;refine(hl.same BW).load (i:=(i:Int)) (by omega) hy ⟨⟨h.2.ints,y.2.ints⟩,?_⟩;rw [dC];refine Split.dec (fun he=>?_) (fun he=>?_)
  ·exact hK w9 i (by rw [he];exact hy) Gp BW
  ·simp only
   rw [gP (x:=(i:Int)+1) (by omega) (by omega)];refine⟨(0,(i:Int)+1),rfl,⟨i+1,rfl,dY,Py,fun hm=>?_⟩,by simp only;omega⟩;rcases(bN hy).1 hm with hm|hm
   ·exact Gp hm
   ·exact he hm
 ·simp only at gE
  rw [aS,aK.dq];rw [List.take_of_length_le (by omega)]at Gp;exact kW w' Gp (k4.tt kw)
theorem pW(h:CV w F c k G m)(hD:G.D.length<=900)(a b:HT)(hc:cF G.D G.P b l)
 (kW:¬(a∈ids G.D/\b∈ids G.D)\/a∉fP G l->∀w',Kept Nil w w'->K (.tuple #[.int .i64 0,.int .i64 6]) w')
 (hK:a∈ids G.D->b∈ids G.D->∀w' (i:Nat),(fP G l)[i]? =some a->a∉(fP G l).take i->Kept Nil w w'->K (.tuple #[.int .i64 (i:Int),.int .i64 0]) w'):
 bz prog iO.id #[.pointer (some ⟨c,0,none⟩),.agg a.1,.agg b.1] w K:=by
 have H:=h.fk;refine iO.of ?_;unfold iO.W;intro w1 w2;have k1:Kept Nil w w1:=(Kept.refl _ _).alloc _;have uV:w1.heap[w.heap.size]? =some (.cells a.1 ag (0,0)):=aI w _;have k2:Kept Nil w1 w2:=(Kept.refl _ _).alloc _;have kX:w2.heap[w1.heap.size]? =some (.cells b.1 ag (0,0)):=aI w1 _;clear_value w2;have Df:=k2.heap uV (fun h=>h);have jS:=k1.tt k2;clear_value w1;refine⟨a.1,⟨a.2.1,Cells.bJ Df⟩,b.1,⟨b.2.1,Cells.bJ kX⟩,a.2.1,b.2.1,?_⟩;intro w3;have k3:Kept Nil w2 w3:=(Kept.refl _ _).alloc _;have nC:HS w3 (some ⟨w2.heap.size,0,none⟩) 2 [a,b]:=HS.lay (l:= [a,b]) (t:=ag) (aI w2 (.cells (df [a,b]).toArray ag));clear_value w3;have lD:=jS.tt k3;refine lu (h.same lD) (by omega) nC (by omega) fun w4 k4=>⟨_,rfl,?_⟩;have mE:=lD.tt k4;have p9:=k3.tt k4;by_cases hm:a∈ids G.D/\b∈ids G.D
 ·rw [nZ (by simpa using hm)]
  refine Split.no rfl ⟨b.1,⟨b.2.1,Cells.bJ (p9.heap kX (fun h=>h))⟩,?_⟩;refine tZ (h.same mE) hD b hc (fun e=>absurd hm.2 e) fun _ A cx w5 jI k5=>⟨A,_,cx,_,rfl,a.1,⟨a.2.1,Cells.bJ ((p9.tt k5).heap Df (fun h=>h))⟩,?_⟩;have qM:=mE.tt k5;have U4:=K9 H hc;have hsq:=zX hD (Nat.le_refl _);refine CL a (bM.hs jI) (by omega) (fun w6 hn6 k6=>⟨_,rfl,Split.yes rfl (kW (.inr hn6) w6 (qM.tt k6))⟩) fun w6 i hi LW k6=>⟨_,rfl,Split.no (decide_eq_false (by omega)) (hK hm.1 hm.2 w6 i hi LW (qM.tt k6))⟩
 ·have:∃x∈ [a,b],x∉ids G.D:=by
   by_cases h1:a∈ids G.D
   ·exact⟨b,by simp,fun e=>hm ⟨h1,e⟩⟩
   ·exact⟨a,by simp,h1⟩
  obtain⟨x,hx,Nt⟩:=this;rw [qD hx Nt];exact Split.yes rfl (kW (.inl hm) w4 mE)
end
section
variable{w w' v:World}{K:Value->World->Prop}{n cx q:Nat}{F:Nat->Prop}{c k:Nat}{G:GS}{m:CM}{l:List HT}{a b:HT}
set_option maxHeartbeats 2000000 in
theorem uc(h:CV w F c k G m)(hD:G.D.length<=900)(a b:HT)(hc:cF G.D G.P b l)
 (kW:¬(a∈ids G.D/\b∈ids G.D)\/a∉fP G l->∀w',Kept Nil w w'->K (.tuple #[.agg dz.1,.int .i64 6]) w')
 (hK:∀y w',y∈l.reverse.drop 1->a∈jr G y->Kept Nil w w'->K (.tuple #[.agg y.1,.int .i64 0]) w'):
 bz prog cM.id #[.pointer (some ⟨c,0,none⟩),.agg a.1,.agg b.1] w K:=by
 have H:=h.fk;refine cM.of ?_;unfold cM.W;intro w1 w2 w3 w4;have k1:Kept Nil w w1:=(Kept.refl _ _).alloc _;have uV:w1.heap[w.heap.size]? =some (.cells a.1 ag (0,0)):=aI w _;have k2:Kept Nil w1 w2:=(Kept.refl _ _).alloc _;have kX:w2.heap[w1.heap.size]? =some (.cells b.1 ag (0,0)):=aI w1 _;have k3:Kept Nil w2 w3:=(Kept.refl _ _).alloc _;have um:w3.heap[w2.heap.size]? =some (.cells dz.1 ag (0,0)):=aI w2 _;have k4:Kept Nil w3 w4:=(Kept.refl _ _).alloc _;have YB:w4.heap[w3.heap.size]? =some (.cells #[.int .i64 0] nI (0,0)):=aI w3 _;clear_value w4;have uU:=k4.heap um (fun h=>h);have pg:=(k3.tt k4).heap kX (fun h=>h);have xq:=((k2.tt k3).tt k4).heap uV (fun h=>h);have mE:=((k1.tt k2).tt k3).tt k4;have s1:=k1.size;have s2:=k2.size;have l1:=aV uV;have l2:=aV kX;have l3:=aV um;have l4:=aV YB;generalize lE:w.heap.size=ab at xq l1;generalize wR:w1.heap.size=bb at pg l1 l2;generalize wQ:w2.heap.size=rb at uU l2 l3;generalize heb:w3.heap.size=eb at YB l3 l4;clear_value w3;clear_value w2;clear_value w1;have fin:∀ {u:World} (y:HT) (z:Int),u.heap[rb]? =some (.cells dz.1 ag (0,0))->u.heap[eb]? =some (.cells #[.int .i64 0] nI (0,0))->
  (y.1.size=32/\(∀c∈y.1.toList,c.oneCell'=true)/\∀j,j<32->Wr u ((⟨rb,0,none⟩:Addr).add j))/\
  Wr (setCells u (⟨rb,0,none⟩:Addr) y.1.toList 0) (⟨eb,0,none⟩:Addr)/\
  ∃u',(setCells u (⟨rb,0,none⟩:Addr) y.1.toList 0).setCell (⟨eb,0,none⟩:Addr) (.int .i64 z)=u'/\u'.heap[rb]? =some (.cells y.1 ag (0,0))/\u'.heap[eb]? =some (.cells #[.int .i64 z] nI (0,0))/\Kept (fun j=>j=rb\/j=eb) u u':=by
  intro u y z h1 h2;obtain⟨t1,t2,t3⟩:=jy y h1 dz.2.1;have sP:=t3.heap h2 (by omega);refine⟨t1,dS sP (by simp),_,rfl,?_,?_,?_⟩
  ·rw [Fw (by omega)];exact t2
  ·rw [di sP 0];rfl
  ·exact(t3.mono fun j _ e=>.inl e).trans (Kept.setCell (S:=fun j=>j=eb) (Kept.refl _ _) (p:=⟨eb,0,none⟩) (fun _=>rfl) _) (fun j _ e=>.inr e)
 refine⟨a.1,⟨a.2.1,Cells.bJ xq⟩,b.1,⟨b.2.1,Cells.bJ pg⟩,a.2.1,b.2.1,?_⟩;intro w5;have k5:Kept Nil w4 w5:=(Kept.refl _ _).alloc _;have oD:HS w5 (some ⟨w4.heap.size,0,none⟩) 2 [a,b]:=HS.lay (l:= [a,b]) (t:=ag) (aI w4 (.cells (df [a,b]).toArray ag));clear_value w5;have qM:=mE.tt k5;refine lu (h.same qM) (by omega) oD (by omega) fun w6 k6=>⟨_,rfl,?_⟩;have uB:=k5.tt k6;have o8:=mE.tt uB;have s06:=o8.size;by_cases hm:a∈ids G.D/\b∈ids G.D
 ·rw [nZ (by simpa using hm)]
  refine Split.no rfl ⟨b.1,⟨b.2.1,Cells.bJ (uB.heap pg (fun h=>h))⟩,?_⟩;refine pV b fun w7 pb qb k7 hp7 hq7 zB Yt=>⟨_,rfl,?_⟩;have Pz:=uB.tt k7;have xi:=mE.tt Pz;have s7:=Pz.size;have s46:=uB.size;have I7:=Pz.heap uU (fun h=>h);have he7:=Pz.heap YB (fun h=>h);have ha7:=Pz.heap xq (fun h=>h)
  let uW:Value:=.func (.func bC.id) #[] #[.pointer (some ⟨pb,0,none⟩),.pointer (some ⟨qb,0,none⟩)]
  let ρ0:Env:= [(4,.pointer (some ⟨ab,0,none⟩)),(6,.pointer (some ⟨rb,0,none⟩)),(7,.pointer (some ⟨eb,0,none⟩)),(22,uW)]
  let xs:=l.reverse.drop 1
  let J:Nat->(Nat->Prop)->World->Prop:=fun i _ u=>i<=xs.length/\Kept Nil w7 u/\a∉(xs.take i).flatMap (jr G)
  let Jd:Code->World->Prop:=fun e u=>e=.ret/\Kept (fun j=>j=rb\/j=eb) w7 u/\∃y,y∈xs/\a∈jr G y/\u.heap[rb]? =some (.cells y.1 ag (0,0))/\u.heap[eb]? =some (.cells #[.int .i64 0] nI (0,0))
  have kN:∀ {u:World},Kept Nil w7 u->Kept Nil w u:=fun k=>xi.tt k;have kS:∀ {u:World},Kept (fun j=>j=rb\/j=eb) w7 u->Kept Nil w u:=fun k=>xi.trans k (fun j hj e=>by omega)
  change Holds none [] prog _ _ _ ρ0 w7
  refine tX (n:=30) (ρ:=ρ0) (ρ0:=ρ0) ng mix cM.k (t:=22) (ps:= #[23,24]) (by kernel_rfl) (by decide) rfl bC.at_ rfl (.inl rfl) (fun i x hi hx=>hx) rfl xs (HJ G) (fun x vs u hE=>by obtain⟨A,n,cx,B,rfl,_⟩:=hE;rfl) (fun q hq=>by
   have Rr:q=23\/q=24:=by simpa using hq
   rcases Rr with rfl|rfl<;>exact⟨by decide,by decide⟩) (vh (F:=F) (c:=c) (k:=k) (m:=m) (pb:=pb) (qb:=qb) hc (by omega)) J Jd ?_ ?_ (fun i Pr u hJ=>⟨h.same (kN hJ.2.1),hJ.2.1.heap hp7 (fun h=>h),hJ.2.1.heap hq7 (fun h=>h)⟩) ?_ ?_ ?_ ?_ ?_
  ·rintro i Pr MN u1 u2 R nt ⟨h0,h1,h2⟩ hk _
   exact⟨h0,h1.trans hk (fun j hj e=>by omega),h2⟩
  ·rintro e u1 u2 R nt ⟨h1,h2,y,h3,h4,h5,h6⟩ hk
   exact⟨h1,h2.trans hk (fun k hk e=>by omega),y,h3,h4,hk.heap h5 (by omega),hk.heap h6 (by omega)⟩
  ·intro R
   exact⟨Nat.zero_le _,((Kept.refl _ _).alloc _).alloc _,by simp⟩
  ·rintro i x vs Pr u1 R hx ⟨A2,n2,c2,B2,rfl,yX⟩ ⟨h0,h1,h2⟩ nt LP
   have e7:kH ρ0 ((#[23,24]:Array Nat).toList.zip [.agg x.1,.slice A2 n2 c2])= [(4,.pointer (some ⟨ab,0,none⟩)),(6,.pointer (some ⟨rb,0,none⟩)),(7,.pointer (some ⟨eb,0,none⟩)),(22,uW),(23,.agg x.1),(24,.slice A2 n2 c2)]:=rfl;rw [e7,cM.a1];unfold cM.A1;have dY:i<xs.length:=(lgeS hx).1;have RZ:=rV H hc x (List.mem_of_getElem? hx);intro w8;obtain⟨t1,t2,t3⟩:=oo u1 x;refine⟨t1,?_⟩;intro w9
   replace t2:w9.heap[u1.heap.size]? =some (.cells x.1 ag (0,0)):=t2
   replace t3:Kept Nil u1 w9:=t3
   clear_value w9;have hl9:=nt.aF t3 (fun h=>h) (fun h=>h);refine⟨hl9,fun w2 R2 mw qO=>?_⟩;have kX:=mw.heap t2 (ki t2 hl9.loop);have xg:Kept (· =w7.heap.size+1) u1 w2:=(t3.mono fun _ _ h=>h.elim).tt mw;have k72:Kept Nil w7 w2:=h1.trans xg (fun k hk e=>by omega);have Gm:bM w2 B2 A2 n2 c2 (jr G x):=Row.apart (Row.aF yX t3 (fun _ _ h=>h)) mw (fun cs t fr h=>by rw [hl9.loop]at h;cases h);have Vl:=Gm.len;have BY:=vi H RZ;rw [cM.y1];unfold cM.Y1;refine⟨a.1,⟨a.2.1,Cells.bJ (k72.heap ha7 (fun h=>h))⟩,?_⟩;refine ri a (bM.hs Gm) (by omega) fun w10 mD=>⟨_,rfl,?_⟩;have VK:=qO.aF mD (fun h=>h) (fun h=>h);have Lq:=k72.tt mD;by_cases YK:a∈jr G x
   ·refine Split.yes (decide_eq_true YK) ⟨x.1,⟨x.2.1,Cells.bJ (mD.heap kX (fun h=>h))⟩,?_⟩
    obtain⟨f1,f2,u',f3,f4,f5,f6⟩:=fin x 0 (Lq.heap I7 (fun h=>h)) (Lq.heap he7 (fun h=>h));refine⟨f1,?_⟩;intro qU;refine⟨f2,?_⟩;intro lY;have Xu:lY=u':=f3;rw [Xu];exact⟨VK.aF f6 (fun e=>by omega) (fun e=>by omega),rfl,(Lq.mono fun _ _ h=>h.elim).tt f6,x,List.mem_of_getElem? hx,YK,f4,f5⟩
   ·refine Split.no (decide_eq_false YK) ⟨VK,⟨dY,Lq,?_⟩,?_⟩
    ·rw [xR l hx,List.mem_append]
     exact fun e=>e.elim h2 YK
    ·have hu:=h1.size
     exact(xg.tt (mD.mono (S':=fun j=>j=w7.heap.size+1) fun _ _ h=>h.elim)).mono fun j hj e hp=>by have:=LP j hp;omega
  ·rintro Pr u1 R ⟨h0,h1,h2⟩ nt
   have e7:fN ρ0 w7.heap.size= [(4,.pointer (some ⟨ab,0,none⟩)),(6,.pointer (some ⟨rb,0,none⟩)),(7,.pointer (some ⟨eb,0,none⟩)),(22,uW),(4294967296,.agg (nK [w7.heap.size]))]:=rfl;rw [e7,cM.iF];unfold cM.fT;rw [List.take_of_length_le (Nat.le_refl _),<-qC]at h2;obtain⟨f1,f2,u',f3,f4,f5,f6⟩:=fin dz 6 (h1.heap I7 (fun h=>h)) (h1.heap he7 (fun h=>h));refine⟨f1,?_⟩;intro qU;refine⟨f2,?_⟩;intro lY;have Xu:lY=u':=f3;rw [Xu,kQ];have hl':=nt.aF f6 (fun e=>by omega) (fun e=>by omega);have kt:=im [w7.heap.size] u';have Vp:∀E∈ [w7.heap.size],u'.heap[E]? =some (.deferred (some [])):=fun E hE=>by
    rw [List.mem_singleton]at hE;subst hE;exact hl'.mark
   refine⟨jw [w7.heap.size] u' (by simp) Vp,dz.1,⟨dz.2.1,Cells.bJ (kt.heap f4 (fun e=>by rw [List.mem_singleton]at e;omega))⟩,6,by rw [aD (kt.heap f5 (fun e=>by rw [List.mem_singleton]at e;omega))];rfl,?_⟩;exact kW (.inr h2) _ ((kS ((h1.mono fun _ _ h=>h.elim).tt f6)).trans kt (fun j hj e=>by rw [List.mem_singleton]at e;omega))
  ·rintro u1 R ⟨_,h1,y,h2,h3,h4,h5⟩ nt
   have e7:fN ρ0 w7.heap.size= [(4,.pointer (some ⟨ab,0,none⟩)),(6,.pointer (some ⟨rb,0,none⟩)),(7,.pointer (some ⟨eb,0,none⟩)),(22,uW),(4294967296,.agg (nK [w7.heap.size]))]:=rfl;rw [e7,cM.u7];unfold cM.qm;rw [kQ];have kt:=im [w7.heap.size] u1;have Vp:∀E∈ [w7.heap.size],u1.heap[E]? =some (.deferred (some [])):=fun E hE=>by
    rw [List.mem_singleton]at hE;subst hE;exact nt.mark
   refine⟨jw [w7.heap.size] u1 (by simp) Vp,y.1,⟨y.2.1,Cells.bJ (kt.heap h4 (fun e=>by rw [List.mem_singleton]at e;omega))⟩,0,by rw [aD (kt.heap h5 (fun e=>by rw [List.mem_singleton]at e;omega))];rfl,?_⟩;exact hK y _ h2 h3 ((kS h1).trans kt (fun j hj e=>by rw [List.mem_singleton]at e;omega))
  ·rintro id u1 R ⟨e,_⟩
   cases e
 ·have:∃x∈ [a,b],x∉ids G.D:=by
   by_cases h1:a∈ids G.D
   ·exact⟨b,by simp,fun e=>hm ⟨h1,e⟩⟩
   ·exact⟨a,by simp,h1⟩
  obtain⟨x,hx,Nt⟩:=this;rw [qD hx Nt];refine Split.yes rfl ?_;obtain⟨f1,f2,u',f3,f4,f5,f6⟩:=fin dz 6 (uB.heap uU (fun h=>h)) (uB.heap YB (fun h=>h));refine⟨f1,?_⟩;intro qU;refine⟨f2,?_⟩;intro lY;have Xu:lY=u':=f3;rw [Xu];exact⟨dz.1,⟨dz.2.1,Cells.bJ f4⟩,6,by rw [aD f5];rfl,kW (.inl hm) u' (o8.trans f6 (fun j hj e=>by omega))⟩
end
section
variable{w w' v:World}{K:Value->World->Prop}{B n cx q n1 c1 e1 d1:Nat}{A A1 E1:Option Addr}{F:Nat->Prop}{r x k:Nat}{G:GS}{l out:List HT}{C:oE}{a:HT}
theorem R3.XC(h:R3 w F r x k G):∃A c,w.cell? ((⟨r,0,none⟩:Addr).add 2)=some (.slice A G.D.length c)/\qT w F A G.D.length G.qS:=by
 obtain⟨A,c,B,e,g1,g2,_⟩:=h.top;exact⟨A,c,by rw [bt,aD g1];rfl,g2⟩
theorem R3.Ox(h:R3 w F r x k G)(ha:a∈ids G.D):∃aa ca A1 n1 c1 B1 m1 d1,w.cell? ((⟨r,0,none⟩:Addr).add 2)=some (.slice (some aa) G.D.length ca)/\(0<=xz G.D a/\xz G.D a<(G.D.length:Int))/\
 Cells w (aa.add ((xz G.D a).toNat*35)) (cQ (G.fM a) A1 n1 c1 B1 m1 d1)/\HS w A1 n1 (G.fM a).merge/\Bo w B1 m1 (G.fM a).fL/\F aa.block/\(∀b,A1=some b->F b.block):=by
 obtain⟨nd,h1,h2,rfl⟩:=ER ha;obtain⟨A,c,q,hA⟩:=h.XC;have dY:=(lgeS h2).1;obtain⟨cc,yh⟩:∃cc,G.qS[(xz G.D nd.id).toNat]? =some cc:=⟨_,List.getElem?_eq_getElem (by rw [h.fk.lc];exact dY)⟩;have BC:=GS.JN h.fk.W h2 yh;obtain⟨aa,A1,n1,c1,B1,m1,d1,z1,z2,z3,z4,z5,z6,z7,_⟩:=hA.at_ _ _ yh;subst z1;rw [BC];exact⟨aa,c,A1,n1,c1,B1,m1,d1,q,⟨h1,by omega⟩,z4,z5,z6,z3,z7⟩
theorem Ds(hx:v.heap[q]? =some (.cells (cQ C A1 n1 c1 E1 e1 d1) br (0,0)))(row:bM v B A n cx out)(hm:HS v A1 n1 C.merge)(hB:B<=v.heap.size)(hq:bn A≠some q)
 (hA1:∀b,A1=some b->b.block<v.heap.size/\bn A≠some b.block) (hn:n+n1+1<=1000000) {Z:Option Addr->Nat->Nat->World->Prop}
 (hZ:∀A' c' u,bM u B A' (n+1+n1) c' (out++C.gQ::C.merge)->Kept (fun j=>bn A=some j) v u->(∀j,bn A'=some j->bn A=some j\/v.heap.size<=j)->Z A' (n+1+n1) c' u):
 ∃j1:Array Value,(j1.size=32/\Cells v ((⟨q,0,none⟩:Addr).add 0) j1)/\j1.size=32/\∃(m1:Option Addr) (n1 o1:Nat) (p1:World),(Builtin.append_ #[ay,ay] ay #[.slice A n cx,.slice (some (aR v.heap.size)) 1 1]).run prog (v.alloc (.cells (j1.toList++ []).toArray ag))=.ok (.slice m1 n1 o1) p1/\
  ∃q1:Option Addr,∃r1 t1:Nat,p1.cell? ((⟨q,0,none⟩:Addr).add 33)=some (.slice q1 r1 t1)/\∃(u1:Option Addr) (v1 x1:Nat) (y1:World),(Builtin.append_ #[ay,ay] ay #[.slice m1 n1 o1,.slice q1 r1 t1]).run prog p1=.ok (.slice u1 v1 x1) y1/\Z u1 v1 x1 y1:=by
 have k0:Kept Nil v (v.alloc (.cells (C.gQ.1.toList++ []).toArray ag)):=(Kept.refl _ _).alloc _;have hb:=jq v C.gQ;refine⟨C.gQ.1,⟨C.gQ.2.1,(mW hx).1⟩,C.gQ.2.1,?_⟩;generalize v.alloc (.cells (C.gQ.1.toList++ []).toArray ag)=w1 at k0 hb⊢;have s1:=k0.size;have lq:=aV hx;have lM:bM w1 B A n cx out:=Row.aF row k0 (fun _ _ h=>h);obtain⟨A2,c2,w2,jP,gm,g2,Oq⟩:=cK ay lM (cx:=1) hb (by omega) (by omega);have k2:Kept (fun j=>bn A=some j) w1 w2:=Kept.grown (Kept.refl _ _) g2 fun j hj _=>hj;have s2:=k2.size;have Nv:=k2.heap (k0.heap hx (fun h=>h)) hq;refine⟨A2,_,c2,w2,jP,A1,n1,c1,(mW Nv).2.2.1,?_⟩;have Jh:HS w2 A1 n1 C.merge:=(hm.same k0).aF k2 (fun b hb e=>(hA1 b hb).2 e);obtain⟨A3,c3,w3,um,mn,g3,hA3⟩:=cK ay gm (cx:=c1) Jh (by omega) (by omega);have k3:Kept (fun j=>bn A2=some j) w2 w3:=Kept.grown (Kept.refl _ _) g3 fun j hj _=>hj;refine⟨A3,_,c3,w3,um,hZ A3 c3 w3 ?_ ?_ ?_⟩
 ·rw [List.append_assoc]at mn
  exact mn
 ·refine((k0.mono fun _ _ h=>h.elim).tt k2).trans k3 (fun j hj e=>?_)
  rcases Oq j e with e|e
  ·exact e
  ·omega
 ·intro j hj
  rcases hA3 j hj with e|e
  ·rcases Oq j e with e|e
   ·exact .inl e
   ·exact .inr (by omega)
  ·exact .inr (by omega)
set_option maxHeartbeats 1000000 in
theorem vw(h:R3 w F r x k G)(hD:G.D.length<=300)(a:HT)(hc:cF G.D G.P a l)(hK:∀A cx w',bM w' w.heap.size A (fP G l).length cx (fP G l)->Kept Nil w w'->K (.slice A (fP G l).length cx) w'):
 bz prog aW.id #[.pointer (some ⟨r,0,none⟩),.agg a.1] w K:=by
 have H:=h.fk;refine aW.of ?_;unfold aW.W;intro w1 w2;have k1:Kept Nil w w1:=(Kept.refl _ _).alloc _;have uV:w1.heap[w.heap.size]? =some (.cells a.1 ag (0,0)):=aI w _;have k2:Kept Nil w1 w2:=(Kept.refl _ _).drew;clear_value w2;have Df:=k2.heap uV (fun h=>h);have jS:=k1.tt k2;clear_value w1;have h2:=h.same jS;refine Is.mk rfl ⟨_,h2.c1,a.1,⟨a.2.1,Cells.bJ Df⟩,?_⟩;refine Ao h2.X (by omega) a fun Au cu w3 l' uG ZG k3=>⟨Au,_,cu,rfl,?_⟩;have:=uG.one H.W H.gQ hc;subst this;have lD:=jS.tt k3;have hll:l'.length<=G.D.length:=hc.CB H.gQ;rw [gP (by omega) (by omega)];have ZE:=lD.size;have s2:=jS.size;have Tz:∀j,F j->j<w.heap.size:=h.lo;refine aW.cy (I:=fun s v=>Kept Nil w3 v/\((l'= []/\s=(none,0,0,-2))\/∃(j:Nat) (A:Option Addr) (cx:Nat),s=(A,(fP G (l'.drop j)).length,cx,(j:Int)-1)/\j+1<=l'.length/\bM v w3.heap.size A (fP G (l'.drop j)).length cx (fP G (l'.drop j)))) (μ:=fun s _=>(s.2.2.2+1).toNat) (s:=(none,0,0,(l'.length:Int)-2)) ⟨Kept.refl _ _,?_⟩ ?_
 ·rcases Nat.eq_zero_or_pos l'.length with h0|h0
  ·exact .inl ⟨List.eq_nil_of_length_eq_zero h0,by rw [h0];rfl⟩
  ·have e0:=FN (G:=G) (l:=l') (fun e=>by rw [e]at h0;cases h0)
   refine .inr ⟨l'.length-1,none,0,?_,by omega,?_⟩
   ·rw [e0]
    simp only [List.length_nil,Prod.mk.injEq,true_and];omega
   ·rw [e0]
    exact bM.nil _ _
 rintro⟨A,_,cx,_⟩ v ⟨kv,hs⟩;have Eo:=lD.tt kv;unfold aW.B1;rcases hs with⟨Bi,e⟩|⟨j,_,_,e,hj,row⟩
 ·cases e
  refine Split.no (by simp) ?_;rw [aS,aW.dq];have:=hK none 0 v (by rw [Bi];exact bM.nil _ _) Eo;rw [Bi]at this;exact this
 cases e;refine Split.dec (fun gE=>?_) (fun cU=>?_)
 ·simp only at gE
  have hjp:1<=j:=by omega
  have ej:((j:Int)-1)=((j-1:Nat):Int):=by omega
  obtain⟨y,hy⟩:∃y,l'[j-1]? =some y:=⟨_,List.getElem?_eq_getElem (by omega)⟩;have Uo:y∈ids G.D:=by
   obtain⟨i',j',ni,nj,g1,_,g3,g4,_⟩:=(hc.mem H.W H.gQ).1 (List.mem_of_getElem? hy);exact cS.2 ⟨nj,List.mem_of_getElem? g3,g4⟩
  have IY:=FO (G:=G) hy (by omega);rw [show j-1+1=j by omega]at IY;intro w4;have k4:Kept Nil v w4:=(Kept.refl _ _).drew;clear_value w4;have np:=kv.tt k4;have mE:=lD.tt np;have h4:=h.same mE;obtain⟨aa,ca,A1,n1,c1,B1,m1,d1,z1,z2,z3,z4,_,z5,z6⟩:=h4.Ox Uo;have Gr:=z4.len;have nv:=(ot H Uo).1;have hl4:=(bM.hs ZG).same np;have sv:=kv.size;have s4:=np.size;have U4:(fP G (l'.drop j)).length<=300*301:=by
   rw [qC];have e1:(((l'.drop j).reverse.drop 1).flatMap (jr G)).length<=((l'.drop j).reverse.drop 1).length*(G.D.length+1):=by
    have key:∀m:List HT,(∀y∈m,y∈ids G.D)->(m.flatMap (jr G)).length<=m.length*(G.D.length+1):=by
     intro m
     induction m with
     |nil=>simp
     |cons z m ih=>
      intro hz;have h1:=(ot H (hz z List.mem_cons_self)).1;have h2:=ih (fun y hy=>hz y (List.mem_cons_of_mem _ hy));rw [List.flatMap_cons,List.length_append,List.length_cons,Nat.add_mul];have h3:(jr G z).length=(G.fM z).merge.length+1:=by simp [jr]
      omega
    refine key _ fun z hz=>?_;have h1:=List.mem_of_mem_drop (List.mem_reverse.1 (List.mem_of_mem_drop hz));obtain⟨i',j',ni,nj,g1,_,g3,g4,_⟩:=(hc.mem H.W H.gQ).1 h1;exact cS.2 ⟨nj,List.mem_of_getElem? g3,g4⟩
   refine Nat.le_trans e1 (Nat.mul_le_mul ?_ (by omega));simp only [List.length_drop,List.length_reverse];omega
  have fin:∀ {u:World} {q:Nat},u.heap[q]? =some (.cells (cQ (G.fM y) A1 n1 c1 B1 m1 d1) br (0,0))->Kept Nil w4 u->w4.heap.size<=q->
   ∃j1:Array Value,(j1.size=32/\Cells u ((⟨q,0,none⟩:Addr).add 0) j1)/\j1.size=32/\∃(m1:Option Addr) (n1 o1:Nat) (p1:World),(Builtin.append_ #[ay,ay] ay #[.slice A (fP G (l'.drop j)).length cx,.slice (some (aR u.heap.size)) 1 1]).run prog (u.alloc (.cells (j1.toList++ []).toArray ag))=.ok (.slice m1 n1 o1) p1/\
    ∃q1:Option Addr,∃r1 t1:Nat,p1.cell? ((⟨q,0,none⟩:Addr).add 33)=some (.slice q1 r1 t1)/\∃(u1:Option Addr) (v1 x1:Nat) (y1:World),(Builtin.append_ #[ay,ay] ay #[.slice m1 n1 o1,.slice q1 r1 t1]).run prog p1=.ok (.slice u1 v1 x1) y1/\
     bR (aW.e1 (some ⟨r,0,none⟩) none 0 0 Au l'.length cu) (fun s v=>Kept Nil w3 v/\((l'= []/\s=(none,0,0,-2))\/∃(j:Nat) (A:Option Addr) (cx:Nat),s=(A,(fP G (l'.drop j)).length,cx,(j:Int)-1)/\j+1<=l'.length/\bM v w3.heap.size A (fP G (l'.drop j)).length cx (fP G (l'.drop j)))) (fun s _=>(s.2.2.2+1).toNat) (A,(fP G (l'.drop j)).length,cx,((j-1:Nat):Int)) v (aW.q1 K) .normal [(0,.pointer (some ⟨r,0,none⟩)),(4,.slice none 0 0),(5,.slice u1 v1 x1),(6,.slice Au l'.length cu),(7,.int .i64 (i64.wrap (((j-1:Nat):Int)-1)))] y1:=by
   intro u q hx ku hqv;have Kp:=k4.tt ku;have vr:bM u w3.heap.size A (fP G (l'.drop j)).length cx (fP G (l'.drop j)):=Row.aF row Kp (fun _ _ h=>h);have su:=ku.size;have bA:∀i,bn A=some i->w3.heap.size<=i/\i<v.heap.size:=fun i hi=>by
    obtain⟨h1,cur,lv⟩:=Row.bJ row hi;exact⟨h1,aV lv⟩
   have sk4:=k4.size;refine Ds hx vr (z4.same ku) (by omega) (fun e=>by have:=bA _ e;omega) (fun b hb=>⟨by have:=Tz _ (z6 b hb);omega,fun e=>by have:=bA _ e;have:=Tz _ (z6 b hb);omega⟩) (by omega) fun A' c' u' Pa k' EI=>?_;rw [gP (by omega) (by omega)];have el:(fP G (l'.drop (j-1))).length=(fP G (l'.drop j)).length+1+n1:=by
    rw [IY,List.length_append];simp only [jr,List.length_cons];omega
   have Th:bM u' w3.heap.size A' (fP G (l'.drop (j-1))).length c' (fP G (l'.drop (j-1))):=by
    rw [el,IY];exact Pa
   refine⟨(A',(fP G (l'.drop j)).length+1+n1,c',((j-1:Nat):Int)-1),rfl,⟨(kv.tt Kp).trans k' (fun i hi e=>by have:=bA i e;omega),.inr ⟨j-1,A',c',?_,by omega,Th⟩⟩,by simp only;omega⟩;rw [el]
  obtain⟨ad,KE,_,qP⟩:=hl4.at_ (j-1) y hy;subst KE;simp-zeta only [ej];have rK:∀ {u:World},Kept Nil w4 u->Cells u (aa.add ((xz G.D y).toNat*35)) (cQ (G.fM y) A1 n1 c1 B1 m1 d1):=fun ku=>Cells.aF z3 ku (fun h=>h);have hR:∀ {u:World},Kept Nil w4 u->R3 u F r x k G:=fun ku=>h4.same ku;have rd:∀ {u:World},Kept Nil w4 u->u.cell? ((⟨r,0,none⟩:Addr).add 2)=some (.slice (some aa) G.D.length ca):=fun ku=>ku.cell z1 (fun h=>h);refine Is.mk rfl ⟨_,_,ca,z1,Is.mk rfl ⟨_,h4.c1,Is.mk rfl ?_⟩⟩;refine⟨⟨by omega,by omega⟩,Is.mk rfl ⟨y.1,⟨y.2.1,by rw [Int.toNat_natCast];exact qP⟩,?_,?_⟩⟩
  ·rw [add_zero]
   refine ln h4.X.gr (by omega) y fun w5 k5=>⟨_,rfl,rd k5,z2,Is.mk rfl ⟨_,⟨a8 ..,rK k5⟩,?_⟩⟩;intro w6;have k6:Kept Nil w5 w6:=(Kept.refl _ _).alloc _;obtain⟨t1,t2,t3⟩:=zk w5 (G.fM y) A1 n1 c1 B1 m1 d1;have uB:=k5.tt k6;refine⟨⟨_,rfl,a8 ..,rK uB⟩,rd uB,t1,?_⟩;exact fin t2 (k5.tt t3) k5.size
  ·intro w5
   have k5:Kept Nil w4 w5:=(Kept.refl _ _).alloc _;have Nu:w5.heap[w4.heap.size]? =some (.cells zC br (0,0)):=aI w4 _;clear_value w5;refine⟨⟨_,rfl,y.2.1,by rw [Int.toNat_natCast];exact Cells.aF qP k5 (fun h=>h)⟩,(hR k5).c1,rd k5,?_⟩;rw [add_zero];refine ln (hR k5).X.gr (by omega) y fun w6 k6=>?_;have uB:=k5.tt k6;obtain⟨t1,t2,t3⟩:=dR (k6.heap Nu (fun h=>h)) (cs:=cQ (G.fM y) A1 n1 c1 B1 m1 d1) (by rw [a8];rfl);refine⟨_,rfl,rd uB,z2,Is.mk rfl ⟨_,⟨a8 ..,rK uB⟩,⟨a8 ..,dZ _ _ _ _ _ _ _,fun j hj=>t1 j (by rw [a8];exact hj)⟩,?_⟩⟩;exact fin t2 (uB.trans t3 (fun j hj e=>by omega)) (Nat.le_refl _)
 ·simp only at cU
  have hj0:j=0:=by omega
  subst hj0;rw [aS,aW.dq];unfold aW.cV;rw [List.drop_zero]at row⊢;exact hK A cx v (Row.base row (fun i hi=>by have:=(Row.bJ row hi).1;omega)) Eo
end
section
variable{r a b c:HT}(yZ:r≠a)(wQ:r≠b)(Ev:r≠c)(lE:a≠b)(EH:a≠c)(B9:b≠c)
include yZ wQ Ev lE EH B9 in
theorem Z8(cU:cU b a=true){G1 G2 G3:GS}(h1:dh 0 (dg r) a [r]=G1)(h2:dh 0 G1 b [r]=G2)(h3:dh 0 G2 c [a,b]=G3){l:List HT}(hc:cF G3.D G3.P c l):c∈ids G3.D/\fP G3 l= [r,a,b]:=by
 obtain⟨G1',G2',e1,e2,_,_,H2,_,D2,_,_,_,_,_,aa,_,ar⟩:=Z9 yZ wQ lE 0;rw [h1]at e1;subst e1;rw [h2]at e2;subst e2;obtain⟨c3,hR⟩:=kG3 yZ wQ Ev lE EH B9 cU h1 h2;have H3:fp 0 G3:=by rw [<-h3];exact H2.add c [a,b]
 have D3:G3.D= [⟨r,[]⟩,⟨a,[r]⟩,⟨b,[r]⟩,⟨c,dA [a,b]⟩]:=by rw [<-h3,qk,D2];exact(k3 Ev lE EH B9).2
 unfold oy at hR;rw [if_pos c3]at hR;have Wp:G3.fM c=⟨a,2,[b],[false]⟩:=by rw [<-h3,(lV H2 c3).1];exact hR
 have nO:c∈ids G3.D:=by rw [D3];simp [ids]
 have ham:a∈ids G3.D:=by rw [D3];simp [ids]
 have hrm:r∈ids G3.D:=by rw [D3];simp [ids]
 refine⟨nO,?_⟩;have W3:=H3.W;have S3:=H3.gQ;have Tm:∀s,mh G3.D s a->s=r:=by
  rintro s ⟨nd,hn,hid,hp⟩;rw [D3]at hn;simp only [List.mem_cons,List.not_mem_nil,or_false]at hn;rcases hn with rfl|rfl|rfl|rfl
  ·exact absurd hid yZ
  ·simpa using hp
  ·exact absurd hid lE.symm
  ·exact absurd hid EH.symm
 have HU:G3.D[0]? =some ⟨r,[]⟩:=by rw [D3];rfl
 rcases sd H3 nO hc with⟨_,⟨nd,h0,hid⟩,_⟩|⟨s,l2,rfl,hs,vY,KC,eo⟩
 ·rw [HU]at h0
  cases h0;exact absurd hid Ev
 have es:s=a:=by
  have:=(H3.up s c hs).1;rw [Wp]at this;exact this.symm
 subst es;rcases sd H3 ham KC with⟨_,⟨nd,h0,hid⟩,_⟩|⟨t,l3,rfl,ht,Yn,QZ,eo2⟩
 ·rw [HU]at h0
  cases h0;exact absurd hid yZ
 have et:t=r:=Tm t (ht.par S3);subst et;rcases sd H3 hrm QZ with⟨eo3,_,_⟩|⟨u,l4,rfl,hu,_,_,_⟩
 rotate_left
 ·exact absurd (eB.one (hu.par S3)) (ud H3 HU u)
 have hma:(G3.fM s).merge= []:=by
  rw [List.eq_nil_iff_forall_not_mem];intro y hy;obtain⟨_,_,_,_,hm⟩:=H3.up t s ht;obtain⟨rQ,sP,Cb⟩:=(hm y).1 hy;rcases rQ with rQ;obtain⟨p,hp,hor⟩:∃p,mh G3.D p s/\(y=p\/eB G3.D y p):=by
   cases rQ with
   |one hp=>exact⟨_,hp,.inl rfl⟩
   |more ha hp=>exact⟨_,hp,.inr ha⟩
  have:=Tm p hp;subst this;rcases hor with h|h
  ·exact sP h
  ·exact Cb h
 rw [eo,eo2,eo3,hma,Wp];rfl
end
section
variable{w w':World}{K:Value->World->Prop}
set_option maxHeartbeats 1000000 in
theorem CD(hT:uK w)(hK:∀w',Kept Nil w w'->K (.bool true) w'):bz prog iq.id #[] w K:=by
 let r:=hx 1 (by omega)
 let a:=hx 3 (by omega)
 let b:=hx 2 (by omega)
 let c:=hx 4 (by omega)
 have yZ:r≠a:=tw (by omega);have wQ:r≠b:=tw (by omega);have Ev:r≠c:=tw (by omega);have lE:a≠b:=tw (by omega);have EH:a≠c:=tw (by omega);have B9:b≠c:=tw (by omega);have abM:cU b a=true:=by decide
 refine iq.of ?_;unfold iq.W;intro w1 w2 w3 w4;obtain⟨⟨f1,f2,f3,f4⟩,hr,ha,hb,hc,l1,l2,l3,l4,k⟩:=four w r a b c;refine⟨⟨r.2.1,r.2.one,f1⟩,?_⟩;intro w7;refine⟨⟨a.2.1,a.2.one,f2⟩,?_⟩;intro w10;refine⟨⟨b.2.1,b.2.one,f3⟩,?_⟩;intro nn;refine⟨⟨c.2.1,c.2.one,f4⟩,?_⟩;intro jO
 replace hr:jO.heap[w.heap.size]? =some (.cells r.1 ag (0,0)):=hr
 replace ha:jO.heap[w1.heap.size]? =some (.cells a.1 ag (0,0)):=ha
 replace hb:jO.heap[w2.heap.size]? =some (.cells b.1 ag (0,0)):=hb
 replace hc:jO.heap[w3.heap.size]? =some (.cells c.1 ag (0,0)):=hc
 replace k:Kept Nil w jO:=k
 replace l1:w.heap.size<w1.heap.size:=l1
 replace l2:w1.heap.size<w2.heap.size:=l2
 replace l3:w2.heap.size<w3.heap.size:=l3
 replace l4:w3.heap.size<jO.heap.size:=l4
 clear f1 f2 f3 f4;clear_value jO;clear nn w10 w7;clear_value w3;clear w4;clear_value w2;clear_value w1;have hTl:=hT.lt;have S7:=k.size;have box:∀ {u:World} {S:Nat->Prop},Kept S jO u->(∀k,S k->jO.heap.size<=k)->Cells u (aR w.heap.size) r.1/\Cells u (aR w1.heap.size) a.1/\Cells u (aR w2.heap.size) b.1/\Cells u (aR w3.heap.size) c.1:=fun ku hS=>
  ⟨Cells.bJ (ku.heap hr (fun e=>by have:=hS _ e;omega)),Cells.bJ (ku.heap ha (fun e=>by have:=hS _ e;omega)),Cells.bJ (ku.heap hb (fun e=>by have:=hS _ e;omega)),Cells.bJ (ku.heap hc (fun e=>by have:=hS _ e;omega))⟩
 obtain⟨G1,G2,e1,e2,c1,c2,H2,D1,D2,_⟩:=Z9 yZ wQ lE 0;obtain⟨G3,e3⟩:∃G3,dh 0 G2 c [a,b]=G3:=⟨_,rfl⟩;have D3:G3.D= [⟨r,[]⟩,⟨a,[r]⟩,⟨b,[r]⟩,⟨c,dA [a,b]⟩]:=by rw [<-e3,qk,D2];exact(k3 Ev lE EH B9).2
 refine⟨r.1,⟨r.2.1,Cells.bJ hr⟩,iG r (k:=0) (by omega) fun pw cc q m C hm hq yc=>⟨_,_,rfl,Split.no rfl (Split.no rfl ?_)⟩⟩;obtain⟨b1,b2,b3,b4⟩:=box yc (fun _ h=>h.elim);refine⟨a.1,⟨a.2.1,b2⟩,r.1,⟨r.2.1,b1⟩,r.2.1,?_⟩;intro mB;have p9:Kept Nil pw mB:=(Kept.refl _ _).alloc _;have Mn:HS mB (some ⟨pw.heap.size,0,none⟩) 1 [r]:=jq pw r;clear_value mB;have CI:=yc.tt p9;have X1:=CI.size;refine mV (C.same p9) (hT.same (k.tt CI)) (fun e=>by have:=hm _ (.inl e);omega) (by simp [dg]) (by omega) Mn (by omega) a fun pv F2 m2 A2 n2 p2 E2 q2 z2 C2 _ AZ Jh _ _ _ _ _=>⟨_,_,rfl,?_⟩;rw [e1]at C2;have ZN:∀j,m2.own cc j->jO.heap.size<=j:=fun j e=>(Jh j e).elim (hm j) (fun h=>by omega);have Ni:Kept (fun q=>jO.heap.size<=q) jO pv:=(CI.mono (S':=fun q=>jO.heap.size<=q) (fun _ _ h=>h.elim)).trans AZ (fun q _ h=>hm q h);obtain⟨b1,b2,b3,b4⟩:=box Ni (fun _ h=>h);refine⟨b.1,⟨b.2.1,b3⟩,r.1,⟨r.2.1,b1⟩,r.2.1,?_⟩;intro Hv;have Nf:Kept Nil pv Hv:=(Kept.refl _ _).alloc _;have WN:HS Hv (some ⟨pv.heap.size,0,none⟩) 1 [r]:=jq pv r;clear_value Hv;have ID:=Ni.trans Nf (fun _ _ h=>h.elim);have s31:=ID.size;refine mV (C2.same Nf) ((hT.same k).aF ID (fun e=>by omega)) (fun e=>by have:=ZN _ (.inl e);omega) (by rw [D1];simp) (by omega) WN (by omega) b fun sM F3 m3 A3 n3 p3 E3 q3 z3 C3 _ CF hm3 _ _ _ _ _=>⟨_,_,rfl,?_⟩;rw [e2]at C3;have om3:∀j,m3.own cc j->jO.heap.size<=j:=fun j e=>(hm3 j e).elim (ZN j) (fun h=>by omega);have Nh:Kept (fun q=>jO.heap.size<=q) jO sM:=ID.trans CF (fun q _ h=>ZN q h);obtain⟨b1,b2,b3,b4⟩:=box Nh (fun _ h=>h)
 refine⟨c.1,⟨c.2.1,b4⟩,a.1,⟨a.2.1,b2⟩,b.1,⟨b.2.1,b3⟩,a.2.1,b.2.1,?_⟩;intro G8;have It:Kept Nil sM G8:=(Kept.refl _ _).alloc _;have Mm:HS G8 (some ⟨sM.heap.size,0,none⟩) 2 [a,b]:=HS.lay (l:= [a,b]) (t:=ag) (aI sM (.cells (df [a,b]).toArray ag));clear_value G8;have IC:=Nh.trans It (fun _ _ h=>h.elim);have s39:=IC.size;refine mV (C3.same It) ((hT.same k).aF IC (fun e=>by omega)) (fun e=>by have:=om3 _ (.inl e);omega) (by rw [D2];simp) (by omega) Mm (by omega) c fun OO F4 m4 A4 n4 p4 E4 q4 z4 C4 _ PA _ _ _ _ _ _=>⟨_,_,rfl,?_⟩;rw [e3]at C4;have IB:Kept (fun q=>jO.heap.size<=q) jO OO:=IC.trans PA (fun q _ h=>om3 q h);have s41:=IB.size;obtain⟨b1,b2,b3,b4⟩:=box IB (fun _ h=>h);refine⟨c.1,⟨c.2.1,b4⟩,?_⟩;obtain⟨l,hl⟩:=cF.ex C4.fk.gQ c;obtain⟨nO,U4⟩:=Z8 yZ wQ Ev lE EH B9 abM e1 e2 e3 hl;refine tZ C4 (by rw [D3];simp) c hl (fun e=>absurd nO e) fun _ A5 c5 EZ jI Ir=>⟨A5,_,c5,_,rfl,?_⟩;rw [U4]at jI⊢;intro Km;have Yh:Kept Nil EZ Km:=(Kept.refl _ _).drew;clear_value Km;have T4:=Ir.tt Yh;have Ng:=IB.trans T4 (fun _ _ h=>h.elim);obtain⟨b1,b2,b3,b4⟩:=box Ng (fun _ h=>h);have hs:=(bM.hs jI).same Yh;refine Split.yes rfl (Split.yes rfl ?_);refine hs.load (i:=0) (x:=r) (by omega) rfl ⟨r.1,⟨r.2.1,b1⟩,⟨r.2.ints,r.2.ints⟩,?_⟩;rw [dC];refine Split.yes (decide_eq_true rfl) ?_;refine hs.load (i:=1) (x:=a) (by omega) rfl ⟨a.1,⟨a.2.1,b2⟩,⟨a.2.ints,a.2.ints⟩,?_⟩;rw [dC];refine Split.yes (decide_eq_true rfl) ?_;refine hs.load (i:=2) (x:=b) (by omega) rfl ⟨b.1,⟨b.2.1,b3⟩,⟨b.2.ints,b.2.ints⟩,?_⟩;rw [dC,decide_eq_true rfl]
 exact hK Km (k.trans Ng (fun q hq e=>by omega))
end
section
variable{w w' v:World}{S F FP FR:Nat->Prop}{c r x:Nat}{G:GS}{m:CM}{K:Value->World->Prop}
set_option maxHeartbeats 2000000 in
theorem DA{A:Option Addr}{n cx:Nat}{l:List DN}(hl:NS w FP A n l)(hn:n<9223372036854775808)(kk:Int)(root:HT)(hT:uK w)
 (kW:∀v,Kept Nil w v->K (.tuple #[.pointer none,.pointer none,.bool false,.bool true]) v)
 (hK:∀v F c m FR r x (k:Nat),kk=(k:Int)->k<=6->adJ l 18->lC v F c m FR r x k (wI k root l)->Kept Nil w v->(∀j,m.own c j\/F j\/FR j\/j=r\/j=x->w.heap.size<=j)->K (.tuple #[.pointer (some ⟨c,0,none⟩),.pointer (some ⟨r,0,none⟩),.bool true,.bool true]) v):
 bz prog aA.id #[.int .i64 kk,.agg root.1,.slice A n cx] w K:=by
 have hlen:=hl.len;refine aA.of ?_;unfold aA.W;intro w1;have k1:Kept Nil w w1:=(Kept.refl _ _).alloc _;have zc:w1.heap[w.heap.size]? =some (.cells root.1 ag (0,0)):=aI w _;clear_value w1;refine Split.dec (fun _=>kW w1 k1) (fun KA=>Split.dec (fun _=>kW w1 k1) (fun mw=>Split.dec (fun _=>kW w1 k1) (fun Vm=>?_)));have Vm:n<=18:=by omega
 refine aA.cy (I:=fun s v=>v=w1/\∃i:Nat,s=(none,none,false,false,(i:Int))/\i<=n/\∀nd∈l.take i,nd.ps.length<=6) (μ:=fun s _=>((n:Int)-s.2.2.2.2).toNat) (s:=(none,none,false,false,0)) ⟨rfl,0,rfl,Nat.zero_le _,by simp⟩ ?_;rintro s v ⟨rfl,i,rfl,hi,dm⟩;unfold aA.B1;refine Split.dec (fun jQ=>?_) (fun gE=>?_)
 ·simp only at jQ
  have dY:i<n:=by omega
  obtain⟨nd,ft⟩:∃nd,l[i]? =some nd:=⟨_,List.getElem?_eq_getElem (by omega)⟩;refine(hl.same k1).ps (i:=(i:Int)) (by omega) (by rw [Int.toNat_natCast];exact ft) fun pA pn pc oY _=>?_;have rO:=oY.len;refine Split.dec (fun yg=>kW v k1) (fun hle=>?_);simp only;rw [gP (x:=(i:Int)+1) (by omega) (by omega)];refine⟨(none,none,false,false,(i:Int)+1),rfl,⟨rfl,i+1,rfl,dY,fun md hm=>?_⟩,by simp only;omega⟩;rw [List.take_add_one,ft]at hm;simp only [Option.toList_some,List.mem_append,List.mem_singleton]at hm;rcases hm with hm|rfl
  ·exact dm md hm
  ·omega
 simp only at gE;rw [aS,aA.dq];unfold aA.cV;rw [List.take_of_length_le (by omega)]at dm;obtain⟨k,rfl⟩:∃k':Nat,kk=(k':Int):=⟨kk.toNat,by omega⟩;have hk6:k<=6:=by omega
 have oY:∀nd∈l,nd.ps.length<=1000:=fun nd h=>by have:=dm nd h;omega
 have hn:=Vm;refine⟨root.1,⟨root.2.1,Cells.bJ zc⟩,?_⟩;refine iG root (by omega) fun w2 c q m C hm hq k2=>⟨_,_,rfl,Split.no rfl (Split.no rfl ⟨root.1,⟨root.2.1,Cells.bJ (k2.heap zc (fun h=>h))⟩,?_⟩)⟩;refine yJ root k fun w3 r x FR R hFR hr hx k3=>⟨_,rfl,?_⟩;have s1:=k1.size;have s2:=k2.size;have lD:=(k1.tt k2).tt k3;have B0:lC w3 (· =q) c m FR r x k (dg root):=⟨C.same k3,R,fun j hj=>by
  have gE:w2.heap.size<=j:=by rcases hj with rfl|rfl;exact hr;exact hx
  exact⟨fun e=>by have:=C.low j (.inl e);omega,fun e=>by have:=C.low j (.inr e);omega⟩,fun j hj e=>by have:=hFR j hj;have:=C.low j (.inl e);omega⟩
 refine aA.gS (I:=fun s v=>∃(i:Nat) (F:Nat->Prop) (m:CM) (FR:Nat->Prop),s=(none,none,false,false,(i:Int))/\i<=n/\lC v F c m FR r x k ((l.take i).foldl (fun G s=>dh k G s.id s.ps) (dg root))/\Kept Nil w v/\∀j,m.own c j\/F j\/FR j\/j=r\/j=x->w.heap.size<=j) (μ:=fun s _=>((n:Int)-s.2.2.2.2).toNat) (s:=(none,none,false,false,0)) ⟨0,(· =q),m,FR,rfl,Nat.zero_le _,B0,lD,fun j e=>by
  rcases e with e|e|e|e|e
  ·have:=hm j e;omega
  ·have e:j=q:=e;omega
  ·have:=hFR j e;omega
  ·omega
  ·omega⟩ ?_
 clear B0 hFR hm C R hq k2 k3;rintro s v ⟨i,F,m,FR,rfl,hi,B,kv,C9⟩;unfold aA.B2;refine Split.dec (fun cU=>?_) (fun gE=>?_)
 ·simp only at cU
  have dY:i<n:=by omega
  obtain⟨nd,ft⟩:∃nd,l[i]? =some nd:=⟨_,List.getElem?_eq_getElem (by omega)⟩;have om:l[((i:Nat):Int).toNat]? =some nd:=by rw [Int.toNat_natCast];exact ft
  have rO:=oY nd (List.mem_of_getElem? ft);have NB:=Dm (k:=k) (G:=dg root) ft;have YP:=tG k (l.take i) (dg root);rw [List.length_take]at YP;have hD1:(dg root).D.length=1:=rfl;generalize hG:(l.take i).foldl (fun G s=>dh k G s.id s.ps) (dg root)=G at B NB YP;have hTl:=hT.lt;have oO:=B.low;have sv:=kv.size;have j2:∀ {u:World} {F' Zf:Nat->Prop} {m':CM},lC u F' c m' Zf r x k (dh k G nd.id nd.ps)->Kept Nil w u->(∀j,m'.own c j\/F' j\/Zf j\/j=r\/j=x->w.heap.size<=j)->
   aA.J2 A n cx none none false false (some ⟨c,0,none⟩) (some ⟨r,0,none⟩) (i:Int) (dF G.D nd.id nd.ps) (dF G.D nd.id nd.ps) (bR (aA.e2 A n cx (some ⟨c,0,none⟩) (some ⟨r,0,none⟩)) (fun s v=>∃(i:Nat) (F:Nat->Prop) (m:CM) (FR:Nat->Prop),s=(none,none,false,false,(i:Int))/\i<=n/\lC v F c m FR r x k ((l.take i).foldl (fun G s=>dh k G s.id s.ps) (dg root))/\Kept Nil w v/\∀j,m.own c j\/F j\/FR j\/j=r\/j=x->w.heap.size<=j) (fun s _=>((n:Int)-s.2.2.2.2).toNat) (none,none,false,false,(i:Int)) v (aA.q2 K)) u:=by
   intro u F' Zf m' B' ku aci;unfold aA.J2;refine Split.no (by simp) ?_;rw [dH (n:=(i:Int)) (by omega) (by omega)];refine⟨(none,none,false,false,(i:Int)+1),rfl,⟨i+1,F',m',Zf,rfl,dY,?_,ku,aci⟩,by simp only;omega⟩;rw [NB];exact B'
  have j1:∀ {u u0:World} {F':Nat->Prop} {m':CM},CV u0 F' c k (dh k G nd.id nd.ps) m'->Kept (m.own c) v u0->(∀j,m'.own c j->m.own c j\/v.heap.size<=j)->(∀j,F' j->F j\/v.heap.size<=j)->Kept Nil u0 u->
   aA.J1 A n cx none none false false (some ⟨c,0,none⟩) (some ⟨r,0,none⟩) (i:Int) (dF G.D nd.id nd.ps) (bR (aA.e2 A n cx (some ⟨c,0,none⟩) (some ⟨r,0,none⟩)) (fun s v=>∃(i:Nat) (F:Nat->Prop) (m:CM) (FR:Nat->Prop),s=(none,none,false,false,(i:Int))/\i<=n/\lC v F c m FR r x k ((l.take i).foldl (fun G s=>dh k G s.id s.ps) (dg root))/\Kept Nil w v/\∀j,m.own c j\/F j\/FR j\/j=r\/j=x->w.heap.size<=j) (fun s _=>((n:Int)-s.2.2.2.2).toNat) (none,none,false,false,(i:Int)) v (aA.q2 K)) u:=by
   intro u u0 F' m' hC k0 ny Jx ku;unfold aA.J1;have Z0:Kept Nil w u0:=kv.trans k0 (fun j hj e=>by have:=C9 j (.inl e);omega);have RO:Kept Nil w u:=Z0.tt ku;have suv:=k0.size;have suu:=ku.size;intro u1;have Ga:Kept Nil u u1:=(Kept.refl _ _).drew;clear_value u1;have F7:=RO.tt Ga;have s11:=Ga.size;have Ul:∀ {t:World},Kept Nil w t->Cells t (((A.get!).add (((i:Nat):Int).toNat*33)).add 0) nd.id.1:=by
    intro t kt;obtain⟨a,pA,pn,pc,rfl,_,_,h4,_,_⟩:=(hl.aF kt (fun _ _ h=>h)).at_ i nd ft;intro j z hj;rw [add_zero,Int.toNat_natCast];exact h4 j z (vB hj)
   have ps1:∃a pA pn pc,A=some a/\HS w pA pn nd.ps/\∀ {t:World},Kept Nil w t->t.cell? ((a.add (((i:Nat):Int).toNat*33)).add 32)=some (.slice pA pn pc):=by
    obtain⟨a,pA,pn,pc,rfl,_,_,h4,h5,_⟩:=hl.at_ i nd ft;exact⟨a,pA,pn,pc,rfl,h5,fun kt=>by rw [Int.toNat_natCast];exact kt.cell (h4 32 _ (qz _ _)) (fun h=>h)⟩
   obtain⟨a,pA,pn,pc,rfl,CY,qP⟩:=ps1;have LQ:=CY.len;have hb:0<=(i:Int)/\(i:Int)<(n:Int):=⟨by omega,by omega⟩;refine⟨hb,Is.mk rfl ⟨nd.id.1,⟨nd.id.2.1,Ul F7⟩,hb,Is.mk rfl ⟨pA,pn,pc,qP F7,?_,?_⟩⟩⟩
   ·obtain⟨hR,Q9⟩:=B.after k0 ny Jx hC (ku.tt Ga)
    refine vx hR (by omega) (by omega) (CY.same F7) (by omega) nd.id fun t A2 n2 p2 E2 e2 q2 hRt kt Jh kX ac5=>⟨_,_,rfl,?_⟩;have B':=Q9 t hRt kt;have st:=kt.size;intro t1;have kt1:Kept Nil t t1:=(Kept.refl _ _).alloc _;have Nw:t1.heap[t.heap.size]? =some (.cells zC br (0,0)):=aI t _;clear_value t1;obtain⟨z1,z2,z3⟩:=dR Nw (cs:=cQ (oy k G nd.id nd.ps) A2 n2 p2 E2 e2 q2) (by rw [a8];rfl);refine⟨⟨a8 ..,dZ _ _ _ _ _ _ _,fun j hj=>z1 j (by rw [a8];exact hj)⟩,?_⟩;have kt2:Kept Nil t (setCells t1 ⟨t.heap.size,0,none⟩ (cQ (oy k G nd.id nd.ps) A2 n2 p2 E2 e2 q2).toList 0):=kt1.trans z3 (fun j hj e=>by omega);refine aA.q9 (j2 (B'.same kt2) (F7.trans (kt.trans kt2 (fun _ _ h=>h.elim)) (fun j hj e=>by have:=C9 j (.inr (.inr (.inr e)));omega)) fun j e=>?_);rcases e with e|e|(e|e)|e
    ·rcases ny j e with e|e
     ·exact C9 j (.inl e)
     ·omega
    ·rcases Jx j e with e|e
     ·exact C9 j (.inr (.inl e))
     ·omega
    ·exact C9 j (.inr (.inr (.inl e)))
    ·omega
    ·exact C9 j (.inr (.inr (.inr e)))
   ·intro u2
    have Kq:Kept Nil u1 u2:=(Kept.refl _ _).alloc _;have Nv:u2.heap[u1.heap.size]? =some (.cells zC br (0,0)):=aI u1 _;clear_value u2;have Li:=F7.tt Kq;have s22:=Kq.size;refine⟨qP Li,⟨_,rfl,nd.id.2.1,Ul Li⟩,?_⟩;obtain⟨hR,Q9⟩:=B.after k0 ny Jx hC ((ku.tt Ga).tt Kq);refine vx hR (by omega) (by omega) (CY.same Li) (by omega) nd.id fun t A2 n2 p2 E2 e2 q2 hRt kt Jh kX ac5=>⟨_,_,rfl,?_⟩;have B':=Q9 t hRt kt;have st:=kt.size;have nrx:∀j,v.heap.size<=j->¬(j=r\/j=x):=fun j hj e=>by have:=oO j (.inr (.inr (.inr e)));omega
    have hxt:=kt.heap Nv (nrx _ (by omega));obtain⟨z1,z2,z3⟩:=dR hxt (cs:=cQ (oy k G nd.id nd.ps) A2 n2 p2 E2 e2 q2) (by rw [a8];rfl);refine⟨⟨a8 ..,dZ _ _ _ _ _ _ _,fun j hj=>z1 j (by rw [a8];exact hj)⟩,?_⟩;have lo0:∀j,m'.own c j\/F' j->j<u1.heap.size:=fun j e=>by have:=hC.low j e;omega
    have B2:lC (setCells t ⟨u1.heap.size,0,none⟩ (cQ (oy k G nd.id nd.ps) A2 n2 p2 E2 e2 q2).toList 0) F' c m' (fun j=>FR j\/(u2.heap.size<=j/\j<t.heap.size)) r x k (dh k G nd.id nd.ps):=B'.aF z3 (fun j e e'=>by
     have l1:=aV Nv;rcases e with e|e|(e|e)|e
     ·have:=lo0 j (.inl e);omega
     ·have:=lo0 j (.inr e);omega
     ·have:=B.R.lo j e;omega
     ·omega
     ·have:=oO j (.inr (.inr (.inr e)));omega)
    have kut:Kept (fun j=>j=r\/j=x) u t:=((Ga.tt Kq).mono fun _ _ h=>h.elim).tt kt;have ah4:Kept (fun j=>j=r\/j=x) u _:=kut.trans z3 (fun j hj e=>by omega);refine aA.q9 (j2 B2 ((Li.trans kt (fun j hj e=>by have:=C9 j (.inr (.inr (.inr e)));omega)).trans z3 (fun j hj e=>by have:=F7.size;omega)) fun j e=>?_)
    ·rcases e with e|e|(e|e)|e
     ·rcases ny j e with e|e
      ·exact C9 j (.inl e)
      ·omega
     ·rcases Jx j e with e|e
      ·exact C9 j (.inr (.inl e))
      ·omega
     ·exact C9 j (.inr (.inr (.inl e)))
     ·omega
     ·exact C9 j (.inr (.inr (.inr e)))
  intro w2;have k2:Kept Nil v w2:=(Kept.refl _ _).drew;clear_value w2;have TI:=kv.tt k2;have sv2:=k2.size;have Ul:∀ {t:World},Kept Nil w t->Cells t ((A.get!.add (((i:Nat):Int).toNat*33)).add 0) nd.id.1:=by
   intro t kt;obtain⟨a,pA,pn,pc,rfl,_,_,h4,_,_⟩:=(hl.aF kt (fun _ _ h=>h)).at_ i nd ft;intro j z hj;rw [add_zero,Int.toNat_natCast];exact h4 j z (vB hj)
  obtain⟨a,pA,pn,pc,hA,CY,qP⟩:∃a pA pn pc,A=some a/\HS w pA pn nd.ps/\∀ {t:World},Kept Nil w t->t.cell? ((a.add (((i:Nat):Int).toNat*33)).add 32)=some (.slice pA pn pc):=by
   obtain⟨a,pA,pn,pc,hA,_,_,h4,h5,_⟩:=hl.at_ i nd ft;exact⟨a,pA,pn,pc,hA,h5,fun kt=>by rw [Int.toNat_natCast];exact kt.cell (h4 32 _ (qz _ _)) (fun h=>h)⟩
  subst hA;have LQ:=CY.len;have hb:0<=(i:Int)/\(i:Int)<(n:Int):=⟨by omega,by omega⟩;have KF:¬m.SX (Tryz.kh.g 1):=fun e=>by have:=C9 _ (.inl (.inl e));omega
  refine⟨hb,Is.mk rfl ⟨nd.id.1,⟨nd.id.2.1,Ul TI⟩,hb,Is.mk rfl ⟨pA,pn,pc,qP TI,?_,?_⟩⟩⟩
  ·refine mV (B.C.same k2) (hT.same TI) KF (by omega) (by omega) (CY.same TI) (by omega) nd.id fun u F' m' A1 n1 p1 E1 e1 q1 hC _ ku ny Jx rA rE _ _=>⟨_,_,rfl,?_⟩
   intro u1;have Ga:Kept Nil u u1:=(Kept.refl _ _).alloc _;have Nw:u1.heap[u.heap.size]? =some (.cells zC br (0,0)):=aI u _;clear_value u1;obtain⟨z1,z2,z3⟩:=dR Nw (cs:=cQ (oy k G nd.id nd.ps) A1 n1 p1 E1 e1 q1) (by rw [a8];rfl);refine⟨⟨a8 ..,dZ _ _ _ _ _ _ _,fun j hj=>z1 j (by rw [a8];exact hj)⟩,?_⟩;have Kq:Kept Nil u (setCells u1 ⟨u.heap.size,0,none⟩ (cQ (oy k G nd.id nd.ps) A1 n1 p1 E1 e1 q1).toList 0):=Ga.trans z3 (fun j hj e=>by omega);have su:=ku.size;refine aA.oX (j1 hC ((k2.mono fun _ _ h=>h.elim).tt ku) (fun j e=>(ny j e).imp (fun h=>h) (fun h=>by omega)) (fun j e=>(Jx j e).imp (fun h=>h) (fun h=>by omega)) Kq)
  ·intro w3
   have k3:Kept Nil w2 w3:=(Kept.refl _ _).alloc _;have CO:w3.heap[w2.heap.size]? =some (.cells zC br (0,0)):=aI w2 _;clear_value w3;have M6:=TI.tt k3;have s23:=k3.size;have l3:=aV CO;refine⟨qP M6,⟨_,rfl,nd.id.2.1,Ul M6⟩,?_⟩;refine mV (B.C.same (k2.tt k3)) (hT.same M6) KF (by omega) (by omega) (CY.same M6) (by omega) nd.id fun u F' m' A1 n1 p1 E1 e1 q1 hC _ ku ny Jx rA rE _ _=>⟨_,_,rfl,?_⟩;have su:=ku.size;have hxu:=ku.heap CO (fun e=>by have:=oO _ (.inl e);omega);obtain⟨z1,z2,z3⟩:=dR hxu (cs:=cQ (oy k G nd.id nd.ps) A1 n1 p1 E1 e1 q1) (by rw [a8];rfl);refine⟨⟨a8 ..,dZ _ _ _ _ _ _ _,fun j hj=>z1 j (by rw [a8];exact hj)⟩,?_⟩;have no1:∀j,m'.own c j->j≠w2.heap.size:=fun j e e'=>by
    rcases ny j e with e|e
    ·have:=oO j (.inl e);omega
    ·omega
   have no2:∀j,F' j->j≠w2.heap.size:=fun j e e'=>by
    rcases Jx j e with e|e
    ·have:=oO j (.inr (.inl e));omega
    ·omega
   refine aA.oX (j1 (hC.aF z3 no1 no2) ((((k2.tt k3).mono fun _ _ h=>h.elim).tt ku).trans z3 (fun j hj e=>by omega)) (fun j e=>(ny j e).imp (fun h=>h) (fun h=>by omega)) (fun j e=>(Jx j e).imp (fun h=>h) (fun h=>by omega)) (Kept.refl _ _))
 ·simp only at gE
  have:i=n:=by omega
  subst this;rw [aS,aA.jU];rw [List.take_of_length_le (by omega)]at B;exact hK v F c m FR r x k rfl hk6 ⟨dm,by omega⟩ B kv C9
end
section
variable{w w' v:World}{F FP FR:Nat->Prop}{c r x k:Nat}{G:GS}{m:CM}{K:Value->World->Prop}{ch:List HT}{h z:HT}
def OC(l:List HT)(h:HT)(p:Int):Prop:=(h∉l/\p= -1)\/∃t:Nat,l[t]? =some h/\p=(t:Int)
set_option maxHeartbeats 2000000 in
theorem FI{Q:aP}{A Au:Option Addr}{na ca nu cu eb ob:Nat}{i j p qq:Int}(B:lC v F c m FR r x k G)(hD:G.D.length<=40)(hC:DM k G)(hO:Own k G)(hz:z∈ids G.D)(hh:h∈ids G.D)(mz:cF G.D G.P z ch)
 (R1:HS v Au nu ch) (he:v.heap[eb]? =some (.cells z.1 ag (0,0))) (ho:v.heap[ob]? =some (.cells h.1 ag (0,0))) (hw:OC (fP G ch) h p)
 (hq:∀u,Kept Nil v u->Q .normal [(6,.bool false),(7,.pointer (some ⟨c,0,none⟩)),(8,.pointer (some ⟨r,0,none⟩)),(11,.int .i64 i),(12,.pointer (some ⟨eb,0,none⟩)),(13,.slice A na ca),(14,.slice Au nu cu),(15,.int .i64 (i64.wrap (j+1)))] u):
 al.sK false (some ⟨c,0,none⟩) (some ⟨r,0,none⟩) i ⟨eb,0,none⟩ A na ca Au nu cu j ⟨ob,0,none⟩ p qq Q v:=by
 have H:=B.C.fk;have W:=H.W;obtain⟨p1,p2,p3⟩:=se hC hO H ch z hz mz;have Mi:=mz.CB H.gQ;have hnu:=R1.len;unfold al.sK;refine⟨h.1,⟨h.2.1,Cells.bJ ho⟩,z.1,⟨z.2.1,Cells.bJ he⟩,?_⟩;rcases hw with⟨kW,rfl⟩|⟨t,ht,rfl⟩
 ·refine pW B.C (by omega) h z mz (fun _ w1 k1=>⟨_,_,rfl,?_⟩) fun _ _ w1 i hi _ _=>absurd (List.mem_of_getElem? hi) kW
  refine⟨h.1,⟨h.2.1,Cells.bJ (k1.heap ho (fun h=>h))⟩,z.1,⟨z.2.1,Cells.bJ (k1.heap he (fun h=>h))⟩,?_⟩;refine uc (B.same k1).C (by omega) h z mz (fun _ w2 k2=>⟨_,_,rfl,?_⟩) fun y w2 hy hay k2=>⟨_,_,rfl,?_⟩
  ·have jS:=k1.tt k2
   intro w3;obtain⟨t1,t2,t3⟩:=oo w2 dz;refine⟨t1,?_⟩;intro w4
   replace t3:Kept Nil w2 w4:=t3
   exact Split.yes (decide_eq_true (by omega)) (Split.no rfl (Split.no rfl (hq w4 (jS.tt t3))))
  ·exact absurd (by rw [qC,List.mem_flatMap];exact⟨y,hy,hay⟩) kW
 ·have hmo:h∈fP G ch:=List.mem_of_getElem? ht
  have key:∀i:Nat,(fP G ch)[i]? =some h->i=t:=fun i hi=>by
   obtain⟨h1,h2⟩:=lgeS hi;obtain⟨h3,h4⟩:=lgeS ht;exact(List.getElem_inj p1).1 (h2.trans h4.symm)
  refine pW B.C (by omega) h z mz (fun e=>?_) fun _ _ w1 i' C8 _ k1=>⟨_,_,rfl,?_⟩
  ·rcases e with e|e
   ·exact absurd ⟨hh,hz⟩ e
   ·exact absurd hmo e
  have:=key i' C8;subst this;refine⟨h.1,⟨h.2.1,Cells.bJ (k1.heap ho (fun h=>h))⟩,z.1,⟨z.2.1,Cells.bJ (k1.heap he (fun h=>h))⟩,?_⟩;refine uc (B.same k1).C (by omega) h z mz (fun e=>?_) fun y w2 hy hay k2=>⟨_,_,rfl,?_⟩
  ·rcases e with e|e
   ·exact absurd ⟨hh,hz⟩ e
   ·exact absurd hmo e
  have hyc:y∈ch:=List.mem_reverse.1 (List.mem_of_mem_drop hy);have Uo:=BH H mz y hyc;have jS:=k1.tt k2;intro w3;obtain⟨t1,t2,t3⟩:=oo w2 y;refine⟨t1,?_⟩;intro w4
  replace t2:w4.heap[w2.heap.size]? =some (.cells y.1 ag (0,0)):=t2
  replace t3:Kept Nil w2 w4:=t3
  clear_value w4;have mE:=jS.tt t3;refine Split.no (decide_eq_false (by omega)) (Split.no rfl (Split.no rfl (Split.no (by simp) ⟨y.1,⟨y.2.1,Cells.bJ t2⟩,?_⟩)));refine tg y (R1.same mE) (by omega) fun w5 k5=>⟨_,rfl,Split.no (by rw [decide_eq_true hyc];rfl) ?_⟩;have qM:=mE.tt k5;intro w6;have k6:Kept Nil w5 w6:=(Kept.refl _ _).drew;clear_value w6;have o8:=qM.tt k6;have B6:=B.same o8;have ty6:=(k5.tt k6).heap t2 (fun h=>h);obtain⟨aa,ca',A1,n1,c1,B1,m1,d1,z1,z2,z3,z4,_,z5,z6⟩:=B6.R.Ox Uo;have nv:=(ot H Uo).1;have Gr:=z4.len;have rK:∀ {u:World},Kept Nil w6 u->Cells u (aa.add ((xz G.D y).toNat*35)) (cQ (G.fM y) A1 n1 c1 B1 m1 d1):=fun ku=>Cells.aF z3 ku (fun h=>h);have rd:∀ {u:World},Kept Nil w6 u->u.cell? ((⟨r,0,none⟩:Addr).add 2)=some (.slice (some aa) G.D.length ca'):=fun ku=>ku.cell z1 (fun h=>h);have fin:∀ {u:World} {q:Nat},u.heap[q]? =some (.cells (cQ (G.fM y) A1 n1 c1 B1 m1 d1) br (0,0))->Kept Nil w6 u->
   ∃ke:Array Value,(ke.size=32/\Cells u ((⟨q,0,none⟩:Addr).add 0) ke)/\∃me:Array Value,(me.size=32/\Cells u (⟨ob,0,none⟩:Addr) me)/\(dw .u8 32 ke/\dw .u8 32 me)/\Split (!(dU ke me)) (∃ne:Option Addr,∃oe pe:Nat,u.cell? ((⟨q,0,none⟩:Addr).add 33)=some (.slice ne oe pe)/\∃qe:Array Value,(qe.size=32/\Cells u (⟨ob,0,none⟩:Addr) qe)/\
    bz prog cR.id #[.slice ne oe pe,.agg qe] u fun re te=>∃ue:Bool,re=.bool ue/\Split (!ue) (Q .ret [(6,.bool false),(7,.pointer (some ⟨c,0,none⟩)),(8,.pointer (some ⟨r,0,none⟩)),(11,.int .i64 i),(12,.pointer (some ⟨eb,0,none⟩)),(13,.slice A na ca),(14,.slice Au nu cu),(15,.int .i64 j)] te) (Q .normal [(6,.bool false),(7,.pointer (some ⟨c,0,none⟩)),(8,.pointer (some ⟨r,0,none⟩)),(11,.int .i64 i),(12,.pointer (some ⟨eb,0,none⟩)),(13,.slice A na ca),(14,.slice Au nu cu),(15,.int .i64 (i64.wrap (j+1)))] te))
    (Q .normal [(6,.bool false),(7,.pointer (some ⟨c,0,none⟩)),(8,.pointer (some ⟨r,0,none⟩)),(11,.int .i64 i),(12,.pointer (some ⟨eb,0,none⟩)),(13,.slice A na ca),(14,.slice Au nu cu),(15,.int .i64 (i64.wrap (j+1)))] u):=by
   intro u q hx ku;have Nk:=o8.tt ku;obtain⟨f1,_,f3,_⟩:=mW hx;have B7:=Cells.bJ (Nk.heap ho (fun h=>h));refine⟨_,⟨(G.fM y).gQ.2.1,f1⟩,h.1,⟨h.2.1,B7⟩,⟨(G.fM y).gQ.2.ints,h.2.ints⟩,?_⟩;rw [dC];by_cases hs:(G.fM y).gQ=h
   ·exact Split.no (by rw [decide_eq_true hs];rfl) (hq u Nk)
   ·refine Split.yes (by rw [decide_eq_false hs];rfl) ⟨A1,n1,c1,f3,h.1,⟨h.2.1,B7⟩,?_⟩
    have hm:h∈(G.fM y).merge:=by
     rcases List.mem_cons.1 hay with e|e
     ·exact absurd e.symm hs
     ·exact e
    exact tg h (z4.same ku) (by omega) fun w8 k8=>⟨_,rfl,Split.no (by rw [decide_eq_true hm];rfl) (hq w8 (Nk.tt k8))⟩
  refine Is.mk rfl ⟨_,_,ca',z1,Is.mk rfl ⟨_,B6.R.c1,Is.mk rfl ⟨y.1,⟨y.2.1,Cells.bJ ty6⟩,?_,?_⟩⟩⟩
  ·rw [add_zero]
   refine ln B6.R.X.gr (by omega) y fun w7 k7=>⟨_,rfl,rd k7,z2,Is.mk rfl ⟨_,⟨a8 ..,rK k7⟩,?_⟩⟩;intro w8;have k8:Kept Nil w7 w8:=(Kept.refl _ _).alloc _;obtain⟨t1,t2,t3⟩:=zk w7 (G.fM y) A1 n1 c1 B1 m1 d1;have Io:=k7.tt k8;refine⟨⟨_,rfl,a8 ..,rK Io⟩,rd Io,t1,?_⟩;exact fin t2 (k7.tt t3)
  ·intro w7
   have k7:Kept Nil w6 w7:=(Kept.refl _ _).alloc _;have Uq:w7.heap[w6.heap.size]? =some (.cells zC br (0,0)):=aI w6 _;clear_value w7;refine⟨⟨_,rfl,y.2.1,Cells.bJ (k7.heap ty6 (fun h=>h))⟩,(B6.same k7).R.c1,rd k7,?_⟩;rw [add_zero];refine ln (B6.same k7).R.X.gr (by omega) y fun w8 k8=>?_;have Io:=k7.tt k8;obtain⟨t1,t2,t3⟩:=dR (k8.heap Uq (fun h=>h)) (cs:=cQ (G.fM y) A1 n1 c1 B1 m1 d1) (by rw [a8];rfl);refine⟨_,rfl,rd Io,z2,Is.mk rfl ⟨_,⟨a8 ..,rK Io⟩,⟨a8 ..,dZ _ _ _ _ _ _ _,fun j hj=>t1 j (by rw [a8];exact hj)⟩,?_⟩⟩;exact fin t2 (Io.trans t3 (fun j hj e=>by omega))
set_option maxHeartbeats 2000000 in
theorem Ar{A:Option Addr}{n cx:Nat}{l:List DN}(hl:NS w FP A n l)(hn:n<9223372036854775808)(k:Int)(root:HT)(hT:uK w)(hK:∀w',Kept Nil w w'->K (.bool true) w'):
 bz prog al.id #[.int .i64 k,.agg root.1,.slice A n cx] w K:=by
 have hlen:=hl.len;refine al.of ?_;unfold al.W;intro w1;have k1:Kept Nil w w1:=(Kept.refl _ _).alloc _;have ns:w1.heap[w.heap.size]? =some (.cells root.1 ag (0,0)):=aI w _;clear_value w1;have kn:∀ {v:World},Kept Nil w v->bz prog iq.id #[] v fun v3 w_4=>∃t:Bool,v3=.bool t/\K (.bool t) w_4:=fun k=>CD (hT.same k) fun w4 k4=>⟨true,rfl,hK w4 (k.tt k4)⟩;refine⟨root.1,⟨root.2.1,Cells.bJ ns⟩,?_⟩;refine DA (hl.same k1) hn k root (hT.same k1) (fun v kv=>⟨_,_,false,true,rfl,Split.yes rfl (Split.yes rfl (kn (k1.tt kv)))⟩) fun w2 F c m FR r x k hk hk6 acn B k2 _=>⟨_,_,true,true,rfl,Split.no rfl (Split.no rfl ?_)⟩;have YP:=Dx k root l;have hf2:=acn.2;have hC:=GO k root l;have hO:=GM k root l;generalize wI k root l=G at B YP hC hO;have jS:=k1.tt k2;have H:=B.C.fk;have W:=H.W;refine al.cy (I:=fun s v=>∃i:Nat,s=(false,(i:Int))/\i<=G.D.length/\Kept Nil w2 v) (μ:=fun s _=>((G.D.length:Int)-s.2).toNat) (s:=(false,0)) ⟨0,rfl,Nat.zero_le _,Kept.refl _ _⟩ ?_;rintro s v ⟨i,rfl,hi,kv⟩;unfold al.B1;have Bv:=B.same kv;obtain⟨A0,c0,q1,sO⟩:=Bv.R.graph;refine Is.mk rfl ⟨_,Bv.R.c1,Is.mk rfl ⟨A0,_,c0,q1,Split.dec (fun cU=>?_) (fun gE=>?_)⟩⟩
 ·simp only at cU
  have dY:i<G.D.length:=by omega
  obtain⟨nd,ft⟩:∃nd,G.D[i]? =some nd:=⟨_,List.getElem?_eq_getElem dY⟩;have fQ:nd.id∈ids G.D:=cS.2 ⟨nd,List.mem_of_getElem? ft,rfl⟩;refine Is.mk rfl ⟨_,Bv.R.c1,Is.mk rfl ⟨A0,_,c0,q1,sO.id (i:=(i:Int)) (by omega) (by rw [Int.toNat_natCast];exact ft) ?_⟩⟩;intro w3;obtain⟨t1,t2,t3⟩:=oo v nd.id;refine⟨t1,?_⟩;intro w4
  replace t2:w4.heap[v.heap.size]? =some (.cells nd.id.1 ag (0,0)):=t2
  replace t3:Kept Nil v w4:=t3
  clear_value w4;have np:=kv.tt t3;obtain⟨ch,mz⟩:=cF.ex H.gQ nd.id;have Mi:=mz.CB H.gQ;obtain⟨p1,p2,p3⟩:=se hC hO H ch nd.id fQ mz;obtain⟨q1',q2'⟩:=K8 hC hO H fQ mz;have Ja:(dG G.D [nd.id]).length<=G.D.length:=mL _ _;refine⟨nd.id.1,⟨nd.id.2.1,Cells.bJ t2⟩,?_⟩;refine vw (B.same np).R (by omega) nd.id mz fun A5 c5 w5 jI k5=>⟨A5,_,c5,rfl,?_⟩;have AQ:=np.tt k5;intro w6;have k6:Kept Nil w5 w6:=(Kept.refl _ _).drew;clear_value w6;have uB:=k5.tt k6;have Lk:=np.tt uB;have B6:=B.same Lk;refine Is.mk rfl ⟨_,B6.R.c1,nd.id.1,⟨nd.id.2.1,Cells.bJ (uB.heap t2 (fun h=>h))⟩,?_⟩;refine Ao B6.R.X (by omega) nd.id fun A7 c7 w7 KI Mj FD k7=>⟨A7,_,c7,rfl,?_⟩;have ech:=Mj.one W H.gQ mz;subst ech;have kv7:=Lk.tt k7;have Pz:=uB.tt k7;have dm:=(bM.hs jI).same (k6.tt k7);have R1:=bM.hs FD;have t27:=Pz.heap t2 (fun h=>h);generalize hNa:(fP G KI).length=na at dm;generalize hvb:v.heap.size=vb at t27;refine al.gS (I:=fun s u=>∃j:Nat,s=(false,(j:Int))/\j<=G.D.length/\Kept Nil w7 u) (μ:=fun s _=>((G.D.length:Int)-s.2).toNat) (s:=(false,0)) ⟨0,rfl,Nat.zero_le _,Kept.refl _ _⟩ ?_;rintro s u ⟨j,rfl,hj,ku⟩;unfold al.B2;have Kp:=kv7.tt ku;have Bu:=B.same Kp;obtain⟨A8,c8,q8,aby⟩:=Bu.R.graph;refine Is.mk rfl ⟨_,Bu.R.c1,Is.mk rfl ⟨A8,_,c8,q8,Split.dec (fun L6=>?_) (fun QM=>?_)⟩⟩
  ·simp only at L6
   have tF:j<G.D.length:=by omega
   obtain⟨md,v7⟩:∃md,G.D[j]? =some md:=⟨_,List.getElem?_eq_getElem tF⟩;have abC:md.id∈ids G.D:=cS.2 ⟨md,List.mem_of_getElem? v7,rfl⟩;refine Is.mk rfl ⟨_,Bu.R.c1,Is.mk rfl ⟨A8,_,c8,q8,aby.id (i:=(j:Int)) (by omega) (by rw [Int.toNat_natCast];exact v7) ?_⟩⟩;intro w9;obtain⟨u1,u2,u3⟩:=oo u md.id;refine⟨u1,?_⟩;intro w10
   replace u2:w10.heap[u.heap.size]? =some (.cells md.id.1 ag (0,0)):=u2
   replace u3:Kept Nil u w10:=u3
   clear_value w10;have TS:=ku.tt u3;generalize hub:u.heap.size=ub at u2;simp only;refine al.sk (I:=fun s t=>∃q:Nat,s.2=(q:Int)/\q<=na/\Kept Nil w10 t/\OC ((fP G KI).take q) md.id s.1) (μ:=fun s _=>((na:Int)-s.2).toNat) (s:=(-1,0)) ⟨0,rfl,Nat.zero_le _,Kept.refl _ _,.inl ⟨by simp,rfl⟩⟩ ?_;rintro⟨p,_⟩ t ⟨q,e,hq,kt,hw⟩;simp only at e hw;subst e;unfold al.B3;have Ye:=TS.tt kt;refine Split.dec (fun abO=>?_) (fun ab8=>?_)
   ·simp only at abO
    have Hc:q<na:=by omega
    obtain⟨y,hy⟩:∃y,(fP G KI)[q]? =some y:=⟨_,List.getElem?_eq_getElem (by omega)⟩;intro qU;have Hb:Kept Nil t qU:=(Kept.refl _ _).drew;clear_value qU;have Lo:=kt.tt Hb;refine HS.load (dm.same (TS.tt Lo)) (i:=(q:Int)) (x:=y) (by omega) (by rw [Int.toNat_natCast];exact hy) ⟨md.id.1,⟨md.id.2.1,Cells.bJ (Lo.heap u2 (fun h=>h))⟩,⟨y.2.ints,md.id.2.ints⟩,?_⟩;rw [dC];have Ve:=p1;have yV:∀e:HT,e∈(fP G KI).take q->e≠y:=fun e he ee=>by
     subst ee;have h1:(fP G KI)=(fP G KI).take q++(fP G KI).drop q:=(List.take_append_drop _ _).symm;rw [h1]at Ve;have hd:=(List.nodup_append.1 Ve).2.2;refine hd e he e ?_ rfl;rw [List.drop_eq_getElem_cons (by omega)];rw [(lgeS hy).2];exact List.mem_cons_self
    refine Split.dec (fun he=>?_) (fun fD=>?_)
    ·subst he
     simp only;rw [dH (n:=(q:Int)) (by omega) (by omega)];refine⟨((q:Int),(q:Int)+1),rfl,⟨q+1,rfl,Hc,Lo,.inr ⟨q,?_,rfl⟩⟩,by simp only;omega⟩;rw [List.getElem?_take,if_pos (by omega)];exact hy
    ·simp only
     rw [dH (n:=(q:Int)) (by omega) (by omega)];refine⟨(p,(q:Int)+1),rfl,⟨q+1,rfl,Hc,Lo,?_⟩,by simp only;omega⟩;rcases hw with⟨h1,h2⟩|⟨t0,h1,h2⟩
     ·refine .inl ⟨fun hm=>?_,h2⟩
      rcases(bN hy).1 hm with hm|hm
      ·exact h1 hm
      ·exact fD hm.symm
     ·refine .inr ⟨t0,?_,h2⟩
      rw [List.getElem?_take]at h1⊢;split at h1
      ·rw [if_pos (by omega)];exact h1
      ·cases h1
   ·rw [aS,al.yz]
    simp only at ab8;rw [List.take_of_length_le (by omega)]at hw;have Pn:=kv7.tt Ye;refine FI (B.same Pn) (by omega) hC hO fQ abC Mj (R1.same Ye) (Ye.heap t27 (fun h=>h)) (kt.heap u2 (fun h=>h)) hw fun u' Kr=>?_;rw [dH (n:=(j:Int)) (by omega) (by omega)];exact⟨(false,(j:Int)+1),rfl,⟨j+1,rfl,tF,Ye.tt Kr⟩,by simp only;omega⟩
  ·rw [aS,al.jU]
   unfold al.iI;simp only;rw [dH (n:=(i:Int)) (by omega) (by omega)];exact⟨(false,(i:Int)+1),rfl,⟨i+1,rfl,dY,Kp⟩,by simp only;omega⟩
 ·rw [aS,al.dq]
  exact kn (jS.tt kv)
end
end Go.Proofs.YtfleamccglihoaaGreatDoor
