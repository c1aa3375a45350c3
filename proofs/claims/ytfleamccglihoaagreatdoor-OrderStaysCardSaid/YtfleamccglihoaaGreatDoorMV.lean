import Derived.Test.YtfleamccglihoaaGreatDoorMU
import Derived.Test.YtfleamccglihoaaGreatDoorMJ
import Derived.Test.YtfleamccglihoaaGreatDoorMT
import Derived.Test.YtfleamccglihoaaGreatDoorMI
import Derived.Test.YtfleamccglihoaaGreatDoorMG
import Derived.Test.YtfleamccglihoaaGreatDoorMN
open Go.IntKind (i64 u64)
set_option linter.unusedVariables false
namespace Go.Proofs.YtfleamccglihoaaGreatDoor
open Go.Proofs.Tryz
open Go Go.bR Go.RowKit
def acN(l:List DN)(Y4:Nat):Prop:=(∀nd∈l,nd.ps.length<=6)/\l.length<=Y4
noncomputable def nH(k:Nat)(G:GS)(id:HT)(l:List HT):nN:=if dr G.D id l=0 then cI k G (bN G l) l else⟨dZ,0,[],[]⟩
noncomputable def vL(k:Nat)(root:HT)(l:List DN):GS:=l.foldl (fun G s=>cV k G s.id s.ps) (cS root)
theorem Ji(k:Nat)(G:GS)(h:HT)(l:List HT):(cV k G h l).D.length<=G.D.length+1:=by
 rw [pL];unfold mK;split<;>simp
theorem sI(k:Nat):∀(l:List DN) (G:GS),(l.foldl (fun G s=>cV k G s.id s.ps) G).D.length<=G.D.length+l.length
 | [],_=>by simp
 |s::l,G=>by
  have h1:=sI k l (cV k G s.id s.ps);have h2:=Ji k G s.id s.ps;rw [List.foldl_cons,List.length_cons];omega
theorem CO(k:Nat)(root:HT)(l:List DN):(vL k root l).D.length<=1+l.length:=sI k l (cS root)
theorem CE{k:Nat}{G:GS}{l:List DN}{i:Nat}{s:DN}(h:l[i]? =some s):(l.take (i+1)).foldl (fun G s=>cV k G s.id s.ps) G=cV k ((l.take i).foldl (fun G s=>cV k G s.id s.ps) G) s.id s.ps:=by
 rw [List.take_add_one,h];simp
section
variable{w w' v:World}{S F FP FR:Nat->Prop}{c r x k:Nat}{G:GS}{m:CM}{K:Value->World->Prop}
theorem mv(h:CV w F c k G m)(hT:tT w)(JK:¬m.SX (Tryz.jK.g 1))(hD:G.D.length<=49)(qQ:k<=1000){A:Option Addr}{n cx:Nat}{l:List HT}(Gr:HS w A n l)(hn:n<=5000)(id:HT)
 (hK:∀w' F' m' A n c1 B e c2,CV w' F' c k (cV k G id l) m'->m'.x=m.x->Kept (m.own c) w w'->(∀j,m'.own c j->m.own c j\/w.heap.size<=j)->(∀j,F' j->F j\/w.heap.size<=j)->
   bI w' w.heap.size A n c1 (nH k G id l).merge->Row w' w.heap.size iq 1 B e c2 (rY (nH k G id l).fz)->(∀j,a8 A=some j->a8 B≠some j)->(∀j,a8 A=some j\/a8 B=some j->¬m'.own c j/\¬F' j)->
   K (.tuple #[.agg (cG (nH k G id l) A n c1 B e c2),.int .i64 (dr G.D id l)]) w'):
 bk prog dC.id #[.pointer (some ⟨c,0,none⟩),.agg id.1,.slice A n cx] w K:=by
 refine FT h hT JK hD qQ Gr hn id (fun he w' k'=>?_) (fun he w' F' m' A n c1 B e c2 h1 h2 h3 h4 h5 h6 h7 h8 h9=>?_)
 ·have e1:nH k G id l=⟨dZ,0,[],[]⟩:=if_neg he
  have:=hK w' F m none 0 0 none 0 0 (by rw [ow he];exact h.same k') rfl (k'.mono fun _ _ h=>h.elim) (fun j h=>.inl h) (fun j h=>.inl h) (by rw [e1];exact bI.nil _ _) (by rw [e1];exact Row.nil _ _ _ _) (fun j hj=>(by cases hj)) (fun j hj=>by rcases hj with hj|hj<;>cases hj);rw [e1]at this;exact this
 ·have e1:nH k G id l=cI k G (bN G l) l:=if_pos he
  have:=hK w' F' m' A n c1 B e c2 h1 h2 h3 h4 h5 (by rw [e1];exact h6) (by rw [e1];exact h7) h8 h9;rw [e1,he]at this;exact this
theorem uE(h:R3 w F r x k G)(hD:G.D.length<=300)(qQ:k<=1000){A:Option Addr}{n cx:Nat}{l:List HT}(hl:HS w A n l)(hn:n<=5000)(id:HT)
 (hK:∀w' A n c B e ce,R3 w' (fun j=>F j\/(w.heap.size<=j/\j<w'.heap.size)) r x k (cV k G id l)->Kept (fun j=>j=r\/j=x) w w'->HS w' A n (nH k G id l).merge->Bo w' B e (nH k G id l).fz->(∀a,A=some a\/B=some a->w.heap.size<=a.block)->K (.tuple #[.agg (cG (nH k G id l) A n c B e ce),.int .i64 (dr G.D id l)]) w'):
 bk prog dB.id #[.pointer (some ⟨r,0,none⟩),.agg id.1,.slice A n cx] w K:=by
 have Le:=h.lt;have MW:=h.lx;refine xX h hD qQ hl hn id (fun he w' k'=>?_) (fun he w' A n c B e ce h1 h2 h3 h4 h5=>?_)
 ·have e1:nH k G id l=⟨dZ,0,[],[]⟩:=if_neg he
  have h':=h.same k';have hs:=k'.size;obtain⟨A1,c1,B1,e1',g1,g2,g3⟩:=h'.top;have:=hK w' none 0 0 none 0 0 (by
   rw [ow he];exact⟨⟨A1,c1,B1,e1',g1,g2.mono (fun j hj=>.inl hj),g3.mono (fun j hj=>.inl hj)⟩,h'.X.mono (fun j hj=>.inl hj) (fun e=>e.elim h.X.gZ (fun e=>by omega)),fun e=>e.elim h.gZ (fun e=>by omega),h.ne,h.fy,fun j e=>e.elim (h'.lo j) (fun e=>e.2)⟩) (k'.mono fun _ _ h=>h.elim) (by rw [e1];exact HS.nil _ _) (by rw [e1];exact⟨rfl,fun i b hi=>by simp at hi⟩) (fun a ha=>by rcases ha with ha|ha<;>cases ha)
  rw [e1]at this;exact this
 ·have e1:nH k G id l=cI k G (bN G l) l:=if_pos he
  have:=hK w' A n c B e ce h1 h2 (by rw [e1];exact h3) (by rw [e1];exact h4) h5;rw [e1,he]at this;exact this
structure kN(w:World)(F:Nat->Prop)(c:Nat)(m:CM)(FR:Nat->Prop)(r x k:Nat)(G:GS):Prop where
 C:CV w F c k G m
 R:R3 w FR r x k G
 rS:∀j,j=r\/j=x->¬m.own c j/\¬F j
 fS:∀j,FR j->¬m.own c j
theorem kN.aG{S0:Nat->Prop}(B:kN w F c m FR r x k G)(hk:Kept S0 w w')(h1:∀j,m.own c j\/F j\/FR j\/j=r\/j=x->¬S0 j):kN w' F c m FR r x k G:=
 ⟨B.C.aG hk (fun j e=>h1 j (.inl e)) (fun j e=>h1 j (.inr (.inl e))),B.R.aG hk (h1 _ (.inr (.inr (.inr (.inl rfl))))) (h1 _ (.inr (.inr (.inr (.inr rfl))))) (fun j e=>h1 j (.inr (.inr (.inl e)))),B.rS,B.fS⟩
theorem kN.same(B:kN w F c m FR r x k G)(hk:Kept Nil w w'):kN w' F c m FR r x k G:=B.aG hk (fun _ _ h=>h)
theorem kN.low(B:kN w F c m FR r x k G):∀j,m.own c j\/F j\/FR j\/j=r\/j=x->j<w.heap.size:=fun j e=>by
 rcases e with e|e|e|e|e
 ·exact B.C.low j (.inl e)
 ·exact B.C.low j (.inr e)
 ·exact B.R.lo j e
 ·rw [e];exact B.R.lt
 ·rw [e];exact B.R.lx
theorem kN.after{F':Nat->Prop}{m':CM}{G':GS}(B:kN w F c m FR r x k G)(kv:Kept (m.own c) w v)(h1:∀j,m'.own c j->m.own c j\/w.heap.size<=j)(h2:∀j,F' j->F j\/w.heap.size<=j)(hC:CV v F' c k G' m'){u:World}(Xd:Kept Nil v u):
 R3 u FR r x k G/\∀t,R3 t (fun j=>FR j\/(u.heap.size<=j/\j<t.heap.size)) r x k G'->Kept (fun j=>j=r\/j=x) u t->kN t F' c m' (fun j=>FR j\/(u.heap.size<=j/\j<t.heap.size)) r x k G':=by
 have hr:=B.R.lt;have hx:=B.R.lx;have nr:∀j,j=r\/j=x->¬m'.own c j/\¬F' j:=fun j hj=>by
  have cJ:j<w.heap.size:=by rcases hj with rfl|rfl;exact hr;exact hx
  refine⟨fun e=>?_,fun e=>?_⟩
  ·rcases h1 j e with e|e
   ·exact(B.rS j hj).1 e
   ·omega
  ·rcases h2 j e with e|e
   ·exact(B.rS j hj).2 e
   ·omega
 refine⟨(B.R.aG kv (fun e=>(B.rS r (.inl rfl)).1 e) (fun e=>(B.rS x (.inr rfl)).1 e) B.fS).same Xd,fun t hR kt=>⟨?_,hR,nr,fun j hj e=>?_⟩⟩
 ·exact(hC.same Xd).aG kt (fun j e e'=>(nr j e').1 e) (fun j e e'=>(nr j e').2 e)
 ·have oh:=hC.low j (.inl e)
  have:=Xd.size;rcases hj with hj|hj
  ·rcases h1 j e with e|e
   ·exact B.fS j hj e
   ·have:=B.R.lo j hj;omega
  ·omega
end
section
variable{w w' v:World}{S F FP FR:Nat->Prop}{c r x k:Nat}{G:GS}{m:CM}{K:Value->World->Prop}
end
section
variable{k:Nat}{G:GS}{s:HT}
theorem zJ(G:GS)(s:HT):cj G s [s]= []:=by
 rw [List.eq_nil_iff_forall_not_mem];intro h hm;obtain⟨h1,h2,h3⟩:=iH.1 hm;rcases h1 with⟨_,p,hp,ha⟩|h1
 ·rw [List.mem_singleton]at hp;subst hp;exact h3 ha
 ·rw [List.mem_singleton]at h1;exact h2 h1
theorem pP(k:Nat)(G:GS)(s:HT):cI k G s [s]=⟨s,G.score s+1,[],[]⟩/\(dE k G s [s]).wd=G.world s++ [s]:=by
 unfold cI dE;rw [zJ];exact⟨rfl,rfl⟩
variable{r a b c:HT}(yj:r≠a)(wh:r≠b)(DM:r≠c)(kM:a≠b)(D5:a≠c)(Bk:b≠c)
include yj wh kM in
theorem Zm(k:Nat):∃G1 G2:GS,cV k (cS r) a [r]=G1/\cV k G1 b [r]=G2/\dr (cS r).D a [r]=0/\dr G1.D b [r]=0/\eK k G2/\G1.D= [⟨r,[]⟩,⟨a,[r]⟩]/\G2.D= [⟨r,[]⟩,⟨a,[r]⟩,⟨b,[r]⟩]/\G2.score a=1/\G2.score b=1/\G2.score r=0/\G2.world a= [r]/\G2.world b= [r]/\
 (∀x,dN G2.D x a↔x=r)/\(∀x,dN G2.D x b↔x=r)/\∀x,¬dN G2.D x r:=by
 have H0:=iZ k r;have c1:dr (cS r).D a [r]=0:=(k1 yj).1;have H1:=H0.add a [r];have D1:(cV k (cS r) a [r]).D= [⟨r,[]⟩,⟨a,[r]⟩]:=by rw [pL];exact(k1 yj).2
 obtain⟨r1,r2⟩:=H0.root ⟨r,[]⟩ rfl
 replace r1:(cS r).gw r=_:=r1
 replace r2:(cS r).world r=_:=r2
 have sF:r∈ids (cS r).D:=by simp [cS,ids]
 obtain⟨n1,n2⟩:=lu H0 c1;obtain⟨o1,o2⟩:=ij (h:=a) (ps:= [r]) H0 sF
 replace n1:(cV k (cS r) a [r]).gw a=cI k (cS r) r [r]:=n1
 replace n2:(cV k (cS r) a [r]).world a=(dE k (cS r) r [r]).wd:=n2
 rw [(pP k (cS r) r).1]at n1;rw [(pP k (cS r) r).2,r2]at n2;have sr:(cS r).score r=0:=by unfold GS.score;rw [r1]
 rw [sr]at n1;rw [r1]at o1;rw [r2]at o2;generalize hG1:cV k (cS r) a [r]=G1 at*;have c2:dr G1.D b [r]=0:=by rw [D1];exact(k2 wh kM).1
 have D2:(cV k G1 b [r]).D= [⟨r,[]⟩,⟨a,[r]⟩,⟨b,[r]⟩]:=by rw [pL,D1];exact(k2 wh kM).2
 have H2:=H1.add b [r];obtain⟨p1,p2⟩:=lu H1 c2
 replace p1:(cV k G1 b [r]).gw b=cI k G1 r [r]:=p1
 replace p2:(cV k G1 b [r]).world b=(dE k G1 r [r]).wd:=p2
 rw [(pP k G1 r).1]at p1;rw [(pP k G1 r).2,o2]at p2;have sr1:G1.score r=0:=by unfold GS.score;rw [o1]
 rw [sr1]at p1;have mE:r∈ids G1.D:=by rw [D1];simp [ids]
 have Au:a∈ids G1.D:=by rw [D1];simp [ids]
 obtain⟨q1,_⟩:=ij (h:=b) (ps:= [r]) H1 mE;obtain⟨q3,q4⟩:=ij (h:=b) (ps:= [r]) H1 Au;have W2:=H2.W;have hr:∀x,¬dN (cV k G1 b [r]).D x r:=fun x h=>by
  obtain⟨p,hp,_⟩:=(rR W2 (i:=0) (nd:=⟨r,[]⟩) (by rw [D2];rfl) x).1 h;simp at hp
 have hx:∀(i:Nat) (y:HT),(cV k G1 b [r]).D[i]? =some ⟨y,[r]⟩->∀x,dN (cV k G1 b [r]).D x y↔x=r:=fun i y hi x=>by
  rw [rR W2 (i:=i) (nd:=⟨y,[r]⟩) hi x];constructor
  ·rintro⟨p,hp,e⟩
   rw [List.mem_singleton]at hp;subst hp;rcases e with e|e
   ·exact e
   ·exact absurd e (hr x)
  ·rintro rfl
   exact⟨x,by simp,.inl rfl⟩
 refine⟨G1,_,rfl,rfl,c1,c2,H2,D1,D2,?_,?_,?_,?_,p2,hx 1 a (by rw [D2];rfl),hx 2 b (by rw [D2];rfl),hr⟩
 ·unfold GS.score;rw [q3,n1]
 ·unfold GS.score;rw [p1]
 ·unfold GS.score;rw [q1,o1]
 ·rw [q4,n2];rfl
include yj wh DM kM D5 Bk in
theorem kG3(cJ:cJ b a=true){G1 G2:GS}(h1:cV 0 (cS r) a [r]=G1)(h2:cV 0 G1 b [r]=G2):dr G2.D c [a,b]=0/\nH 0 G2 c [a,b]=⟨a,2,[b],[false]⟩:=by
 obtain⟨G1',G2',e1,e2,_,_,H2,_,D2,sa,sb,_,wa,_,aa,ab,ar⟩:=Zm yj wh kM 0;rw [h1]at e1;subst e1;rw [h2]at e2;subst e2;have c3:dr G2.D c [a,b]=0:=by rw [D2];exact(k3 DM kM D5 Bk).1
 refine⟨c3,?_⟩;unfold nH;rw [if_pos c3];have PY:gl G2 a b=false:=by
  unfold gl;rw [sa,sb];cases h:Go.Proofs.YtfleamccglihoaaGreatDoor.cJ a b
  ·rfl
  ·have:=jW h cJ
   rw [gV]at this;cases this
 have ml:bN G2 [a,b]=a:=by
  show(if gl G2 a b then b else a)=a;rw [PY];rfl
 rw [ml];have hm:cj G2 a [a,b]= [b]:=by
  refine(nt (by simp [SO]) fun x=>?_).symm;rw [List.mem_singleton,nu];constructor
  ·rintro rfl
   exact⟨.inr (by simp),fun e=>kM e.symm,fun e=>wh ((aa x).1 e).symm⟩
  ·rintro⟨h|h,h3,h4⟩
   ·obtain⟨_,p,hp,hA⟩:=h
    simp at hp;rcases hp with rfl|rfl
    ·exact absurd hA h4
    ·exact absurd ((aa x).2 ((ab x).1 hA)) h4
   ·simp at h
    rcases h with h|h
    ·exact absurd h h3
    ·exact h
 have hb:lG 0 G2.D [r,a] b=false:=by
  unfold lG;rw [decide_eq_false_iff_not];rintro⟨h,_⟩;have:a∈bM G2.D [r,a] b:=dT.2 ⟨by simp,kM,fun e=>yj ((ab a).1 e).symm,fun e=>wh ((aa b).1 e).symm⟩;have h0:bM G2.D [r,a] b= []:=List.eq_nil_of_length_eq_zero (by omega);rw [h0]at this;simp at this
 unfold cI dE;rw [hm,wa,sa];have hf: [b].foldl (jB 0 G2.D) ⟨[r]++ [a],[]⟩=⟨[r,a],[false]⟩:=by
  show jB 0 G2.D ⟨[r,a],[]⟩ b=_
  unfold jB;rw [hb];rfl
 rw [hf];rfl
end
section
variable{w w':World}{K:Value->World->Prop}
end
section
variable{w w' v:World}{F FP FR:Nat->Prop}{c r x k:Nat}{G:GS}{m:CM}{K:Value->World->Prop}
theorem R3.graph(h:R3 w F r x k G):∃A c,w.cell? (((⟨x,0,none⟩:Addr).add 0).add 0)=some (.slice A G.D.length c)/\NS w F A G.D.length G.D:=by
 obtain⟨A,c,B,e,l,h1,h2,_⟩:=h.X.ex;exact⟨A,c,by rw [add_zero,add_zero,aA h1];rfl,h2⟩
end
section
variable{w v:World}{F FP FR:Nat->Prop}{c r x k:Nat}{G:GS}{m:CM}{K:Value->World->Prop}{O:Option Addr}{on oc:Nat}{lo:List HT}{s:HT}{sb xb:Nat}{xv:Array Value}
end
theorem uK(D:DG)(x b:HT):bM D [x] b=if lI D x b then [x]else []:=by
 unfold bM;rw [List.filter_cons];by_cases h:lI D x b<;>simp [h]
def Fair(k:Nat)(D:DG)(wd:List HT):Prop:=∀b∈wd,(bM D wd b).length<=k
theorem Fair.step{k:Nat}{D:DG}{s:VS}{h:HT}(H:Fair k D s.wd):Fair k D (jB k D s h).wd:=by
 unfold jB;simp only;cases hb:lG k D s.wd h with
 |false=>simpa using H
 |true=>
  rw [if_pos rfl];obtain⟨h1,h2⟩:=of_decide_eq_true hb;intro b hm;rw [eF,List.length_append,uK];rcases List.mem_append.1 hm with hm|hm
  ·split
   ·rename_i ha
    have:=h2 b (dT.2 ⟨hm,ha.symm⟩);simp only [List.length_cons,List.length_nil];omega
   ·have:=H b hm
    simp only [List.length_nil];omega
  ·have:b=h:=by simpa using hm
   subst this;rw [if_neg (fun e=>e.1 rfl)];simpa using h1
theorem Fair.fold{k:Nat}{D:DG}:∀(l:List HT) (s:VS),Fair k D s.wd->Fair k D (l.foldl (jB k D) s).wd
 | [],_,H=>H
 |x::l,s,H=>by
  rw [List.foldl_cons];exact Fair.fold l _ H.step
theorem zk{G:GS}:∀ {l:List HT} {p:HT},p∈l->G.score p<=G.score (bN G l)
 |x::l,p,hp=>by
  have gs:∀ {a b:HT},gl G a b=true->G.score a<=G.score b:=fun {a b} h=>by
   simp only [gl,Bool.or_eq_true,Bool.and_eq_true,decide_eq_true_eq]at h;omega
  have gn:∀ {a b:HT},gl G a b=false->G.score b<=G.score a:=fun {a b} h=>by
   simp only [gl,Bool.or_eq_false_iff,decide_eq_false_iff_not]at h;omega
  have key:∀(l:List HT) (b:HT),G.score b<=G.score (l.foldl (fun b y=>if gl G b y then y else b) b)/\∀p∈l,G.score p<=G.score (l.foldl (fun b y=>if gl G b y then y else b) b):=by
   intro l
   induction l with
   |nil=>intro b;exact⟨Nat.le_refl _,fun p hp=>by cases hp⟩
   |cons y l ih=>
    intro b;rw [List.foldl_cons];obtain⟨h1,h2⟩:=ih (if gl G b y then y else b);cases hg:gl G b y with
    |true=>
     rw [hg,if_pos rfl]at h1 h2;rw [if_pos rfl];refine⟨Nat.le_trans (gs hg) h1,fun p hp=>?_⟩;rcases List.mem_cons.1 hp with rfl|hp
     ·exact h1
     ·exact h2 p hp
    |false=>
     rw [hg,if_neg (by simp)]at h1 h2;rw [if_neg (by simp)];refine⟨h1,fun p hp=>?_⟩;rcases List.mem_cons.1 hp with rfl|hp
     ·exact Nat.le_trans (gn hg) h1
     ·exact h2 p hp
  obtain⟨h1,h2⟩:=key l x;show G.score p<=G.score (l.foldl (fun b y=>if gl G b y then y else b) x)
  rcases List.mem_cons.1 hp with rfl|hp
  ·exact h1
  ·exact h2 p hp
structure Ei(k:Nat)(G:GS):Prop where
 cl:∀h∈ids G.D,Fair k G.D (G.world h)
 mx:∀h p,lH G.D p h->G.score p<=G.score (G.gw h).iw
section
variable{k:Nat}{G:GS}{h:HT}{ps:List HT}
theorem Ei.root(k:Nat)(r:HT):Ei k (cS r):=by
 refine⟨fun h hm b hb=>?_,fun h p hp=>?_⟩
 ·have hh:h=r:=by simpa [cS,ids]using hm
  subst hh;rw [((iZ k h).root ⟨h,[]⟩ rfl).2]at hb;cases hb
 ·obtain⟨nd,eW,_,oB⟩:=hp
  have:nd=⟨r,[]⟩:=by simpa [cS]using eW
  subst this;cases oB
theorem Ei.add(C:Ei k G)(H:eK k G)(h:HT)(ps:List HT):Ei k (cV k G h ps):=by
 by_cases hc:dr G.D h ps=0
 ·obtain⟨hn,e9,eW,oB⟩:=jM hc
  obtain⟨q1,q2⟩:=lu H hc;obtain⟨a1,a2⟩:=vQ H hc;obtain⟨j,m,_,_,_,yP,uf⟩:=BG H hc;have eD:(cV k G h ps).D=G.D++ [⟨h,di ps⟩]:=by rw [jH hc]
  have FB:∀p∈ps,p∈ids G.D:=fun p hp=>oB p (dd.2 hp);have RM:∀ {a b:HT},a∈ids G.D->b∈ids G.D->(lI (cV k G h ps).D a b↔lI G.D a b):=fun {a b} ha hb=>by
   unfold lI;rw [eD,a2 a b hb,a2 b a ha]
  have Bd:∀ {wd:List HT},(∀a∈wd,a∈ids G.D)->Fair k G.D wd->Fair k (cV k G h ps).D wd:=fun {wd} fC F b hb=>by
   rw [lM fun a ha=>RM (fC a ha) (fC b hb)];exact F b hb
  have sc:∀ {y:HT},y∈ids G.D->(cV k G h ps).score y=G.score y:=fun {y} hy=>by unfold GS.score;rw [(ij H hy).1]
  have mem:∀ {y:HT},y∈ids (cV k G h ps).D->y∈ids G.D\/y=h:=fun {y} hy=>by
   rw [eD]at hy;simpa [ids]using hy
  refine⟨fun y hy=>?_,fun y p hp=>?_⟩
  ·rcases mem hy with hy|rfl
   ·rw [(ij H hy).2]
    exact Bd (fun a ha=>(((H.wd y hy).2.1 a ha).mem H.W).1) (C.cl y hy)
   ·rw [q2]
    obtain⟨_,_,v3⟩:=xL H uf ps FB;refine Bd (fun a ha=>(v3 a ha).1) ?_;unfold dE;refine Fair.fold _ _ ?_;have hw:=(H.wd _ uf).2.1;intro b hb;simp only at hb⊢;rw [eF,uK,List.length_append];rcases List.mem_append.1 hb with hb|hb
    ·have:=C.cl _ uf b hb
     rw [if_neg (fun e=>e.2.2 (hw b hb))];simpa using this
    ·have:b=bN G ps:=by simpa using hb
     subst this;rw [if_neg (fun e=>e.1 rfl)];have:bM G.D (G.world (bN G ps)) (bN G ps)= []:=by
      rw [List.eq_nil_iff_forall_not_mem];intro a ha;obtain⟨h1,h2⟩:=dT.1 ha;exact h2.2.1 (hw a h1)
     rw [this];simp
  ·obtain⟨nd,eW,rfl,hp⟩:=hp
   rw [eD]at eW;rcases List.mem_append.1 eW with eW|eW
   ·have hy:nd.id∈ids G.D:=cP.2 ⟨nd,eW,rfl⟩
    have jE:lH G.D p nd.id:=⟨nd,eW,rfl,hp⟩;have hpi:=((dN.one jE).mem H.W).1;have mM:=C.mx _ _ jE;rw [(ij H hy).1,sc hpi];obtain⟨i,jj,m',nd',pX,mI,nz,e1,e2,_⟩:=jE.at_ H.W;have hP:=(lgeS nz).1;obtain⟨pz,JC⟩:∃pz,G.P[jj]? =some pz:=⟨_,List.getElem?_eq_getElem (by rw [H.iw.len];exact hP)⟩;obtain⟨j2,m2,rfl,_,Lc,aba⟩:=H.iw.up jj pz nd' (by omega) JC nz;have ml:=(H.up m2.id nd.id ⟨jj,j2,nd',m2,nz,e2,JC,Lc,rfl⟩).1;rw [sc (by rw [ml];exact cP.2 ⟨m2,List.mem_of_getElem? Lc,rfl⟩)];exact mM
   ·have:nd=⟨h,di ps⟩:=by simpa using eW
    subst this;have Cp:p∈ps:=dd.1 hp;rw [q1,sc (FB p Cp)];show G.score p<=(cV k G h ps).score (bN G ps)
    rw [sc uf];exact zk Cp
 ·rw [ow hc];exact C
theorem F8(k:Nat)(root:HT)(l:List DN):Ei k (vL k root l):=by
 have key:∀(l:List DN) (G:GS),eK k G->Ei k G->Ei k (l.foldl (fun G s=>cV k G s.id s.ps) G):=by
  intro l
  induction l with
  |nil=>intro G _ C;exact C
  |cons s l ih=>intro G H C;rw [List.foldl_cons];exact ih _ (H.add _ _) (C.add H _ _)
 exact key l _ (iZ k root) (Ei.root k root)
theorem Od(H:eK k G){p y:HT}(hp:lH G.D p y):jm G.D G.P (G.gw y).iw y:=by
 obtain⟨i,jj,m',nd',pX,mI,nz,e1,e2,_⟩:=hp.at_ H.W;have hP:=(lgeS nz).1;obtain⟨pz,JC⟩:∃pz,G.P[jj]? =some pz:=⟨_,List.getElem?_eq_getElem (by rw [H.iw.len];exact hP)⟩;obtain⟨j2,m2,rfl,_,Lc,aba⟩:=H.iw.up jj pz nd' (by omega) JC nz;have hs:jm G.D G.P m2.id y:=⟨jj,j2,nd',m2,nz,e2,JC,Lc,rfl⟩;have:=(H.up _ _ hs).1;rw [this];exact hs
theorem EK(H:eK k G){s y:HT}(hs:jm G.D G.P s y):G.score s<G.score y:=by
 have hy:dN G.D s y:=.one (hs.par H.iw);obtain⟨m1,m2⟩:=hy.mem H.W;rw [(H.wd s m1).2.2,(H.wd y m2).2.2,(H.up s y hs).2.1];simp only [List.length_append,List.length_cons,List.length_nil];omega
theorem wO(C:Ei k G)(H:eK k G){p y:HT}(hp:lH G.D p y):G.score p<G.score y:=
 Nat.lt_of_le_of_lt (C.mx y p hp) (EK H (Od H hp))
theorem se(C:Ei k G)(H:eK k G){a y:HT}(h:dN G.D a y):G.score a<G.score y:=by
 induction h with
 |one hp=>exact wO C H hp
 |more _ hp ih=>exact Nat.lt_trans ih (wO C H hp)
theorem E9(C:Ei k G)(H:eK k G){s y z:HT}(hs:jm G.D G.P s y)(hz:z∈(G.gw y).merge):lI G.D z s:=by
 obtain⟨e,_,_,_,hm⟩:=H.up s y hs;obtain⟨h1,h2,h3⟩:=(hm z).1 hz;refine⟨h2,h3,fun h4=>?_⟩;have l1:=se C H h4;obtain⟨p,hp,hzp⟩:∃p,lH G.D p y/\(z=p\/dN G.D z p):=by
  cases h1 with
  |one hp=>exact⟨z,hp,.inl rfl⟩
  |more ha hp=>exact⟨_,hp,.inr ha⟩
 have l2:=C.mx y p hp;rw [e]at l2;rcases hzp with rfl|ha
 ·omega
 ·have:=se C H ha
  omega
theorem BP{l m:List HT}(hl:l.Nodup)(hm:m.Nodup)(h:∀x,x∈l↔x∈m):l.length=m.length:=
 Nat.le_antisymm (cM hl fun x hx=>(h x).1 hx) (cM hm fun x hx=>(h x).2 hx)
end
structure Sub(G G':GS):Prop where
 D:∀nd∈G.D,nd∈G'.D
 W:jn G.D
 W':jn G'.D
 cw:∀y∈ids G.D,G.gw y=G'.gw y/\G.world y=G'.world y
section
variable{k:Nat}{G G':GS}{s:HT}{l:List HT}
theorem Sub.ids(S:Sub G G'){y:HT}(h:y∈ids G.D):y∈Proofs.YtfleamccglihoaaGreatDoor.ids G'.D:=by
 obtain⟨nd,h1,rfl⟩:=cP.1 h;exact cP.2 ⟨nd,S.D nd h1,rfl⟩
theorem jn.one{D:DG}(W:jn D){a b:DN}(ha:a∈D)(hb:b∈D)(e:a.id=b.id):a=b:=by
 obtain⟨i,hi⟩:=List.mem_iff_getElem?.1 ha;obtain⟨j,hj⟩:=List.mem_iff_getElem?.1 hb;have:=W.inj hi hj e;subst this;rw [hi]at hj;exact Option.some.inj hj
theorem Sub.par(S:Sub G G'){a b:HT}(hb:b∈Proofs.YtfleamccglihoaaGreatDoor.ids G.D):lH G.D a b↔lH G'.D a b:=by
 constructor
 ·rintro⟨nd,h1,h2,h3⟩
  exact⟨nd,S.D nd h1,h2,h3⟩
 ·rintro⟨nd,h1,h2,h3⟩
  obtain⟨nd',h4,h5⟩:=cP.1 hb;have:=S.W'.one h1 (S.D nd' h4) (h2.trans h5.symm);subst this;exact⟨nd,h4,h2,h3⟩
theorem Sub.yF(S:Sub G G'){a b:HT}(hb:b∈Proofs.YtfleamccglihoaaGreatDoor.ids G.D):dN G.D a b↔dN G'.D a b:=by
 constructor
 ·intro h
  clear hb
  induction h with
  |one hp=>exact .one ((S.par ((dN.one hp).mem S.W).2).1 hp)
  |more _ hp ih=>exact .more ih ((S.par ((dN.one hp).mem S.W).2).1 hp)
 ·intro h
  induction h with
  |one hp=>exact .one ((S.par hb).2 hp)
  |more _ hp ih=>
   have Cp:=(S.par hb).2 hp;exact .more (ih ((dN.one Cp).mem S.W).1) Cp
theorem Sub.RM(S:Sub G G'){a b:HT}(ha:a∈Proofs.YtfleamccglihoaaGreatDoor.ids G.D)(hb:b∈Proofs.YtfleamccglihoaaGreatDoor.ids G.D):lI G.D a b↔lI G'.D a b:=by
 unfold lI;rw [S.yF hb,S.yF ha]
theorem Sub.gl(S:Sub G G'){a b:HT}(ha:a∈Proofs.YtfleamccglihoaaGreatDoor.ids G.D)(hb:b∈Proofs.YtfleamccglihoaaGreatDoor.ids G.D):Proofs.YtfleamccglihoaaGreatDoor.gl G a b=Proofs.YtfleamccglihoaaGreatDoor.gl G' a b:=by
 unfold Proofs.YtfleamccglihoaaGreatDoor.gl GS.score;rw [(S.cw a ha).1,(S.cw b hb).1]
theorem Sub.pw(S:Sub G G')(hs:s∈Proofs.YtfleamccglihoaaGreatDoor.ids G.D)(hl:∀p∈l,p∈Proofs.YtfleamccglihoaaGreatDoor.ids G.D)(x:HT):x∈Proofs.YtfleamccglihoaaGreatDoor.pw G.D s l↔x∈Proofs.YtfleamccglihoaaGreatDoor.pw G'.D s l:=by
 rw [nu,nu,S.yF hs];constructor
 ·rintro⟨h,h2⟩
  refine⟨h.imp_left ?_,h2⟩;rintro⟨h3,p,hp,h4⟩;exact⟨S.ids h3,p,hp,(S.yF (hl p hp)).1 h4⟩
 ·rintro⟨h,h2⟩
  refine⟨h.imp_left ?_,h2⟩;rintro⟨h3,p,hp,h4⟩;have:=(S.yF (hl p hp)).2 h4;exact⟨(this.mem S.W).1,p,hp,this⟩
theorem sn(hl:∀p∈l,p∈ids G.D){x:HT}(h:x∈cj G s l):x∈ids G.D:=by
 rcases iH.1 h with⟨h|h,_⟩
 ·exact h.1
 ·exact hl x h
theorem Sub.cj(S:Sub G G')(hs:s∈Proofs.YtfleamccglihoaaGreatDoor.ids G.D)(hl:∀p∈l,p∈Proofs.YtfleamccglihoaaGreatDoor.ids G.D):Proofs.YtfleamccglihoaaGreatDoor.cj G s l=Proofs.YtfleamccglihoaaGreatDoor.cj G' s l:=by
 refine nt ?_ fun x=>?_
 ·refine List.Pairwise.imp_of_mem (fun {a b} ha hb h=>?_) (jv G s l)
  rw [<-S.gl (sn hl ha) (sn hl hb)];exact h
 ·rw [<-S.pw hs hl]
  unfold Proofs.YtfleamccglihoaaGreatDoor.cj;exact nv
theorem Sub.Mb(S:Sub G G'){wd:List HT}(hw:∀y∈wd,y∈Proofs.YtfleamccglihoaaGreatDoor.ids G.D){b:HT}(hb:b∈Proofs.YtfleamccglihoaaGreatDoor.ids G.D):bM G.D wd b=bM G'.D wd b:=
 lM fun a ha=>S.RM (hw a ha) hb
theorem Sub.blue(S:Sub G G'){wd:List HT}(hw:∀y∈wd,y∈Proofs.YtfleamccglihoaaGreatDoor.ids G.D){b:HT}(hb:b∈Proofs.YtfleamccglihoaaGreatDoor.ids G.D):lG k G.D wd b=lG k G'.D wd b:=by
 unfold lG;rw [S.Mb hw hb,decide_eq_decide];refine and_congr Iff.rfl ?_;refine forall_congr' fun y=>forall_congr' fun hy=>?_;rw [S.Mb hw (hw y (dT.1 hy).1)]
theorem Sub.fold(S:Sub G G'):∀(m:List HT) (st:VS),(∀y∈m,y∈Proofs.YtfleamccglihoaaGreatDoor.ids G.D)->(∀y∈st.wd,y∈Proofs.YtfleamccglihoaaGreatDoor.ids G.D)->m.foldl (jB k G.D) st=m.foldl (jB k G'.D) st
 | [],_,_,_=>rfl
 |x::m,st,hm,hw=>by
  have hx:=hm x List.mem_cons_self;have e:jB k G.D st x=jB k G'.D st x:=by unfold jB;rw [S.blue hw hx]
  rw [List.foldl_cons,List.foldl_cons,<-e];refine Sub.fold S m _ (fun y hy=>hm y (List.mem_cons_of_mem _ hy)) fun y hy=>?_;unfold jB at hy;simp only at hy;split at hy
  ·rcases List.mem_append.1 hy with hy|hy
   ·exact hw y hy
   ·rw [List.mem_singleton.1 hy];exact hx
  ·exact hw y hy
theorem Sub.view(S:Sub G G')(H:eK k G)(hs:s∈Proofs.YtfleamccglihoaaGreatDoor.ids G.D)(hl:∀p∈l,p∈Proofs.YtfleamccglihoaaGreatDoor.ids G.D):dE k G s l=dE k G' s l/\cI k G s l=cI k G' s l:=by
 have e:dE k G s l=dE k G' s l:=by
  unfold dE;rw [<-S.cj hs hl,<-(S.cw s hs).2];refine S.fold _ _ (fun y hy=>sn hl hy) fun y hy=>?_;rcases List.mem_append.1 hy with hy|hy
  ·exact(((H.wd s hs).2.1 y hy).mem H.W).1
  ·rw [List.mem_singleton.1 hy];exact hs
 refine⟨e,?_⟩;unfold cI;rw [e,S.cj hs hl];unfold GS.score;rw [(S.cw s hs).1]
theorem oZ{G:GS}:∀ {l:List HT} {p:HT},p∈l->gl G (bN G l) p=false
 |x::l,p,hp=>by
  have key:∀(l:List HT) (b:HT),gl G (l.foldl (fun b y=>if gl G b y then y else b) b) b=false/\∀p∈l,gl G (l.foldl (fun b y=>if gl G b y then y else b) b) p=false:=by
   intro l
   induction l with
   |nil=>intro b;exact⟨lU G b,fun p hp=>by cases hp⟩
   |cons y l ih=>
    intro b;rw [List.foldl_cons];obtain⟨h1,h2⟩:=ih (if gl G b y then y else b);cases hg:gl G b y with
    |true=>
     rw [hg,if_pos rfl]at h1 h2;rw [if_pos rfl];refine⟨?_,fun p hp=>?_⟩
     ·cases hx:gl G (l.foldl (fun b y=>if gl G b y then y else b) y) b with
      |false=>rfl
      |true=>rw [mr hx hg]at h1;cases h1
     ·rcases List.mem_cons.1 hp with rfl|hp
      ·exact h1
      ·exact h2 p hp
    |false=>
     rw [hg,if_neg (by simp)]at h1 h2;rw [if_neg (by simp)];refine⟨h1,fun p hp=>?_⟩;rcases List.mem_cons.1 hp with rfl|hp
     ·cases hx:gl G (l.foldl (fun b y=>if gl G b y then y else b) b) p with
      |false=>rfl
      |true=>
       cases hy:gl G p b with
       |true=>rw [mr hx hy]at h1;cases h1
       |false=>
        have e:=mu hg hy;rw [<-e]at hx;rw [hx]at h1;cases h1
     ·exact h2 p hp
  obtain⟨h1,h2⟩:=key l x;show gl G (l.foldl (fun b y=>if gl G b y then y else b) x) p=false
  rcases List.mem_cons.1 hp with rfl|hp
  ·exact h1
  ·exact h2 p hp
theorem ux{G:GS}{l:List HT}{x:HT}(hx:x∈l)(h:∀p∈l,gl G x p=false):bN G l=x:=by
 have e9:l≠ []:=fun e=>by rw [e]at hx;cases hx
 exact mu (oZ hx) (h _ (gq e9))
theorem Sub.iw(S:Sub G G')(hl:∀p∈l,p∈Proofs.YtfleamccglihoaaGreatDoor.ids G.D)(h0:l≠ []):bN G l=bN G' l:=by
 have hm:=gq (G:=G') h0;refine ux hm fun p hp=>?_;rw [S.gl (hl _ hm) (hl p hp)];exact oZ hp
theorem Kb{G:GS}(h0:l≠ []):bN G (di l)=bN G l:=by
 have hm:=gq (G:=G) h0;exact ux (dd.2 hm) fun p hp=>oZ (dd.1 hp)
theorem uW{G:GS}:cj G s (di l)=cj G s l:=by
 refine nt (jv _ _ _) fun x=>?_;rw [iH,nu];simp only [dd]
theorem GK{G:GS}:dE k G s (di l)=dE k G s l/\cI k G s (di l)=cI k G s l:=by
 have e:dE k G s (di l)=dE k G s l:=by unfold dE;rw [uW]
 refine⟨e,?_⟩;unfold cI;rw [e,uW]
def Own(k:Nat)(G:GS):Prop:=∀nd∈G.D,nd.ps≠ []->G.gw nd.id=cI k G (bN G nd.ps) nd.ps/\G.world nd.id=(dE k G (bN G nd.ps) nd.ps).wd
theorem JY(H:eK k G)(h:HT)(ps:List HT):Sub G (cV k G h ps):=by
 refine⟨fun nd eW=>?_,H.W,(H.add h ps).W,fun y hy=>⟨(ij H hy).1.symm,(ij H hy).2.symm⟩⟩;by_cases hc:dr G.D h ps=0
 ·rw [jH hc];exact List.mem_append_left _ eW
 ·rw [ow hc];exact eW
theorem Sq(W:jn G.D){nd:DN}(h:nd∈G.D):∀p∈nd.ps,p∈ids G.D:=fun p hp=>((dN.one ⟨nd,h,rfl,hp⟩).mem W).1
theorem Own.add(O:Own k G)(H:eK k G)(h:HT)(ps:List HT):Own k (cV k G h ps):=by
 by_cases hc:dr G.D h ps=0
 ·have S:=JY H h ps
  obtain⟨hn,e9,eW,oB⟩:=jM hc;have FB:∀p∈ps,p∈ids G.D:=fun p hp=>oB p (dd.2 hp);intro nd hm h0;have eD:(cV k G h ps).D=G.D++ [⟨h,di ps⟩]:=by rw [jH hc]
  rw [eD]at hm;rcases List.mem_append.1 hm with hm|hm
  ·have fC:=Sq H.W hm
   have hi:nd.id∈ids G.D:=cP.2 ⟨nd,hm,rfl⟩;obtain⟨o1,o2⟩:=O nd hm h0;have uf:=fC _ (gq (G:=G) h0);obtain⟨v1,v2⟩:=S.view H uf fC;rw [(ij H hi).1,(ij H hi).2,<-S.iw fC h0,<-v1,<-v2];exact⟨o1,o2⟩
  ·have:nd=⟨h,di ps⟩:=by simpa using hm
   subst this;obtain⟨q1,q2⟩:=lu H hc;have uf:=FB _ (gq (G:=G) e9);obtain⟨v1,v2⟩:=S.view H uf FB;obtain⟨s1,s2⟩:=GK (k:=k) (G:=cV k G h ps) (s:=bN G ps) (l:=ps);simp only;rw [Kb e9,<-S.iw FB e9,q1,q2,s1,s2,v1,v2];exact⟨rfl,rfl⟩
 ·rw [ow hc];exact O
theorem F7(k:Nat)(root:HT)(l:List DN):Own k (vL k root l):=by
 have key:∀(l:List DN) (G:GS),eK k G->Own k G->Own k (l.foldl (fun G s=>cV k G s.id s.ps) G):=by
  intro l
  induction l with
  |nil=>intro G _ C;exact C
  |cons s l ih=>intro G H C;rw [List.foldl_cons];exact ih _ (H.add _ _) (C.add H _ _)
 refine key l _ (iZ k root) fun nd eW h0=>?_;have:nd=⟨root,[]⟩:=by simpa [cS]using eW
 subst this;exact absurd rfl h0
end
def jY(G:GS):List HT->List HT
 | []=> []
 | [_]=> []
 |x::y::l=>jY G (y::l)++((G.gw x).iw::(G.gw x).merge)
section
variable{k:Nat}{G:GS}{h:HT}{l:List HT}
theorem cr.cons{D:DG}{P:List Int}(W:jn D)(H:qT D P){h:HT}{l:List HT}(hm:h∈ids D)(c:cr D P h l):∃r,l=h::r:=by
 rcases c.inv W H hm with⟨e,_⟩|⟨_,r,e,_⟩
 ·exact⟨[],e⟩
 ·exact⟨r,e⟩
theorem pq(H:eK k G)(hm:h∈ids G.D)(c:cr G.D G.P h l):(jY G l= []/\(∃nd,G.D[0]? =some nd/\nd.id=h)/\l= [h])\/∃s r,l=h::r/\jm G.D G.P s h/\s∈ids G.D/\cr G.D G.P s r/\jY G l=jY G r++s::(G.gw h).merge:=by
 rcases c.inv H.W H.iw hm with⟨rfl,e⟩|⟨s,r,rfl,hs,uf,cs⟩
 ·exact .inl ⟨rfl,e,rfl⟩
 ·obtain⟨r',rfl⟩:=cs.cons H.W H.iw uf
  refine .inr ⟨s,s::r',rfl,hs,uf,cs,?_⟩;show jY G (s::r')++((G.gw h).iw::(G.gw h).merge)=_
  rw [(H.up s h hs).1]
theorem tg(H:eK k G){nd:DN}(h0:G.D[0]? =some nd)(a:HT):¬dN G.D a nd.id:=fun ha=>by
 rcases(rR H.W h0 a).1 ha with⟨p,hp,_⟩;obtain⟨j,_,hj,_⟩:=H.W.up 0 nd p h0 hp;omega
theorem uO(C:Ei k G)(O:Own k G)(H:eK k G):∀(l:List HT) (h:HT),h∈ids G.D->cr G.D G.P h l->(jY G l).Nodup/\(∀x,x∈jY G l↔dN G.D x h)/\(jY G l).Pairwise fun a b=>¬dN G.D b a
 | [],h,hm,c=>by
   obtain⟨r,e⟩:=c.cons H.W H.iw hm;cases e
 |x::l,h,hm,c=>by
  rcases pq H hm c with⟨e,⟨nd,h0,rfl⟩,_⟩|⟨s,r,el,hs,uf,cs,e⟩
  ·rw [e]
   exact⟨List.nodup_nil,fun x=>⟨fun hx=>(by cases hx),fun hx=>absurd hx (tg H h0 x)⟩,List.Pairwise.nil⟩
  ·have er:r=l:=by cases el;rfl
   subst er;obtain⟨i1,i2,i3⟩:=uO C O H r s uf cs;obtain⟨e1,_,_,eW,XE⟩:=H.up s h hs;have hsh:dN G.D s h:=.one (hs.par H.iw);have Cf:SO G (G.gw h).merge:=by
    obtain⟨i,j,ni,mm,g1,g2,g3,g4,g5⟩:=hs;have Pz:=List.mem_of_getElem? g1;have h0:ni.ps≠ []:=fun e0=>by
     have:lH G.D s h:=(jm.par H.iw ⟨i,j,ni,mm,g1,g2,g3,g4,g5⟩);obtain⟨nd',Uy,hid,hp⟩:=this;have:=H.W.one Uy Pz (hid.trans g2.symm);subst this;rw [e0]at hp;cases hp
    have:=(O ni Pz h0).1;rw [g2]at this;rw [this];exact jv G _ _
   rw [e];refine⟨?_,fun x=>?_,?_⟩
   ·refine List.nodup_append.2 ⟨i1,List.nodup_cons.2 ⟨fun hx=>((XE s).1 hx).2.1 rfl,eW⟩,?_⟩
    intro a ha b hb eab;subst eab;have h1:=(i2 a).1 ha;rcases List.mem_cons.1 hb with rfl|hb
    ·exact dN.irrefl H.W _ h1
    ·exact((XE a).1 hb).2.2 h1
   ·rw [List.mem_append,List.mem_cons,i2,XE]
    constructor
    ·rintro(hx|rfl|hx)
     ·exact hx.trans hsh
     ·exact hsh
     ·exact hx.1
    ·intro hx
     by_cases h1:x=s
     ·exact .inr (.inl h1)
     ·by_cases h2:dN G.D x s
      ·exact .inl h2
      ·exact .inr (.inr ⟨hx,h1,h2⟩)
   ·refine List.pairwise_append.2 ⟨i3,List.pairwise_cons.2 ⟨fun y hy ha=>?_,?_⟩,?_⟩
    ·exact(E9 C H hs hy).2.1 ha
    ·refine List.Pairwise.imp (fun {a b} kM ha=>?_) Cf
     have h1:=se C H ha;simp only [gl,Bool.or_eq_true,Bool.and_eq_true,decide_eq_true_eq]at kM;omega
    ·intro a ha b hb RC
     have h1:=(i2 a).1 ha;rcases List.mem_cons.1 hb with rfl|hb
     ·exact dN.asymm H.W h1 RC
     ·exact((XE b).1 hb).2.2 (RC.trans h1)
theorem uN(H:eK k G):∀(l:List HT) (h:HT),h∈ids G.D->cr G.D G.P h l->∀y∈l,∃r,y∈ids G.D/\cr G.D G.P y r/\jY G r<+:jY G l
 | [],_,_,_,y,hy=>by cases hy
 |x::l,h,hm,c,y,hy=>by
  rcases pq H hm c with⟨e,_,el⟩|⟨s,r,el,hs,uf,cs,e⟩
  ·rw [el]at hy
   have:y=h:=by simpa using hy
   subst this;exact⟨_,hm,c,List.prefix_refl _⟩
  ·have er:r=l:=by cases el;rfl
   have ex:x=h:=by cases el;rfl
   subst er ex;rcases List.mem_cons.1 hy with rfl|hy
   ·exact⟨_,hm,c,List.prefix_refl _⟩
   ·obtain⟨r',h1,h2,h3⟩:=uN H r s uf cs y hy
    refine⟨r',h1,h2,?_⟩;rw [e];exact h3.trans (List.prefix_append _ _)
theorem Kn(C:Ei k G)(O:Own k G)(H:eK k G)(hm:h∈ids G.D)(c:cr G.D G.P h l):(jY G l).length=(du G.D [h]).length/\di (jY G l)=du G.D [h]:=by
 obtain⟨h1,h2,_⟩:=uO C O H l h hm c;have hp:∀x,x∈jY G l↔x∈du G.D [h]:=fun x=>by
  unfold du;rw [h2,jb];simp only [List.mem_singleton,exists_eq_left];exact⟨fun h=>⟨(h.mem H.W).1,h⟩,fun h=>h.2⟩
 refine⟨BP h1 (ir _).nodup hp,?_⟩;rw [xQ hp];exact zg (ir _)
end
section
variable{k:Nat}{G:GS}{h:HT}{l:List HT}
def ox(G:GS)(x:HT):List HT:=(G.gw x).iw::(G.gw x).merge
theorem E6{x:HT}{l:List HT}(h:l≠ []):jY G (x::l)=jY G l++ox G x:=by
 cases l with
 |nil=>exact absurd rfl h
 |cons y l=>rfl
theorem xZ:∀l:List HT,jY G l=(l.reverse.drop 1).flatMap (ox G)
 | []=>rfl
 | [x]=>rfl
 |x::y::l=>by
  have e:(x::y::l).reverse=(y::l).reverse++ [x]:=List.reverse_cons;rw [E6 (by simp),xZ (y::l),e,List.drop_append_of_le_length (by simp),List.flatMap_append];simp
end
section
variable{w w':World}{K:Value->World->Prop}{B n cx b:Nat}{A:Option Addr}{F:Nat->Prop}{c k:Nat}{G:GS}{m:CM}{l:List HT}
theorem Hd{l dk:List HT}{n i:Nat}(hn:l.length=n)(hd:dk.length=n)(pX:i<n-1-i)(h:∀t,t<n->dk[t]? =if t<i\/n-1-i<t then l.reverse[t]? else l[t]?){x y:HT}(hx:dk[i]? =some x)(hy:dk[n-1-i]? =some y):
 ∀t,t<n->((dk.set i y).set (n-1-i) x)[t]? =if t<i+1\/n-1-(i+1)<t then l.reverse[t]? else l[t]? :=by
 have e1:=h i (by omega);rw [if_neg (by omega),hx]at e1;have e2:=h (n-1-i) (by omega);rw [if_neg (by omega),hy]at e2;intro t ht;by_cases h1:t=n-1-i
 ·subst h1
  rw [List.getElem?_set_self (by simp;omega),if_pos (by omega),List.getElem?_reverse (by omega),show l.length-1-(n-1-i)=i by omega];exact e1
 ·rw [List.getElem?_set_ne (by omega)]
  by_cases h2:t=i
  ·subst h2
   rw [List.getElem?_set_self (by omega),if_pos (by omega),List.getElem?_reverse (by omega),show l.length-1-t=n-1-t by omega];exact e2
  ·rw [List.getElem?_set_ne (by omega),h t ht]
   by_cases h3:t<i\/n-1-i<t
   ·rw [if_pos h3,if_pos (by omega)]
   ·rw [if_neg h3,if_neg (by omega)]
theorem bI.at0{v:World}{l:List HT}(hr:bI v B (some ⟨b,0,none⟩) n cx l){i:Nat}{x:HT}(hx:l[i]? =some x):Cells v ((⟨b,0,none⟩:Addr).add (i*32)) x.1:=by
 obtain⟨a,h1,_,h3⟩:=(bI.hs hr).at_ i x hx;cases h1;exact h3
theorem BL(row:bI w B A n cx l)(hn:n<=1000000)(hK:∀w',bI w' B A n cx l.reverse->Kept (fun j=>a8 A=some j) w w'->K (.tuple #[]) w'):
 bk prog aJ.id #[.slice A n cx] w K:=by
 have hlen:=row.len;refine aJ.of ?_;unfold aJ.W;rw [gN (x:=(n:Int)-1) (by omega) (by omega)];refine aJ.b9 (I:=fun s v=>∃(i:Nat) (dk:List HT),s=((i:Int),(n:Int)-1-i)/\i<=n/\bI v B A n cx dk/\(∀t,t<n->dk[t]? =if t<i\/n-1-i<t then l.reverse[t]? else l[t]?)/\Kept (fun j=>a8 A=some j) w v) (μ:=fun s _=>(s.2+1-s.1).toNat) (s:=(0,(n:Int)-1)) ⟨0,l,by simp,Nat.zero_le _,row,fun t ht=>by rw [if_neg (by omega)],Kept.refl _ _⟩ ?_;rintro⟨_,_⟩ v ⟨i,dk,e,hi,hr,Vm,kv⟩;cases e;have XK:=hr.len;unfold aJ.B1;refine Split.dec (fun cJ=>?_) (fun gu=>?_)
 ·simp only at cJ
  have aa2:i<n-1-i:=by omega
  obtain⟨b,rfl⟩:=Row.some hr (by omega);intro w3;have k3:Kept Nil v w3:=(Kept.refl _ _).drew;clear_value w3;have wi:bI w3 B (some ⟨b,0,none⟩) n cx dk:=Row.aG hr k3 (fun _ _ h=>h);obtain⟨x,hx⟩:∃x,dk[i]? =some x:=⟨_,List.getElem?_eq_getElem (by omega)⟩;obtain⟨y,hy⟩:∃y,dk[n-1-i]? =some y:=⟨_,List.getElem?_eq_getElem (by omega)⟩;have ej:((n:Int)-1-(i:Int))=((n-1-i:Nat):Int):=by omega
  have r1:bI (setCells w3 ⟨b,i*32,none⟩ y.1.toList 0) B (some ⟨b,0,none⟩) n cx (dk.set i y):=bI.setAt wi (by omega) y;have r2:bI (setCells (setCells w3 ⟨b,i*32,none⟩ y.1.toList 0) ⟨b,(n-1-i)*32,none⟩ x.1.toList 0) B (some ⟨b,0,none⟩) n cx ((dk.set i y).set (n-1-i) x):=bI.setAt r1 (by omega) x;have kk:Kept (· =b) w3 (setCells (setCells w3 ⟨b,i*32,none⟩ y.1.toList 0) ⟨b,(n-1-i)*32,none⟩ x.1.toList 0):=(eZ _ _ _ _).tt (eZ _ _ _ _);have c1:=bI.at0 wi hx;have c2:=bI.at0 wi hy;have w1:=bI.GB wi (k:=i) (by omega);have w2:=bI.GB r1 (k:=n-1-i) (by omega);simp-zeta only [ej,Int.toNat_natCast];simp only [bg]at c1 c2;simp-zeta only [bg,Nat.zero_add]at*;refine⟨⟨by omega,by omega⟩,Is.mk rfl ⟨y.1,⟨y.2.1,by simp only [bg,Nat.zero_add];exact c2⟩,⟨by omega,by omega⟩,Is.mk rfl ⟨x.1,⟨x.2.1,by simp only [bg,Nat.zero_add];exact c1⟩,⟨by omega,by omega⟩,Is.mk rfl ⟨⟨y.2.1,y.2.one,fun o ho=>by have:=w1 o ho;simpa only [bg,Nat.zero_add]using this⟩,?_⟩⟩⟩⟩;simp-zeta only [bg,Nat.zero_add];intro p;refine⟨⟨by omega,by omega⟩,Is.mk rfl ⟨⟨x.2.1,x.2.one,fun o ho=>by have:=w2 o ho;simpa only [bg,Nat.zero_add]using this⟩,?_⟩⟩;simp-zeta only [bg,Nat.zero_add];intro u;rw [dt (n:=(i:Int)) (by omega) (by omega),gN (by omega) (by omega)];refine⟨((i:Int)+1,((n-1-i:Nat):Int)-1),rfl,⟨i+1,_,by rw [Prod.mk.injEq];exact⟨by omega,by omega⟩,by omega,r2,Hd hlen XK aa2 Vm hx hy,?_⟩,by simp only;omega⟩;exact kv.trans ((k3.mono fun _ _ h=>h.elim).tt kk) (fun j _ e=>by rw [e];rfl)
 ·simp only at gu
  rw [aO,aJ.df];unfold aJ.cH;have e:dk=l.reverse:=List.ext_getElem? fun t=>by
   by_cases ht:t<n
   ·rw [Vm t ht]
    by_cases h1:t<i\/n-1-i<t
    ·rw [if_pos h1]
    ·rw [if_neg h1,List.getElem?_reverse (by omega),show l.length-1-t=t by omega]
   ·rw [List.getElem?_eq_none (by omega),List.getElem?_eq_none (by simp;omega)]
  rw [<-e]at hK;exact hK v hr kv
theorem CV.SF(h:CV w F c k G m){y:HT}(hy:y∉ids G.D):(Instr.lookup dD (.map (some m.mb)) (.agg y.1) false).run prog w=.ok (.pointer none) w:=by
 have:=h.look y;rwa [if_neg hy]at this
theorem CC(h:CV w F c k G m){a:HT}(ha:a∉ids G.D)(hK:∀w',Kept Nil w w'->K (.tuple #[.agg (cG ⟨dZ,0,[],[]⟩ none 0 0 none 0 0),.int .i64 6]) w'):
 bk prog cY.id #[.pointer (some ⟨c,0,none⟩),.agg a.1] w K:=by
 refine cY.of ?_;unfold cY.W;intro w1 w2;have k1:Kept Nil w w1:=(Kept.refl _ _).alloc _;have Au:w1.heap[w.heap.size]? =some (.cells a.1 ai (0,0)):=aI w _;have k2:Kept Nil w1 w2:=(Kept.refl _ _).alloc _;have jD:w2.heap[w1.heap.size]? =some (.cells zC bn (0,0)):=aI w1 _;clear_value w2;have JJ:=k2.heap Au (fun h=>h);have kL:=k1.tt k2;have s1:=k1.size;have l1:=aT Au;clear_value w1;refine mN (h.same kL) ⟨true,rfl,Split.no rfl ?_⟩;intro w3;have k3:Kept Nil w2 w3:=(Kept.refl _ _).drew;clear_value w3;have h3:=h.same (kL.tt k3);have wi:=k3.heap jD (fun h=>h);have zs:(zC:Array Value)=cG ⟨dZ,0,[],[]⟩ none 0 0 none 0 0:=rfl;obtain⟨t1,t2,t3⟩:=dW wi (cs:=zC) rfl;refine Is.mk rfl ⟨_,h3.c2,a.1,⟨a.2.1,Cells.bE (k3.heap JJ (fun h=>h))⟩,_,h3.SF ha,Split.yes rfl ⟨⟨rfl,by rw [zs];exact eI _ _ _ _ _ _ _,fun j hj=>t1 j hj⟩,?_⟩⟩;exact⟨_,⟨rfl,Cells.bE t2⟩,hK _ ((kL.tt k3).trans t3 (fun j hj e=>by omega))⟩
open Classical in
noncomputable def Hq(D:DG)(l:List HT):Int:=if ∃x∈l,x∉ids D then 6 else 0
theorem ru{D:DG}{l:List HT}(h:∀x∈l,x∈ids D):Hq D l=0:=by unfold Hq;rw [if_neg];rintro⟨x,hx,e⟩;exact e (h x hx)
theorem ub{D:DG}{l:List HT}{x:HT}(hx:x∈l)(e:x∉ids D):Hq D l=6:=by unfold Hq;rw [if_pos ⟨x,hx,e⟩]
set_option maxHeartbeats 1000000 in
theorem nY(h:CV w F c k G m)(hD:G.D.length<=5000)(hl:HS w A n l)(hn:n<=1000000)(hK:∀w',Kept Nil w w'->K (.int .i64 (Hq G.D l)) w'):
 bk prog ck.id #[.pointer (some ⟨c,0,none⟩),.slice A n cx] w K:=by
 have hlen:=hl.len;refine ck.of ?_;unfold ck.W;refine tp h ⟨_,rfl,?_⟩;obtain⟨mx,X,_⟩:=h.X;refine fO.of (Split.no rfl (Is.mk rfl ⟨_,X.c0,⟨_,rfl,Split.no rfl ?_⟩⟩));refine ck.b9 (I:=fun s v=>∃i:Nat,s=(0,(i:Int))/\i<=n/\(∀x∈l.take i,x∈ids G.D)/\Kept Nil w v) (μ:=fun s _=>((n:Int)-s.2).toNat) (s:=(0,0)) ⟨0,rfl,Nat.zero_le _,by simp,Kept.refl _ _⟩ ?_;rintro⟨_,_⟩ v ⟨i,e,hi,fC,kv⟩;cases e;unfold ck.B1;refine Split.dec (fun cJ=>?_) (fun gu=>?_)
 ·simp only at cJ
  have dP:i<n:=by omega
  obtain⟨x,hx⟩:∃x,l[i]? =some x:=⟨_,List.getElem?_eq_getElem (by omega)⟩;refine(hl.same kv).load (i:=(i:Int)) (x:=x) (by omega) (by rw [Int.toNat_natCast];exact hx) ?_;intro w3;obtain⟨sD,jz,jS⟩:=gR (w:=v) (z:=dZ.1) (cs:=x.1) (t:=ai) (by rw [x.2.1];rfl);refine⟨⟨x.2.1,x.2.one,fun j hj=>sD j (by rw [x.2.1];exact hj)⟩,?_⟩;intro w4
  replace jz:w4.heap[v.heap.size]? =some (.cells x.1 ai (0,0)):=jz
  replace jS:Kept Nil v w4:=jS
  clear_value w4;have nf:=kv.tt jS;refine⟨x.1,⟨x.2.1,Cells.bE jz⟩,?_⟩;have fin:∀ {u:World} {C:nN} {A1 E1:Option Addr} {n1 p1 e1 q1:Nat} {Z:Prop},Kept Nil w u->(∀u',Kept Nil w u'->u'=setCells (u.alloc (.cells zC bn)) ⟨u.heap.size,0,none⟩ (cG C A1 n1 p1 E1 e1 q1).toList 0->Z)->
   ((cG C A1 n1 p1 E1 e1 q1).size=35/\(∀x∈(cG C A1 n1 p1 E1 e1 q1).toList,x.oneCell'=true)/\∀y,y<35->Wr (u.alloc (.cells zC bn)) ((⟨u.heap.size,0,none⟩:Addr).add y))/\Z:=by
   intro u C A1 E1 n1 p1 e1 q1 Z ku hz;have HY:(u.alloc (.cells zC bn)).heap[u.heap.size]? =some (.cells zC bn (0,0)):=aI u _;obtain⟨t1,t2,t3⟩:=dW HY (cs:=cG C A1 n1 p1 E1 e1 q1) (by rw [bf];rfl);exact⟨⟨bf ..,eI _ _ _ _ _ _ _,fun j hj=>t1 j (by rw [bf];exact hj)⟩,hz _ ((ku.alloc _).trans t3 (fun j hj e=>by have:=ku.size;omega)) rfl⟩
  by_cases hm:x∈ids G.D
  ·refine xx (h.same nf) hD hm fun A5 n5 c5 E5 e5 d5 w5 _ _ _ k5=>⟨_,_,rfl,?_⟩
   intro w6;refine fin (nf.tt k5) fun u' Mk eu=>?_;intro w7;refine Split.no rfl ?_;have e7:w7=u':=eu.symm;rw [e7,dt (n:=(i:Int)) (by omega) (by omega)];refine⟨(0,(i:Int)+1),rfl,⟨i+1,rfl,dP,fun y hy=>?_,Mk⟩,by simp only;omega⟩;rcases(bJ hx).1 hy with hy|rfl
   ·exact fC y hy
   ·exact hm
  ·refine CC (h.same nf) hm fun w5 k5=>⟨_,_,rfl,?_⟩
   intro w6;refine fin (nf.tt k5) fun u' Mk eu=>?_;intro w7;refine Split.yes rfl ?_;have e7:w7=u':=eu.symm;rw [e7];have:=hK u' Mk;rw [ub (List.mem_of_getElem? hx) hm]at this;exact this
 ·simp only at gu
  rw [aO,ck.df];rw [List.take_of_length_le (by omega)]at fC;have:=hK v kv;rw [ru fC]at this;exact this
theorem pk(h:CV w F c k G m)(hD:G.D.length<=5000){a:HT}(ha:a∈ids G.D)(hc:cr G.D G.P a l)(hK:∀A cx w',bI w' w.heap.size A l.length cx l.reverse->Kept Nil w w'->K (.slice A l.length cx) w'):
 bk prog iy.id #[.pointer (some ⟨c,0,none⟩),.agg a.1] w K:=by
 refine iy.of ?_;unfold iy.W;intro w1 w2;have k1:Kept Nil w w1:=(Kept.refl _ _).alloc _;have Au:w1.heap[w.heap.size]? =some (.cells a.1 ai (0,0)):=aI w _;have k2:Kept Nil w1 w2:=(Kept.refl _ _).drew;clear_value w2;have JJ:=k2.heap Au (fun h=>h);have kL:=k1.tt k2;clear_value w1;have h2:=h.same kL;obtain⟨mx,X,_⟩:=h2.X;refine⟨a.1,⟨a.2.1,Cells.bE JJ⟩,tp h2 ⟨_,rfl,⟨_,rfl,a.2.1,Cells.bE JJ⟩,?_⟩⟩;refine o9 a fun w3 pb qb k3 hp hq Ah hqb=>⟨_,rfl,?_⟩;have lC:=kL.tt k3;have hll:l.length<=G.D.length:=hc.Hu h.fy.iw;refine vF (xs:=l) aV.at_ rfl (xN (F:=m.FX) (x:=m.x) (m:=mx) (pb:=pb) (qb:=qb) hc (by omega)) (fun u ku=>⟨X.same (k3.tt ku),ku.heap hp (fun h=>h),ku.heap hq (fun h=>h)⟩) (by omega) fun A cx w4 iE k4=>⟨_,_,_,rfl,?_⟩;have pE:=lC.tt k4;have s3:=lC.size;refine BL iE (by omega) fun w5 iY k5=>⟨rfl,?_⟩;refine hK A cx w5 (Row.base iY (fun j hj=>by have:=(Row.bE iE hj).1;omega)) (pE.trans k5 (fun j hj e=>by have:=(Row.bE iE e).1;omega))
end
section
variable{w w' v:World}{K:Value->World->Prop}{B n cx b q:Nat}{A E:Option Addr}{F:Nat->Prop}{c k:Nat}{G:GS}{m:CM}{l:List HT}{C:nN}{cp e ce:Nat}
theorem Kc(w:World)(s:HT){B:Nat}(hB:B<=w.heap.size):bI (w.alloc (.cells (s.1.toList++ []).toArray ai)) B (some ⟨w.heap.size,0,none⟩) 1 1 [s]:=by
 have e:cX [s]=(s.1.toList++ []).toArray.toList:=by simp [cX]
 show Row _ _ _ _ _ _ _ (cX [s])
 rw [e];exact Row.made (aI w _) hB (by simp [s.2.1]) (by unfold maxLen;omega)
theorem vH(hx:v.heap[q]? =some (.cells (cG C A n cp E e ce) bn (0,0))):
 Cells v ((⟨q,0,none⟩:Addr).add 0) C.iw.1/\v.cell? ((⟨q,0,none⟩:Addr).add 32)=some (.int .u64 (C.score:Int))/\v.cell? ((⟨q,0,none⟩:Addr).add 33)=some (.slice A n cp)/\v.cell? ((⟨q,0,none⟩:Addr).add 34)=some (.slice E e ce):=by
 have g:=fZ C A n cp E e ce #[];rw [Array.append_empty]at g;refine⟨fun j u hj=>?_,by rw [bg,aA hx];exact g.1,by rw [bg,aA hx];exact g.2.1,by rw [bg,aA hx];exact g.2.2.1⟩;have cJ:=(Array.getElem?_eq_some_iff.1 hj).1;rw [add_zero,bg,aA hx,Nat.zero_add];unfold cG;rw [Array.getElem?_append_left cJ];exact hj
theorem LK(u:World)(C:nN)(A:Option Addr)(n cp:Nat)(E:Option Addr)(e ce:Nat):
 ((cG C A n cp E e ce).size=35/\(∀x∈(cG C A n cp E e ce).toList,x.oneCell'=true)/\∀y,y<35->Wr (u.alloc (.cells zC bn)) ((⟨u.heap.size,0,none⟩:Addr).add y))/\
   (setCells (u.alloc (.cells zC bn)) ⟨u.heap.size,0,none⟩ (cG C A n cp E e ce).toList 0).heap[u.heap.size]? =some (.cells (cG C A n cp E e ce) bn (0,0))/\
   Kept Nil u (setCells (u.alloc (.cells zC bn)) ⟨u.heap.size,0,none⟩ (cG C A n cp E e ce).toList 0):=by
 have HY:(u.alloc (.cells zC bn)).heap[u.heap.size]? =some (.cells zC bn (0,0)):=aI u _;obtain⟨t1,t2,t3⟩:=dW HY (cs:=cG C A n cp E e ce) (by rw [bf];rfl);exact⟨⟨bf ..,eI _ _ _ _ _ _ _,fun j hj=>t1 j (by rw [bf];exact hj)⟩,t2,((Kept.refl _ _).alloc _).trans t3 (fun j hj e=>by omega)⟩
theorem Ap(u:World)(x:HT):(x.1.size=32/\(∀y∈x.1.toList,y.oneCell'=true)/\∀y,y<32->Wr (u.alloc (.cells zH ai)) ((⟨u.heap.size,0,none⟩:Addr).add y))/\
 (setCells (u.alloc (.cells zH ai)) ⟨u.heap.size,0,none⟩ x.1.toList 0).heap[u.heap.size]? =some (.cells x.1 ai (0,0))/\Kept Nil u (setCells (u.alloc (.cells zH ai)) ⟨u.heap.size,0,none⟩ x.1.toList 0):=by
 obtain⟨sD,jz,jS⟩:=gR (w:=u) (z:=zH) (cs:=x.1) (t:=ai) (by rw [x.2.1];rfl);exact⟨⟨x.2.1,x.2.one,fun j hj=>sD j (by rw [x.2.1];exact hj)⟩,jz,jS⟩
theorem Hj(h:CV w F c k G m)(hD:G.D.length<=5000)(a:HT)(hc:cr G.D G.P a l)
 (lE:a∉ids G.D->∀w',Kept Nil w w'->K (.tuple #[.slice none 0 0,.int .i64 6]) w')
 (hK:a∈ids G.D->∀A cx w',bI w' w.heap.size A l.length cx l.reverse->Kept Nil w w'->K (.tuple #[.slice A l.length cx,.int .i64 0]) w'):
 bk prog iA.id #[.pointer (some ⟨c,0,none⟩),.agg a.1] w K:=by
 refine iA.of ?_;unfold iA.W;intro w1;have k1:Kept Nil w w1:=(Kept.refl _ _).alloc _;have Au:w1.heap[w.heap.size]? =some (.cells a.1 ai (0,0)):=aI w _;clear_value w1;refine⟨a.1,⟨a.2.1,Cells.bE Au⟩,a.2.1,?_⟩;intro w2;have k2:Kept Nil w1 w2:=(Kept.refl _ _).alloc _;have lh:HS w2 (some ⟨w1.heap.size,0,none⟩) 1 [a]:=iV w1 a;clear_value w2;have kL:=k1.tt k2;refine nY (h.same kL) hD lh (by omega) fun w3 k3=>⟨_,rfl,?_⟩;have lC:=kL.tt k3;have rI:=k2.tt k3;by_cases hm:a∈ids G.D
 ·rw [ru (by simpa using hm)]
  refine Split.no rfl ⟨a.1,⟨a.2.1,Cells.bE (rI.heap Au (fun h=>h))⟩,?_⟩;have s3:=lC.size;exact pk (h.same lC) hD hm hc fun A cx w4 iE k4=>⟨_,_,_,rfl,hK hm A cx w4 (Row.base iE (fun j hj=>by have:=(Row.bE iE hj).1;omega)) (lC.tt k4)⟩
 ·rw [ub (x:=a) (by simp) hm]
  exact Split.yes rfl (lE hm w3 lC)
theorem uM(a:HT)(hK:∀w' pb qb,Kept Nil w w'->w'.heap[pb]? =some (.cells #[.pointer (some ⟨c,0,none⟩)] eB (0,0))->w'.heap[qb]? =some (.cells a.1 ai (0,0))->w.heap.size<=pb->w.heap.size<=qb->K (.func (.func bp.id) #[] #[.pointer (some ⟨pb,0,none⟩),.pointer (some ⟨qb,0,none⟩)]) w'):
 bk prog iz.id #[.pointer (some ⟨c,0,none⟩),.agg a.1] w K:=by
 refine iz.of ?_;unfold iz.W;intro w3 w4;have k3:Kept Nil w w3:=(Kept.refl _ _).alloc _;have hp3:w3.heap[w.heap.size]? =some (.cells #[.pointer (some ⟨c,0,none⟩)] eB (0,0)):=aI w _;have k4:Kept Nil w3 w4:=(Kept.refl _ _).alloc _;have hq4:w4.heap[w3.heap.size]? =some (.cells a.1 ai (0,0)):=aI w3 _;clear_value w4;exact hK w4 _ _ (k3.tt k4) (k4.heap hp3 (fun h=>h)) hq4 (Nat.le_refl _) k3.size
def L5(G:GS)(x:HT)(vs:List Value)(w:World):Prop:=∃A n cx B,vs= [.agg x.1,.slice A n cx]/\bI w B A n cx (ox G x)
theorem Ez(H:eK k G){x:HT}(hx:x∈ids G.D){A:Option Addr}{n:Nat}(hm:HS w A n (G.gw x).merge):n<=G.D.length:=by
 have e1:=hm.len;have:=(xC H hx).1;omega
set_option maxHeartbeats 1000000 in
theorem BA{pb qb:Nat}{a:HT}(hl:cr G.D G.P a l)(hD:G.D.length<=5000):
 xJ prog bp.id #[] #[.pointer (some ⟨pb,0,none⟩),.pointer (some ⟨qb,0,none⟩)] (l.reverse.drop 1) (L5 G) (fun w=>CV w F c k G m/\w.heap[pb]? =some (.cells #[.pointer (some ⟨c,0,none⟩)] eB (0,0))/\w.heap[qb]? =some (.cells a.1 ai (0,0))):=by
 intro y I Q w0 hI hQ mH h0 og;obtain⟨hC,K4,MP⟩:=mH 0 Nil w0 h0;have H:=hC.fy;refine bp.of ?_;unfold bp.W;refine⟨_,by rw [aA K4];rfl,a.1,⟨a.2.1,Cells.bE MP⟩,a.2.1,?_⟩;intro w1;have k1:Kept Nil w0 w1:=(Kept.refl _ _).alloc _;have yq:HS w1 (some ⟨w0.heap.size,0,none⟩) 1 [a]:=iV w0 a;clear_value w1;refine nY (hC.same k1) hD yq (by omega) fun w2 k2=>⟨_,rfl,?_⟩;have kL:=k1.tt k2;by_cases hm:a∈ids G.D
 ·rw [ru (by simpa using hm)]
  refine Split.no rfl ⟨_,by rw [aA (kL.heap K4 (fun h=>h))];rfl,a.1,⟨a.2.1,Cells.bE (kL.heap MP (fun h=>h))⟩,?_⟩;refine pk (hC.same kL) hD hm hl fun A cx w3 mQ k3=>⟨A,_,cx,rfl,?_⟩;have lC:=kL.tt k3;have s2:=kL.size;obtain⟨r,Le⟩:=hl.cons H.W H.iw hm;have vk:1<=l.length:=by rw [Le];simp
  have hll:l.length<=G.D.length:=hl.Hu H.iw;have Rw:∀x∈l.reverse.drop 1,x∈ids G.D:=fun x hx=>by
   have h1:=List.mem_reverse.1 (List.mem_of_mem_drop hx);obtain⟨i,j,ni,nj,g1,_,g3,g4,_⟩:=(hl.mem H.W H.iw).1 h1;exact cP.2 ⟨nj,List.mem_of_getElem? g3,g4⟩
  refine⟨⟨by omega,by omega⟩,?_⟩;have yo:=bI.cap mQ;refine bp.b9 (I:=fun s v=>∃i:Nat,s=(i:Int)/\i<=l.length-1/\I i (fun j=>a8 A=some j) v/\bI v w2.heap.size A l.length cx l.reverse) (μ:=fun s _=>((l.length:Int)-s).toNat) (s:=0) ⟨0,rfl,Nat.zero_le _,hI 0 Nil _ w0 w3 h0 lC (fun j hj=>.inr ?_),mQ⟩ ?_
  ·obtain⟨gu,cur,kR⟩:=Row.bE mQ hj
   exact⟨by omega,aT kR⟩
  rintro s v ⟨i,rfl,hi,hv,EM⟩;unfold bp.B1;refine Split.dec (fun cJ=>?_) (fun gu=>?_)
  ·have dP:i<l.length-1:=by simp at cJ;omega
   obtain⟨x,hx⟩:∃x,(l.reverse.drop 1)[i]? =some x:=⟨_,List.getElem?_eq_getElem (by simp;omega)⟩;have Xq:=Rw x (List.mem_of_getElem? hx);have hs:=(bI.hs EM).drop (k:=1) yo vk;obtain⟨hCv,hpv,hqv⟩:=mH i _ v hv;refine HS.load hs (i:=(i:Int)) (x:=x) (by omega) (by rw [Int.toNat_natCast];exact hx) ?_;intro w4;obtain⟨yq,lh,nh⟩:=Ap v x;refine⟨yq,?_⟩;intro w5
   replace lh:w5.heap[v.heap.size]? =some (.cells x.1 ai (0,0)):=lh
   replace nh:Kept Nil v w5:=nh
   clear_value w5;refine⟨_,by rw [aA (nh.heap hpv (fun h=>h))];rfl,x.1,⟨x.2.1,Cells.bE lh⟩,?_⟩;refine xx (hCv.same nh) hD Xq fun A5 n5 c5 E5 e5 d5 w6 r5 _ _ k6=>⟨_,_,rfl,?_⟩;intro w7;obtain⟨t1,t2,t3⟩:=LK w6 (G.gw x) A5 n5 c5 E5 e5 d5;refine⟨t1,?_⟩;intro w8 w9
   replace t2:w8.heap[w6.heap.size]? =some (.cells (cG (G.gw x) A5 n5 c5 E5 e5 d5) bn (0,0)):=t2
   replace t3:Kept Nil w6 w8:=t3
   have k9:Kept Nil w8 w9:=(Kept.refl _ _).drew;clear_value w9;have t29:=k9.heap t2 (fun h=>h);have KE:=t3.tt k9;clear_value w8;have Mo:=k6.tt KE;have Xe:=nh.tt Mo;obtain⟨f1,_,f3,_⟩:=vH t29;refine⟨x.1,⟨x.2.1,Cells.bE (Mo.heap lh (fun h=>h))⟩,_,⟨(G.gw x).iw.2.1,f1⟩,A5,n5,c5,f3,(G.gw x).iw.2.1,?_⟩;intro w10;have mG:Kept Nil w9 w10:=(Kept.refl _ _).alloc _;have uB:bI w10 w9.heap.size (some ⟨w9.heap.size,0,none⟩) 1 1 [(G.gw x).iw]:=Kc w9 _ (Nat.le_refl _);clear_value w10;have Y5:=((bI.hs r5).same KE).same mG;have hn5:=Ez H Xq (bI.hs r5);have s10:=mG.size;obtain⟨A6,c6,qi,Xz,BI,g6,hA6⟩:=cD aC uB (cx:=c5) Y5 (by omega) s10;have zV:Kept Nil w9 qi:=Kept.eh mG g6 (fun j hj=>(Row.bE uB hj).1);have OF:=KE.tt zV;have BU:=Xe.tt zV;have Zs:=Mo.tt zV;refine⟨(vH (mG.heap t29 (fun h=>h))).2.2.1,⟨_,rfl,x.2.1,Cells.bE (mG.heap (Mo.heap lh (fun h=>h)) (fun h=>h))⟩,A6,_,c6,qi,Xz,⟨_,rfl,x.2.1,Cells.bE (Zs.heap lh (fun h=>h))⟩,?_⟩;refine(og i x [.agg x.1,.slice A6 (1+n5) c6] (fun j=>a8 A=some j) qi hx ⟨A6,1+n5,c6,_,rfl,BI⟩ (hI i _ _ v qi hv BU (fun j hj=>.inl hj))).mono ?_;rintro bb lR ⟨ht,hf⟩;cases bb with
   |true=>
    obtain⟨Wi,kI⟩:=ht rfl;refine Split.no rfl ?_;rw [dt (n:=(i:Int)) (by omega) (by omega)];have Oe:bI qi w2.heap.size A l.length cx l.reverse:=Row.aG EM BU (fun _ _ h=>h);exact⟨(i:Int)+1,rfl,⟨i+1,rfl,dP,Wi,Row.aG Oe kI (fun j hj e=>e hj)⟩,by simp only;omega⟩
   |false=>exact Split.yes rfl (Or.inr (hf rfl))
  ·rw [aO,bp.df]
   have e:i=(l.reverse.drop 1).length:=by
    simp at gu⊢;omega
   subst e;exact Or.inl ⟨_,hv⟩
 ·rw [ub (x:=a) (by simp) hm]
  have e:l= []:=by
   rcases hl with⟨_,rfl⟩|⟨i,nd,ks,h1,h2,_,_⟩
   ·rfl
   ·exact absurd (cP.2 ⟨nd,List.mem_of_getElem? h1,h2⟩) hm
  subst e;exact Split.yes rfl (Or.inl ⟨Nil,hI 0 Nil Nil w0 w2 h0 kL (fun j hj=>hj.elim)⟩)
end
section
variable{w w' v:World}{K:Value->World->Prop}{B n cx b q:Nat}{A E:Option Addr}{F:Nat->Prop}{c k:Nat}{G:GS}{m:CM}{l:List HT}{C:nN}{cp e ce:Nat}{a:HT}
theorem E0(l:List HT){i:Nat}{x:HT}(hx:(l.reverse.drop 1)[i]? =some x):((l.reverse.drop 1).take (i+1)).flatMap (ox G)=((l.reverse.drop 1).take i).flatMap (ox G)++ox G x:=by
 rw [List.take_add_one,hx];simp
theorem zf(H:eK k G){x:HT}(hx:x∈ids G.D):(ox G x).length<=G.D.length+1:=by
 have:=(xC H hx).1;unfold ox;simp only [List.length_cons];omega
theorem yw(H:eK k G):∀l:List HT,(∀x∈l,x∈ids G.D)->(l.flatMap (ox G)).length<=l.length*(G.D.length+1)
 | [],_=>by simp
 |x::l,h=>by
  have h1:=zf H (h x List.mem_cons_self);have h2:=yw H l (fun y hy=>h y (List.mem_cons_of_mem _ hy));rw [List.flatMap_cons,List.length_append,List.length_cons,Nat.add_mul];omega
theorem I3(H:eK k G)(hl:cr G.D G.P a l):∀x∈l,x∈ids G.D:=fun x hx=>by
 obtain⟨i,j,ni,nj,g1,_,g3,g4,_⟩:=(hl.mem H.W H.iw).1 hx;exact cP.2 ⟨nj,List.mem_of_getElem? g3,g4⟩
theorem ur(H:eK k G)(hl:cr G.D G.P a l):∀x∈l.reverse.drop 1,x∈ids G.D:=fun x hx=>I3 H hl x (List.mem_reverse.1 (List.mem_of_mem_drop hx))
theorem Ko(H:eK k G)(hl:cr G.D G.P a l):(jY G l).length<=G.D.length*(G.D.length+1):=by
 rw [xZ];refine Nat.le_trans (yw H _ (ur H hl)) (Nat.mul_le_mul_right _ ?_);have:=hl.Hu H.iw;simp only [List.length_drop,List.length_reverse];omega
theorem zh{d i:Nat}(hd:d<=900)(hi:i<=d):i*(d+1)<=900*901:=Nat.mul_le_mul (by omega) (by omega)
set_option maxHeartbeats 1000000 in
theorem po(h:CV w F c k G m)(hD:G.D.length<=900)(a:HT)(hc:cr G.D G.P a l)
 (lE:a∉ids G.D->∀w',Kept Nil w w'->K (.tuple #[.slice none 0 0,.int .i64 6]) w')
 (hK:a∈ids G.D->∀A cx w',bI w' w.heap.size A (jY G l).length cx (jY G l)->Kept Nil w w'->K (.tuple #[.slice A (jY G l).length cx,.int .i64 0]) w'):
 bk prog cR.id #[.pointer (some ⟨c,0,none⟩),.agg a.1] w K:=by
 have H:=h.fy;refine cR.of ?_;unfold cR.W;intro w1;have k1:Kept Nil w w1:=(Kept.refl _ _).alloc _;have Au:w1.heap[w.heap.size]? =some (.cells a.1 ai (0,0)):=aI w _;clear_value w1;refine⟨a.1,⟨a.2.1,Cells.bE Au⟩,a.2.1,?_⟩;intro w2;have k2:Kept Nil w1 w2:=(Kept.refl _ _).alloc _;have lh:HS w2 (some ⟨w1.heap.size,0,none⟩) 1 [a]:=iV w1 a;clear_value w2;have kL:=k1.tt k2;refine nY (h.same kL) (by omega) lh (by omega) fun w3 k3=>⟨_,rfl,?_⟩;have lC:=kL.tt k3;have rI:=k2.tt k3;by_cases hm:a∈ids G.D
 ·rw [ru (by simpa using hm)]
  refine Split.no rfl ?_;intro w4;have k4:Kept Nil w3 w4:=(Kept.refl _ _).alloc _;have ho4:w4.heap[w3.heap.size]? =some (.cells #[.slice none 0 0] aC (0,0)):=aI w3 _;clear_value w4;have pE:=lC.tt k4;refine⟨a.1,⟨a.2.1,Cells.bE ((rI.tt k4).heap Au (fun h=>h))⟩,?_⟩;refine uM a fun w5 pb qb k5 hp5 XA Ah hqb=>⟨_,rfl,?_⟩;have tk:=pE.tt k5;have ho5:=k5.heap ho4 (fun h=>h);have s3:=lC.size;have s4:=k4.size;have s5:=k5.size;have l4:=aT ho4;generalize FC:w3.heap.size=ob at ho5 l4;have lo5:=aT ho5
  let yv:Value:=.func (.func bp.id) #[] #[.pointer (some ⟨pb,0,none⟩),.pointer (some ⟨qb,0,none⟩)]
  let ρ0:Env:= [(4,.slice none 0 0),(5,.int .i64 0),(7,.pointer (some ⟨ob,0,none⟩)),(19,yv)]
  let xs:=l.reverse.drop 1
  let J:Nat->(Nat->Prop)->World->Prop:=fun i Pr u=>i<=xs.length/\Kept (· =ob) w5 u/\(∃A n cx,u.heap[ob]? =some (.cells #[.slice A n cx] aC (0,0))/\bI u w5.heap.size A n cx ((xs.take i).flatMap (ox G))/\(∀j,a8 A=some j->¬Pr j))/\∀j,Pr j->w5.heap.size<=j/\j<u.heap.size
  have kJ:∀ {u:World},Kept (· =ob) w5 u->Kept Nil w u:=fun k=>tk.trans k (fun j hj e=>by omega);have kJ5:∀ {u:World},Kept (· =ob) w5 u->Kept Nil w3 u:=fun k=>(k4.tt k5).trans k (fun j hj e=>by omega)
  change Holds none [] prog _ _ _ ρ0 w5
  refine zw (n:=26) (ρ:=ρ0) (ρ0:=ρ0) ng mix cR.k (t:=19) (ps:= #[20,21]) (by kernel_rfl) (by decide) rfl bp.at_ rfl (.inl rfl) (fun i x hi hx=>hx) rfl xs (L5 G) (fun x vs u hE=>by obtain⟨A,n,cx,B,rfl,_⟩:=hE;rfl) (fun q hq=>by
   have WC:q=20\/q=21:=by simpa using hq
   rcases WC with rfl|rfl<;>exact⟨by decide,by decide⟩) (BA (F:=F) (c:=c) (k:=k) (m:=m) (pb:=pb) (qb:=qb) hc (by omega)) J (fun _ _=>False) ?_ (fun _ _ _ _ _ h=>h.elim) (fun i Pr u hJ=>⟨h.same (kJ hJ.2.1),hJ.2.1.heap hp5 (by omega),hJ.2.1.heap XA (by omega)⟩) ?_ ?_ ?_ (fun _ _ h=>h.elim) (fun _ _ _ h=>h.elim)
  ·rintro i Pr Nv u1 u2 R oC ⟨h0,h1,⟨A,n,cx,h2,h3,h4⟩,h5⟩ hk hp
   have su:=hk.size;have sw:=h1.size;refine⟨h0,h1.trans hk (fun j hj e=>by omega),⟨A,n,cx,hk.heap h2 (by omega),Row.apart h3 hk (fun cs t fr h=>by rw [oC.loop]at h;cases h),fun j hj e=>?_⟩,fun j hj=>?_⟩
   ·rcases hp j e with e|e
    ·exact h4 j hj e
    ·obtain⟨_,cur,kR⟩:=Row.bE h3 hj
     have:=aT kR;omega
   ·rcases hp j hj with e|e
    ·have:=h5 j e;omega
    ·omega
  ·intro R
   exact⟨Nat.zero_le _,((Kept.refl _ _).alloc _).alloc _,⟨none,0,0,iQ (iQ ho5 _) _,bI.nil _ _,fun j hj=>by cases hj⟩,fun j hj=>hj.elim⟩
  ·rintro i x vs Pr u1 R hx ⟨A2,n2,c2,B2,rfl,Ae⟩ ⟨h0,h1,⟨A,n,cx,h2,h3,h4⟩,h5⟩ oC Pw
   have e7:ko ρ0 ((#[20,21]:Array Nat).toList.zip [.agg x.1,.slice A2 n2 c2])= [(4,.slice none 0 0),(5,.int .i64 0),(7,.pointer (some ⟨ob,0,none⟩)),(19,yv),(20,.agg x.1),(21,.slice A2 n2 c2)]:=rfl;rw [e7,cR.a1];unfold cR.A1;refine⟨oC,fun w2 R2 mJ qH=>?_⟩;rw [cR.y1];unfold cR.Y1;have dP:=(lgeS hx).1;have PT:i<xs.length:=dP;have Xq:=ur H hc x (List.mem_of_getElem? hx);have yR:=mJ.heap h2 (by omega);have Gu:bI w2 w5.heap.size A n cx ((xs.take i).flatMap (ox G)):=Row.apart h3 mJ (fun cs t fr h=>by rw [oC.loop]at h;cases h);have Pk:HS w2 A2 n2 (ox G x):=bI.hs (Row.apart Ae mJ (fun cs t fr h=>by rw [oC.loop]at h;cases h));have hlen:=Gu.len;have DZ:=yw H (xs.take i) (fun y hy=>ur H hc y (List.mem_of_mem_take hy));have tK:xs.length<=G.D.length:=by
    have:=hc.Hu H.iw;simp only [xs,List.length_drop,List.length_reverse];omega
   rw [List.length_take,Nat.min_eq_left (by omega)]at DZ;have Z3:=zh hD (i:=i) (by omega);have Bh:=zf H Xq;have XC:=Pk.len;have sw2:=mJ.size;have sh1:=h1.size;obtain⟨A3,c3,R0,xn,iE,g4,QE⟩:=cD aC Gu (cx:=c2) Pk (by omega) (by omega);have kg:Kept (fun j=>a8 A=some j) w2 R0:=Kept.grown (Kept.refl _ _) g4 fun j hj _=>hj;have nob:a8 A≠some ob:=fun e=>by
    have:=(Row.bE Gu e).1;omega
   have h24:=kg.heap yR nob;have ll4:Live (w5.heap.size+1) w5.heap.size R2 R0:=by
    refine qH.aG kg ?_ ?_
    ·intro e
     obtain⟨_,cur,kR⟩:=Row.bE Gu e;exact kr kR qH.loop rfl
    ·intro e
     obtain⟨_,cur,kR⟩:=Row.bE Gu e;exact rp kR qH.mark rfl
   refine⟨A,n,cx,by rw [aA yR];rfl,A3,_,c3,R0,xn,dO h24 (by simp),?_⟩;intro YF;have oE:YF.heap[ob]? =some (.cells #[.slice A3 (n+n2) c3] aC (0,0)):=dc h24 0 _;have S9:Kept (· =ob) R0 YF:=Kept.setCell (S:=fun k=>k=ob) (Kept.refl _ R0) (p:=⟨ob,0,none⟩) (fun _=>rfl) _;clear_value YF;have sg:=kg.size;have sb:=S9.size;have hA3:∀j,a8 A3=some j->¬Pr j:=fun j hj e=>by
    rcases QE j hj with e2|e2
    ·exact h4 j e2 e
    ·have:=(h5 j e).2;omega
   have nA3:∀j,a8 A3=some j->j≠ob:=fun j hj e=>by
    have:=(Row.bE iE hj).1;omega
   refine⟨ll4.aG S9 (fun e=>by omega) (fun e=>by omega),⟨PT,?_,⟨A3,n+n2,c3,oE,?_,hA3⟩,fun j hj=>by have:=h5 j hj;omega⟩,?_⟩
   ·exact((h1.trans mJ (fun j hj e=>by omega)).trans kg (fun j hj e=>by have:=(Row.bE Gu e).1;omega)).trans S9 (fun j hj e=>e)
   ·have:=Row.aG iE S9 nA3
    rw [E0 l hx];exact this
   ·refine((mJ.mono (S':=fun j=>¬Pr j) (fun j hj e hp=>by have:=Pw j hp;omega)).trans kg (fun j hj e=>h4 j e)).trans S9 (fun j hj e hp=>by have:=h5 j hp;omega)
  ·rintro Pr u1 R ⟨h0,h1,⟨A,n,cx,h2,h3,h4⟩,h5⟩ oC
   have e7:fR ρ0 w5.heap.size= [(4,.slice none 0 0),(5,.int .i64 0),(7,.pointer (some ⟨ob,0,none⟩)),(19,yv),(4294967296,.agg (pC [w5.heap.size]))]:=rfl;rw [e7,cR.jo];unfold cR.gL;rw [lT];have kt:=jq [w5.heap.size] u1;have hmm:∀E∈ [w5.heap.size],u1.heap[E]? =some (.deferred (some [])):=fun E hE=>by
    rw [List.mem_singleton]at hE;subst hE;exact oC.mark
   rw [List.take_of_length_le (Nat.le_refl _),<-xZ]at h3;have hn:=h3.len;refine⟨A,n,cx,by rw [aA h2];rfl,kQ [w5.heap.size] u1 (by simp) hmm,?_⟩;subst hn;have s05:=tk.size;refine hK hm A cx _ ?_ ((kJ h1).trans kt (fun j hj e=>by rw [List.mem_singleton]at e;omega));refine Row.base (Row.aG h3 kt (fun j hj e=>?_)) (fun j hj=>by have:=(Row.bE h3 hj).1;omega);rw [List.mem_singleton]at e;subst e;obtain⟨_,cur,kR⟩:=Row.bE h3 hj;exact rp kR oC.mark rfl
 ·rw [ub (x:=a) (by simp) hm]
  exact Split.yes rfl (lE hm w3 lC)
end
section
variable{w w' v:World}{K:Value->World->Prop}{B n cx q n1 c1 e1 d1:Nat}{A A1 E1:Option Addr}{F:Nat->Prop}{r x k:Nat}{G:GS}{l out:List HT}{C:nN}{a:HT}
end
section
variable{r a b c:HT}(yj:r≠a)(wh:r≠b)(DM:r≠c)(kM:a≠b)(D5:a≠c)(Bk:b≠c)
include yj wh DM kM D5 Bk in
theorem Zl(cJ:cJ b a=true){G1 G2 G3:GS}(h1:cV 0 (cS r) a [r]=G1)(h2:cV 0 G1 b [r]=G2)(h3:cV 0 G2 c [a,b]=G3){l:List HT}(hc:cr G3.D G3.P c l):c∈ids G3.D/\jY G3 l= [r,a,b]:=by
 obtain⟨G1',G2',e1,e2,_,_,H2,_,D2,_,_,_,_,_,aa,_,ar⟩:=Zm yj wh kM 0;rw [h1]at e1;subst e1;rw [h2]at e2;subst e2;obtain⟨c3,hR⟩:=kG3 yj wh DM kM D5 Bk cJ h1 h2;have H3:eK 0 G3:=by rw [<-h3];exact H2.add c [a,b]
 have D3:G3.D= [⟨r,[]⟩,⟨a,[r]⟩,⟨b,[r]⟩,⟨c,di [a,b]⟩]:=by rw [<-h3,pL,D2];exact(k3 DM kM D5 Bk).2
 unfold nH at hR;rw [if_pos c3]at hR;have Vp:G3.gw c=⟨a,2,[b],[false]⟩:=by rw [<-h3,(lu H2 c3).1];exact hR
 have mV:c∈ids G3.D:=by rw [D3];simp [ids]
 have ham:a∈ids G3.D:=by rw [D3];simp [ids]
 have hrm:r∈ids G3.D:=by rw [D3];simp [ids]
 refine⟨mV,?_⟩;have W3:=H3.W;have S3:=H3.iw;have Sr:∀s,lH G3.D s a->s=r:=by
  rintro s ⟨nd,hn,hid,hp⟩;rw [D3]at hn;simp only [List.mem_cons,List.not_mem_nil,or_false]at hn;rcases hn with rfl|rfl|rfl|rfl
  ·exact absurd hid yj
  ·simpa using hp
  ·exact absurd hid kM.symm
  ·exact absurd hid D5.symm
 have Hc:G3.D[0]? =some ⟨r,[]⟩:=by rw [D3];rfl
 rcases pq H3 mV hc with⟨_,⟨nd,h0,hid⟩,_⟩|⟨s,l2,rfl,hs,vi,JH,eo⟩
 ·rw [Hc]at h0
  cases h0;exact absurd hid DM
 have es:s=a:=by
  have:=(H3.up s c hs).1;rw [Vp]at this;exact this.symm
 subst es;rcases pq H3 ham JH with⟨_,⟨nd,h0,hid⟩,_⟩|⟨t,l3,rfl,ht,Xu,Qf,eo2⟩
 ·rw [Hc]at h0
  cases h0;exact absurd hid yj
 have et:t=r:=Sr t (ht.par S3);subst et;rcases pq H3 hrm Qf with⟨eo3,_,_⟩|⟨u,l4,rfl,hu,_,_,_⟩
 rotate_left
 ·exact absurd (dN.one (hu.par S3)) (tg H3 Hc u)
 have hma:(G3.gw s).merge= []:=by
  rw [List.eq_nil_iff_forall_not_mem];intro y hy;obtain⟨_,_,_,_,hm⟩:=H3.up t s ht;obtain⟨qS,tO,Bm⟩:=(hm y).1 hy;rcases qS with qS;obtain⟨p,hp,hor⟩:∃p,lH G3.D p s/\(y=p\/dN G3.D y p):=by
   cases qS with
   |one hp=>exact⟨_,hp,.inl rfl⟩
   |more ha hp=>exact⟨_,hp,.inr ha⟩
  have:=Sr p hp;subst this;rcases hor with h|h
  ·exact tO h
  ·exact Bm h
 rw [eo,eo2,eo3,hma,Vp];rfl
end
section
variable{w w':World}{K:Value->World->Prop}
set_option maxHeartbeats 1000000 in
theorem BW(hT:tT w)(hK:∀w',Kept Nil w w'->K (.bool true) w'):bk prog gP.id #[] w K:=by
 let r:=hx 1 (by omega)
 let a:=hx 3 (by omega)
 let b:=hx 2 (by omega)
 let c:=hx 4 (by omega)
 have yj:r≠a:=sC (by omega);have wh:r≠b:=sC (by omega);have DM:r≠c:=sC (by omega);have kM:a≠b:=sC (by omega);have D5:a≠c:=sC (by omega);have Bk:b≠c:=sC (by omega);have aa0:cJ b a=true:=by decide
 refine gP.of ?_;unfold gP.W;intro w1 w2 w3 w4;obtain⟨⟨f1,f2,f3,f4⟩,hr,ha,hb,hc,l1,l2,l3,l4,k⟩:=four w r a b c;refine⟨⟨r.2.1,r.2.one,f1⟩,?_⟩;intro w7;refine⟨⟨a.2.1,a.2.one,f2⟩,?_⟩;intro w10;refine⟨⟨b.2.1,b.2.one,f3⟩,?_⟩;intro lV;refine⟨⟨c.2.1,c.2.one,f4⟩,?_⟩;intro jw
 replace hr:jw.heap[w.heap.size]? =some (.cells r.1 ai (0,0)):=hr
 replace ha:jw.heap[w1.heap.size]? =some (.cells a.1 ai (0,0)):=ha
 replace hb:jw.heap[w2.heap.size]? =some (.cells b.1 ai (0,0)):=hb
 replace hc:jw.heap[w3.heap.size]? =some (.cells c.1 ai (0,0)):=hc
 replace k:Kept Nil w jw:=k
 replace l1:w.heap.size<w1.heap.size:=l1
 replace l2:w1.heap.size<w2.heap.size:=l2
 replace l3:w2.heap.size<w3.heap.size:=l3
 replace l4:w3.heap.size<jw.heap.size:=l4
 clear f1 f2 f3 f4;clear_value jw;clear lV w10 w7;clear_value w3;clear w4;clear_value w2;clear_value w1;have hTl:=hT.lt;have Sd:=k.size;have box:∀ {u:World} {S:Nat->Prop},Kept S jw u->(∀k,S k->jw.heap.size<=k)->Cells u (⟨w.heap.size,0,none⟩:Addr) r.1/\Cells u (⟨w1.heap.size,0,none⟩:Addr) a.1/\Cells u (⟨w2.heap.size,0,none⟩:Addr) b.1/\Cells u (⟨w3.heap.size,0,none⟩:Addr) c.1:=fun ku hS=>
  ⟨Cells.bE (ku.heap hr (fun e=>by have:=hS _ e;omega)),Cells.bE (ku.heap ha (fun e=>by have:=hS _ e;omega)),Cells.bE (ku.heap hb (fun e=>by have:=hS _ e;omega)),Cells.bE (ku.heap hc (fun e=>by have:=hS _ e;omega))⟩
 obtain⟨G1,G2,e1,e2,c1,c2,H2,D1,D2,_⟩:=Zm yj wh kM 0;obtain⟨G3,e3⟩:∃G3,cV 0 G2 c [a,b]=G3:=⟨_,rfl⟩;have D3:G3.D= [⟨r,[]⟩,⟨a,[r]⟩,⟨b,[r]⟩,⟨c,di [a,b]⟩]:=by rw [<-e3,pL,D2];exact(k3 DM kM D5 Bk).2
 refine⟨r.1,⟨r.2.1,Cells.bE hr⟩,ig r (k:=0) (by omega) fun oR cc q m C hm hq xk=>⟨_,_,rfl,Split.no rfl (Split.no rfl ?_)⟩⟩;obtain⟨b1,b2,b3,b4⟩:=box xk (fun _ h=>h.elim);refine⟨a.1,⟨a.2.1,b2⟩,r.1,⟨r.2.1,b1⟩,r.2.1,?_⟩;intro lQ;have qp:Kept Nil oR lQ:=(Kept.refl _ _).alloc _;have Ls:HS lQ (some ⟨oR.heap.size,0,none⟩) 1 [r]:=iV oR r;clear_value lQ;have B9:=xk.tt qp;have W9:=B9.size;refine mv (C.same qp) (hT.same (k.tt B9)) (fun e=>by have:=hm _ (.inl e);omega) (by simp [cS]) (by omega) Ls (by omega) a fun oQ F2 m2 A2 n2 p2 E2 q2 z2 C2 _ zY Lc _ _ _ _ _=>⟨_,_,rfl,?_⟩;rw [e1]at C2;have YY:∀j,m2.own cc j->jw.heap.size<=j:=fun j e=>(Lc j e).elim (hm j) (fun h=>by omega);have Mt:Kept (fun q=>jw.heap.size<=q) jw oQ:=(B9.mono (S':=fun q=>jw.heap.size<=q) (fun _ _ h=>h.elim)).trans zY (fun q _ h=>hm q h);obtain⟨b1,b2,b3,b4⟩:=box Mt (fun _ h=>h);refine⟨b.1,⟨b.2.1,b3⟩,r.1,⟨r.2.1,b1⟩,r.2.1,?_⟩;intro GI;have Mq:Kept Nil oQ GI:=(Kept.refl _ _).alloc _;have VR:HS GI (some ⟨oQ.heap.size,0,none⟩) 1 [r]:=iV oQ r;clear_value GI;have HL:=Mt.trans Mq (fun _ _ h=>h.elim);have s31:=HL.size;refine mv (C2.same Mq) ((hT.same k).aG HL (fun e=>by omega)) (fun e=>by have:=YY _ (.inl e);omega) (by rw [D1];simp) (by omega) VR (by omega) b fun rU F3 m3 A3 n3 p3 E3 q3 z3 C3 _ BY hm3 _ _ _ _ _=>⟨_,_,rfl,?_⟩;rw [e2]at C3;have om3:∀j,m3.own cc j->jw.heap.size<=j:=fun j e=>(hm3 j e).elim (YY j) (fun h=>by omega);have Ms:Kept (fun q=>jw.heap.size<=q) jw rU:=HL.trans BY (fun q _ h=>YY q h);obtain⟨b1,b2,b3,b4⟩:=box Ms (fun _ h=>h)
 refine⟨c.1,⟨c.2.1,b4⟩,a.1,⟨a.2.1,b2⟩,b.1,⟨b.2.1,b3⟩,a.2.1,b.2.1,?_⟩;intro Gl;have HC:Kept Nil rU Gl:=(Kept.refl _ _).alloc _;have Lr:HS Gl (some ⟨rU.heap.size,0,none⟩) 2 [a,b]:=HS.lay (l:= [a,b]) (t:=ai) (aI rU (.cells (cX [a,b]).toArray ai));clear_value Gl;have HK:=Ms.trans HC (fun _ _ h=>h.elim);have s39:=HK.size;refine mv (C3.same HC) ((hT.same k).aG HK (fun e=>by omega)) (fun e=>by have:=om3 _ (.inl e);omega) (by rw [D2];simp) (by omega) Lr (by omega) c fun NJ F4 m4 A4 n4 p4 E4 q4 z4 C4 _ OH _ _ _ _ _ _=>⟨_,_,rfl,?_⟩;rw [e3]at C4;have HJ:Kept (fun q=>jw.heap.size<=q) jw NJ:=HK.trans OH (fun q _ h=>om3 q h);have s41:=HJ.size;obtain⟨b1,b2,b3,b4⟩:=box HJ (fun _ h=>h);refine⟨c.1,⟨c.2.1,b4⟩,?_⟩;obtain⟨l,hl⟩:=cr.ex C4.fy.iw c;obtain⟨mV,Uh⟩:=Zl yj wh DM kM D5 Bk aa0 e1 e2 e3 hl;refine po C4 (by rw [D3];simp) c hl (fun e=>absurd mV e) fun _ A5 c5 El iY HB=>⟨A5,_,c5,_,rfl,?_⟩;rw [Uh]at iY⊢;intro Jt;have Xm:Kept Nil El Jt:=(Kept.refl _ _).drew;clear_value Jt;have Tf:=HB.tt Xm;have Mr:=HJ.trans Tf (fun _ _ h=>h.elim);obtain⟨b1,b2,b3,b4⟩:=box Mr (fun _ h=>h);have hs:=(bI.hs iY).same Xm;refine Split.yes rfl (Split.yes rfl ?_);refine hs.load (i:=0) (x:=r) (by omega) rfl ⟨r.1,⟨r.2.1,b1⟩,⟨r.2.ints,r.2.ints⟩,?_⟩;rw [dH];refine Split.yes (decide_eq_true rfl) ?_;refine hs.load (i:=1) (x:=a) (by omega) rfl ⟨a.1,⟨a.2.1,b2⟩,⟨a.2.ints,a.2.ints⟩,?_⟩;rw [dH];refine Split.yes (decide_eq_true rfl) ?_;refine hs.load (i:=2) (x:=b) (by omega) rfl ⟨b.1,⟨b.2.1,b3⟩,⟨b.2.ints,b.2.ints⟩,?_⟩;rw [dH,decide_eq_true rfl]
 exact hK Jt (k.trans Mr (fun q hq e=>by omega))
end
section
variable{w w' v:World}{S F FP FR:Nat->Prop}{c r x:Nat}{G:GS}{m:CM}{K:Value->World->Prop}
set_option maxHeartbeats 2000000 in
theorem CR{A:Option Addr}{n cx:Nat}{l:List DN}(hl:NS w FP A n l)(hn:n<9223372036854775808)(kk:Int)(root:HT)(hT:tT w)
 (lE:∀v,Kept Nil w v->K (.tuple #[.pointer none,.pointer none,.bool false,.bool true]) v)
 (hK:∀v F c m FR r x (k:Nat),kk=(k:Int)->k<=6->acN l 18->kN v F c m FR r x k (vL k root l)->Kept Nil w v->(∀j,m.own c j\/F j\/FR j\/j=r\/j=x->w.heap.size<=j)->K (.tuple #[.pointer (some ⟨c,0,none⟩),.pointer (some ⟨r,0,none⟩),.bool true,.bool true]) v):
 bk prog ay.id #[.int .i64 kk,.agg root.1,.slice A n cx] w K:=by
 have hlen:=hl.len;refine ay.of ?_;unfold ay.W;intro w1;have k1:Kept Nil w w1:=(Kept.refl _ _).alloc _;have yq:w1.heap[w.heap.size]? =some (.cells root.1 ai (0,0)):=aI w _;clear_value w1;refine Split.dec (fun _=>lE w1 k1) (fun JF=>Split.dec (fun _=>lE w1 k1) (fun mJ=>Split.dec (fun _=>lE w1 k1) (fun Ux=>?_)));have Ux:n<=18:=by omega
 refine ay.b9 (I:=fun s v=>v=w1/\∃i:Nat,s=(none,none,false,false,(i:Int))/\i<=n/\∀nd∈l.take i,nd.ps.length<=6) (μ:=fun s _=>((n:Int)-s.2.2.2.2).toNat) (s:=(none,none,false,false,0)) ⟨rfl,0,rfl,Nat.zero_le _,by simp⟩ ?_;rintro s v ⟨rfl,i,rfl,hi,cU⟩;unfold ay.B1;refine Split.dec (fun jx=>?_) (fun gu=>?_)
 ·simp only at jx
  have dP:i<n:=by omega
  obtain⟨nd,eW⟩:∃nd,l[i]? =some nd:=⟨_,List.getElem?_eq_getElem (by omega)⟩;refine(hl.same k1).ps (i:=(i:Int)) (by omega) (by rw [Int.toNat_natCast];exact eW) fun pA pn pc oB _=>?_;have qG:=oB.len;refine Split.dec (fun xp=>lE v k1) (fun hle=>?_);simp only;rw [gN (x:=(i:Int)+1) (by omega) (by omega)];refine⟨(none,none,false,false,(i:Int)+1),rfl,⟨rfl,i+1,rfl,dP,fun md hm=>?_⟩,by simp only;omega⟩;rw [List.take_add_one,eW]at hm;simp only [Option.toList_some,List.mem_append,List.mem_singleton]at hm;rcases hm with hm|rfl
  ·exact cU md hm
  ·omega
 simp only at gu;rw [aO,ay.df];unfold ay.cH;rw [List.take_of_length_le (by omega)]at cU;obtain⟨k,rfl⟩:∃k':Nat,kk=(k':Int):=⟨kk.toNat,by omega⟩;have hk6:k<=6:=by omega
 have oB:∀nd∈l,nd.ps.length<=1000:=fun nd h=>by have:=cU nd h;omega
 have hn:=Ux;refine⟨root.1,⟨root.2.1,Cells.bE yq⟩,?_⟩;refine ig root (by omega) fun w2 c q m C hm hq k2=>⟨_,_,rfl,Split.no rfl (Split.no rfl ⟨root.1,⟨root.2.1,Cells.bE (k2.heap yq (fun h=>h))⟩,?_⟩)⟩;refine xW root k fun w3 r x FR R hFR hr hx k3=>⟨_,rfl,?_⟩;have s1:=k1.size;have s2:=k2.size;have lC:=(k1.tt k2).tt k3;have B0:kN w3 (· =q) c m FR r x k (cS root):=⟨C.same k3,R,fun j hj=>by
  have gu:w2.heap.size<=j:=by rcases hj with rfl|rfl;exact hr;exact hx
  exact⟨fun e=>by have:=C.low j (.inl e);omega,fun e=>by have:=C.low j (.inr e);omega⟩,fun j hj e=>by have:=hFR j hj;have:=C.low j (.inl e);omega⟩
 refine ay.gC (I:=fun s v=>∃(i:Nat) (F:Nat->Prop) (m:CM) (FR:Nat->Prop),s=(none,none,false,false,(i:Int))/\i<=n/\kN v F c m FR r x k ((l.take i).foldl (fun G s=>cV k G s.id s.ps) (cS root))/\Kept Nil w v/\∀j,m.own c j\/F j\/FR j\/j=r\/j=x->w.heap.size<=j) (μ:=fun s _=>((n:Int)-s.2.2.2.2).toNat) (s:=(none,none,false,false,0)) ⟨0,(· =q),m,FR,rfl,Nat.zero_le _,B0,lC,fun j e=>by
  rcases e with e|e|e|e|e
  ·have:=hm j e;omega
  ·have e:j=q:=e;omega
  ·have:=hFR j e;omega
  ·omega
  ·omega⟩ ?_
 clear B0 hFR hm C R hq k2 k3;rintro s v ⟨i,F,m,FR,rfl,hi,B,kv,Cu⟩;unfold ay.B2;refine Split.dec (fun cJ=>?_) (fun gu=>?_)
 ·simp only at cJ
  have dP:i<n:=by omega
  obtain⟨nd,eW⟩:∃nd,l[i]? =some nd:=⟨_,List.getElem?_eq_getElem (by omega)⟩;have nz:l[((i:Nat):Int).toNat]? =some nd:=by rw [Int.toNat_natCast];exact eW
  have qG:=oB nd (List.mem_of_getElem? eW);have MI:=CE (k:=k) (G:=cS root) eW;have XZ:=sI k (l.take i) (cS root);rw [List.length_take]at XZ;have hD1:(cS root).D.length=1:=rfl;generalize hG:(l.take i).foldl (fun G s=>cV k G s.id s.ps) (cS root)=G at B MI XZ;have hTl:=hT.lt;have oh:=B.low;have sv:=kv.size;have j2:∀ {u:World} {F' Yr:Nat->Prop} {m':CM},kN u F' c m' Yr r x k (cV k G nd.id nd.ps)->Kept Nil w u->(∀j,m'.own c j\/F' j\/Yr j\/j=r\/j=x->w.heap.size<=j)->
   ay.J2 A n cx none none false false (some ⟨c,0,none⟩) (some ⟨r,0,none⟩) (i:Int) (dr G.D nd.id nd.ps) (dr G.D nd.id nd.ps) (bL (ay.e2 A n cx (some ⟨c,0,none⟩) (some ⟨r,0,none⟩)) (fun s v=>∃(i:Nat) (F:Nat->Prop) (m:CM) (FR:Nat->Prop),s=(none,none,false,false,(i:Int))/\i<=n/\kN v F c m FR r x k ((l.take i).foldl (fun G s=>cV k G s.id s.ps) (cS root))/\Kept Nil w v/\∀j,m.own c j\/F j\/FR j\/j=r\/j=x->w.heap.size<=j) (fun s _=>((n:Int)-s.2.2.2.2).toNat) (none,none,false,false,(i:Int)) v (ay.q2 K)) u:=by
   intro u F' Yr m' B' ku abq;unfold ay.J2;refine Split.no (by simp) ?_;rw [dt (n:=(i:Int)) (by omega) (by omega)];refine⟨(none,none,false,false,(i:Int)+1),rfl,⟨i+1,F',m',Yr,rfl,dP,?_,ku,abq⟩,by simp only;omega⟩;rw [MI];exact B'
  have j1:∀ {u u0:World} {F':Nat->Prop} {m':CM},CV u0 F' c k (cV k G nd.id nd.ps) m'->Kept (m.own c) v u0->(∀j,m'.own c j->m.own c j\/v.heap.size<=j)->(∀j,F' j->F j\/v.heap.size<=j)->Kept Nil u0 u->
   ay.J1 A n cx none none false false (some ⟨c,0,none⟩) (some ⟨r,0,none⟩) (i:Int) (dr G.D nd.id nd.ps) (bL (ay.e2 A n cx (some ⟨c,0,none⟩) (some ⟨r,0,none⟩)) (fun s v=>∃(i:Nat) (F:Nat->Prop) (m:CM) (FR:Nat->Prop),s=(none,none,false,false,(i:Int))/\i<=n/\kN v F c m FR r x k ((l.take i).foldl (fun G s=>cV k G s.id s.ps) (cS root))/\Kept Nil w v/\∀j,m.own c j\/F j\/FR j\/j=r\/j=x->w.heap.size<=j) (fun s _=>((n:Int)-s.2.2.2.2).toNat) (none,none,false,false,(i:Int)) v (ay.q2 K)) u:=by
   intro u u0 F' m' hC k0 mI IL ku;unfold ay.J1;have Zc:Kept Nil w u0:=kv.trans k0 (fun j hj e=>by have:=Cu j (.inl e);omega);have Q7:Kept Nil w u:=Zc.tt ku;have suv:=k0.size;have suu:=ku.size;intro u1;have Fm:Kept Nil u u1:=(Kept.refl _ _).drew;clear_value u1;have Fi:=Q7.tt Fm;have s11:=Fm.size;have Tx:∀ {t:World},Kept Nil w t->Cells t (((A.get!).add (((i:Nat):Int).toNat*33)).add 0) nd.id.1:=by
    intro t kt;obtain⟨a,pA,pn,pc,rfl,_,_,h4,_,_⟩:=(hl.aG kt (fun _ _ h=>h)).at_ i nd eW;intro j z hj;rw [add_zero,Int.toNat_natCast];exact h4 j z (uI hj)
   have ps1:∃a pA pn pc,A=some a/\HS w pA pn nd.ps/\∀ {t:World},Kept Nil w t->t.cell? ((a.add (((i:Nat):Int).toNat*33)).add 32)=some (.slice pA pn pc):=by
    obtain⟨a,pA,pn,pc,rfl,_,_,h4,h5,_⟩:=hl.at_ i nd eW;exact⟨a,pA,pn,pc,rfl,h5,fun kt=>by rw [Int.toNat_natCast];exact kt.cell (h4 32 _ (pU _ _)) (fun h=>h)⟩
   obtain⟨a,pA,pn,pc,rfl,Cn,qR⟩:=ps1;have K2:=Cn.len;have hb:0<=(i:Int)/\(i:Int)<(n:Int):=⟨by omega,by omega⟩;refine⟨hb,Is.mk rfl ⟨nd.id.1,⟨nd.id.2.1,Tx Fi⟩,hb,Is.mk rfl ⟨pA,pn,pc,qR Fi,?_,?_⟩⟩⟩
   ·obtain⟨hR,Qs⟩:=B.after k0 mI IL hC (ku.tt Fm)
    refine uE hR (by omega) (by omega) (Cn.same Fi) (by omega) nd.id fun t A2 n2 p2 E2 e2 q2 hRt kt Lc lh aca=>⟨_,_,rfl,?_⟩;have B':=Qs t hRt kt;have st:=kt.size;intro t1;have kt1:Kept Nil t t1:=(Kept.refl _ _).alloc _;have MD:t1.heap[t.heap.size]? =some (.cells zC bn (0,0)):=aI t _;clear_value t1;obtain⟨z1,z2,z3⟩:=dW MD (cs:=cG (nH k G nd.id nd.ps) A2 n2 p2 E2 e2 q2) (by rw [bf];rfl);refine⟨⟨bf ..,eI _ _ _ _ _ _ _,fun j hj=>z1 j (by rw [bf];exact hj)⟩,?_⟩;have kt2:Kept Nil t (setCells t1 ⟨t.heap.size,0,none⟩ (cG (nH k G nd.id nd.ps) A2 n2 p2 E2 e2 q2).toList 0):=kt1.trans z3 (fun j hj e=>by omega);refine ay.qq (j2 (B'.same kt2) (Fi.trans (kt.trans kt2 (fun _ _ h=>h.elim)) (fun j hj e=>by have:=Cu j (.inr (.inr (.inr e)));omega)) fun j e=>?_);rcases e with e|e|(e|e)|e
    ·rcases mI j e with e|e
     ·exact Cu j (.inl e)
     ·omega
    ·rcases IL j e with e|e
     ·exact Cu j (.inr (.inl e))
     ·omega
    ·exact Cu j (.inr (.inr (.inl e)))
    ·omega
    ·exact Cu j (.inr (.inr (.inr e)))
   ·intro u2
    have Jw:Kept Nil u1 u2:=(Kept.refl _ _).alloc _;have Rl:u2.heap[u1.heap.size]? =some (.cells zC bn (0,0)):=aI u1 _;clear_value u2;have Kx:=Fi.tt Jw;have s22:=Jw.size;refine⟨qR Kx,⟨_,rfl,nd.id.2.1,Tx Kx⟩,?_⟩;obtain⟨hR,Qs⟩:=B.after k0 mI IL hC ((ku.tt Fm).tt Jw);refine uE hR (by omega) (by omega) (Cn.same Kx) (by omega) nd.id fun t A2 n2 p2 E2 e2 q2 hRt kt Lc lh aca=>⟨_,_,rfl,?_⟩;have B':=Qs t hRt kt;have st:=kt.size;have nrx:∀j,v.heap.size<=j->¬(j=r\/j=x):=fun j hj e=>by have:=oh j (.inr (.inr (.inr e)));omega
    have hxt:=kt.heap Rl (nrx _ (by omega));obtain⟨z1,z2,z3⟩:=dW hxt (cs:=cG (nH k G nd.id nd.ps) A2 n2 p2 E2 e2 q2) (by rw [bf];rfl);refine⟨⟨bf ..,eI _ _ _ _ _ _ _,fun j hj=>z1 j (by rw [bf];exact hj)⟩,?_⟩;have lo0:∀j,m'.own c j\/F' j->j<u1.heap.size:=fun j e=>by have:=hC.low j e;omega
    have B2:kN (setCells t ⟨u1.heap.size,0,none⟩ (cG (nH k G nd.id nd.ps) A2 n2 p2 E2 e2 q2).toList 0) F' c m' (fun j=>FR j\/(u2.heap.size<=j/\j<t.heap.size)) r x k (cV k G nd.id nd.ps):=B'.aG z3 (fun j e e'=>by
     have l1:=aT Rl;rcases e with e|e|(e|e)|e
     ·have:=lo0 j (.inl e);omega
     ·have:=lo0 j (.inr e);omega
     ·have:=B.R.lo j e;omega
     ·omega
     ·have:=oh j (.inr (.inr (.inr e)));omega)
    have kut:Kept (fun j=>j=r\/j=x) u t:=((Fm.tt Jw).mono fun _ _ h=>h.elim).tt kt;have ag8:Kept (fun j=>j=r\/j=x) u _:=kut.trans z3 (fun j hj e=>by omega);refine ay.qq (j2 B2 ((Kx.trans kt (fun j hj e=>by have:=Cu j (.inr (.inr (.inr e)));omega)).trans z3 (fun j hj e=>by have:=Fi.size;omega)) fun j e=>?_)
    ·rcases e with e|e|(e|e)|e
     ·rcases mI j e with e|e
      ·exact Cu j (.inl e)
      ·omega
     ·rcases IL j e with e|e
      ·exact Cu j (.inr (.inl e))
      ·omega
     ·exact Cu j (.inr (.inr (.inl e)))
     ·omega
     ·exact Cu j (.inr (.inr (.inr e)))
  intro w2;have k2:Kept Nil v w2:=(Kept.refl _ _).drew;clear_value w2;have SN:=kv.tt k2;have sv2:=k2.size;have Tx:∀ {t:World},Kept Nil w t->Cells t ((A.get!.add (((i:Nat):Int).toNat*33)).add 0) nd.id.1:=by
   intro t kt;obtain⟨a,pA,pn,pc,rfl,_,_,h4,_,_⟩:=(hl.aG kt (fun _ _ h=>h)).at_ i nd eW;intro j z hj;rw [add_zero,Int.toNat_natCast];exact h4 j z (uI hj)
  obtain⟨a,pA,pn,pc,hA,Cn,qR⟩:∃a pA pn pc,A=some a/\HS w pA pn nd.ps/\∀ {t:World},Kept Nil w t->t.cell? ((a.add (((i:Nat):Int).toNat*33)).add 32)=some (.slice pA pn pc):=by
   obtain⟨a,pA,pn,pc,hA,_,_,h4,h5,_⟩:=hl.at_ i nd eW;exact⟨a,pA,pn,pc,hA,h5,fun kt=>by rw [Int.toNat_natCast];exact kt.cell (h4 32 _ (pU _ _)) (fun h=>h)⟩
  subst hA;have K2:=Cn.len;have hb:0<=(i:Int)/\(i:Int)<(n:Int):=⟨by omega,by omega⟩;have JK:¬m.SX (Tryz.jK.g 1):=fun e=>by have:=Cu _ (.inl (.inl e));omega
  refine⟨hb,Is.mk rfl ⟨nd.id.1,⟨nd.id.2.1,Tx SN⟩,hb,Is.mk rfl ⟨pA,pn,pc,qR SN,?_,?_⟩⟩⟩
  ·refine mv (B.C.same k2) (hT.same SN) JK (by omega) (by omega) (Cn.same SN) (by omega) nd.id fun u F' m' A1 n1 p1 E1 e1 q1 hC _ ku mI IL rA rE _ _=>⟨_,_,rfl,?_⟩
   intro u1;have Fm:Kept Nil u u1:=(Kept.refl _ _).alloc _;have MD:u1.heap[u.heap.size]? =some (.cells zC bn (0,0)):=aI u _;clear_value u1;obtain⟨z1,z2,z3⟩:=dW MD (cs:=cG (nH k G nd.id nd.ps) A1 n1 p1 E1 e1 q1) (by rw [bf];rfl);refine⟨⟨bf ..,eI _ _ _ _ _ _ _,fun j hj=>z1 j (by rw [bf];exact hj)⟩,?_⟩;have Jw:Kept Nil u (setCells u1 ⟨u.heap.size,0,none⟩ (cG (nH k G nd.id nd.ps) A1 n1 p1 E1 e1 q1).toList 0):=Fm.trans z3 (fun j hj e=>by omega);have su:=ku.size;refine ay.oA (j1 hC ((k2.mono fun _ _ h=>h.elim).tt ku) (fun j e=>(mI j e).imp (fun h=>h) (fun h=>by omega)) (fun j e=>(IL j e).imp (fun h=>h) (fun h=>by omega)) Jw)
  ·intro w3
   have k3:Kept Nil w2 w3:=(Kept.refl _ _).alloc _;have Cd:w3.heap[w2.heap.size]? =some (.cells zC bn (0,0)):=aI w2 _;clear_value w3;have Mh:=SN.tt k3;have s23:=k3.size;have l3:=aT Cd;refine⟨qR Mh,⟨_,rfl,nd.id.2.1,Tx Mh⟩,?_⟩;refine mv (B.C.same (k2.tt k3)) (hT.same Mh) JK (by omega) (by omega) (Cn.same Mh) (by omega) nd.id fun u F' m' A1 n1 p1 E1 e1 q1 hC _ ku mI IL rA rE _ _=>⟨_,_,rfl,?_⟩;have su:=ku.size;have hxu:=ku.heap Cd (fun e=>by have:=oh _ (.inl e);omega);obtain⟨z1,z2,z3⟩:=dW hxu (cs:=cG (nH k G nd.id nd.ps) A1 n1 p1 E1 e1 q1) (by rw [bf];rfl);refine⟨⟨bf ..,eI _ _ _ _ _ _ _,fun j hj=>z1 j (by rw [bf];exact hj)⟩,?_⟩;have no1:∀j,m'.own c j->j≠w2.heap.size:=fun j e e'=>by
    rcases mI j e with e|e
    ·have:=oh j (.inl e);omega
    ·omega
   have no2:∀j,F' j->j≠w2.heap.size:=fun j e e'=>by
    rcases IL j e with e|e
    ·have:=oh j (.inr (.inl e));omega
    ·omega
   refine ay.oA (j1 (hC.aG z3 no1 no2) ((((k2.tt k3).mono fun _ _ h=>h.elim).tt ku).trans z3 (fun j hj e=>by omega)) (fun j e=>(mI j e).imp (fun h=>h) (fun h=>by omega)) (fun j e=>(IL j e).imp (fun h=>h) (fun h=>by omega)) (Kept.refl _ _))
 ·simp only at gu
  have:i=n:=by omega
  subst this;rw [aO,ay.jA];rw [List.take_of_length_le (by omega)]at B;exact hK v F c m FR r x k rfl hk6 ⟨cU,by omega⟩ B kv Cu
end
section
variable{w w' v:World}{F FP FR:Nat->Prop}{c r x k:Nat}{G:GS}{m:CM}{K:Value->World->Prop}
theorem BR{l:List HT}{i j:Nat}{x y:HT}(hp:l.Pairwise fun a b=>¬dN G.D b a)(hx:l[i]? =some x)(hy:l[j]? =some y)(pX:i<j):¬dN G.D y x:=by
 rw [List.pairwise_iff_getElem]at hp;obtain⟨hi,rfl⟩:=lgeS hx;obtain⟨hj,rfl⟩:=lgeS hy;exact hp i j hi hj pX
set_option maxHeartbeats 2000000 in
theorem BB{A:Option Addr}{n cx:Nat}{l:List DN}(hl:NS w FP A n l)(hn:n<9223372036854775808)(k:Int)(root:HT)(hT:tT w)(hK:∀w',Kept Nil w w'->K (.bool true) w'):
 bk prog ag.id #[.int .i64 k,.agg root.1,.slice A n cx] w K:=by
 have hlen:=hl.len;refine ag.of ?_;unfold ag.W;intro w1;have k1:Kept Nil w w1:=(Kept.refl _ _).alloc _;have mE:w1.heap[w.heap.size]? =some (.cells root.1 ai (0,0)):=aI w _;clear_value w1;have kn:∀ {v:World},Kept Nil w v->bk prog gP.id #[] v fun v3 w_4=>∃t:Bool,v3=.bool t/\K (.bool t) w_4:=fun k=>BW (hT.same k) fun w4 k4=>⟨true,rfl,hK w4 (k.tt k4)⟩;refine⟨root.1,⟨root.2.1,Cells.bE mE⟩,?_⟩;refine CR (hl.same k1) hn k root (hT.same k1) (fun v kv=>⟨_,_,false,true,rfl,Split.yes rfl (Split.yes rfl (kn (k1.tt kv)))⟩) fun w2 F c m FR r x k hk hk6 abv B k2 _=>⟨_,_,true,true,rfl,Split.no rfl (Split.no rfl ?_)⟩;have XZ:=CO k root l;have hf2:=abv.2;have hC:=F8 k root l;have hO:=F7 k root l;generalize vL k root l=G at B XZ hC hO;have kL:=k1.tt k2;have H:=B.C.fy;have W:=H.W;refine ag.b9 (I:=fun s v=>∃i:Nat,s=(false,(i:Int))/\i<=G.D.length/\Kept Nil w2 v) (μ:=fun s _=>((G.D.length:Int)-s.2).toNat) (s:=(false,0)) ⟨0,rfl,Nat.zero_le _,Kept.refl _ _⟩ ?_;rintro s v ⟨i,rfl,hi,kv⟩;unfold ag.B1;have Bv:=B.same kv;obtain⟨A0,c0,q1,rW⟩:=Bv.R.graph;refine Is.mk rfl ⟨_,Bv.R.c1,Is.mk rfl ⟨A0,_,c0,q1,Split.dec (fun cJ=>?_) (fun gu=>?_)⟩⟩
 ·simp only at cJ
  have dP:i<G.D.length:=by omega
  obtain⟨nd,eW⟩:∃nd,G.D[i]? =some nd:=⟨_,List.getElem?_eq_getElem dP⟩;have fC:nd.id∈ids G.D:=cP.2 ⟨nd,List.mem_of_getElem? eW,rfl⟩;refine Is.mk rfl ⟨_,Bv.R.c1,Is.mk rfl ⟨A0,_,c0,q1,rW.id (i:=(i:Int)) (by omega) (by rw [Int.toNat_natCast];exact eW) ?_⟩⟩;intro w3;obtain⟨t1,t2,t3⟩:=Ap v nd.id;refine⟨t1,?_⟩;intro w4
  replace t2:w4.heap[v.heap.size]? =some (.cells nd.id.1 ai (0,0)):=t2
  replace t3:Kept Nil v w4:=t3
  clear_value w4;have nf:=kv.tt t3;obtain⟨ch,mW⟩:=cr.ex H.iw nd.id;have Qc:=mW.Hu H.iw;have Uh:=Ko H mW;have Z3:=zh (d:=G.D.length) (by omega) (Nat.le_refl _);obtain⟨p1,p2,p3⟩:=uO hC hO H ch nd.id fC mW;obtain⟨q1',q2'⟩:=Kn hC hO H fC mW;have Im:(du G.D [nd.id]).length<=G.D.length:=mc _ _;refine⟨nd.id.1,⟨nd.id.2.1,Cells.bE t2⟩,?_⟩;refine po (B.same nf).C (by omega) nd.id mW (fun e=>absurd fC e) fun _ A5 c5 w5 iY k5=>⟨A5,_,c5,_,rfl,?_⟩;have yK:=nf.tt k5;intro w6;have k6:Kept Nil w5 w6:=(Kept.refl _ _).drew;clear_value w6;have Jx:=k5.tt k6;have Kz:=nf.tt Jx;have B6:=B.same Kz;refine Is.mk rfl ⟨_,B6.R.c1,Is.mk rfl ⟨nd.id.1,⟨nd.id.2.1,Cells.bE (Jx.heap t2 (fun h=>h))⟩,nd.id.2.1,?_⟩⟩;intro w7;have k7:Kept Nil w6 w7:=(Kept.refl _ _).alloc _;have VN:HS w7 (some ⟨w6.heap.size,0,none⟩) 1 [nd.id]:=iV w6 nd.id;clear_value w7;have kv7:=Kz.tt k7;have B7:=B.same kv7;refine⟨B7.R.c1,?_⟩;rw [add_zero];refine uD B7.R.X.gr W (by omega) VN (by omega) fun A8 c8 w8 Og k8=>⟨A8,_,c8,rfl,Split.no rfl (Split.no (by rw [q1'];simp) ?_)⟩;have Dw:=(k6.tt k7).tt k8;have Ni:=(bI.hs iY).same Dw;refine nV Ni (by omega) fun A9 c9 w9 Ke k9=>⟨A9,_,c9,rfl,?_⟩;have Bh:=nP (jY G ch);refine wT (bI.hs Ke) ((bI.hs Og).same k9) (by omega) fun w10 mG=>⟨_,rfl,Split.no (by rw [q2',decide_eq_true rfl];rfl) ?_⟩;have OG:=(Dw.tt k9).tt mG;have rD:=yK.tt OG;have Zw:=k5.tt OG;have cU:=(bI.hs iY).same OG;have yo:=bI.cap iY;generalize hNa:(jY G ch).length=na at cU Uh yo Ni iY;have DT:(jY G ch).length=na:=hNa;refine ag.gC (I:=fun s u=>∃j:Nat,s=(false,(j:Int))/\j<=na/\Kept Nil w10 u) (μ:=fun s _=>((na:Int)-s.2).toNat) (s:=(false,0)) ⟨0,rfl,Nat.zero_le _,Kept.refl _ _⟩ ?_
  rintro s u ⟨j,rfl,hj,ku⟩;unfold ag.B2;refine Split.dec (fun Ld=>?_) (fun P0=>?_)
  ·simp only at Ld⊢
   have tn:j<na:=by omega
   obtain⟨y,hy⟩:∃y,(jY G ch)[j]? =some y:=⟨_,List.getElem?_eq_getElem (by omega)⟩;rw [dt (n:=(j:Int)) (by omega) (by omega)];refine ag.rv (I:=fun s t=>∃q:Nat,s=(false,(q:Int))/\j<q/\q<=na/\Kept Nil w10 t) (μ:=fun s _=>((na:Int)-s.2).toNat) (s:=(false,(j:Int)+1)) ⟨j+1,rfl,by omega,by omega,ku⟩ ?_;rintro s t ⟨q,rfl,hjq,hq,kt⟩;unfold ag.B3;refine Split.dec (fun aa1=>?_) (fun ai2=>?_)
   ·simp only at aa1
    have DO:q<na:=by omega
    obtain⟨z,hz⟩:∃z,(jY G ch)[q]? =some z:=⟨_,List.getElem?_eq_getElem (by omega)⟩;intro qi;have DF:Kept Nil t qi:=(Kept.refl _ _).drew;clear_value qi;have BV:=kt.tt DF;have BU:=rD.tt BV;have W4:=B.same BU;have TP:=cU.same BV;refine Is.mk rfl ⟨_,W4.R.c1,Is.mk rfl ?_⟩;refine HS.load TP (i:=(q:Int)) (x:=z) (by omega) (by rw [Int.toNat_natCast];exact hz) ?_;refine HS.load TP (i:=(j:Int)) (x:=y) (by omega) (by rw [Int.toNat_natCast];exact hy) ?_;rw [add_zero];refine nW W4.R.X.gr W (by omega) z y fun lR xb Rj vf=>⟨xb,rfl,?_⟩;have hxf:xb=false:=by
     cases xb with
     |false=>rfl
     |true=>exact absurd (Rj.1 rfl) (BR p3 hy hz hjq)
    refine Split.no hxf ?_;simp only;rw [dt (n:=(q:Int)) (by omega) (by omega)];exact⟨(false,(q:Int)+1),rfl,⟨q+1,rfl,by omega,DO,BV.tt vf⟩,by simp only;omega⟩
   ·rw [aO,ag.xK]
    unfold ag.sP;simp only;rw [dt (n:=(j:Int)) (by omega) (by omega)];exact⟨(false,(j:Int)+1),rfl,⟨j+1,rfl,tn,kt⟩,by simp only;omega⟩
  ·rw [aO,ag.jA]
   unfold ag.ik;intro qi;have DF:Kept Nil u qi:=(Kept.refl _ _).drew;clear_value qi;have BV:=ku.tt DF;have BU:=rD.tt BV;have W4:=B.same BU;have Zv:=Zw.tt BV;refine Is.mk rfl ⟨_,W4.R.c1,nd.id.1,⟨nd.id.2.1,Cells.bE (Zv.heap t2 (fun h=>h))⟩,?_⟩;refine He W4.R.X (by omega) nd.id fun A12 c12 lR LN Qd q9 vf=>⟨A12,_,c12,rfl,?_⟩;have ech:=Qd.one W H.iw mW;subst ech;have Zh:=BU.tt vf;have Qr:=cU.same (BV.tt vf);refine ag.zL (I:=fun s t=>∃q:Nat,s=(false,(q:Int))/\q<=LN.length/\Kept Nil lR t) (μ:=fun s _=>((LN.length:Int)-s.2).toNat) (s:=(false,0)) ⟨0,rfl,Nat.zero_le _,Kept.refl _ _⟩ ?_;rintro s t ⟨q,rfl,hq,kt⟩;unfold ag.B4;have Mi:=Zh.tt kt;refine Split.dec (fun PH=>?_) (fun U3=>?_)
   ·simp only at PH
    have DO:q<LN.length:=by omega
    obtain⟨z,hz⟩:∃z,LN[q]? =some z:=⟨_,List.getElem?_eq_getElem DO⟩;obtain⟨rz,Tz,hcz,mH⟩:=uN H LN nd.id fC mW z (List.mem_of_getElem? hz);refine HS.load ((bI.hs q9).same kt) (i:=(q:Int)) (x:=z) (by omega) (by rw [Int.toNat_natCast];exact hz) ?_;refine po (B.same Mi).C (by omega) z hcz (fun e=>absurd Tz e) fun _ Ek QM lV wS rI=>⟨Ek,_,QM,_,rfl,?_⟩;have qG:=mH.length_le;refine Split.no rfl (Split.no (decide_eq_false (by omega)) ⟨⟨by omega,by omega⟩,?_⟩);have Qq:=Qr.same (kt.tt rI);have xm:=Qq.take (k:=(jY G rz).length) (by omega);have et:(jY G LN).take (jY G rz).length=jY G rz:=(List.prefix_iff_eq_take.1 mH).symm;rw [et]at xm;have ea:(if c5=0 then A5 else A5.map (·.add (0*32)))=A5:=by
     split
     ·rfl
     ·cases A5 with
      |none=>rfl
      |some a=>simp [add_zero]
    rw [ea,Nat.sub_zero,Nat.sub_zero,Int.toNat_natCast];refine wT (bI.hs wS) xm (by omega) fun iu Gp=>⟨_,rfl,Split.no (by rw [decide_eq_true rfl];rfl) ?_⟩;simp only;rw [dt (n:=(q:Int)) (by omega) (by omega)];exact⟨(false,(q:Int)+1),rfl,⟨q+1,rfl,DO,(kt.tt rI).tt Gp⟩,by simp only;omega⟩
   ·rw [aO,ag.Bq]
    unfold ag.wF;simp only;rw [dt (n:=(i:Int)) (by omega) (by omega)];exact⟨(false,(i:Int)+1),rfl,⟨i+1,rfl,dP,Mi⟩,by simp only;omega⟩
 ·rw [aO,ag.df]
  exact kn (kL.tt kv)
end
end Go.Proofs.YtfleamccglihoaaGreatDoor
