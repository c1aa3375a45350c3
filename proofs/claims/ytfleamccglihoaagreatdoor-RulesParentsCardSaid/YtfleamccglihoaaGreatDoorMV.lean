import Derived.Test.YtfleamccglihoaaGreatDoorMU
import Derived.Test.YtfleamccglihoaaGreatDoorMJ
import Derived.Test.YtfleamccglihoaaGreatDoorMT
import Derived.Test.YtfleamccglihoaaGreatDoorMI
import Derived.Test.YtfleamccglihoaaGreatDoorMG
import Derived.Test.YtfleamccglihoaaGreatDoorMN
import Derived.Test.YtfleamccglihoaaGreatDoorMS
import Derived.Test.YtfleamccglihoaaGreatDoorMK
open Go.IntKind (i64 u64)
set_option linter.unusedVariables false
namespace Go.Proofs.YtfleamccglihoaaGreatDoor
open Go.Proofs.Tryz
open Go Go.cF Go.RowKit
def agq(l:List DN)(acB:Nat):Prop:=(∀nd∈l,nd.ps.length<=6)/\l.length<=acB
noncomputable def rK(k:Nat)(G:GS)(id:HT)(l:List HT):qF:=if fg G.D id l=0 then dE k G (cf G l) l else⟨gu,0,[],[]⟩
noncomputable def AY(k:Nat)(root:HT)(l:List DN):GS:=l.foldl (λG s=>eZ k G s.id s.ps) (fH root)
theorem LR(k:Nat)(G:GS)(h:HT)(l:List HT):(eZ k G h l).D.length<=G.D.length+1:=by
 rw [vc];unfold nP;split<;>simp
theorem uU(k:Nat):∀(l:List DN) (G:GS),(l.foldl (λG s=>eZ k G s.id s.ps) G).D.length<=G.D.length+l.length
 | [],_=>by simp
 |s::l,G=>by
  have h1:=uU k l (eZ k G s.id s.ps);have h2:=LR k G s.id s.ps;rw [List.foldl_cons,List.length_cons];omega
theorem Fs(k:Nat)(root:HT)(l:List DN):(AY k root l).D.length<=1+l.length:=uU k l (fH root)
theorem Fa{k:Nat}{G:GS}{l:List DN}{i:Nat}{s:DN}(h:l[i]? =some s):(l.take (i+1)).foldl (λG s=>eZ k G s.id s.ps) G=eZ k ((l.take i).foldl (λG s=>eZ k G s.id s.ps) G) s.id s.ps:=by
 rw [List.take_add_one,h];simp
section
variable{w w' v:World}{S F FP FR:Nat->Prop}{c r x k:Nat}{G:GS}{m:CM}{K:Value->World->Prop}
theorem pY(h:CV w F c k G m)(hT:tm w)(Mx:¬m.SX (Tryz.lG.g 1))(hD:G.D.length<=49)(pJ:k<=1000){A:Option Addr}{n cx:Nat}{l:List HT}(EH:HS w A n l)(hn:n<=5000)(id:HT)
 (hK:∀w' F' m' A n c1 B e c2,CV w' F' c k (eZ k G id l) m'->m'.x=m.x->Kept (m.own c) w w'->(∀j,m'.own c j->m.own c j\/w.heap.size<=j)->(∀j,F' j->F j\/w.heap.size<=j)->
   bY w' w.heap.size A n c1 (rK k G id l).merge->Row w' w.heap.size jW 1 B e c2 (uX (rK k G id l).gZ)->(∀j,bL A=some j->bL B≠some j)->(∀j,bL A=some j\/bL B=some j->¬m'.own c j/\¬F' j)->
   K (.tuple #[.agg (dI (rK k G id l) A n c1 B e c2),.int .i64 (fg G.D id l)]) w'):
 bJ prog eW.id #[.pointer (some ⟨c,0,none⟩),.agg id.1,.slice A n cx] w K:=by
 refine IE h hT Mx hD pJ EH hn id (λhe w' k'=>?_) (λhe w' F' m' A n c1 B e c2 h1 h2 h3 h4 h5 h6 h7 h8 h9=>?_)
 ·have e1:rK k G id l=⟨gu,0,[],[]⟩:=if_neg he
  have:=hK w' F m none 0 0 none 0 0 (by rw [uo he];exact h.same k') rfl (k'.mono λ_ _ h=>h.elim) (λj h=>.inl h) (λj h=>.inl h) (by rw [e1];exact bY.nil _ _) (by rw [e1];exact Row.nil _ _ _ _) (λj hj=>(by cases hj)) (λj hj=>by rcases hj with hj|hj<;>cases hj);rw [e1]at this;exact this
 ·have e1:rK k G id l=dE k G (cf G l) l:=if_pos he
  have:=hK w' F' m' A n c1 B e c2 h1 h2 h3 h4 h5 (by rw [e1];exact h6) (by rw [e1];exact h7) h8 h9;rw [e1,he]at this;exact this
theorem wE(h:R3 w F r x k G)(hD:G.D.length<=300)(pJ:k<=1000){A:Option Addr}{n cx:Nat}{l:List HT}(hl:HS w A n l)(hn:n<=5000)(id:HT)
 (hK:∀w' A n c B e ce,R3 w' (λj=>F j\/(w.heap.size<=j/\j<w'.heap.size)) r x k (eZ k G id l)->Kept (λj=>j=r\/j=x) w w'->HS w' A n (rK k G id l).merge->Bo w' B e (rK k G id l).gZ->(∀a,A=some a\/B=some a->w.heap.size<=a.block)->K (.tuple #[.agg (dI (rK k G id l) A n c B e ce),.int .i64 (fg G.D id l)]) w'):
 bJ prog eU.id #[.pointer (some ⟨r,0,none⟩),.agg id.1,.slice A n cx] w K:=by
 have hlr:=h.lt;have P4:=h.lx;refine Aj h hD pJ hl hn id (λhe w' k'=>?_) (λhe w' A n c B e ce h1 h2 h3 h4 h5=>?_)
 ·have e1:rK k G id l=⟨gu,0,[],[]⟩:=if_neg he
  have h':=h.same k';have hs:=k'.size;obtain⟨A1,c1,B1,e1',g1,g2,g3⟩:=h'.top;have:=hK w' none 0 0 none 0 0 (by
   rw [uo he];exact⟨⟨A1,c1,B1,e1',g1,g2.mono (λj hj=>.inl hj),g3.mono (λj hj=>.inl hj)⟩,h'.X.mono (λj hj=>.inl hj) (λe=>e.elim h.X.jD (λe=>by omega)),λe=>e.elim h.jD (λe=>by omega),h.ne,h.iN,λj e=>e.elim (h'.lo j) (λe=>e.2)⟩) (k'.mono λ_ _ h=>h.elim) (by rw [e1];exact HS.nil _ _) (by rw [e1];exact⟨rfl,λi b hi=>by simp at hi⟩) (λa ha=>by rcases ha with ha|ha<;>cases ha)
  rw [e1]at this;exact this
 ·have e1:rK k G id l=dE k G (cf G l) l:=if_pos he
  have:=hK w' A n c B e ce h1 h2 (by rw [e1];exact h3) (by rw [e1];exact h4) h5;rw [e1,he]at this;exact this
structure mw(w:World)(F:Nat->Prop)(c:Nat)(m:CM)(FR:Nat->Prop)(r x k:Nat)(G:GS):Prop where
 C:CV w F c k G m
 R:R3 w FR r x k G
 rS:∀j,j=r\/j=x->¬m.own c j/\¬F j
 fS:∀j,FR j->¬m.own c j
theorem mw.aN{S0:Nat->Prop}(B:mw w F c m FR r x k G)(hk:Kept S0 w w')(h1:∀j,m.own c j\/F j\/FR j\/j=r\/j=x->¬S0 j):mw w' F c m FR r x k G:=
 ⟨B.C.aN hk (λj e=>h1 j (.inl e)) (λj e=>h1 j (.inr (.inl e))),B.R.aN hk (h1 _ (.inr (.inr (.inr (.inl rfl))))) (h1 _ (.inr (.inr (.inr (.inr rfl))))) (λj e=>h1 j (.inr (.inr (.inl e)))),B.rS,B.fS⟩
theorem mw.same(B:mw w F c m FR r x k G)(hk:Kept Nil w w'):mw w' F c m FR r x k G:=B.aN hk (λ_ _ h=>h)
theorem mw.low(B:mw w F c m FR r x k G):∀j,m.own c j\/F j\/FR j\/j=r\/j=x->j<w.heap.size:=λj e=>by
 rcases e with e|e|e|e|e
 ·exact B.C.low j (.inl e)
 ·exact B.C.low j (.inr e)
 ·exact B.R.lo j e
 ·rw [e];exact B.R.lt
 ·rw [e];exact B.R.lx
theorem mw.after{F':Nat->Prop}{m':CM}{G':GS}(B:mw w F c m FR r x k G)(kv:Kept (m.own c) w v)(h1:∀j,m'.own c j->m.own c j\/w.heap.size<=j)(h2:∀j,F' j->F j\/w.heap.size<=j)(hC:CV v F' c k G' m'){u:World}(kvu:Kept Nil v u):
 R3 u FR r x k G/\∀t,R3 t (λj=>FR j\/(u.heap.size<=j/\j<t.heap.size)) r x k G'->Kept (λj=>j=r\/j=x) u t->mw t F' c m' (λj=>FR j\/(u.heap.size<=j/\j<t.heap.size)) r x k G':=by
 have hr:=B.R.lt;have hx:=B.R.lx;have nr:∀j,j=r\/j=x->¬m'.own c j/\¬F' j:=λj hj=>by
  have dD:j<w.heap.size:=by rcases hj with rfl|rfl;exact hr;exact hx
  refine⟨λe=>?_,λe=>?_⟩
  ·rcases h1 j e with e|e
   ·exact(B.rS j hj).1 e
   ·omega
  ·rcases h2 j e with e|e
   ·exact(B.rS j hj).2 e
   ·omega
 refine⟨(B.R.aN kv (λe=>(B.rS r (.inl rfl)).1 e) (λe=>(B.rS x (.inr rfl)).1 e) B.fS).same kvu,λt hR kt=>⟨?_,hR,nr,λj hj e=>?_⟩⟩
 ·exact(hC.same kvu).aN kt (λj e e'=>(nr j e').1 e) (λj e e'=>(nr j e').2 e)
 ·have pV:=hC.low j (.inl e)
  have:=kvu.size;rcases hj with hj|hj
  ·rcases h1 j e with e|e
   ·exact B.fS j hj e
   ·have:=B.R.lo j hj;omega
  ·omega
end
section
variable{w w' v:World}{S F FP FR:Nat->Prop}{c r x k:Nat}{G:GS}{m:CM}{K:Value->World->Prop}
end
section
variable{k:Nat}{G:GS}{s:HT}
theorem Cl(G:GS)(s:HT):cZ G s [s]= []:=by
 rw [List.eq_nil_iff_forall_not_mem];intro h hm;obtain⟨h1,h2,h3⟩:=jR.1 hm;rcases h1 with⟨_,p,hp,ha⟩|h1
 ·rw [List.mem_singleton]at hp;subst hp;exact h3 ha
 ·rw [List.mem_singleton]at h1;exact h2 h1
variable{r a b c:HT}(Sn:r≠a)(Ii:r≠b)(hrc:r≠c)(mK:a≠b)(hac:a≠c)(Ty:b≠c)
end
section
variable{w w':World}{K:Value->World->Prop}
end
section
variable{w w' v:World}{F FP FR:Nat->Prop}{c r x k:Nat}{G:GS}{m:CM}{K:Value->World->Prop}
end
section
variable{w v:World}{F FP FR:Nat->Prop}{c r x k:Nat}{G:GS}{m:CM}{K:Value->World->Prop}{O:Option Addr}{on oc:Nat}{lo:List HT}{s:HT}{sb xb:Nat}{xv:Array Value}
end
theorem wJ(D:DG)(x b:HT):cG D [x] b=if oF D x b then [x]else []:=by
 unfold cG;rw [List.filter_cons];by_cases h:oF D x b<;>simp [h]
def Fair(k:Nat)(D:DG)(wd:List HT):Prop:=∀b∈wd,(cG D wd b).length<=k
theorem Fair.step{k:Nat}{D:DG}{s:VS}{h:HT}(H:Fair k D s.wd):Fair k D (qg k D s h).wd:=by
 unfold qg;simp only;cases hb:rH k D s.wd h with
 |false=>simpa using H
 |true=>
  rw [if_pos rfl];obtain⟨h1,h2⟩:=of_decide_eq_true hb;intro b hm;rw [fQ,List.length_append,wJ];rcases List.mem_append.1 hm with hm|hm
  ·split
   ·rename_i ha
    have:=h2 b (gC.2 ⟨hm,ha.symm⟩);simp only [List.length_cons,List.length_nil];omega
   ·have:=H b hm
    simp only [List.length_nil];omega
  ·have:b=h:=by simpa using hm
   subst this;rw [if_neg (λe=>e.1 rfl)];simpa using h1
theorem Fair.fold{k:Nat}{D:DG}:∀(l:List HT) (s:VS),Fair k D s.wd->Fair k D (l.foldl (qg k D) s).wd
 | [],_,H=>H
 |x::l,s,H=>by
  rw [List.foldl_cons];exact Fair.fold l _ H.step
theorem BL{G:GS}:∀ {l:List HT} {p:HT},p∈l->G.score p<=G.score (cf G l)
 |x::l,p,hp=>by
  have gs:∀ {a b:HT},gl G a b=true->G.score a<=G.score b:=λ{a b} h=>by
   simp only [gl,Bool.or_eq_true,Bool.and_eq_true,decide_eq_true_eq]at h;omega
  have gn:∀ {a b:HT},gl G a b=false->G.score b<=G.score a:=λ{a b} h=>by
   simp only [gl,Bool.or_eq_false_iff,decide_eq_false_iff_not]at h;omega
  have key:∀(l:List HT) (b:HT),G.score b<=G.score (l.foldl (λb y=>if gl G b y then y else b) b)/\∀p∈l,G.score p<=G.score (l.foldl (λb y=>if gl G b y then y else b) b):=by
   intro l
   induction l with
   |nil=>intro b;exact⟨Nat.le_refl _,λp hp=>by cases hp⟩
   |cons y l ih=>
    intro b;rw [List.foldl_cons];obtain⟨h1,h2⟩:=ih (if gl G b y then y else b);cases hg:gl G b y with
    |true=>
     rw [hg,if_pos rfl]at h1 h2;rw [if_pos rfl];refine⟨Nat.le_trans (gs hg) h1,λp hp=>?_⟩;rcases List.mem_cons.1 hp with rfl|hp
     ·exact h1
     ·exact h2 p hp
    |false=>
     rw [hg,if_neg (by simp)]at h1 h2;rw [if_neg (by simp)];refine⟨h1,λp hp=>?_⟩;rcases List.mem_cons.1 hp with rfl|hp
     ·exact Nat.le_trans (gn hg) h1
     ·exact h2 p hp
  obtain⟨h1,h2⟩:=key l x;show G.score p<=G.score (l.foldl (λb y=>if gl G b y then y else b) x)
  rcases List.mem_cons.1 hp with rfl|hp
  ·exact h1
  ·exact h2 p hp
structure I2(k:Nat)(G:GS):Prop where
 cl:∀h∈ids G.D,Fair k G.D (G.world h)
 mx:∀h p,nK G.D p h->G.score p<=G.score (G.ln h).jv
section
variable{k:Nat}{G:GS}{h:HT}{ps:List HT}
theorem I2.root(k:Nat)(r:HT):I2 k (fH r):=by
 refine⟨λh hm b hb=>?_,λh p hp=>?_⟩
 ·have hh:h=r:=by simpa [fH,ids]using hm
  subst hh;rw [((lM k h).root ⟨h,[]⟩ rfl).2]at hb;cases hb
 ·obtain⟨nd,fE,_,qJ⟩:=hp
  have:nd=⟨r,[]⟩:=by simpa [fH]using fE
  subst this;cases qJ
theorem I2.add(C:I2 k G)(H:jM k G)(h:HT)(ps:List HT):I2 k (eZ k G h ps):=by
 by_cases hc:fg G.D h ps=0
 ·obtain⟨hn,gQ,fE,qJ⟩:=mo hc
  obtain⟨q1,q2⟩:=uq H hc;obtain⟨a1,a2⟩:=x7 H hc;obtain⟨j,m,_,_,_,Ic,Ex⟩:=DV H hc;have eD:(eZ k G h ps).D=G.D++ [⟨h,dP ps⟩]:=by rw [nf hc]
  have XB:∀p∈ps,p∈ids G.D:=λp hp=>qJ p (dU.2 hp);have apt:∀ {a b:HT},a∈ids G.D->b∈ids G.D->(oF (eZ k G h ps).D a b↔oF G.D a b):=λ{a b} ha hb=>by
   unfold oF;rw [eD,a2 a b hb,a2 b a ha]
  have Ds:∀ {wd:List HT},(∀a∈wd,a∈ids G.D)->Fair k G.D wd->Fair k (eZ k G h ps).D wd:=λ{wd} gD F b hb=>by
   rw [pT λa ha=>apt (gD a ha) (gD b hb)];exact F b hb
  have sc:∀ {y:HT},y∈ids G.D->(eZ k G h ps).score y=G.score y:=λ{y} hy=>by unfold GS.score;rw [(pF H hy).1]
  have mem:∀ {y:HT},y∈ids (eZ k G h ps).D->y∈ids G.D\/y=h:=λ{y} hy=>by
   rw [eD]at hy;simpa [ids]using hy
  refine⟨λy hy=>?_,λy p hp=>?_⟩
  ·rcases mem hy with hy|rfl
   ·rw [(pF H hy).2]
    exact Ds (λa ha=>(((H.wd y hy).2.1 a ha).mem H.W).1) (C.cl y hy)
   ·rw [q2]
    obtain⟨_,_,v3⟩:=zY H Ex ps XB;refine Ds (λa ha=>(v3 a ha).1) ?_;unfold iO;refine Fair.fold _ _ ?_;have hw:=(H.wd _ Ex).2.1;intro b hb;simp only at hb⊢;rw [fQ,wJ,List.length_append];rcases List.mem_append.1 hb with hb|hb
    ·have:=C.cl _ Ex b hb
     rw [if_neg (λe=>e.2.2 (hw b hb))];simpa using this
    ·have:b=cf G ps:=by simpa using hb
     subst this;rw [if_neg (λe=>e.1 rfl)];have:cG G.D (G.world (cf G ps)) (cf G ps)= []:=by
      rw [List.eq_nil_iff_forall_not_mem];intro a ha;obtain⟨h1,h2⟩:=gC.1 ha;exact h2.2.1 (hw a h1)
     rw [this];simp
  ·obtain⟨nd,fE,rfl,hp⟩:=hp
   rw [eD]at fE;rcases List.mem_append.1 fE with fE|fE
   ·have hy:nd.id∈ids G.D:=eV.2 ⟨nd,fE,rfl⟩
    have mu:nK G.D p nd.id:=⟨nd,fE,rfl,hp⟩;have hpi:=((fU.one mu).mem H.W).1;have oM:=C.mx _ _ mu;rw [(pF H hy).1,sc hpi];obtain⟨i,jj,m',nd',sY,nC,pw,e1,e2,_⟩:=mu.at_ H.W;have hP:=(lgeS pw).1;obtain⟨pz,Mn⟩:∃pz,G.P[jj]? =some pz:=⟨_,List.getElem?_eq_getElem (by rw [H.jv.len];exact hP)⟩;obtain⟨j2,m2,rfl,_,NX,aeE⟩:=H.jv.up jj pz nd' (by omega) Mn pw;have oW:=(H.up m2.id nd.id ⟨jj,j2,nd',m2,pw,e2,Mn,NX,rfl⟩).1;rw [sc (by rw [oW];exact eV.2 ⟨m2,List.mem_of_getElem? NX,rfl⟩)];exact oM
   ·have:nd=⟨h,dP ps⟩:=by simpa using fE
    subst this;have Je:p∈ps:=dU.1 hp;rw [q1,sc (XB p Je)];show G.score p<=(eZ k G h ps).score (cf G ps)
    rw [sc Ex];exact BL Je
 ·rw [uo hc];exact C
theorem IN(k:Nat)(root:HT)(l:List DN):I2 k (AY k root l):=by
 have key:∀(l:List DN) (G:GS),jM k G->I2 k G->I2 k (l.foldl (λG s=>eZ k G s.id s.ps) G):=by
  intro l
  induction l with
  |nil=>intro G _ C;exact C
  |cons s l ih=>intro G H C;rw [List.foldl_cons];exact ih _ (H.add _ _) (C.add H _ _)
 exact key l _ (lM k root) (I2.root k root)
theorem Q7(H:jM k G){p y:HT}(hp:nK G.D p y):lT G.D G.P (G.ln y).jv y:=by
 obtain⟨i,jj,m',nd',sY,nC,pw,e1,e2,_⟩:=hp.at_ H.W;have hP:=(lgeS pw).1;obtain⟨pz,Mn⟩:∃pz,G.P[jj]? =some pz:=⟨_,List.getElem?_eq_getElem (by rw [H.jv.len];exact hP)⟩;obtain⟨j2,m2,rfl,_,NX,aeE⟩:=H.jv.up jj pz nd' (by omega) Mn pw;have hs:lT G.D G.P m2.id y:=⟨jj,j2,nd',m2,pw,e2,Mn,NX,rfl⟩;have:=(H.up _ _ hs).1;rw [this];exact hs
theorem Hu(H:jM k G){s y:HT}(hs:lT G.D G.P s y):G.score s<G.score y:=by
 have hy:fU G.D s y:=.one (hs.par H.jv);obtain⟨m1,m2⟩:=hy.mem H.W;rw [(H.wd s m1).2.2,(H.wd y m2).2.2,(H.up s y hs).2.1];simp only [List.length_append,List.length_cons,List.length_nil];omega
theorem y7(C:I2 k G)(H:jM k G){p y:HT}(hp:nK G.D p y):G.score p<G.score y:=
 Nat.lt_of_le_of_lt (C.mx y p hp) (Hu H (Q7 H hp))
theorem Hv(C:I2 k G)(H:jM k G){a y:HT}(h:fU G.D a y):G.score a<G.score y:=by
 induction h with
 |one hp=>exact y7 C H hp
 |more _ hp ih=>exact Nat.lt_trans ih (y7 C H hp)
end
section
variable{k:Nat}{G G':GS}{s:HT}{l:List HT}
theorem BM{G:GS}:∀ {l:List HT} {p:HT},p∈l->gl G (cf G l) p=false
 |x::l,p,hp=>by
  have key:∀(l:List HT) (b:HT),gl G (l.foldl (λb y=>if gl G b y then y else b) b) b=false/\∀p∈l,gl G (l.foldl (λb y=>if gl G b y then y else b) b) p=false:=by
   intro l
   induction l with
   |nil=>intro b;exact⟨jZ G b,λp hp=>by cases hp⟩
   |cons y l ih=>
    intro b;rw [List.foldl_cons];obtain⟨h1,h2⟩:=ih (if gl G b y then y else b);cases hg:gl G b y with
    |true=>
     rw [hg,if_pos rfl]at h1 h2;rw [if_pos rfl];refine⟨?_,λp hp=>?_⟩
     ·cases hx:gl G (l.foldl (λb y=>if gl G b y then y else b) y) b with
      |false=>rfl
      |true=>rw [mi hx hg]at h1;cases h1
     ·rcases List.mem_cons.1 hp with rfl|hp
      ·exact h1
      ·exact h2 p hp
    |false=>
     rw [hg,if_neg (by simp)]at h1 h2;rw [if_neg (by simp)];refine⟨h1,λp hp=>?_⟩;rcases List.mem_cons.1 hp with rfl|hp
     ·cases hx:gl G (l.foldl (λb y=>if gl G b y then y else b) b) p with
      |false=>rfl
      |true=>
       cases hy:gl G p b with
       |true=>rw [mi hx hy]at h1;cases h1
       |false=>
        have e:=ml hg hy;rw [<-e]at hx;rw [hx]at h1;cases h1
     ·exact h2 p hp
  obtain⟨h1,h2⟩:=key l x;show gl G (l.foldl (λb y=>if gl G b y then y else b) x) p=false
  rcases List.mem_cons.1 hp with rfl|hp
  ·exact h1
  ·exact h2 p hp
theorem DU{G:GS}{l:List HT}{x:HT}(hx:x∈l)(h:∀p∈l,gl G x p=false):cf G l=x:=by
 have gQ:l≠ []:=λe=>by rw [e]at hx;cases hx
 exact ml (BM hx) (h _ (kF gQ))
theorem Ee{G:GS}:cZ G s (dP l)=cZ G s l:=by
 refine uK (mH _ _ _) λx=>?_;rw [jR,wW];simp only [dU]
end
section
variable{k:Nat}{G:GS}{h:HT}{l:List HT}
end
section
variable{k:Nat}{G:GS}{h:HT}{l:List HT}
end
section
variable{w w':World}{K:Value->World->Prop}{B n cx b:Nat}{A:Option Addr}{F:Nat->Prop}{c k:Nat}{G:GS}{m:CM}{l:List HT}
end
section
variable{w w' v:World}{K:Value->World->Prop}{B n cx b q:Nat}{A E:Option Addr}{F:Nat->Prop}{c k:Nat}{G:GS}{m:CM}{l:List HT}{C:qF}{cp e ce:Nat}
theorem FZ(w:World)(s:HT){B:Nat}(hB:B<=w.heap.size):bY (w.alloc (.cells (s.1.toList++ []).toArray ai)) B (some ⟨w.heap.size,0,none⟩) 1 1 [s]:=by
 have e:dK [s]=(s.1.toList++ []).toArray.toList:=by simp [dK]
 show Row _ _ _ _ _ _ _ (dK [s])
 rw [e];exact Row.made (aO w _) hB (by simp [s.2.1]) (by unfold maxLen;omega)
theorem p7(hx:v.heap[q]? =some (.cells (dI C A n cp E e ce) bT (0,0))):
 Cells v ((⟨q,0,none⟩:Addr).add 0) C.jv.1/\v.cell? ((⟨q,0,none⟩:Addr).add 32)=some (.int .u64 (C.score:Int))/\v.cell? ((⟨q,0,none⟩:Addr).add 33)=some (.slice A n cp)/\v.cell? ((⟨q,0,none⟩:Addr).add 34)=some (.slice E e ce):=by
 have g:=iI C A n cp E e ce #[];rw [Array.append_empty]at g;refine⟨λj u hj=>?_,by rw [bO,aI hx];exact g.1,by rw [bO,aI hx];exact g.2.1,by rw [bO,aI hx];exact g.2.2.1⟩;have dD:=(Array.getElem?_eq_some_iff.1 hj).1;rw [add_zero,bO,aI hx,Nat.zero_add];unfold dI;rw [Array.getElem?_append_left dD];exact hj
theorem wj(u:World)(C:qF)(A:Option Addr)(n cp:Nat)(E:Option Addr)(e ce:Nat):
 ((dI C A n cp E e ce).size=35/\(∀x∈(dI C A n cp E e ce).toList,x.oneCell'=true)/\∀y,y<35->Wr (u.alloc (.cells zC bT)) ((aU u.heap.size).add y))/\
   (setCells (u.alloc (.cells zC bT)) ⟨u.heap.size,0,none⟩ (dI C A n cp E e ce).toList 0).heap[u.heap.size]? =some (.cells (dI C A n cp E e ce) bT (0,0))/\
   Kept Nil u (setCells (u.alloc (.cells zC bT)) ⟨u.heap.size,0,none⟩ (dI C A n cp E e ce).toList 0):=by
 have Ia:(u.alloc (.cells zC bT)).heap[u.heap.size]? =some (.cells zC bT (0,0)):=aO u _;obtain⟨t1,t2,t3⟩:=hU Ia (cs:=dI C A n cp E e ce) (by rw [bR];rfl);exact⟨⟨bR ..,gv _ _ _ _ _ _ _,λj hj=>t1 j (by rw [bR];exact hj)⟩,t2,((Kept.refl _ _).alloc _).trans t3 (λj hj e=>by omega)⟩
theorem ou(u:World)(x:HT):(x.1.size=32/\(∀y∈x.1.toList,y.oneCell'=true)/\∀y,y<32->Wr (u.alloc (.cells zH ai)) ((aU u.heap.size).add y))/\
 (setCells (u.alloc (.cells zH ai)) ⟨u.heap.size,0,none⟩ x.1.toList 0).heap[u.heap.size]? =some (.cells x.1 ai (0,0))/\Kept Nil u (setCells (u.alloc (.cells zH ai)) ⟨u.heap.size,0,none⟩ x.1.toList 0):=by
 obtain⟨uP,ly,lH⟩:=jt (w:=u) (z:=zH) (cs:=x.1) (t:=ai) (by rw [x.2.1];rfl);exact⟨⟨x.2.1,x.2.one,λj hj=>uP j (by rw [x.2.1];exact hj)⟩,ly,lH⟩
end
section
variable{k:Nat}{G:GS}{jv:HT}
def yc(G:GS)(jv t:HT):Prop:=t∈ids G.D/\(¬∃b,nK G.D t b)/\t≠jv/\¬fU G.D t jv/\gl G t jv=true
noncomputable def dZ(G:GS)(jv:HT)(mp mm:Nat)(out l:List HT):List HT:=match l with
 | []=>out
 |t::r=>if out.length=mp then out else if(cZ G jv (out++ [t])).length<=mm then dZ G jv mp mm (out++ [t]) r else dZ G jv mp mm out r
 termination_by structural l
structure GP(G:GS)(jv:HT)(mp mm:Nat)(out:List HT):Prop where
 has:jv∈out
 el:∀y∈out,y=jv\/yc G jv y
 len:out.length<=mp
 mg:(cZ G jv out).length<=mm
theorem uT{mp mm:Nat}:∀(l out:List HT),GP G jv mp mm out->(∀t∈l,yc G jv t)->GP G jv mp mm (dZ G jv mp mm out l)
 | [],out,h,_=>by unfold dZ;exact h
 |t::r,out,h,hl=>by
  unfold dZ;split
  ·exact h
  ·rename_i gQ
   have hr:∀t∈r,yc G jv t:=λy hy=>hl y (List.mem_cons_of_mem _ hy);split
   ·rename_i hm
    refine uT r _ ⟨List.mem_append_left _ h.has,λy hy=>?_,?_,hm⟩ hr
    ·rcases List.mem_append.1 hy with hy|hy
     ·exact h.el y hy
     ·rw [List.mem_singleton.1 hy];exact .inr (hl t List.mem_cons_self)
    ·have:=h.len
     rw [List.length_append,List.length_cons,List.length_nil];omega
   ·exact uT r out h hr
theorem Ec{D:DG}{a b:HT}(h:¬∃b,nK D a b):¬fU D a b:=λha=>by
 induction ha with
 |one hp=>exact h ⟨_,hp⟩
 |more _ _ ih=>exact ih
theorem Ls{a b:HT}(h:gl G a b=true):G.score a<=G.score b:=by
 simp only [gl,Bool.or_eq_true,Bool.and_eq_true,decide_eq_true_eq]at h;omega
theorem Ay(G:GS)(s:HT):cZ G s [s]= []:=by
 have:∀x,x∉cZ G s [s]:=λx hx=>by
  obtain⟨h1,h2,h3⟩:=jR.1 hx;rcases h1 with⟨_,p,hp,ha⟩|h1
  ·rw [List.mem_singleton.1 hp]at ha;exact h3 ha
  ·exact h2 (List.mem_singleton.1 h1)
 exact List.eq_nil_iff_forall_not_mem.2 this
theorem wL(C:I2 k G)(H:jM k G)(hs:jv∈ids G.D){mp mm:Nat}(KZ:1<=mp){l:List HT}(hl:∀t∈l,yc G jv t):
 let x:=dP (dZ G jv mp mm [jv] l)
 x≠ []/\x.length<=mp/\dP x=x/\(∀y∈x,y∈ids G.D)/\(∀a∈x,∀b∈x,¬fU G.D a b)/\cf G x=jv/\(cZ G jv x).length<=mm:=by
 intro x;have g:=uT (mp:=mp) (mm:=mm) l [jv] ⟨by simp,λy hy=>.inl (List.mem_singleton.1 hy),by simpa using KZ,by rw [Ay];exact Nat.zero_le _⟩ hl;have hx:jv∈x:=dU.2 g.has;have K6:∀y∈x,y=jv\/yc G jv y:=λy hy=>g.el y (dU.1 hy);refine⟨λe=>(by rw [e]at hx;cases hx),Nat.le_trans (oI _) g.len,wx (jL _),λy hy=>?_,λa ha b hb mK=>?_,DU hx λp hp=>?_,?_⟩
 ·rcases K6 y hy with rfl|h
  ·exact hs
  ·exact h.1
 ·rcases K6 a ha with rfl|h
  ·rcases K6 b hb with rfl|h'
   ·exact fU.irrefl H.W _ mK
   ·have h1:=Hv C H mK
    have h2:=Ls h'.2.2.2.2;omega
  ·exact Ec h.2.1 mK
 ·rcases K6 p hp with rfl|h
  ·exact jZ G _
  ·exact ry h.2.2.2.2
 ·show(cZ G jv (dP (dZ G jv mp mm [jv] l))).length<=mm
  rw [Ee];exact g.mg
end
section
variable{G:GS}{jv:HT}
def yZ(G:GS)(l:List HT):Prop:=l.Pairwise λa b=>gl G b a=true
theorem yZ.nodup{l:List HT}(h:yZ G l):l.Nodup:=List.Pairwise.imp (λ{a b} mK e=>by subst e;rw [jZ]at mK;cases mK) h
theorem yZ.next{l:List HT}(h:yZ G l){j:Nat}{y:HT}(hy:y∈l.drop j)(hm:∀z∈l.drop j,z=y\/gl G z y=true):l[j]? =some y/\l.take (j+1)=l.take j++ [y]/\l.drop j=y::l.drop (j+1):=by
 have key:l[j]? =some y:=by
  cases hd:l.drop j with
  |nil=>rw [hd]at hy;cases hy
  |cons a r=>
   have ha:l[j]? =some a:=by
    have:=congrArg (·[0]?) hd;simpa using this
   have hp:yZ G (a::r):=by rw [<-hd];exact List.Pairwise.sublist (List.drop_sublist _ _) h
   rw [hd]at hy;rcases List.mem_cons.1 hy with e|hy
   ·rw [ha,e]
   ·have h1:=(List.pairwise_cons.1 hp).1 y hy
    rcases hm a (by rw [hd];exact List.mem_cons_self)with e|h2
    ·rw [ha,e]
    ·rw [ry h1]at h2;cases h2
 refine⟨key,by rw [List.take_add_one,key];rfl,?_⟩;have dD:=(lgeS key).1;rw [List.drop_eq_getElem_cons dD]
 congr 1
 exact(lgeS key).2
theorem yZ.left{l:List HT}(h:yZ G l)(j:Nat)(x:HT):x∈l.drop j↔x∈l/\x∉l.take j:=by
 have e:=List.take_append_drop j l;have hn:=h.nodup;rw [<-e]at hn;have ae5:=(List.nodup_append.1 hn).2.2;constructor
 ·intro hx
  exact⟨List.mem_of_mem_drop hx,λhy=>ae5 x hy x hx rfl⟩
 ·rintro⟨h1,h2⟩
  rw [<-e]at h1;exact(List.mem_append.1 h1).resolve_left h2
theorem tc{mp mm:Nat}{out:List HT}:dZ G jv mp mm out []=out:=by unfold dZ;rfl
theorem ru{mp mm:Nat}{out:List HT}{t:HT}{r:List HT}:dZ G jv mp mm out (t::r)=if out.length=mp then out else if(cZ G jv (out++ [t])).length<=mm then dZ G jv mp mm (out++ [t]) r else dZ G jv mp mm out r:=by
 rw [dZ]
theorem CT{mp mm:Nat}{out l:List HT}(h:out.length=mp):dZ G jv mp mm out l=out:=by
 cases l with
 |nil=>exact tc
 |cons t r=>rw [ru,if_pos h]
end
structure PP where
 K:Int
 mp:Int
 mm:Int
 fin:Int
 D5:Int
 Pd:Int
 sub:Int
 Pb:Int
 B8:Int
 gen:HT
def PP.cells(p:PP):Array Value:= #[.int .i64 p.K,.int .i64 p.mp,.int .i64 p.mm,.int .i64 p.fin,.int .i64 p.D5,.int .i64 p.Pd,.int .u64 p.sub,.int .i64 p.Pb,.int .i64 p.B8]++p.gen.1
def PP.ok(p:PP):Prop:=(0<=p.K/\p.K<=100)/\(1<=p.mp/\p.mp<=20)/\(1<=p.mm/\p.mm<=1000)/\(0<=p.fin/\p.fin<=2147483647)/\(0<=p.D5/\p.D5<=2147483647)/\(0<=p.Pd/\p.Pd<=2147483647)/\(0<=p.Pb/\p.Pb<=100000)/\(0<=p.B8/\p.B8<=100000)/\p.sub<=1099511627776/\(p.D5=0\/(0<p.fin/\p.fin<p.D5/\p.mm<p.D5))
noncomputable instance(p:PP):Decidable p.ok:=Classical.propDecidable _
noncomputable def iy(D:DG)(l:List HT):List HT:=l.filter λx=>decide (x∉ids D)
theorem zm{D:DG}{l:List HT}{x:HT}:x∈iy D l↔x∈l/\x∉ids D:=by unfold iy;simp
theorem rX{D:DG}{l:List HT}:iy D l= []↔∀x∈l,x∈ids D:=by
 rw [List.eq_nil_iff_forall_not_mem];constructor
 ·intro h x hx
  exact Classical.byContradiction λe=>h x (zm.2 ⟨hx,e⟩)
 ·intro h x hx
  obtain⟨h1,h2⟩:=zm.1 hx;exact h2 (h x h1)
def vL(D:DG)(l:List HT):Prop:=∃a∈l,∃b∈l,fU D a b
open Classical in
noncomputable def jY(p:PP)(G:GS)(l:List HT):List HT×Int:=
 if ¬p.ok then([],2)
 else if(l.length<1\/p.mp<(l.length:Int))\/dP l≠l then([],9)
 else if iy G.D l≠ []then(iy G.D l,15)
 else if vL G.D l then([],9)
 else if p.mm<((cZ G (cf G l) l).length:Int)then([],10)
 else([],0)
section
variable{k:Nat}{G G':GS}{l:List HT}{p:PP}
end
theorem PP.size(p:PP):p.cells.size=41:=by unfold PP.cells;rw [Array.size_append,p.gen.2.1];rfl
theorem PP.OE(p:PP):p.cells[0]? =some (.int .i64 p.K):=by unfold PP.cells;rw [Array.getElem?_append_left (by show 0<9;omega)];rfl
theorem PP.IF(p:PP):p.cells[1]? =some (.int .i64 p.mp):=by unfold PP.cells;rw [Array.getElem?_append_left (by show 1<9;omega)];rfl
theorem PP.AS(p:PP):p.cells[2]? =some (.int .i64 p.mm):=by unfold PP.cells;rw [Array.getElem?_append_left (by show 2<9;omega)];rfl
theorem PP.E5(p:PP):p.cells[3]? =some (.int .i64 p.fin):=by unfold PP.cells;rw [Array.getElem?_append_left (by show 3<9;omega)];rfl
theorem PP.AR(p:PP):p.cells[4]? =some (.int .i64 p.D5):=by unfold PP.cells;rw [Array.getElem?_append_left (by show 4<9;omega)];rfl
theorem PP.TU(p:PP):p.cells[5]? =some (.int .i64 p.Pd):=by unfold PP.cells;rw [Array.getElem?_append_left (by show 5<9;omega)];rfl
theorem PP.Z3(p:PP):p.cells[6]? =some (.int .u64 p.sub):=by unfold PP.cells;rw [Array.getElem?_append_left (by show 6<9;omega)];rfl
theorem PP.TT(p:PP):p.cells[7]? =some (.int .i64 p.Pb):=by unfold PP.cells;rw [Array.getElem?_append_left (by show 7<9;omega)];rfl
theorem PP.TS(p:PP):p.cells[8]? =some (.int .i64 p.B8):=by unfold PP.cells;rw [Array.getElem?_append_left (by show 8<9;omega)];rfl
theorem PP.one(p:PP):∀v∈p.cells.toList,v.oneCell'=true:=by
 intro v hv;unfold PP.cells at hv;rw [Array.toList_append,List.mem_append]at hv;rcases hv with hv|hv
 ·simp only [List.mem_cons,List.not_mem_nil,or_false]at hv
  rcases hv with rfl|rfl|rfl|rfl|rfl|rfl|rfl|rfl|rfl<;>rfl
 ·exact p.gen.2.one v hv
def PP.Jy(p:PP):List (Int×Int×Int):= [(p.K,0,100),(p.mp,1,20),(p.mm,1,1000),(p.fin,0,2147483647),(p.D5,0,2147483647),(p.Pd,0,2147483647),(p.Pb,0,100000),(p.B8,0,100000)]
section
variable{w w':World}{K:Value->World->Prop}{p:PP}
theorem ny(p:PP)(hK:∀w',Kept Nil w w'->K (.bool (decide p.ok)) w'):bJ prog jn.id #[.agg p.cells] w K:=by
 refine jn.of ?_;unfold jn.W;intro w1;have k1:Kept Nil w w1:=(Kept.refl _ _).alloc _;have hb:w1.heap[w.heap.size]? =some (.cells p.cells fc (0,0)):=aO w _;clear_value w1;have rd:∀(j:Nat) (v:Value),j<41->p.cells[j]? =some v->w1.cell? ((aU w.heap.size).add j)=some v:=λj v _ h=>by rw [bO,aI hb,Nat.zero_add];exact h
 have hk:=hK w1 k1;have no:¬p.ok->K (.bool false) w1:=λe=>by rw [decide_eq_false e]at hk;exact hk
 have yes:p.ok->K (.bool true) w1:=λe=>by rw [decide_eq_true e]at hk;exact hk
 refine⟨_,rd 0 _ (by decide) p.OE,Split.dec (λh0=>no (λe=>by unfold PP.ok at e;omega)) (λh0=>?_)⟩;refine⟨_,rd 0 _ (by decide) p.OE,Split.dec (λh1=>no (λe=>by unfold PP.ok at e;omega)) (λh1=>?_)⟩;refine⟨_,rd 1 _ (by decide) p.IF,Split.dec (λh2=>no (λe=>by unfold PP.ok at e;omega)) (λh2=>?_)⟩;refine⟨_,rd 1 _ (by decide) p.IF,Split.dec (λh3=>no (λe=>by unfold PP.ok at e;omega)) (λh3=>?_)⟩;refine⟨_,rd 2 _ (by decide) p.AS,Split.dec (λh4=>no (λe=>by unfold PP.ok at e;omega)) (λh4=>?_)⟩;refine⟨_,rd 2 _ (by decide) p.AS,Split.dec (λh5=>no (λe=>by unfold PP.ok at e;omega)) (λh5=>?_)⟩;refine⟨_,rd 3 _ (by decide) p.E5,Split.dec (λh6=>no (λe=>by unfold PP.ok at e;omega)) (λh6=>?_)⟩;refine⟨_,rd 3 _ (by decide) p.E5,Split.dec (λh7=>no (λe=>by unfold PP.ok at e;omega)) (λh7=>?_)⟩;refine⟨_,rd 4 _ (by decide) p.AR,Split.dec (λh8=>no (λe=>by unfold PP.ok at e;omega)) (λh8=>?_)⟩;refine⟨_,rd 4 _ (by decide) p.AR,Split.dec (λh9=>no (λe=>by unfold PP.ok at e;omega)) (λh9=>?_)⟩;refine⟨_,rd 5 _ (by decide) p.TU,Split.dec (λwh=>no (λe=>by unfold PP.ok at e;omega)) (λwh=>?_)⟩;refine⟨_,rd 5 _ (by decide) p.TU,Split.dec (λMz=>no (λe=>by unfold PP.ok at e;omega)) (λMz=>?_)⟩;refine⟨_,rd 6 _ (by decide) p.Z3,Split.dec (λDB=>no (λe=>by unfold PP.ok at e;omega)) (λDB=>?_)⟩;refine⟨_,rd 7 _ (by decide) p.TT,Split.dec (λDA=>no (λe=>by unfold PP.ok at e;omega)) (λDA=>?_)⟩;refine⟨_,rd 7 _ (by decide) p.TT,Split.dec (λh14=>no (λe=>by unfold PP.ok at e;omega)) (λh14=>?_)⟩
 refine⟨_,rd 8 _ (by decide) p.TS,Split.dec (λIB=>no (λe=>by unfold PP.ok at e;omega)) (λIB=>?_)⟩;refine⟨_,rd 8 _ (by decide) p.TS,Split.dec (λh16=>no (λe=>by unfold PP.ok at e;omega)) (λh16=>?_)⟩;refine⟨_,rd 4 _ (by decide) p.AR,?_⟩;by_cases My:p.D5=0
 ·exact Split.yes (by simp [My]) (yes (by unfold PP.ok;omega))
 refine Split.no (by simp [My]) ⟨_,rd 3 _ (by decide) p.E5,Split.dec (λTQ=>?_) (λTQ=>no (λe=>by unfold PP.ok at e;omega))⟩;refine⟨_,rd 4 _ (by decide) p.AR,_,rd 3 _ (by decide) p.E5,Split.dec (λZY=>?_) (λZY=>no (λe=>by unfold PP.ok at e;omega))⟩;refine⟨_,rd 4 _ (by decide) p.AR,_,rd 2 _ (by decide) p.AS,?_⟩;by_cases ZX:p.D5>p.mm
 ·rw [decide_eq_true ZX];exact yes (by unfold PP.ok;omega)
 ·rw [decide_eq_false ZX];exact no (λe=>by unfold PP.ok at e;omega)
set_option maxHeartbeats 1000000 in
theorem nt(p:PP)(hK:∀w',Kept Nil w w'->K (.bool (decide p.ok)) w'):bJ prog cg.id #[.agg p.cells] w K:=by
 refine cg.of ?_;unfold cg.W;intro w1;have k1:Kept Nil w w1:=(Kept.refl _ _).alloc _;have hb:w1.heap[w.heap.size]? =some (.cells p.cells fc (0,0)):=aO w _;clear_value w1;have rd:∀(j:Nat) (v:Value),p.cells[j]? =some v->w1.cell? ((aU w.heap.size).add j)=some v:=λj v h=>by rw [bO,aI hb,Nat.zero_add];exact h
 refine⟨_,rd 0 _ p.OE,_,rd 1 _ p.IF,_,rd 2 _ p.AS,_,rd 3 _ p.E5,_,rd 4 _ p.AR,_,rd 5 _ p.TU,_,rd 7 _ p.TT,_,rd 8 _ p.TS,rfl,rfl,rfl,rfl,rfl,rfl,rfl,rfl,?_⟩;intro w2;have k2:Kept Nil w1 w2:=(Kept.refl _ _).alloc _;have ht:∃C:Array Value,∃ty:TypeId,w2.heap[w1.heap.size]? =some (.cells C ty (0,0))/\∀i:Nat,i<8->∃t,p.Jy[i]? =some t/\C[i*3]? =some (.int .i64 t.1)/\C[i*3+1]? =some (.int .i64 t.2.1)/\C[i*3+2]? =some (.int .i64 t.2.2):=by
  refine⟨_,_,aO w1 _,λi hi=>?_⟩
  match i,hi with
  |0,_=>exact⟨_,rfl,rfl,rfl,rfl⟩
  |1,_=>exact⟨_,rfl,rfl,rfl,rfl⟩
  |2,_=>exact⟨_,rfl,rfl,rfl,rfl⟩
  |3,_=>exact⟨_,rfl,rfl,rfl,rfl⟩
  |4,_=>exact⟨_,rfl,rfl,rfl,rfl⟩
  |5,_=>exact⟨_,rfl,rfl,rfl,rfl⟩
  |6,_=>exact⟨_,rfl,rfl,rfl,rfl⟩
  |7,_=>exact⟨_,rfl,rfl,rfl,rfl⟩
 clear_value w2;obtain⟨C,ty,hC,iM⟩:=ht;have mT:=k1.tt k2;have oN:=k2.heap hb (λh=>h);have no:∀ {u:World},Kept Nil w u->¬p.ok->K (.bool false) u:=λku e=>by have:=hK _ ku;rw [decide_eq_false e]at this;exact this
 refine cg.cP (I:=λs v=>∃i:Nat,s=(false,(i:Int))/\i<=8/\Kept Nil w2 v/\∀t∈p.Jy.take i,t.2.1<=t.1/\t.1<=t.2.2) (μ:=λs _=>(8-s.2).toNat) (s:=(false,0)) ⟨0,rfl,by omega,Kept.refl _ _,by simp⟩ ?_;rintro s v ⟨i,rfl,hi,kv,dr⟩;have yz:=mT.tt kv;unfold cg.B1;refine Split.dec (λdD=>?_) (λgE=>?_)
 ·simp only at dD
  have eA:i<8:=by omega
  obtain⟨t,Ml,c0,c1,c2⟩:=iM i eA;have Xa:=List.mem_of_getElem? Ml;have hCv:=kv.heap hC (λh=>h);simp-zeta only [Int.toNat_natCast];refine⟨⟨by omega,by omega⟩,Is.mk rfl ⟨#[.int .i64 t.1,.int .i64 t.2.1,.int .i64 t.2.2],⟨rfl,λj u hj=>?_⟩,?_⟩⟩
  ·rw [bO,bO,aI hCv,Nat.zero_add]
   match j,hj with
   |0,hj=>cases hj;exact c0
   |1,hj=>cases hj;exact c1
   |2,hj=>cases hj;exact c2
   |j+3,hj=>simp at hj
  intro w3;obtain⟨uP,ly,lH⟩:=jt (w:=v) (z:=(#[.int .i64 0,.int .i64 0,.int .i64 0]:Array Value)) (cs:= #[.int .i64 t.1,.int .i64 t.2.1,.int .i64 t.2.2]) (t:=x9) rfl;refine⟨⟨rfl,by intro y hy;simp at hy;rcases hy with rfl|rfl|rfl<;>rfl,λj hj=>uP j hj⟩,?_⟩;intro w4
  replace ly:w4.heap[v.heap.size]? =some (.cells #[.int .i64 t.1,.int .i64 t.2.1,.int .i64 t.2.2] x9 (0,0)):=ly
  replace lH:Kept Nil v w4:=lH
  clear_value w4;have mD:=yz.tt lH;have rd3:∀(j:Nat) (z:Value),(#[.int .i64 t.1,.int .i64 t.2.1,.int .i64 t.2.2]:Array Value)[j]? =some z->w4.cell? ((aU v.heap.size).add j)=some z:=λj z h=>by rw [bO,aI ly,Nat.zero_add];exact h
  have bad:¬(t.2.1<=t.1/\t.1<=t.2.2)->¬p.ok:=λe h=>by
   unfold PP.ok at h;unfold PP.Jy at Xa;simp only [List.mem_cons,List.not_mem_nil,or_false]at Xa;rcases Xa with rfl|rfl|rfl|rfl|rfl|rfl|rfl|rfl<;>(simp only at e;omega)
  refine⟨⟨by omega,by omega⟩,t.1,rd3 0 _ rfl,⟨by omega,by omega⟩,t.2.1,rd3 1 _ rfl,Split.dec (λh1=>no mD (bad (by omega))) (λh1=>?_)⟩;refine⟨⟨by omega,by omega⟩,t.1,rd3 0 _ rfl,⟨by omega,by omega⟩,t.2.2,rd3 2 _ rfl,Split.dec (λh2=>no mD (bad (by omega))) (λh2=>?_)⟩;rw [dO (n:=(i:Int)) (by omega) (by omega)];refine⟨(false,(i:Int)+1),rfl,⟨i+1,rfl,eA,kv.tt lH,λt' Se=>?_⟩,by simp only;omega⟩;rw [List.take_add_one,Ml,List.mem_append]at Se;rcases Se with Se|Se
  ·exact dr t' Se
  ·simp at Se
   subst Se;omega
 ·simp only at gE
  rw [bg,cg.dJ];unfold cg.dA;have e8:i=8:=by omega
  subst e8;have ET:=kv.heap oN (λh=>h);have rdv:∀(j:Nat) (z:Value),p.cells[j]? =some z->v.cell? ((aU w.heap.size).add j)=some z:=λj z h=>by rw [bO,aI ET,Nat.zero_add];exact h
  have hk:=hK v yz;have yes:p.ok->K (.bool true) v:=λe=>by rw [decide_eq_true e]at hk;exact hk
  have hT:(0<=p.K/\p.K<=100)/\(1<=p.mp/\p.mp<=20)/\(1<=p.mm/\p.mm<=1000)/\(0<=p.fin/\p.fin<=2147483647)/\(0<=p.D5/\p.D5<=2147483647)/\(0<=p.Pd/\p.Pd<=2147483647)/\(0<=p.Pb/\p.Pb<=100000)/\(0<=p.B8/\p.B8<=100000):=
   ⟨dr (p.K,0,100) (by simp [PP.Jy]),dr (p.mp,1,20) (by simp [PP.Jy]),dr (p.mm,1,1000) (by simp [PP.Jy]),dr (p.fin,0,2147483647) (by simp [PP.Jy]),dr (p.D5,0,2147483647) (by simp [PP.Jy]),dr (p.Pd,0,2147483647) (by simp [PP.Jy]),dr (p.Pb,0,100000) (by simp [PP.Jy]),dr (p.B8,0,100000) (by simp [PP.Jy])⟩
  refine⟨_,rdv 6 _ p.Z3,Split.dec (λh6=>?_) (λh6=>no yz (λe=>by unfold PP.ok at e;omega))⟩;refine⟨_,rdv 4 _ p.AR,?_⟩;by_cases My:p.D5=0
  ·exact Split.yes (by simp [My]) (yes (by unfold PP.ok;omega))
  refine Split.no (by simp [My]) ⟨_,rdv 3 _ p.E5,Split.dec (λTQ=>?_) (λTQ=>no yz (λe=>by unfold PP.ok at e;omega))⟩;refine⟨_,rdv 4 _ p.AR,_,rdv 3 _ p.E5,Split.dec (λZY=>?_) (λZY=>no yz (λe=>by unfold PP.ok at e;omega))⟩;refine⟨_,rdv 4 _ p.AR,_,rdv 2 _ p.AS,?_⟩;by_cases ZX:p.D5>p.mm
  ·rw [decide_eq_true ZX];exact yes (by unfold PP.ok;omega)
  ·rw [decide_eq_false ZX];exact no yz (λe=>by unfold PP.ok at e;omega)
end
theorem Dd{P:Program}{g:FuncId}{first iJ:Array Value}{args:List Value}{fn:Func}{w:World}{k:Value->World->Prop}{vs:Array Value}(hf:P.funcs[g]? =some fn)(hb:fn.body.isSome=true)(hv:(first.toList++args++iJ.toList).toArray=vs):
 mY P (.func (.func g) first iJ) args w k=bJ P g vs w λv w'=>Uc P fn.resultTypes.toList v λv=>k v w':=by
 subst hv;unfold mY;simp only [hf];cases hc:fn.body with
 |none=>rw [hc]at hb;cases hb
 |some c=>simp only
theorem kY{P:Program}{g:FuncId}{first iJ:Array Value}{args:List Value}{fn:Func}{w:World}{k:Value->World->Prop}{vs:Array Value}{t:TypeId}(hf:P.funcs[g]? =some fn)(hb:fn.body.isSome=true)(hv:(first.toList++args++iJ.toList).toArray=vs)
 (ht:fn.resultTypes.toList= [t]) (hk:oU P t=.int .i64):mY P (.func (.func g) first iJ) args w k=bJ P g vs w λv w'=>∃e:Int,v=.int .i64 e/\k (.int .i64 e) w':=by
 rw [Dd hf hb hv,ht];simp only [Uc,hk,Any]
section
variable{w w' v:World}{K:Value->World->Prop}{n cx n' cx' hb gb ob cb pb:Nat}{A A':Option Addr}{l l':List HT}{F:Nat->Prop}{c k:Nat}{G:GS}{m:CM}{hd:Array Value}{p:PP}
theorem Fg(hl:HS w A n l)(P6:HS w A' n' l')(hn:n<=1000000)(hK:∀w',Kept Nil w w'->K (.bool (decide (l=l'))) w'):
 bJ prog aY.id #[.slice A n cx,.slice A' n' cx'] w K:=by
 have hlen:=hl.len;have zG:=P6.len;refine aY.of ?_;unfold aY.W;by_cases e:n=n'
 ·subst e
  refine Split.no (by simp) ?_;refine aY.cP (I:=λs v=>∃i:Nat,s=(false,(i:Int))/\i<=n/\Kept Nil w v/\∀t,t<i->l[t]? =l'[t]?) (μ:=λs _=>((n:Int)-s.2).toNat) (s:=(false,0)) ⟨0,rfl,Nat.zero_le _,Kept.refl _ _,λt ht=>by omega⟩ ?_;rintro s v ⟨i,rfl,hi,kv,dr⟩;unfold aY.B1;refine Split.dec (λdD=>?_) (λgE=>?_)
  ·simp only at dD
   have eA:i<n:=by omega
   obtain⟨x,hx⟩:∃x,l[i]? =some x:=⟨_,List.getElem?_eq_getElem (by omega)⟩;obtain⟨y,hy⟩:∃y,l'[i]? =some y:=⟨_,List.getElem?_eq_getElem (by omega)⟩;intro w3;have k3:Kept Nil v w3:=(Kept.refl _ _).drew;clear_value w3;have jH:=kv.tt k3;refine HS.load (hl.same jH) (i:=(i:Int)) (x:=x) (by omega) (by rw [Int.toNat_natCast];exact hx) ?_;refine HS.load (P6.same jH) (i:=(i:Int)) (x:=y) (by omega) (by rw [Int.toNat_natCast];exact hy) ⟨⟨x.2.ints,y.2.ints⟩,?_⟩;rw [dQ];by_cases nI:x=y
   ·refine Split.no (by rw [decide_eq_true nI];rfl) ?_
    simp only;rw [dO (n:=(i:Int)) (by omega) (by omega)];refine⟨(false,(i:Int)+1),rfl,⟨i+1,rfl,eA,jH,λt ht=>?_⟩,by simp only;omega⟩;by_cases Ml:t=i
    ·subst Ml
     rw [hx,hy,nI]
    ·exact dr t (by omega)
   ·refine Split.yes (by rw [decide_eq_false nI];rfl) ?_
    have gQ:l≠l':=λe=>by
     subst e;rw [hx]at hy;exact nI (Option.some.inj hy)
    have:=hK w3 jH;rw [decide_eq_false gQ]at this;exact this
  ·simp only at gE
   rw [bg,aY.dJ];have el:l=l':=List.ext_getElem? λt=>by
    by_cases ht:t<i
    ·exact dr t ht
    ·rw [List.getElem?_eq_none (by omega),List.getElem?_eq_none (by omega)]
   have:=hK v kv;rw [decide_eq_true el]at this;exact this
 ·refine Split.yes (by simpa using (λh:(n:Int)=(n':Int)=>e (by omega))) ?_
  have gQ:l≠l':=λh=>e (by rw [<-hlen,<-zG,h]);have:=hK w (Kept.refl _ _);rw [decide_eq_false gQ]at this;exact this
theorem Oo(vP:w.heap[pb]? =some (.cells p.cells fc (0,0)))(hK:∀w',Kept Nil w w'->K (.int .i64 (if ¬p.ok then 2 else 0)) w'):
 bJ prog dt.id #[.pointer (some ⟨pb,0,none⟩)] w K:=by
 refine dt.of ?_;refine⟨p.cells,⟨p.size,Cells.bX vP⟩,nt p λw1 k1=>⟨_,rfl,?_⟩⟩;have:=hK w1 k1;by_cases h:p.ok
 ·rw [if_neg (λe=>e h)]at this
  exact Split.no (by rw [decide_eq_true h];rfl) this
 ·rw [if_pos h]at this
  exact Split.yes (by rw [decide_eq_false h];rfl) this
theorem rp(GF:w.heap[hb]? =some (.cells hd la (0,0)))(h0:hd[0]? =some (.slice A n cx)):w.cell? ((⟨hb,0,none⟩:Addr).add 0)=some (.slice A n cx):=by
 rw [add_zero,aI GF];exact h0
theorem On(GF:w.heap[hb]? =some (.cells hd la (0,0)))(h0:hd[0]? =some (.slice A n cx))(hl:HS w A n l)(hn:n<=100000)(vP:w.heap[pb]? =some (.cells p.cells fc (0,0)))
 (hK:∀w' e,Kept Nil w w'->(((l.length<1\/p.mp<(l.length:Int))\/dP l≠l)/\e=9\/¬((l.length<1\/p.mp<(l.length:Int))\/dP l≠l)/\e=0)->K (.int .i64 e) w'):
 bJ prog dm.id #[.pointer (some ⟨hb,0,none⟩),.pointer (some ⟨pb,0,none⟩)] w K:=by
 have hlen:=hl.len;refine dm.of ?_;unfold dm.W;refine⟨A,n,cx,rp GF h0,?_⟩;intro w1;have k1:Kept Nil w w1:=(Kept.refl _ _).drew;clear_value w1;have rd:w1.cell? ((⟨pb,0,none⟩:Addr).add 1)=some (.int .i64 p.mp):=by rw [bO,aI (k1.heap vP (λh=>h))];exact p.IF
 have Ij:=rp (k1.heap GF (λh=>h)) h0;refine Split.dec (λh1=>hK w1 9 k1 (.inl ⟨.inl (.inl (by omega)),rfl⟩)) (λh1=>⟨_,rd,Split.dec (λh2=>hK w1 9 k1 (.inl ⟨.inl (.inr (by omega)),rfl⟩)) (λh2=>⟨A,n,cx,Ij,A,n,cx,Ij,?_⟩)⟩);refine im (hl.same k1) (by omega) λA2 c2 w2 iU k2=>⟨A2,_,c2,rfl,rp ((k1.tt k2).heap GF (λh=>h)) h0,?_⟩;have mT:=k1.tt k2;have Ew:=oI l;refine Fg (bY.hs iU) (hl.same mT) (by omega) λw3 k3=>⟨_,rfl,?_⟩;have jH:=mT.tt k3;by_cases hs:dP l=l
 ·refine Split.no (by rw [decide_eq_true hs];rfl) (hK w3 0 jH (.inr ⟨λe=>?_,rfl⟩))
  rcases e with(e|e)|e
  ·omega
  ·omega
  ·exact e hs
 ·exact Split.yes (by rw [decide_eq_false hs];rfl) (hK w3 9 jH (.inl ⟨.inr hs,rfl⟩))
theorem Ed{D:DG}{i:Nat}{x:HT}(hx:l[i]? =some x):iy D (l.take (i+1))=iy D (l.take i)++if x∈ids D then []else [x]:=by
 unfold iy;rw [List.take_add_one,hx,List.filter_append]
 congr 1
 by_cases h:x∈ids D
 ·simp [h]
 ·simp [h]
theorem JW(D:DG)(l:List HT):(iy D l).length<=l.length:=List.length_filter_le _ _
set_option maxHeartbeats 1000000 in
theorem Om{mx:XM}{P:List Int}{x:Nat}{FX:Nat->Prop}(X:XV w FX x G.D P mx)(C:CV w F c k G m)(cS:m.x=x)(GF:w.heap[hb]? =some (.cells hd la (0,0)))(h0:hd[0]? =some (.slice A n cx))(hl:HS w A n l)(hn:n<=100000)
 (YK:w.heap[gb]? =some (.cells #[.pointer (some ⟨mx.g,0,none⟩)] jB (0,0))) (Bp:w.heap[ob]? =some (.cells #[.slice none 0 0] aH (0,0))) (gQ:gb≠ob) (hhn:hb≠ob) (hAo:∀a,A=some a->a.block≠ob) (hX:∀u,Kept (· =ob) w u->XV u FX x G.D P mx)
 (ns:iy G.D l= []->∀w',Kept Nil w w'->K (.int .i64 0) w')
 (yD:iy G.D l≠ []->∀w' A' c',w'.heap[ob]? =some (.cells #[.slice A' (iy G.D l).length c'] aH (0,0))->bY w' w.heap.size A' (iy G.D l).length c' (iy G.D l)->Kept (· =ob) w w'->K (.int .i64 15) w'):
 bJ prog bC.id #[.pointer (some ⟨hb,0,none⟩),.pointer (some ⟨gb,0,none⟩),.pointer (some ⟨ob,0,none⟩)] w K:=by
 have hlen:=hl.len;have lob:=bt Bp;refine bC.of ?_;unfold bC.W;refine⟨A,n,cx,rp GF h0,?_⟩;refine bC.cP (I:=λs v=>∃(i:Nat) (A':Option Addr) (c':Nat),s=(i:Int)/\i<=n/\v.heap[ob]? =some (.cells #[.slice A' (iy G.D (l.take i)).length c'] aH (0,0))/\bY v w.heap.size A' (iy G.D (l.take i)).length c' (iy G.D (l.take i))/\Kept (· =ob) w v/\(iy G.D (l.take i)= []->Kept Nil w v)) (μ:=λs _=>((n:Int)-s).toNat) (s:=0) ⟨0,none,0,rfl,Nat.zero_le _,Bp,bY.nil _ _,Kept.refl _ _,λ_=>Kept.refl _ _⟩ ?_;rintro s v ⟨i,A',c',rfl,hi,PV,row,kv,Ik⟩;unfold bC.B1;refine Split.dec (λdD=>?_) (λgE=>?_)
 ·have eA:i<n:=by omega
  obtain⟨y,hy⟩:∃y,l[i]? =some y:=⟨_,List.getElem?_eq_getElem (by omega)⟩;have sX:HS v A n l:=hl.aN kv (λa ha e=>hAo a ha e);refine HS.load sX (i:=(i:Int)) (x:=y) (by omega) (by rw [Int.toNat_natCast];exact hy) ?_;intro w3;obtain⟨t1,t2,t3⟩:=ou v y;refine⟨t1,?_⟩;intro w4
  replace t2:w4.heap[v.heap.size]? =some (.cells y.1 ai (0,0)):=t2
  replace t3:Kept Nil v w4:=t3
  clear_value w4;have mD:Kept (· =ob) w w4:=kv.trans t3 (λ_ _ h=>h.elim);refine⟨_,by rw [aI (mD.heap YK gQ)];rfl,y.1,⟨y.2.1,Cells.bX t2⟩,?_⟩;obtain⟨bl,cc,mb,M,GG⟩:=(hX w4 mD).G;refine se GG y λw5 k5=>⟨_,rfl,?_⟩;have xm:=t3.tt k5;have pq:Kept (· =ob) w w5:=mD.trans k5 (λ_ _ h=>h.elim);have Sv:=xm.heap PV (λh=>h);have kQ:bY w5 w.heap.size A' (iy G.D (l.take i)).length c' (iy G.D (l.take i)):=Row.aN row xm (λ_ _ h=>h);have oL:=Ed (D:=G.D) hy;by_cases hm:y∈ids G.D
  ·rw [if_pos hm,List.append_nil]at oL
   refine Split.no (by rw [decide_eq_true hm];rfl) ?_;rw [dO (n:=(i:Int)) (by omega) (by omega)];exact⟨(i:Int)+1,rfl,⟨i+1,A',c',rfl,eA,by rw [oL];exact Sv,by rw [oL];exact kQ,pq,λe=>by rw [oL]at e;exact(Ik e).tt xm⟩,by simp only;omega⟩
  ·rw [if_neg hm]at oL
   refine Split.yes (by rw [decide_eq_false hm];rfl) ⟨_,_,_,by rw [aI Sv];rfl,y.1,⟨y.2.1,Cells.bX (k5.heap t2 (λh=>h))⟩,y.2.1,?_⟩;intro w6;have k6:Kept Nil w5 w6:=(Kept.refl _ _).alloc _;have rr:HS w6 (some ⟨w5.heap.size,0,none⟩) 1 [y]:=jy w5 y;clear_value w6;have Af:bY w6 w.heap.size A' (iy G.D (l.take i)).length c' (iy G.D (l.take i)):=Row.aN kQ k6 (λ_ _ h=>h);have s6:=(pq.trans k6 (λ_ _ h=>h.elim)).size;have K0:=JW G.D (l.take i);rw [List.length_take]at K0;obtain⟨A7,c7,w7,Mm,DY,g7,hA7⟩:=dp aH Af (cx:=1) rr (by omega) s6;have k7:Kept (λj=>bL A'=some j) w6 w7:=Kept.grown (Kept.refl _ _) g7 λj hj _=>hj;have nob:bL A'≠some ob:=λe=>by have:=(Row.bX Af e).1;omega
   have XL:=k7.heap (k6.heap Sv (λh=>h)) nob;refine⟨A7,_,c7,w7,Mm,eI XL (by simp),?_⟩;intro w8;have ad8:w8.heap[ob]? =some (.cells #[.slice A7 ((iy G.D (l.take i)).length+1) c7] aH (0,0)):=dL XL 0 _;have k8:Kept (· =ob) w7 w8:=Kept.setCell (S:=λj=>j=ob) (Kept.refl _ w7) (p:=⟨ob,0,none⟩) (λ_=>rfl) _;clear_value w8;rw [dO (n:=(i:Int)) (by omega) (by omega)];have el:(iy G.D (l.take (i+1))).length=(iy G.D (l.take i)).length+1:=by rw [oL,List.length_append];rfl
   refine⟨(i:Int)+1,rfl,⟨i+1,A7,c7,rfl,eA,by rw [el];exact ad8,?_,?_,λe=>?_⟩,by simp only;omega⟩
   ·rw [el,oL]
    exact Row.aN DY k8 (λj hj e=>by have:=(Row.bX DY hj).1;omega)
   ·exact((pq.trans k6 (λ_ _ h=>h.elim)).trans k7 (λj hj e=>by have:=(Row.bX Af e).1;omega)).tt k8
   ·rw [oL]at e
    simp at e
 ·rw [bg,bC.dJ]
  unfold bC.dA;rw [List.take_of_length_le (by omega)]at PV row Ik;refine⟨_,_,_,by rw [aI PV];rfl,?_⟩;by_cases he:iy G.D l= []
  ·rw [he]
   exact Split.no rfl (ns he v (Ik he))
  ·have:=List.length_pos_iff.2 he
   exact Split.yes (decide_eq_true (by omega)) (yD he v A' c' PV row kv)
theorem K7{x y:HT}{xb:Nat}(C:CV w F c k G m)(hD:G.D.length<=5000)(ER:w.heap[cb]? =some (.cells #[.pointer (some ⟨c,0,none⟩)] dv (0,0)))(I9:w.heap[xb]? =some (.cells x.1 ai (0,0)))
 (hK:∀w' (r:Bool),(r=true↔fU G.D x y)->Kept Nil w w'->K (.bool r) w'):
 bJ prog dR.id #[.agg y.1,.pointer (some ⟨cb,0,none⟩),.pointer (some ⟨xb,0,none⟩)] w K:=by
 refine dR.of ?_;unfold dR.W;intro w1 w2;have k1:Kept Nil w w1:=(Kept.refl _ _).alloc _;have Nz:w1.heap[w.heap.size]? =some (.cells y.1 ai (0,0)):=aO w _;have k2:Kept Nil w1 w2:=(Kept.refl _ _).drew;clear_value w2;have PC:=k2.heap Nz (λh=>h);have mT:=k1.tt k2;clear_value w1;have C2:=C.same mT;have Dx:=mT.heap I9 (λh=>h);refine⟨_,by rw [aI (mT.heap ER (λh=>h))];rfl,x.1,⟨x.2.1,Cells.bX Dx⟩,y.1,⟨y.2.1,Cells.bX PC⟩,?_⟩;refine oO C2 ⟨_,rfl,⟨_,rfl,y.2.1,Cells.bX PC⟩,⟨_,rfl,x.2.1,Cells.bX Dx⟩,?_⟩;obtain⟨mx,X,_⟩:=C2.X;exact kR X hD x y λw3 r hr k3=>⟨r,rfl,hK w3 r hr (mT.tt k3)⟩
theorem Iu{x:HT}{xb:Nat}(C:CV w F c k G m)(hD:G.D.length<=5000)(ER:w.heap[cb]? =some (.cells #[.pointer (some ⟨c,0,none⟩)] dv (0,0)))(I9:w.heap[xb]? =some (.cells x.1 ai (0,0)))(hl:HS w A n l)(hn:n<=100000)
 (hK:∀w' (i:Int),(i>=0↔∃y∈l,fU G.D x y)->Kept Nil w w'->K (.int .i64 i) w'):
 bJ prog jX.id #[.slice A n cx,.func (.func dR.id) #[] #[.pointer (some ⟨cb,0,none⟩),.pointer (some ⟨xb,0,none⟩)]] w K:=by
 have hlen:=hl.len;refine aw.of ?_;unfold aw.W;refine aw.cP (I:=λs v=>∃i:Nat,s=(0,(i:Int))/\i<=n/\Kept Nil w v/\∀y∈l.take i,¬fU G.D x y) (μ:=λs _=>((n:Int)-s.2).toNat) (s:=(0,0)) ⟨0,rfl,Nat.zero_le _,Kept.refl _ _,by simp⟩ ?_;rintro s v ⟨i,rfl,hi,kv,dr⟩;unfold aw.B1;refine Split.dec (λdD=>?_) (λgE=>?_)
 ·simp only at dD
  have eA:i<n:=by omega
  obtain⟨y,hy⟩:∃y,l[i]? =some y:=⟨_,List.getElem?_eq_getElem (by omega)⟩;refine HS.load (hl.same kv) (i:=(i:Int)) (x:=y) (by omega) (by rw [Int.toNat_natCast];exact hy) ?_;refine K7 (C.same kv) hD (kv.heap ER (λh=>h)) (kv.heap I9 (λh=>h)) λw3 r hr k3=>⟨r,rfl,?_⟩;have jH:=kv.tt k3;cases r with
  |true=>exact Split.yes rfl (hK w3 (i:Int) ⟨λ_=>⟨y,List.mem_of_getElem? hy,hr.1 rfl⟩,λ_=>by omega⟩ jH)
  |false=>
   refine Split.no rfl ?_;simp only;rw [dO (n:=(i:Int)) (by omega) (by omega)];refine⟨(0,(i:Int)+1),rfl,⟨i+1,rfl,eA,jH,λz hz e=>?_⟩,by simp only;omega⟩;rcases(bV hy).1 hz with hz|rfl
   ·exact dr z hz e
   ·have:=hr.2 e
    cases this
 ·simp only at gE
  rw [bg,aw.dJ];rw [List.take_of_length_le (by omega)]at dr;exact hK v (-1) ⟨λe=>by omega,λ⟨y,hy,e⟩=>absurd e (dr y hy)⟩ kv
theorem Ol(C:CV w F c k G m)(hD:G.D.length<=5000)(GF:w.heap[hb]? =some (.cells hd la (0,0)))(h0:hd[0]? =some (.slice A n cx))(hl:HS w A n l)(hn:n<=100000)(ER:w.heap[cb]? =some (.cells #[.pointer (some ⟨c,0,none⟩)] dv (0,0)))
 (hK:∀w' e,Kept Nil w w'->(vL G.D l/\e=9\/¬vL G.D l/\e=0)->K (.int .i64 e) w'):
 bJ prog bE.id #[.pointer (some ⟨hb,0,none⟩),.pointer (some ⟨cb,0,none⟩)] w K:=by
 have hlen:=hl.len;refine bE.of ?_;unfold bE.W;refine⟨A,n,cx,rp GF h0,?_⟩;refine bE.cP (I:=λs v=>∃i:Nat,s=(0,(i:Int))/\i<=n/\Kept Nil w v/\∀a∈l.take i,∀b∈l,¬fU G.D a b) (μ:=λs _=>((n:Int)-s.2).toNat) (s:=(0,0)) ⟨0,rfl,Nat.zero_le _,Kept.refl _ _,by simp⟩ ?_;rintro s v ⟨i,rfl,hi,kv,dr⟩;unfold bE.B1;refine Split.dec (λdD=>?_) (λgE=>?_)
 ·simp only at dD
  have eA:i<n:=by omega
  obtain⟨y,hy⟩:∃y,l[i]? =some y:=⟨_,List.getElem?_eq_getElem (by omega)⟩;refine HS.load (hl.same kv) (i:=(i:Int)) (x:=y) (by omega) (by rw [Int.toNat_natCast];exact hy) ?_;intro w3;obtain⟨t1,t2,t3⟩:=ou v y;refine⟨t1,?_⟩;intro w4
  replace t2:w4.heap[v.heap.size]? =some (.cells y.1 ai (0,0)):=t2
  replace t3:Kept Nil v w4:=t3
  clear_value w4;have mD:=kv.tt t3;refine⟨A,n,cx,rp (mD.heap GF (λh=>h)) h0,?_⟩;refine cD.of ?_;unfold cD.W;refine Iu (C.same mD) hD (mD.heap ER (λh=>h)) t2 (hl.same mD) hn λw5 j hj k5=>⟨j,rfl,_,rfl,?_⟩;have pq:=mD.tt k5;by_cases hjp:j>=0
  ·obtain⟨b,hb,mK⟩:=hj.1 hjp
   exact Split.yes (decide_eq_true hjp) (hK w5 9 pq (.inl ⟨⟨y,List.mem_of_getElem? hy,b,hb,mK⟩,rfl⟩))
  ·refine Split.no (decide_eq_false hjp) ?_
   simp only;rw [dO (n:=(i:Int)) (by omega) (by omega)];refine⟨(0,(i:Int)+1),rfl,⟨i+1,rfl,eA,pq,λa ha b hb e=>?_⟩,by simp only;omega⟩;rcases(bV hy).1 ha with ha|rfl
   ·exact dr a ha b hb e
   ·exact hjp (hj.2 ⟨b,hb,e⟩)
 ·simp only at gE
  rw [bg,bE.dJ];rw [List.take_of_length_le (by omega)]at dr;exact hK v 0 kv (.inr ⟨λ⟨a,ha,b,hb,e⟩=>dr a ha b hb e,rfl⟩)
theorem Oj(C:CV w F c k G m)(hT:tm w)(hD:G.D.length<=49)(pJ:k<=1000)(GF:w.heap[hb]? =some (.cells hd la (0,0)))(h0:hd[0]? =some (.slice A n cx))(hl:HS w A n l)(hn:n<=5000)(ER:w.heap[cb]? =some (.cells #[.pointer (some ⟨c,0,none⟩)] dv (0,0)))
 (vP:w.heap[pb]? =some (.cells p.cells fc (0,0))) (yG:l≠ []) (gD:∀x∈l,x∈ids G.D)
 (hK:∀w' e,Kept Nil w w'->(p.mm<((cZ G (cf G l) l).length:Int)/\e=10\/¬p.mm<((cZ G (cf G l) l).length:Int)/\e=0)->K (.int .i64 e) w'):
 bJ prog di.id #[.pointer (some ⟨cb,0,none⟩),.pointer (some ⟨hb,0,none⟩),.pointer (some ⟨pb,0,none⟩)] w K:=by
 have hlen:=hl.len;have m0:lD G.D l=0:=by
  unfold lD;rw [if_neg yG,if_neg (λ⟨x,hx,e⟩=>e (gD x hx))]
 have Ex:cf G l∈ids G.D:=gD _ (kF yG);have m1:lD G.D (cf G l::l)=0:=by
  unfold lD;rw [if_neg (by simp),if_neg];rintro⟨x,hx,e⟩;rcases List.mem_cons.1 hx with rfl|hx
  ·exact e Ex
  ·exact e (gD x hx)
 refine di.of ?_;unfold di.W;refine⟨_,by rw [aI ER];rfl,A,n,cx,rp GF h0,?_⟩;refine pX C hl (by omega) λw1 k1=>⟨_,_,rfl,?_⟩;rw [if_pos m0];intro w2;obtain⟨t1,t2,t3⟩:=ou w1 (cf G l);refine⟨t1,?_⟩;intro w3
 replace t2:w3.heap[w1.heap.size]? =some (.cells (cf G l).1 ai (0,0)):=t2
 replace t3:Kept Nil w1 w3:=t3
 clear_value w3;have jH:=k1.tt t3;refine⟨_,by rw [aI (jH.heap ER (λh=>h))];rfl,_,⟨(cf G l).2.1,Cells.bX t2⟩,A,n,cx,rp (jH.heap GF (λh=>h)) h0,?_⟩;refine xF (C.same jH) (hT.same jH) hD pJ (hl.same jH) hn (λe=>absurd m1 e) λ_ w4 A4 n4 c4 E4 e4 d4 mg4 _ k4 _=>⟨_,_,rfl,?_⟩;have mD:=jH.tt k4;intro w5;obtain⟨u1,u2,u3⟩:=wj w4 (dE k G (cf G l) l) A4 n4 c4 E4 e4 d4;refine⟨u1,?_⟩;intro w6
 replace u2:w6.heap[w4.heap.size]? =some (.cells (dI (dE k G (cf G l) l) A4 n4 c4 E4 e4 d4) bT (0,0)):=u2
 replace u3:Kept Nil w4 w6:=u3
 clear_value w6;have rl:=mD.tt u3;have hn4:=mg4.len;have K1:(dE k G (cf G l) l).merge=cZ G (cf G l) l:=rfl;rw [K1]at hn4;refine⟨A4,n4,c4,(p7 u2).2.2.1,p.mm,by rw [bO,aI (rl.heap vP (λh=>h))];exact p.AS,?_⟩;rw [<-hn4];exact Split.dec (λh=>hK w6 10 rl (.inl ⟨by omega,rfl⟩)) (λh=>hK w6 0 rl (.inr ⟨by omega,rfl⟩))
end
section
variable{w w' v:World}{K:Value->World->Prop}{n cx hb gb ob cb pb:Nat}{A:Option Addr}{l:List HT}{F:Nat->Prop}{c k:Nat}{G:GS}{m:CM}{hd:Array Value}{p:PP}
set_option maxHeartbeats 4000000 in
theorem nu(C:CV w F c k G m)(hT:tm w)(hD:G.D.length<=49)(pJ:k<=1000)(p:PP)(h0:hd[0]? =some (.slice A n cx))(hl:HS w A n l)(hn:n<=1000)
 (hK:∀w' A' n' c',HS w' A' n' (jY p G l).1->Kept Nil w w'->K (.tuple #[.slice A' n' c',.int .i64 (jY p G l).2]) w'):
 bJ prog aT.id #[.agg p.cells,.pointer (some ⟨c,0,none⟩),.agg hd] w K:=by
 have hlen:=hl.len;refine aT.of ?_;unfold aT.W;intro w1 w2 w3 w4;have k1:Kept Nil w w1:=(Kept.refl _ _).alloc _;have Ij:w1.heap[w.heap.size]? =some (.cells p.cells fc (0,0)):=aO w _;have k2:Kept Nil w1 w2:=(Kept.refl _ _).alloc _;have ES:w2.heap[w1.heap.size]? =some (.cells #[.pointer (some ⟨c,0,none⟩)] dv (0,0)):=aO w1 _;have k3:Kept Nil w2 w3:=(Kept.refl _ _).alloc _;have hh3:w3.heap[w2.heap.size]? =some (.cells hd la (0,0)):=aO w2 _;have k4:Kept Nil w3 w4:=(Kept.refl _ _).alloc _;have ho4:w4.heap[w3.heap.size]? =some (.cells #[.slice none 0 0] aH (0,0)):=aO w3 _;clear_value w4;have YG:=k4.heap hh3 (λh=>h);have Qj:=(k3.tt k4).heap ES (λh=>h);have Gw:=((k2.tt k3).tt k4).heap Ij (λh=>h);have mD:=((k1.tt k2).tt k3).tt k4;have s1:=k1.size;have l1:=bt Ij;have l2:=bt ES;have l3:=bt hh3;have l4:=bt ho4;generalize vP:w.heap.size=pb at Gw l1 s1;generalize ER:w1.heap.size=cb at Qj l1 l2 s1;generalize GF:w2.heap.size=hb at YG l2 l3;generalize Bp:w3.heap.size=ob at ho4 l3 l4;clear_value w3;clear_value w2;clear_value w1;have C4:=C.same mD;refine⟨_,by rw [aI Qj];rfl,oO C4 ⟨_,rfl,?_⟩⟩;obtain⟨mx,X4,Qe⟩:=C4.X;refine gB.of (Split.no rfl (Is.mk rfl ⟨_,X4.c0,⟨_,rfl,?_⟩⟩));intro w5;have k5:Kept Nil w4 w5:=(Kept.refl _ _).alloc _;have Og:w5.heap[w4.heap.size]? =some (.cells #[.pointer none] jB (0,0)):=aO w4 _;clear_value w5;have l5:=bt Og;refine⟨eI Og (by simp),?_⟩;intro w6 w7;have hg6:w6.heap[w4.heap.size]? =some (.cells #[.pointer (some ⟨mx.g,0,none⟩)] jB (0,0)):=dL Og 0 _;have k6:Kept (· =w4.heap.size) w5 w6:=Kept.setCell (S:=λj=>j=w4.heap.size) (Kept.refl _ w5) (p:=⟨w4.heap.size,0,none⟩) (λ_=>rfl) _
 have k7:Kept Nil w6 w7:=(Kept.refl _ _).alloc _;have Md:Kept Nil w4 w6:=k5.trans k6 (λj hj e=>by omega);have s46:=Md.size;generalize YK:w4.heap.size=gb at hg6;have hf7:=aO w6 (.cells #[.func (.func dz.id) #[] #[.pointer (some ⟨gb,0,none⟩)],.func (.func dt.id) #[] #[.pointer (some ⟨pb,0,none⟩)],.func (.func dm.id) #[] #[.pointer (some ⟨hb,0,none⟩),.pointer (some ⟨pb,0,none⟩)],.func (.func bC.id) #[] #[.pointer (some ⟨hb,0,none⟩),.pointer (some ⟨gb,0,none⟩),.pointer (some ⟨ob,0,none⟩)],.func (.func bE.id) #[] #[.pointer (some ⟨hb,0,none⟩),.pointer (some ⟨cb,0,none⟩)],.func (.func di.id) #[] #[.pointer (some ⟨cb,0,none⟩),.pointer (some ⟨hb,0,none⟩),.pointer (some ⟨pb,0,none⟩)]] 110);have e7:w7=w6.alloc (.cells #[.func (.func dz.id) #[] #[.pointer (some ⟨gb,0,none⟩)],.func (.func dt.id) #[] #[.pointer (some ⟨pb,0,none⟩)],.func (.func dm.id) #[] #[.pointer (some ⟨hb,0,none⟩),.pointer (some ⟨pb,0,none⟩)],.func (.func bC.id) #[] #[.pointer (some ⟨hb,0,none⟩),.pointer (some ⟨gb,0,none⟩),.pointer (some ⟨ob,0,none⟩)],.func (.func bE.id) #[] #[.pointer (some ⟨hb,0,none⟩),.pointer (some ⟨cb,0,none⟩)],.func (.func di.id) #[] #[.pointer (some ⟨cb,0,none⟩),.pointer (some ⟨hb,0,none⟩),.pointer (some ⟨pb,0,none⟩)]] 110):=by
  subst YK;rfl
 rw [<-e7]at hf7;clear_value w7;clear e7;have l7:=bt hf7;generalize Ii:w6.heap.size=rb at hf7 l7;have Cx:=Md.tt k7;have tX:=mD.tt Cx;clear_value w6;have hp7:=Cx.heap Gw (λh=>h);have QH:∀j,mx.lU m.x j\/m.FX j->j<pb:=λj e=>by
  rw [<-vP];rcases e with e|e
  ·exact C.low j (.inl (.inl (Qe j e)))
  ·exact C.low j (.inr (C.fx j e))
 have hc7:=Cx.heap Qj (λh=>h);have hh7:=Cx.heap YG (λh=>h);have ho7:=Cx.heap ho4 (λh=>h);have YL:=k7.heap hg6 (λh=>h);have C7:=C.same tX;have X7:=X4.same Cx;have l7':=hl.same tX;have J0:=C.low;have hAo:∀a,A=some a->n≠0->a.block<w.heap.size:=λa ha Gy=>by
  obtain⟨y,hy⟩:∃y,l[0]? =some y:=⟨_,List.getElem?_eq_getElem (by omega)⟩;obtain⟨a',AP,h1,_⟩:=hl.at_ 0 y hy;rw [ha]at AP;cases AP;exact h1
 refine aT.cP (I:=λs v=>∃i:Nat,s=(0,(i:Int))/\i<=6/\Kept Nil w7 v/\(2<=i->p.ok)/\(3<=i->¬((l.length<1\/p.mp<(l.length:Int))\/dP l≠l))/\(4<=i->iy G.D l= [])/\(5<=i->¬vL G.D l)/\(6<=i->¬p.mm<((cZ G (cf G l) l).length:Int))) (μ:=λs _=>(6-s.2).toNat) (s:=(0,0)) ⟨0,rfl,by omega,Kept.refl _ _,λh=>by omega,λh=>by omega,λh=>by omega,λh=>by omega,λh=>by omega⟩ ?_;rintro⟨_,_⟩ v ⟨i,e,hi,kv,c2,c3,c4,c5,c6⟩;cases e;unfold aT.B1;have yz:=tX.tt kv;have Tl:=kv.heap hf7 (λh=>h);have PV:=kv.heap ho7 (λh=>h);refine Split.dec (λdD=>?_) (λgE=>?_)
 ·simp only at dD
  have eA:i<6:=by omega
  have kd:oU prog kO=.int .i64:=by kernel_rfl
  have stop:∀ {u:World} {e:Int} {A':Option Addr} {c':Nat},Kept (· =ob) w7 u->u.heap[ob]? =some (.cells #[.slice A' (jY p G l).1.length c'] aH (0,0))->HS u A' (jY p G l).1.length (jY p G l).1->(jY p G l).2=e->e≠0->(∀a,A'=some a->(jY p G l).1.length≠0->a.block≠ob)->
   aT.J1 ⟨ob,0,none⟩ 0 e (some ⟨rb,0,none⟩) 6 6 6 (i:Int) (b7 (aT.e1 ⟨ob,0,none⟩ (some ⟨rb,0,none⟩) 6 6 6) (λs v=>∃i:Nat,s=(0,(i:Int))/\i<=6/\Kept Nil w7 v/\(2<=i->p.ok)/\(3<=i->¬((l.length<1\/p.mp<(l.length:Int))\/dP l≠l))/\(4<=i->iy G.D l= [])/\(5<=i->¬vL G.D l)/\(6<=i->¬p.mm<((cZ G (cf G l) l).length:Int))) (λs _=>(6-s.2).toNat) (0,(i:Int)) v (aT.q1 K)) u:=by
   intro u e A' c' ku hu hs he gQ SA;unfold aT.J1;refine Split.yes (by simpa using gQ) ⟨_,_,_,by rw [aI hu];rfl,eI hu (by simp),?_⟩;intro w9;have hu9:w9.heap[ob]? =some (.cells #[.slice A' (jY p G l).1.length c'] aH (0,0)):=dL hu 0 _;have k9:Kept (· =ob) u w9:=Kept.setCell (S:=λj=>j=ob) (Kept.refl _ u) (p:=⟨ob,0,none⟩) (λ_=>rfl) _;clear_value w9;rw [iD,aT.DH];refine⟨_,_,_,by rw [aI hu9];rfl,?_⟩;rw [<-he];refine hK w9 A' _ c' ?_ ((tX.trans ku (λj hj e=>by omega)).trans k9 (λj hj e=>by omega));by_cases hz:(jY p G l).1.length=0
   ·have e0:=List.eq_nil_of_length_eq_zero hz
    rw [e0];exact HS.nil _ _
   ·exact hs.aN k9 (λa ha e=>SA a ha hz e)
  have FU:∀ {u:World} {e:Int},Kept Nil w7 u->jY p G l=([],e)->e≠0->
   aT.J1 ⟨ob,0,none⟩ 0 e (some ⟨rb,0,none⟩) 6 6 6 (i:Int) (b7 (aT.e1 ⟨ob,0,none⟩ (some ⟨rb,0,none⟩) 6 6 6) (λs v=>∃i:Nat,s=(0,(i:Int))/\i<=6/\Kept Nil w7 v/\(2<=i->p.ok)/\(3<=i->¬((l.length<1\/p.mp<(l.length:Int))\/dP l≠l))/\(4<=i->iy G.D l= [])/\(5<=i->¬vL G.D l)/\(6<=i->¬p.mm<((cZ G (cf G l) l).length:Int))) (λs _=>(6-s.2).toNat) (0,(i:Int)) v (aT.q1 K)) u:=by
   intro u e ku he gQ;have e1:(jY p G l).1= []:=by rw [he]
   refine stop (A':=none) (c':=0) (ku.mono λ_ _ h=>h.elim) (by rw [e1];exact ku.heap ho7 (λh=>h)) (by rw [e1];exact HS.nil _ _) (by rw [he]) gQ (λa ha=>by cases ha)
  have go:∀ {u:World},Kept Nil w7 u->(2<=i+1->p.ok)->(3<=i+1->¬((l.length<1\/p.mp<(l.length:Int))\/dP l≠l))->(4<=i+1->iy G.D l= [])->(5<=i+1->¬vL G.D l)->(6<=i+1->¬p.mm<((cZ G (cf G l) l).length:Int))->
   aT.J1 ⟨ob,0,none⟩ 0 0 (some ⟨rb,0,none⟩) 6 6 6 (i:Int) (b7 (aT.e1 ⟨ob,0,none⟩ (some ⟨rb,0,none⟩) 6 6 6) (λs v=>∃i:Nat,s=(0,(i:Int))/\i<=6/\Kept Nil w7 v/\(2<=i->p.ok)/\(3<=i->¬((l.length<1\/p.mp<(l.length:Int))\/dP l≠l))/\(4<=i->iy G.D l= [])/\(5<=i->¬vL G.D l)/\(6<=i->¬p.mm<((cZ G (cf G l) l).length:Int))) (λs _=>(6-s.2).toNat) (0,(i:Int)) v (aT.q1 K)) u:=by
   intro u ku d2 d3 d4 d5 d6;unfold aT.J1;refine Split.no rfl ?_;rw [dO (n:=(i:Int)) (by omega) (by omega)];exact⟨(0,(i:Int)+1),rfl,⟨i+1,rfl,by omega,ku,d2,d3,d4,d5,d6⟩,by simp only;omega⟩
  refine⟨⟨by omega,by omega⟩,Is.mk rfl ?_⟩;simp-zeta only [Int.toNat_natCast];have Qi:=kv.heap hc7 (λh=>h);have hhv:=kv.heap hh7 (λh=>h);have XA:=kv.heap hp7 (λh=>h);have Qd:=kv.heap YL (λh=>h);have Cv:=C7.same kv;have Xv:=X7.same kv;have lv:=l7'.same kv;have rd:∀(j:Nat) (z:Value),(#[.func (.func dz.id) #[] #[.pointer (some ⟨gb,0,none⟩)],.func (.func dt.id) #[] #[.pointer (some ⟨pb,0,none⟩)],.func (.func dm.id) #[] #[.pointer (some ⟨hb,0,none⟩),.pointer (some ⟨pb,0,none⟩)],.func (.func bC.id) #[] #[.pointer (some ⟨hb,0,none⟩),.pointer (some ⟨gb,0,none⟩),.pointer (some ⟨ob,0,none⟩)],.func (.func bE.id) #[] #[.pointer (some ⟨hb,0,none⟩),.pointer (some ⟨cb,0,none⟩)],.func (.func di.id) #[] #[.pointer (some ⟨cb,0,none⟩),.pointer (some ⟨hb,0,none⟩),.pointer (some ⟨pb,0,none⟩)]]:Array Value)[j]? =some z->v.cell? ((⟨rb,0,none⟩:Addr).add (j*1))=some z:=λj z h=>by rw [Nat.mul_one,bO,aI Tl,Nat.zero_add];exact h
  have hz1:dz.fn.body.isSome=true:=by kernel_rfl
  have hz2:dt.fn.body.isSome=true:=by kernel_rfl
  have hz3:dm.fn.body.isSome=true:=by kernel_rfl
  have hz4:bC.fn.body.isSome=true:=by kernel_rfl
  have hz5:bE.fn.body.isSome=true:=by kernel_rfl
  have hz6:di.fn.body.isSome=true:=by kernel_rfl
  have oE:dz.fn.resultTypes.toList= [kO]:=by kernel_rfl
  have lj:dt.fn.resultTypes.toList= [kO]:=by kernel_rfl
  have yF:dm.fn.resultTypes.toList= [kO]:=by kernel_rfl
  have zE:bC.fn.resultTypes.toList= [kO]:=by kernel_rfl
  have tZ:bE.fn.resultTypes.toList= [kO]:=by kernel_rfl
  have PM:di.fn.resultTypes.toList= [kO]:=by kernel_rfl
  have UU:i=0\/i=1\/i=2\/i=3\/i=4\/i=5:=by omega
  rcases UU with rfl|rfl|rfl|rfl|rfl|rfl
  ·refine⟨.func (.func dz.id) #[] #[.pointer (some ⟨gb,0,none⟩)],rd 0 _ rfl,?_⟩
   rw [kY (fn:=dz.fn) dz.at_ hz1 rfl oE kd];refine dz.of ⟨_,by rw [aI Qd];rfl,Split.no rfl (⟨_,rfl,aT.lR (go kv (λh=>by omega) (λh=>by omega) (λh=>by omega) (λh=>by omega) (λh=>by omega))⟩)⟩
  ·refine⟨.func (.func dt.id) #[] #[.pointer (some ⟨pb,0,none⟩)],rd 1 _ rfl,?_⟩
   rw [kY (fn:=dt.fn) dt.at_ hz2 rfl lj kd];refine Oo XA λw8 k8=>⟨_,rfl,aT.lR ?_⟩;have Kh:=kv.tt k8;by_cases Bn:p.ok
   ·rw [if_neg (λe=>e Bn)]
    exact go Kh (λ_=>Bn) (λh=>by omega) (λh=>by omega) (λh=>by omega) (λh=>by omega)
   ·rw [if_pos Bn]
    exact FU Kh (by unfold jY;rw [if_pos Bn]) (by omega)
  ·refine⟨.func (.func dm.id) #[] #[.pointer (some ⟨hb,0,none⟩),.pointer (some ⟨pb,0,none⟩)],rd 2 _ rfl,?_⟩
   rw [kY (fn:=dm.fn) dm.at_ hz3 rfl yF kd];have Bn:=c2 (by omega);refine On hhv h0 lv (by omega) XA λw8 e k8 he=>⟨_,rfl,aT.lR ?_⟩;have Kh:=kv.tt k8;rcases he with⟨h3,rfl⟩|⟨h3,rfl⟩
   ·exact FU Kh (by unfold jY;rw [if_neg (λe=>e Bn),if_pos h3]) (by omega)
   ·exact go Kh (λ_=>Bn) (λ_=>h3) (λh=>by omega) (λh=>by omega) (λh=>by omega)
  ·refine⟨.func (.func bC.id) #[] #[.pointer (some ⟨hb,0,none⟩),.pointer (some ⟨gb,0,none⟩),.pointer (some ⟨ob,0,none⟩)],rd 3 _ rfl,?_⟩
   rw [kY (fn:=bC.fn) bC.at_ hz4 rfl zE kd];have Bn:=c2 (by omega);have h3:=c3 (by omega);have Io:n≠0:=λe=>h3 (.inl (.inl (by omega)));have hAn:∀a,A=some a->a.block≠ob:=λa ha e=>by have:=hAo a ha Io;omega
   have XS:∀u,Kept (· =ob) v u->XV u m.FX m.x G.D G.P mx:=λu ku=>by
    have CV':Kept (· =ob) w u:=(yz.mono λ_ _ h=>h.elim).tt ku;exact X4.aN ((Cx.tt kv).mono (S':=λj=>j=ob) (λ_ _ h=>h.elim) |>.tt ku) (λj e e'=>by have:=QH j (.inl e);omega) (λj e e'=>by have:=QH j (.inr e);omega)
   refine Om Xv Cv rfl hhv h0 lv (by omega) Qd PV (by omega) (by omega) hAn XS (λhm w8 k8=>⟨_,rfl,aT.lR (go (kv.tt k8) (λ_=>Bn) (λ_=>h3) (λ_=>hm) (λh=>by omega) (λh=>by omega))⟩) λhm w8 A8 c8 ho8 BT k8=>⟨_,rfl,aT.lR ?_⟩;have he:jY p G l=(iy G.D l,15):=by unfold jY;rw [if_neg (λe=>e Bn),if_neg h3,if_pos hm]
   have sv:=kv.size;refine stop (A':=A8) (c':=c8) ((kv.mono λ_ _ h=>h.elim).tt k8) (by rw [he];exact ho8) (by rw [he];exact bY.hs BT) (by rw [he]) (by omega) (λa ha _ e=>?_);have:=(Row.bX BT (k:=a.block) (by rw [ha];rfl)).1;omega
  ·refine⟨.func (.func bE.id) #[] #[.pointer (some ⟨hb,0,none⟩),.pointer (some ⟨cb,0,none⟩)],rd 4 _ rfl,?_⟩
   rw [kY (fn:=bE.fn) bE.at_ hz5 rfl tZ kd];have Bn:=c2 (by omega);have h3:=c3 (by omega);have hm:=c4 (by omega);refine Ol Cv (by omega) hhv h0 lv (by omega) Qi λw8 e k8 he=>⟨_,rfl,aT.lR ?_⟩;have Kh:=kv.tt k8;rcases he with⟨h5,rfl⟩|⟨h5,rfl⟩
   ·exact FU Kh (by unfold jY;rw [if_neg (λe=>e Bn),if_neg h3,if_neg (λe=>e hm),if_pos h5]) (by omega)
   ·exact go Kh (λ_=>Bn) (λ_=>h3) (λ_=>hm) (λ_=>h5) (λh=>by omega)
  ·refine⟨.func (.func di.id) #[] #[.pointer (some ⟨cb,0,none⟩),.pointer (some ⟨hb,0,none⟩),.pointer (some ⟨pb,0,none⟩)],rd 5 _ rfl,?_⟩
   rw [kY (fn:=di.fn) di.at_ hz6 rfl PM kd];have Bn:=c2 (by omega);have h3:=c3 (by omega);have hm:=c4 (by omega);have h5:=c5 (by omega);have yG:l≠ []:=λe=>h3 (.inl (.inl (by rw [e];simp)));refine Oj Cv (hT.same yz) hD pJ hhv h0 lv (by omega) Qi XA yG (rX.1 hm) λw8 e k8 he=>⟨_,rfl,aT.lR ?_⟩;have Kh:=kv.tt k8;rcases he with⟨h6,rfl⟩|⟨h6,rfl⟩
   ·exact FU Kh (by unfold jY;rw [if_neg (λe=>e Bn),if_neg h3,if_neg (λe=>e hm),if_neg h5,if_pos h6]) (by omega)
   ·exact go Kh (λ_=>Bn) (λ_=>h3) (λ_=>hm) (λ_=>h5) (λ_=>h6)
 ·simp only at gE
  rw [bg,aT.dJ];unfold aT.dA;refine⟨eI PV (by simp),?_⟩;intro w9;have hu9:w9.heap[ob]? =some (.cells #[.slice none 0 0] aH (0,0)):=dL PV 0 _;have k9:Kept (· =ob) v w9:=Kept.setCell (S:=λj=>j=ob) (Kept.refl _ v) (p:=⟨ob,0,none⟩) (λ_=>rfl) _;clear_value w9;refine⟨none,0,0,by rw [aI hu9];rfl,?_⟩;have he:jY p G l=([],0):=by unfold jY;rw [if_neg (λe=>e (c2 (by omega))),if_neg (c3 (by omega)),if_neg (λe=>e (c4 (by omega))),if_neg (c5 (by omega)),if_neg (c6 (by omega))]
  have:=hK w9 none 0 0 (by rw [he];exact HS.nil _ _) (yz.trans k9 (λj hj e=>by omega));rw [he]at this;exact this
end
noncomputable def zh:PP:=⟨2,5,10,0,0,0,0,10,10,gu⟩
theorem D6:zh.ok:=by simp [PP.ok,zh]
theorem zX(v:Value):(I3 v)[0]? =some v:=by kernel_rfl
section
variable{r a b:HT}(Sn:r≠a)(Ii:r≠b)(mK:a≠b)
include Ii mK in
theorem k2b:fg [⟨r,[]⟩,⟨a,[r]⟩] b [a]=0/\nP [⟨r,[]⟩,⟨a,[r]⟩] b [a]= [⟨r,[]⟩,⟨a,[r]⟩,⟨b,[a]⟩]:=by
 have h:fg [⟨r,[]⟩,⟨a,[r]⟩] b [a]=0:=by
  unfold fg;rw [if_neg (by simp [ids];exact⟨λe=>Ii e.symm,λe=>mK e.symm⟩),pL,if_neg (by simp),if_neg (by simp [ids])]
 exact⟨h,by unfold nP;rw [if_pos h,pL];rfl⟩
theorem D7{G:GS}(H:jM 2 G)(D:G.D= [⟨r,[]⟩,⟨a,[r]⟩,⟨b,[a]⟩])(dD:dD a b=true):jY zh G [a,b]=([],9)/\jY zh G [b]=([],0):=by
 have mK:fU G.D a b:=.one ⟨⟨b,[a]⟩,by rw [D];simp,rfl,by simp⟩;have ha:a∈ids G.D:=by rw [D];simp [ids]
 have hb:b∈ids G.D:=by rw [D];simp [ids]
 constructor
 ·have hs:dP [a,b]= [a,b]:=wx (by simp [SS,dD])
  have hm:iy G.D [a,b]= []:=rX.2 (by simp [ha,hb]);unfold jY;rw [if_neg (λe=>e D6),if_neg,if_neg (λe=>e hm),if_pos ⟨a,by simp,b,by simp,mK⟩];rintro((e|e)|e)
  ·simp at e
  ·simp [zh]at e
  ·exact e hs
 ·have hs:dP [b]= [b]:=pL b
  have hm:iy G.D [b]= []:=rX.2 (by simp [hb]);unfold jY;rw [if_neg (λe=>e D6),if_neg,if_neg (λe=>e hm),if_neg,if_neg]
  ·have e1:cf G [b]=b:=rfl
   rw [e1,Cl];simp [zh]
  ·rintro⟨x,hx,y,hy,nI⟩
   rw [List.mem_singleton]at hx hy;subst hx hy;exact fU.irrefl H.W _ nI
  ·rintro((e|e)|e)
   ·simp at e
   ·simp [zh]at e
   ·exact e hs
end
section
variable{w w':World}{K:Value->World->Prop}
theorem oh(hK:∀w',Kept Nil w w'->K (.agg zh.cells) w'):bJ prog gm.id #[] w K:=by
 refine gm.of ?_;unfold gm.W;intro w1;have Bs:w1.heap[w.heap.size]? =some (.cells (#[.int .i64 0,.int .i64 0,.int .i64 0,.int .i64 0,.int .i64 0,.int .i64 0,.int .u64 0,.int .i64 0,.int .i64 0]++gu.1) fc (0,0)):=aO w _;have k1:Kept Nil w w1:=(Kept.refl _ _).alloc _;clear_value w1;obtain⟨t1,t2,t3⟩:=hU Bs (cs:=zh.cells) (by rw [zh.size,Array.size_append,gu.2.1];rfl);rw [zh.size]at t1;refine⟨⟨zh.size,zh.one,t1⟩,zh.cells,⟨zh.size,Cells.bX t2⟩,hK _ (k1.trans t3 (λj hj e=>by omega))⟩
set_option maxHeartbeats 2000000 in
theorem Ej(hT:tm w)(hK:∀w',Kept Nil w w'->K (.bool true) w'):bJ prog jo.id #[] w K:=by
 let r:=hx 1 (by omega)
 let a:=hx 2 (by omega)
 let b:=hx 3 (by omega)
 have Sn:r≠a:=Es (by omega);have Ii:r≠b:=Es (by omega);have mK:a≠b:=Es (by omega);have dD:dD a b=true:=by decide
 refine jo.of ?_;unfold jo.W;intro w1 w2 w3;have ka:Kept Nil w w1:=(Kept.refl _ _).alloc _;have oE:w1.heap[w.heap.size]? =some (.cells gu.1 ai (0,0)):=aO w _;have kb:Kept Nil w1 w2:=(Kept.refl _ _).alloc _;have ha2:w2.heap[w1.heap.size]? =some (.cells gu.1 ai (0,0)):=aO w1 _;have kc:Kept Nil w2 w3:=(Kept.refl _ _).alloc _;have qy:w3.heap[w2.heap.size]? =some (.cells gu.1 ai (0,0)):=aO w2 _;clear_value w3;have ha3:=kc.heap ha2 (λh=>h);have yF:=kc.heap (kb.heap oE (λh=>h)) (λh=>h);have jH:=(ka.tt kb).tt kc;have l1:=bt oE;have l2:=bt ha2;have l3:=bt qy;generalize ame:w.heap.size=rb at yF l1;generalize anu:w1.heap.size=ab at ha3 l1 l2;generalize ano:w2.heap.size=bb at qy l2 l3;clear_value w2;clear_value w1;obtain⟨u1,u2,u3⟩:=iZ r yF rfl;refine⟨u1,?_⟩;intro w4
 replace u2:w4.heap[rb]? =some (.cells r.1 ai (0,0)):=u2
 replace u3:Kept (· =rb) w3 w4:=u3
 clear_value w4;obtain⟨v1,v2,v3⟩:=iZ a (u3.heap ha3 (by omega)) rfl;refine⟨v1,?_⟩;intro w5
 replace v2:w5.heap[ab]? =some (.cells a.1 ai (0,0)):=v2
 replace v3:Kept (· =ab) w4 w5:=v3
 clear_value w5;obtain⟨x1,x2,x3⟩:=iZ b (v3.heap (u3.heap qy (by omega)) (by omega)) rfl;refine⟨x1,?_⟩;intro np
 replace x2:np.heap[bb]? =some (.cells b.1 ai (0,0)):=x2
 replace x3:Kept (· =bb) w5 np:=x3
 clear_value np;have hb:=x2;have ha:=x3.heap v2 (by omega);have hr:=x3.heap (v3.heap u2 (by omega)) (by omega);have k:Kept Nil w np:=((jH.trans u3 (λj hj e=>by omega)).trans v3 (λj hj e=>by omega)).trans x3 (λj hj e=>by omega);have hTl:=hT.lt;have s16:=k.size;have lb:=bt hb;have box:∀ {u:World} {S:Nat->Prop},Kept S np u->(∀k,S k->np.heap.size<=k)->u.heap[rb]? =some (.cells r.1 ai (0,0))/\u.heap[ab]? =some (.cells a.1 ai (0,0))/\u.heap[bb]? =some (.cells b.1 ai (0,0)):=λku hS=>
  ⟨ku.heap hr (λe=>by have:=hS _ e;omega),ku.heap ha (λe=>by have:=hS _ e;omega),ku.heap hb (λe=>by have:=hS _ e;omega)⟩
 obtain⟨c1,d1⟩:=k1 Sn;obtain⟨c2,d2⟩:=k2b Ii mK;have H1:=(lM 2 r).add a [r];have H2:=H1.add b [a];have D1:(eZ 2 (fH r) a [r]).D= [⟨r,[]⟩,⟨a,[r]⟩]:=by rw [vc];exact d1
 have D2:(eZ 2 (eZ 2 (fH r) a [r]) b [a]).D= [⟨r,[]⟩,⟨a,[r]⟩,⟨b,[a]⟩]:=by rw [vc,D1];exact d2
 obtain⟨P1,P2⟩:=D7 H2 D2 dD;refine⟨r.1,⟨r.2.1,Cells.bX hr⟩,jI r (k:=2) (by omega) λpI cc q m C hm hq yi=>⟨_,_,rfl,Split.no rfl (Split.no rfl ?_)⟩⟩;obtain⟨b1,b2,b3⟩:=box yi (λ_ h=>h.elim);refine⟨a.1,⟨a.2.1,Cells.bX b2⟩,r.1,⟨r.2.1,Cells.bX b1⟩,r.2.1,?_⟩;intro nQ;have tA:Kept Nil pI nQ:=(Kept.refl _ _).alloc _;have Ot:HS nQ (some ⟨pI.heap.size,0,none⟩) 1 [r]:=jy pI r;clear_value nQ;have Eo:=yi.tt tA;have s24:=Eo.size;refine pY (C.same tA) (hT.same (k.tt Eo)) (λe=>by have:=hm _ (.inl e);omega) (by simp [fH]) (by omega) Ot (by omega) a λsK F2 m2 A2 n2 p2 E2 q2 z2 C2 _ H6 NX _ _ _ _ _=>⟨_,_,rfl,?_⟩;have om2:∀j,m2.own cc j->np.heap.size<=j:=λj e=>(NX j e).elim (hm j) (λh=>by omega);have Pr:Kept (λq=>np.heap.size<=q) np sK:=(Eo.mono (S':=λq=>np.heap.size<=q) (λ_ _ h=>h.elim)).trans H6 (λq _ h=>hm q h);obtain⟨b1,b2,b3⟩:=box Pr (λ_ h=>h);refine⟨b.1,⟨b.2.1,Cells.bX b3⟩,a.1,⟨a.2.1,Cells.bX b2⟩,a.2.1,?_⟩;intro Js;have Pq:Kept Nil sK Js:=(Kept.refl _ _).alloc _;have Zp:HS Js (some ⟨sK.heap.size,0,none⟩) 1 [a]:=jy sK a;clear_value Js;have Kt:=Pr.trans Pq (λ_ _ h=>h.elim);have s31:=Kt.size;refine pY (C2.same Pq) ((hT.same k).aN Kt (λe=>by omega)) (λe=>by have:=om2 _ (.inl e);omega) (by rw [D1];simp) (by omega) Zp (by omega) b λrP F3 m3 A3 n3 p3 E3 q3 z3 C3 _ Bk hm3 _ _ _ _ _=>⟨_,_,rfl,?_⟩;have Ks:Kept (λq=>np.heap.size<=q) np rP:=Kt.trans Bk (λq _ h=>om2 q h);have ZB:tm rP:=(hT.same k).aN Ks (λe=>by omega);have k0:∀ {u:World},Kept Nil rP u->Kept Nil w u:=λku=>k.trans (Ks.trans ku (λ_ _ h=>h.elim)) (λq hq e=>by omega)
 obtain⟨b1,b2,b3⟩:=box Ks (λ_ h=>h);have hD2:(eZ 2 (eZ 2 (fH r) a [r]) b [a]).D.length<=49:=by rw [D2];simp
 generalize eZ 2 (eZ 2 (fH r) a [r]) b [a]=G2 at C3 hD2 P1 P2;have EM:∀ {u:World} {A:Option Addr} {K':Value->World->Prop},Kept Nil rP u->HS u A 2 [a,b]->(∀w' A' n' c',Kept Nil rP w'->K' (.tuple #[.slice A' n' c',.int .i64 9]) w')->bJ prog aT.id #[.agg zh.cells,.pointer (some ⟨cc,0,none⟩),.agg (I3 (.slice A 2 2))] u K':=λku hs hk=>
  nu (C3.same ku) (ZB.same ku) hD2 (by omega) zh (zX _) hs (by omega) λw' A' n' c' _ k'=>by
   rw [P1];exact hk w' A' n' c' (ku.tt k')
 have YZ:∀ {u:World} {A:Option Addr} {K':Value->World->Prop},Kept Nil rP u->HS u A 1 [b]->(∀w' A' n' c',Kept Nil rP w'->K' (.tuple #[.slice A' n' c',.int .i64 0]) w')->bJ prog aT.id #[.agg zh.cells,.pointer (some ⟨cc,0,none⟩),.agg (I3 (.slice A 1 1))] u K':=λku hs hk=>
  nu (C3.same ku) (ZB.same ku) hD2 (by omega) zh (zX _) hs (by omega) λw' A' n' c' _ k'=>by
   rw [P2];exact hk w' A' n' c' (ku.tt k')
 have fin:∀ {u:World},Kept Nil rP u->bJ prog gm.id #[] u λpe qe=>∃re:Array Value,pe=.agg re/\bJ prog cg.id #[.agg re] qe λte ue=>∃ve:Bool,te=.bool ve/\K (.bool ve) ue:=λku=>
  oh λw1 k1=>⟨_,rfl,nt zh λw2 k2=>⟨_,rfl,by rw [decide_eq_true D6];exact hK w2 (k0 ((ku.tt k1).tt k2))⟩⟩
 intro oC;have yh:Kept Nil rP oC:=(Kept.refl _ _).drew;clear_value oC;have Zy:=yh.heap b2 (λh=>h);have Lf:=yh.heap b3 (λh=>h);have half:∀ {va:World},Kept Nil rP va->va.heap[bb]? =some (.cells b.1 ai (0,0))->
  (let be:World:=va.drew;∃ce:Array Value,(ce.size=32/\Cells be (⟨bb,0,none⟩:Addr) ce)/\(bJ prog gm.id #[] be λde ee=>∃fe:Array Value,de=.agg fe/\(∃cs:Array Value,(.agg ce:Value)=.agg cs/\cs.size=32/\Cells ee (⟨bb,0,none⟩:Addr) cs)/\ce.size=32/\(let ge:World:=ee.alloc (.cells (ce.toList++ []).toArray ai);bJ prog aT.id #[.agg fe,.pointer (some ⟨cc,0,none⟩),.agg (I3 (.slice (some (aU ee.heap.size)) 1 1))] ge λie je=>∃ke:Option Addr,∃me ne:Nat,∃oe:Int,ie=.tuple #[.slice ke me ne,.int .i64 oe]/\Split ((9:Int)==(9:Int)) (Split (oe==(0:Int)) (bJ prog gm.id #[] je λpe qe=>∃re:Array Value,pe=.agg re/\bJ prog cg.id #[.agg re] qe λte ue=>∃ve:Bool,te=.bool ve/\K (.bool ve) ue) (K (.bool false) je)) (K (.bool false) je)))/\
    (ce.size=32/\(let xe:World:=be.alloc (.cells (ce.toList++ []).toArray ai);bJ prog gm.id #[] xe λye ze=>∃aj:Array Value,ye=.agg aj/\bJ prog aT.id #[.agg aj,.pointer (some ⟨cc,0,none⟩),.agg (I3 (.slice (some (aU be.heap.size)) 1 1))] ze λbj cj=>∃dj:Option Addr,∃ej fj:Nat,∃gj:Int,bj=.tuple #[.slice dj ej fj,.int .i64 gj]/\Split ((9:Int)==(9:Int)) (Split (gj==(0:Int)) (bJ prog gm.id #[] cj λij jj=>∃kj:Array Value,ij=.agg kj/\bJ prog cg.id #[.agg kj] jj λmj nj=>∃oj:Bool,mj=.bool oj/\K (.bool oj) nj) (K (.bool false) cj)) (K (.bool false) cj)))):=by
  intro va kva ET be;have kbe:Kept Nil va be:=(Kept.refl _ _).drew;clear_value be;have Bk:=kva.tt kbe;have hbe:=kbe.heap ET (λh=>h);refine⟨b.1,⟨b.2.1,Cells.bX hbe⟩,?_,b.2.1,?_⟩
  ·refine oh λee ke=>⟨_,rfl,⟨_,rfl,b.2.1,Cells.bX (ke.heap hbe (λh=>h))⟩,b.2.1,?_⟩
   intro ge;have kge:Kept Nil ee ge:=(Kept.refl _ _).alloc _;have gE:HS ge (some ⟨ee.heap.size,0,none⟩) 1 [b]:=jy ee b;clear_value ge;exact YZ ((Bk.tt ke).tt kge) gE λw' A' n' c' k'=>⟨A',n',c',_,rfl,Split.yes rfl (Split.yes rfl (fin k'))⟩
  ·intro xe
   have kxe:Kept Nil be xe:=(Kept.refl _ _).alloc _;have hxe:HS xe (some ⟨be.heap.size,0,none⟩) 1 [b]:=jy be b;clear_value xe;refine oh λze ke=>⟨_,rfl,?_⟩;exact YZ ((Bk.tt kxe).tt ke) (hxe.same ke) λw' A' n' c' k'=>⟨A',n',c',_,rfl,Split.yes rfl (Split.yes rfl (fin k'))⟩
 refine⟨a.1,⟨a.2.1,Cells.bX Zy⟩,b.1,⟨b.2.1,Cells.bX Lf⟩,?_,a.2.1,b.2.1,?_⟩
 ·refine oh λkr nA=>⟨_,rfl,⟨_,rfl,b.2.1,Cells.bX (nA.heap Lf (λh=>h))⟩,⟨_,rfl,a.2.1,Cells.bX (nA.heap Zy (λh=>h))⟩,a.2.1,b.2.1,?_⟩
  intro tw;have sF:Kept Nil kr tw:=(Kept.refl _ _).alloc _;have afz:HS tw (some ⟨kr.heap.size,0,none⟩) 2 [a,b]:=HS.lay (l:= [a,b]) (t:=ai) (aO kr (.cells (dK [a,b]).toArray ai));clear_value tw;refine EM ((yh.tt nA).tt sF) afz λyf A' n' c' sE=>⟨A',n',c',_,rfl,?_⟩;exact half sE (sE.heap b3 (λh=>h))
 ·intro kr
  have nA:Kept Nil oC kr:=(Kept.refl _ _).alloc _;have Oq:HS kr (some ⟨oC.heap.size,0,none⟩) 2 [a,b]:=HS.lay (l:= [a,b]) (t:=ai) (aO oC (.cells (dK [a,b]).toArray ai));clear_value kr;refine oh λtw sF=>⟨_,rfl,?_⟩;refine EM ((yh.tt nA).tt sF) (Oq.same sF) λyf A' n' c' sE=>⟨A',n',c',_,rfl,?_⟩;exact half sE (sE.heap b3 (λh=>h))
end
section
variable{w w' v:World}{S F FP FR:Nat->Prop}{c r x:Nat}{G:GS}{m:CM}{K:Value->World->Prop}
set_option maxHeartbeats 2000000 in
theorem Fv{A:Option Addr}{n cx:Nat}{l:List DN}(hl:NS w FP A n l)(hn:n<9223372036854775808)(kk:Int)(root:HT)(hT:tm w)
 (ns:∀v,Kept Nil w v->K (.tuple #[.pointer none,.pointer none,.bool false,.bool true]) v)
 (hK:∀v F c m FR r x (k:Nat),kk=(k:Int)->k<=6->agq l 18->mw v F c m FR r x k (AY k root l)->Kept Nil w v->(∀j,m.own c j\/F j\/FR j\/j=r\/j=x->w.heap.size<=j)->K (.tuple #[.pointer (some ⟨c,0,none⟩),.pointer (some ⟨r,0,none⟩),.bool true,.bool true]) v):
 bJ prog aK.id #[.int .i64 kk,.agg root.1,.slice A n cx] w K:=by
 have hlen:=hl.len;refine aK.of ?_;unfold aK.W;intro w1;have k1:Kept Nil w w1:=(Kept.refl _ _).alloc _;have Bs:w1.heap[w.heap.size]? =some (.cells root.1 ai (0,0)):=aO w _;clear_value w1;refine Split.dec (λ_=>ns w1 k1) (λMr=>Split.dec (λ_=>ns w1 k1) (λql=>Split.dec (λ_=>ns w1 k1) (λYd=>?_)));have Yd:n<=18:=by omega
 refine aK.cP (I:=λs v=>v=w1/\∃i:Nat,s=(none,none,false,false,(i:Int))/\i<=n/\∀nd∈l.take i,nd.ps.length<=6) (μ:=λs _=>((n:Int)-s.2.2.2.2).toNat) (s:=(none,none,false,false,0)) ⟨rfl,0,rfl,Nat.zero_le _,by simp⟩ ?_;rintro s v ⟨rfl,i,rfl,hi,dr⟩;unfold aK.B1;refine Split.dec (λjT=>?_) (λgE=>?_)
 ·simp only at jT
  have eA:i<n:=by omega
  obtain⟨nd,fE⟩:∃nd,l[i]? =some nd:=⟨_,List.getElem?_eq_getElem (by omega)⟩;refine(hl.same k1).ps (i:=(i:Int)) (by omega) (by rw [Int.toNat_natCast];exact fE) λpA pn pc qJ _=>?_;have rZ:=qJ.len;refine Split.dec (λyn=>ns v k1) (λhle=>?_);simp only;rw [jG (x:=(i:Int)+1) (by omega) (by omega)];refine⟨(none,none,false,false,(i:Int)+1),rfl,⟨rfl,i+1,rfl,eA,λmd hm=>?_⟩,by simp only;omega⟩;rw [List.take_add_one,fE]at hm;simp only [Option.toList_some,List.mem_append,List.mem_singleton]at hm;rcases hm with hm|rfl
  ·exact dr md hm
  ·omega
 simp only at gE;rw [bg,aK.dJ];unfold aK.dA;rw [List.take_of_length_le (by omega)]at dr;obtain⟨k,rfl⟩:∃k':Nat,kk=(k':Int):=⟨kk.toNat,by omega⟩;have hk6:k<=6:=by omega
 have qJ:∀nd∈l,nd.ps.length<=1000:=λnd h=>by have:=dr nd h;omega
 have hn:=Yd;refine⟨root.1,⟨root.2.1,Cells.bX Bs⟩,?_⟩;refine jI root (by omega) λw2 c q m C hm hq k2=>⟨_,_,rfl,Split.no rfl (Split.no rfl ⟨root.1,⟨root.2.1,Cells.bX (k2.heap Bs (λh=>h))⟩,?_⟩)⟩;refine Ai root k λw3 r x FR R hFR hr hx k3=>⟨_,rfl,?_⟩;have s1:=k1.size;have s2:=k2.size;have jH:=(k1.tt k2).tt k3;have B0:mw w3 (· =q) c m FR r x k (fH root):=⟨C.same k3,R,λj hj=>by
  have gE:w2.heap.size<=j:=by rcases hj with rfl|rfl;exact hr;exact hx
  exact⟨λe=>by have:=C.low j (.inl e);omega,λe=>by have:=C.low j (.inr e);omega⟩,λj hj e=>by have:=hFR j hj;have:=C.low j (.inl e);omega⟩
 refine aK.iY (I:=λs v=>∃(i:Nat) (F:Nat->Prop) (m:CM) (FR:Nat->Prop),s=(none,none,false,false,(i:Int))/\i<=n/\mw v F c m FR r x k ((l.take i).foldl (λG s=>eZ k G s.id s.ps) (fH root))/\Kept Nil w v/\∀j,m.own c j\/F j\/FR j\/j=r\/j=x->w.heap.size<=j) (μ:=λs _=>((n:Int)-s.2.2.2.2).toNat) (s:=(none,none,false,false,0)) ⟨0,(· =q),m,FR,rfl,Nat.zero_le _,B0,jH,λj e=>by
  rcases e with e|e|e|e|e
  ·have:=hm j e;omega
  ·have e:j=q:=e;omega
  ·have:=hFR j e;omega
  ·omega
  ·omega⟩ ?_
 clear B0 hFR hm C R hq k2 k3;rintro s v ⟨i,F,m,FR,rfl,hi,B,kv,EL⟩;unfold aK.B2;refine Split.dec (λdD=>?_) (λgE=>?_)
 ·simp only at dD
  have eA:i<n:=by omega
  obtain⟨nd,fE⟩:∃nd,l[i]? =some nd:=⟨_,List.getElem?_eq_getElem (by omega)⟩;have pw:l[((i:Nat):Int).toNat]? =some nd:=by rw [Int.toNat_natCast];exact fE
  have rZ:=qJ nd (List.mem_of_getElem? fE);have PJ:=Fa (k:=k) (G:=fH root) fE;have hDl:=uU k (l.take i) (fH root);rw [List.length_take]at hDl;have hD1:(fH root).D.length=1:=rfl;generalize hG:(l.take i).foldl (λG s=>eZ k G s.id s.ps) (fH root)=G at B PJ hDl;have hTl:=hT.lt;have pV:=B.low;have sv:=kv.size;have j2:∀ {u:World} {F' FR':Nat->Prop} {m':CM},mw u F' c m' FR' r x k (eZ k G nd.id nd.ps)->Kept Nil w u->(∀j,m'.own c j\/F' j\/FR' j\/j=r\/j=x->w.heap.size<=j)->
   aK.J2 A n cx none none false false (some ⟨c,0,none⟩) (some ⟨r,0,none⟩) (i:Int) (fg G.D nd.id nd.ps) (fg G.D nd.id nd.ps) (b7 (aK.e2 A n cx (some ⟨c,0,none⟩) (some ⟨r,0,none⟩)) (λs v=>∃(i:Nat) (F:Nat->Prop) (m:CM) (FR:Nat->Prop),s=(none,none,false,false,(i:Int))/\i<=n/\mw v F c m FR r x k ((l.take i).foldl (λG s=>eZ k G s.id s.ps) (fH root))/\Kept Nil w v/\∀j,m.own c j\/F j\/FR j\/j=r\/j=x->w.heap.size<=j) (λs _=>((n:Int)-s.2.2.2.2).toNat) (none,none,false,false,(i:Int)) v (aK.q2 K)) u:=by
   intro u F' FR' m' B' ku aeV;unfold aK.J2;refine Split.no (by simp) ?_;rw [dO (n:=(i:Int)) (by omega) (by omega)];refine⟨(none,none,false,false,(i:Int)+1),rfl,⟨i+1,F',m',FR',rfl,eA,?_,ku,aeV⟩,by simp only;omega⟩;rw [PJ];exact B'
  have j1:∀ {u u0:World} {F':Nat->Prop} {m':CM},CV u0 F' c k (eZ k G nd.id nd.ps) m'->Kept (m.own c) v u0->(∀j,m'.own c j->m.own c j\/v.heap.size<=j)->(∀j,F' j->F j\/v.heap.size<=j)->Kept Nil u0 u->
   aK.J1 A n cx none none false false (some ⟨c,0,none⟩) (some ⟨r,0,none⟩) (i:Int) (fg G.D nd.id nd.ps) (b7 (aK.e2 A n cx (some ⟨c,0,none⟩) (some ⟨r,0,none⟩)) (λs v=>∃(i:Nat) (F:Nat->Prop) (m:CM) (FR:Nat->Prop),s=(none,none,false,false,(i:Int))/\i<=n/\mw v F c m FR r x k ((l.take i).foldl (λG s=>eZ k G s.id s.ps) (fH root))/\Kept Nil w v/\∀j,m.own c j\/F j\/FR j\/j=r\/j=x->w.heap.size<=j) (λs _=>((n:Int)-s.2.2.2.2).toNat) (none,none,false,false,(i:Int)) v (aK.q2 K)) u:=by
   intro u u0 F' m' hC k0 nC Ll ku;unfold aK.J1;have acJ:Kept Nil w u0:=kv.trans k0 (λj hj e=>by have:=EL j (.inl e);omega);have Us:Kept Nil w u:=acJ.tt ku;have suv:=k0.size;have suu:=ku.size;intro u1;have HZ:Kept Nil u u1:=(Kept.refl _ _).drew;clear_value u1;have HW:=Us.tt HZ;have s11:=HZ.size;have WY:∀ {t:World},Kept Nil w t->Cells t (((A.get!).add (((i:Nat):Int).toNat*33)).add 0) nd.id.1:=by
    intro t kt;obtain⟨a,pA,pn,pc,rfl,_,_,h4,_,_⟩:=(hl.aN kt (λ_ _ h=>h)).at_ i nd fE;intro j z hj;rw [add_zero,Int.toNat_natCast];exact h4 j z (wH hj)
   have ps1:∃a pA pn pc,A=some a/\HS w pA pn nd.ps/\∀ {t:World},Kept Nil w t->t.cell? ((a.add (((i:Nat):Int).toNat*33)).add 32)=some (.slice pA pn pc):=by
    obtain⟨a,pA,pn,pc,rfl,_,_,h4,h5,_⟩:=hl.at_ i nd fE;exact⟨a,pA,pn,pc,rfl,h5,λkt=>by rw [Int.toNat_natCast];exact kt.cell (h4 32 _ (rV _ _)) (λh=>h)⟩
   obtain⟨a,pA,pn,pc,rfl,EC,tB⟩:=ps1;have Mo:=EC.len;have hb:0<=(i:Int)/\(i:Int)<(n:Int):=⟨by omega,by omega⟩;refine⟨hb,Is.mk rfl ⟨nd.id.1,⟨nd.id.2.1,WY HW⟩,hb,Is.mk rfl ⟨pA,pn,pc,tB HW,?_,?_⟩⟩⟩
   ·obtain⟨hR,TE⟩:=B.after k0 nC Ll hC (ku.tt HZ)
    refine wE hR (by omega) (by omega) (EC.same HW) (by omega) nd.id λt A2 n2 p2 E2 e2 q2 hRt kt NX oN afI=>⟨_,_,rfl,?_⟩;have B':=TE t hRt kt;have st:=kt.size;intro t1;have kt1:Kept Nil t t1:=(Kept.refl _ _).alloc _;have Ja:t1.heap[t.heap.size]? =some (.cells zC bT (0,0)):=aO t _;clear_value t1;obtain⟨z1,z2,z3⟩:=hU Ja (cs:=dI (rK k G nd.id nd.ps) A2 n2 p2 E2 e2 q2) (by rw [bR];rfl);refine⟨⟨bR ..,gv _ _ _ _ _ _ _,λj hj=>z1 j (by rw [bR];exact hj)⟩,?_⟩;have kt2:Kept Nil t (setCells t1 ⟨t.heap.size,0,none⟩ (dI (rK k G nd.id nd.ps) A2 n2 p2 E2 e2 q2).toList 0):=kt1.trans z3 (λj hj e=>by omega);refine aK.sG (j2 (B'.same kt2) (HW.trans (kt.trans kt2 (λ_ _ h=>h.elim)) (λj hj e=>by have:=EL j (.inr (.inr (.inr e)));omega)) λj e=>?_);rcases e with e|e|(e|e)|e
    ·rcases nC j e with e|e
     ·exact EL j (.inl e)
     ·omega
    ·rcases Ll j e with e|e
     ·exact EL j (.inr (.inl e))
     ·omega
    ·exact EL j (.inr (.inr (.inl e)))
    ·omega
    ·exact EL j (.inr (.inr (.inr e)))
   ·intro u2
    have Mb:Kept Nil u1 u2:=(Kept.refl _ _).alloc _;have Dx:u2.heap[u1.heap.size]? =some (.cells zC bT (0,0)):=aO u1 _;clear_value u2;have Nb:=HW.tt Mb;have s22:=Mb.size;refine⟨tB Nb,⟨_,rfl,nd.id.2.1,WY Nb⟩,?_⟩;obtain⟨hR,TE⟩:=B.after k0 nC Ll hC ((ku.tt HZ).tt Mb);refine wE hR (by omega) (by omega) (EC.same Nb) (by omega) nd.id λt A2 n2 p2 E2 e2 q2 hRt kt NX oN afI=>⟨_,_,rfl,?_⟩;have B':=TE t hRt kt;have st:=kt.size;have nrx:∀j,v.heap.size<=j->¬(j=r\/j=x):=λj hj e=>by have:=pV j (.inr (.inr (.inr e)));omega
    have hxt:=kt.heap Dx (nrx _ (by omega));obtain⟨z1,z2,z3⟩:=hU hxt (cs:=dI (rK k G nd.id nd.ps) A2 n2 p2 E2 e2 q2) (by rw [bR];rfl);refine⟨⟨bR ..,gv _ _ _ _ _ _ _,λj hj=>z1 j (by rw [bR];exact hj)⟩,?_⟩;have lo0:∀j,m'.own c j\/F' j->j<u1.heap.size:=λj e=>by have:=hC.low j e;omega
    have B2:mw (setCells t ⟨u1.heap.size,0,none⟩ (dI (rK k G nd.id nd.ps) A2 n2 p2 E2 e2 q2).toList 0) F' c m' (λj=>FR j\/(u2.heap.size<=j/\j<t.heap.size)) r x k (eZ k G nd.id nd.ps):=B'.aN z3 (λj e e'=>by
     have l1:=bt Dx;rcases e with e|e|(e|e)|e
     ·have:=lo0 j (.inl e);omega
     ·have:=lo0 j (.inr e);omega
     ·have:=B.R.lo j e;omega
     ·omega
     ·have:=pV j (.inr (.inr (.inr e)));omega)
    have kut:Kept (λj=>j=r\/j=x) u t:=((HZ.tt Mb).mono λ_ _ h=>h.elim).tt kt;have ak4:Kept (λj=>j=r\/j=x) u _:=kut.trans z3 (λj hj e=>by omega);refine aK.sG (j2 B2 ((Nb.trans kt (λj hj e=>by have:=EL j (.inr (.inr (.inr e)));omega)).trans z3 (λj hj e=>by have:=HW.size;omega)) λj e=>?_)
    ·rcases e with e|e|(e|e)|e
     ·rcases nC j e with e|e
      ·exact EL j (.inl e)
      ·omega
     ·rcases Ll j e with e|e
      ·exact EL j (.inr (.inl e))
      ·omega
     ·exact EL j (.inr (.inr (.inl e)))
     ·omega
     ·exact EL j (.inr (.inr (.inr e)))
  intro w2;have k2:Kept Nil v w2:=(Kept.refl _ _).drew;clear_value w2;have Wg:=kv.tt k2;have sv2:=k2.size;have WY:∀ {t:World},Kept Nil w t->Cells t ((A.get!.add (((i:Nat):Int).toNat*33)).add 0) nd.id.1:=by
   intro t kt;obtain⟨a,pA,pn,pc,rfl,_,_,h4,_,_⟩:=(hl.aN kt (λ_ _ h=>h)).at_ i nd fE;intro j z hj;rw [add_zero,Int.toNat_natCast];exact h4 j z (wH hj)
  obtain⟨a,pA,pn,pc,hA,EC,tB⟩:∃a pA pn pc,A=some a/\HS w pA pn nd.ps/\∀ {t:World},Kept Nil w t->t.cell? ((a.add (((i:Nat):Int).toNat*33)).add 32)=some (.slice pA pn pc):=by
   obtain⟨a,pA,pn,pc,hA,_,_,h4,h5,_⟩:=hl.at_ i nd fE;exact⟨a,pA,pn,pc,hA,h5,λkt=>by rw [Int.toNat_natCast];exact kt.cell (h4 32 _ (rV _ _)) (λh=>h)⟩
  subst hA;have Mo:=EC.len;have hb:0<=(i:Int)/\(i:Int)<(n:Int):=⟨by omega,by omega⟩;have Mx:¬m.SX (Tryz.lG.g 1):=λe=>by have:=EL _ (.inl (.inl e));omega
  refine⟨hb,Is.mk rfl ⟨nd.id.1,⟨nd.id.2.1,WY Wg⟩,hb,Is.mk rfl ⟨pA,pn,pc,tB Wg,?_,?_⟩⟩⟩
  ·refine pY (B.C.same k2) (hT.same Wg) Mx (by omega) (by omega) (EC.same Wg) (by omega) nd.id λu F' m' A1 n1 p1 E1 e1 q1 hC _ ku nC Ll rA rE _ _=>⟨_,_,rfl,?_⟩
   intro u1;have HZ:Kept Nil u u1:=(Kept.refl _ _).alloc _;have Ja:u1.heap[u.heap.size]? =some (.cells zC bT (0,0)):=aO u _;clear_value u1;obtain⟨z1,z2,z3⟩:=hU Ja (cs:=dI (rK k G nd.id nd.ps) A1 n1 p1 E1 e1 q1) (by rw [bR];rfl);refine⟨⟨bR ..,gv _ _ _ _ _ _ _,λj hj=>z1 j (by rw [bR];exact hj)⟩,?_⟩;have Mb:Kept Nil u (setCells u1 ⟨u.heap.size,0,none⟩ (dI (rK k G nd.id nd.ps) A1 n1 p1 E1 e1 q1).toList 0):=HZ.trans z3 (λj hj e=>by omega);have su:=ku.size;refine aK.lR (j1 hC ((k2.mono λ_ _ h=>h.elim).tt ku) (λj e=>(nC j e).imp (λh=>h) (λh=>by omega)) (λj e=>(Ll j e).imp (λh=>h) (λh=>by omega)) Mb)
  ·intro w3
   have k3:Kept Nil w2 w3:=(Kept.refl _ _).alloc _;have wc:w3.heap[w2.heap.size]? =some (.cells zC bT (0,0)):=aO w2 _;clear_value w3;have Ph:=Wg.tt k3;have s23:=k3.size;have l3:=bt wc;refine⟨tB Ph,⟨_,rfl,nd.id.2.1,WY Ph⟩,?_⟩;refine pY (B.C.same (k2.tt k3)) (hT.same Ph) Mx (by omega) (by omega) (EC.same Ph) (by omega) nd.id λu F' m' A1 n1 p1 E1 e1 q1 hC _ ku nC Ll rA rE _ _=>⟨_,_,rfl,?_⟩;have su:=ku.size;have hxu:=ku.heap wc (λe=>by have:=pV _ (.inl e);omega);obtain⟨z1,z2,z3⟩:=hU hxu (cs:=dI (rK k G nd.id nd.ps) A1 n1 p1 E1 e1 q1) (by rw [bR];rfl);refine⟨⟨bR ..,gv _ _ _ _ _ _ _,λj hj=>z1 j (by rw [bR];exact hj)⟩,?_⟩;have no1:∀j,m'.own c j->j≠w2.heap.size:=λj e e'=>by
    rcases nC j e with e|e
    ·have:=pV j (.inl e);omega
    ·omega
   have no2:∀j,F' j->j≠w2.heap.size:=λj e e'=>by
    rcases Ll j e with e|e
    ·have:=pV j (.inr (.inl e));omega
    ·omega
   refine aK.lR (j1 (hC.aN z3 no1 no2) ((((k2.tt k3).mono λ_ _ h=>h.elim).tt ku).trans z3 (λj hj e=>by omega)) (λj e=>(nC j e).imp (λh=>h) (λh=>by omega)) (λj e=>(Ll j e).imp (λh=>h) (λh=>by omega)) (Kept.refl _ _))
 ·simp only at gE
  have:i=n:=by omega
  subst this;rw [bg,aK.lA];rw [List.take_of_length_le (by omega)]at B;exact hK v F c m FR r x k rfl hk6 ⟨dr,by omega⟩ B kv EL
end
def lg(G:GS)(a b:HT):Bool:=gl G b a
def LD(G:GS)(a b:HT):Int:=if a=b then 0 else if gl G a b then 1 else-1
theorem OP{G:GS}{a b:HT}:LD G a b<0↔lg G a b=true:=by
 unfold LD lg;by_cases h:a=b
 ·subst h
  simp [jZ]
 ·rw [if_neg h]
  cases h1:gl G a b
  ·cases h2:gl G b a
   ·exact absurd (ml h1 h2) h
   ·simp
  ·simp [ry h1]
theorem Kb{G:GS}{a b:HT}(h:lg G a b=false)(h':lg G b a=false):a=b:=ml h' h
theorem Rn(G:GS):Sort.SWO (lg G) where
 irrefl:=jZ G
 trans:=λ_ _ _ h1 h2=>mi h2 h1
 ntrans:=λx y z h1 h2=>(Lr G).ntrans z y x h2 h1
section
variable{w w':World}{F:Nat->Prop}{c cc k:Nat}{G:GS}{m:CM}{K:Value->World->Prop}
theorem D9(C:CV w F cc k G m)(jy:w.heap[c]? =some (.cells #[.pointer (some ⟨cc,0,none⟩)] dv (0,0))){x y:HT}(hx:x∈ids G.D)(hy:y∈ids G.D)(hK:∀w',Kept Nil w w'->K (.int .i64 (LD G x y)) w'):
 bJ prog eT.id #[.agg x.1,.agg y.1,.pointer (some ⟨c,0,none⟩)] w K:=by
 refine eT.of ?_;unfold eT.W;intro w1 w2;have k1:Kept Nil w w1:=(Kept.refl _ _).alloc _;have Ja:w1.heap[w.heap.size]? =some (.cells x.1 ai (0,0)):=aO w _;have k2:Kept Nil w1 w2:=(Kept.refl _ _).alloc _;have PC:w2.heap[w1.heap.size]? =some (.cells y.1 ai (0,0)):=aO w1 _;clear_value w2;have Dx:=k2.heap Ja (λh=>h);clear_value w1;have mT:=k1.tt k2;refine⟨x.1,⟨x.2.1,Cells.bX Dx⟩,y.1,⟨y.2.1,Cells.bX PC⟩,⟨x.2.ints,y.2.ints⟩,?_⟩;rw [dQ];by_cases nI:x=y
 ·refine Split.yes (decide_eq_true nI) ?_
  have:=hK w2 mT;unfold LD at this
  rwa [if_pos nI]at this
 refine Split.no (decide_eq_false nI) ?_;intro w3;have k3:Kept Nil w2 w3:=(Kept.refl _ _).drew;clear_value w3;have wc:=k3.heap Dx (λh=>h);have jH:=mT.tt k3;refine⟨_,by rw [aI (jH.heap jy (λh=>h))];rfl,x.1,⟨x.2.1,Cells.bX wc⟩,y.1,⟨y.2.1,Cells.bX (k3.heap PC (λh=>h))⟩,x.1,⟨x.2.1,Cells.bX wc⟩,?_⟩;refine xG (C.same jH) hx hy λw4 k4=>⟨_,rfl,⟨_,rfl,x.2.1,Cells.bX (k4.heap wc (λh=>h))⟩,⟨(if gl G x y then y else x:HT).2.ints,x.2.ints⟩,?_⟩;have hk:=hK w4 (jH.tt k4);unfold LD at hk;rw [if_neg nI]at hk;rw [dQ];cases hg:gl G x y
 ·rw [hg]at hk
  exact Split.yes (decide_eq_true (by simp)) hk
 ·rw [hg]at hk
  exact Split.no (decide_eq_false (by simp;exact λe=>nI e.symm)) hk
end
theorem MR{w:World}{F:Nat->Prop}{c q k:Nat}{G:GS}{m:CM}{B:Nat}{A:Option Addr}{n cx:Nat}{l:List HT}{K:Value->World->Prop}(C:CV w F c k G m)(hq:w.heap[q]? =some (.cells #[.pointer (some ⟨c,0,none⟩)] dv (0,0)))
 (row:bY w B A n cx l) (hn:n<=49) (fE:l.Nodup) (jx:∀x∈l,x∈ids G.D) (qv:∀j,bL A=some j->¬m.own c j/\¬F j/\j≠q)
 (hK:∀l' w',yZ G l'->(∀x,x∈l'↔x∈l)->bY w' B A n cx l'->Kept (λj=>bL A=some j) w w'->K (.tuple #[]) w'):
 bJ prog gw.id #[.slice A n cx,.func (.func eT.id) #[] #[.pointer (some ⟨q,0,none⟩)]] w K:=by
 let Z:L4:=⟨false,q,lg G,λx=>x∈ids G.D,λj=>(m.own c j\/F j)\/j=q,λu=>CV u F c k G m/\u.heap[q]? =some (.cells #[.pointer (some ⟨c,0,none⟩)] dv (0,0)),
  λh hk hS=>⟨h.1.aN hk (λj hj=>hS j (.inl (.inl hj))) (λj hj=>hS j (.inl (.inr hj))),hk.heap h.2 (hS q (.inr rfl))⟩,λh j hj=>hj.elim (h.1.low j) (λe=>by rw [e];exact bt h.2),λh hx hy hK=>D9 h.1 h.2 hx hy λw' k'=>hK _ w' k' OP,Rn G,Kb⟩
 exact O5 (Z:=Z) ⟨C,hq⟩ row hn fE jx (λj hj e=>e.elim (λe=>e.elim (qv j hj).1 (qv j hj).2.1) (qv j hj).2.2) hK
def Dp(G:GS)(s t:HT):Prop:=t=s\/fU G.D t s\/gl G t s=false
noncomputable def nH(G:GS)(s:HT)(l:List HT):List HT:=l.filter λt=> @decide (¬Dp G s t) (Classical.propDecidable _)
theorem zn{G:GS}{s x:HT}{l:List HT}:x∈nH G s l↔x∈l/\¬Dp G s x:=by unfold nH;simp
theorem sS{G:GS}{s x:HT}{l:List HT}:nH G s (l++ [x])=nH G s l++(@ite _ (Dp G s x) (Classical.propDecidable _) [] [x]):=by
 unfold nH;rw [List.filter_append]
 congr 1
 by_cases h:Dp G s x<;>simp [h]
theorem xi{G:GS}{s:HT}{l:List HT}(h:∀x∈l,¬Dp G s x):nH G s l=l:=by
 unfold nH;rw [List.filter_eq_self];intro x hx;simp [h x hx]
structure FE(w:World)(F:Nat->Prop)(c k:Nat)(G:GS)(m:CM)(sb xb cb:Nat)(s:HT):Prop where
 C:CV w F c k G m
 sb:w.heap[sb]? =some (.cells s.1 ai (0,0))
 xb:w.heap[xb]? =some (.cells #[.pointer (some ⟨m.x,0,none⟩)] fD (0,0))
 cb:w.heap[cb]? =some (.cells #[.pointer (some ⟨c,0,none⟩)] dv (0,0))
section
variable{w w':World}{B n cx:Nat}{F:Nat->Prop}{c k sb xb cb:Nat}{G:GS}{m:CM}{s t:HT}{A:Option Addr}{l:List HT}{K:Value->World->Prop}
theorem FE.same(h:FE w F c k G m sb xb cb s)(hk:Kept Nil w w'):FE w' F c k G m sb xb cb s:=⟨h.C.same hk,hk.heap h.sb (λh=>h),hk.heap h.xb (λh=>h),hk.heap h.cb (λh=>h)⟩
theorem wM(h:FE w F c k G m sb xb cb s)(hD:G.D.length<=5000)(ht:t∈ids G.D)(hs:s∈ids G.D)(hK:∀w' (r:Bool),(r=true↔Dp G s t)->Kept Nil w w'->K (.bool r) w'):
 bJ prog dX.id #[.agg t.1,.pointer (some ⟨sb,0,none⟩),.pointer (some ⟨xb,0,none⟩),.pointer (some ⟨cb,0,none⟩)] w K:=by
 refine dX.of ?_;unfold dX.W;intro w1 w2;have k1:Kept Nil w w1:=(Kept.refl _ _).alloc _;have Ja:w1.heap[w.heap.size]? =some (.cells t.1 ai (0,0)):=aO w _;have k2:Kept Nil w1 w2:=(Kept.refl _ _).drew;clear_value w2;have Dx:=k2.heap Ja (λh=>h);clear_value w1;have mT:=k1.tt k2;have h2:=h.same mT;refine⟨t.1,⟨t.2.1,Cells.bX Dx⟩,s.1,⟨s.2.1,Cells.bX h2.sb⟩,⟨t.2.ints,s.2.ints⟩,?_⟩;rw [dQ];by_cases Mk:t=s
 ·exact Split.yes (decide_eq_true Mk) (hK w2 true ⟨λ_=>.inl Mk,λ_=>rfl⟩ mT)
 refine Split.no (decide_eq_false Mk) ⟨_,by rw [aI h2.xb];rfl,t.1,⟨t.2.1,Cells.bX Dx⟩,s.1,⟨s.2.1,Cells.bX h2.sb⟩,?_⟩;obtain⟨mx,X,_⟩:=h2.C.X;refine kR X hD t s λw3 r hr k3=>⟨r,rfl,?_⟩;have jH:=mT.tt k3;have h3:=h2.same k3;have wc:=k3.heap Dx (λh=>h);cases r with
 |true=>exact Split.yes rfl (hK w3 true ⟨λ_=>.inr (.inl (hr.1 rfl)),λ_=>rfl⟩ jH)
 |false=>
  have Im:¬fU G.D t s:=λe=>by have:=hr.2 e;cases this
  refine Split.no rfl ⟨_,by rw [aI h3.cb];rfl,t.1,⟨t.2.1,Cells.bX wc⟩,s.1,⟨s.2.1,Cells.bX h3.sb⟩,t.1,⟨t.2.1,Cells.bX wc⟩,?_⟩;refine xG h3.C ht hs λw4 k4=>⟨_,rfl,⟨_,rfl,t.2.1,Cells.bX (k4.heap wc (λh=>h))⟩,⟨(if gl G t s then s else t:HT).2.ints,t.2.ints⟩,?_⟩;rw [dQ];refine hK w4 _ ?_ (jH.tt k4);rw [decide_eq_true_iff];unfold Dp;cases hg:gl G t s
  ·simp
  ·simp only [if_true]
   constructor
   ·intro e;exact absurd e.symm Mk
   ·rintro(e|e|e)
    ·exact absurd e Mk
    ·exact absurd e Im
    ·cases e
theorem HK(h:FE w F c k G m sb xb cb s)(hD:G.D.length<=5000)(hs:s∈ids G.D)(hl:HS w A n l)(hn:n<=100000)(gD:∀x∈l,x∈ids G.D)
 (hK:∀w' (i:Int),((i= -1/\∀x∈l,¬Dp G s x)\/∃j:Nat,i=(j:Int)/\j<n/\(∀x∈l.take j,¬Dp G s x)/\∃x,l[j]? =some x/\Dp G s x)->Kept Nil w w'->K (.int .i64 i) w'):
 bJ prog jX.id #[.slice A n cx,.func (.func dX.id) #[] #[.pointer (some ⟨sb,0,none⟩),.pointer (some ⟨xb,0,none⟩),.pointer (some ⟨cb,0,none⟩)]] w K:=by
 have hlen:=hl.len;refine aD.of ?_;unfold aD.W;refine aD.cP (I:=λs' v=>∃i:Nat,s'=(0,(i:Int))/\i<=n/\Kept Nil w v/\∀y∈l.take i,¬Dp G s y) (μ:=λs' _=>((n:Int)-s'.2).toNat) (s:=(0,0)) ⟨0,rfl,Nat.zero_le _,Kept.refl _ _,by simp⟩ ?_;rintro s' v ⟨i,rfl,hi,kv,dr⟩;unfold aD.B1;refine Split.dec (λdD=>?_) (λgE=>?_)
 ·simp only at dD
  have eA:i<n:=by omega
  obtain⟨y,hy⟩:∃y,l[i]? =some y:=⟨_,List.getElem?_eq_getElem (by omega)⟩;refine HS.load (hl.same kv) (i:=(i:Int)) (x:=y) (by omega) (by rw [Int.toNat_natCast];exact hy) ?_;refine wM (h.same kv) hD (gD y (List.mem_of_getElem? hy)) hs λw3 r hr k3=>⟨r,rfl,?_⟩;have jH:=kv.tt k3;cases r with
  |true=>exact Split.yes rfl (hK w3 (i:Int) (.inr ⟨i,rfl,eA,dr,y,hy,hr.1 rfl⟩) jH)
  |false=>
   refine Split.no rfl ?_;simp only;rw [dO (n:=(i:Int)) (by omega) (by omega)];refine⟨(0,(i:Int)+1),rfl,⟨i+1,rfl,eA,jH,λz hz e=>?_⟩,by simp only;omega⟩;rcases(bV hy).1 hz with hz|rfl
   ·exact dr z hz e
   ·have:=hr.2 e
    cases this
 ·simp only at gE
  rw [bg,aD.dJ];rw [List.take_of_length_le (by omega)]at dr;exact hK v (-1) (.inl ⟨rfl,dr⟩) kv
set_option maxHeartbeats 1000000 in
theorem Ea(h:∀u,Kept (λj=>bL A=some j) w u->FE u F c k G m sb xb cb s)(hD:G.D.length<=5000)(hs:s∈ids G.D)(row:bY w B A n cx l)(hn:n<=100000)(gD:∀x∈l,x∈ids G.D)
 (hK:∀w',bY w' B A (nH G s l).length cx (nH G s l)->Kept (λj=>bL A=some j) w w'->K (.slice A (nH G s l).length cx) w'):
 bJ prog mO.id #[.slice A n cx,.func (.func dX.id) #[] #[.pointer (some ⟨sb,0,none⟩),.pointer (some ⟨xb,0,none⟩),.pointer (some ⟨cb,0,none⟩)]] w K:=by
 have hlen:=row.len;refine ax.of ?_;unfold ax.W;refine HK (h w (Kept.refl _ _)) hD hs (bY.hs row) hn gD λw1 i hi k1=>⟨i,rfl,?_⟩;have nv:=Row.aN row k1 (λ_ _ h=>h);have kA:Kept (λj=>bL A=some j) w w1:=k1.mono λ_ _ h=>h.elim;rcases hi with⟨rfl,dr⟩|⟨j,rfl,hjn,dr,y,hy,aeb⟩
 ·refine Split.yes rfl ?_
  have e:=xi dr;have:=hK w1 (by rw [e,hlen];exact nv) kA;rw [e,hlen]at this;exact this
 refine Split.no (beq_eq_false_iff_ne.2 (by omega)) ?_;obtain⟨b,rfl⟩:=Row.some row (by omega);have Ix:=bY.cap row;rw [dO (n:=(j:Int)) (by omega) (by omega)];have st0:nH G s (l.take (j+1))=l.take j:=by
  rw [List.take_add_one,hy];show nH G s (l.take j++ [y])=_
  rw [sS,xi dr,if_pos aeb,List.append_nil]
 refine ax.cP (I:=λs' v=>∃(p q:Nat) (l':List HT),s'=((p:Int),(q:Int))/\p<q/\q<=n/\bY v B (some ⟨b,0,none⟩) n cx l'/\l'.take p=nH G s (l.take q)/\l'.drop q=l.drop q/\Kept (λj=>bL (some ⟨b,0,none⟩)=some j) w v) (μ:=λs' _=>((n:Int)-s'.2).toNat) (s:=((j:Int),(j:Int)+1))
  ⟨j,j+1,l,rfl,by omega,by omega,nv,st0.symm,rfl,kA⟩ ?_
 rintro s' v ⟨p,q,l',rfl,hpq,hqn,rv,we,Mu,kv⟩;have zG:=rv.len;unfold ax.B1;refine Split.dec (λdD=>?_) (λgE=>?_)
 ·simp only at dD
  have Jc:q<n:=by omega
  obtain⟨x,hx⟩:∃x,l[q]? =some x:=⟨_,List.getElem?_eq_getElem (by omega)⟩;have UG:l'[q]? =some x:=by
   have h:=congrArg (λm:List HT=>m[0]?) Mu;simp only [List.getElem?_drop,Nat.add_zero]at h;rw [h,hx]
  refine HS.load (bY.hs rv) (i:=(q:Int)) (x:=x) (by omega) (by rw [Int.toNat_natCast];exact UG) ?_;intro w3;obtain⟨t1,t2,t3⟩:=ou v x;refine⟨t1,?_⟩;intro w4
  replace t2:w4.heap[v.heap.size]? =some (.cells x.1 ai (0,0)):=t2
  replace t3:Kept Nil v w4:=t3
  clear_value w4;have qH:=kv.trans t3 (λ_ _ h=>h.elim);refine⟨x.1,⟨x.2.1,Cells.bX t2⟩,?_⟩;refine wM (h w4 qH) hD (gD x (List.mem_of_getElem? hx)) hs λw5 r hr k5=>⟨r,rfl,?_⟩;have xm:=qH.trans k5 (λ_ _ h=>h.elim);have r5:bY w5 B (some ⟨b,0,none⟩) n cx l':=Row.aN rv (t3.tt k5) (λ_ _ h=>h);have EM:l'.drop (q+1)=l.drop (q+1):=by
   have h:=congrArg (λm:List HT=>m.drop 1) Mu;simpa only [List.drop_drop]using h
  have htq:l.take (q+1)=l.take q++ [x]:=by rw [List.take_add_one,hx];rfl
  cases r with
  |true=>
   refine Split.no rfl ?_;simp only;rw [dO (n:=(q:Int)) (by omega) (by omega)];refine⟨((p:Int),(q:Int)+1),rfl,⟨p,q+1,l',rfl,by omega,by omega,r5,?_,EM,xm⟩,by simp only;omega⟩;rw [htq,sS,if_pos (hr.1 rfl),List.append_nil];exact we
  |false=>
   have ns:¬Dp G s x:=λe=>by have:=hr.2 e;cases this
   refine Split.yes rfl ⟨x.1,⟨x.2.1,Cells.bX (k5.heap t2 (λh=>h))⟩,⟨by omega,by omega⟩,Is.mk rfl ⟨⟨x.2.1,x.2.one,λi hi=>?_⟩,?_⟩⟩
   ·simp only
    rw [Int.toNat_natCast,bO,Nat.zero_add];exact bY.MH r5 (by omega) i hi
   intro w6;have e6:w6=setCells w5 ⟨b,p*32,none⟩ x.1.toList 0:=by
    show setCells w5 ((⟨b,0,none⟩:Addr).add ((p:Int).toNat*32)) x.1.toList 0=_
    rw [Int.toNat_natCast,bO,Nat.zero_add]
   have r6:bY w6 B (some ⟨b,0,none⟩) n cx (l'.set p x):=by rw [e6];exact bY.setAt r5 (by omega) x
   have k6:Kept (λj=>bL (some ⟨b,0,none⟩)=some j) w5 w6:=by
    rw [e6];exact(hZ (b:=b) x.1.toList w5 (p*32) 0).mono λj _ e=>by subst e;rfl
   clear_value w6;simp only;rw [dO (n:=(q:Int)) (by omega) (by omega),dO (n:=(p:Int)) (by omega) (by omega)];refine⟨((p:Int)+1,(q:Int)+1),rfl,⟨p+1,q+1,l'.set p x,rfl,by omega,by omega,r6,?_,?_,xm.tt k6⟩,by simp only;omega⟩
   ·rw [htq,sS,if_neg ns,<-we,List.take_add_one]
    rw [List.take_set_of_le (Nat.le_refl _),List.getElem?_set_self (by omega)];rfl
   ·rw [List.drop_set_of_lt (by omega)]
    exact EM
 ·simp only at gE
  have Xw:q=n:=by omega
  subst Xw;rw [List.take_of_length_le (l:=l) (by omega)]at we;rw [bg,ax.dJ];unfold ax.dA;refine⟨⟨by omega,by omega⟩,?_⟩;rw [Int.toNat_natCast];rw [if_neg (show ¬cx=p by omega)];obtain⟨w6,Sh,r6,k6⟩:=qS rv (k:=p) (by omega) 0 (A:=(some (⟨b,0,none⟩:Addr)).map (·.add (p*32))) (cx:=cx-p) (λ_=>by simp [bO]);refine⟨_,w6,Sh,⟨by omega,by omega⟩,?_⟩;rw [we]at r6;have rZ:(nH G s l).length=p:=by rw [<-we,List.length_take];omega
  have ea:(if cx=0 then some (⟨b,0,none⟩:Addr)else(some (⟨b,0,none⟩:Addr)).map (·.add (0*32)))=some ⟨b,0,none⟩:=by
   split
   ·rfl
   ·simp [add_zero]
  rw [ea,Nat.sub_zero,Nat.sub_zero];have:=hK w6 (by rw [rZ];exact r6) (kv.tt (k6.mono λj _ e=>by subst e;rfl));rw [rZ]at this;exact this
end
def FG(G:GS)(s:HT)(done:List HT)(z:HT):Prop:=¬Dp G s z/\z∉done
def tq(G:GS)(s:HT)(done lf:List HT)(b:Int)(i:Nat):Prop:=
 (b= -1/\∀z∈lf.take i,¬FG G s done z)\/∃(q:Nat) (y:HT),b=(q:Int)/\lf[q]? =some y/\FG G s done y/\∀z∈lf.take i,FG G s done z->z=y\/gl G z y=true
theorem tq.skip{G:GS}{s t:HT}{done lf:List HT}{b:Int}{i:Nat}(h:tq G s done lf b i)(ht:lf[i]? =some t)(hn:¬FG G s done t):tq G s done lf b (i+1):=by
 rcases h with⟨e,h⟩|⟨q,y,e,h1,h2,h3⟩
 ·refine .inl ⟨e,λz hz=>?_⟩
  rcases(bV ht).1 hz with hz|rfl
  ·exact h z hz
  ·exact hn
 ·refine .inr ⟨q,y,e,h1,h2,λz hz hc=>?_⟩
  rcases(bV ht).1 hz with hz|rfl
  ·exact h3 z hz hc
  ·exact absurd hc hn
section
variable{w w':World}{FR:Nat->Prop}{r x k:Nat}{G:GS}{p:PP}{s:HT}{L:List HT}{K:Value->World->Prop}
set_option maxHeartbeats 4000000 in
theorem uH(R:R3 w FR r x k G)(hD:G.D.length<=49)(pJ:k<=1000)(p:PP)(hp:p.ok)(hs:s∈ids G.D)(hL:yZ G L)(hLl:L.length<=49)(hm:∀z,z∈L↔z∈nE G.D/\¬Dp G s z)
 (hK:∀w' A c,bY w' w.heap.size A (dP (dZ G s p.mp.toNat p.mm.toNat [s] L)).length c (dP (dZ G s p.mp.toNat p.mm.toNat [s] L))->Kept Nil w w'->K (.slice A (dP (dZ G s p.mp.toNat p.mm.toNat [s] L)).length c) w'):
 bJ prog bp.id #[.agg p.cells,.pointer (some ⟨r,0,none⟩),.agg s.1] w K:=by
 have W:=R.iN.W;obtain⟨_,⟨SE,SD⟩,⟨SH,SF⟩,_⟩:=hp;refine bp.of ?_;unfold bp.W;intro w1 w2;have k1:Kept Nil w w1:=(Kept.refl _ _).alloc _;have Ij:w1.heap[w.heap.size]? =some (.cells p.cells fc (0,0)):=aO w _;have k2:Kept Nil w1 w2:=(Kept.refl _ _).alloc _;have zD:w2.heap[w1.heap.size]? =some (.cells s.1 ai (0,0)):=aO w1 _;have PT:=k2.heap Ij (λh=>h);clear_value w2;have mT:=k1.tt k2;have R2:=R.same mT;refine Is.mk rfl ⟨_,R2.c1,Is.mk rfl ?_⟩;rw [add_zero];have Sc:(nE G.D).length<=G.D.length:=mP _ _;have yE:∀z∈nE G.D,z∈ids G.D:=λz hz=>(iX.1 hz).1;refine JO R2.X.gr W (by omega) λAt ct w3 VC k3=>⟨At,_,ct,rfl,?_⟩;generalize hT:nE G.D=lf at VC Sc yE hm;have jH:=mT.tt k3;have vy:=k3.heap zD (λh=>h);have KW:=k3.heap PT (λh=>h);have oL:=bY.hs VC;refine⟨s.1,⟨s.2.1,Cells.bX vy⟩,s.2.1,?_⟩;intro w4;have k4:Kept Nil w3 w4:=(Kept.refl _ _).alloc _;have lh:bY w4 w3.heap.size (some ⟨w3.heap.size,0,none⟩) 1 1 [s]:=FZ w3 s (Nat.le_refl _);clear_value w4;have hLn:=hL.nodup;have ZL:∀z∈L,z∈ids G.D:=λz hz=>yE z ((hm z).1 hz).1;refine bp.cP (I:=λs' v=>∃(Ao:Option Addr) (co:Nat) (out:List HT) (Ad:Option Addr) (cd j:Nat),s'=(none,0,0,Ao,out.length,co,Ad,j,cd)/\j<=L.length/\bY v w3.heap.size Ao out.length co out/\bY v w3.heap.size Ad j cd (L.take j)/\(∀q,bL Ad=some q->bL Ao≠some q)/\dZ G s p.mp.toNat p.mm.toNat out (L.drop j)=dZ G s p.mp.toNat p.mm.toNat [s] L/\(∀z∈out,z∈ids G.D)/\out.length<=j+1/\Kept Nil w3 v)
  (μ:=λs' _=>L.length-s'.2.2.2.2.2.2.2.1) (s:=(none,0,0,some ⟨w3.heap.size,0,none⟩,1,1,none,0,0)) ⟨_,1,[s],none,0,0,rfl,Nat.zero_le _,lh,bY.nil _ _,(λq hq=>by cases hq),rfl,(λz hz=>by rw [List.mem_singleton.1 hz];exact hs),(by simp),k4⟩ ?_
 rintro s' v ⟨Ao,co,out,Ad,cd,j,rfl,hj,ro,rd,Qv,zI,gD,hol,kv⟩;unfold bp.B1;have EN:=bY.hs rd;have vA:=EN.len;generalize Qg:L.take j=done at rd EN vA;refine bp.iY (I:=λs' u=>∃(i:Nat) (b:Int),s'=(b,(i:Int))/\i<=lf.length/\Kept Nil v u/\tq G s done lf b i) (μ:=λs' _=>((lf.length:Int)-s'.2).toNat) (s:=(-1,0)) ⟨0,-1,rfl,Nat.zero_le _,Kept.refl _ _,.inl ⟨rfl,by simp⟩⟩ ?_;rintro s' u ⟨i,b,rfl,hi,ku,zK⟩;unfold bp.B2;have UB:=kv.tt ku;refine Split.dec (λdD=>?_) (λgE=>?_)
 ·simp only at dD
  simp-zeta only;have eA:i<lf.length:=by omega
  obtain⟨t,ht⟩:∃t,lf[i]? =some t:=⟨_,List.getElem?_eq_getElem eA⟩;have NC:=yE t (List.mem_of_getElem? ht);refine HS.load (oL.same UB) (i:=(i:Int)) (x:=t) (by omega) (by rw [Int.toNat_natCast];exact ht) ?_;intro w5;obtain⟨t1,t2,t3⟩:=ou u t;refine⟨t1,?_⟩;intro w6 w7
  replace t2:w6.heap[u.heap.size]? =some (.cells t.1 ai (0,0)):=t2
  replace t3:Kept Nil u w6:=t3
  have k7:Kept Nil w6 w7:=(Kept.refl _ _).drew;clear_value w7;have Rv:=ku.tt (t3.tt k7);have Le:=k7.heap t2 (λh=>h);clear_value w6;have sE:=kv.tt Rv;have hs7:=sE.heap vy (λh=>h);refine⟨t.1,⟨t.2.1,Cells.bX Le⟩,s.1,⟨s.2.1,Cells.bX hs7⟩,⟨t.2.ints,s.2.ints⟩,?_⟩;rw [dQ,dO (n:=(i:Int)) (by omega) (by omega)];have next:∀ {u':World} {b':Int},Kept Nil v u'->tq G s done lf b' (i+1)->b7 (bp.e2 (some ⟨r,0,none⟩) ⟨w.heap.size,0,none⟩ ⟨w1.heap.size,0,none⟩ none 0 0 At lf.length ct Ao out.length co Ad j cd) (λs' u=>∃(i:Nat) (b:Int),s'=(b,(i:Int))/\i<=lf.length/\Kept Nil v u/\tq G s done lf b i) (λs' _=>((lf.length:Int)-s'.2).toNat) (b,(i:Int)) u (bp.q2 (b7 (bp.e1 (some ⟨r,0,none⟩) ⟨w.heap.size,0,none⟩ ⟨w1.heap.size,0,none⟩ At lf.length ct) (λs' v=>∃(Ao:Option Addr) (co:Nat) (out:List HT) (Ad:Option Addr) (cd j:Nat),s'=(none,0,0,Ao,out.length,co,Ad,j,cd)/\j<=L.length/\bY v w3.heap.size Ao out.length co out/\bY v w3.heap.size Ad j cd (L.take j)/\(∀q,bL Ad=some q->bL Ao≠some q)/\dZ G s p.mp.toNat p.mm.toNat out (L.drop j)=dZ G s p.mp.toNat p.mm.toNat [s] L/\(∀z∈out,z∈ids G.D)/\out.length<=j+1/\Kept Nil w3 v) (λs' _=>L.length-s'.2.2.2.2.2.2.2.1) (none,0,0,Ao,out.length,co,Ad,j,cd) v (bp.q1 K))) .normal [(1,.pointer (some ⟨r,0,none⟩)),(3,.pointer (some ⟨w.heap.size,0,none⟩)),(5,.pointer (some ⟨w1.heap.size,0,none⟩)),(6,.slice none 0 0),(7,.slice At lf.length ct),(8,.slice Ao out.length co),(9,.slice Ad j cd),(10,.int .i64 b'),(11,.int .i64 ((i:Int)+1))] u':=by
   intro u' b' I6 xz;exact⟨(b',(i:Int)+1),rfl,⟨i+1,b',rfl,by omega,I6,xz⟩,by simp only;omega⟩
  by_cases Mk:t=s
  ·exact Split.yes (decide_eq_true Mk) (next Rv (zK.skip ht (λh=>h.1 (.inl Mk))))
  refine Split.no (decide_eq_false Mk) ⟨t.1,⟨t.2.1,Cells.bX Le⟩,?_⟩;refine uG t ((EN.same Rv)) (by omega) λw8 k8=>⟨_,rfl,?_⟩;have ku8:=Rv.tt k8;by_cases ND:t∈done
  ·exact Split.yes (decide_eq_true ND) (next ku8 (zK.skip ht (λh=>h.2 ND)))
  refine Split.no (decide_eq_false ND) ?_;have GM:=k8.heap Le (λh=>h);have hs8:=k8.heap hs7 (λh=>h);have R8:=R2.same ((k3.tt kv).tt ku8);refine Is.mk rfl ⟨_,R8.c1,Is.mk rfl ⟨t.1,⟨t.2.1,Cells.bX GM⟩,s.1,⟨s.2.1,Cells.bX hs8⟩,?_⟩⟩;rw [add_zero];refine pQ R8.X.gr W (by omega) t s λw9 xb I9 k9=>⟨xb,rfl,?_⟩;have ku9:=ku8.tt k9;cases xb with
  |true=>exact Split.yes rfl (next ku9 (zK.skip ht (λh=>h.1 (.inr (.inl (I9.1 rfl))))))
  |false=>
   have Im:¬fU G.D t s:=λe=>by have:=I9.2 e;cases this
   refine Split.no rfl ⟨t.1,⟨t.2.1,Cells.bX (k9.heap GM (λh=>h))⟩,s.1,⟨s.2.1,Cells.bX (k9.heap hs8 (λh=>h))⟩,?_⟩;refine mI (R8.same k9) (by omega) NC hs λw10 oV=>⟨_,rfl,?_⟩;have Wt:=ku9.tt oV;cases hg:gl G t s
   ·exact Split.yes rfl (next Wt (zK.skip ht (λh=>h.1 (.inr (.inr hg)))))
   refine Split.no rfl ?_;have uc:FG G s done t:=⟨λe=>(by
    rcases e with e|e|e
    ·exact Mk e
    ·exact Im e
    ·rw [hg]at e;exact absurd e (by decide)),ND⟩
   intro oH;have wa:Kept Nil w10 oH:=(Kept.refl _ _).drew;clear_value oH;have Rw:=Wt.tt wa;have R11:=(R8.same k9).same (oV.tt wa);have afC:=((k9.tt oV).tt wa).heap GM (λh=>h);rcases zK with⟨rfl,dr⟩|⟨q,y,rfl,hy,Qh,dr⟩
   ·refine Split.yes rfl (next Rw (.inr ⟨i,t,rfl,ht,uc,λz hz hc=>?_⟩))
    rcases(bV ht).1 hz with hz|rfl
    ·exact absurd hc (dr z hz)
    ·exact .inl rfl
   ·have RZ:=yE y (List.mem_of_getElem? hy)
    have Jc:q<lf.length:=(lgeS hy).1;refine Split.no (decide_eq_false (by omega)) ?_;refine HS.load (oL.same (kv.tt Rw)) (i:=(q:Int)) (x:=y) (by omega) (by rw [Int.toNat_natCast];exact hy) ⟨t.1,⟨t.2.1,Cells.bX afC⟩,?_⟩;refine mI R11 (by omega) RZ NC λnM yl=>⟨_,rfl,?_⟩;have Ws:=Rw.tt yl;cases Ir:gl G y t
    ·refine Split.no rfl (next Ws (.inr ⟨q,y,rfl,hy,Qh,λz hz hc=>?_⟩))
     rcases(bV ht).1 hz with hz|rfl
     ·exact dr z hz hc
     ·cases Tf:gl G z y
      ·exact .inl (ml Tf Ir)
      ·exact .inr rfl
    ·refine Split.yes rfl (next Ws (.inr ⟨i,t,rfl,ht,uc,λz hz hc=>?_⟩))
     rcases(bV ht).1 hz with hz|rfl
     ·rcases dr z hz hc with rfl|h
      ·exact .inr Ir
      ·exact .inr (mi h Ir)
     ·exact .inl rfl
 ·simp only at gE
  have UR:i=lf.length:=by omega
  subst UR;have EV:=zK;unfold tq at EV;rw [List.take_of_length_le (Nat.le_refl _)]at EV;rw [bg,bp.lA];unfold bp.jJ;have Mf:=jH.tt UB;have Yi:∀z,z∈L.drop j↔z∈lf/\FG G s done z:=λz=>by
   rw [hL.left j z,hm z,Qg];unfold FG;exact and_assoc
  have fin:∀ {u':World} {K':Value->World->Prop},Kept Nil u u'->dZ G s p.mp.toNat p.mm.toNat [s] L=out->(∀A1 n1 c1 Un,K (.slice A1 n1 c1) Un->K' (.slice A1 n1 c1) Un)->bJ prog aV.id #[.slice Ao out.length co] u' K':=by
   intro u' K' I6 hg hk;refine og ((bY.hs ro).same (ku.tt I6)) (by omega) λA1 c1 w5 kQ k5=>hk _ _ _ _ ?_;have pq:=(Mf.tt I6).tt k5;have:=hK w5 A1 c1 (by rw [hg];exact Row.base kQ λb hb=>Nat.le_trans (Mf.tt I6).size (Row.bX kQ hb).1) pq;rw [hg]at this;exact this
  rcases EV with⟨rfl,dr⟩|⟨q,y,rfl,hy,Qh,dr⟩
  ·have UY:L.drop j= []:=List.eq_nil_iff_forall_not_mem.2 λz hz=>dr z ((Yi z).1 hz).1 ((Yi z).1 hz).2
   rw [UY,tc]at zI;refine Split.yes rfl ?_;refine fin (Kept.refl _ _) zI.symm λA1 n1 c1 Un h=>⟨A1,n1,c1,rfl,?_⟩;rw [iD];exact h
  have RZ:=yE y (List.mem_of_getElem? hy);have Jc:q<lf.length:=(lgeS hy).1;obtain⟨hLj,adw,EM⟩:=hL.next ((Yi y).2 ⟨List.mem_of_getElem? hy,Qh⟩) (λz hz=>dr z ((Yi z).1 hz).1 ((Yi z).1 hz).2);have hjL:j<L.length:=(lgeS hLj).1;have ad5:=UB.heap KW (λh=>h);refine Split.no (decide_eq_false (by omega)) ⟨p.mp,by rw [bO,aI ad5];exact p.IF,?_⟩;by_cases zJ:(out.length:Int)=p.mp
  ·rw [CT (by omega)]at zI
   refine Split.yes (by rw [zJ];exact beq_self_eq_true _) ?_;refine fin (Kept.refl _ _) zI.symm λA1 n1 c1 Un h=>⟨A1,n1,c1,rfl,?_⟩;rw [iD];exact h
  refine Split.no (beq_eq_false_iff_ne.2 zJ) ?_;rw [EM,ru,if_neg (by omega)]at zI;have VL:bY u w3.heap.size Ao out.length co out:=Row.aN ro ku (λ_ _ h=>h);have acp:bY u w3.heap.size Ad j cd done:=Row.aN rd ku (λ_ _ h=>h);have s3u:=UB.size;refine HS.load (oL.same UB) (i:=(q:Int)) (x:=y) (by omega) (by rw [Int.toNat_natCast];exact hy) ⟨y.2.1,?_⟩;intro w5;have k5:Kept Nil u w5:=(Kept.refl _ _).alloc _;have o9:=jy u y
  replace o9:HS w5 (some ⟨u.heap.size,0,none⟩) 1 [y]:=o9
  clear_value w5;have s5:=k5.size;obtain⟨L5,sr,w6,PM,rd6,g6,hA6⟩:=dp aH (Row.aN acp k5 (λ_ _ h=>h)) (cx:=1) o9 (by omega) (by omega);have k6:Kept (λq=>bL Ad=some q) w5 w6:=Kept.grown (Kept.refl _ _) g6 λj hj _=>hj;have kd:∀q,bL Ad=some q->w3.heap.size<=q:=λq hq=>(Row.bX rd hq).1;have sF:Kept Nil w3 w6:=(UB.tt k5).trans k6 (λq hq e=>by have:=kd q e;omega);have ro6:bY w6 w3.heap.size Ao out.length co out:=Row.aN (Row.aN VL k5 (λ_ _ h=>h)) k6 (λq hq e=>Qv q e hq);have s6:=k6.size;have Bp:∀q,bL Ao=some q->q<u.heap.size:=λq hq=>by
   obtain⟨_,cur,o5⟩:=Row.bX VL hq;exact bt o5
  have afE:∀q,bL L5=some q->bL Ao≠some q:=λq hq e=>by
   rcases hA6 q hq with h|h
   ·exact Qv q h e
   ·have:=Bp q e;omega
  have aev:∀q,bL L5=some q->q<w6.heap.size:=λq hq=>by
   obtain⟨_,cur,o5⟩:=Row.bX rd6 hq;exact bt o5
  have Ff:L.take (j+1)=done++ [y]:=by rw [adw,Qg]
  rw [<-Ff]at rd6;refine⟨L5,_,sr,w6,PM,?_⟩;intro w7;have k7:Kept Nil w6 w7:=(Kept.refl _ _).drew;clear_value w7;have sE:=sF.tt k7;have s7:=k7.size;have ro7:bY w7 w3.heap.size Ao out.length co out:=Row.aN ro6 k7 (λ_ _ h=>h);have rd7:bY w7 w3.heap.size L5 (j+1) sr (L.take (j+1)):=Row.aN rd6 k7 (λ_ _ h=>h);have sn:∀z∈out++ [y],z∈ids G.D:=λz hz=>by
   rcases List.mem_append.1 hz with hz|hz
   ·exact gD z hz
   ·rw [List.mem_singleton.1 hz];exact RZ
  have view:∀ {An:Option Addr} {cn:Nat} {w8:World},bY w8 w7.heap.size An (out.length+1) cn (out++ [y])->Kept Nil w7 w8->
   ∃de:Array Value,(de.size=32/\Cells w8 (aU w1.heap.size) de)/\bJ prog af.id #[.pointer (some ⟨r,0,none⟩),.agg de,.slice An (out.length+1) cn] w8 λee fe=>∃ge:Array Value,∃ie:Option Addr,∃je ke:Nat,ee=.tuple #[.agg ge,.slice ie je ke]/\let me:=fe.alloc (.cells zC bT);(ge.size=35/\(∀ne∈ge.toList,ne.oneCell'=true)/\∀oe,oe<35->Wr me ((aU fe.heap.size).add oe))/\let pe:=setCells me (aU fe.heap.size) ge.toList 0;∃qe:Option Addr,∃re te:Nat,pe.cell? ((aU fe.heap.size).add 33)=some (.slice qe re te)/\∃ue:Int,pe.cell? ((aU w.heap.size).add 2)=some (.int .i64 ue)/\
    Split (decide ((re:Int)<=ue)) (b7 (bp.e1 (some ⟨r,0,none⟩) ⟨w.heap.size,0,none⟩ ⟨w1.heap.size,0,none⟩ At lf.length ct) (λs' v=>∃(Ao:Option Addr) (co:Nat) (out:List HT) (Ad:Option Addr) (cd j:Nat),s'=(none,0,0,Ao,out.length,co,Ad,j,cd)/\j<=L.length/\bY v w3.heap.size Ao out.length co out/\bY v w3.heap.size Ad j cd (L.take j)/\(∀q,bL Ad=some q->bL Ao≠some q)/\dZ G s p.mp.toNat p.mm.toNat out (L.drop j)=dZ G s p.mp.toNat p.mm.toNat [s] L/\(∀z∈out,z∈ids G.D)/\out.length<=j+1/\Kept Nil w3 v) (λs' _=>L.length-s'.2.2.2.2.2.2.2.1) (none,0,0,Ao,out.length,co,Ad,j,cd) v (bp.q1 K) .normal [(1,.pointer (some ⟨r,0,none⟩)),(3,.pointer (some ⟨w.heap.size,0,none⟩)),(5,.pointer (some ⟨w1.heap.size,0,none⟩)),(6,.slice none 0 0),(7,.slice At lf.length ct),(8,.slice An (out.length+1) cn),(9,.slice L5 (j+1) sr)] pe)
     (b7 (bp.e1 (some ⟨r,0,none⟩) ⟨w.heap.size,0,none⟩ ⟨w1.heap.size,0,none⟩ At lf.length ct) (λs' v=>∃(Ao:Option Addr) (co:Nat) (out:List HT) (Ad:Option Addr) (cd j:Nat),s'=(none,0,0,Ao,out.length,co,Ad,j,cd)/\j<=L.length/\bY v w3.heap.size Ao out.length co out/\bY v w3.heap.size Ad j cd (L.take j)/\(∀q,bL Ad=some q->bL Ao≠some q)/\dZ G s p.mp.toNat p.mm.toNat out (L.drop j)=dZ G s p.mp.toNat p.mm.toNat [s] L/\(∀z∈out,z∈ids G.D)/\out.length<=j+1/\Kept Nil w3 v) (λs' _=>L.length-s'.2.2.2.2.2.2.2.1) (none,0,0,Ao,out.length,co,Ad,j,cd) v (bp.q1 K) .normal [(1,.pointer (some ⟨r,0,none⟩)),(3,.pointer (some ⟨w.heap.size,0,none⟩)),(5,.pointer (some ⟨w1.heap.size,0,none⟩)),(6,.slice none 0 0),(7,.slice At lf.length ct),(8,.slice Ao out.length co),(9,.slice L5 (j+1) sr)] pe):=by
   intro An cn w8 rn k8;have Me:=sE.tt k8;have hs8:=Me.heap vy (λh=>h);refine⟨s.1,⟨s.2.1,Cells.bX hs8⟩,?_⟩;refine oS (R2.same (k3.tt Me)) (by omega) pJ hs (bY.hs rn) (by omega) sn λw9 A9 n9 c9 E9 e9 d9 W9 nw9 cw9 m9 _ _ k9=>⟨_,_,_,_,rfl,?_⟩;intro w10;obtain⟨u1,u2,u3⟩:=wj w9 (dE k G s (out++ [y])) A9 n9 c9 E9 e9 d9;refine⟨u1,?_⟩;intro oH
   replace u2:oH.heap[w9.heap.size]? =some (.cells (dI (dE k G s (out++ [y])) A9 n9 c9 E9 e9 d9) bT (0,0)):=u2
   replace u3:Kept Nil w9 oH:=u3
   clear_value oH;have Nl:=k9.tt u3;have RB:=Me.tt Nl;have hn9:=bY.len m9;have K1:(dE k G s (out++ [y])).merge=cZ G s (out++ [y]):=rfl;rw [K1]at hn9;refine⟨A9,n9,c9,(p7 u2).2.2.1,p.mm,by rw [bO,aI (RB.heap KW (λh=>h))];exact p.AS,?_⟩;have Rc:bY oH w7.heap.size An (out.length+1) cn (out++ [y]):=Row.aN rn Nl (λ_ _ h=>h);have VO:bY oH w3.heap.size L5 (j+1) sr (L.take (j+1)):=Row.aN rd7 (k8.tt Nl) (λ_ _ h=>h);refine Split.dec (λhle=>?_) (λyn=>?_)
   ·rw [if_pos (by omega)]at zI
    refine⟨(none,0,0,An,out.length+1,cn,L5,j+1,sr),rfl,⟨An,cn,out++ [y],L5,sr,j+1,by rw [List.length_append];rfl,hjL,by rw [List.length_append];exact Row.base Rc λb hb=>Nat.le_trans (by omega) (Row.bX Rc hb).1,VO,λq hq e=>?_,zI,sn,by rw [List.length_append];simp only [List.length_cons,List.length_nil];omega,RB⟩,by simp only;omega⟩;have h1:=(Row.bX Rc e).1;have h2:=aev q hq;omega
   ·rw [if_neg (by omega)]at zI
    exact⟨(none,0,0,Ao,out.length,co,L5,j+1,sr),rfl,⟨Ao,co,out,L5,sr,j+1,rfl,hjL,Row.aN ro7 (k8.tt Nl) (λ_ _ h=>h),VO,afE,zI,gD,by omega,RB⟩,by simp only;omega⟩
  obtain⟨ay,eay,_,_⟩:=oL.at_ q y hy;have Qh:∀ {u':World},Kept Nil w3 u'->Cells u' (ay.add ((q:Int).toNat*32)) y.1:=λI6=>by
   obtain⟨a',ea',_,h⟩:=(oL.same I6).at_ q y hy;rw [eay]at ea';cases ea';rw [Int.toNat_natCast];exact h
  refine⟨⟨by simp only;omega,by simp only;omega⟩,Is.mk eay ⟨y.1,⟨y.2.1,Qh sE⟩,?_,y.2.1,?_⟩⟩
  ·obtain⟨A8,c8,w8,Sp,r8,g8,_⟩:=dp aH (bY.nil w7 w7.heap.size) (cx:=co) (bY.hs ro7) (by omega) (Nat.le_refl _)
   have k8:Kept Nil w7 w8:=Kept.grown (Kept.refl _ _) g8 λj hj _=>by cases hj
   rw [List.nil_append,Nat.zero_add]at r8;rw [Nat.zero_add]at Sp;have s8:=k8.size;refine⟨A8,_,c8,w8,Sp,⟨_,rfl,y.2.1,Qh (sE.tt k8)⟩,y.2.1,?_⟩;intro w9;have k9:Kept Nil w8 w9:=(Kept.refl _ _).alloc _;have Zm:=jy w8 y
   replace Zm:HS w9 (some ⟨w8.heap.size,0,none⟩) 1 [y]:=Zm
   clear_value w9;have s9:=k9.size;obtain⟨DD,GR,w10,Su,r10,g10,_⟩:=dp aH (Row.aN r8 k9 (λ_ _ h=>h)) (cx:=1) Zm (by omega) (by omega);have oV:Kept Nil w7 w10:=Kept.dY (k8.tt k9) g10 (λq hq=>(Row.bX r8 hq).1);exact⟨DD,_,GR,w10,Su,view r10 oV⟩
  ·intro w8
   have k8:Kept Nil w7 w8:=(Kept.refl _ _).alloc _;have GM:=jy w7 y
   replace GM:HS w8 (some ⟨w7.heap.size,0,none⟩) 1 [y]:=GM
   clear_value w8;have s8:=k8.size;obtain⟨A9,c9,w9,Xo,r9,g9,_⟩:=dp aH (bY.nil w8 w7.heap.size) (cx:=co) ((bY.hs ro7).same k8) (by omega) s8;have k9:Kept Nil w8 w9:=Kept.grown (Kept.refl _ _) g9 λj hj _=>by cases hj
   rw [List.nil_append,Nat.zero_add]at r9;rw [Nat.zero_add]at Xo;refine⟨A9,_,c9,w9,Xo,?_⟩;obtain⟨DD,GR,w10,Su,r10,g10,_⟩:=dp aH r9 (cx:=1) (GM.same k9) (by omega) (by have:=k9.size;omega);have oV:Kept Nil w7 w10:=Kept.dY (k8.tt k9) g10 (λq hq=>(Row.bX r9 hq).1);exact⟨DD,_,GR,w10,Su,view r10 oV⟩
end
section
variable{w w':World}{F:Nat->Prop}{c k:Nat}{G:GS}{m:CM}{p:PP}{s:HT}{K:Value->World->Prop}
set_option maxHeartbeats 4000000 in
theorem uE(C:CV w F c k G m)(hT:tm w)(hD:G.D.length<=49)(pJ:k<=1000)(p:PP)(s:HT)
 (h1:¬p.ok->∀w',Kept Nil w w'->K (.tuple #[.slice none 0 0,.int .i64 2]) w')
 (h2:p.ok->s∉ids G.D->∀w',Kept Nil w w'->K (.tuple #[.slice none 0 0,.int .i64 6]) w')
 (h3:p.ok->s∈ids G.D->∀(L:List HT),yZ G L->L.length<=49->(∀z,z∈L↔z∈nE G.D/\¬Dp G s z)->∀w' A cx,bY w' w.heap.size A (dP (dZ G s p.mp.toNat p.mm.toNat [s] L)).length cx (dP (dZ G s p.mp.toNat p.mm.toNat [s] L))->Kept Nil w w'->K (.tuple #[.slice A (dP (dZ G s p.mp.toNat p.mm.toNat [s] L)).length cx,.int .i64 0]) w'):
 bJ prog bS.id #[.agg p.cells,.pointer (some ⟨c,0,none⟩),.agg s.1] w K:=by
 refine bS.of ?_;unfold bS.W;intro w1 w2 w3;have k1:Kept Nil w w1:=(Kept.refl _ _).alloc _;have Ij:w1.heap[w.heap.size]? =some (.cells p.cells fc (0,0)):=aO w _;have k2:Kept Nil w1 w2:=(Kept.refl _ _).alloc _;have ES:w2.heap[w1.heap.size]? =some (.cells #[.pointer (some ⟨c,0,none⟩)] dv (0,0)):=aO w1 _;have k3:Kept Nil w2 w3:=(Kept.refl _ _).alloc _;have vy:w3.heap[w2.heap.size]? =some (.cells s.1 ai (0,0)):=aO w2 _;clear_value w3;have Mv:=k3.heap ES (λh=>h);have KW:=(k2.tt k3).heap Ij (λh=>h);have jH:=(k1.tt k2).tt k3;have s1:=k1.size;have s2:=k2.size;have l1:=bt Ij;have l2:=bt ES;have l3:=bt vy;generalize vP:w.heap.size=pb at Ij KW l1 s1;generalize ER:w1.heap.size=cb at ES Mv l1 l2 s1 s2;generalize Jb:w2.heap.size=sb at vy l2 l3 s2;clear_value w2;clear_value w1;have C3:=C.same jH;have J0:∀j,m.own c j\/F j->j<pb:=λj e=>by rw [<-vP];exact C.low j e
 refine⟨_,by rw [aI Mv];rfl,oO C3 ⟨_,rfl,?_⟩⟩;obtain⟨mx,X3,Qe⟩:=C3.X;refine gB.of (Split.no rfl (Is.mk rfl ⟨_,X3.c0,⟨_,rfl,Split.no rfl ?_⟩⟩));refine⟨p.cells,⟨p.size,Cells.bX KW⟩,?_⟩;refine nt p λw4 k4=>⟨_,rfl,?_⟩;have mD:=jH.tt k4;by_cases EF:p.ok
 rotate_left
 ·exact Split.yes (by rw [decide_eq_false EF];rfl) (h1 EF w4 mD)
 refine Split.no (by rw [decide_eq_true EF];rfl) ?_;have CH:=k4.heap vy (λh=>h);have X4:=X3.same k4;obtain⟨bl4,cc4,mb4,M4,G4⟩:=X4.G;refine⟨s.1,⟨s.2.1,Cells.bX CH⟩,se G4 s λw5 k5=>⟨_,rfl,?_⟩⟩;have pq:=mD.tt k5;by_cases hs:s∈ids G.D
 rotate_left
 ·exact Split.yes (by rw [decide_eq_false hs];rfl) (h2 EF hs w5 pq)
 refine Split.no (by rw [decide_eq_true hs];rfl) ?_;have nA:=k4.tt k5;refine⟨_,by rw [aI (nA.heap Mv (λh=>h))];rfl,oO (C3.same nA) ⟨_,rfl,?_⟩⟩;intro w6;have k6:Kept Nil w5 w6:=(Kept.refl _ _).alloc _;have Ia:w6.heap[w5.heap.size]? =some (.cells #[.pointer none] fD (0,0)):=aO w5 _;clear_value w6;have l6:=bt Ia;have s35:=nA.size;have s03:=jH.size;refine⟨eI Ia (by simp),?_⟩;intro w7;have R4:w7.heap[w5.heap.size]? =some (.cells #[.pointer (some ⟨m.x,0,none⟩)] fD (0,0)):=dL Ia 0 _;have Mc:Kept (· =w5.heap.size) w6 w7:=Kept.setCell (S:=λj=>j=w5.heap.size) (Kept.refl _ w6) (p:=⟨w5.heap.size,0,none⟩) (λ_=>rfl) _;clear_value w7;have AD:Kept Nil w5 w7:=k6.trans Mc (λj hj e=>by omega);have sE:=nA.tt AD;have tX:=jH.tt sE;have s57:=AD.size;generalize I9:w5.heap.size=xb at R4 l6 s57;have W:=C.iN.W;have E7:FE w7 F c k G m sb xb cb s:=⟨C3.same sE,sE.heap vy (λh=>h),R4,sE.heap Mv (λh=>h)⟩;have lx:=bt R4;have Sc:(nE G.D).length<=G.D.length:=mP _ _;have yE:∀z∈nE G.D,z∈ids G.D:=λz hz=>(iX.1 hz).1;have htn:(nE G.D).Nodup:=(jL _).nodup;have X7:=X3.same sE;obtain⟨bl7,cc7,mb7,M7,G7⟩:=X7.G;refine LB G7 W (by omega) λAt ct w8 BT k8=>⟨At,_,ct,rfl,?_⟩;generalize nE G.D=lf at BT Sc yE htn h3;have kA:∀j,bL At=some j->w7.heap.size<=j:=λj hj=>(Row.bX BT hj).1;have E8:=E7.same k8;have EK:∀ {u:World},Kept (λj=>bL At=some j) w8 u->FE u F c k G m sb xb cb s:=λ{u} ku=>
  ⟨E8.C.aN ku (λj hj e=>by have:=J0 j (.inl hj);have:=kA j e;omega) (λj hj e=>by have:=J0 j (.inr hj);have:=kA j e;omega),ku.heap E8.sb (λe=>by have:=kA _ e;omega),ku.heap E8.xb (λe=>by have:=kA _ e;omega),ku.heap E8.cb (λe=>by have:=kA _ e;omega)⟩
 refine Ea (λu ku=>EK ku) (by omega) hs BT (by omega) yE λw9 DX k9=>⟨At,_,ct,rfl,?_⟩;have E9:=EK k9;have GJ:(nH G s lf).length<=lf.length:=List.length_filter_le _ _;refine MR E9.C E9.cb DX (by omega) (List.Nodup.sublist List.filter_sublist htn) (λz hz=>yE z (zn.1 hz).1) (λj hj=>⟨λe=>by have:=J0 j (.inl e);have:=kA j hj;omega,λe=>by have:=J0 j (.inr e);have:=kA j hj;omega,λe=>by have:=kA j hj;omega⟩) λL w10 hL hLm vn oV=>⟨rfl,?_⟩;have Wv:=k9.tt oV;have E10:=EK Wv;have hLl:=bY.len vn;have ZK:∀z,z∈L↔z∈lf/\¬Dp G s z:=λz=>(hLm z).trans zn;have Dz:=h3 EF hs L hL (by omega) ZK;have ZL:∀z∈L,z∈ids G.D:=λz hz=>yE z ((ZK z).1 hz).1;generalize hnL:(nH G s lf).length=nL at vn hLl GJ;have Ww:Kept Nil w7 w10:=k8.trans Wv (λj hj e=>by have:=kA j e;omega);have yA:=tX.tt Ww;refine⟨s.1,⟨s.2.1,Cells.bX E10.sb⟩,s.2.1,?_⟩;intro oH;have wa:Kept Nil w10 oH:=(Kept.refl _ _).alloc _;have aco:bY oH w10.heap.size (some ⟨w10.heap.size,0,none⟩) 1 1 [s]:=FZ w10 s (Nat.le_refl _);clear_value oH;have Ep:=yA.tt wa;have E11:=E10.same wa;have XI:=((sE.tt Ww).tt wa).heap KW (λh=>h);have afX:=(bY.hs vn).same wa;have afN:tm oH:=hT.same Ep;obtain⟨_,⟨SE,SD⟩,⟨SH,SF⟩,_⟩:=EF;have akq:=Ep.size;have ahl:=wa.size;have akr:=yA.size;refine bS.cP (I:=λs' v=>∃(i:Nat) (Ao:Option Addr) (co:Nat) (out:List HT),s'=(Ao,out.length,co,(i:Int))/\i<=nL/\bY v w10.heap.size Ao out.length co out/\dZ G s p.mp.toNat p.mm.toNat out (L.drop i)=dZ G s p.mp.toNat p.mm.toNat [s] L/\(∀z∈out,z∈ids G.D)/\out.length<=i+1/\Kept Nil oH v) (μ:=λs' _=>((nL:Int)-s'.2.2.2).toNat) (s:=(some ⟨w10.heap.size,0,none⟩,1,1,0))
  ⟨0,_,1,[s],rfl,Nat.zero_le _,aco,rfl,λz hz=>(by rw [List.mem_singleton.1 hz];exact hs),by simp,Kept.refl _ _⟩ ?_
 rintro s' v ⟨i,Ao,co,out,rfl,hi,ro,zI,gD,hol,kv⟩;unfold bS.B1;have fin:∀ {u:World},Kept Nil v u->dZ G s p.mp.toNat p.mm.toNat [s] L=out->bJ prog jz.id #[.slice Ao out.length co] u λv1 Un=>∃(A1:Option Addr) (n1 c1:Nat),v1=.slice A1 n1 c1/\K (.tuple #[.slice A1 n1 c1,.int .i64 0]) Un:=by
  intro u ku hg;have Mf:=Ep.tt (kv.tt ku);refine im ((bY.hs ro).same ku) (by omega) λA1 c1 nM sy yl=>⟨A1,_,c1,rfl,?_⟩;have:=Dz nM A1 c1 (by rw [hg];exact Row.base sy λb hb=>Nat.le_trans Mf.size (Row.bX sy hb).1) (Mf.tt yl);rw [hg]at this;exact this
 refine Split.dec (λdD=>?_) (λgE=>?_)
 rotate_left
 ·simp only at gE
  have UR:i=nL:=by omega
  rw [List.drop_of_length_le (by omega),tc]at zI;rw [bg,bS.Vl];unfold bS.QI;exact fin (Kept.refl _ _) zI.symm
 simp only at dD;simp-zeta only;have eA:i<nL:=by omega
 obtain⟨t,ht⟩:∃t,L[i]? =some t:=⟨_,List.getElem?_eq_getElem (by omega)⟩;have NC:=ZL t (List.mem_of_getElem? ht);have Mu:L.drop i=t::L.drop (i+1):=by
  rw [List.drop_eq_getElem_cons (by omega)]
  congr 1
  exact(lgeS ht).2
 rw [Mu,ru]at zI;refine HS.load (afX.same kv) (i:=(i:Int)) (x:=t) (by omega) (by rw [Int.toNat_natCast];exact ht) ?_;intro nM;obtain⟨t1,t2,t3⟩:=ou v t;refine⟨t1,?_⟩;intro oD
 replace t2:oD.heap[v.heap.size]? =some (.cells t.1 ai (0,0)):=t2
 replace t3:Kept Nil v oD:=t3
 clear_value oD;have acO:=kv.tt t3;refine⟨p.mp,by rw [bO,aI (acO.heap XI (λh=>h))];exact p.IF,?_⟩;by_cases zJ:(out.length:Int)=p.mp
 ·rw [if_pos (by omega)]at zI
  refine Split.yes (by rw [zJ];exact beq_self_eq_true _) ?_;rw [bg,bS.Jm];unfold bS.Bg;exact fin t3 zI.symm
 refine Split.no (beq_eq_false_iff_ne.2 zJ) ?_;rw [if_neg (by omega)]at zI;intro jg;have Du:Kept Nil oD jg:=(Kept.refl _ _).drew;clear_value jg;have Zs:=Du.heap t2 (λh=>h);have Wn:=t3.tt Du;have Pt:=kv.tt Wn;have Rb:bY jg w10.heap.size Ao out.length co out:=Row.aN ro Wn (λ_ _ h=>h);have s14:=Pt.size;have sn:∀z∈out++ [t],z∈ids G.D:=λz hz=>by
  rcases List.mem_append.1 hz with hz|hz
  ·exact gD z hz
  ·rw [List.mem_singleton.1 hz];exact NC
 have m1:lD G.D (s::(out++ [t]))=0:=by
  unfold lD;rw [if_neg (by simp),if_neg];rintro⟨x,hx,e⟩;rcases List.mem_cons.1 hx with rfl|hx
  ·exact e hs
  ·exact e (sn x hx)
 have view:∀ {An:Option Addr} {cn:Nat} {ur:World},bY ur jg.heap.size An (out.length+1) cn (out++ [t])->Kept Nil jg ur->
  ∃oa:Option Addr,ur.cell? (⟨cb,0,none⟩:Addr)=some (.pointer oa)/\∃pa:Array Value,(pa.size=32/\Cells ur (⟨sb,0,none⟩:Addr) pa)/\bJ prog eF.id #[.pointer oa,.agg pa,.slice An (out.length+1) cn] ur λqa ra=>∃ta:Array Value,∃ua:Int,qa=.tuple #[.agg ta,.int .i64 ua]/\let va:=ra.alloc (.cells zC bT);(ta.size=35/\(∀xa∈ta.toList,xa.oneCell'=true)/\∀ya,ya<35->Wr va ((aU ra.heap.size).add ya))/\let za:=setCells va (aU ra.heap.size) ta.toList 0;∃ae:Option Addr,∃be ce:Nat,za.cell? ((aU ra.heap.size).add 33)=some (.slice ae be ce)/\∃de:Int,za.cell? ((⟨pb,0,none⟩:Addr).add 2)=some (.int .i64 de)/\
   Split (decide ((be:Int)<=de)) (b7 (bS.e1 ⟨pb,0,none⟩ ⟨cb,0,none⟩ ⟨sb,0,none⟩ none 0 0 0 At nL ct (nL:Int)) (λs' v=>∃(i:Nat) (Ao:Option Addr) (co:Nat) (out:List HT),s'=(Ao,out.length,co,(i:Int))/\i<=nL/\bY v w10.heap.size Ao out.length co out/\dZ G s p.mp.toNat p.mm.toNat out (L.drop i)=dZ G s p.mp.toNat p.mm.toNat [s] L/\(∀z∈out,z∈ids G.D)/\out.length<=i+1/\Kept Nil oH v) (λs' _=>((nL:Int)-s'.2.2.2).toNat) (Ao,out.length,co,(i:Int)) v (bS.q1 K) .normal [(3,.pointer (some ⟨pb,0,none⟩)),(4,.pointer (some ⟨cb,0,none⟩)),(5,.pointer (some ⟨sb,0,none⟩)),(6,.slice none 0 0),(7,.int .i64 0),(11,.slice An (out.length+1) cn),(43,.slice At nL ct),(44,.int .i64 (nL:Int)),(45,.int .i64 (i64.wrap ((i:Int)+1)))] za)
    (b7 (bS.e1 ⟨pb,0,none⟩ ⟨cb,0,none⟩ ⟨sb,0,none⟩ none 0 0 0 At nL ct (nL:Int)) (λs' v=>∃(i:Nat) (Ao:Option Addr) (co:Nat) (out:List HT),s'=(Ao,out.length,co,(i:Int))/\i<=nL/\bY v w10.heap.size Ao out.length co out/\dZ G s p.mp.toNat p.mm.toNat out (L.drop i)=dZ G s p.mp.toNat p.mm.toNat [s] L/\(∀z∈out,z∈ids G.D)/\out.length<=i+1/\Kept Nil oH v) (λs' _=>((nL:Int)-s'.2.2.2).toNat) (Ao,out.length,co,(i:Int)) v (bS.q1 K) .normal [(3,.pointer (some ⟨pb,0,none⟩)),(4,.pointer (some ⟨cb,0,none⟩)),(5,.pointer (some ⟨sb,0,none⟩)),(6,.slice none 0 0),(7,.int .i64 0),(11,.slice Ao out.length co),(43,.slice At nL ct),(44,.int .i64 (nL:Int)),(45,.int .i64 (i64.wrap ((i:Int)+1)))] za):=by
  intro An cn ur rn El;have Kx:=Pt.tt El;have E18:=E11.same Kx;refine⟨_,by rw [aI E18.cb];rfl,s.1,⟨s.2.1,Cells.bX E18.sb⟩,?_⟩;refine xF E18.C (afN.same Kx) hD pJ (bY.hs rn) (by omega) (λe=>absurd m1 e) λ_ pI A4 n4 c4 E4 e4 d4 mg4 _ yi _=>⟨_,_,rfl,?_⟩;intro FM;obtain⟨u1,u2,u3⟩:=wj pI (dE k G s (out++ [t])) A4 n4 c4 E4 e4 d4;refine⟨u1,?_⟩;intro yg
  replace u2:yg.heap[pI.heap.size]? =some (.cells (dI (dE k G s (out++ [t])) A4 n4 c4 E4 e4 d4) bT (0,0)):=u2
  replace u3:Kept Nil pI yg:=u3
  clear_value yg;have Kr:=yi.tt u3;have Kw:=Kx.tt Kr;have hn4:=mg4.len;have K1:(dE k G s (out++ [t])).merge=cZ G s (out++ [t]):=rfl;rw [K1]at hn4;refine⟨A4,n4,c4,(p7 u2).2.2.1,p.mm,by rw [bO,aI (Kw.heap XI (λh=>h))];exact p.AS,?_⟩;have VM:bY yg jg.heap.size An (out.length+1) cn (out++ [t]):=Row.aN rn Kr (λ_ _ h=>h);rw [dO (n:=(i:Int)) (by omega) (by omega)];refine Split.dec (λhle=>?_) (λyn=>?_)
  ·rw [if_pos (by omega)]at zI
   exact⟨(An,out.length+1,cn,(i:Int)+1),rfl,⟨i+1,An,cn,out++ [t],by rw [List.length_append];rfl,eA,by rw [List.length_append];exact Row.base VM λb hb=>Nat.le_trans (by omega) (Row.bX VM hb).1,zI,sn,by rw [List.length_append];simp only [List.length_cons,List.length_nil];omega,Kw⟩,by simp only;omega⟩
  ·rw [if_neg (by omega)]at zI
   exact⟨(Ao,out.length,co,(i:Int)+1),rfl,⟨i+1,Ao,co,out,rfl,eA,Row.aN Rb (El.tt Kr) (λ_ _ h=>h),zI,gD,by omega,Kw⟩,by simp only;omega⟩
 refine⟨t.1,⟨t.2.1,Cells.bX Zs⟩,?_,t.2.1,?_⟩
 ·refine th (bY.hs Rb) (by omega) λA15 c15 mM F9 qI=>⟨A15,_,c15,rfl,⟨_,rfl,t.2.1,Cells.bX (qI.heap Zs (λh=>h))⟩,t.2.1,?_⟩
  intro np;have pU:Kept Nil mM np:=(Kept.refl _ _).alloc _;have TA:=jy mM t
  replace TA:HS np (some ⟨mM.heap.size,0,none⟩) 1 [t]:=TA
  clear_value np;have s15:=qI.size;have s16:=pU.size;obtain⟨A17,c17,tz,St,r17,g17,_⟩:=dp aH (Row.aN F9 pU (λ_ _ h=>h)) (cx:=1) TA (by omega) (by omega);have Em:Kept Nil jg tz:=Kept.dY (qI.tt pU) g17 (λq hq=>(Row.bX F9 hq).1);exact⟨A17,_,c17,tz,St,view r17 Em⟩
 ·intro mM
  have qI:Kept Nil jg mM:=(Kept.refl _ _).alloc _;have TB:=jy jg t
  replace TB:HS mM (some ⟨jg.heap.size,0,none⟩) 1 [t]:=TB
  clear_value mM;have s15:=qI.size;refine th ((bY.hs Rb).same qI) (by omega) λA16 c16 np zg pU=>⟨A16,_,c16,rfl,?_⟩;have s16:=pU.size;obtain⟨A17,c17,tz,St,r17,g17,_⟩:=dp aH (Row.base zg λb hb=>Nat.le_trans s15 (Row.bX zg hb).1) (cx:=1) (TB.same pU) (by omega) (by omega);have Em:Kept Nil jg tz:=Kept.dY (qI.tt pU) g17 (λq hq=>Nat.le_trans s15 (Row.bX zg hq).1);exact⟨A17,_,c17,tz,St,view r17 Em⟩
end
open Go.ChangeAt Go.ChangeShapes Go.WideShapes
theorem Z6:prog.underlying iT=some (.int .i64):=by kernel_rfl
theorem Z4:prog.underlying iA=some (.int .u64):=by kernel_rfl
theorem agn:prog.cellsOf iT=1:=by kernel_rfl
theorem agl:prog.cellsOf iA=1:=by kernel_rfl
def Rg:Array Field:= #[⟨"K",iT,0,false,"","",0⟩,⟨"MaxParents",iT,1,false,"","",8⟩,⟨"MaxMerge",iT,2,false,"","",16⟩,⟨"Finality",iT,3,false,"","",24⟩,⟨"Pruning",iT,4,false,"","",32⟩,⟨"Maturity",iT,5,false,"","",40⟩,⟨"Subsidy",iA,6,false,"","",48⟩,⟨"Orphans",iT,7,false,"","",56⟩,⟨"Pool",iT,8,false,"","",64⟩,⟨"Genesis",ai,9,false,"","",72⟩]
theorem QB:prog.underlying fc=some (.struct Rg):=by kernel_rfl
theorem agm:prog.cellsOf fc=41:=by kernel_rfl
section
variable{H:Type}{enc:TypeId×Value->H}{w:World}{base:Nat}{sp:Nat->Bool}{held:Bool}{fuel:Nat}{cs:List Value}{x:DataW H×List MemPlace}
theorem Rf(h:DataW.trod enc prog w base sp held fuel fc cs=some x):∃p:PP,cs.toArray=p.cells:=by
 obtain⟨xs,n,_,_,hl,vx,dr⟩:=DataW.trod_struct QB h;rw [agm]at hl;have hx:∀i,i<10->∃y,xs[i]? =some y:=λi hi=>⟨xs[i]'(by rw [vx];exact hi),by simp⟩;have gi:∀i (f:Field),Rg[i]? =some f->f.type=iT->∃z,(cs.drop f.offset).take 1= [.int .i64 z]:=λi f hf ht=>by
  obtain⟨y,hy⟩:=hx i (Array.getElem?_eq_some_iff.1 hf).1;have:=dr i f hf;rw [ht,agn,hy]at this;obtain⟨z,hz,_⟩:=DataW.trod_int Z6 this;exact⟨z,hz⟩
 obtain⟨a0,e0⟩:=gi 0 _ rfl rfl;obtain⟨a1,e1⟩:=gi 1 _ rfl rfl;obtain⟨a2,e2⟩:=gi 2 _ rfl rfl;obtain⟨a3,e3⟩:=gi 3 _ rfl rfl;obtain⟨a4,e4⟩:=gi 4 _ rfl rfl;obtain⟨a5,e5⟩:=gi 5 _ rfl rfl;obtain⟨a7,e7⟩:=gi 7 _ rfl rfl;obtain⟨a8,e8⟩:=gi 8 _ rfl rfl;obtain⟨a6,e6⟩:∃z,(cs.drop 6).take 1= [.int .u64 z]:=by
  obtain⟨y,hy⟩:=hx 6 (by decide);have:DataW.trod enc prog w base sp held n iA ((cs.drop 6).take (prog.cellsOf iA))=xs[6]? :=dr 6 _ rfl;rw [agl,hy]at this;obtain⟨z,hz,_⟩:=DataW.trod_int Z4 this;exact⟨z,hz⟩
 obtain⟨y9,hy9⟩:=hx 9 (by decide);have e9:DataW.trod enc prog w base sp held n ai ((cs.drop 9).take (prog.cellsOf ai))=xs[9]? :=dr 9 _ rfl;rw [OH,hy9]at e9;have hh:=AG e9;have ec:cs=(cs.drop 0).take 1++((cs.drop 1).take 1++((cs.drop 2).take 1++((cs.drop 3).take 1++((cs.drop 4).take 1++((cs.drop 5).take 1++((cs.drop 6).take 1++((cs.drop 7).take 1++((cs.drop 8).take 1++(cs.drop 9).take 32)))))))):=by
  have step:∀k,cs.drop k=(cs.drop k).take 1++cs.drop (k+1):=λk=>by
   conv=>lhs;rw [<-List.take_append_drop 1 (cs.drop k)]
   rw [List.drop_drop]
  have t9:(cs.drop 9).take 32=cs.drop 9:=List.take_of_length_le (by rw [List.length_drop];omega);rw [t9]
  conv=>lhs;rw [<-List.drop_zero (l:=cs),step 0,step 1,step 2,step 3,step 4,step 5,step 6,step 7,step 8]
 refine⟨⟨a0,a1,a2,a3,a4,a5,a6,a7,a8,⟨_,hh⟩⟩,?_⟩;have f0:(cs.drop 0).take 1= [.int .i64 a0]:=e0;have f1:(cs.drop 1).take 1= [.int .i64 a1]:=e1;have f2:(cs.drop 2).take 1= [.int .i64 a2]:=e2;have f3:(cs.drop 3).take 1= [.int .i64 a3]:=e3;have f4:(cs.drop 4).take 1= [.int .i64 a4]:=e4;have f5:(cs.drop 5).take 1= [.int .i64 a5]:=e5;have f7:(cs.drop 7).take 1= [.int .i64 a7]:=e7;have f8:(cs.drop 8).take 1= [.int .i64 a8]:=e8;rw [f0,f1,f2,f3,f4,f5,e6,f7,f8]at ec;unfold PP.cells
 conv=>lhs;rw [ec]
 simp
end
section
variable{H:Type}{enc:TypeId×Value->H}{w:World}{base:Nat}{sp:Nat->Bool}{held:Bool}{d:DataW H}{p:List MemPlace}{v:Value}
set_option maxRecDepth 100000 in
theorem Fw{t:TypeId}(et:t=fc)(hv:Value.okWide prog w .any base t v)(h:∃fuel,DataW.trod enc prog w 0 sp held fuel t v.cells.toList=some (d,p)):∃q:PP,v=.agg q.cells:=by
 have ht:prog.underlying t=some (.struct Rg):=by rw [et];exact QB
 simp only [Value.okWide,ht]at hv;subst et;obtain⟨cs,rfl,h2⟩:=hv;obtain⟨fuel,h⟩:=h;obtain⟨q,hq⟩:=Rf h;exact⟨q,by rw [<-hq];simp [Value.cells]⟩
end
end Go.Proofs.YtfleamccglihoaaGreatDoor
namespace Go.Proofs.YtfleamccglihoaaGreatDoor
open Go.Proofs.Tryz
open Go Go.cF Go.RowKit
section
variable{k:Nat}{G:GS}{s:HT}{L:List HT}{p:PP}
theorem OL(hm:∀z,z∈L↔z∈nE G.D/\¬Dp G s z):∀t∈L,yc G s t:=λt ht=>by
 obtain⟨h1,h2⟩:=(hm t).1 ht;obtain⟨h3,h4⟩:=iX.1 h1;refine⟨h3,h4,λe=>h2 (.inl e),λe=>h2 (.inr (.inl e)),?_⟩;cases hg:gl G t s
 ·exact absurd (.inr (.inr hg)) h2
 ·rfl
theorem yJ(C:I2 k G)(H:jM k G)(hs:s∈ids G.D)(hp:p.ok)(hl:∀t∈L,yc G s t):
 jY p G (dP (dZ G s p.mp.toNat p.mm.toNat [s] L))=([],0):=by
 have Bn:=hp;obtain⟨_,⟨SE,SD⟩,⟨SH,SF⟩,_⟩:=hp;obtain⟨x0,x1,x2,x3,x4,x5,x6⟩:=wL C H hs (mp:=p.mp.toNat) (mm:=p.mm.toNat) (by omega) hl;have yG:0<(dP (dZ G s p.mp.toNat p.mm.toNat [s] L)).length:=List.length_pos_iff.2 x0;generalize dP (dZ G s p.mp.toNat p.mm.toNat [s] L)=X at x0 x1 x2 x3 x4 x5 x6 yG;have NW:iy G.D X= []:=rX.2 x3;unfold jY;rw [if_neg (λe=>e Bn),if_neg,if_neg (λe=>e NW),if_neg,if_neg]
 ·rw [x5];omega
 ·rintro⟨a,ha,b,hb,mK⟩
  exact x4 a ha b hb mK
 ·rintro((e|e)|e)
  ·omega
  ·omega
  ·exact e x2
end
section
variable{w:World}{FP:Nat->Prop}{K:Value->World->Prop}
set_option maxHeartbeats 2000000 in
theorem Ap{A:Option Addr}{n cx:Nat}{l:List DN}(hl:NS w FP A n l)(hn:n<9223372036854775808)(p:PP)(root s:HT)(hT:tm w)(hK:∀w',Kept Nil w w'->K (.bool true) w'):
 bJ prog fw.id #[.agg p.cells,.agg root.1,.slice A n cx,.agg s.1] w K:=by
 have hlen:=hl.len;refine fw.of ?_;unfold fw.W;intro w1 w2 w3;have k1:Kept Nil w w1:=(Kept.refl _ _).alloc _;have Ij:w1.heap[w.heap.size]? =some (.cells p.cells fc (0,0)):=aO w _;have k2:Kept Nil w1 w2:=(Kept.refl _ _).alloc _;have lj:w2.heap[w1.heap.size]? =some (.cells root.1 ai (0,0)):=aO w1 _;have k3:Kept Nil w2 w3:=(Kept.refl _ _).alloc _;have vy:w3.heap[w2.heap.size]? =some (.cells s.1 ai (0,0)):=aO w2 _;clear_value w3;have yF:=k3.heap lj (λh=>h);have KW:=(k2.tt k3).heap Ij (λh=>h);clear_value w2;have jH:=(k1.tt k2).tt k3;have kn:∀ {v:World},Kept Nil w v->bJ prog jo.id #[] v λv3 w_4=>∃t:Bool,v3=.bool t/\K (.bool t) w_4:=λk=>Ej (hT.same k) λw4 k4=>⟨true,rfl,hK w4 (k.tt k4)⟩;refine⟨p.K,by rw [bO,aI KW];exact p.OE,root.1,⟨root.2.1,Cells.bX yF⟩,?_⟩;refine Fv (hl.same jH) hn p.K root (hT.same jH) (λv kv=>⟨_,_,false,true,rfl,Split.yes rfl (Split.yes rfl (kn (jH.tt kv)))⟩) λw4 F c m FR r x k hk hk6 aeZ B4 k4 _=>⟨_,_,true,true,rfl,Split.no rfl (Split.no rfl ?_)⟩;have hDl:=Fs k root l;have hf2:=aeZ.2;have hC:=IN k root l;generalize AY k root l=G at B4 hDl hC;have mD:=jH.tt k4;have Gw:=k4.heap KW (λh=>h);have CH:=k4.heap vy (λh=>h);have H:=B4.C.iN;have W:=H.W;refine⟨p.cells,⟨p.size,Cells.bX Gw⟩,s.1,⟨s.2.1,Cells.bX CH⟩,?_⟩;have atS:∀ {u:World},Kept Nil w4 u->∀ {K':Value->World->Prop},(∀w',Kept Nil u w'->K' (.int .i64 (IS G.D s)) w')->bJ prog b0.id #[.pointer (some ⟨x,0,none⟩),.agg s.1] u K':=λ{u} ku {K'} hk=>pR (B4.same ku).R.X.gr (by omega) s hk;refine uE B4.C (hT.same mD) (by omega) (by omega) p s (λEF w5 k5=>?_) (λEF hs w5 k5=>?_) (λEF hs L hL hLl hLm w5 A5 c5 kQ k5=>?_)
 ·refine⟨none,0,0,2,rfl,p.cells,⟨p.size,Cells.bX (k5.heap Gw (λh=>h))⟩,?_⟩
  refine ny p λw6 k6=>⟨_,rfl,Split.yes (by rw [decide_eq_false EF];rfl) (Split.yes rfl (Split.yes rfl (kn ((mD.tt k5).tt k6))))⟩
 ·refine⟨none,0,0,6,rfl,p.cells,⟨p.size,Cells.bX (k5.heap Gw (λh=>h))⟩,?_⟩
  refine ny p λw6 k6=>⟨_,rfl,Split.no (by rw [decide_eq_true EF];rfl) ?_⟩;intro w7;have k7:Kept Nil w6 w7:=(Kept.refl _ _).drew;clear_value w7;have Cx:=(k5.tt k6).tt k7;refine Is.mk rfl ⟨_,(B4.same Cx).R.c1,Is.mk rfl ⟨s.1,⟨s.2.1,Cells.bX (Cx.heap CH (λh=>h))⟩,?_⟩⟩;rw [add_zero];refine atS Cx λw8 k8=>⟨_,rfl,?_⟩;exact Split.yes (decide_eq_true (by rw [qd];exact hs)) (Split.yes rfl (Split.yes rfl (kn ((mD.tt Cx).tt k8))))
 have K6:=OL hLm;have Qc:=yJ hC H hs EF K6;have ad2:=EF;obtain⟨_,⟨SE,SD⟩,⟨SH,SF⟩,_⟩:=ad2;obtain⟨x0,x1,x2,x3,x4,x5,x6⟩:=wL hC H hs (mp:=p.mp.toNat) (mm:=p.mm.toNat) (by omega) K6;refine⟨A5,_,c5,0,rfl,p.cells,⟨p.size,Cells.bX (k5.heap Gw (λh=>h))⟩,?_⟩;refine ny p λw6 k6=>⟨_,rfl,Split.no (by rw [decide_eq_true EF];rfl) ?_⟩;intro w7;have k7:Kept Nil w6 w7:=(Kept.refl _ _).drew;clear_value w7;have AD:=k6.tt k7;have Cx:=k5.tt AD;refine Is.mk rfl ⟨_,(B4.same Cx).R.c1,Is.mk rfl ⟨s.1,⟨s.2.1,Cells.bX (Cx.heap CH (λh=>h))⟩,?_⟩⟩;rw [add_zero];refine atS Cx λw8 k8=>⟨_,rfl,?_⟩;have Po:=Cx.tt k8;refine Split.no (decide_eq_false (by rw [qd];exact λe=>e hs)) (Split.no rfl ?_);refine⟨p.cells,⟨p.size,Cells.bX (Po.heap Gw (λh=>h))⟩,s.1,⟨s.2.1,Cells.bX (Po.heap CH (λh=>h))⟩,?_⟩;refine uH (B4.same Po).R (by omega) (by omega) p EF hs hL hLl hLm λw9 A9 c9 DX k9=>⟨A9,_,c9,rfl,?_⟩;have Uz:=(AD.tt k8).tt k9;have WD:=Po.tt k9;have NJ:=bY.hs kQ;have hs9:=bY.hs DX;clear kQ DX;generalize dP (dZ G s p.mp.toNat p.mm.toNat [s] L)=X at NJ hs9 x0 x1 x2 x3 x4 x5 x6 Qc;generalize hXn:X.length=nX at NJ hs9 x1;refine HC (NJ.same Uz) hs9 (by omega) λw10 oV=>⟨_,rfl,Split.no (by rw [decide_eq_true rfl];rfl) ?_⟩;have RA:=WD.tt oV;have WC:=Uz.tt oV;refine⟨s.1,⟨s.2.1,Cells.bX (RA.heap CH (λh=>h))⟩,?_⟩;refine oS (B4.same RA).R (by omega) (by omega) hs (NJ.same WC) (by omega) x3 λoH A11 n11 c11 E11 e11 d11 W11 akD aoz m11 _ _ wa=>⟨_,_,_,_,rfl,?_⟩;intro nM;obtain⟨u1,u2,u3⟩:=wj oH (dE k G s X) A11 n11 c11 E11 e11 d11
 refine⟨u1,?_⟩;intro oD
 replace u2:oD.heap[oH.heap.size]? =some (.cells (dI (dE k G s X) A11 n11 c11 E11 e11 d11) bT (0,0)):=u2
 replace u3:Kept Nil oH oD:=u3
 clear_value oD;have Pu:=wa.tt u3;have Kk:=RA.tt Pu;have WB:=WC.tt Pu;have aem:=bY.len m11;have K1:(dE k G s X).merge=cZ G s X:=rfl;rw [K1]at aem;refine⟨A11,n11,c11,(p7 u2).2.2.1,p.mm,by rw [bO,aI (Kk.heap Gw (λh=>h))];exact p.AS,?_⟩;refine Split.no (decide_eq_false (by omega)) ⟨p.cells,⟨p.size,Cells.bX (Kk.heap Gw (λh=>h))⟩,?_⟩;have ac1:=mD.tt Kk;refine nu (B4.same Kk).C (hT.same ac1) (by omega) (by omega) p (zX _) (NJ.same WB) (by omega) λjg A14 n14 c14 _ Du=>⟨A14,n14,c14,_,rfl,?_⟩;have WH:=Kk.tt Du;have m0:lD G.D X=0:=by
  unfold lD;rw [if_neg x0,if_neg (λ⟨y,hy,e⟩=>e (x3 y hy))]
 refine pX (B4.same WH).C (NJ.same (WB.tt Du)) (by omega) λmM qI=>⟨_,_,rfl,?_⟩;rw [m0,if_pos rfl,x5,Qc];intro np;obtain⟨t1,t2,t3⟩:=ou mM s;refine⟨t1,?_⟩;intro tz
 replace t2:tz.heap[mM.heap.size]? =some (.cells s.1 ai (0,0)):=t2
 replace t3:Kept Nil mM tz:=t3
 clear_value tz;have WG:=(WH.tt qI).tt t3;refine Split.yes rfl (Split.yes rfl ⟨s.1,⟨s.2.1,Cells.bX t2⟩,s.1,⟨s.2.1,Cells.bX (WG.heap CH (λh=>h))⟩,⟨s.2.ints,s.2.ints⟩,?_⟩);rw [dQ];exact Split.yes (decide_eq_true rfl) (kn (mD.tt WG))
end
end Go.Proofs.YtfleamccglihoaaGreatDoor
