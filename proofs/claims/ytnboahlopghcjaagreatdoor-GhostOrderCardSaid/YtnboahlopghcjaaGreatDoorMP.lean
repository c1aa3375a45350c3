import Derived.Test.YtnboahlopghcjaaGreatDoorMI
import Derived.Test.YtnboahlopghcjaaGreatDoorMJ
import Derived.Test.YtnboahlopghcjaaGreatDoorMN
import Derived.Test.YtnboahlopghcjaaGreatDoorMG
open Go.IntKind (i64 u64)
set_option linter.unusedVariables false
namespace Go.Proofs.YtnboahlopghcjaaGreatDoor
open Go.Proofs.Tryz
open Go Go.bP
structure nW where
 jt:HT
 score:Nat
 merge:List HT
 dJ:List Bool
structure GS where
 D:DG
 P:List Int
 qJ:List nW
 jD:List (List HT)
def GS.at_(G:GS)(h:HT):Option Nat:=pos h (ids G.D) 0
def GS.gm(G:GS)(h:HT):nW:=((G.at_ h).bind (G.qJ[·]?)).getD ⟨dU,0,[],[]⟩
def GS.world(G:GS)(h:HT):List HT:=((G.at_ h).bind (G.jD[·]?)).getD []
def GS.score(G:GS)(h:HT):Nat:=(G.gm h).score
def gl(G:GS)(a b:HT):Bool:=decide (G.score a<G.score b)||(decide (G.score a=G.score b)&&cy a b)
def zm(G:GS)(a b:HT):Int:=if gl G a b then-1 else if gl G b a then 1 else 0
def bR(G:GS):List HT->HT
 | []=>dU
 |x::l=>l.foldl (fun b y=>if gl G b y then y else b) x
def lV(D:DG)(a b:HT):Prop:=a≠b/\¬eI D a b/\¬eI D b a
noncomputable instance(D:DG)(a b:HT):Decidable (lV D a b):=Classical.propDecidable _
noncomputable instance(D:DG)(a b:HT):Decidable (eI D a b):=Classical.propDecidable _
noncomputable def bJ(D:DG)(l:List HT)(h:HT):List HT:=l.filter fun b=>decide (lV D b h)
def SO(G:GS)(l:List HT):Prop:=l.Pairwise fun a b=>gl G a b=true
noncomputable def oH(D:DG)(s:HT)(l:List HT):List HT:=(dd (dL D l++l)).filter fun h=>decide (h≠s/\¬eI D h s)
def vm(G:GS)(x:HT):List HT->List HT
 | []=> [x]
 |y::l=>if gl G x y then x::y::l else y::vm G x l
noncomputable def cf(G:GS)(s:HT)(l:List HT):List HT:=(oH G.D s l).foldr (vm G) []
noncomputable def lI(k:Nat)(D:DG)(wd:List HT)(h:HT):Bool:=decide ((bJ D wd h).length<=k/\∀y∈bJ D wd h,(bJ D wd y).length+1<=k)
structure VS where
 wd:List HT
 bl:List Bool
noncomputable def jR(k:Nat)(D:DG)(s:VS)(h:HT):VS:=⟨if lI k D s.wd h then s.wd++ [h]else s.wd,s.bl++ [lI k D s.wd h]⟩
noncomputable def dv(k:Nat)(G:GS)(s:HT)(l:List HT):VS:=(cf G s l).foldl (jR k G.D) ⟨G.world s++ [s],[]⟩
noncomputable def cG(k:Nat)(G:GS)(s:HT)(l:List HT):nW:=⟨s,G.score s+1+(dv k G s l).bl.count true,cf G s l,(dv k G s l).bl⟩
noncomputable def cO(k:Nat)(G:GS)(h:HT)(ps:List HT):GS:=
 if c9 G.D h ps=0 then⟨G.D++ [⟨h,dd ps⟩],G.P++ [(((pos (bR G ps) (ids G.D) 0).getD 0:Nat):Int)],G.qJ++ [cG k G (bR G ps) ps],G.jD++ [(dv k G (bR G ps) ps).wd]⟩else G
def cM(r:HT):GS:=⟨[⟨r,[]⟩],[-1],[⟨dU,0,[],[]⟩],[[]]⟩
def dG:List HT->List Bool->List HT
 |h::l,b::m=>if b then h::dG l m else dG l m
 |_,_=> []
theorem kZ(G:GS)(a:HT):gl G a a=false:=by simp [gl,gH]
theorem lF{G:GS}{a b c:HT}(h:gl G a b=true)(h':gl G b c=true):gl G a c=true:=by
 simp only [gl,Bool.or_eq_true,Bool.and_eq_true,decide_eq_true_eq]at*;rcases h with h|⟨h,h1⟩
 ·rcases h' with h'|⟨h',h2⟩
  ·exact .inl (by omega)
  ·exact .inl (by omega)
 ·rcases h' with h'|⟨h',h2⟩
  ·exact .inl (by omega)
  ·exact .inr ⟨by omega,jx h1 h2⟩
theorem lG{G:GS}{a b:HT}(h:gl G a b=false)(h':gl G b a=false):a=b:=by
 simp only [gl,Bool.or_eq_false_iff,Bool.and_eq_false_iff,decide_eq_false_iff_not]at*;have e:G.score a=G.score b:=by omega
 obtain⟨_,h2⟩:=h;obtain⟨_,h3⟩:=h';exact o9 (by rcases h2 with h2|h2;exact absurd e h2;exact h2) (by rcases h3 with h3|h3;exact absurd e.symm h3;exact h3)
theorem y7{G:GS}{a b:HT}(h:gl G a b=true):gl G b a=false:=by
 cases hb:gl G b a
 ·rfl
 ·have:=lF h hb
  rw [kZ]at this;cases this
theorem xn{G:GS}{a b:HT}:zm G a b<0↔gl G a b=true:=by
 unfold zm;split
 ·simp_all
 ·split<;>simp_all
theorem KG(G:GS)(a b:HT):zm G a b=if G.score a<G.score b then-1 else if G.score b<G.score a then 1 else km a b:=by
 unfold zm km gl;by_cases h1:G.score a<G.score b
 ·simp [h1]
 ·by_cases h2:G.score b<G.score a
  ·have:¬G.score a=G.score b:=by omega
   simp [h1,h2,this]
  ·have:G.score a=G.score b:=by omega
   simp [this]
theorem SO.cons{G:GS}{x:HT}{l:List HT}:SO G (x::l)↔(∀y∈l,gl G x y=true)/\SO G l:=List.pairwise_cons
theorem SO.nodup{G:GS}{l:List HT}(h:SO G l):l.Nodup:=List.Pairwise.imp (fun {a b} lD e=>by subst e;rw [kZ]at lD;cases lD) h
theorem Io{G:GS}:∀ {l m:List HT},SO G l->SO G m->(∀x,x∈l↔x∈m)->l=m
 | [],[],_,_,_=>rfl
 | [],y::m,_,_,h=>by have:=(h y).2 (by simp);simp at this
 |x::l,[],_,_,h=>by have:=(h x).1 (by simp);simp at this
 |x::l,y::m,hl,hm,h=>by
  rw [SO.cons]at hl hm;have nO:x=y:=by
   rcases List.mem_cons.1 ((h x).1 List.mem_cons_self)with e|e
   ·exact e
   ·rcases List.mem_cons.1 ((h y).2 List.mem_cons_self)with e'|e'
    ·exact e'.symm
    ·have h1:=hm.1 _ e
     have h2:=hl.1 _ e';rw [y7 h1]at h2;cases h2
  subst nO;have:l=m:=Io hl.2 hm.2 fun z=>by
   have hz:=h z;simp only [List.mem_cons]at hz;constructor
   ·intro mc
    rcases hz.1 (.inr mc)with e|e
    ·subst e;have:=hl.1 _ mc;rw [kZ]at this;cases this
    ·exact e
   ·intro mc
    rcases hz.2 (.inr mc)with e|e
    ·subst e;have:=hm.1 _ mc;rw [kZ]at this;cases this
    ·exact e
  rw [this]
theorem tZ{G:GS}{x z:HT}:∀ {l:List HT},z∈vm G x l↔z=x\/z∈l
 | []=>by simp [vm]
 |y::l=>by
  unfold vm;split
  ·simp
  ·simp only [List.mem_cons,tZ (l:=l)]
   constructor
   ·rintro(h|h|h)<;>simp [h]
   ·rintro(h|h|h)<;>simp [h]
theorem C7{G:GS}{x:HT}:∀ {l:List HT},SO G l->x∉l->SO G (vm G x l)
 | [],_,_=>by simp [vm,SO]
 |y::l,h,hx=>by
  have h':=SO.cons.1 h;simp only [List.mem_cons,not_or]at hx;unfold vm;split
  ·rename_i nO
   refine SO.cons.2 ⟨fun z hz=>?_,h⟩;rcases List.mem_cons.1 hz with rfl|hz
   ·exact nO
   ·exact lF nO (h'.1 _ hz)
  ·rename_i nO
   refine SO.cons.2 ⟨fun z hz=>?_,C7 h'.2 hx.2⟩;rcases tZ.1 hz with rfl|hz
   ·cases P6:gl G y z
    ·exact absurd (lG P6 (by simpa using nO)).symm hx.1
    ·rfl
   ·exact h'.1 _ hz
theorem mC{G:GS}{z:HT}:∀ {l:List HT},z∈l.foldr (vm G) []↔z∈l
 | []=>by simp
 |x::l=>by rw [List.foldr_cons,tZ,mC,List.mem_cons]
theorem zx{G:GS}:∀ {l:List HT},l.Nodup->SO G (l.foldr (vm G) [])
 | [],_=>List.Pairwise.nil
 |x::l,h=>by
  rw [List.nodup_cons]at h;exact C7 (zx h.2) fun e=>h.1 (mC.1 e)
theorem pR(D:DG)(s:HT)(l:List HT):(oH D s l).Nodup:=(iz _).nodup.filter _
theorem mB{D:DG}{s:HT}{l:List HT}{h:HT}:h∈oH D s l↔((h∈ids D/\∃p∈l,eI D h p)\/h∈l)/\h≠s/\¬eI D h s:=by
 unfold oH dL;rw [List.mem_filter,cZ,List.mem_append,iY,decide_eq_true_eq]
theorem ig{G:GS}{s:HT}{l:List HT}{h:HT}:h∈cf G s l↔((h∈ids G.D/\∃p∈l,eI G.D h p)\/h∈l)/\h≠s/\¬eI G.D h s:=by
 unfold cf;rw [mC,mB]
theorem jz(G:GS)(s:HT)(l:List HT):SO G (cf G s l):=zx (pR _ _ _)
theorem mz{G:GS}{s:HT}{l m:List HT}(hs:SO G m)(h:∀x,x∈m↔x∈oH G.D s l):m=cf G s l:=
 Io hs (jz G s l) fun x=>by unfold cf;rw [h,mC]
theorem fw{G:GS}:∀ {l:List HT},l≠ []->bR G l∈l
 |x::l,_=>by
  have key:∀(l:List HT) (b:HT),l.foldl (fun b y=>if gl G b y then y else b) b=b\/l.foldl (fun b y=>if gl G b y then y else b) b∈l:=by
   intro l
   induction l with
   |nil=>intro b;exact .inl rfl
   |cons y l ih=>
    intro b;simp only [List.foldl_cons];rcases ih (if gl G b y then y else b)with e|e
    ·rw [e]
     split
     ·exact .inr List.mem_cons_self
     ·exact .inl rfl
    ·exact .inr (List.mem_cons_of_mem _ e)
  rcases key l x with e|e
  ·rw [bR,e];exact List.mem_cons_self
  ·exact List.mem_cons_of_mem _ e
theorem fp(D:DG)(l m:List HT)(h:HT):bJ D (l++m) h=bJ D l h++bJ D m h:=List.filter_append ..
theorem eK{D:DG}{l:List HT}{h b:HT}:b∈bJ D l h↔b∈l/\lV D b h:=by unfold bJ;rw [List.mem_filter,decide_eq_true_eq]
theorem lV.symm{D:DG}{a b:HT}(h:lV D a b):lV D b a:=⟨h.1.symm,h.2.2,h.2.1⟩
theorem lH{x:HT}:∀ {m:List HT} {b:List Bool},x∈dG m b->x∈m
 |h::l,b::m,hx=>by
  unfold dG at hx;split at hx
  ·rcases List.mem_cons.1 hx with e|e
   ·rw [e];exact List.mem_cons_self
   ·exact List.mem_cons_of_mem _ (lH e)
  ·exact List.mem_cons_of_mem _ (lH hx)
 | [],_,hx=>by simp [dG]at hx
 |_::_,[],hx=>by simp [dG]at hx
theorem nh:∀ {m:List HT} {b:List Bool},m.Nodup->(dG m b).Nodup
 |h::l,b::m,hn=>by
  rw [List.nodup_cons]at hn;unfold dG;split
  ·exact List.nodup_cons.2 ⟨fun e=>hn.1 (lH e),nh hn.2⟩
  ·exact nh hn.2
 | [],_,_=>by simp [dG]
 |_::_,[],_=>by simp [dG]
theorem uR:∀ {m:List HT} {b:List Bool},b.length=m.length->(dG m b).length=b.count true
 |h::l,b::m,hn=>by
  have:=uR (m:=l) (b:=m) (by simpa using hn);unfold dG;cases b<;>simp [this]
 | [],[],_=>rfl
 | [],_::_,h=>by simp at h
 |_::_,[],h=>by simp at h
theorem sy{x:HT}{c:Bool}:∀ {m:List HT} {b:List Bool},b.length=m.length->dG (m++ [x]) (b++ [c])=dG m b++if c then [x]else []
 |h::l,b::m,hn=>by
  have:=sy (x:=x) (c:=c) (m:=l) (b:=m) (by simpa using hn);simp only [List.cons_append,dG,this];cases b<;>simp
 | [],[],_=>by cases c<;>simp [dG]
 | [],_::_,h=>by simp at h
 |_::_,[],h=>by simp at h
theorem FA(k:Nat)(D:DG)(wd:List HT):∀(m:List HT),∃b:List Bool,b.length=m.length/\m.foldl (jR k D) ⟨wd,[]⟩=⟨wd++dG m b,b⟩:=by
 intro m
 induction h:m.length generalizing m with
 |zero=>exact⟨[],by simp,by rw [List.length_eq_zero_iff.1 h];simp [dG]⟩
 |succ n ih=>
  have fg:m≠ []:=fun e=>by rw [e]at h;simp at h
  obtain⟨m',x,rfl⟩:∃m' x,m=m'++ [x]:=⟨m.dropLast,m.getLast fg,(List.dropLast_concat_getLast fg).symm⟩;obtain⟨b,h1,h2⟩:=ih m' (by simpa using h);have h1:b.length=m'.length:=by rw [List.length_append,List.length_cons,List.length_nil]at h;omega
  refine⟨b++ [lI k D (wd++dG m' b) x],by simp only [List.length_append,List.length_cons,List.length_nil]at h⊢;omega,?_⟩;rw [List.foldl_append,h2,List.foldl_cons,List.foldl_nil,sy h1];unfold jR;cases lI k D (wd++dG m' b) x<;>simp
theorem tq(k:Nat)(G:GS)(s:HT)(l:List HT):(dv k G s l).bl.length=(cf G s l).length/\(dv k G s l).wd=G.world s++ [s]++dG (cf G s l) (dv k G s l).bl:=by
 obtain⟨b,h1,h2⟩:=FA k G.D (G.world s++ [s]) (cf G s l);unfold dv;rw [h2];exact⟨h1,rfl⟩
structure gV(k:Nat)(G:GS):Prop where
 W:iS G.D
 jt:qV G.D G.P
 lc:G.qJ.length=G.D.length
 lw:G.jD.length=G.D.length
 root:∀nd,G.D[0]? =some nd->G.gm nd.id=⟨dU,0,[],[]⟩/\G.world nd.id= []
 up:∀s h,kH G.D G.P s h->(G.gm h).jt=s/\G.world h=G.world s++ [s]++dG (G.gm h).merge (G.gm h).dJ/\(G.gm h).dJ.length=(G.gm h).merge.length/\(G.gm h).merge.Nodup/\∀y,y∈(G.gm h).merge↔eI G.D y h/\y≠s/\¬eI G.D y s
 wd:∀h∈ids G.D,(G.world h).Nodup/\(∀b∈G.world h,eI G.D b h)/\G.score h=(G.world h).length
theorem GS.rL{G:GS}(W:iS G.D){i:Nat}{nd:DN}(h:G.D[i]? =some nd):G.at_ nd.id=some i:=W.pos_eq h
theorem GS.Pt{G:GS}(W:iS G.D){i:Nat}{nd:DN}{c:nW}(h:G.D[i]? =some nd)(hc:G.qJ[i]? =some c):G.gm nd.id=c:=by
 unfold GS.gm;rw [GS.rL W h];simp [hc]
theorem GS.Fs{G:GS}(W:iS G.D){i:Nat}{nd:DN}{c:List HT}(h:G.D[i]? =some nd)(hc:G.jD[i]? =some c):G.world nd.id=c:=by
 unfold GS.world;rw [GS.rL W h];simp [hc]
section
variable{k:Nat}{G:GS}{h:HT}{ps:List HT}
theorem ph(hc:c9 G.D h ps≠0):cO k G h ps=G:=by unfold cO;rw [if_neg hc]
theorem rP:(cO k G h ps).D=lP G.D h ps:=by
 unfold cO lP;split<;>rfl
theorem Ii:(cO k G h ps).D=mK G.D h (bR G ps) ps:=by
 rw [rP];unfold mK;by_cases hc:c9 G.D h ps=0
 ·have fg:=(jN hc).2.1
  have:gh G.D h (bR G ps) ps=0:=by unfold gh;rw [if_pos hc,if_pos (fw fg)]
  rw [if_pos this,oU hc]
 ·have:gh G.D h (bR G ps) ps≠0:=by unfold gh;rw [if_neg hc];exact hc
  rw [if_neg this];unfold lP;rw [if_neg hc]
theorem ET:gh G.D h (bR G ps) ps=c9 G.D h ps:=by
 unfold gh;split
 ·rename_i hc
  rw [if_pos (fw (jN hc).2.1),hc]
 ·rfl
theorem Ij:(cO k G h ps).P=mJ G.D G.P h (bR G ps) ps:=by
 unfold mJ cO;rw [ET];by_cases hc:c9 G.D h ps=0
 ·rw [if_pos hc,if_pos hc]
 ·rw [if_neg hc,if_neg hc]
theorem iL(hc:c9 G.D h ps=0):cO k G h ps=⟨G.D++ [⟨h,dd ps⟩],G.P++ [(((pos (bR G ps) (ids G.D) 0).getD 0:Nat):Int)],G.qJ++ [cG k G (bR G ps) ps],G.jD++ [(dv k G (bR G ps) ps).wd]⟩:=by
 unfold cO;rw [if_pos hc]
theorem BS(H:gV k G){s:HT}(hs:s∈ids G.D)(l:List HT)(hl:∀p∈l,p∈ids G.D):
 (dv k G s l).wd.Nodup/\(dv k G s l).wd.length=(cG k G s l).score/\∀y∈(dv k G s l).wd,y∈ids G.D/\(y=s\/eI G.D y s\/y∈cf G s l):=by
 obtain⟨h1,h2⟩:=tq k G s l;obtain⟨w1,w2,w3⟩:=H.wd s hs;have hm:∀y∈dG (cf G s l) (dv k G s l).bl,y∈ids G.D/\y≠s/\¬eI G.D y s:=fun y hy=>by
  obtain⟨e,h3,h4⟩:=ig.1 (lH hy);refine⟨?_,h3,h4⟩;rcases e with e|e
  ·exact e.1
  ·exact hl _ e
 rw [h2];refine⟨?_,?_,?_⟩
 ·refine List.nodup_append.2 ⟨List.nodup_append.2 ⟨w1,by simp,?_⟩,nh (jz G s l).nodup,?_⟩
  ·intro a ha b hb e
   have hb:b=s:=by simpa using hb
   subst hb;subst e;exact eI.irrefl H.W _ (w2 _ ha)
  ·intro a ha b hb e
   subst e;obtain⟨_,h3,h4⟩:=hm _ hb;rcases List.mem_append.1 ha with e|e
   ·exact h4 (w2 _ e)
   ·exact h3 (by simpa using e)
 ·unfold cG
  simp only [List.length_append,List.length_cons,List.length_nil,uR h1,w3]
 ·intro y hy
  rcases List.mem_append.1 hy with hy|hy
  ·rcases List.mem_append.1 hy with hy|hy
   ·exact⟨((w2 _ hy).mem H.W).1,.inr (.inl (w2 _ hy))⟩
   ·have:y=s:=by simpa using hy
    subst this;exact⟨hs,.inl rfl⟩
  ·exact⟨(hm _ hy).1,.inr (.inr (lH hy))⟩
theorem iq(H:gV k G){y:HT}(hy:y∈ids G.D):(cO k G h ps).gm y=G.gm y/\(cO k G h ps).world y=G.world y:=by
 by_cases hc:c9 G.D h ps=0
 ·obtain⟨hn,fg,eF,mQ⟩:=jN hc
  obtain⟨nd,sK,rfl⟩:=cU.1 hy;obtain⟨i,hi⟩:=List.getElem?_of_mem sK;have dW:=(lgeS hi).1;have Eo:(G.D++ [(⟨h,dd ps⟩:DN)])[i]? =some nd:=by rw [List.getElem?_append_left dW];exact hi
  have W':iS (cO k G h ps).D:=by rw [rP];exact H.W.add h ps
  rw [iL hc]at W'⊢;have e1:(⟨G.D++ [⟨h,dd ps⟩],G.P++ [(((pos (bR G ps) (ids G.D) 0).getD 0:Nat):Int)],G.qJ++ [cG k G (bR G ps) ps],G.jD++ [(dv k G (bR G ps) ps).wd]⟩:GS).at_ nd.id=some i:=GS.rL W' Eo;have e2:=GS.rL H.W hi;unfold GS.gm GS.world;rw [e1,e2];simp only [Option.bind_some];rw [List.getElem?_append_left (by rw [H.lc];exact dW),List.getElem?_append_left (by rw [H.lw];exact dW)];exact⟨rfl,rfl⟩
 ·rw [ph hc];exact⟨rfl,rfl⟩
theorem kr(H:gV k G)(hc:c9 G.D h ps=0):(cO k G h ps).gm h=cG k G (bR G ps) ps/\(cO k G h ps).world h=(dv k G (bR G ps) ps).wd:=by
 have W':iS (cO k G h ps).D:=by rw [rP];exact H.W.add h ps
 rw [iL hc]at W'⊢;have Eo:(G.D++ [(⟨h,dd ps⟩:DN)])[G.D.length]? =some ⟨h,dd ps⟩:=by rw [List.getElem?_append_right (Nat.le_refl _),Nat.sub_self];rfl
 have e1:(⟨G.D++ [⟨h,dd ps⟩],G.P++ [(((pos (bR G ps) (ids G.D) 0).getD 0:Nat):Int)],G.qJ++ [cG k G (bR G ps) ps],G.jD++ [(dv k G (bR G ps) ps).wd]⟩:GS).at_ h=some G.D.length:=GS.rL W' Eo;unfold GS.gm GS.world;rw [e1];simp only [Option.bind_some];rw [List.getElem?_append_right (by rw [H.lc];exact Nat.le_refl _),H.lc,Nat.sub_self,List.getElem?_append_right (by rw [H.lw];exact Nat.le_refl _),H.lw,Nat.sub_self];exact⟨rfl,rfl⟩
end
section
variable{k:Nat}{G:GS}{h:HT}{ps:List HT}
theorem jo(k:Nat)(r:HT):gV k (cM r):=by
 have e0:(cM r).at_ r=some 0:=GS.rL (G:=cM r) (iS.root r) (nd:=⟨r,[]⟩) rfl;have ec:(cM r).gm r=⟨dU,0,[],[]⟩:=by unfold GS.gm;rw [e0];rfl
 have ew:(cM r).world r= []:=by unfold GS.world;rw [e0];rfl
 refine⟨iS.root r,qV.one r,rfl,rfl,?_,?_,?_⟩
 ·intro nd eF
  have:nd=⟨r,[]⟩:=by simpa [cM]using eF.symm
  subst this;exact⟨ec,ew⟩
 ·rintro s h ⟨i,j,ni,m,h1,_,h3,_,_⟩
  exfalso;cases i with
  |zero=>simp [cM]at h3
  |succ i=>simp [cM]at h1
 ·intro h hm
  have:h=r:=by simpa [cM,ids]using hm
  subst this;refine⟨by rw [ew];simp,by rw [ew];simp,?_⟩;unfold GS.score;rw [ec,ew];rfl
theorem FN(H:gV k G)(hc:c9 G.D h ps=0):∃(j:Nat) (m:DN),G.D[j]? =some m/\m.id=bR G ps/\(pos (bR G ps) (ids G.D) 0).getD 0=j/\bR G ps∈ps/\bR G ps∈ids G.D:=by
 obtain⟨hn,fg,eF,mQ⟩:=jN hc;have h1:=fw (G:=G) fg;have h2:=mQ _ (cZ.2 h1);obtain⟨m,hm,e⟩:=cU.1 h2;obtain⟨j,hj⟩:=List.getElem?_of_mem hm;have h3:=H.W.pos_eq hj;rw [e]at h3;exact⟨j,m,hj,e,by rw [h3];rfl,h1,h2⟩
theorem zv(H:gV k G)(hc:c9 G.D h ps=0):(∀y,eI (G.D++ [⟨h,dd ps⟩]) y h↔∃p∈ps,y=p\/eI G.D y p)/\∀a b,b∈ids G.D->(eI (G.D++ [⟨h,dd ps⟩]) a b↔eI G.D a b):=by
 obtain⟨hn,fg,eF,mQ⟩:=jN hc;have W':iS (G.D++ [⟨h,dd ps⟩]):=by have:=H.W.add h ps;rwa [oU hc]at this
 have Eo:(G.D++ [(⟨h,dd ps⟩:DN)])[G.D.length]? =some ⟨h,dd ps⟩:=by rw [List.getElem?_append_right (Nat.le_refl _),Nat.sub_self];rfl
 have DR:∀a b,b∈ids G.D->(eI (G.D++ [⟨h,dd ps⟩]) a b↔eI G.D a b):=fun a b hb=>iK H.W hn hb;refine⟨fun y=>?_,DR⟩;rw [tm W' Eo y];constructor
 ·rintro⟨p,hp,e⟩
  exact⟨p,cZ.1 hp,e.imp_right fun e=>(DR _ _ (mQ _ hp)).1 e⟩
 ·rintro⟨p,hp,e⟩
  exact⟨p,cZ.2 hp,e.imp_right fun e=>(DR _ _ (mQ _ (cZ.2 hp))).2 e⟩
theorem gV.add(H:gV k G)(h:HT)(ps:List HT):gV k (cO k G h ps):=by
 by_cases hc:c9 G.D h ps=0
 ·obtain⟨hn,fg,eF,mQ⟩:=jN hc
  obtain⟨j,m,hj,hm,im,E8,CD⟩:=FN H hc;obtain⟨xw,DR⟩:=zv H hc;have hk:=fun y (hy:y∈ids G.D)=>iq (h:=h) (ps:=ps) H hy;obtain⟨nc,nw⟩:=kr H hc;obtain⟨v1,v2⟩:=tq k G (bR G ps) ps;obtain⟨u1,u2,u3⟩:=BS H CD ps (fun p hp=>mQ _ (cZ.2 hp));have W':iS (G.D++ [⟨h,dd ps⟩]):=by have:=H.W.add h ps;rwa [oU hc]at this
  have lY:qV (G.D++ [(⟨h,dd ps⟩:DN)]) (G.P++ [(j:Int)]):=H.jt.snoc hj (by rw [hm];exact cZ.2 E8) H.W.pos;generalize hs:bR G ps=s at*;have eG:=iL (k:=k) hc;rw [hs,im]at eG;have eD:(cO k G h ps).D=G.D++ [⟨h,dd ps⟩]:=by rw [eG]
  have eP:(cO k G h ps).P=G.P++ [(j:Int)]:=by rw [eG]
  refine⟨by rw [eD];exact W',by rw [eD,eP];exact lY,by rw [eG];simp [H.lc],by rw [eG];simp [H.lw],?_,?_,?_⟩
  ·intro nd sK
   rw [eD,List.getElem?_append_left H.W.pos]at sK;obtain⟨e1,e2⟩:=hk nd.id (cU.2 ⟨nd,List.mem_of_getElem? sK,rfl⟩);rw [e1,e2];exact H.root nd sK
  ·intro t y hy
   rw [eD,eP,mT H.W H.jt hn hj]at hy;rcases hy with hy|⟨rfl,rfl⟩
   ·have hp:=hy.par H.jt
    have Wj:y∈ids G.D:=((eI.one hp).mem H.W).2;have Sk:t∈ids G.D:=((eI.one hp).mem H.W).1;obtain⟨e1,e2⟩:=hk y Wj;obtain⟨_,e3⟩:=hk t Sk;obtain⟨g1,g2,g3,g4,g5⟩:=H.up t y hy;rw [e1,e2,e3,eD];refine⟨g1,g2,g3,g4,fun z=>?_⟩;rw [g5,DR _ _ Wj,DR _ _ Sk]
   ·show _/\_
    rw [nc,nw,hm,(hk s CD).2,eD];refine⟨rfl,v2,v1,(jz _ _ _).nodup,fun z=>?_⟩;show z∈cf G s ps↔_
    rw [ig,xw,DR _ _ CD];constructor
    ·rintro⟨e,h3,h4⟩
     refine⟨?_,h3,h4⟩;rcases e with⟨_,p,hp,e⟩|e
     ·exact⟨p,hp,.inr e⟩
     ·exact⟨z,e,.inl rfl⟩
    ·rintro⟨⟨p,hp,e⟩,h3,h4⟩
     refine⟨?_,h3,h4⟩;rcases e with rfl|e
     ·exact .inr hp
     ·exact .inl ⟨(e.mem H.W).1,p,hp,e⟩
  ·intro y hy
   rw [eD,kh]at hy;rcases List.mem_append.1 hy with hy|hy
   ·obtain⟨e1,e2⟩:=hk y hy
    obtain⟨g1,g2,g3⟩:=H.wd y hy;unfold GS.score;rw [e1,e2,eD];exact⟨g1,fun b hb=>(DR _ _ hy).2 (g2 b hb),g3⟩
   ·have:y=h:=by simpa using hy
    subst this;unfold GS.score;rw [nc,nw,eD];refine⟨u1,fun b hb=>?_,u2.symm⟩;obtain⟨_,e⟩:=u3 b hb;rw [xw];rcases e with rfl|e|e
    ·exact⟨b,E8,.inl rfl⟩
    ·exact⟨s,E8,.inr e⟩
    ·obtain⟨e,_,_⟩:=ig.1 e
     rcases e with⟨_,p,hp,e⟩|e
     ·exact⟨p,hp,.inr e⟩
     ·exact⟨b,e,.inl rfl⟩
 ·rw [ph hc];exact H
end
def lO(sz:HT->HT->Option Nat)(l:List HT)(b:HT):Nat:=(l.findSome? fun h=>sz h b).getD 0
def qy(ov:HT->Option Nat)(base:HT->Nat)(b:HT):Nat:=(ov b).getD (base b)
structure OV(D:DG)(wd:List HT)(ov:HT->Option Nat)(base:HT->Nat):Prop where
 kn:∀b∈wd,qy ov base b=(bJ D wd b).length
 Qz:∀b n,ov b=some n->b∈wd
noncomputable def yq(D:DG)(wd:List HT)(ov:HT->Option Nat)(base:HT->Nat)(h:HT):HT->Option Nat:=
 fun b=>if b∈bJ D wd h then some (qy ov base b+1)else if b=h then some (bJ D wd h).length else ov b
theorem OV.step{D:DG}{wd:List HT}{ov:HT->Option Nat}{base:HT->Nat}(H:OV D wd ov base){h:HT}(hn:h∉wd):OV D (wd++ [h]) (yq D wd ov base h) base:=by
 refine⟨fun b hb=>?_,fun b n e=>?_⟩
 ·rw [fp,List.length_append]
  unfold qy yq;by_cases hp:b∈bJ D wd h
  ·rw [if_pos hp]
   obtain⟨h1,h2⟩:=eK.1 hp;rw [Option.getD_some,H.kn b h1];have:bJ D [h] b= [h]:=by unfold bJ;rw [List.filter_cons_of_pos (by simpa using h2.symm)];rfl
   rw [this];rfl
  ·rw [if_neg hp]
   by_cases e:b=h
   ·subst e
    rw [if_pos rfl,Option.getD_some];have:bJ D [b] b= []:=by unfold bJ;rw [List.filter_cons_of_neg (by simpa using fun e:lV D b b=>e.1 rfl)];rfl
    rw [this];rfl
   ·rw [if_neg e]
    have hw:b∈wd:=by
     rcases List.mem_append.1 hb with hb|hb
     ·exact hb
     ·exact absurd (by simpa using hb) e
    have:bJ D [h] b= []:=by unfold bJ;rw [List.filter_cons_of_neg (by simpa using fun e':lV D h b=>hp (eK.2 ⟨hw,e'.symm⟩))];rfl
    rw [this];exact H.kn b hw
 ·unfold yq at e
  split at e
  ·rename_i hp
   exact List.mem_append_left _ (eK.1 hp).1
  ·split at e
   ·rename_i hb;subst hb;exact List.mem_append_right _ (by simp)
   ·exact List.mem_append_left _ (H.Qz b n e)
structure SZ(G:GS)(sz:HT->HT->Option Nat):Prop where
 kn:∀h l,h∈ids G.D->cY G.D G.P h l->∀b∈G.world h++ [h],lO sz l b=(bJ G.D (G.world h++ [h]) b).length
 Qz:∀h b n,sz h b=some n->b∈ids G.D
theorem SZ.ov{G:GS}{sz:HT->HT->Option Nat}(Z:SZ G sz){s:HT}(hs:s∈ids G.D){l:List HT}(hl:cY G.D G.P s l):OV G.D (G.world s++ [s]) (fun _=>none) (lO sz l):=
 ⟨fun b hb=>Z.kn s l hs hl b hb,fun b n e=>by cases e⟩
theorem Up.snoc{P:List Int}{p:Int}:∀ {i:Nat} {l:List Nat},Up P i l->Up (P++ [p]) i l:=by
 intro i l h
 induction h with
 |root=>exact .root
 |step h _ ih=>exact .step (by rw [List.getElem?_append_left (lgeS h).1];exact h) ih
theorem wi{D:DG}{nd:DN}{i:Nat}(h:i<D.length):nN (D++ [nd]) i=nN D i:=by unfold nN;rw [List.getElem?_append_left h]
theorem cY.snoc{D:DG}{P:List Int}(H:qV D P){nd:DN}{p:Int}{h:HT}{l:List HT}(hm:h∈ids D)(c:cY D P h l):cY (D++ [nd]) (P++ [p]) h l:=by
 rcases c with⟨hn,_⟩|⟨i,m,ks,h1,h2,h3,h4⟩
 ·exact absurd hm hn
 ·have dW:=(lgeS h1).1
  refine .inr ⟨i,m,ks,by rw [List.getElem?_append_left dW];exact h1,h2,h3.snoc,?_⟩;rw [h4];refine List.map_congr_left fun k hk=>(wi ?_).symm;have:=h3.lt H.par (by rw [H.len];exact dW) k hk
  rwa [H.len]at this
theorem cY.new{D:DG}{P:List Int}(W:iS D)(H:qV D P){nd m:DN}{j:Nat}(hj:D[j]? =some m){l:List HT}(c:cY D P m.id l):cY (D++ [nd]) (P++ [(j:Int)]) nd.id (nd.id::l):=by
 have hm:m.id∈ids D:=cU.2 ⟨m,List.mem_of_getElem? hj,rfl⟩;have c':=cY.snoc (nd:=nd) (p:=(j:Int)) H hm c;rcases c with⟨hn,_⟩|⟨i,m',ks,h1,h2,h3,h4⟩
 ·exact absurd hm hn
 ·have qF:=W.inj h1 hj h2
  subst qF;have e0:(D++ [nd])[D.length]? =some nd:=by rw [List.getElem?_append_right (Nat.le_refl _),Nat.sub_self];rfl
  refine .inr ⟨D.length,nd,D.length::ks,e0,rfl,.step (by rw [<-H.len,List.getElem?_append_right (Nat.le_refl _),Nat.sub_self];rfl) h3.snoc,?_⟩;rw [List.map_cons,mF e0,h4]
  congr 1
  refine List.map_congr_left fun k hk=>(wi ?_).symm;have:=h3.lt H.par (by rw [H.len];exact(lgeS h1).1) k hk
  rwa [H.len]at this
theorem mW{D D':DG}{l:List HT}{b:HT}(h:∀a∈l,lV D' a b↔lV D a b):bJ D' l b=bJ D l b:=by
 unfold bJ;exact List.filter_congr fun a ha=>by simp only [h a ha]
theorem SZ.root(r:HT):SZ (cM r) (fun _ _=>none):=by
 refine⟨fun h l hm _ b hb=>?_,fun h b n e=>by cases e⟩;have hh:h=r:=by simpa [cM,ids]using hm
 subst hh;have ew:(cM h).world h= []:=((jo 0 h).root ⟨h,[]⟩ rfl).2;rw [ew]at hb⊢;have:b=h:=by simpa using hb
 subst this;have:bJ (cM b).D ([]++ [b]) b= []:=by unfold bJ;rw [List.nil_append,List.filter_cons_of_neg (by simpa using fun e:lV (cM b).D b b=>e.1 rfl)];rfl
 rw [this];unfold lO;have:(l.findSome? fun _=>(none:Option Nat))=none:=by simp
 rw [this];rfl
theorem SZ.add{k:Nat}{G:GS}{sz:HT->HT->Option Nat}(Z:SZ G sz)(H:gV k G){h:HT}{ps:List HT}(hc:c9 G.D h ps=0){l:List HT}(hl:cY G.D G.P (bR G ps) l){ov:HT->Option Nat}
 (O:OV G.D (dv k G (bR G ps) ps).wd ov (lO sz l)):SZ (cO k G h ps) (fun y=>if y=h then ov else sz y):=by
 obtain⟨hn,fg,eF,mQ⟩:=jN hc;obtain⟨j,m,hj,hm,im,E8,CD⟩:=FN H hc;obtain⟨xw,DR⟩:=zv H hc;have H':=H.add h ps;obtain⟨nc,nw⟩:=kr H hc;obtain⟨u1,u2,u3⟩:=BS H CD ps (fun p hp=>mQ _ (cZ.2 hp));have eD:(cO k G h ps).D=G.D++ [⟨h,dd ps⟩]:=by rw [iL hc]
 have eP:(cO k G h ps).P=G.P++ [(j:Int)]:=by rw [iL hc,im]
 have W8:∀a b,a∈ids G.D->b∈ids G.D->(lV (G.D++ [⟨h,dd ps⟩]) a b↔lV G.D a b):=fun a b ha hb=>by unfold lV;rw [DR _ _ hb,DR _ _ ha]
 have lno:∀(y:HT) (l':List HT),y∈ids G.D->cY G.D G.P y l'->∀b,lO (fun y=>if y=h then ov else sz y) l' b=lO sz l' b:=fun y l' hy c b=>by
  unfold lO;have Wt:h∉l':=fun e=>hn ((c.mem H.W H.jt).1 e).mem.1;have key:∀l':List HT,h∉l'->(l'.findSome? fun y=>(if y=h then ov else sz y) b)=l'.findSome? fun y=>sz y b:=by
   intro l'
   induction l' with
   |nil=>intro _;rfl
   |cons y l' ih=>
    intro hq;simp only [List.mem_cons,not_or]at hq;rw [List.findSome?_cons,List.findSome?_cons,if_neg (fun e=>hq.1 e.symm),ih hq.2]
  rw [key l' Wt]
 refine⟨fun y l' hy c b hb=>?_,fun y b n e=>?_⟩
 ·rw [eD,eP]at c
  rw [eD]at hy⊢;rw [kh]at hy;have W':iS (G.D++ [⟨h,dd ps⟩]):=by have:=H'.W;rwa [eD]at this
  have S':qV (G.D++ [⟨h,dd ps⟩]) (G.P++ [(j:Int)]):=by have:=H'.jt;rwa [eD,eP]at this
  rcases List.mem_append.1 hy with hy|hy
  ·obtain⟨l0,c0⟩:=cY.ex H.jt y
   have:l'=l0:=c.one W' S' (c0.snoc H.jt hy);subst this;obtain⟨_,e2⟩:=iq (k:=k) (h:=h) (ps:=ps) H hy;rw [e2]at hb⊢;rw [lno y l' hy c0,Z.kn y l' hy c0 b hb];have fz:∀a∈G.world y++ [y],a∈ids G.D:=fun a ha=>by
    rcases List.mem_append.1 ha with ha|ha
    ·exact(((H.wd y hy).2.1 a ha).mem H.W).1
    ·have:a=y:=by simpa using ha
     subst this;exact hy
   rw [mW fun a ha=>W8 a b (fz a ha) (fz b hb)]
  ·have:y=h:=by simpa using hy
   subst this;have cn:=cY.new (nd:=⟨y,dd ps⟩) H.W H.jt hj (by rw [hm];exact hl);have:l'=y::l:=c.one W' S' cn;subst this;rw [nw]at hb⊢;have e1:lO (fun z=>if z=y then ov else sz z) (y::l) b=qy ov (lO sz l) b:=by
    have:=lno _ l CD hl b;unfold lO at this⊢;unfold qy;rw [List.findSome?_cons];cases Fa:ov b with
    |none=>simp only [if_true,Fa,Option.getD_none];exact this
    |some n=>simp only [if_true,Fa,Option.getD_some]
   rw [e1,fp,List.length_append];have Rl:∀a∈(dv k G (bR G ps) ps).wd,¬lV (G.D++ [⟨y,dd ps⟩]) a y:=fun a ha e=>by
    obtain⟨_,e'⟩:=u3 a ha;refine e.2.1 ((xw a).2 ?_);rcases e' with rfl|e'|e'
    ·exact⟨_,E8,.inl rfl⟩
    ·exact⟨_,E8,.inr e'⟩
    ·obtain⟨e',_,_⟩:=ig.1 e'
     rcases e' with⟨_,p,hp,e'⟩|e'
     ·exact⟨p,hp,.inr e'⟩
     ·exact⟨a,e',.inl rfl⟩
   rcases List.mem_append.1 hb with hb|hb
   ·have hbi:=(u3 b hb).1
    have:bJ (G.D++ [⟨y,dd ps⟩]) [y] b= []:=by unfold bJ;rw [List.filter_cons_of_neg (by simpa using fun e:lV _ y b=>Rl b hb e.symm)];rfl
    rw [this,O.kn b hb,mW fun a ha=>W8 a b (u3 a ha).1 hbi];rfl
   ·have:b=y:=by simpa using hb
    subst this;have e2:bJ (G.D++ [⟨b,dd ps⟩]) (dv k G (bR G ps) ps).wd b= []:=by
     unfold bJ;rw [List.filter_eq_nil_iff];intro a ha;simpa using Rl a ha
    have e3:bJ (G.D++ [⟨b,dd ps⟩]) [b] b= []:=by unfold bJ;rw [List.filter_cons_of_neg (by simpa using fun e:lV _ b b=>e.1 rfl)];rfl
    rw [e2,e3];have e4:ov b=none:=by
     cases Fa:ov b with
     |none=>rfl
     |some n=>exact absurd (u3 b (O.Qz b n Fa)).1 hn
    have e5:lO sz l b=0:=by
     unfold lO;have:(l.findSome? fun h=>sz h b)=none:=by
      rw [List.findSome?_eq_none_iff];intro y hy;cases G5:sz y b with
      |none=>rfl
      |some n=>exact absurd (Z.Qz y b n G5) hn
     rw [this];rfl
    unfold qy;rw [e4,e5];rfl
 ·rw [eD,kh]
  refine List.mem_append_left _ ?_;split at e
  ·exact(u3 b (O.Qz b n e)).1
  ·exact Z.Qz y b n e
noncomputable def xL(G:GS)(h:HT):List HT->List HT
 | []=> []
 |a::r=>(if lV G.D a h then [a]else [])++if eI G.D a h then []else bJ G.D (dG (G.gm a).merge (G.gm a).dJ) h++xL G h r
theorem Up.inv{P:List Int}{i:Nat}{l:List Nat}(h:Up P i l):(i=0/\l= [0])\/∃(j:Nat) (r:List Nat),l=i::r/\P[i]? =some (j:Int)/\Up P j r:=by
 cases h with
 |root=>exact .inl ⟨rfl,rfl⟩
 |step h1 h2=>exact .inr ⟨_,_,rfl,h1,h2⟩
theorem cY.inv{D:DG}{P:List Int}(W:iS D)(H:qV D P){h:HT}{l:List HT}(hm:h∈ids D)(c:cY D P h l):
 (l= [h]/\∃nd,D[0]? =some nd/\nd.id=h)\/∃(s:HT) (r:List HT),l=h::r/\kH D P s h/\s∈ids D/\cY D P s r:=by
 rcases c with⟨hn,_⟩|⟨i,m,ks,h1,h2,h3,h4⟩
 ·exact absurd hm hn
 ·rcases h3.inv with⟨rfl,rfl⟩|⟨j,r,rfl,h5,h6⟩
  ·refine .inl ⟨?_,m,h1,h2⟩
   rw [h4,List.map_cons,List.map_nil,mF h1,h2]
  ·have hj:j<D.length:=by
    cases i with
    |zero=>rw [H.root]at h5;simp only [Option.some.injEq]at h5;omega
    |succ i=>
     obtain⟨j',m',e,_,h7,_⟩:=H.up (i+1) _ m (by omega) h5 h1;have:=(lgeS h7).1;omega
   obtain⟨mj,Oo⟩:∃mj,D[j]? =some mj:=⟨_,List.getElem?_eq_getElem hj⟩;refine .inr ⟨mj.id,r.map (nN D),?_,⟨i,j,m,mj,h1,h2,h5,Oo,rfl⟩,cU.2 ⟨mj,List.mem_of_getElem? Oo,rfl⟩,.inr ⟨j,mj,r,Oo,rfl,h6,rfl⟩⟩;rw [h4,List.map_cons,mF h1,h2]
theorem Pq{k:Nat}{G:GS}(H:gV k G)(h:HT):∀(l:List HT) (s:HT),s∈ids G.D->cY G.D G.P s l->(xL G h l).Nodup/\∀y,y∈xL G h l↔y∈bJ G.D (G.world s++ [s]) h:=by
 intro l
 induction l with
 |nil=>
  intro s hs c;rcases c.inv H.W H.jt hs with⟨e,_⟩|⟨_,_,e,_⟩<;>cases e
 |cons a r ih=>
  intro s hs c;have key:∀(wb:List HT),G.world s=wb++dG (G.gm s).merge (G.gm s).dJ->(xL G h r).Nodup->(∀y,y∈xL G h r↔y∈bJ G.D wb h)->a=s->(xL G h (a::r)).Nodup/\∀y,y∈xL G h (a::r)↔y∈bJ G.D (G.world s++ [s]) h:=by
   rintro wb hw hn hy rfl;obtain⟨w1,w2,_⟩:=H.wd a hs;have ZZ:=eI.irrefl H.W a;rw [hw]at w1 w2⊢;rw [List.nodup_append]at w1;obtain⟨w3,w4,w5⟩:=w1;unfold xL;by_cases ha:eI G.D a h
   ·have JY:¬lV G.D a h:=fun e=>e.2.1 ha
    rw [if_pos ha,if_neg JY];refine⟨by simp,fun y=>?_⟩;simp only [List.append_nil,List.not_mem_nil,false_iff];intro e;obtain⟨e1,e2⟩:=eK.1 e;rcases List.mem_append.1 e1 with e1|e1
    ·exact e2.2.1 ((w2 y e1).trans ha)
    ·have:y=a:=by simpa using e1
     subst this;exact JY e2
   ·rw [if_neg ha]
    have hr:∀y∈xL G h r,y∈wb:=fun y e=>(eK.1 ((hy y).1 e)).1;refine⟨?_,fun y=>?_⟩
    ·refine List.nodup_append.2 ⟨by split<;>simp,List.nodup_append.2 ⟨w4.filter _,hn,?_⟩,?_⟩
     ·intro x hx z hz e
      subst e;exact w5 x (hr x hz) x (eK.1 hx).1 rfl
     ·intro x hx z hz e
      subst e;split at hx
      ·have:x=a:=by simpa using hx
       subst this;refine ZZ (w2 x ?_);rcases List.mem_append.1 hz with hz|hz
       ·exact List.mem_append_right _ (eK.1 hz).1
       ·exact List.mem_append_left _ (hr x hz)
      ·simp at hx
    ·rw [fp,fp]
     simp only [List.mem_append,hy];have e1:y∈(if lV G.D a h then [a]else [])↔y∈bJ G.D [a] h:=by
      unfold bJ;by_cases hp:lV G.D a h
      ·rw [if_pos hp,List.filter_cons_of_pos (by simpa using hp)];rfl
      ·rw [if_neg hp,List.filter_cons_of_neg (by simpa using hp)];rfl
     rw [e1];constructor
     ·rintro(e|e|e)
      ·exact .inr e
      ·exact .inl (.inr e)
      ·exact .inl (.inl e)
     ·rintro((e|e)|e)
      ·exact .inr (.inr e)
      ·exact .inr (.inl e)
      ·exact .inl e
  rcases c.inv H.W H.jt hs with⟨e,nd,h0,rfl⟩|⟨t,r',e,pq,ht,hc⟩
  ·obtain⟨r1,r2⟩:=H.root nd h0
   cases e;exact key [] (by rw [r2,r1];simp [dG]) (by simp [xL]) (fun y=>by simp [xL,bJ]) rfl
  ·cases e
   obtain⟨_,u2,_⟩:=H.up t a pq;obtain⟨i1,i2⟩:=ih t ht hc;exact key (G.world t++ [t]) u2 i1 i2 rfl
noncomputable def nH(G:GS)(h:HT)(bl l:List HT):List HT:=bJ G.D bl h++xL G h l
theorem KH{k:Nat}{G:GS}(H:gV k G){h s:HT}{l bl:List HT}(hs:s∈ids G.D)(hl:cY G.D G.P s l)(hn:(G.world s++ [s]++bl).Nodup):
 (nH G h bl l).Nodup/\(nH G h bl l).length=(bJ G.D (G.world s++ [s]++bl) h).length/\∀y,y∈nH G h bl l↔y∈bJ G.D (G.world s++ [s]++bl) h:=by
 obtain⟨h1,h2⟩:=Pq H h l s hs hl;have h0:=hn;rw [List.nodup_append]at hn;obtain⟨n1,n2,n3⟩:=hn;have hm:∀y,y∈nH G h bl l↔y∈bJ G.D (G.world s++ [s]++bl) h:=fun y=>by
  unfold nH;rw [fp,List.mem_append,List.mem_append,h2];exact Or.comm
 have eF:(nH G h bl l).Nodup:=by
  refine List.nodup_append.2 ⟨n2.filter _,h1,?_⟩;intro x hx z hz e;subst e;exact n3 x (eK.1 ((h2 x).1 hz)).1 x (eK.1 hx).1 rfl
 exact⟨eF,((List.perm_ext_iff_of_nodup eF (h0.filter _)).2 hm).length_eq,hm⟩
def qp(k:Nat)(kn:HT->Nat)(done:List HT)(b:HT):Bool:=decide (done.length+1<=k/\kn b<k)
def eQ(k:Nat)(kn:HT->Nat):List HT->List HT->Bool
 |_,[]=>true
 |done,b::l=>qp k kn done b&&eQ k kn (done++ [b]) l
theorem oT{k:Nat}{kn:HT->Nat}:∀ {l done:List HT},eQ k kn done l=true↔(l≠ []->done.length+l.length<=k)/\∀b∈l,kn b<k
 | [],done=>by simp [eQ]
 |b::l,done=>by
  unfold eQ qp;rw [Bool.and_eq_true,decide_eq_true_eq,oT];simp only [List.length_append,List.length_cons,List.length_nil,List.mem_cons,forall_eq_or_imp,ne_eq,reduceCtorEq,not_false_eq_true,forall_const];constructor
  ·rintro⟨⟨h1,h2⟩,h3,h4⟩
   refine⟨?_,h2,h4⟩;by_cases e:l= []
   ·subst e;simpa using h1
   ·have:=h3 e;omega
  ·rintro⟨h1,h2,h3⟩
   refine⟨⟨by omega,h2⟩,fun _=>by omega,h3⟩
theorem lJ{k:Nat}{kn:HT->Nat}:∀ {l m done:List HT},eQ k kn done (l++m)=(eQ k kn done l&&eQ k kn (done++l) m)
 | [],m,done=>by simp [eQ]
 |b::l,m,done=>by
  simp only [List.cons_append,eQ,lJ (l:=l),Bool.and_assoc,List.append_assoc,List.nil_append]
theorem H4{k:Nat}{D:DG}{wd:List HT}{kn:HT->Nat}{h:HT}{c:List HT}(hk:∀b∈wd,kn b=(bJ D wd b).length)(hl:c.length=(bJ D wd h).length)(hm:∀y,y∈c↔y∈bJ D wd h):
 eQ k kn [] c=lI k D wd h:=by
 rw [Bool.eq_iff_iff,oT];unfold lI;rw [decide_eq_true_eq];simp only [List.length_nil,Nat.zero_add,<-hl];constructor
 ·rintro⟨h1,h2⟩
  refine⟨?_,fun y hy=>?_⟩
  ·by_cases e:c= []
   ·subst e;simp
   ·exact h1 e
  ·have:=h2 y ((hm y).2 hy)
   rw [hk y (eK.1 hy).1]at this;omega
 ·rintro⟨h1,h2⟩
  refine⟨fun _=>h1,fun y hy=>?_⟩;have hy:=(hm y).1 hy;rw [hk y (eK.1 hy).1];have:=h2 y hy;omega
open Go.RowKit
theorem Gh:vF eB eT (.pointer none):=⟨by kernel_rfl,sX (by kernel_rfl)⟩
theorem qu:vF ck fR (.int .i64 0):=⟨by kernel_rfl,sX (by kernel_rfl)⟩
structure Bo(w:World)(A:Option Addr)(n:Nat)(l:List Bool):Prop where
 len:l.length=n
 at_:∀(i:Nat) (b:Bool),l[i]? =some b->∃a,A=some a/\a.block<w.heap.size/\w.cell? (a.add i)=some (.bool b)
theorem Bo.aD{S:Nat->Prop}{w w':World}{A:Option Addr}{n:Nat}{l:List Bool}(h:Bo w A n l)(hk:Kept S w w')(hn:∀a,A=some a->¬S a.block):Bo w' A n l:=⟨h.len,fun i x hi=>by
 obtain⟨a,h1,h2,h3⟩:=h.at_ i x hi;exact⟨a,h1,Nat.lt_of_lt_of_le h2 hk.size,hk.cell h3 (by rw [ee];exact hn a h1)⟩⟩
theorem Bo.same{w w':World}{A:Option Addr}{n:Nat}{l:List Bool}(h:Bo w A n l)(hk:Kept Nil w w'):Bo w' A n l:=h.aD hk fun _ _ h=>h
def Je(ov:HT->Option Nat)(b:HT):Option Value:=(ov b).map fun n:Nat=>.int .i64 (n:Int)
def EV(w:World)(F:Nat->Prop)(sm:Option Nat)(sz:HT->Option Nat):Prop:=
 (sm=none/\∀b,sz b=none)\/∃s,sm=some s/\F s/\fj w s (Je sz)
def cD(c:nW)(A:Option Addr)(n cp:Nat)(B:Option Addr)(m cq:Nat):Array Value:=c.jt.1++ #[.int .u64 (c.score:Int),.slice A n cp,.slice B m cq]
structure pI(w:World)(F:Nat->Prop)(q:Nat)(c:nW)(sz:HT->Option Nat)(A:Option Addr)(n cp:Nat)(B:Option Addr)(m cq:Nat)(sm:Option Nat):Prop where
 top:w.heap[q]? =some (.cells (cD c A n cp B m cq++ #[.map sm]) dH (0,0))
 mg:HS w A n c.merge
 bl:Bo w B m c.dJ
 fA:∀a,A=some a->F a.block
 fB:∀a,B=some a->F a.block
 sz:EV w F sm sz
 fq:F q
def Seen(w:World)(F:Nat->Prop)(q:Nat)(c:nW)(sz:HT->Option Nat):Prop:=∃A n cp B m cq sm,pI w F q c sz A n cp B m cq sm
section
variable{w w':World}{F S:Nat->Prop}{q:Nat}{c:nW}{sz:HT->Option Nat}{A B:Option Addr}{n cp m cq:Nat}{sm:Option Nat}
theorem EV.aD(h:EV w F sm sz)(hk:Kept S w w')(hF:∀j,F j->¬S j):EV w' F sm sz:=by
 rcases h with h|⟨s,h1,h2,h3⟩
 ·exact .inl h
 ·exact .inr ⟨s,h1,h2,h3.aD hk (hF _ h2)⟩
theorem pI.aD(h:pI w F q c sz A n cp B m cq sm)(hk:Kept S w w')(hF:∀j,F j->¬S j):pI w' F q c sz A n cp B m cq sm:=
 ⟨hk.heap h.top (hF _ h.fq),h.mg.aD hk (fun a ha=>hF _ (h.fA a ha)),h.bl.aD hk (fun a ha=>hF _ (h.fB a ha)),h.fA,h.fB,h.sz.aD hk hF,h.fq⟩
theorem Seen.aD(h:Seen w F q c sz)(hk:Kept S w w')(hF:∀j,F j->¬S j):Seen w' F q c sz:=by
 obtain⟨A,n,cp,B,m,cq,sm,h⟩:=h;exact⟨A,n,cp,B,m,cq,sm,h.aD hk hF⟩
theorem aW(c:nW)(A:Option Addr)(n cp:Nat)(B:Option Addr)(m cq:Nat):(cD c A n cp B m cq).size=35:=by
 unfold cD;rw [Array.size_append,c.jt.2.1];rfl
theorem fe(c:nW)(A:Option Addr)(n cp:Nat)(B:Option Addr)(m cq:Nat)(r:Array Value):
 ((cD c A n cp B m cq)++r)[32]? =some (.int .u64 (c.score:Int))/\((cD c A n cp B m cq)++r)[33]? =some (.slice A n cp)/\((cD c A n cp B m cq)++r)[34]? =some (.slice B m cq)/\((cD c A n cp B m cq)++r)[35]? =r[0]? :=by
 have hs:=aW c A n cp B m cq;have h0:c.jt.1.size=32:=c.jt.2.1;refine⟨?_,?_,?_,?_⟩
 ·rw [Array.getElem?_append_left (by omega)];unfold cD;rw [Array.getElem?_append_right (by omega),h0];rfl
 ·rw [Array.getElem?_append_left (by omega)];unfold cD;rw [Array.getElem?_append_right (by omega),h0];rfl
 ·rw [Array.getElem?_append_left (by omega)];unfold cD;rw [Array.getElem?_append_right (by omega),h0];rfl
 ·rw [Array.getElem?_append_right (by omega),hs]
theorem pI.Vx(h:pI w F q c sz A n cp B m cq sm):w.cell? (((⟨q,0,none⟩:Addr).add 0).add 32)=some (.int .u64 (c.score:Int)):=by
 rw [add_zero,a7,ay h.top];exact(fe ..).1
theorem pI.c35(h:pI w F q c sz A n cp B m cq sm):w.cell? ((⟨q,0,none⟩:Addr).add 35)=some (.map sm):=by
 rw [a7,ay h.top];exact(fe ..).2.2.2
theorem pI.gm(h:pI w F q c sz A n cp B m cq sm):Cells w ((⟨q,0,none⟩:Addr).add 0) (cD c A n cp B m cq):=by
 intro j u hj;rw [add_zero,a7,ay h.top,Array.getElem?_append_left (by rw [aW];have:=(Array.getElem?_eq_some_iff.1 hj).1;rw [aW]at this;omega)];rw [Nat.zero_add];exact hj
end
structure CM where
 x:Nat
 mb:Nat
 SX:Nat->Prop
 FX:Nat->Prop
 q:HT->Nat
 sz:HT->HT->Option Nat
def CM.own(m:CM)(c j:Nat):Prop:=m.SX j\/j=c\/j=m.mb
structure CV(w:World)(F:Nat->Prop)(c:Nat)(k:Nat)(G:GS)(m:CM):Prop where
 top:w.heap[c]? =some (.cells #[.int .i64 (k:Int),.pointer (some ⟨m.x,0,none⟩),.map (some m.mb)] gu (0,0))
 X:BI w m.SX m.FX m.x G.D G.P
 all:fj w m.mb fun h=>if h∈ids G.D then some (.pointer (some ⟨m.q h,0,none⟩))else none
 seen:∀h∈ids G.D,Seen w F (m.q h) (G.gm h) (m.sz h)
 eM:gV k G
 Z:SZ G m.sz
 fx:∀j,m.FX j->F j
 fo:∀j,F j->¬m.own c j
 so:∀j,m.SX j->j≠c/\j≠m.mb
 ne:c≠m.mb
 low:∀j,m.own c j\/F j->j<w.heap.size
section
variable{w w':World}{F S:Nat->Prop}{c k:Nat}{G:GS}{m:CM}{K:Value->World->Prop}
theorem CV.aD{S0:Nat->Prop}(h:CV w F c k G m)(hk:Kept S0 w w')(hS:∀j,m.own c j->¬S0 j)(hF:∀j,F j->¬S0 j):CV w' F c k G m where
 top:=hk.heap h.top (hS _ (.inr (.inl rfl)))
 X:=h.X.aD hk (fun j e=>hS j (.inl e)) (fun j e=>hF j (h.fx j e))
 all:=h.all.aD hk (hS _ (.inr (.inr rfl)))
 seen:=fun y hy=>(h.seen y hy).aD hk hF
 eM:=h.eM
 Z:=h.Z
 fx:=h.fx
 fo:=h.fo
 so:=h.so
 ne:=h.ne
 low:=fun j e=>Nat.lt_of_lt_of_le (h.low j e) hk.size
theorem CV.same(h:CV w F c k G m)(hk:Kept Nil w w'):CV w' F c k G m:=h.aD hk (fun _ _ h=>h) (fun _ _ h=>h)
theorem CV.c0(h:CV w F c k G m):w.cell? ((⟨c,0,none⟩:Addr).add 0)=some (.int .i64 (k:Int)):=by rw [a7,ay h.top];rfl
theorem CV.c1(h:CV w F c k G m):w.cell? ((⟨c,0,none⟩:Addr).add 1)=some (.pointer (some ⟨m.x,0,none⟩)):=by rw [a7,ay h.top];rfl
theorem CV.c2(h:CV w F c k G m):w.cell? ((⟨c,0,none⟩:Addr).add 2)=some (.map (some m.mb)):=by rw [a7,ay h.top];rfl
theorem CV.look(h:CV w F c k G m)(y:HT):(Instr.lookup eB (.map (some m.mb)) (.agg y.1) false).run prog w=.ok (.pointer (if y∈ids G.D then some ⟨m.q y,0,none⟩else none)) w:=by
 have:=h.all.look Gh y;by_cases hy:y∈ids G.D
 ·rw [if_pos hy]at this;rw [if_pos hy];exact this
 ·rw [if_neg hy]at this;rw [if_neg hy];exact this
theorem CV.nu(h:CV w F c k G m){y:HT}(hy:y∈ids G.D):(Instr.lookup eB (.map (some m.mb)) (.agg y.1) false).run prog w=.ok (.pointer (some ⟨m.q y,0,none⟩)) w:=by
 have:=h.look y;rwa [if_pos hy]at this
theorem oN(h:CV w F c k G m)(hK:K (.bool true) w):bj prog dM.id #[.pointer (some ⟨c,0,none⟩)] w K:=
 dM.of (Split.yes rfl ⟨_,h.c1,hK⟩)
theorem EF{A:Addr}{x y:Int}{cx:Nat}(h0:w.cell? A=some (.int .i64 x))(h1:w.cell? (A.add 1)=some (.int .i64 y))(hK:K (.int .i64 (if x=0 then y else x)) w):
 bj prog bA.id #[.slice (some A) 2 cx] w K:=by
 refine bA.of ?_;unfold bA.W;refine bA.b7 (I:=fun s w'=>w'=w/\((s=(0,0))\/(s=(0,1)/\x=0)\/(s=(0,2)/\x=0/\y=0))) (μ:=fun s _=>(2-s.2).toNat) (s:=(0,0)) ⟨rfl,.inl rfl⟩ ?_;rintro s w' ⟨rfl,h⟩;rcases h with rfl|⟨rfl,hx⟩|⟨rfl,hx,hy⟩
 ·refine Split.yes rfl ⟨by simp only;omega,x,by rw [show(0:Int).toNat*1=0 from rfl,add_zero];exact h0,?_⟩
  by_cases hx:x=0
  ·refine Split.no (by simp [hx]) ?_
   exact⟨(0,1),rfl,⟨rfl,.inr (.inl ⟨rfl,hx⟩)⟩,by simp only;omega⟩
  ·refine Split.yes (by simpa using hx) ?_
   rw [if_neg hx]at hK;rw [hZ];exact hK
 ·refine Split.yes rfl ⟨by simp only;omega,y,h1,?_⟩
  rw [if_pos hx]at hK;by_cases hy:y=0
  ·refine Split.no (by simp [hy]) ?_
   exact⟨(0,2),rfl,⟨rfl,.inr (.inr ⟨rfl,hx,hy⟩)⟩,by simp only;omega⟩
  ·refine Split.yes (by simpa using hy) ?_
   rw [hZ];exact hK
 ·refine Split.no rfl ?_
  rw [aQ,bA.c8];rw [if_pos hx,hy]at hK;exact hK
theorem Bq{x y:Int}(hK:K (.int .i64 (if x<y then-1 else if y<x then 1 else 0)) w):bj prog dq.id #[.int .u64 x,.int .u64 y] w K:=by
 refine dq.of ?_;refine eV.of ⟨_,rfl,?_⟩;refine eV.of ⟨_,rfl,?_⟩;refine Split.no (by simp) (Split.no (by simp) (Split.dec (fun h=>?_) (fun h=>Split.dec (fun h'=>?_) (fun h'=>?_))))
 ·rw [if_pos h]at hK;exact hK
 ·rw [if_neg h,if_pos h']at hK;exact hK
 ·rw [if_neg h,if_neg h']at hK;exact hK
theorem oO(h:CV w F c k G m){a b:HT}(ha:a∈ids G.D)(hb:b∈ids G.D)(hK:∀w',Kept Nil w w'->K (.int .i64 (zm G a b)) w'):
 bj prog bn.id #[.pointer (some ⟨c,0,none⟩),.agg a.1,.agg b.1] w K:=by
 refine bn.of ?_;unfold bn.W;intro w4 w5 w6;have k4:Kept Nil w w4:=(Kept.refl _ _).alloc _;have xi:w4.heap[w.heap.size]? =some (.cells a.1 aj (0,0)):=aJ w _;have k5:Kept Nil w4 w5:=(Kept.refl _ _).alloc _;have mZ:w5.heap[w4.heap.size]? =some (.cells b.1 aj (0,0)):=aJ w4 _;have k6:Kept Nil w5 w6:=(Kept.refl _ _).drew;clear_value w6;have vt:=(k5.tt k6).heap xi (fun h=>h);have pv:=k6.heap mZ (fun h=>h);have nx:=(k4.tt k5).tt k6;have h6:=h.same nx;obtain⟨A1,n1,c1,B1,m1,d1,s1,sa⟩:=h6.seen a ha;obtain⟨A2,n2,c2,B2,m2,d2,s2,sb⟩:=h6.seen b hb;refine⟨_,h6.c2,a.1,⟨a.2.1,Cells.bC vt⟩,_,h6.nu ha,_,sa.Vx,_,h6.c2,b.1,⟨b.2.1,Cells.bC pv⟩,_,h6.nu hb,_,sb.Vx,a.1,⟨a.2.1,Cells.bC vt⟩,b.1,⟨b.2.1,Cells.bC pv⟩,?_⟩;refine Bq ⟨_,rfl,⟨b.1,rfl,b.2.1,Cells.bC pv⟩,⟨a.1,rfl,a.2.1,Cells.bC vt⟩,?_⟩;refine oR a b ⟨_,rfl,?_⟩;have k7:Kept Nil w6 ((w6.alloc (.cells a.1 aj)).alloc (.cells b.1 aj)).drew:=(((Kept.refl Nil w6).alloc _).alloc _).drew;generalize ((w6.alloc (.cells a.1 aj)).alloc (.cells b.1 aj)).drew=w7 at k7⊢;intro w8;have k8:Kept Nil w7 w8:=(Kept.refl _ _).alloc _;have Qu:w8.heap[w7.heap.size]? =some (.cells _ _ (0,0)):=aJ w7 _;clear_value w8;refine EF (A:=⟨w7.heap.size,0,none⟩) (by rw [ay Qu];rfl) (by rw [a7,ay Qu];rfl) ⟨_,rfl,?_⟩;have e:(if(if((G.gm a).score:Int)<((G.gm b).score:Int)then(-1:Int)else if((G.gm b).score:Int)<((G.gm a).score:Int)then 1 else 0)=0 then km a b else if((G.gm a).score:Int)<((G.gm b).score:Int)then(-1:Int)else if((G.gm b).score:Int)<((G.gm a).score:Int)then 1 else 0)=zm G a b:=by
  rw [KG];unfold GS.score;by_cases h1:(G.gm a).score<(G.gm b).score
  ·have sj:((G.gm a).score:Int)<((G.gm b).score:Int):=by omega
   rw [if_pos h1,if_pos sj,if_neg (by decide)]
  ·have sj:¬((G.gm a).score:Int)<((G.gm b).score:Int):=by omega
   by_cases h2:(G.gm b).score<(G.gm a).score
   ·have uv:((G.gm b).score:Int)<((G.gm a).score:Int):=by omega
    rw [if_neg h1,if_neg sj,if_pos h2,if_pos uv,if_neg (by decide)]
   ·have uv:¬((G.gm b).score:Int)<((G.gm a).score:Int):=by omega
    rw [if_neg h1,if_neg sj,if_neg h2,if_neg uv,if_pos rfl]
 rw [e];exact hK _ ((nx.tt k7).tt k8)
end
section
variable{w:World}
theorem fj.Cm{mt te:TypeId}{z:Value}(T:vF mt te z){m:Nat}{f:HT->Option Value}(hm:fj w m f)(h:HT):
 (Instr.lookup mt (.map (some m)) (.agg h.1) true).run prog w=.ok (.tuple #[(f h).getD z,.bool (f h).isSome]) w:=by
 obtain⟨es,clock,l,h1,h2,h3,_⟩:=hm.ex;have h4:=kO h w h2;have h5:=lT h l 0;rw [h3]at h5;simp only [Instr.lookup,Sem.run_bind,run_underlying T.nY,oP h1,Result.andThen_ok,Sem.run_pure,iG,h4];cases hp:kN h l 0 with
 |none=>rw [hp]at h5;simp [<-h5,T.zero]
 |some p=>rw [hp]at h5;simp [<-h5]
theorem Aj{mt te:TypeId}{z:Value}(T:vF mt te z)(h:HT):
 (Instr.lookup mt (.map none) (.agg h.1) true).run prog w=.ok (.tuple #[z,.bool false]) w:=by
 have h3:=kO (es:= []) (l:= []) h w trivial;simp only [Instr.lookup,Sem.run_bind,run_underlying T.nY,Result.andThen_ok,Sem.run_pure,iG];simp [h3,kN,T.zero]
theorem EV.Cm{F:Nat->Prop}{sm:Option Nat}{sz:HT->Option Nat}(h:EV w F sm sz)(b:HT):
 (Instr.lookup ck (.map sm) (.agg b.1) true).run prog w=.ok (.tuple #[.int .i64 (((sz b).getD 0:Nat):Int),.bool (sz b).isSome]) w:=by
 rcases h with⟨rfl,h⟩|⟨s,rfl,_,h⟩
 ·rw [h b];exact Aj qu b
 ·have:=h.Cm qu b
  unfold Je at this;cases hb:sz b with
  |none=>rw [hb]at this;exact this
  |some n=>rw [hb]at this;exact this
end
section
variable{w w':World}{F S:Nat->Prop}{c k:Nat}{G:GS}{m:CM}{K:Value->World->Prop}
theorem zc(h:CV w F c k G m)(hD:G.D.length<=5000)(a b:HT)(hK:∀w' (r:Bool),(r=true↔lV G.D a b)->Kept Nil w w'->K (.bool r) w'):
 bj prog cV.id #[.pointer (some ⟨c,0,none⟩),.agg a.1,.agg b.1] w K:=by
 refine cV.of ?_;unfold cV.W;intro w4 w5 w6;have k4:Kept Nil w w4:=(Kept.refl _ _).alloc _;have xi:w4.heap[w.heap.size]? =some (.cells a.1 aj (0,0)):=aJ w _;have k5:Kept Nil w4 w5:=(Kept.refl _ _).alloc _;have mZ:w5.heap[w4.heap.size]? =some (.cells b.1 aj (0,0)):=aJ w4 _;have k6:Kept Nil w5 w6:=(Kept.refl _ _).drew;clear_value w6;have vt:=(k5.tt k6).heap xi (fun h=>h);have pv:=k6.heap mZ (fun h=>h);have nx:=(k4.tt k5).tt k6;have h6:=h.same nx;refine⟨a.1,⟨a.2.1,Cells.bC vt⟩,b.1,⟨b.2.1,Cells.bC pv⟩,⟨a.2.ints,b.2.ints⟩,?_⟩;rw [dz];by_cases lD:a=b
 ·refine Split.no (by rw [decide_eq_true lD];rfl) (hK w6 false ⟨(fun e=>by cases e),fun e=>absurd lD e.1⟩ nx)
 ·refine Split.yes (by rw [decide_eq_false lD];rfl) ⟨_,h6.c1,a.1,⟨a.2.1,Cells.bC vt⟩,b.1,⟨b.2.1,Cells.bC pv⟩,?_⟩
  obtain⟨mx,X6,_⟩:=h6.X;refine kQ X6 hD a b fun w7 r hr k7=>⟨_,rfl,?_⟩;have rr:=nx.tt k7;cases r with
  |true=>exact Split.no rfl (hK w7 false ⟨(fun e=>by cases e),fun e=>absurd (hr.1 rfl) e.2.1⟩ rr)
  |false=>
   have h7:=h.same rr;refine Split.yes rfl ⟨_,h7.c1,b.1,⟨b.2.1,Cells.bC (k7.heap pv (fun h=>h))⟩,a.1,⟨a.2.1,Cells.bC (k7.heap vt (fun h=>h))⟩,?_⟩;obtain⟨mx',X7,_⟩:=h7.X;refine kQ X7 hD b a fun w8 r' Qf k8=>⟨_,rfl,hK w8 _ ?_ (rr.tt k8)⟩;cases r' with
   |true=>exact⟨(fun e=>by cases e),fun e=>absurd (Qf.1 rfl) e.2.2⟩
   |false=>exact⟨fun _=>⟨lD,(fun e=>by have:=hr.2 e;cases this),(fun e=>by have:=Qf.2 e;cases this)⟩,fun _=>rfl⟩
def mD(D:DG)(l:List HT):Int:=if l= []then 9 else if ∃p∈l,p∉ids D then 6 else 0
theorem Ex(h:CV w F c k G m){A:Option Addr}{n cx:Nat}{l:List HT}(hl:HS w A n l)(hn:n<=400000)(hK:∀w',Kept Nil w w'->K (.int .i64 (mD G.D l)) w'):
 bj prog dQ.id #[.pointer (some ⟨c,0,none⟩),.slice A n cx] w K:=by
 have hlen:=hl.len;refine dQ.of ?_;unfold dQ.W;intro w4;have k4:Kept Nil w w4:=(Kept.refl _ _).alloc _;have OW:w4.heap[w.heap.size]? =some (.cells #[.pointer (some ⟨c,0,none⟩)] gD (0,0)):=aJ w _;clear_value w4;refine⟨some ⟨c,0,none⟩,by rw [ay OW];rfl,oN (h.same k4) ⟨_,rfl,Split.no rfl ?_⟩⟩;by_cases h0:n=0
 ·subst h0
  have e:l= []:=List.eq_nil_of_length_eq_zero hlen;refine Split.yes rfl ?_;have:=hK w4 k4;unfold mD at this;rw [if_pos e]at this;exact this
 ·have fg:l≠ []:=fun e=>by subst e;exact h0 hlen.symm
  refine Split.no (by simpa using (by omega:¬(n:Int)=0)) ?_;refine bU.of (al.of ?_);refine al.b7 (I:=fun s w'=>∃i:Nat,s=(0,(i:Int))/\i<=n/\(∀p∈l.take i,p∈ids G.D)/\Kept Nil w4 w') (μ:=fun s _=>((n:Int)-s.2).toNat) (s:=(0,0)) ⟨0,rfl,Nat.zero_le _,by simp,Kept.refl _ _⟩ ?_;rintro s w' ⟨i,rfl,hi,cR,kw⟩;have k0w:=k4.tt kw;refine Split.dec (fun iU=>?_) (fun fU=>?_)
  ·simp only at iU
   have dW:i<n:=by omega
   obtain⟨y,hy⟩:∃y,l[i]? =some y:=⟨_,List.getElem?_eq_getElem (by omega)⟩;refine(hl.same k0w).load (i:=(i:Int)) (by omega) hy ?_;refine dT.of ?_;unfold dT.W;intro w7 w8;have k7:Kept Nil w' w7:=(Kept.refl _ _).alloc _;have hb7:w7.heap[w'.heap.size]? =some (.cells y.1 aj (0,0)):=aJ w' _;have k8:Kept Nil w7 w8:=(Kept.refl _ _).drew;clear_value w8;have Qu:=k8.heap hb7 (fun h=>h);have PX:=(kw.tt k7).tt k8;have h8:=h.same (k4.tt PX);refine⟨some ⟨c,0,none⟩,by rw [ay (PX.heap OW (fun h=>h))];rfl,_,h8.c2,y.1,⟨y.2.1,Cells.bC Qu⟩,_,h8.look y,_,rfl,?_⟩;by_cases hm:y∈ids G.D
   ·refine Split.no (by rw [if_pos hm];rfl) ?_
    simp only;rw [dh (n:=(i:Int)) (by omega) (by omega)];refine⟨(0,(i:Int)+1),rfl,⟨i+1,rfl,dW,fun p hp=>?_,PX⟩,by simp only;omega⟩;rcases(bG hy).1 hp with hp|rfl
    ·exact cR p hp
    ·exact hm
   ·refine Split.yes (by rw [if_neg hm];rfl) ?_
    refine⟨(i:Int),rfl,_,rfl,?_⟩;have:=hK w8 (k4.tt PX);unfold mD at this;rw [if_neg fg,if_pos ⟨y,List.mem_of_getElem? hy,hm⟩]at this;refine Split.yes (decide_eq_true (by omega)) this
  ·simp only at fU
   rw [aQ,al.c8];rw [List.take_of_length_le (by omega)]at cR;refine⟨_,rfl,_,rfl,?_⟩;have:=hK w' k0w;unfold mD at this;rw [if_neg fg,if_neg (fun⟨p,hp,hn⟩=>hn (cR p hp))]at this;exact Split.no (by decide) this
end
theorem sn{α β:Type}{f:α->Option β}{y:α}{n:β}:∀ {l:List α} {j:Nat},l[j]? =some y->(∀x∈l.take j,f x=none)->f y=some n->l.findSome? f=some n
 | [],j,h,_,_=>by simp at h
 |x::l,0,h,_,hy=>by
  simp only [List.getElem?_cons_zero,Option.some.injEq]at h;subst h;rw [List.findSome?_cons,hy]
 |x::l,j+1,h,ha,hy=>by
  have hx:=ha x (by simp);rw [List.findSome?_cons,hx];exact sn (l:=l) (j:=j) (by simpa using h) (fun z hz=>ha z (by simp [hz])) hy
section
variable{w w':World}{F S:Nat->Prop}{c k:Nat}{G:GS}{m:CM}{K:Value->World->Prop}
theorem Bb(h:CV w F c k G m)(hD:G.D.length<=5000){a b:HT}(ha:a∈ids G.D){l:List HT}(hc:cY G.D G.P a l)(hK:∀w',Kept Nil w w'->K (.int .i64 ((lO m.sz l b:Nat):Int)) w'):
 bj prog aY.id #[.pointer (some ⟨c,0,none⟩),.agg a.1,.agg b.1] w K:=by
 have W:=h.eM.W;have H:=h.eM.jt;have Ww:∀y∈l,y∈ids G.D:=fun y hy=>((hc.mem W H).1 hy).mem.1;refine aY.of ?_;unfold aY.W;intro w4 w5 w6 w7 w8;have k4:Kept Nil w w4:=(Kept.refl _ _).alloc _;have OW:w4.heap[w.heap.size]? =some (.cells #[.pointer (some ⟨c,0,none⟩)] gD (0,0)):=aJ w _;have k5:Kept Nil w4 w5:=(Kept.refl _ _).alloc _;have Ff:w5.heap[w4.heap.size]? =some (.cells a.1 aj (0,0)):=aJ w4 _;have k6:Kept Nil w5 w6:=(Kept.refl _ _).alloc _;have pv:w6.heap[w5.heap.size]? =some (.cells b.1 aj (0,0)):=aJ w5 _;have k7:Kept Nil w6 w7:=(Kept.refl _ _).alloc _;have Lz:w7.heap[w6.heap.size]? =some (.cells #[.int .i64 0] fR (0,0)):=aJ w6 _;have k8:Kept Nil w7 w8:=(Kept.refl _ _).drew;clear_value w8;have Qe:=k8.heap Lz (fun h=>h);have Qu:=k8.heap (k7.heap pv (fun h=>h)) (fun h=>h);have ha8:=k8.heap (k7.heap (k6.heap Ff (fun h=>h)) (fun h=>h)) (fun h=>h);have hc8:=k8.heap (k7.heap (k6.heap (k5.heap OW (fun h=>h)) (fun h=>h)) (fun h=>h)) (fun h=>h);have wh:=(((k4.tt k5).tt k6).tt k7).tt k8;have s06:=(((k4.tt k5).tt k6)).size;have l7:=aS Lz;have l8:=aS Qe;clear_value w7 w6 w5 w4;refine⟨some ⟨c,0,none⟩,by rw [ay hc8];rfl,_,(h.same wh).c1,a.1,⟨a.2.1,Cells.bC ha8⟩,?_⟩;refine r7 a fun jj pb qb mP JV JU AO hqb=>⟨_,rfl,?_⟩;have XF:=mP.size;have GL:=wh.tt mP;have Oe:=mP.heap Qe (fun h=>h)
 let Bf:Value:=.func (.func aV.id) #[] #[.pointer (some ⟨pb,0,none⟩),.pointer (some ⟨qb,0,none⟩)]
 let ρ0:Env:= [(3,.pointer (some ⟨w.heap.size,0,none⟩)),(5,.pointer (some ⟨w5.heap.size,0,none⟩)),(6,.pointer (some ⟨w6.heap.size,0,none⟩)),(15,Bf)]
 let J:Nat->World->Prop:=fun j u=>Kept Nil jj u/\j<=l.length/\∀y∈l.take j,m.sz y b=none
 let Jd:Code->World->Prop:=fun e u=>e=.ret/\Kept (fun k=>k=w6.heap.size) jj u/\∃n:Nat,(l.findSome? fun y=>m.sz y b)=some n/\u.heap[w6.heap.size]? =some (.cells #[.int .i64 (n:Int)] fR (0,0))
 have k0J:∀ {u:World},Kept Nil jj u->Kept Nil w u:=fun k=>GL.tt k;have kS:∀ {v:World},Kept (fun k=>k=w6.heap.size) jj v->Kept Nil w v:=fun k=>GL.trans k (fun k hk e=>by omega);obtain⟨mx,X35,_⟩:=(h.same GL).X
 change Holds none [] prog _ _ _ ρ0 jj
 refine mV (n:=33) (ρ:=ρ0) (ρ0:=ρ0) ng mix aY.k (t:=15) (ps:= #[16]) (by kernel_rfl) (by decide) rfl aV.at_ rfl (.inl rfl) (fun i x hi hx=>hx) rfl qH l (fun _=>rfl) (fun q hq=>by
  have e49:q=16:=by simpa using hq
  subst e49;exact⟨by decide,by decide⟩) (BT (F:=m.FX) (x:=m.x) (m:=mx) (pb:=pb) (qb:=qb) hc (by omega)) J Jd ?_ ?_ (fun j u hJ=>⟨X35.same hJ.1,hJ.1.heap JV (fun h=>h),hJ.1.heap JU (fun h=>h)⟩) ?_ ?_ ?_ ?_ ?_
 ·rintro j u1 u2 R qE ⟨h1,h2,h3⟩ nC
  exact⟨h1.trans nC (fun k hk e=>by omega),h2,h3⟩
 ·rintro e u1 u2 R qE ⟨h1,h2,n,h3,h4⟩ nC
  exact⟨h1,h2.trans nC (fun k hk e=>by omega),n,h3,nC.heap h4 (by omega)⟩
 ·intro R
  exact⟨(((Kept.refl _ _).alloc _).alloc _),Nat.zero_le _,by simp⟩
 ·rintro j z u1 R hz ⟨h1,h2,h3⟩ qE
  have e7:kK ρ0 ((#[16]:Array Nat).toList.zip (qH z))= [(3,.pointer (some ⟨w.heap.size,0,none⟩)),(5,.pointer (some ⟨w5.heap.size,0,none⟩)),(6,.pointer (some ⟨w6.heap.size,0,none⟩)),(15,Bf),(16,.agg z.1)]:=rfl;rw [e7,aY.a1];have ti:=(lgeS hz).1;unfold aY.A1;intro Fw;obtain⟨sH,jh,jB⟩:=gM (w:=u1) (z:=dU.1) (cs:=z.1) (t:=aj) (by rw [z.2.1];rfl);refine⟨⟨z.2.1,z.2.one,fun j hj=>sH j (by rw [z.2.1];exact hj)⟩,?_⟩;intro KS
  replace jh:KS.heap[u1.heap.size]? =some (.cells z.1 aj (0,0)):=jh
  replace jB:Kept Nil u1 KS:=jB
  clear_value KS;have Hq:=qE.aD jB (fun h=>h) (fun h=>h);refine⟨Hq,fun w2 R2 nA sM=>?_⟩;have lS:=nA.heap jh (jX jh Hq.loop);have vi:Kept Nil jj w2:=(h1.tt jB).trans nA (fun k hk e=>by omega);rw [aY.y1];unfold aY.Y1;intro QS;have Ym:Kept Nil w2 QS:=(Kept.refl _ _).drew;clear_value QS;have TD:=sM.aD Ym (fun h=>h) (fun h=>h);have yK:=vi.tt Ym;have Na:=mP.tt yK;have h48:=h.same (wh.tt Na);obtain⟨A1,n1,c1,B1,m1,d1,s1,sa⟩:=h48.seen z (Ww z (List.mem_of_getElem? hz));refine⟨some ⟨c,0,none⟩,by rw [ay (Na.heap hc8 (fun h=>h))];rfl,_,h48.c2,z.1,⟨z.2.1,Cells.bC (Ym.heap lS (fun h=>h))⟩,_,h48.nu (Ww z (List.mem_of_getElem? hz)),_,sa.c35,b.1,⟨b.2.1,Cells.bC (Na.heap Qu (fun h=>h))⟩,_,_,sa.sz.Cm b,?_⟩;cases hzb:m.sz z b with
  |some n=>
   refine Split.yes rfl ⟨dK (yK.heap Oe (fun h=>h)) (by simp),?_⟩;intro pJ;have Oc:pJ.heap[w6.heap.size]? =some (.cells #[.int .i64 (n:Int)] fR (0,0)):=by
    show(QS.setCell ⟨w6.heap.size,0,none⟩ (.int .i64 (n:Int))).heap[w6.heap.size]? =_;rw [cS (yK.heap Oe (fun h=>h)) 0];rfl
   have D8:Kept (· =w6.heap.size) QS pJ:=Kept.setCell (S:=fun k=>k=w6.heap.size) (Kept.refl _ QS) (p:=⟨w6.heap.size,0,none⟩) (fun _=>rfl) _;clear_value pJ;exact⟨TD.aD D8 (fun e=>by omega) (fun e=>by omega),rfl,(yK.mono fun _ _ h=>h.elim).tt D8,n,sn hz h3 hzb,Oc⟩
  |none=>
   refine Split.no rfl ⟨TD,yK,ti,fun y hy=>?_⟩;rcases(bG hz).1 hy with hy|rfl
   ·exact h3 y hy
   ·exact hzb
 ·rintro u1 R ⟨h1,h2,h3⟩ qE
  rw [List.take_of_length_le (Nat.le_refl _)]at h3;have e7:gN ρ0 jj.heap.size= [(3,.pointer (some ⟨w.heap.size,0,none⟩)),(5,.pointer (some ⟨w5.heap.size,0,none⟩)),(6,.pointer (some ⟨w6.heap.size,0,none⟩)),(15,Bf),(4294967296,.agg (pT [jj.heap.size]))]:=rfl;rw [e7,aY.jS];unfold aY.iR;have ki:=h1.heap Oe (fun h=>h);refine⟨dK ki (by simp),?_⟩;intro pJ;have Oc:pJ.heap[w6.heap.size]? =some (.cells #[.int .i64 0] fR (0,0)):=by
   show(u1.setCell ⟨w6.heap.size,0,none⟩ (.int .i64 0)).heap[w6.heap.size]? =_;rw [cS ki 0];rfl
  have D8:Kept (· =w6.heap.size) u1 pJ:=Kept.setCell (S:=fun k=>k=w6.heap.size) (Kept.refl _ u1) (p:=⟨w6.heap.size,0,none⟩) (fun _=>rfl) _;clear_value pJ;have qE:=qE.aD D8 (fun e=>by omega) (fun e=>by omega);rw [mE];have kt:=jF [jj.heap.size] pJ;have hm:∀E∈ [jj.heap.size],pJ.heap[E]? =some (.deferred (some [])):=fun E hE=>by
   rw [List.mem_singleton]at hE;subst hE;exact qE.mark
  refine⟨lv [jj.heap.size] pJ (by simp) hm,0,by rw [ay (kt.heap Oc (fun hE=>by rw [List.mem_singleton]at hE;omega))];rfl,?_⟩;have e0:lO m.sz l b=0:=by
   unfold lO;have:(l.findSome? fun h=>m.sz h b)=none:=List.findSome?_eq_none_iff.2 h3;rw [this];rfl
  have:=hK (fL [jj.heap.size] pJ) ((kS ((h1.mono fun _ _ h=>h.elim).tt D8)).trans kt (fun k hk hE=>by rw [List.mem_singleton]at hE;have:=GL.size;omega));rw [e0]at this;exact this
 ·rintro u1 R ⟨_,h2,n,h3,h4⟩ qE
  have e7:gN ρ0 jj.heap.size= [(3,.pointer (some ⟨w.heap.size,0,none⟩)),(5,.pointer (some ⟨w5.heap.size,0,none⟩)),(6,.pointer (some ⟨w6.heap.size,0,none⟩)),(15,Bf),(4294967296,.agg (pT [jj.heap.size]))]:=rfl;rw [e7,aY.zN];unfold aY.uV;rw [mE];have kt:=jF [jj.heap.size] u1;have hm:∀E∈ [jj.heap.size],u1.heap[E]? =some (.deferred (some [])):=fun E hE=>by
   rw [List.mem_singleton]at hE;subst hE;exact qE.mark
  refine⟨lv [jj.heap.size] u1 (by simp) hm,(n:Int),by rw [ay (kt.heap h4 (fun hE=>by rw [List.mem_singleton]at hE;omega))];rfl,?_⟩;have e0:lO m.sz l b=n:=by unfold lO;rw [h3];rfl
  have:=hK (fL [jj.heap.size] u1) ((kS h2).trans kt (fun k hk hE=>by rw [List.mem_singleton]at hE;have:=GL.size;omega));rw [e0]at this;exact this
 ·rintro id u1 R ⟨e,_⟩ qE
  cases e
end
section
variable{w:World}
theorem zo{x:HT}:∀ {l:List (HT×Value)},assoc x l≠none↔x∈l.map (·.1)
 | []=>by simp [assoc]
 |(y,v)::l=>by
  have:=zo (x:=x) (l:=l);unfold assoc;by_cases e:x=y
  ·subst e;simp
  ·rw [if_neg e,this]
   simp only [List.map_cons,List.mem_cons];exact⟨.inr,fun h=>h.resolve_left e⟩
theorem fj.len{mt te:TypeId}{z:Value}(T:vF mt te z){m:Nat}{f:HT->Option Value}(hm:fj w m f)(ty:TypeId){l:List HT}(hn:l.Nodup)(hl:∀x,f x≠none↔x∈l):
 (Builtin.len_ #[mt] ty #[.map (some m)]).run prog w=.ok (.int .i64 (l.length:Int)) w:=by
 obtain⟨es,clock,l',h1,h2,h3,_,_,h6⟩:=hm.ex;have e1:es.size=l'.length:=by have:=h2.len;simpa using this
 have e2:l'.length=l.length:=by
  have hp:(l'.map (·.1)).Perm l:=(List.perm_ext_iff_of_nodup h6 hn).2 fun x=>by rw [<-zo,h3,hl]
  simpa using hp.length_eq
 simp [Builtin.len_,run_underlying T.nY,oP h1,goInt,Result.andThen,e1,e2]
end
section
variable{w w':World}{F S:Nat->Prop}{c k:Nat}{G:GS}{m:CM}{K:Value->World->Prop}
structure VB(w:World)(c:Nat)(s:HT)(bs bc bh q sm:Nat)(ov:HT->Option Nat):Prop where
 hs:w.heap[bs]? =some (.cells #[.pointer (some ⟨q,0,none⟩)] eT (0,0))
 hc:w.heap[bc]? =some (.cells #[.pointer (some ⟨c,0,none⟩)] gD (0,0))
 hh:w.heap[bh]? =some (.cells s.1 aj (0,0))
 sz:w.cell? ((⟨q,0,none⟩:Addr).add 35)=some (.map (some sm))
 ov:fj w sm (Je ov)
theorem VB.aD{S:Nat->Prop}{s:HT}{bs bc bh q sm:Nat}{ov:HT->Option Nat}(h:VB w c s bs bc bh q sm ov)(hk:Kept S w w')(h1:¬S bs)(h2:¬S bc)(h3:¬S bh)(h4:¬S q)(h5:¬S sm):VB w' c s bs bc bh q sm ov:=
 ⟨hk.heap h.hs h1,hk.heap h.hc h2,hk.heap h.hh h3,hk.cell h.sz h4,h.ov.aD hk h5⟩
theorem VB.same{s:HT}{bs bc bh q sm:Nat}{ov:HT->Option Nat}(h:VB w c s bs bc bh q sm ov)(hk:Kept Nil w w'):VB w' c s bs bc bh q sm ov:=h.aD hk (fun h=>h) (fun h=>h) (fun h=>h) (fun h=>h) (fun h=>h)
theorem za(h:CV w F c k G m)(hD:G.D.length<=5000){s b:HT}(hs:s∈ids G.D){l:List HT}(hc:cY G.D G.P s l){bs bc bh q sm:Nat}{ov:HT->Option Nat}(V:VB w c s bs bc bh q sm ov)
 (hK:∀w',Kept Nil w w'->K (.int .i64 ((qy ov (lO m.sz l) b:Nat):Int)) w'):
 bj prog bS.id #[.agg b.1,.pointer (some ⟨bs,0,none⟩),.pointer (some ⟨bc,0,none⟩),.pointer (some ⟨bh,0,none⟩)] w K:=by
 refine bS.of ?_;unfold bS.W;intro w4 w5;have k4:Kept Nil w w4:=(Kept.refl _ _).alloc _;have qT:w4.heap[w.heap.size]? =some (.cells b.1 aj (0,0)):=aJ w _;have k5:Kept Nil w4 w5:=(Kept.refl _ _).drew;clear_value w5;have mZ:=k5.heap qT (fun h=>h);have sG:=k4.tt k5;have V5:=V.same sG;refine⟨some ⟨q,0,none⟩,by rw [ay V5.hs];rfl,_,V5.sz,b.1,⟨b.2.1,Cells.bC mZ⟩,?_⟩;have lk:=V5.ov.Cm qu b;unfold Je at lk;cases hb:ov b with
 |some n=>
  rw [hb]at lk;refine⟨(n:Int),true,lk,Split.yes rfl ?_⟩;have:=hK w5 sG;unfold qy at this;rw [hb]at this;exact this
 |none=>
  rw [hb]at lk;refine⟨0,false,lk,Split.no rfl ⟨some ⟨c,0,none⟩,by rw [ay V5.hc];rfl,s.1,⟨s.2.1,Cells.bC V5.hh⟩,b.1,⟨b.2.1,Cells.bC mZ⟩,?_⟩⟩;refine Bb (h.same sG) hD hs hc fun w7 k7=>⟨_,rfl,?_⟩;have:=hK w7 (sG.tt k7);unfold qy at this;rw [hb]at this;exact this
def xA(w:World)(fm:Nat)(kn:HT->Nat)(done:List HT):Prop:=fj w fm fun y=>if y∈done then some (.int .i64 (kn y:Int))else none
theorem y8(h:CV w F c k G m)(hD:G.D.length<=5000)(nP:k<=1000){s b:HT}(hs:s∈ids G.D){l:List HT}(hc:cY G.D G.P s l){bs bc bh q sm kb fb fm:Nat}{ov:HT->Option Nat}(V:VB w c s bs bc bh q sm ov)
 (LP:w.heap[kb]? =some (.cells #[.func (.func bS.id) #[] #[.pointer (some ⟨bs,0,none⟩),.pointer (some ⟨bc,0,none⟩),.pointer (some ⟨bh,0,none⟩)]] eW (0,0)))
 (Qr:w.heap[fb]? =some (.cells #[.map (some fm)] ck (0,0))) {done:List HT} (hn:done.Nodup) (WJ:b∉done) (hF:xA w fm (qy ov (lO m.sz l)) done) (hfo:¬m.own c fm) (hff:¬F fm) (fg:bc≠fm)
 (hK:∀w' (r:Bool),r=qp k (qy ov (lO m.sz l)) done b->xA w' fm (qy ov (lO m.sz l)) (done++ [b])->Kept (· =fm) w w'->K (.bool r) w'):
 bj prog cj.id #[.agg b.1,.pointer (some ⟨kb,0,none⟩),.pointer (some ⟨fb,0,none⟩),.pointer (some ⟨bc,0,none⟩)] w K:=by
 have lfm:=hF.lt;refine cj.of ?_;unfold cj.W;intro w4 w5;have k4:Kept Nil w w4:=(Kept.refl _ _).alloc _;have qT:w4.heap[w.heap.size]? =some (.cells b.1 aj (0,0)):=aJ w _;have k5:Kept Nil w4 w5:=(Kept.refl _ _).drew;clear_value w5;have mZ:=k5.heap qT (fun h=>h);have sG:=k4.tt k5;have hnf:fb≠fm:=fun e=>by subst e;obtain⟨es,cl,_,h1,_⟩:=hF.ex;rw [Qr]at h1;cases h1
 refine⟨some fm,by rw [ay (sG.heap Qr (fun h=>h))];rfl,b.1,⟨b.2.1,Cells.bC mZ⟩,_,by rw [ay (sG.heap LP (fun h=>h))];rfl,b.1,⟨b.2.1,Cells.bC mZ⟩,?_⟩;refine⟨_,_,_,_,rfl,bS.at_,rfl,?_⟩;refine za (h.same sG) hD hs hc (V.same sG) fun w7 k7=>⟨_,rfl,⟨b.1,rfl,b.2.1,Cells.bC (k7.heap mZ (fun h=>h))⟩,?_,?_⟩
 ·rw [ay ((sG.tt k7).heap Qr (fun h=>h))];rfl
 have rr:=sG.tt k7;obtain⟨w8,Qe,hm8,k8⟩:=(hF.same rr).put qu b (.int .i64 ((qy ov (lO m.sz l) b:Nat):Int));refine⟨w8,Qe,?_⟩;intro w9;have k9:Kept Nil w8 w9:=(Kept.refl _ _).drew;clear_value w9;have k89:Kept (· =fm) w7 w9:=k8.trans k9 (fun _ _ h=>h.elim);have Ed:Kept (· =fm) w w9:=(rr.mono fun _ _ h=>h.elim).tt k89;have Qx:xA w9 fm (qy ov (lO m.sz l)) (done++ [b]):=by
  refine fj.same ?_ k9;have e:(fun y=>if y∈done++ [b]then some (Value.int .i64 ((qy ov (lO m.sz l) y:Nat):Int))else none)=fun x=>if x=b then some (.int .i64 ((qy ov (lO m.sz l) b:Nat):Int))else if x∈done then some (.int .i64 ((qy ov (lO m.sz l) x:Nat):Int))else none:=by
   funext y
   by_cases e:y=b
   ·subst e;rw [if_pos (by simp),if_pos rfl]
   ·rw [if_neg e]
    by_cases hy:y∈done
    ·rw [if_pos (List.mem_append_left _ hy),if_pos hy]
    ·rw [if_neg (by simp [hy,e]),if_neg hy]
  rw [e];exact hm8
 have hb9:w9.heap[w.heap.size]? =some (.cells b.1 aj (0,0)):=((k7.mono fun _ _ h=>h.elim).tt k89:Kept (· =fm) w5 w9).heap mZ (by omega);have T6:=Ed.heap Qr hnf;have eF:(done++ [b]).Nodup:=List.nodup_append.2 ⟨hn,by simp,fun x hx y hy e=>by
  have:y=b:=by simpa using hy
  subst this;subst e;exact WJ hx⟩
 have h9:CV w9 F c k G m:=h.aD Ed (fun j hj e=>by subst e;exact hfo hj) (fun j hj e=>by subst e;exact hff hj);have hc9:w9.heap[bc]? =some (.cells #[.pointer (some ⟨c,0,none⟩)] gD (0,0)):=Ed.heap V.hc fg;refine⟨some fm,by rw [ay T6];rfl,(done++ [b]).length,Qx.len qu fR eF (fun x=>by
  by_cases hx:x∈done++ [b]
  ·rw [if_pos hx];exact⟨fun _=>hx,fun _ e=>by cases e⟩
  ·rw [if_neg hx];exact⟨fun e=>absurd rfl e,fun e=>absurd e hx⟩),some ⟨c,0,none⟩,by rw [ay hc9];rfl,(k:Int),h9.c0,?_⟩
 refine Split.dec (fun h1=>?_) (fun h1=>?_)
 ·have lk:=fj.look qu Qx b
  rw [if_pos (by simp)]at lk;refine⟨some fm,by rw [ay T6];rfl,b.1,⟨b.2.1,Cells.bC hb9⟩,_,lk,some ⟨c,0,none⟩,by rw [ay hc9];rfl,(k:Int),h9.c0,?_⟩;refine hK w9 _ ?_ Qx Ed;unfold qp;rw [List.length_append,List.length_cons,List.length_nil]at h1;refine decide_eq_decide.2 ⟨fun h2=>⟨by omega,by omega⟩,fun h2=>by omega⟩
 ·refine hK w9 false ?_ Qx Ed
  unfold qp;rw [List.length_append,List.length_cons,List.length_nil]at h1;exact(decide_eq_false (by omega)).symm
end
structure PN where
 bs:Nat
 bc:Nat
 bh:Nat
 q:Nat
 sm:Nat
 kb:Nat
 fb:Nat
 fm:Nat
 yb:Nat
 hb:Nat
def PN.Bf(p:PN):Value:=.func (.func cj.id) #[] #[.pointer (some ⟨p.kb,0,none⟩),.pointer (some ⟨p.fb,0,none⟩),.pointer (some ⟨p.bc,0,none⟩)]
def PN.gL(p:PN)(j:Nat):Prop:=p.bs≠j/\p.bc≠j/\p.bh≠j/\p.q≠j/\p.sm≠j/\p.kb≠j/\p.fb≠j
structure PG(w:World)(F:Nat->Prop)(c k:Nat)(G:GS)(m:CM)(s h:HT)(p:PN)(ov:HT->Option Nat):Prop where
 C:CV w F c k G m
 V:VB w c s p.bs p.bc p.bh p.q p.sm ov
 kb:w.heap[p.kb]? =some (.cells #[.func (.func bS.id) #[] #[.pointer (some ⟨p.bs,0,none⟩),.pointer (some ⟨p.bc,0,none⟩),.pointer (some ⟨p.bh,0,none⟩)]] eW (0,0))
 fb:w.heap[p.fb]? =some (.cells #[.map (some p.fm)] ck (0,0))
 yb:w.cell? ⟨p.yb,0,none⟩=some p.Bf
 hb:w.heap[p.hb]? =some (.cells h.1 aj (0,0))
 fo:¬m.own c p.fm
 ff:¬F p.fm
 gL:p.gL p.fm
 y:p.yb≠p.fm
 h:p.hb≠p.fm
section
variable{w w' u:World}{F:Nat->Prop}{c k:Nat}{G:GS}{m:CM}{s h:HT}{p:PN}{ov:HT->Option Nat}{K:Value->World->Prop}
theorem PG.aD(B:PG w F c k G m s h p ov)(hk:Kept (· =p.fm) w w'):PG w' F c k G m s h p ov:=by
 obtain⟨f1,f2,f3,f4,f5,f6,f7⟩:=B.gL;exact⟨B.C.aD hk (fun j hj e=>by subst e;exact B.fo hj) (fun j hj e=>by subst e;exact B.ff hj),B.V.aD hk f1 f2 f3 f4 f5,hk.heap B.kb f6,hk.heap B.fb f7,hk.cell B.yb B.y,hk.heap B.hb B.h,B.fo,B.ff,B.gL,B.y,B.h⟩
theorem PG.same(B:PG w F c k G m s h p ov)(hk:Kept Nil w w'):PG w' F c k G m s h p ov:=B.aD (hk.mono fun _ _ h=>h.elim)
theorem ri(B:PG w F c k G m s h p ov)(hD:G.D.length<=5000)(nP:k<=1000)(hs:s∈ids G.D){l:List HT}(hc:cY G.D G.P s l){done:List HT}(hF:xA w p.fm (qy ov (lO m.sz l)) done){b:HT}{zb:Nat}
 (hz:w.heap[zb]? =some (.cells b.1 aj (0,0))) (hzf:zb≠p.fm) (hn:lV G.D b h->(done++ [b]).Nodup) {A T:World->Prop}
 (hA:∀u,lV G.D b h->qp k (qy ov (lO m.sz l)) done b=false->Kept (· =p.fm) w u->A u)
 (hT:∀u wu,wu=done++(if lV G.D b h then [b]else [])->(lV G.D b h->qp k (qy ov (lO m.sz l)) done b=true)->xA u p.fm (qy ov (lO m.sz l)) wu->Kept (· =p.fm) w u->T u):
 bj prog cV.id #[.pointer (some ⟨c,0,none⟩),.agg b.1,.agg h.1] w fun x y=>∃z:Bool,x=.bool z/\Split z (∃a1:Value,y.cell? ⟨p.yb,0,none⟩=some a1/\∃b1:Array Value,(b1.size=32/\Cells y ⟨zb,0,none⟩ b1)/\
  ∃(c1:Nat) (d1 e1:Array Value) (f1:Func),(a1:Value)=.func (.func c1) d1 e1/\prog.funcs[c1]? =some f1/\f1.body.isSome=true/\
   bj prog c1 (d1.toList++([.agg b1]:List Value)++e1.toList).toArray y fun g1 i1=>∃j1:Bool,g1=.bool j1/\Split (!j1) (A i1) (T i1)) (T y):=by
 refine zc B.C hD b h fun y r hr ky=>⟨r,rfl,?_⟩;have kyf:Kept (· =p.fm) w y:=ky.mono fun _ _ h=>h.elim;have By:=B.same ky;cases r with
 |false=>
  have JY:¬lV G.D b h:=fun e=>by have:=hr.2 e;cases this
  exact Split.no rfl (hT y done (by rw [if_neg JY,List.append_nil]) (fun e=>absurd e JY) (hF.same ky) kyf)
 |true=>
  have ha:=hr.1 rfl;have eF:=hn ha;rw [List.nodup_append]at eF;refine Split.yes rfl ⟨_,By.yb,b.1,⟨b.2.1,Cells.bC (ky.heap hz (fun h=>h))⟩,_,_,_,_,rfl,cj.at_,rfl,?_⟩;refine y8 By.C hD nP hs hc By.V By.kb By.fb eF.1 (fun e=>eF.2.2 b e b (by simp) rfl) (hF.same ky) B.fo B.ff B.gL.2.1 fun v r hr hv kv=>⟨r,rfl,?_⟩;have M0:Kept (· =p.fm) w v:=kyf.tt kv;cases r with
  |false=>exact Split.yes rfl (hA v ha hr.symm M0)
  |true=>exact Split.no rfl (hT v (done++ [b]) (by rw [if_pos ha]) (fun _=>hr.symm) hv M0)
end
structure PG0(w:World)(F:Nat->Prop)(c k:Nat)(G:GS)(m:CM)(s:HT)(p:PN)(ov:HT->Option Nat):Prop where
 C:CV w F c k G m
 V:VB w c s p.bs p.bc p.bh p.q p.sm ov
 kb:w.heap[p.kb]? =some (.cells #[.func (.func bS.id) #[] #[.pointer (some ⟨p.bs,0,none⟩),.pointer (some ⟨p.bc,0,none⟩),.pointer (some ⟨p.bh,0,none⟩)]] eW (0,0))
 fb:w.heap[p.fb]? =some (.cells #[.map (some p.fm)] ck (0,0))
 fo:¬m.own c p.fm
 ff:¬F p.fm
 gL:p.gL p.fm
theorem cI:∀ {l m:List HT},l.Nodup->(∀x∈l,x∈m)->l.length<=m.length
 | [],_,_,_=>Nat.zero_le _
 |x::l,m,hn,hm=>by
  rw [List.nodup_cons]at hn;have hx:=hm x List.mem_cons_self;have:=cI (m:=m.erase x) hn.2 fun y hy=>(List.mem_erase_of_ne (fun e=>hn.1 (by rw [<-e];exact hy))).2 (hm y (List.mem_cons_of_mem _ hy));rw [List.length_erase_of_mem hx]at this;have h0:=List.length_pos_of_mem hx;rw [List.length_cons];omega
theorem HS.get_mem{w:World}{A:Option Addr}{n:Nat}{l:List HT}(hl:HS w A n l){i:Nat}(hi:i<n):∃y,l[i]? =some y:=⟨_,List.getElem?_eq_getElem (by have:=hl.len;omega)⟩
theorem yp{D:DG}{l:List HT}{h x:HT}{i:Nat}(hx:l[i]? =some x):bJ D (l.take (i+1)) h=bJ D (l.take i) h++if lV D x h then [x]else []:=by
 have e:l.take (i+1)=l.take i++ [x]:=by rw [List.take_add_one,hx];rfl
 rw [e,fp]
 congr 1
 unfold bJ;by_cases hp:lV D x h
 ·rw [if_pos hp,List.filter_cons_of_pos (by simpa using hp)];rfl
 ·rw [if_neg hp,List.filter_cons_of_neg (by simpa using hp)];rfl
theorem Bx{m:List HT}{b:List Bool}{x:HT}{y:Bool}{i:Nat}(hx:m[i]? =some x)(hy:b[i]? =some y):dG (m.drop i) (b.drop i)=(if y then [x]else [])++dG (m.drop (i+1)) (b.drop (i+1)):=by
 obtain⟨hi,ex⟩:=lgeS hx;obtain⟨hj,ey⟩:=lgeS hy;rw [List.drop_eq_getElem_cons hi,List.drop_eq_getElem_cons hj,ex,ey];cases y<;>rfl
theorem dI(c:nW)(A:Option Addr)(n cp:Nat)(B:Option Addr)(m cq:Nat):∀v∈(cD c A n cp B m cq).toList,v.oneCell'=true:=by
 intro v hv;unfold cD at hv;rw [Array.toList_append,List.mem_append]at hv;rcases hv with hv|hv
 ·exact c.jt.2.one v hv
 ·simp only [List.mem_cons,List.not_mem_nil,or_false]at hv
  rcases hv with rfl|rfl|rfl<;>rfl
section
variable{w w':World}{F:Nat->Prop}{c k:Nat}{G:GS}{m:CM}{s:HT}{p:PN}{ov:HT->Option Nat}{K:Value->World->Prop}
theorem BC{kn:HT->Nat}{done rest jM:List HT}{b:HT}(e:done++b::rest=jM)(h:qp k kn done b=false):eQ k kn [] jM=false:=by
 rw [<-e,lJ,List.nil_append,eQ,h,Bool.false_and,Bool.and_false]
theorem xx{kn:HT->Nat}{done:List HT}{b:HT}(h:eQ k kn [] done=true)(hb:qp k kn done b=true):eQ k kn [] (done++ [b])=true:=by
 rw [lJ,h,List.nil_append,eQ,hb,Bool.true_and,Bool.true_and];rfl
theorem y9(B:PG0 w F c k G m s p ov)(hD:G.D.length<=5000)(nP:k<=1000)(hs:s∈ids G.D){l:List HT}(hc:cY G.D G.P s l){h:HT}{bb:Nat}{A:Option Addr}{n cx:Nat}{bl:List HT}
 (vq:w.heap[bb]? =some (.cells #[.slice A n cx] az (0,0))) (WK:bb≠p.fm) (xJ:HS w A n bl) (hAf:∀a,A=some a->a.block≠p.fm) (hn:n<=10000) (hF:xA w p.fm (qy ov (lO m.sz l)) []) (wk:(nH G h bl l).Nodup)
 (hK:∀w' (r:Bool),r=eQ k (qy ov (lO m.sz l)) [] (nH G h bl l)->(r=true->xA w' p.fm (qy ov (lO m.sz l)) (nH G h bl l))->Kept (· =p.fm) w w'->K (.bool r) w'):
 bj prog ag.id #[.agg h.1,p.Bf,.pointer (some ⟨bb,0,none⟩),.pointer (some ⟨p.bc,0,none⟩),.pointer (some ⟨p.bh,0,none⟩)] w K:=by
 have W:=B.C.eM.W;have H:=B.C.eM.jt;have Ww:∀y∈l,y∈ids G.D:=fun y hy=>((hc.mem W H).1 hy).mem.1;have hlen:=xJ.len;have lfm:=hF.lt;refine ag.of ?_;unfold ag.W;intro w4 w5 w6;have k4:Kept Nil w w4:=(Kept.refl _ _).alloc _;have hh4:w4.heap[w.heap.size]? =some (.cells h.1 aj (0,0)):=aJ w _;have k5:Kept Nil w4 w5:=(Kept.refl _ _).alloc _;obtain⟨ty,hy5⟩:∃ty:TypeId,w5.heap[w4.heap.size]? =some (.cells #[p.Bf] ty (0,0)):=⟨_,aJ w4 _⟩;have k6:Kept Nil w5 w6:=(Kept.refl _ _).alloc _;have hr6:w6.heap[w5.heap.size]? =some (.cells #[.bool false] gJ (0,0)):=aJ w5 _;clear_value w6;have hy6:=k6.heap hy5 (fun h=>h);have hh6:=k6.heap (k5.heap hh4 (fun h=>h)) (fun h=>h);have nx:=(k4.tt k5).tt k6;have s4:=k4.size;have s5:=k5.size;have s6:=k6.size;have l4:=aS hh4;have l5:=aS hy5;have l6:=aS hr6;clear_value w5 w4;obtain⟨p',E9,vr,Ep,aaL,aaJ⟩:∃p':PN,p'= {p with yb:=w4.heap.size,hb:=w.heap.size}/\p'.Bf=p.Bf/\p'.fm=p.fm/\p'.bc=p.bc/\p'.bh=p.bh:=⟨_,rfl,rfl,rfl,rfl,rfl⟩;have eyb:p'.yb=w4.heap.size:=by rw [E9]
 have W3:p'.hb=w.heap.size:=by rw [E9]
 have B6:PG w6 F c k G m s h p' ov:=by
  rw [E9];exact⟨B.C.same nx,B.V.same nx,nx.heap B.kb (fun h=>h),nx.heap B.fb (fun h=>h),by show w6.cell? ⟨w4.heap.size,0,none⟩=_;rw [ay hy6];rfl,hh6,B.fo,B.ff,B.gL,(by show w4.heap.size≠p.fm;omega),(by show w.heap.size≠p.fm;omega)⟩
 generalize vo:qy ov (lO m.sz l)=kn at*;have hF6:xA w6 p'.fm kn []:=by rw [Ep];exact hF.same nx
 generalize jg:nH G h bl l=jM at*;have pZ:bJ G.D bl h++xL G h l=jM:=jg;rw [<-Ep]at WK hAf lfm;have hK':∀w' (r:Bool),r=eQ k kn [] jM->(r=true->xA w' p'.fm kn jM)->Kept (· =p'.fm) w w'->K (.bool r) w':=by rw [Ep];exact hK
 have kA:∀ {v:World},Kept (· =p'.fm) w6 v->Kept (· =p'.fm) w v:=fun k=>(nx.mono fun _ _ h=>h.elim).tt k;have fin:∀ {v:World} (r:Bool),Kept (· =p'.fm) w6 v->∃u:World,u=v.setCell ⟨w5.heap.size,0,none⟩ (.bool r)/\Wr v ⟨w5.heap.size,0,none⟩/\u.heap[w5.heap.size]? =some (.cells #[.bool r] gJ (0,0))/\Kept (· =w5.heap.size) v u:=fun {v} r kv=>by
  have hr:=kv.heap hr6 (by omega);refine⟨_,rfl,dK hr (by simp),?_,Kept.setCell (S:=fun k=>k=w5.heap.size) (Kept.refl _ v) (p:=⟨w5.heap.size,0,none⟩) (fun _=>rfl) _⟩;rw [cS hr 0];rfl
 have Ye:∀ {v u:World},Kept (· =p'.fm) w6 v->Kept (· =w5.heap.size) v u->Kept (· =p'.fm) w u:=fun kv ku=>⟨ku.os.trans (kA kv).os,ku.tape.trans (kA kv).tape,ku.output.trans (kA kv).output,Nat.le_trans (kA kv).size ku.size,fun j hj hn=>by rw [ku.block j (Nat.lt_of_lt_of_le hj (kA kv).size) (by omega),(kA kv).block j hj hn]⟩;refine⟨A,n,cx,by rw [ay (nx.heap vq (fun h=>h))];rfl,?_⟩;rw [<-aaL,<-aaJ];refine ag.b7 (I:=fun s0 v=>∃i:Nat,s0=(i:Int)/\i<=n/\xA v p'.fm kn (bJ G.D (bl.take i) h)/\eQ k kn [] (bJ G.D (bl.take i) h)=true/\Kept (· =p'.fm) w6 v) (μ:=fun s0 _=>((n:Int)-s0).toNat) (s:=0) ⟨0,rfl,Nat.zero_le _,hF6,rfl,Kept.refl _ _⟩ ?_;rintro s0 v ⟨i,rfl,hi,hFv,cR,kv⟩;have Bv:=B6.aD kv;refine Split.dec (fun iU=>?_) (fun fU=>?_)
 ·have dW:i<n:=by omega
  obtain⟨b,hb⟩:=xJ.get_mem dW;have aaH:HS v A n bl:=xJ.aD (kA kv) hAf;refine aaH.load (i:=(i:Int)) (by omega) hb ?_;intro lN;obtain⟨sH,jh,jB⟩:=gM (w:=v) (z:=dU.1) (cs:=b.1) (t:=aj) (by rw [b.2.1];rfl);refine⟨⟨b.2.1,b.2.one,fun j hj=>sH j (by rw [b.2.1];exact hj)⟩,?_⟩;intro jk
  replace jh:jk.heap[v.heap.size]? =some (.cells b.1 aj (0,0)):=jh
  replace jB:Kept Nil v jk:=jB
  clear_value jk;have sv:=(kA kv).size;have PL:=Bv.same jB;have e1:=yp (D:=G.D) (h:=h) hb;have e2:∃rest,bJ G.D (bl.take i) h++(if lV G.D b h then [b]else [])++rest=jM:=by
   refine⟨bJ G.D (bl.drop (i+1)) h++xL G h l,?_⟩;rw [<-e1,<-pZ,<-List.append_assoc,<-fp,List.take_append_drop]
  obtain⟨rest,e2⟩:=e2;refine⟨some ⟨c,0,none⟩,by rw [ay PL.V.hc];rfl,b.1,⟨b.2.1,Cells.bC jh⟩,h.1,⟨h.2.1,by have:=PL.hb;rw [W3]at this;exact Cells.bC this⟩,?_⟩;rw [<-eyb];refine ri PL hD nP hs hc (done:=bJ G.D (bl.take i) h) (by rw [vo];exact hFv.same jB) jh (by omega) (fun ha=>by
   rw [if_pos ha]at e2;rw [<-e2]at wk;exact(List.nodup_append.1 wk).1) ?_ ?_
  ·intro u ha hp ku
   rw [vo]at hp;have PW:Kept (· =p'.fm) w6 u:=(kv.trans jB (fun _ _ h=>h.elim)).tt ku;obtain⟨u',eu,hw,Sv,kuu⟩:=fin false PW;refine⟨hw,?_⟩;intro PS;have e30:PS=u':=eu.symm;rw [hZ,ag.Mq,e30];rw [if_pos ha,List.append_assoc]at e2;exact⟨false,by rw [ay Sv];rfl,hK' u' false (BC e2 hp).symm (fun e=>by cases e) (Ye PW kuu)⟩
  ·intro u wu ed hp Md ku
   rw [vo]at hp Md;have PW:Kept (· =p'.fm) w6 u:=(kv.trans jB (fun _ _ h=>h.elim)).tt ku;rw [dh (n:=(i:Int)) (by omega) (by omega)];refine⟨(i:Int)+1,rfl,⟨i+1,rfl,dW,?_,?_,PW⟩,by simp only;omega⟩
   ·rw [e1,<-ed];exact Md
   ·rw [e1]
    by_cases ha:lV G.D b h
    ·rw [if_pos ha];exact xx cR (hp ha)
    ·rw [if_neg ha,List.append_nil];exact cR
 ·rw [aQ,ag.c8]
  rw [List.take_of_length_le (by omega)]at cR hFv;unfold ag.cK;intro qR;have Ao:Kept Nil v qR:=(Kept.refl _ _).drew;clear_value qR;have B33:=Bv.same Ao;refine⟨some ⟨c,0,none⟩,by rw [ay B33.V.hc];rfl,_,B33.C.c1,s.1,⟨s.2.1,Cells.bC B33.V.hh⟩,?_⟩;refine r7 s fun jj pb qb mP JV JU AO hqb=>⟨_,rfl,?_⟩;have M5:Kept Nil v jj:=Ao.tt mP;have Jx:Kept (· =p'.fm) w6 jj:=kv.trans M5 (fun _ _ h=>h.elim);have B35:=Bv.same M5;have afl:=Jx.size;have abm:xA jj p'.fm kn (bJ G.D bl h):=hFv.same M5
  let Bf:Value:=.func (.func aV.id) #[] #[.pointer (some ⟨pb,0,none⟩),.pointer (some ⟨qb,0,none⟩)]
  let ρ0:Env:= [(3,.pointer (some ⟨p'.bc,0,none⟩)),(5,.pointer (some ⟨w.heap.size,0,none⟩)),(6,.pointer (some ⟨w4.heap.size,0,none⟩)),(7,.pointer (some ⟨w5.heap.size,0,none⟩)),(36,Bf)]
  let J:Nat->World->Prop:=fun j u=>∃done:List HT,done++xL G h (l.drop j)=jM/\xA u p'.fm kn done/\eQ k kn [] done=true/\Kept (· =p'.fm) jj u/\j<=l.length
  let Jd:Code->World->Prop:=fun e u=>e=.ret/\∃r:Bool,u.heap[w5.heap.size]? =some (.cells #[.bool r] gJ (0,0))/\r=eQ k kn [] jM/\(r=true->xA u p'.fm kn jM)/\Kept (fun j=>j=p'.fm\/j=w5.heap.size) jj u
  have lpb:=aS JV;have lqb:=aS JU;have afi:=Ao.size;have svw:=(kA kv).size;obtain⟨mx,X35,Qa⟩:=B35.C.X;have XJ:∀ {u:World},Kept (· =p'.fm) jj u->XV u m.FX m.x G.D G.P mx:=fun k=>X35.aD k (fun j hj e=>by subst e;rw [Ep]at hj;exact B.fo (.inl (Qa _ hj))) (fun j hj e=>by subst e;rw [Ep]at hj;exact B.ff (B.C.fx _ hj))
  change Holds none [] prog _ _ _ ρ0 jj
  have out:∀ {u:World} {R:Loop} (r:Bool),Kept (· =p'.fm) jj u->Live (jj.heap.size+1) jj.heap.size R u->r=eQ k kn [] jM->(r=true->xA u p'.fm kn jM)->Wr u ⟨w5.heap.size,0,none⟩/\∀u',u'=u.setCell ⟨w5.heap.size,0,none⟩ (.bool r)->Live (jj.heap.size+1) jj.heap.size R u'/\Jd .ret u':=fun {u R} r ku hl hr hf=>by
   obtain⟨u0,e0,t1,t2,t3⟩:=fin r (Jx.tt ku);refine⟨t1,fun u' eu=>?_⟩;rw [eu,<-e0];refine⟨hl.aD t3 (by omega) (by omega),rfl,r,t2,hr,fun e=>(hf e).aD t3 (by omega),(ku.mono fun _ _ h=>.inl h).trans t3 (fun _ _ h=>.inr h)⟩
  refine mV (n:=90) (ρ:=ρ0) (ρ0:=ρ0) ng mix ag.k (t:=36) (ps:= #[37]) (by kernel_rfl) (by decide) rfl aV.at_ rfl (.inl rfl) (fun i x hi hx=>hx) rfl qH l (fun _=>rfl) (fun q hq=>by
   have e49:q=37:=by simpa using hq
   subst e49;exact⟨by decide,by decide⟩) (BT (F:=m.FX) (x:=m.x) (m:=mx) (pb:=pb) (qb:=qb) hc (by omega)) J Jd ?_ ?_ (fun j u ⟨done,_,_,_,kJ,_⟩=>⟨XJ kJ,kJ.heap JV (by omega),kJ.heap JU (by omega)⟩) ?_ ?_ ?_ ?_ ?_
  ·rintro j u1 u2 R qE ⟨done,h1,h2,h3,h4,h5⟩ nC
   exact⟨done,h1,h2.aD nC (by omega),h3,h4.trans nC (fun k hk e=>by omega),h5⟩
  ·rintro e u1 u2 R qE ⟨h1,r,h2,h3,h4,h5⟩ nC
   exact⟨h1,r,nC.heap h2 (by omega),h3,fun e=>(h4 e).aD nC (by omega),h5.trans nC (fun k hk e=>by omega)⟩
  ·intro R
   have ka:Kept Nil jj ((jj.alloc (.deferred (some []))).alloc (.loop R)):=(((Kept.refl _ _).alloc _).alloc _);exact⟨bJ G.D bl h,pZ,abm.same ka,cR,ka.mono fun _ _ h=>h.elim,Nat.zero_le _⟩
  ·rintro j z u1 R hz ⟨done,h1,h2,h3,h4,h5⟩ qE
   have e7:kK ρ0 ((#[37]:Array Nat).toList.zip (qH z))= [(3,.pointer (some ⟨p'.bc,0,none⟩)),(5,.pointer (some ⟨w.heap.size,0,none⟩)),(6,.pointer (some ⟨w4.heap.size,0,none⟩)),(7,.pointer (some ⟨w5.heap.size,0,none⟩)),(36,Bf),(37,.agg z.1)]:=rfl;rw [e7,ag.a1];have ti:=(lgeS hz).1;have ND:=Ww z (List.mem_of_getElem? hz);have Vo:l.drop j=z::l.drop (j+1):=by
    obtain⟨hi,e⟩:=lgeS hz;rw [List.drop_eq_getElem_cons hi,e]
   rw [Vo,xL]at h1;unfold ag.A1;intro Fw;obtain⟨sH,jh,jB⟩:=gM (w:=u1) (z:=dU.1) (cs:=z.1) (t:=aj) (by rw [z.2.1];rfl);refine⟨⟨z.2.1,z.2.one,fun j hj=>sH j (by rw [z.2.1];exact hj)⟩,?_⟩;intro KS
   replace jh:KS.heap[u1.heap.size]? =some (.cells z.1 aj (0,0)):=jh
   replace jB:Kept Nil u1 KS:=jB
   clear_value KS;have Hq:=qE.aD jB (fun h=>h) (fun h=>h);refine⟨Hq,fun w2 R2 nA sM=>?_⟩;have lS:=nA.heap jh (jX jh Hq.loop);have afn:=h4.size;have vi:Kept (· =p'.fm) jj w2:=(h4.trans jB (fun _ _ h=>h.elim)).trans nA (fun k hk e=>by omega);have Pk:xA w2 p'.fm kn done:=(h2.same jB).aD nA (by omega);have B2:=B35.aD vi;rw [ag.y1];unfold ag.Y1;have e2:∃rest,done++(if lV G.D z h then [z]else [])++rest=jM:=⟨_,(List.append_assoc _ _ _).trans h1⟩;obtain⟨rest,e2⟩:=e2;refine⟨some ⟨c,0,none⟩,by rw [ay B2.V.hc];rfl,z.1,⟨z.2.1,Cells.bC lS⟩,h.1,⟨h.2.1,by have:=B2.hb;rw [W3]at this;exact Cells.bC this⟩,?_⟩;rw [<-eyb];refine ri B2 hD nP hs hc (done:=done) (by rw [vo];exact Pk) lS (by omega) (fun ha=>by
    rw [if_pos ha]at e2;rw [<-e2]at wk;exact(List.nodup_append.1 wk).1) ?_ ?_
   ·intro u ha hp ku
    rw [vo]at hp;rw [if_pos ha,List.append_assoc]at e2;obtain⟨o1,o2⟩:=out (u:=u) false (vi.tt ku) (sM.aD ku (by omega) (by omega)) (BC e2 hp).symm (fun e=>by cases e);refine⟨o1,?_⟩;intro Xs;exact o2 Xs rfl
   ·intro u wu ed hp Md ku
    rw [vo]at hp Md;have Yn:=vi.tt ku;have hlu:=sM.aD ku (by omega) (by omega);have Ma:eQ k kn [] wu=true:=by
     rw [ed];by_cases ha:lV G.D z h
     ·rw [if_pos ha];exact xx h3 (hp ha)
     ·rw [if_neg ha,List.append_nil];exact h3
    rw [<-List.append_assoc,<-ed]at h1;intro Xr;have k61:Kept Nil u Xr:=(Kept.refl _ _).drew;clear_value Xr;have Nh:Kept (· =p'.fm) w2 Xr:=ku.trans k61 (fun _ _ h=>h.elim);have Xi:=B2.aD Nh;have Yv:=Nh.heap lS (by omega);obtain⟨mx1,X61,_⟩:=Xi.C.X;refine⟨some ⟨c,0,none⟩,by rw [ay Xi.V.hc];rfl,_,Xi.C.c1,z.1,⟨z.2.1,Cells.bC Yv⟩,h.1,⟨h.2.1,by have:=Xi.hb;rw [W3]at this;exact Cells.bC this⟩,?_⟩;refine kQ X61 hD z h fun EY r hr D6=>⟨r,rfl,?_⟩;have Jt:Kept Nil u EY:=k61.tt D6;have Tv:=hlu.aD Jt (fun h=>h) (fun h=>h);have RU:=Yn.trans Jt (fun _ _ h=>h.elim);have abk:=Md.same Jt;cases r with
    |true=>
     have AZ:=hr.1 rfl;rw [if_pos AZ,List.append_nil]at h1;obtain⟨o1,o2⟩:=out (u:=EY) true RU Tv (by rw [<-h1,Ma]) (fun _=>by rw [<-h1];exact abk);refine Split.yes rfl ⟨o1,?_⟩;intro Mw;exact o2 Mw rfl
    |false=>
     have Th:¬eI G.D z h:=fun e=>by have:=hr.2 e;cases this
     rw [if_neg Th]at h1;refine Split.no rfl ?_;intro Ft;have Lb:Kept Nil EY Ft:=(Kept.refl _ _).drew;clear_value Ft;have JE:Kept (· =p'.fm) w2 Ft:=Nh.trans (D6.tt Lb) (fun _ _ h=>h.elim);have VT:=B2.aD JE;have Sb:=JE.heap lS (by omega);obtain⟨A1,n1,c1,B1,m1,d1,s1,sa⟩:=VT.C.seen z ND;refine⟨some ⟨c,0,none⟩,by rw [ay VT.V.hc];rfl,_,VT.C.c2,z.1,⟨z.2.1,Cells.bC Sb⟩,_,VT.C.nu ND,_,⟨aW ..,sa.gm⟩,?_⟩;intro w73;have Yg:Kept Nil Ft w73:=(Kept.refl _ _).alloc _;obtain⟨NK,y5,xg⟩:=gM (w:=Ft) (z:=zC) (cs:=cD (G.gm z) A1 n1 c1 B1 m1 d1) (t:=bg) (by rw [aW];rfl);have B73:=VT.same Yg;refine⟨⟨_,rfl,aW ..,(sa.aD Yg (fun _ _ h=>h)).gm⟩,B73.C.nu ND,⟨z.1,rfl,z.2.1,Cells.bC (Yg.heap Sb (fun h=>h))⟩,B73.C.c2,by rw [ay B73.V.hc];rfl,⟨aW ..,dI _ _ _ _ _ _ _,fun j hj=>NK j (by rw [aW];exact hj)⟩,?_⟩;intro PO
     replace y5:PO.heap[Ft.heap.size]? =some (.cells (cD (G.gm z) A1 n1 c1 B1 m1 d1) bg (0,0)):=y5
     replace xg:Kept Nil Ft PO:=xg
     clear_value PO w73;have RJ:Kept Nil u PO:=Jt.tt (Lb.tt xg);have RX:Kept (· =p'.fm) w2 PO:=JE.trans xg (fun _ _ h=>h.elim);have afq:=RX.size;have afr:=JE.size;have s2:=vi.size;have ahJ:=hlu.aD RJ (fun h=>h) (fun h=>h);have XC:=sa.aD xg (fun _ _ h=>h);have adS:=sa.mg.len;have Ut:=sa.bl.len;have hff:∀j,F j->j≠p'.fm:=fun j hj e=>by rw [Ep]at e;subst e;exact B.ff hj
     have hcg:=fe (G.gm z) A1 n1 c1 B1 m1 d1 #[];rw [Array.append_empty]at hcg;refine⟨A1,n1,c1,by rw [a7,ay y5];exact hcg.2.1,?_⟩;have adX:(G.gm z).dJ.length=(G.gm z).merge.length:=by
      rcases(cY.ex H z)with⟨lz,cz⟩;rcases cz.inv W H ND with⟨_,nd,h0,rfl⟩|⟨t,r',_,pq,_,_⟩
      ·obtain⟨r1,_⟩:=B.C.eM.root nd h0
       rw [r1];rfl
      ·exact(B.C.eM.up t z pq).2.2.1
     have Ka:(G.gm z).merge.length<=G.D.length:=by
      have eF:(G.gm z).merge.Nodup/\∀y∈(G.gm z).merge,y∈ids G.D:=by
       rcases(cY.ex H z)with⟨lz,cz⟩;rcases cz.inv W H ND with⟨_,nd,h0,rfl⟩|⟨t,r',_,pq,_,_⟩
       ·obtain⟨r1,_⟩:=B.C.eM.root nd h0
        rw [r1];exact⟨List.nodup_nil,fun y hy=>by cases hy⟩
       ·obtain⟨_,_,_,g1,g2⟩:=B.C.eM.up t z pq
        exact⟨g1,fun y hy=>(((g2 y).1 hy).1.mem W).1⟩
      have:=cI eF.1 eF.2
      rwa [fc]at this
     refine ag.gw (I:=fun s0 v=>∃i:Nat,s0=(i:Int)/\i<=n1/\∃dn:List HT,dn++(bJ G.D (dG ((G.gm z).merge.drop i) ((G.gm z).dJ.drop i)) h++xL G h (l.drop (j+1)))=jM/\xA v p'.fm kn dn/\eQ k kn [] dn=true/\Kept (· =p'.fm) PO v) (μ:=fun s0 _=>((n1:Int)-s0).toNat) (s:=0) ⟨0,rfl,Nat.zero_le _,wu,by rw [List.drop_zero,List.drop_zero];exact h1,Md.same RJ,Ma,Kept.refl _ _⟩ ?_;rintro s0 v2 ⟨i2,rfl,AT,dn,g1,g2,g3,g4⟩;have Gy:Kept (· =p'.fm) w2 v2:=RX.tt g4;have Bv2:=B2.aD Gy;have XB:=XC.aD g4 (fun j hj e=>hff j hj e);have RT:=vi.tt Gy;have Tu:=sM.aD Gy (by omega) (by omega);have sv2:=Gy.size;refine Split.dec (fun iU=>?_) (fun fU=>?_)
     ·have dW:i2<n1:=by omega
      obtain⟨b,hb⟩:=XB.mg.get_mem dW;obtain⟨bb2,Uz⟩:∃y,(G.gm z).dJ[i2]? =some y:=⟨_,List.getElem?_eq_getElem (by omega)⟩;refine XB.mg.load (i:=(i2:Int)) (by omega) hb ?_;intro lN;obtain⟨YG,Es,vn⟩:=gM (w:=v2) (z:=dU.1) (cs:=b.1) (t:=aj) (by rw [b.2.1];rfl);refine⟨⟨b.2.1,b.2.one,fun j hj=>YG j (by rw [b.2.1];exact hj)⟩,?_⟩;intro jk
      replace Es:jk.heap[v2.heap.size]? =some (.cells b.1 aj (0,0)):=Es
      replace vn:Kept Nil v2 jk:=vn
      clear_value jk;have PL:=Bv2.same vn;have Uq:=vn.heap (g4.heap y5 (by omega)) (fun h=>h);have XE:=XB.aD vn (fun _ _ h=>h);obtain⟨aB,HF,_,Hy⟩:=XE.bl.at_ i2 bb2 Uz;subst HF;refine⟨some aB,m1,d1,by rw [a7,ay Uq];exact hcg.2.2.1,⟨by omega,by omega⟩,bb2,by rw [Int.toNat_natCast,Nat.mul_one];exact Hy,?_⟩;rw [Bx hb Uz]at g1;cases bb2 with
      |false=>
       refine Split.no rfl ?_;rw [dh (n:=(i2:Int)) (by omega) (by omega)];exact⟨(i2:Int)+1,rfl,⟨i2+1,rfl,dW,dn,g1,g2.same vn,g3,g4.trans vn (fun _ _ h=>h.elim)⟩,by simp only;omega⟩
      |true=>
       rw [if_pos rfl,fp,List.append_assoc]at g1;have abG:bJ G.D [b] h=if lV G.D b h then [b]else []:=by
        unfold bJ;by_cases hp:lV G.D b h
        ·rw [if_pos hp,List.filter_cons_of_pos (by simpa using hp)];rfl
        ·rw [if_neg hp,List.filter_cons_of_neg (by simpa using hp)];rfl
       rw [abG,<-List.append_assoc]at g1;refine Split.yes rfl ⟨some ⟨c,0,none⟩,by rw [ay PL.V.hc];rfl,b.1,⟨b.2.1,Cells.bC Es⟩,h.1,⟨h.2.1,by have:=PL.hb;rw [W3]at this;exact Cells.bC this⟩,?_⟩;refine ri PL hD nP hs hc (done:=dn) (by rw [vo];exact g2.same vn) Es (by omega) (fun ha=>by
        rw [if_pos ha]at g1;rw [<-g1]at wk;exact(List.nodup_append.1 wk).1) ?_ ?_
       ·intro u2 ha hp E6
        rw [vo]at hp;rw [if_pos ha,List.append_assoc]at g1;have kk:Kept (· =p'.fm) v2 u2:=(vn.mono fun _ _ h=>h.elim).tt E6;obtain⟨o1,o2⟩:=out (u:=u2) false (RT.tt kk) (Tu.aD kk (by omega) (by omega)) (BC g1 hp).symm (fun e=>by cases e);refine⟨o1,?_⟩;intro Xs;rw [hZ];exact o2 Xs rfl
       ·intro u2 dn' ed2 Qi U4 E6
        rw [vo]at Qi U4;have kk:Kept (· =p'.fm) v2 u2:=(vn.mono fun _ _ h=>h.elim).tt E6;rw [dh (n:=(i2:Int)) (by omega) (by omega)];refine⟨(i2:Int)+1,rfl,⟨i2+1,rfl,dW,dn',by rw [ed2];exact g1,U4,?_,g4.tt kk⟩,by simp only;omega⟩;rw [ed2];by_cases ha:lV G.D b h
        ·rw [if_pos ha];exact xx g3 (Qi ha)
        ·rw [if_neg ha,List.append_nil];exact g3
     ·rw [aQ,ag.Xk]
      unfold ag.VF;have en:(G.gm z).merge.drop i2= []:=List.drop_eq_nil_of_le (by omega);rw [en]at g1;exact⟨Tu,dn,by simpa [dG,bJ]using g1,g2,g3,RT,ti⟩
  ·rintro u1 R ⟨done,h1,h2,h3,h4,h5⟩ qE
   have e7:gN ρ0 jj.heap.size= [(3,.pointer (some ⟨p'.bc,0,none⟩)),(5,.pointer (some ⟨w.heap.size,0,none⟩)),(6,.pointer (some ⟨w4.heap.size,0,none⟩)),(7,.pointer (some ⟨w5.heap.size,0,none⟩)),(36,Bf),(4294967296,.agg (pT [jj.heap.size]))]:=rfl;rw [e7,ag.jS];unfold ag.iR;have ec:done=jM:=by rw [<-h1,List.drop_of_length_le (Nat.le_refl _),xL,List.append_nil]
   obtain⟨o1,o2⟩:=out (u:=u1) true h4 qE (by rw [<-ec,h3]) (fun _=>by rw [<-ec];exact h2);refine⟨o1,?_⟩;intro pJ;obtain⟨ZO,_,r,t1,t2,t3,t4⟩:=o2 pJ rfl;clear_value pJ;rw [mE];have kt:=jF [jj.heap.size] pJ;have hm:∀E∈ [jj.heap.size],pJ.heap[E]? =some (.deferred (some [])):=fun E hE=>by
    rw [List.mem_singleton]at hE;subst hE;exact ZO.mark
   refine⟨lv [jj.heap.size] pJ (by simp) hm,r,by rw [ay (kt.heap t1 (fun hE=>by rw [List.mem_singleton]at hE;omega))];rfl,?_⟩;exact hK' _ r t2 (fun e=>(t3 e).aD kt (fun hE=>by rw [List.mem_singleton]at hE;omega)) (((kA Jx).trans t4 (fun j hj e=>by rcases e with e|e;exact e;omega)).trans kt (fun j hj hE=>by rw [List.mem_singleton]at hE;omega))
  ·rintro u1 R ⟨_,r,t1,t2,t3,t4⟩ qE
   have e7:gN ρ0 jj.heap.size= [(3,.pointer (some ⟨p'.bc,0,none⟩)),(5,.pointer (some ⟨w.heap.size,0,none⟩)),(6,.pointer (some ⟨w4.heap.size,0,none⟩)),(7,.pointer (some ⟨w5.heap.size,0,none⟩)),(36,Bf),(4294967296,.agg (pT [jj.heap.size]))]:=rfl;rw [e7,ag.zN];unfold ag.uV;rw [mE];have kt:=jF [jj.heap.size] u1;have hm:∀E∈ [jj.heap.size],u1.heap[E]? =some (.deferred (some [])):=fun E hE=>by
    rw [List.mem_singleton]at hE;subst hE;exact qE.mark
   refine⟨lv [jj.heap.size] u1 (by simp) hm,r,by rw [ay (kt.heap t1 (fun hE=>by rw [List.mem_singleton]at hE;omega))];rfl,?_⟩;exact hK' _ r t2 (fun e=>(t3 e).aD kt (fun hE=>by rw [List.mem_singleton]at hE;omega)) (((kA Jx).trans t4 (fun j hj e=>by rcases e with e|e;exact e;omega)).trans kt (fun j hj hE=>by rw [List.mem_singleton]at hE;omega))
  ·rintro id u1 R ⟨e,_⟩ qE
   cases e
end
end Go.Proofs.YtnboahlopghcjaaGreatDoor
