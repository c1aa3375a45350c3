import Derived.Test.YtfleamccglihoaaGreatDoorMI
import Derived.Test.YtfleamccglihoaaGreatDoorMJ
import Derived.Test.YtfleamccglihoaaGreatDoorMN
import Derived.Test.YtfleamccglihoaaGreatDoorMG
open Go.IntKind (i64 u64)
set_option linter.unusedVariables false
namespace Go.Proofs.YtfleamccglihoaaGreatDoor
open Go.Proofs.Tryz
open Go Go.bT
structure ou where
 iY:HT
 score:Nat
 merge:List HT
 fh:List Bool
structure GS where
 D:DG
 P:List Int
 qK:List ou
 kN:List (List HT)
def GS.at_(G:GS)(h:HT):Option Nat:=pos h (ids G.D) 0
def GS.gF(G:GS)(h:HT):ou:=((G.at_ h).bind (G.qK[·]?)).getD ⟨dX,0,[],[]⟩
def GS.world(G:GS)(h:HT):List HT:=((G.at_ h).bind (G.kN[·]?)).getD []
def GS.score(G:GS)(h:HT):Nat:=(G.gF h).score
def gl(G:GS)(a b:HT):Bool:=decide (G.score a<G.score b)||(decide (G.score a=G.score b)&&cU a b)
def BH(G:GS)(a b:HT):Int:=if gl G a b then-1 else if gl G b a then 1 else 0
def cC(G:GS):List HT->HT
 | []=>dX
 |x::l=>l.foldl (fun b y=>if gl G b y then y else b) x
def oo(D:DG)(a b:HT):Prop:=a≠b/\¬fy D a b/\¬fy D b a
noncomputable instance(D:DG)(a b:HT):Decidable (oo D a b):=Classical.propDecidable _
noncomputable instance(D:DG)(a b:HT):Decidable (fy D a b):=Classical.propDecidable _
noncomputable def bV(D:DG)(l:List HT)(h:HT):List HT:=l.filter fun b=>decide (oo D b h)
def SO(G:GS)(l:List HT):Prop:=l.Pairwise fun a b=>gl G a b=true
noncomputable def tg(D:DG)(s:HT)(l:List HT):List HT:=(dw (eB D l++l)).filter fun h=>decide (h≠s/\¬fy D h s)
def wX(G:GS)(x:HT):List HT->List HT
 | []=> [x]
 |y::l=>if gl G x y then x::y::l else y::wX G x l
noncomputable def cP(G:GS)(s:HT)(l:List HT):List HT:=(tg G.D s l).foldr (wX G) []
noncomputable def oV(k:Nat)(D:DG)(wd:List HT)(h:HT):Bool:=decide ((bV D wd h).length<=k/\∀y∈bV D wd h,(bV D wd y).length+1<=k)
structure VS where
 wd:List HT
 bl:List Bool
noncomputable def oL(k:Nat)(D:DG)(s:VS)(h:HT):VS:=⟨if oV k D s.wd h then s.wd++ [h]else s.wd,s.bl++ [oV k D s.wd h]⟩
noncomputable def fK(k:Nat)(G:GS)(s:HT)(l:List HT):VS:=(cP G s l).foldl (oL k G.D) ⟨G.world s++ [s],[]⟩
noncomputable def cR(k:Nat)(G:GS)(s:HT)(l:List HT):ou:=⟨s,G.score s+1+(fK k G s l).bl.count true,cP G s l,(fK k G s l).bl⟩
noncomputable def dz(k:Nat)(G:GS)(h:HT)(ps:List HT):GS:=
 if dF G.D h ps=0 then⟨G.D++ [⟨h,dw ps⟩],G.P++ [(((pos (cC G ps) (ids G.D) 0).getD 0:Nat):Int)],G.qK++ [cR k G (cC G ps) ps],G.kN++ [(fK k G (cC G ps) ps).wd]⟩else G
def dm(r:HT):GS:=⟨[⟨r,[]⟩],[-1],[⟨dX,0,[],[]⟩],[[]]⟩
def dZ:List HT->List Bool->List HT
 |h::l,b::m=>if b then h::dZ l m else dZ l m
 |_,_=> []
theorem nS(G:GS)(a:HT):gl G a a=false:=by simp [gl,iz]
theorem pU{G:GS}{a b c:HT}(h:gl G a b=true)(h':gl G b c=true):gl G a c=true:=by
 simp only [gl,Bool.or_eq_true,Bool.and_eq_true,decide_eq_true_eq]at*;rcases h with h|⟨h,h1⟩
 ·rcases h' with h'|⟨h',h2⟩
  ·exact .inl (by omega)
  ·exact .inl (by omega)
 ·rcases h' with h'|⟨h',h2⟩
  ·exact .inl (by omega)
  ·exact .inr ⟨by omega,kH h1 h2⟩
theorem pV{G:GS}{a b:HT}(h:gl G a b=false)(h':gl G b a=false):a=b:=by
 simp only [gl,Bool.or_eq_false_iff,Bool.and_eq_false_iff,decide_eq_false_iff_not]at*;have e:G.score a=G.score b:=by omega
 obtain⟨_,h2⟩:=h;obtain⟨_,h3⟩:=h';exact qv (by rcases h2 with h2|h2;exact absurd e h2;exact h2) (by rcases h3 with h3|h3;exact absurd e.symm h3;exact h3)
theorem Bp{G:GS}{a b:HT}(h:gl G a b=true):gl G b a=false:=by
 cases hb:gl G b a
 ·rfl
 ·have:=pU h hb
  rw [nS]at this;cases this
theorem zf{G:GS}{a b:HT}:BH G a b<0↔gl G a b=true:=by
 unfold BH;split
 ·simp_all
 ·split<;>simp_all
theorem Mo(G:GS)(a b:HT):BH G a b=if G.score a<G.score b then-1 else if G.score b<G.score a then 1 else lV a b:=by
 unfold BH lV gl;by_cases h1:G.score a<G.score b
 ·simp [h1]
 ·by_cases h2:G.score b<G.score a
  ·have:¬G.score a=G.score b:=by omega
   simp [h1,h2,this]
  ·have:G.score a=G.score b:=by omega
   simp [this]
theorem SO.cons{G:GS}{x:HT}{l:List HT}:SO G (x::l)↔(∀y∈l,gl G x y=true)/\SO G l:=List.pairwise_cons
theorem SO.nodup{G:GS}{l:List HT}(h:SO G l):l.Nodup:=List.Pairwise.imp (fun {a b} lI e=>by subst e;rw [nS]at lI;cases lI) h
theorem Kh{G:GS}:∀ {l m:List HT},SO G l->SO G m->(∀x,x∈l↔x∈m)->l=m
 | [],[],_,_,_=>rfl
 | [],y::m,_,_,h=>by have:=(h y).2 (by simp);simp at this
 |x::l,[],_,_,h=>by have:=(h x).1 (by simp);simp at this
 |x::l,y::m,hl,hm,h=>by
  rw [SO.cons]at hl hm;have oY:x=y:=by
   rcases List.mem_cons.1 ((h x).1 List.mem_cons_self)with e|e
   ·exact e
   ·rcases List.mem_cons.1 ((h y).2 List.mem_cons_self)with e'|e'
    ·exact e'.symm
    ·have h1:=hm.1 _ e
     have h2:=hl.1 _ e';rw [Bp h1]at h2;cases h2
  subst oY;have:l=m:=Kh hl.2 hm.2 fun z=>by
   have hz:=h z;simp only [List.mem_cons]at hz;constructor
   ·intro nv
    rcases hz.1 (.inr nv)with e|e
    ·subst e;have:=hl.1 _ nv;rw [nS]at this;cases this
    ·exact e
   ·intro nv
    rcases hz.2 (.inr nv)with e|e
    ·subst e;have:=hm.1 _ nv;rw [nS]at this;cases this
    ·exact e
  rw [this]
theorem vH{G:GS}{x z:HT}:∀ {l:List HT},z∈wX G x l↔z=x\/z∈l
 | []=>by simp [wX]
 |y::l=>by
  unfold wX;split
  ·simp
  ·simp only [List.mem_cons,vH (l:=l)]
   constructor
   ·rintro(h|h|h)<;>simp [h]
   ·rintro(h|h|h)<;>simp [h]
theorem EX{G:GS}{x:HT}:∀ {l:List HT},SO G l->x∉l->SO G (wX G x l)
 | [],_,_=>by simp [wX,SO]
 |y::l,h,hx=>by
  have h':=SO.cons.1 h;simp only [List.mem_cons,not_or]at hx;unfold wX;split
  ·rename_i oY
   refine SO.cons.2 ⟨fun z hz=>?_,h⟩;rcases List.mem_cons.1 hz with rfl|hz
   ·exact oY
   ·exact pU oY (h'.1 _ hz)
  ·rename_i oY
   refine SO.cons.2 ⟨fun z hz=>?_,EX h'.2 hx.2⟩;rcases vH.1 hz with rfl|hz
   ·cases RF:gl G y z
    ·exact absurd (pV RF (by simpa using oY)).symm hx.1
    ·rfl
   ·exact h'.1 _ hz
theorem qt{G:GS}{z:HT}:∀ {l:List HT},z∈l.foldr (wX G) []↔z∈l
 | []=>by simp
 |x::l=>by rw [List.foldr_cons,vH,qt,List.mem_cons]
theorem BS{G:GS}:∀ {l:List HT},l.Nodup->SO G (l.foldr (wX G) [])
 | [],_=>List.Pairwise.nil
 |x::l,h=>by
  rw [List.nodup_cons]at h;exact EX (BS h.2) fun e=>h.1 (qt.1 e)
theorem rh(D:DG)(s:HT)(l:List HT):(tg D s l).Nodup:=(jh _).nodup.filter _
theorem vG{D:DG}{s:HT}{l:List HT}{h:HT}:h∈tg D s l↔((h∈ids D/\∃p∈l,fy D h p)\/h∈l)/\h≠s/\¬fy D h s:=by
 unfold tg eB;rw [List.mem_filter,dM,List.mem_append,jS,decide_eq_true_eq]
theorem jw{G:GS}{s:HT}{l:List HT}{h:HT}:h∈cP G s l↔((h∈ids G.D/\∃p∈l,fy G.D h p)\/h∈l)/\h≠s/\¬fy G.D h s:=by
 unfold cP;rw [qt,vG]
theorem lG(G:GS)(s:HT)(l:List HT):SO G (cP G s l):=BS (rh _ _ _)
theorem th{G:GS}{s:HT}{l m:List HT}(hs:SO G m)(h:∀x,x∈m↔x∈tg G.D s l):m=cP G s l:=
 Kh hs (lG G s l) fun x=>by unfold cP;rw [h,qt]
theorem lM{G:GS}:∀ {l:List HT},l≠ []->cC G l∈l
 |x::l,_=>by
  have key:∀(l:List HT) (b:HT),l.foldl (fun b y=>if gl G b y then y else b) b=b\/l.foldl (fun b y=>if gl G b y then y else b) b∈l:=by
   intro l
   induction l with
   |nil=>intro b;exact .inl rfl
   |cons y l ih=>
    intro b;simp only [List.foldl_cons];rcases ih (if gl G b y then y else b)with e|e
    ·rw [e]
     split
     ·exact .inr List.mem_cons_self
     ·exact .inl rfl
    ·exact .inr (List.mem_cons_of_mem _ e)
  rcases key l x with e|e
  ·rw [cC,e];exact List.mem_cons_self
  ·exact List.mem_cons_of_mem _ e
theorem fV(D:DG)(l m:List HT)(h:HT):bV D (l++m) h=bV D l h++bV D m h:=List.filter_append ..
theorem fN{D:DG}{l:List HT}{h b:HT}:b∈bV D l h↔b∈l/\oo D b h:=by unfold bV;rw [List.mem_filter,decide_eq_true_eq]
theorem oo.symm{D:DG}{a b:HT}(h:oo D a b):oo D b a:=⟨h.1.symm,h.2.2,h.2.1⟩
theorem mO{x:HT}:∀ {m:List HT} {b:List Bool},x∈dZ m b->x∈m
 |h::l,b::m,hx=>by
  unfold dZ at hx;split at hx
  ·rcases List.mem_cons.1 hx with e|e
   ·rw [e];exact List.mem_cons_self
   ·exact List.mem_cons_of_mem _ (mO e)
  ·exact List.mem_cons_of_mem _ (mO hx)
 | [],_,hx=>by simp [dZ]at hx
 |_::_,[],hx=>by simp [dZ]at hx
theorem oI:∀ {m:List HT} {b:List Bool},m.Nodup->(dZ m b).Nodup
 |h::l,b::m,hn=>by
  rw [List.nodup_cons]at hn;unfold dZ;split
  ·exact List.nodup_cons.2 ⟨fun e=>hn.1 (mO e),oI hn.2⟩
  ·exact oI hn.2
 | [],_,_=>by simp [dZ]
 |_::_,[],_=>by simp [dZ]
theorem wD:∀ {m:List HT} {b:List Bool},b.length=m.length->(dZ m b).length=b.count true
 |h::l,b::m,hn=>by
  have:=wD (m:=l) (b:=m) (by simpa using hn);unfold dZ;cases b<;>simp [this]
 | [],[],_=>rfl
 | [],_::_,h=>by simp at h
 |_::_,[],h=>by simp at h
theorem uq{x:HT}{c:Bool}:∀ {m:List HT} {b:List Bool},b.length=m.length->dZ (m++ [x]) (b++ [c])=dZ m b++if c then [x]else []
 |h::l,b::m,hn=>by
  have:=uq (x:=x) (c:=c) (m:=l) (b:=m) (by simpa using hn);simp only [List.cons_append,dZ,this];cases b<;>simp
 | [],[],_=>by cases c<;>simp [dZ]
 | [],_::_,h=>by simp at h
 |_::_,[],h=>by simp at h
theorem Hy(k:Nat)(D:DG)(wd:List HT):∀(m:List HT),∃b:List Bool,b.length=m.length/\m.foldl (oL k D) ⟨wd,[]⟩=⟨wd++dZ m b,b⟩:=by
 intro m
 induction h:m.length generalizing m with
 |zero=>exact⟨[],by simp,by rw [List.length_eq_zero_iff.1 h];simp [dZ]⟩
 |succ n ih=>
  have fL:m≠ []:=fun e=>by rw [e]at h;simp at h
  obtain⟨m',x,rfl⟩:∃m' x,m=m'++ [x]:=⟨m.dropLast,m.getLast fL,(List.dropLast_concat_getLast fL).symm⟩;obtain⟨b,h1,h2⟩:=ih m' (by simpa using h);have h1:b.length=m'.length:=by rw [List.length_append,List.length_cons,List.length_nil]at h;omega
  refine⟨b++ [oV k D (wd++dZ m' b) x],by simp only [List.length_append,List.length_cons,List.length_nil]at h⊢;omega,?_⟩;rw [List.foldl_append,h2,List.foldl_cons,List.foldl_nil,uq h1];unfold oL;cases oV k D (wd++dZ m' b) x<;>simp
theorem rP(k:Nat)(G:GS)(s:HT)(l:List HT):(fK k G s l).bl.length=(cP G s l).length/\(fK k G s l).wd=G.world s++ [s]++dZ (cP G s l) (fK k G s l).bl:=by
 obtain⟨b,h1,h2⟩:=Hy k G.D (G.world s++ [s]) (cP G s l);unfold fK;rw [h2];exact⟨h1,rfl⟩
structure iD(k:Nat)(G:GS):Prop where
 W:j0 G.D
 iY:rO G.D G.P
 lc:G.qK.length=G.D.length
 lw:G.kN.length=G.D.length
 root:∀nd,G.D[0]? =some nd->G.gF nd.id=⟨dX,0,[],[]⟩/\G.world nd.id= []
 up:∀s h,lu G.D G.P s h->(G.gF h).iY=s/\G.world h=G.world s++ [s]++dZ (G.gF h).merge (G.gF h).fh/\(G.gF h).fh.length=(G.gF h).merge.length/\(G.gF h).merge.Nodup/\∀y,y∈(G.gF h).merge↔fy G.D y h/\y≠s/\¬fy G.D y s
 wd:∀h∈ids G.D,(G.world h).Nodup/\(∀b∈G.world h,fy G.D b h)/\G.score h=(G.world h).length
theorem GS.tF{G:GS}(W:j0 G.D){i:Nat}{nd:DN}(h:G.D[i]? =some nd):G.at_ nd.id=some i:=W.pos_eq h
theorem GS.JN{G:GS}(W:j0 G.D){i:Nat}{nd:DN}{c:ou}(h:G.D[i]? =some nd)(hc:G.qK[i]? =some c):G.gF nd.id=c:=by
 unfold GS.gF;rw [GS.tF W h];simp [hc]
theorem GS.Hs{G:GS}(W:j0 G.D){i:Nat}{nd:DN}{c:List HT}(h:G.D[i]? =some nd)(hc:G.kN[i]? =some c):G.world nd.id=c:=by
 unfold GS.world;rw [GS.tF W h];simp [hc]
section
variable{k:Nat}{G:GS}{h:HT}{ps:List HT}
theorem uX(hc:dF G.D h ps≠0):dz k G h ps=G:=by unfold dz;rw [if_neg hc]
theorem p9:(dz k G h ps).D=mY G.D h ps:=by
 unfold dz mY;split<;>rfl
theorem Kb:(dz k G h ps).D=nX G.D h (cC G ps) ps:=by
 rw [p9];unfold nX;by_cases hc:dF G.D h ps=0
 ·have fL:=(lJ hc).2.1
  have:gZ G.D h (cC G ps) ps=0:=by unfold gZ;rw [if_pos hc,if_pos (lM fL)]
  rw [if_pos this,qd hc]
 ·have:gZ G.D h (cC G ps) ps≠0:=by unfold gZ;rw [if_neg hc];exact hc
  rw [if_neg this];unfold mY;rw [if_neg hc]
theorem GW:gZ G.D h (cC G ps) ps=dF G.D h ps:=by
 unfold gZ;split
 ·rename_i hc
  rw [if_pos (lM (lJ hc).2.1),hc]
 ·rfl
theorem Kc:(dz k G h ps).P=nW G.D G.P h (cC G ps) ps:=by
 unfold nW dz;rw [GW];by_cases hc:dF G.D h ps=0
 ·rw [if_pos hc,if_pos hc]
 ·rw [if_neg hc,if_neg hc]
theorem mQ(hc:dF G.D h ps=0):dz k G h ps=⟨G.D++ [⟨h,dw ps⟩],G.P++ [(((pos (cC G ps) (ids G.D) 0).getD 0:Nat):Int)],G.qK++ [cR k G (cC G ps) ps],G.kN++ [(fK k G (cC G ps) ps).wd]⟩:=by
 unfold dz;rw [if_pos hc]
theorem DU(H:iD k G){s:HT}(hs:s∈ids G.D)(l:List HT)(hl:∀p∈l,p∈ids G.D):
 (fK k G s l).wd.Nodup/\(fK k G s l).wd.length=(cR k G s l).score/\∀y∈(fK k G s l).wd,y∈ids G.D/\(y=s\/fy G.D y s\/y∈cP G s l):=by
 obtain⟨h1,h2⟩:=rP k G s l;obtain⟨w1,w2,w3⟩:=H.wd s hs;have hm:∀y∈dZ (cP G s l) (fK k G s l).bl,y∈ids G.D/\y≠s/\¬fy G.D y s:=fun y hy=>by
  obtain⟨e,h3,h4⟩:=jw.1 (mO hy);refine⟨?_,h3,h4⟩;rcases e with e|e
  ·exact e.1
  ·exact hl _ e
 rw [h2];refine⟨?_,?_,?_⟩
 ·refine List.nodup_append.2 ⟨List.nodup_append.2 ⟨w1,by simp,?_⟩,oI (lG G s l).nodup,?_⟩
  ·intro a ha b hb e
   have hb:b=s:=by simpa using hb
   subst hb;subst e;exact fy.irrefl H.W _ (w2 _ ha)
  ·intro a ha b hb e
   subst e;obtain⟨_,h3,h4⟩:=hm _ hb;rcases List.mem_append.1 ha with e|e
   ·exact h4 (w2 _ e)
   ·exact h3 (by simpa using e)
 ·unfold cR
  simp only [List.length_append,List.length_cons,List.length_nil,wD h1,w3]
 ·intro y hy
  rcases List.mem_append.1 hy with hy|hy
  ·rcases List.mem_append.1 hy with hy|hy
   ·exact⟨((w2 _ hy).mem H.W).1,.inr (.inl (w2 _ hy))⟩
   ·have:y=s:=by simpa using hy
    subst this;exact⟨hs,.inl rfl⟩
  ·exact⟨(hm _ hy).1,.inr (.inr (mO hy))⟩
theorem nZ(H:iD k G){y:HT}(hy:y∈ids G.D):(dz k G h ps).gF y=G.gF y/\(dz k G h ps).world y=G.world y:=by
 by_cases hc:dF G.D h ps=0
 ·obtain⟨hn,fL,gB,qU⟩:=lJ hc
  obtain⟨nd,uD,rfl⟩:=dp.1 hy;obtain⟨i,hi⟩:=List.getElem?_of_mem uD;have dV:=(lgeS hi).1;have Gs:(G.D++ [(⟨h,dw ps⟩:DN)])[i]? =some nd:=by rw [List.getElem?_append_left dV];exact hi
  have W':j0 (dz k G h ps).D:=by rw [p9];exact H.W.add h ps
  rw [mQ hc]at W'⊢;have e1:(⟨G.D++ [⟨h,dw ps⟩],G.P++ [(((pos (cC G ps) (ids G.D) 0).getD 0:Nat):Int)],G.qK++ [cR k G (cC G ps) ps],G.kN++ [(fK k G (cC G ps) ps).wd]⟩:GS).at_ nd.id=some i:=GS.tF W' Gs;have e2:=GS.tF H.W hi;unfold GS.gF GS.world;rw [e1,e2];simp only [Option.bind_some];rw [List.getElem?_append_left (by rw [H.lc];exact dV),List.getElem?_append_left (by rw [H.lw];exact dV)];exact⟨rfl,rfl⟩
 ·rw [uX hc];exact⟨rfl,rfl⟩
theorem og(H:iD k G)(hc:dF G.D h ps=0):(dz k G h ps).gF h=cR k G (cC G ps) ps/\(dz k G h ps).world h=(fK k G (cC G ps) ps).wd:=by
 have W':j0 (dz k G h ps).D:=by rw [p9];exact H.W.add h ps
 rw [mQ hc]at W'⊢;have Gs:(G.D++ [(⟨h,dw ps⟩:DN)])[G.D.length]? =some ⟨h,dw ps⟩:=by rw [List.getElem?_append_right (Nat.le_refl _),Nat.sub_self];rfl
 have e1:(⟨G.D++ [⟨h,dw ps⟩],G.P++ [(((pos (cC G ps) (ids G.D) 0).getD 0:Nat):Int)],G.qK++ [cR k G (cC G ps) ps],G.kN++ [(fK k G (cC G ps) ps).wd]⟩:GS).at_ h=some G.D.length:=GS.tF W' Gs;unfold GS.gF GS.world;rw [e1];simp only [Option.bind_some];rw [List.getElem?_append_right (by rw [H.lc];exact Nat.le_refl _),H.lc,Nat.sub_self,List.getElem?_append_right (by rw [H.lw];exact Nat.le_refl _),H.lw,Nat.sub_self];exact⟨rfl,rfl⟩
end
section
variable{k:Nat}{G:GS}{h:HT}{ps:List HT}
theorem mG(k:Nat)(r:HT):iD k (dm r):=by
 have e0:(dm r).at_ r=some 0:=GS.tF (G:=dm r) (j0.root r) (nd:=⟨r,[]⟩) rfl;have ec:(dm r).gF r=⟨dX,0,[],[]⟩:=by unfold GS.gF;rw [e0];rfl
 have ew:(dm r).world r= []:=by unfold GS.world;rw [e0];rfl
 refine⟨j0.root r,rO.one r,rfl,rfl,?_,?_,?_⟩
 ·intro nd gB
  have:nd=⟨r,[]⟩:=by simpa [dm]using gB.symm
  subst this;exact⟨ec,ew⟩
 ·rintro s h ⟨i,j,ni,m,h1,_,h3,_,_⟩
  exfalso;cases i with
  |zero=>simp [dm]at h3
  |succ i=>simp [dm]at h1
 ·intro h hm
  have:h=r:=by simpa [dm,ids]using hm
  subst this;refine⟨by rw [ew];simp,by rw [ew];simp,?_⟩;unfold GS.score;rw [ec,ew];rfl
theorem HL(H:iD k G)(hc:dF G.D h ps=0):∃(j:Nat) (m:DN),G.D[j]? =some m/\m.id=cC G ps/\(pos (cC G ps) (ids G.D) 0).getD 0=j/\cC G ps∈ps/\cC G ps∈ids G.D:=by
 obtain⟨hn,fL,gB,qU⟩:=lJ hc;have h1:=lM (G:=G) fL;have h2:=qU _ (dM.2 h1);obtain⟨m,hm,e⟩:=dp.1 h2;obtain⟨j,hj⟩:=List.getElem?_of_mem hm;have h3:=H.W.pos_eq hj;rw [e]at h3;exact⟨j,m,hj,e,by rw [h3];rfl,h1,h2⟩
theorem BQ(H:iD k G)(hc:dF G.D h ps=0):(∀y,fy (G.D++ [⟨h,dw ps⟩]) y h↔∃p∈ps,y=p\/fy G.D y p)/\∀a b,b∈ids G.D->(fy (G.D++ [⟨h,dw ps⟩]) a b↔fy G.D a b):=by
 obtain⟨hn,fL,gB,qU⟩:=lJ hc;have W':j0 (G.D++ [⟨h,dw ps⟩]):=by have:=H.W.add h ps;rwa [qd hc]at this
 have Gs:(G.D++ [(⟨h,dw ps⟩:DN)])[G.D.length]? =some ⟨h,dw ps⟩:=by rw [List.getElem?_append_right (Nat.le_refl _),Nat.sub_self];rfl
 have FQ:∀a b,b∈ids G.D->(fy (G.D++ [⟨h,dw ps⟩]) a b↔fy G.D a b):=fun a b hb=>jB H.W hn hb;refine⟨fun y=>?_,FQ⟩;rw [sJ W' Gs y];constructor
 ·rintro⟨p,hp,e⟩
  exact⟨p,dM.1 hp,e.imp_right fun e=>(FQ _ _ (qU _ hp)).1 e⟩
 ·rintro⟨p,hp,e⟩
  exact⟨p,dM.2 hp,e.imp_right fun e=>(FQ _ _ (qU _ (dM.2 hp))).2 e⟩
theorem iD.add(H:iD k G)(h:HT)(ps:List HT):iD k (dz k G h ps):=by
 by_cases hc:dF G.D h ps=0
 ·obtain⟨hn,fL,gB,qU⟩:=lJ hc
  obtain⟨j,m,hj,hm,jK,Bb,I0⟩:=HL H hc;obtain⟨GP,FQ⟩:=BQ H hc;have hk:=fun y (hy:y∈ids G.D)=>nZ (h:=h) (ps:=ps) H hy;obtain⟨nc,nw⟩:=og H hc;obtain⟨v1,v2⟩:=rP k G (cC G ps) ps;obtain⟨u1,u2,u3⟩:=DU H I0 ps (fun p hp=>qU _ (dM.2 hp));have W':j0 (G.D++ [⟨h,dw ps⟩]):=by have:=H.W.add h ps;rwa [qd hc]at this
  have nt:rO (G.D++ [(⟨h,dw ps⟩:DN)]) (G.P++ [(j:Int)]):=H.iY.snoc hj (by rw [hm];exact dM.2 Bb) H.W.pos;generalize hs:cC G ps=s at*;have eG:=mQ (k:=k) hc;rw [hs,jK]at eG;have eD:(dz k G h ps).D=G.D++ [⟨h,dw ps⟩]:=by rw [eG]
  have eP:(dz k G h ps).P=G.P++ [(j:Int)]:=by rw [eG]
  refine⟨by rw [eD];exact W',by rw [eD,eP];exact nt,by rw [eG];simp [H.lc],by rw [eG];simp [H.lw],?_,?_,?_⟩
  ·intro nd uD
   rw [eD,List.getElem?_append_left H.W.pos]at uD;obtain⟨e1,e2⟩:=hk nd.id (dp.2 ⟨nd,List.mem_of_getElem? uD,rfl⟩);rw [e1,e2];exact H.root nd uD
  ·intro t y hy
   rw [eD,eP,oy H.W H.iY hn hj]at hy;rcases hy with hy|⟨rfl,rfl⟩
   ·have hp:=hy.par H.iY
    have XT:y∈ids G.D:=((fy.one hp).mem H.W).2;have Ua:t∈ids G.D:=((fy.one hp).mem H.W).1;obtain⟨e1,e2⟩:=hk y XT;obtain⟨_,e3⟩:=hk t Ua;obtain⟨g1,g2,g3,g4,g5⟩:=H.up t y hy;rw [e1,e2,e3,eD];refine⟨g1,g2,g3,g4,fun z=>?_⟩;rw [g5,FQ _ _ XT,FQ _ _ Ua]
   ·show _/\_
    rw [nc,nw,hm,(hk s I0).2,eD];refine⟨rfl,v2,v1,(lG _ _ _).nodup,fun z=>?_⟩;show z∈cP G s ps↔_
    rw [jw,GP,FQ _ _ I0];constructor
    ·rintro⟨e,h3,h4⟩
     refine⟨?_,h3,h4⟩;rcases e with⟨_,p,hp,e⟩|e
     ·exact⟨p,hp,.inr e⟩
     ·exact⟨z,e,.inl rfl⟩
    ·rintro⟨⟨p,hp,e⟩,h3,h4⟩
     refine⟨?_,h3,h4⟩;rcases e with rfl|e
     ·exact .inr hp
     ·exact .inl ⟨(e.mem H.W).1,p,hp,e⟩
  ·intro y hy
   rw [eD,lR]at hy;rcases List.mem_append.1 hy with hy|hy
   ·obtain⟨e1,e2⟩:=hk y hy
    obtain⟨g1,g2,g3⟩:=H.wd y hy;unfold GS.score;rw [e1,e2,eD];exact⟨g1,fun b hb=>(FQ _ _ hy).2 (g2 b hb),g3⟩
   ·have:y=h:=by simpa using hy
    subst this;unfold GS.score;rw [nc,nw,eD];refine⟨u1,fun b hb=>?_,u2.symm⟩;obtain⟨_,e⟩:=u3 b hb;rw [GP];rcases e with rfl|e|e
    ·exact⟨b,Bb,.inl rfl⟩
    ·exact⟨s,Bb,.inr e⟩
    ·obtain⟨e,_,_⟩:=jw.1 e
     rcases e with⟨_,p,hp,e⟩|e
     ·exact⟨p,hp,.inr e⟩
     ·exact⟨b,e,.inl rfl⟩
 ·rw [uX hc];exact H
end
def mV(sz:HT->HT->Option Nat)(l:List HT)(b:HT):Nat:=(l.findSome? fun h=>sz h b).getD 0
def sq(ov:HT->Option Nat)(base:HT->Nat)(b:HT):Nat:=(ov b).getD (base b)
structure OV(D:DG)(wd:List HT)(ov:HT->Option Nat)(base:HT->Nat):Prop where
 kn:∀b∈wd,sq ov base b=(bV D wd b).length
 R0:∀b n,ov b=some n->b∈wd
noncomputable def An(D:DG)(wd:List HT)(ov:HT->Option Nat)(base:HT->Nat)(h:HT):HT->Option Nat:=
 fun b=>if b∈bV D wd h then some (sq ov base b+1)else if b=h then some (bV D wd h).length else ov b
theorem OV.step{D:DG}{wd:List HT}{ov:HT->Option Nat}{base:HT->Nat}(H:OV D wd ov base){h:HT}(hn:h∉wd):OV D (wd++ [h]) (An D wd ov base h) base:=by
 refine⟨fun b hb=>?_,fun b n e=>?_⟩
 ·rw [fV,List.length_append]
  unfold sq An;by_cases hp:b∈bV D wd h
  ·rw [if_pos hp]
   obtain⟨h1,h2⟩:=fN.1 hp;rw [Option.getD_some,H.kn b h1];have:bV D [h] b= [h]:=by unfold bV;rw [List.filter_cons_of_pos (by simpa using h2.symm)];rfl
   rw [this];rfl
  ·rw [if_neg hp]
   by_cases e:b=h
   ·subst e
    rw [if_pos rfl,Option.getD_some];have:bV D [b] b= []:=by unfold bV;rw [List.filter_cons_of_neg (by simpa using fun e:oo D b b=>e.1 rfl)];rfl
    rw [this];rfl
   ·rw [if_neg e]
    have hw:b∈wd:=by
     rcases List.mem_append.1 hb with hb|hb
     ·exact hb
     ·exact absurd (by simpa using hb) e
    have:bV D [h] b= []:=by unfold bV;rw [List.filter_cons_of_neg (by simpa using fun e':oo D h b=>hp (fN.2 ⟨hw,e'.symm⟩))];rfl
    rw [this];exact H.kn b hw
 ·unfold An at e
  split at e
  ·rename_i hp
   exact List.mem_append_left _ (fN.1 hp).1
  ·split at e
   ·rename_i hb;subst hb;exact List.mem_append_right _ (by simp)
   ·exact List.mem_append_left _ (H.R0 b n e)
structure SZ(G:GS)(sz:HT->HT->Option Nat):Prop where
 kn:∀h l,h∈ids G.D->cI G.D G.P h l->∀b∈G.world h++ [h],mV sz l b=(bV G.D (G.world h++ [h]) b).length
 R0:∀h b n,sz h b=some n->b∈ids G.D
theorem SZ.ov{G:GS}{sz:HT->HT->Option Nat}(Z:SZ G sz){s:HT}(hs:s∈ids G.D){l:List HT}(hl:cI G.D G.P s l):OV G.D (G.world s++ [s]) (fun _=>none) (mV sz l):=
 ⟨fun b hb=>Z.kn s l hs hl b hb,fun b n e=>by cases e⟩
theorem Up.snoc{P:List Int}{p:Int}:∀ {i:Nat} {l:List Nat},Up P i l->Up (P++ [p]) i l:=by
 intro i l h
 induction h with
 |root=>exact .root
 |step h _ ih=>exact .step (by rw [List.getElem?_append_left (lgeS h).1];exact h) ih
theorem xX{D:DG}{nd:DN}{i:Nat}(h:i<D.length):mJ (D++ [nd]) i=mJ D i:=by unfold mJ;rw [List.getElem?_append_left h]
theorem cI.snoc{D:DG}{P:List Int}(H:rO D P){nd:DN}{p:Int}{h:HT}{l:List HT}(hm:h∈ids D)(c:cI D P h l):cI (D++ [nd]) (P++ [p]) h l:=by
 rcases c with⟨hn,_⟩|⟨i,m,ks,h1,h2,h3,h4⟩
 ·exact absurd hm hn
 ·have dV:=(lgeS h1).1
  refine .inr ⟨i,m,ks,by rw [List.getElem?_append_left dV];exact h1,h2,h3.snoc,?_⟩;rw [h4];refine List.map_congr_left fun k hk=>(xX ?_).symm;have:=h3.lt H.par (by rw [H.len];exact dV) k hk
  rwa [H.len]at this
theorem cI.new{D:DG}{P:List Int}(W:j0 D)(H:rO D P){nd m:DN}{j:Nat}(hj:D[j]? =some m){l:List HT}(c:cI D P m.id l):cI (D++ [nd]) (P++ [(j:Int)]) nd.id (nd.id::l):=by
 have hm:m.id∈ids D:=dp.2 ⟨m,List.mem_of_getElem? hj,rfl⟩;have c':=cI.snoc (nd:=nd) (p:=(j:Int)) H hm c;rcases c with⟨hn,_⟩|⟨i,m',ks,h1,h2,h3,h4⟩
 ·exact absurd hm hn
 ·have rM:=W.inj h1 hj h2
  subst rM;have e0:(D++ [nd])[D.length]? =some nd:=by rw [List.getElem?_append_right (Nat.le_refl _),Nat.sub_self];rfl
  refine .inr ⟨D.length,nd,D.length::ks,e0,rfl,.step (by rw [<-H.len,List.getElem?_append_right (Nat.le_refl _),Nat.sub_self];rfl) h3.snoc,?_⟩;rw [List.map_cons,mI e0,h4]
  congr 1
  refine List.map_congr_left fun k hk=>(xX ?_).symm;have:=h3.lt H.par (by rw [H.len];exact(lgeS h1).1) k hk
  rwa [H.len]at this
theorem r7{D D':DG}{l:List HT}{b:HT}(h:∀a∈l,oo D' a b↔oo D a b):bV D' l b=bV D l b:=by
 unfold bV;exact List.filter_congr fun a ha=>by simp only [h a ha]
theorem SZ.root(r:HT):SZ (dm r) (fun _ _=>none):=by
 refine⟨fun h l hm _ b hb=>?_,fun h b n e=>by cases e⟩;have hh:h=r:=by simpa [dm,ids]using hm
 subst hh;have ew:(dm h).world h= []:=((mG 0 h).root ⟨h,[]⟩ rfl).2;rw [ew]at hb⊢;have:b=h:=by simpa using hb
 subst this;have:bV (dm b).D ([]++ [b]) b= []:=by unfold bV;rw [List.nil_append,List.filter_cons_of_neg (by simpa using fun e:oo (dm b).D b b=>e.1 rfl)];rfl
 rw [this];unfold mV;have:(l.findSome? fun _=>(none:Option Nat))=none:=by simp
 rw [this];rfl
theorem SZ.add{k:Nat}{G:GS}{sz:HT->HT->Option Nat}(Z:SZ G sz)(H:iD k G){h:HT}{ps:List HT}(hc:dF G.D h ps=0){l:List HT}(hl:cI G.D G.P (cC G ps) l){ov:HT->Option Nat}
 (O:OV G.D (fK k G (cC G ps) ps).wd ov (mV sz l)):SZ (dz k G h ps) (fun y=>if y=h then ov else sz y):=by
 obtain⟨hn,fL,gB,qU⟩:=lJ hc;obtain⟨j,m,hj,hm,jK,Bb,I0⟩:=HL H hc;obtain⟨GP,FQ⟩:=BQ H hc;have H':=H.add h ps;obtain⟨nc,nw⟩:=og H hc;obtain⟨u1,u2,u3⟩:=DU H I0 ps (fun p hp=>qU _ (dM.2 hp));have eD:(dz k G h ps).D=G.D++ [⟨h,dw ps⟩]:=by rw [mQ hc]
 have eP:(dz k G h ps).P=G.P++ [(j:Int)]:=by rw [mQ hc,jK]
 have apt:∀a b,a∈ids G.D->b∈ids G.D->(oo (G.D++ [⟨h,dw ps⟩]) a b↔oo G.D a b):=fun a b ha hb=>by unfold oo;rw [FQ _ _ hb,FQ _ _ ha]
 have lno:∀(y:HT) (l':List HT),y∈ids G.D->cI G.D G.P y l'->∀b,mV (fun y=>if y=h then ov else sz y) l' b=mV sz l' b:=fun y l' hy c b=>by
  unfold mV;have Yf:h∉l':=fun e=>hn ((c.mem H.W H.iY).1 e).mem.1;have key:∀l':List HT,h∉l'->(l'.findSome? fun y=>(if y=h then ov else sz y) b)=l'.findSome? fun y=>sz y b:=by
   intro l'
   induction l' with
   |nil=>intro _;rfl
   |cons y l' ih=>
    intro hq;simp only [List.mem_cons,not_or]at hq;rw [List.findSome?_cons,List.findSome?_cons,if_neg (fun e=>hq.1 e.symm),ih hq.2]
  rw [key l' Yf]
 refine⟨fun y l' hy c b hb=>?_,fun y b n e=>?_⟩
 ·rw [eD,eP]at c
  rw [eD]at hy⊢;rw [lR]at hy;have W':j0 (G.D++ [⟨h,dw ps⟩]):=by have:=H'.W;rwa [eD]at this
  have S':rO (G.D++ [⟨h,dw ps⟩]) (G.P++ [(j:Int)]):=by have:=H'.iY;rwa [eD,eP]at this
  rcases List.mem_append.1 hy with hy|hy
  ·obtain⟨l0,c0⟩:=cI.ex H.iY y
   have:l'=l0:=c.one W' S' (c0.snoc H.iY hy);subst this;obtain⟨_,e2⟩:=nZ (k:=k) (h:=h) (ps:=ps) H hy;rw [e2]at hb⊢;rw [lno y l' hy c0,Z.kn y l' hy c0 b hb];have fJ:∀a∈G.world y++ [y],a∈ids G.D:=fun a ha=>by
    rcases List.mem_append.1 ha with ha|ha
    ·exact(((H.wd y hy).2.1 a ha).mem H.W).1
    ·have:a=y:=by simpa using ha
     subst this;exact hy
   rw [r7 fun a ha=>apt a b (fJ a ha) (fJ b hb)]
  ·have:y=h:=by simpa using hy
   subst this;have cn:=cI.new (nd:=⟨y,dw ps⟩) H.W H.iY hj (by rw [hm];exact hl);have:l'=y::l:=c.one W' S' cn;subst this;rw [nw]at hb⊢;have e1:mV (fun z=>if z=y then ov else sz z) (y::l) b=sq ov (mV sz l) b:=by
    have:=lno _ l I0 hl b;unfold mV at this⊢;unfold sq;rw [List.findSome?_cons];cases Gn:ov b with
    |none=>simp only [if_true,Gn,Option.getD_none];exact this
    |some n=>simp only [if_true,Gn,Option.getD_some]
   rw [e1,fV,List.length_append];have SY:∀a∈(fK k G (cC G ps) ps).wd,¬oo (G.D++ [⟨y,dw ps⟩]) a y:=fun a ha e=>by
    obtain⟨_,e'⟩:=u3 a ha;refine e.2.1 ((GP a).2 ?_);rcases e' with rfl|e'|e'
    ·exact⟨_,Bb,.inl rfl⟩
    ·exact⟨_,Bb,.inr e'⟩
    ·obtain⟨e',_,_⟩:=jw.1 e'
     rcases e' with⟨_,p,hp,e'⟩|e'
     ·exact⟨p,hp,.inr e'⟩
     ·exact⟨a,e',.inl rfl⟩
   rcases List.mem_append.1 hb with hb|hb
   ·have hbi:=(u3 b hb).1
    have:bV (G.D++ [⟨y,dw ps⟩]) [y] b= []:=by unfold bV;rw [List.filter_cons_of_neg (by simpa using fun e:oo _ y b=>SY b hb e.symm)];rfl
    rw [this,O.kn b hb,r7 fun a ha=>apt a b (u3 a ha).1 hbi];rfl
   ·have:b=y:=by simpa using hb
    subst this;have e2:bV (G.D++ [⟨b,dw ps⟩]) (fK k G (cC G ps) ps).wd b= []:=by
     unfold bV;rw [List.filter_eq_nil_iff];intro a ha;simpa using SY a ha
    have e3:bV (G.D++ [⟨b,dw ps⟩]) [b] b= []:=by unfold bV;rw [List.filter_cons_of_neg (by simpa using fun e:oo _ b b=>e.1 rfl)];rfl
    rw [e2,e3];have e4:ov b=none:=by
     cases Gn:ov b with
     |none=>rfl
     |some n=>exact absurd (u3 b (O.R0 b n Gn)).1 hn
    have e5:mV sz l b=0:=by
     unfold mV;have:(l.findSome? fun h=>sz h b)=none:=by
      rw [List.findSome?_eq_none_iff];intro y hy;cases Ha:sz y b with
      |none=>rfl
      |some n=>exact absurd (Z.R0 y b n Ha) hn
     rw [this];rfl
    unfold sq;rw [e4,e5];rfl
 ·rw [eD,lR]
  refine List.mem_append_left _ ?_;split at e
  ·exact(u3 b (O.R0 b n e)).1
  ·exact Z.R0 y b n e
noncomputable def zA(G:GS)(h:HT):List HT->List HT
 | []=> []
 |a::r=>(if oo G.D a h then [a]else [])++if fy G.D a h then []else bV G.D (dZ (G.gF a).merge (G.gF a).fh) h++zA G h r
theorem Up.inv{P:List Int}{i:Nat}{l:List Nat}(h:Up P i l):(i=0/\l= [0])\/∃(j:Nat) (r:List Nat),l=i::r/\P[i]? =some (j:Int)/\Up P j r:=by
 cases h with
 |root=>exact .inl ⟨rfl,rfl⟩
 |step h1 h2=>exact .inr ⟨_,_,rfl,h1,h2⟩
theorem cI.inv{D:DG}{P:List Int}(W:j0 D)(H:rO D P){h:HT}{l:List HT}(hm:h∈ids D)(c:cI D P h l):
 (l= [h]/\∃nd,D[0]? =some nd/\nd.id=h)\/∃(s:HT) (r:List HT),l=h::r/\lu D P s h/\s∈ids D/\cI D P s r:=by
 rcases c with⟨hn,_⟩|⟨i,m,ks,h1,h2,h3,h4⟩
 ·exact absurd hm hn
 ·rcases h3.inv with⟨rfl,rfl⟩|⟨j,r,rfl,h5,h6⟩
  ·refine .inl ⟨?_,m,h1,h2⟩
   rw [h4,List.map_cons,List.map_nil,mI h1,h2]
  ·have hj:j<D.length:=by
    cases i with
    |zero=>rw [H.root]at h5;simp only [Option.some.injEq]at h5;omega
    |succ i=>
     obtain⟨j',m',e,_,h7,_⟩:=H.up (i+1) _ m (by omega) h5 h1;have:=(lgeS h7).1;omega
   obtain⟨mj,Qc⟩:∃mj,D[j]? =some mj:=⟨_,List.getElem?_eq_getElem hj⟩;refine .inr ⟨mj.id,r.map (mJ D),?_,⟨i,j,m,mj,h1,h2,h5,Qc,rfl⟩,dp.2 ⟨mj,List.mem_of_getElem? Qc,rfl⟩,.inr ⟨j,mj,r,Qc,rfl,h6,rfl⟩⟩;rw [h4,List.map_cons,mI h1,h2]
theorem Q5{k:Nat}{G:GS}(H:iD k G)(h:HT):∀(l:List HT) (s:HT),s∈ids G.D->cI G.D G.P s l->(zA G h l).Nodup/\∀y,y∈zA G h l↔y∈bV G.D (G.world s++ [s]) h:=by
 intro l
 induction l with
 |nil=>
  intro s hs c;rcases c.inv H.W H.iY hs with⟨e,_⟩|⟨_,_,e,_⟩<;>cases e
 |cons a r ih=>
  intro s hs c;have key:∀(wb:List HT),G.world s=wb++dZ (G.gF s).merge (G.gF s).fh->(zA G h r).Nodup->(∀y,y∈zA G h r↔y∈bV G.D wb h)->a=s->(zA G h (a::r)).Nodup/\∀y,y∈zA G h (a::r)↔y∈bV G.D (G.world s++ [s]) h:=by
   rintro wb hw hn hy rfl;obtain⟨w1,w2,_⟩:=H.wd a hs;have abK:=fy.irrefl H.W a;rw [hw]at w1 w2⊢;rw [List.nodup_append]at w1;obtain⟨w3,w4,w5⟩:=w1;unfold zA;by_cases ha:fy G.D a h
   ·have LK:¬oo G.D a h:=fun e=>e.2.1 ha
    rw [if_pos ha,if_neg LK];refine⟨by simp,fun y=>?_⟩;simp only [List.append_nil,List.not_mem_nil,false_iff];intro e;obtain⟨e1,e2⟩:=fN.1 e;rcases List.mem_append.1 e1 with e1|e1
    ·exact e2.2.1 ((w2 y e1).trans ha)
    ·have:y=a:=by simpa using e1
     subst this;exact LK e2
   ·rw [if_neg ha]
    have hr:∀y∈zA G h r,y∈wb:=fun y e=>(fN.1 ((hy y).1 e)).1;refine⟨?_,fun y=>?_⟩
    ·refine List.nodup_append.2 ⟨by split<;>simp,List.nodup_append.2 ⟨w4.filter _,hn,?_⟩,?_⟩
     ·intro x hx z hz e
      subst e;exact w5 x (hr x hz) x (fN.1 hx).1 rfl
     ·intro x hx z hz e
      subst e;split at hx
      ·have:x=a:=by simpa using hx
       subst this;refine abK (w2 x ?_);rcases List.mem_append.1 hz with hz|hz
       ·exact List.mem_append_right _ (fN.1 hz).1
       ·exact List.mem_append_left _ (hr x hz)
      ·simp at hx
    ·rw [fV,fV]
     simp only [List.mem_append,hy];have e1:y∈(if oo G.D a h then [a]else [])↔y∈bV G.D [a] h:=by
      unfold bV;by_cases hp:oo G.D a h
      ·rw [if_pos hp,List.filter_cons_of_pos (by simpa using hp)];rfl
      ·rw [if_neg hp,List.filter_cons_of_neg (by simpa using hp)];rfl
     rw [e1];constructor
     ·rintro(e|e|e)
      ·exact .inr e
      ·exact .inl (.inr e)
      ·exact .inl (.inl e)
     ·rintro((e|e)|e)
      ·exact .inr (.inr e)
      ·exact .inr (.inl e)
      ·exact .inl e
  rcases c.inv H.W H.iY hs with⟨e,nd,h0,rfl⟩|⟨t,r',e,qG,ht,hc⟩
  ·obtain⟨r1,r2⟩:=H.root nd h0
   cases e;exact key [] (by rw [r2,r1];simp [dZ]) (by simp [zA]) (fun y=>by simp [zA,bV]) rfl
  ·cases e
   obtain⟨_,u2,_⟩:=H.up t a qG;obtain⟨i1,i2⟩:=ih t ht hc;exact key (G.world t++ [t]) u2 i1 i2 rfl
noncomputable def oU(G:GS)(h:HT)(bl l:List HT):List HT:=bV G.D bl h++zA G h l
theorem Mp{k:Nat}{G:GS}(H:iD k G){h s:HT}{l bl:List HT}(hs:s∈ids G.D)(hl:cI G.D G.P s l)(hn:(G.world s++ [s]++bl).Nodup):
 (oU G h bl l).Nodup/\(oU G h bl l).length=(bV G.D (G.world s++ [s]++bl) h).length/\∀y,y∈oU G h bl l↔y∈bV G.D (G.world s++ [s]++bl) h:=by
 obtain⟨h1,h2⟩:=Q5 H h l s hs hl;have h0:=hn;rw [List.nodup_append]at hn;obtain⟨n1,n2,n3⟩:=hn;have hm:∀y,y∈oU G h bl l↔y∈bV G.D (G.world s++ [s]++bl) h:=fun y=>by
  unfold oU;rw [fV,List.mem_append,List.mem_append,h2];exact Or.comm
 have gB:(oU G h bl l).Nodup:=by
  refine List.nodup_append.2 ⟨n2.filter _,h1,?_⟩;intro x hx z hz e;subst e;exact n3 x (fN.1 ((h2 x).1 hz)).1 x (fN.1 hx).1 rfl
 exact⟨gB,((List.perm_ext_iff_of_nodup gB (h0.filter _)).2 hm).length_eq,hm⟩
def r8(k:Nat)(kn:HT->Nat)(done:List HT)(b:HT):Bool:=decide (done.length+1<=k/\kn b<k)
def ft(k:Nat)(kn:HT->Nat):List HT->List HT->Bool
 |_,[]=>true
 |done,b::l=>r8 k kn done b&&ft k kn (done++ [b]) l
theorem p8{k:Nat}{kn:HT->Nat}:∀ {l done:List HT},ft k kn done l=true↔(l≠ []->done.length+l.length<=k)/\∀b∈l,kn b<k
 | [],done=>by simp [ft]
 |b::l,done=>by
  unfold ft r8;rw [Bool.and_eq_true,decide_eq_true_eq,p8];simp only [List.length_append,List.length_cons,List.length_nil,List.mem_cons,forall_eq_or_imp,ne_eq,reduceCtorEq,not_false_eq_true,forall_const];constructor
  ·rintro⟨⟨h1,h2⟩,h3,h4⟩
   refine⟨?_,h2,h4⟩;by_cases e:l= []
   ·subst e;simpa using h1
   ·have:=h3 e;omega
  ·rintro⟨h1,h2,h3⟩
   refine⟨⟨by omega,h2⟩,fun _=>by omega,h3⟩
theorem mP{k:Nat}{kn:HT->Nat}:∀ {l m done:List HT},ft k kn done (l++m)=(ft k kn done l&&ft k kn (done++l) m)
 | [],m,done=>by simp [ft]
 |b::l,m,done=>by
  simp only [List.cons_append,ft,mP (l:=l),Bool.and_assoc,List.append_assoc,List.nil_append]
theorem JR{k:Nat}{D:DG}{wd:List HT}{kn:HT->Nat}{h:HT}{c:List HT}(hk:∀b∈wd,kn b=(bV D wd b).length)(hl:c.length=(bV D wd h).length)(hm:∀y,y∈c↔y∈bV D wd h):
 ft k kn [] c=oV k D wd h:=by
 rw [Bool.eq_iff_iff,p8];unfold oV;rw [decide_eq_true_eq];simp only [List.length_nil,Nat.zero_add,<-hl];constructor
 ·rintro⟨h1,h2⟩
  refine⟨?_,fun y hy=>?_⟩
  ·by_cases e:c= []
   ·subst e;simp
   ·exact h1 e
  ·have:=h2 y ((hm y).2 hy)
   rw [hk y (fN.1 hy).1]at this;omega
 ·rintro⟨h1,h2⟩
  refine⟨fun _=>h1,fun y hy=>?_⟩;have hy:=(hm y).1 hy;rw [hk y (fN.1 hy).1];have:=h2 y hy;omega
open Go.RowKit
theorem Ib:xy dK fu (.pointer none):=⟨by kernel_rfl,uK (by kernel_rfl)⟩
theorem si:xy cK jV (.int .i64 0):=⟨by kernel_rfl,uK (by kernel_rfl)⟩
structure Bo(w:World)(A:Option Addr)(n:Nat)(l:List Bool):Prop where
 len:l.length=n
 at_:∀(i:Nat) (b:Bool),l[i]? =some b->∃a,A=some a/\a.block<w.heap.size/\w.cell? (a.add i)=some (.bool b)
theorem Bo.aF{S:Nat->Prop}{w w':World}{A:Option Addr}{n:Nat}{l:List Bool}(h:Bo w A n l)(hk:Kept S w w')(hn:∀a,A=some a->¬S a.block):Bo w' A n l:=⟨h.len,fun i x hi=>by
 obtain⟨a,h1,h2,h3⟩:=h.at_ i x hi;exact⟨a,h1,Nat.lt_of_lt_of_le h2 hk.size,hk.cell h3 (by rw [eW];exact hn a h1)⟩⟩
theorem Bo.same{w w':World}{A:Option Addr}{n:Nat}{l:List Bool}(h:Bo w A n l)(hk:Kept Nil w w'):Bo w' A n l:=h.aF hk fun _ _ h=>h
def K1(ov:HT->Option Nat)(b:HT):Option Value:=(ov b).map fun n:Nat=>.int .i64 (n:Int)
def GY(w:World)(F:Nat->Prop)(sm:Option Nat)(sz:HT->Option Nat):Prop:=
 (sm=none/\∀b,sz b=none)\/∃s,sm=some s/\F s/\fR w s (K1 sz)
def cQ(c:ou)(A:Option Addr)(n cp:Nat)(B:Option Addr)(m cq:Nat):Array Value:=c.iY.1++ #[.int .u64 (c.score:Int),.slice A n cp,.slice B m cq]
structure qW(w:World)(F:Nat->Prop)(q:Nat)(c:ou)(sz:HT->Option Nat)(A:Option Addr)(n cp:Nat)(B:Option Addr)(m cq:Nat)(sm:Option Nat):Prop where
 top:w.heap[q]? =some (.cells (cQ c A n cp B m cq++ #[.map sm]) eh (0,0))
 mg:HS w A n c.merge
 bl:Bo w B m c.fh
 fA:∀a,A=some a->F a.block
 fB:∀a,B=some a->F a.block
 sz:GY w F sm sz
 fq:F q
def Seen(w:World)(F:Nat->Prop)(q:Nat)(c:ou)(sz:HT->Option Nat):Prop:=∃A n cp B m cq sm,qW w F q c sz A n cp B m cq sm
section
variable{w w':World}{F S:Nat->Prop}{q:Nat}{c:ou}{sz:HT->Option Nat}{A B:Option Addr}{n cp m cq:Nat}{sm:Option Nat}
theorem GY.aF(h:GY w F sm sz)(hk:Kept S w w')(hF:∀j,F j->¬S j):GY w' F sm sz:=by
 rcases h with h|⟨s,h1,h2,h3⟩
 ·exact .inl h
 ·exact .inr ⟨s,h1,h2,h3.aF hk (hF _ h2)⟩
theorem qW.aF(h:qW w F q c sz A n cp B m cq sm)(hk:Kept S w w')(hF:∀j,F j->¬S j):qW w' F q c sz A n cp B m cq sm:=
 ⟨hk.heap h.top (hF _ h.fq),h.mg.aF hk (fun a ha=>hF _ (h.fA a ha)),h.bl.aF hk (fun a ha=>hF _ (h.fB a ha)),h.fA,h.fB,h.sz.aF hk hF,h.fq⟩
theorem Seen.aF(h:Seen w F q c sz)(hk:Kept S w w')(hF:∀j,F j->¬S j):Seen w' F q c sz:=by
 obtain⟨A,n,cp,B,m,cq,sm,h⟩:=h;exact⟨A,n,cp,B,m,cq,sm,h.aF hk hF⟩
theorem aZ(c:ou)(A:Option Addr)(n cp:Nat)(B:Option Addr)(m cq:Nat):(cQ c A n cp B m cq).size=35:=by
 unfold cQ;rw [Array.size_append,c.iY.2.1];rfl
theorem gE(c:ou)(A:Option Addr)(n cp:Nat)(B:Option Addr)(m cq:Nat)(r:Array Value):
 ((cQ c A n cp B m cq)++r)[32]? =some (.int .u64 (c.score:Int))/\((cQ c A n cp B m cq)++r)[33]? =some (.slice A n cp)/\((cQ c A n cp B m cq)++r)[34]? =some (.slice B m cq)/\((cQ c A n cp B m cq)++r)[35]? =r[0]? :=by
 have hs:=aZ c A n cp B m cq;have h0:c.iY.1.size=32:=c.iY.2.1;refine⟨?_,?_,?_,?_⟩
 ·rw [Array.getElem?_append_left (by omega)];unfold cQ;rw [Array.getElem?_append_right (by omega),h0];rfl
 ·rw [Array.getElem?_append_left (by omega)];unfold cQ;rw [Array.getElem?_append_right (by omega),h0];rfl
 ·rw [Array.getElem?_append_left (by omega)];unfold cQ;rw [Array.getElem?_append_right (by omega),h0];rfl
 ·rw [Array.getElem?_append_right (by omega),hs]
theorem qW.Xb(h:qW w F q c sz A n cp B m cq sm):w.cell? (((⟨q,0,none⟩:Addr).add 0).add 32)=some (.int .u64 (c.score:Int)):=by
 rw [add_zero,br,aD h.top];exact(gE ..).1
theorem qW.c35(h:qW w F q c sz A n cp B m cq sm):w.cell? ((⟨q,0,none⟩:Addr).add 35)=some (.map sm):=by
 rw [br,aD h.top];exact(gE ..).2.2.2
theorem qW.gF(h:qW w F q c sz A n cp B m cq sm):Cells w ((⟨q,0,none⟩:Addr).add 0) (cQ c A n cp B m cq):=by
 intro j u hj;rw [add_zero,br,aD h.top,Array.getElem?_append_left (by rw [aZ];have:=(Array.getElem?_eq_some_iff.1 hj).1;rw [aZ]at this;omega)];rw [Nat.zero_add];exact hj
end
structure CM where
 x:Nat
 mb:Nat
 SX:Nat->Prop
 FX:Nat->Prop
 q:HT->Nat
 sz:HT->HT->Option Nat
def CM.own(m:CM)(c j:Nat):Prop:=m.SX j\/j=c\/j=m.mb
structure CV(w:World)(F:Nat->Prop)(c:Nat)(k:Nat)(G:GS)(m:CM):Prop where
 top:w.heap[c]? =some (.cells #[.int .i64 (k:Int),.pointer (some ⟨m.x,0,none⟩),.map (some m.mb)] im (0,0))
 X:DK w m.SX m.FX m.x G.D G.P
 all:fR w m.mb fun h=>if h∈ids G.D then some (.pointer (some ⟨m.q h,0,none⟩))else none
 seen:∀h∈ids G.D,Seen w F (m.q h) (G.gF h) (m.sz h)
 fg:iD k G
 Z:SZ G m.sz
 fx:∀j,m.FX j->F j
 fo:∀j,F j->¬m.own c j
 so:∀j,m.SX j->j≠c/\j≠m.mb
 ne:c≠m.mb
 low:∀j,m.own c j\/F j->j<w.heap.size
section
variable{w w':World}{F S:Nat->Prop}{c k:Nat}{G:GS}{m:CM}{K:Value->World->Prop}
theorem CV.aF{S0:Nat->Prop}(h:CV w F c k G m)(hk:Kept S0 w w')(hS:∀j,m.own c j->¬S0 j)(hF:∀j,F j->¬S0 j):CV w' F c k G m where
 top:=hk.heap h.top (hS _ (.inr (.inl rfl)))
 X:=h.X.aF hk (fun j e=>hS j (.inl e)) (fun j e=>hF j (h.fx j e))
 all:=h.all.aF hk (hS _ (.inr (.inr rfl)))
 seen:=fun y hy=>(h.seen y hy).aF hk hF
 fg:=h.fg
 Z:=h.Z
 fx:=h.fx
 fo:=h.fo
 so:=h.so
 ne:=h.ne
 low:=fun j e=>Nat.lt_of_lt_of_le (h.low j e) hk.size
theorem CV.same(h:CV w F c k G m)(hk:Kept Nil w w'):CV w' F c k G m:=h.aF hk (fun _ _ h=>h) (fun _ _ h=>h)
theorem CV.c0(h:CV w F c k G m):w.cell? ((⟨c,0,none⟩:Addr).add 0)=some (.int .i64 (k:Int)):=by rw [br,aD h.top];rfl
theorem CV.c1(h:CV w F c k G m):w.cell? ((⟨c,0,none⟩:Addr).add 1)=some (.pointer (some ⟨m.x,0,none⟩)):=by rw [br,aD h.top];rfl
theorem CV.c2(h:CV w F c k G m):w.cell? ((⟨c,0,none⟩:Addr).add 2)=some (.map (some m.mb)):=by rw [br,aD h.top];rfl
theorem CV.look(h:CV w F c k G m)(y:HT):(Instr.lookup dK (.map (some m.mb)) (.agg y.1) false).run prog w=.ok (.pointer (if y∈ids G.D then some ⟨m.q y,0,none⟩else none)) w:=by
 have:=h.all.look Ib y;by_cases hy:y∈ids G.D
 ·rw [if_pos hy]at this;rw [if_pos hy];exact this
 ·rw [if_neg hy]at this;rw [if_neg hy];exact this
theorem CV.oO(h:CV w F c k G m){y:HT}(hy:y∈ids G.D):(Instr.lookup dK (.map (some m.mb)) (.agg y.1) false).run prog w=.ok (.pointer (some ⟨m.q y,0,none⟩)) w:=by
 have:=h.look y;rwa [if_pos hy]at this
theorem nf(h:CV w F c k G m)(hK:K (.bool true) w):bu prog eE.id #[.pointer (some ⟨c,0,none⟩)] w K:=
 eE.of (Split.yes rfl ⟨_,h.c1,hK⟩)
theorem GF{A:Addr}{x y:Int}{cx:Nat}(h0:w.cell? A=some (.int .i64 x))(h1:w.cell? (A.add 1)=some (.int .i64 y))(hK:K (.int .i64 (if x=0 then y else x)) w):
 bu prog bN.id #[.slice (some A) 2 cx] w K:=by
 refine bN.of ?_;unfold bN.W;refine bN.cy (I:=fun s w'=>w'=w/\((s=(0,0))\/(s=(0,1)/\x=0)\/(s=(0,2)/\x=0/\y=0))) (μ:=fun s _=>(2-s.2).toNat) (s:=(0,0)) ⟨rfl,.inl rfl⟩ ?_;rintro s w' ⟨rfl,h⟩;rcases h with rfl|⟨rfl,hx⟩|⟨rfl,hx,hy⟩
 ·refine Split.yes rfl ⟨by simp only;omega,x,by rw [show(0:Int).toNat*1=0 from rfl,add_zero];exact h0,?_⟩
  by_cases hx:x=0
  ·refine Split.no (by simp [hx]) ?_
   exact⟨(0,1),rfl,⟨rfl,.inr (.inl ⟨rfl,hx⟩)⟩,by simp only;omega⟩
  ·refine Split.yes (by simpa using hx) ?_
   rw [if_neg hx]at hK;rw [iT];exact hK
 ·refine Split.yes rfl ⟨by simp only;omega,y,h1,?_⟩
  rw [if_pos hx]at hK;by_cases hy:y=0
  ·refine Split.no (by simp [hy]) ?_
   exact⟨(0,2),rfl,⟨rfl,.inr (.inr ⟨rfl,hx,hy⟩)⟩,by simp only;omega⟩
  ·refine Split.yes (by simpa using hy) ?_
   rw [iT];exact hK
 ·refine Split.no rfl ?_
  rw [aR,bN.df];rw [if_pos hx,hy]at hK;exact hK
theorem Dq{x y:Int}(hK:K (.int .i64 (if x<y then-1 else if y<x then 1 else 0)) w):bu prog dE.id #[.int .u64 x,.int .u64 y] w K:=by
 refine dE.of ?_;refine fz.of ⟨_,rfl,?_⟩;refine fz.of ⟨_,rfl,?_⟩;refine Split.no (by simp) (Split.no (by simp) (Split.dec (fun h=>?_) (fun h=>Split.dec (fun h'=>?_) (fun h'=>?_))))
 ·rw [if_pos h]at hK;exact hK
 ·rw [if_neg h,if_pos h']at hK;exact hK
 ·rw [if_neg h,if_neg h']at hK;exact hK
theorem pW(h:CV w F c k G m){a b:HT}(ha:a∈ids G.D)(hb:b∈ids G.D)(hK:∀w',Kept Nil w w'->K (.int .i64 (BH G a b)) w'):
 bu prog bD.id #[.pointer (some ⟨c,0,none⟩),.agg a.1,.agg b.1] w K:=by
 refine bD.of ?_;unfold bD.W;intro w4 w5 w6;have k4:Kept Nil w w4:=(Kept.refl _ _).alloc _;have Bm:w4.heap[w.heap.size]? =some (.cells a.1 ah (0,0)):=aI w _;have k5:Kept Nil w4 w5:=(Kept.refl _ _).alloc _;have oS:w5.heap[w4.heap.size]? =some (.cells b.1 ah (0,0)):=aI w4 _;have k6:Kept Nil w5 w6:=(Kept.refl _ _).drew;clear_value w6;have xi:=(k5.tt k6).heap Bm (fun h=>h);have qJ:=k6.heap oS (fun h=>h);have qS:=(k4.tt k5).tt k6;have h6:=h.same qS;obtain⟨A1,n1,c1,B1,m1,d1,s1,sa⟩:=h6.seen a ha;obtain⟨A2,n2,c2,B2,m2,d2,s2,sb⟩:=h6.seen b hb;refine⟨_,h6.c2,a.1,⟨a.2.1,Cells.bI xi⟩,_,h6.oO ha,_,sa.Xb,_,h6.c2,b.1,⟨b.2.1,Cells.bI qJ⟩,_,h6.oO hb,_,sb.Xb,a.1,⟨a.2.1,Cells.bI xi⟩,b.1,⟨b.2.1,Cells.bI qJ⟩,?_⟩;refine Dq ⟨_,rfl,⟨b.1,rfl,b.2.1,Cells.bI qJ⟩,⟨a.1,rfl,a.2.1,Cells.bI xi⟩,?_⟩;refine pZ a b ⟨_,rfl,?_⟩;have k7:Kept Nil w6 ((w6.alloc (.cells a.1 ah)).alloc (.cells b.1 ah)).drew:=(((Kept.refl Nil w6).alloc _).alloc _).drew;generalize ((w6.alloc (.cells a.1 ah)).alloc (.cells b.1 ah)).drew=w7 at k7⊢;intro w8;have k8:Kept Nil w7 w8:=(Kept.refl _ _).alloc _;have L4:w8.heap[w7.heap.size]? =some (.cells _ _ (0,0)):=aI w7 _;clear_value w8;refine GF (A:=⟨w7.heap.size,0,none⟩) (by rw [aD L4];rfl) (by rw [br,aD L4];rfl) ⟨_,rfl,?_⟩;have e:(if(if((G.gF a).score:Int)<((G.gF b).score:Int)then(-1:Int)else if((G.gF b).score:Int)<((G.gF a).score:Int)then 1 else 0)=0 then lV a b else if((G.gF a).score:Int)<((G.gF b).score:Int)then(-1:Int)else if((G.gF b).score:Int)<((G.gF a).score:Int)then 1 else 0)=BH G a b:=by
  rw [Mo];unfold GS.score;by_cases h1:(G.gF a).score<(G.gF b).score
  ·have rN:((G.gF a).score:Int)<((G.gF b).score:Int):=by omega
   rw [if_pos h1,if_pos rN,if_neg (by decide)]
  ·have rN:¬((G.gF a).score:Int)<((G.gF b).score:Int):=by omega
   by_cases h2:(G.gF b).score<(G.gF a).score
   ·have uE:((G.gF b).score:Int)<((G.gF a).score:Int):=by omega
    rw [if_neg h1,if_neg rN,if_pos h2,if_pos uE,if_neg (by decide)]
   ·have uE:¬((G.gF b).score:Int)<((G.gF a).score:Int):=by omega
    rw [if_neg h1,if_neg rN,if_neg h2,if_neg uE,if_pos rfl]
 rw [e];exact hK _ ((qS.tt k7).tt k8)
end
section
variable{w:World}
theorem fR.Eh{mt te:TypeId}{z:Value}(T:xy mt te z){m:Nat}{f:HT->Option Value}(hm:fR w m f)(h:HT):
 (Instr.lookup mt (.map (some m)) (.agg h.1) true).run prog w=.ok (.tuple #[(f h).getD z,.bool (f h).isSome]) w:=by
 obtain⟨es,clock,l,h1,h2,h3,_⟩:=hm.ex;have h4:=mi h w h2;have h5:=nh h l 0;rw [h3]at h5;simp only [Instr.lookup,Sem.run_bind,run_underlying T.pg,pX h1,Result.andThen_ok,Sem.run_pure,ju,h4];cases hp:mh h l 0 with
 |none=>rw [hp]at h5;simp [<-h5,T.zero]
 |some p=>rw [hp]at h5;simp [<-h5]
theorem CD{mt te:TypeId}{z:Value}(T:xy mt te z)(h:HT):
 (Instr.lookup mt (.map none) (.agg h.1) true).run prog w=.ok (.tuple #[z,.bool false]) w:=by
 have h3:=mi (es:= []) (l:= []) h w trivial;simp only [Instr.lookup,Sem.run_bind,run_underlying T.pg,Result.andThen_ok,Sem.run_pure,ju];simp [h3,mh,T.zero]
theorem GY.Eh{F:Nat->Prop}{sm:Option Nat}{sz:HT->Option Nat}(h:GY w F sm sz)(b:HT):
 (Instr.lookup cK (.map sm) (.agg b.1) true).run prog w=.ok (.tuple #[.int .i64 (((sz b).getD 0:Nat):Int),.bool (sz b).isSome]) w:=by
 rcases h with⟨rfl,h⟩|⟨s,rfl,_,h⟩
 ·rw [h b];exact CD si b
 ·have:=h.Eh si b
  unfold K1 at this;cases hb:sz b with
  |none=>rw [hb]at this;exact this
  |some n=>rw [hb]at this;exact this
end
section
variable{w w':World}{F S:Nat->Prop}{c k:Nat}{G:GS}{m:CM}{K:Value->World->Prop}
theorem Bt(h:CV w F c k G m)(hD:G.D.length<=5000)(a b:HT)(hK:∀w' (r:Bool),(r=true↔oo G.D a b)->Kept Nil w w'->K (.bool r) w'):
 bu prog dq.id #[.pointer (some ⟨c,0,none⟩),.agg a.1,.agg b.1] w K:=by
 refine dq.of ?_;unfold dq.W;intro w4 w5 w6;have k4:Kept Nil w w4:=(Kept.refl _ _).alloc _;have Bm:w4.heap[w.heap.size]? =some (.cells a.1 ah (0,0)):=aI w _;have k5:Kept Nil w4 w5:=(Kept.refl _ _).alloc _;have oS:w5.heap[w4.heap.size]? =some (.cells b.1 ah (0,0)):=aI w4 _;have k6:Kept Nil w5 w6:=(Kept.refl _ _).drew;clear_value w6;have xi:=(k5.tt k6).heap Bm (fun h=>h);have qJ:=k6.heap oS (fun h=>h);have qS:=(k4.tt k5).tt k6;have h6:=h.same qS;refine⟨a.1,⟨a.2.1,Cells.bI xi⟩,b.1,⟨b.2.1,Cells.bI qJ⟩,⟨a.2.ints,b.2.ints⟩,?_⟩;rw [dO];by_cases lI:a=b
 ·refine Split.no (by rw [decide_eq_true lI];rfl) (hK w6 false ⟨(fun e=>by cases e),fun e=>absurd lI e.1⟩ qS)
 ·refine Split.yes (by rw [decide_eq_false lI];rfl) ⟨_,h6.c1,a.1,⟨a.2.1,Cells.bI xi⟩,b.1,⟨b.2.1,Cells.bI qJ⟩,?_⟩
  obtain⟨mx,X6,_⟩:=h6.X;refine ml X6 hD a b fun w7 r hr k7=>⟨_,rfl,?_⟩;have zu:=qS.tt k7;cases r with
  |true=>exact Split.no rfl (hK w7 false ⟨(fun e=>by cases e),fun e=>absurd (hr.1 rfl) e.2.1⟩ zu)
  |false=>
   have h7:=h.same zu;refine Split.yes rfl ⟨_,h7.c1,b.1,⟨b.2.1,Cells.bI (k7.heap qJ (fun h=>h))⟩,a.1,⟨a.2.1,Cells.bI (k7.heap xi (fun h=>h))⟩,?_⟩;obtain⟨mx',X7,_⟩:=h7.X;refine ml X7 hD b a fun w8 r' RK k8=>⟨_,rfl,hK w8 _ ?_ (zu.tt k8)⟩;cases r' with
   |true=>exact⟨(fun e=>by cases e),fun e=>absurd (RK.1 rfl) e.2.2⟩
   |false=>exact⟨fun _=>⟨lI,(fun e=>by have:=hr.2 e;cases this),(fun e=>by have:=RK.2 e;cases this)⟩,fun _=>rfl⟩
def kZ(D:DG)(l:List HT):Int:=if l= []then 9 else if ∃p∈l,p∉ids D then 6 else 0
theorem yc(h:CV w F c k G m){A:Option Addr}{n cx:Nat}{l:List HT}(hl:HS w A n l)(hn:n<=400000)(hK:∀w',Kept Nil w w'->K (.int .i64 (kZ G.D l)) w'):
 bu prog eK.id #[.pointer (some ⟨c,0,none⟩),.slice A n cx] w K:=by
 have hlen:=hl.len;refine eK.of ?_;unfold eK.W;intro w4;have k4:Kept Nil w w4:=(Kept.refl _ _).alloc _;have QG:w4.heap[w.heap.size]? =some (.cells #[.pointer (some ⟨c,0,none⟩)] eN (0,0)):=aI w _;clear_value w4;refine⟨some ⟨c,0,none⟩,by rw [aD QG];rfl,nf (h.same k4) ⟨_,rfl,Split.no rfl ?_⟩⟩;by_cases h0:n=0
 ·subst h0
  have e:l= []:=List.eq_nil_of_length_eq_zero hlen;refine Split.yes rfl ?_;have:=hK w4 k4;unfold kZ at this;rw [if_pos e]at this;exact this
 ·have fL:l≠ []:=fun e=>by subst e;exact h0 hlen.symm
  refine Split.no (by simpa using (by omega:¬(n:Int)=0)) ?_;refine b0.of (ao.of ?_);refine ao.cy (I:=fun s w'=>∃i:Nat,s=(0,(i:Int))/\i<=n/\(∀p∈l.take i,p∈ids G.D)/\Kept Nil w4 w') (μ:=fun s _=>((n:Int)-s.2).toNat) (s:=(0,0)) ⟨0,rfl,Nat.zero_le _,by simp,Kept.refl _ _⟩ ?_;rintro s w' ⟨i,rfl,hi,di,kw⟩;have k0w:=k4.tt kw;refine Split.dec (fun jN=>?_) (fun gH=>?_)
  ·simp only at jN
   have dV:i<n:=by omega
   obtain⟨y,hy⟩:∃y,l[i]? =some y:=⟨_,List.getElem?_eq_getElem (by omega)⟩;refine(hl.same k0w).load (i:=(i:Int)) (by omega) hy ?_;refine eQ.of ?_;unfold eQ.W;intro w7 w8;have k7:Kept Nil w' w7:=(Kept.refl _ _).alloc _;have hb7:w7.heap[w'.heap.size]? =some (.cells y.1 ah (0,0)):=aI w' _;have k8:Kept Nil w7 w8:=(Kept.refl _ _).drew;clear_value w8;have L4:=k8.heap hb7 (fun h=>h);have Rw:=(kw.tt k7).tt k8;have h8:=h.same (k4.tt Rw);refine⟨some ⟨c,0,none⟩,by rw [aD (Rw.heap QG (fun h=>h))];rfl,_,h8.c2,y.1,⟨y.2.1,Cells.bI L4⟩,_,h8.look y,_,rfl,?_⟩;by_cases hm:y∈ids G.D
   ·refine Split.no (by rw [if_pos hm];rfl) ?_
    simp only;rw [dW (n:=(i:Int)) (by omega) (by omega)];refine⟨(0,(i:Int)+1),rfl,⟨i+1,rfl,dV,fun p hp=>?_,Rw⟩,by simp only;omega⟩;rcases(bO hy).1 hp with hp|rfl
    ·exact di p hp
    ·exact hm
   ·refine Split.yes (by rw [if_neg hm];rfl) ?_
    refine⟨(i:Int),rfl,_,rfl,?_⟩;have:=hK w8 (k4.tt Rw);unfold kZ at this;rw [if_neg fL,if_pos ⟨y,List.mem_of_getElem? hy,hm⟩]at this;refine Split.yes (decide_eq_true (by omega)) this
  ·simp only at gH
   rw [aR,ao.df];rw [List.take_of_length_le (by omega)]at di;refine⟨_,rfl,_,rfl,?_⟩;have:=hK w' k0w;unfold kZ at this;rw [if_neg fL,if_neg (fun⟨p,hp,hn⟩=>hn (di p hp))]at this;exact Split.no (by decide) this
end
theorem uk{α β:Type}{f:α->Option β}{y:α}{n:β}:∀ {l:List α} {j:Nat},l[j]? =some y->(∀x∈l.take j,f x=none)->f y=some n->l.findSome? f=some n
 | [],j,h,_,_=>by simp at h
 |x::l,0,h,_,hy=>by
  simp only [List.getElem?_cons_zero,Option.some.injEq]at h;subst h;rw [List.findSome?_cons,hy]
 |x::l,j+1,h,ha,hy=>by
  have hx:=ha x (by simp);rw [List.findSome?_cons,hx];exact uk (l:=l) (j:=j) (by simpa using h) (fun z hz=>ha z (by simp [hz])) hy
section
variable{w w':World}{F S:Nat->Prop}{c k:Nat}{G:GS}{m:CM}{K:Value->World->Prop}
theorem De(h:CV w F c k G m)(hD:G.D.length<=5000){a b:HT}(ha:a∈ids G.D){l:List HT}(hc:cI G.D G.P a l)(hK:∀w',Kept Nil w w'->K (.int .i64 ((mV m.sz l b:Nat):Int)) w'):
 bu prog bf.id #[.pointer (some ⟨c,0,none⟩),.agg a.1,.agg b.1] w K:=by
 have W:=h.fg.W;have H:=h.fg.iY;have RR:∀y∈l,y∈ids G.D:=fun y hy=>((hc.mem W H).1 hy).mem.1;refine bf.of ?_;unfold bf.W;intro w4 w5 w6 w7 w8;have k4:Kept Nil w w4:=(Kept.refl _ _).alloc _;have QG:w4.heap[w.heap.size]? =some (.cells #[.pointer (some ⟨c,0,none⟩)] eN (0,0)):=aI w _;have k5:Kept Nil w4 w5:=(Kept.refl _ _).alloc _;have L9:w5.heap[w4.heap.size]? =some (.cells a.1 ah (0,0)):=aI w4 _;have k6:Kept Nil w5 w6:=(Kept.refl _ _).alloc _;have qJ:w6.heap[w5.heap.size]? =some (.cells b.1 ah (0,0)):=aI w5 _;have k7:Kept Nil w6 w7:=(Kept.refl _ _).alloc _;have Kv:w7.heap[w6.heap.size]? =some (.cells #[.int .i64 0] jV (0,0)):=aI w6 _;have k8:Kept Nil w7 w8:=(Kept.refl _ _).drew;clear_value w8;have Ya:=k8.heap Kv (fun h=>h);have L4:=k8.heap (k7.heap qJ (fun h=>h)) (fun h=>h);have ha8:=k8.heap (k7.heap (k6.heap L9 (fun h=>h)) (fun h=>h)) (fun h=>h);have hc8:=k8.heap (k7.heap (k6.heap (k5.heap QG (fun h=>h)) (fun h=>h)) (fun h=>h)) (fun h=>h);have uQ:=(((k4.tt k5).tt k6).tt k7).tt k8;have s06:=(((k4.tt k5).tt k6)).size;have l7:=aQ Kv;have l8:=aQ Ya;clear_value w7 w6 w5 w4;refine⟨some ⟨c,0,none⟩,by rw [aD hc8];rfl,_,(h.same uQ).c1,a.1,⟨a.2.1,Cells.bI ha8⟩,?_⟩;refine pH a fun kh pb qb ot LD LB Bf hqb=>⟨_,rfl,?_⟩;have Zm:=ot.size;have II:=uQ.tt ot;have P4:=ot.heap Ya (fun h=>h)
 let y7:Value:=.func (.func aW.id) #[] #[.pointer (some ⟨pb,0,none⟩),.pointer (some ⟨qb,0,none⟩)]
 let ρ0:Env:= [(3,.pointer (some ⟨w.heap.size,0,none⟩)),(5,.pointer (some ⟨w5.heap.size,0,none⟩)),(6,.pointer (some ⟨w6.heap.size,0,none⟩)),(15,y7)]
 let J:Nat->World->Prop:=fun j u=>Kept Nil kh u/\j<=l.length/\∀y∈l.take j,m.sz y b=none
 let Jd:Code->World->Prop:=fun e u=>e=.ret/\Kept (fun k=>k=w6.heap.size) kh u/\∃n:Nat,(l.findSome? fun y=>m.sz y b)=some n/\u.heap[w6.heap.size]? =some (.cells #[.int .i64 (n:Int)] jV (0,0))
 have k0J:∀ {u:World},Kept Nil kh u->Kept Nil w u:=fun k=>II.tt k;have kS:∀ {v:World},Kept (fun k=>k=w6.heap.size) kh v->Kept Nil w v:=fun k=>II.trans k (fun k hk e=>by omega);obtain⟨mx,X35,_⟩:=(h.same II).X
 change Holds none [] prog _ _ _ ρ0 kh
 refine oB (n:=33) (ρ:=ρ0) (ρ0:=ρ0) ng mix bf.k (t:=15) (ps:= #[16]) (by kernel_rfl) (by decide) rfl aW.at_ rfl (.inl rfl) (fun i x hi hx=>hx) rfl sE l (fun _=>rfl) (fun q hq=>by
  have W4:q=16:=by simpa using hq
  subst W4;exact⟨by decide,by decide⟩) (yv (F:=m.FX) (x:=m.x) (m:=mx) (pb:=pb) (qb:=qb) hc (by omega)) J Jd ?_ ?_ (fun j u hJ=>⟨X35.same hJ.1,hJ.1.heap LD (fun h=>h),hJ.1.heap LB (fun h=>h)⟩) ?_ ?_ ?_ ?_ ?_
 ·rintro j u1 u2 R oQ ⟨h1,h2,h3⟩ oR
  exact⟨h1.trans oR (fun k hk e=>by omega),h2,h3⟩
 ·rintro e u1 u2 R oQ ⟨h1,h2,n,h3,h4⟩ oR
  exact⟨h1,h2.trans oR (fun k hk e=>by omega),n,h3,oR.heap h4 (by omega)⟩
 ·intro R
  exact⟨(((Kept.refl _ _).alloc _).alloc _),Nat.zero_le _,by simp⟩
 ·rintro j z u1 R hz ⟨h1,h2,h3⟩ oQ
  have e7:kX ρ0 ((#[16]:Array Nat).toList.zip (sE z))= [(3,.pointer (some ⟨w.heap.size,0,none⟩)),(5,.pointer (some ⟨w5.heap.size,0,none⟩)),(6,.pointer (some ⟨w6.heap.size,0,none⟩)),(15,y7),(16,.agg z.1)]:=rfl;rw [e7,bf.a1];have uT:=(lgeS hz).1;unfold bf.A1;intro Km;obtain⟨tu,jP,ko⟩:=iu (w:=u1) (z:=dX.1) (cs:=z.1) (t:=ah) (by rw [z.2.1];rfl);refine⟨⟨z.2.1,z.2.one,fun j hj=>tu j (by rw [z.2.1];exact hj)⟩,?_⟩;intro My
  replace jP:My.heap[u1.heap.size]? =some (.cells z.1 ah (0,0)):=jP
  replace ko:Kept Nil u1 My:=ko
  clear_value My;have Jk:=oQ.aF ko (fun h=>h) (fun h=>h);refine⟨Jk,fun w2 R2 mX rz=>?_⟩;have lT:=mX.heap jP (kY jP Jk.loop);have wU:Kept Nil kh w2:=(h1.tt ko).trans mX (fun k hk e=>by omega);rw [bf.y1];unfold bf.Y1;intro Sk;have Z4:Kept Nil w2 Sk:=(Kept.refl _ _).drew;clear_value Sk;have Vc:=rz.aF Z4 (fun h=>h) (fun h=>h);have AQ:=wU.tt Z4;have Pb:=ot.tt AQ;have h48:=h.same (uQ.tt Pb);obtain⟨A1,n1,c1,B1,m1,d1,s1,sa⟩:=h48.seen z (RR z (List.mem_of_getElem? hz));refine⟨some ⟨c,0,none⟩,by rw [aD (Pb.heap hc8 (fun h=>h))];rfl,_,h48.c2,z.1,⟨z.2.1,Cells.bI (Z4.heap lT (fun h=>h))⟩,_,h48.oO (RR z (List.mem_of_getElem? hz)),_,sa.c35,b.1,⟨b.2.1,Cells.bI (Pb.heap L4 (fun h=>h))⟩,_,_,sa.sz.Eh b,?_⟩;cases hzb:m.sz z b with
  |some n=>
   refine Split.yes rfl ⟨dY (AQ.heap P4 (fun h=>h)) (by simp),?_⟩;intro qX;have P2:qX.heap[w6.heap.size]? =some (.cells #[.int .i64 (n:Int)] jV (0,0)):=by
    show(Sk.setCell ⟨w6.heap.size,0,none⟩ (.int .i64 (n:Int))).heap[w6.heap.size]? =_;rw [dh (AQ.heap P4 (fun h=>h)) 0];rfl
   have Gc:Kept (· =w6.heap.size) Sk qX:=Kept.setCell (S:=fun k=>k=w6.heap.size) (Kept.refl _ Sk) (p:=⟨w6.heap.size,0,none⟩) (fun _=>rfl) _;clear_value qX;exact⟨Vc.aF Gc (fun e=>by omega) (fun e=>by omega),rfl,(AQ.mono fun _ _ h=>h.elim).tt Gc,n,uk hz h3 hzb,P2⟩
  |none=>
   refine Split.no rfl ⟨Vc,AQ,uT,fun y hy=>?_⟩;rcases(bO hz).1 hy with hy|rfl
   ·exact h3 y hy
   ·exact hzb
 ·rintro u1 R ⟨h1,h2,h3⟩ oQ
  rw [List.take_of_length_le (Nat.le_refl _)]at h3;have e7:gv ρ0 kh.heap.size= [(3,.pointer (some ⟨w.heap.size,0,none⟩)),(5,.pointer (some ⟨w5.heap.size,0,none⟩)),(6,.pointer (some ⟨w6.heap.size,0,none⟩)),(15,y7),(4294967296,.agg (pR [kh.heap.size]))]:=rfl;rw [e7,bf.jG];unfold bf.ig;have mU:=h1.heap P4 (fun h=>h);refine⟨dY mU (by simp),?_⟩;intro qX;have P2:qX.heap[w6.heap.size]? =some (.cells #[.int .i64 0] jV (0,0)):=by
   show(u1.setCell ⟨w6.heap.size,0,none⟩ (.int .i64 0)).heap[w6.heap.size]? =_;rw [dh mU 0];rfl
  have Gc:Kept (· =w6.heap.size) u1 qX:=Kept.setCell (S:=fun k=>k=w6.heap.size) (Kept.refl _ u1) (p:=⟨w6.heap.size,0,none⟩) (fun _=>rfl) _;clear_value qX;have oQ:=oQ.aF Gc (fun e=>by omega) (fun e=>by omega);rw [mw];have kt:=jH [kh.heap.size] qX;have hm:∀E∈ [kh.heap.size],qX.heap[E]? =some (.deferred (some [])):=fun E hE=>by
   rw [List.mem_singleton]at hE;subst hE;exact oQ.mark
  refine⟨lC [kh.heap.size] qX (by simp) hm,0,by rw [aD (kt.heap P2 (fun hE=>by rw [List.mem_singleton]at hE;omega))];rfl,?_⟩;have e0:mV m.sz l b=0:=by
   unfold mV;have:(l.findSome? fun h=>m.sz h b)=none:=List.findSome?_eq_none_iff.2 h3;rw [this];rfl
  have:=hK (gg [kh.heap.size] qX) ((kS ((h1.mono fun _ _ h=>h.elim).tt Gc)).trans kt (fun k hk hE=>by rw [List.mem_singleton]at hE;have:=II.size;omega));rw [e0]at this;exact this
 ·rintro u1 R ⟨_,h2,n,h3,h4⟩ oQ
  have e7:gv ρ0 kh.heap.size= [(3,.pointer (some ⟨w.heap.size,0,none⟩)),(5,.pointer (some ⟨w5.heap.size,0,none⟩)),(6,.pointer (some ⟨w6.heap.size,0,none⟩)),(15,y7),(4294967296,.agg (pR [kh.heap.size]))]:=rfl;rw [e7,bf.Ce];unfold bf.wH;rw [mw];have kt:=jH [kh.heap.size] u1;have hm:∀E∈ [kh.heap.size],u1.heap[E]? =some (.deferred (some [])):=fun E hE=>by
   rw [List.mem_singleton]at hE;subst hE;exact oQ.mark
  refine⟨lC [kh.heap.size] u1 (by simp) hm,(n:Int),by rw [aD (kt.heap h4 (fun hE=>by rw [List.mem_singleton]at hE;omega))];rfl,?_⟩;have e0:mV m.sz l b=n:=by unfold mV;rw [h3];rfl
  have:=hK (gg [kh.heap.size] u1) ((kS h2).trans kt (fun k hk hE=>by rw [List.mem_singleton]at hE;have:=II.size;omega));rw [e0]at this;exact this
 ·rintro id u1 R ⟨e,_⟩ oQ
  cases e
end
section
variable{w:World}
theorem BK{x:HT}:∀ {l:List (HT×Value)},assoc x l≠none↔x∈l.map (·.1)
 | []=>by simp [assoc]
 |(y,v)::l=>by
  have:=BK (x:=x) (l:=l);unfold assoc;by_cases e:x=y
  ·subst e;simp
  ·rw [if_neg e,this]
   simp only [List.map_cons,List.mem_cons];exact⟨.inr,fun h=>h.resolve_left e⟩
theorem fR.len{mt te:TypeId}{z:Value}(T:xy mt te z){m:Nat}{f:HT->Option Value}(hm:fR w m f)(ty:TypeId){l:List HT}(hn:l.Nodup)(hl:∀x,f x≠none↔x∈l):
 (Builtin.len_ #[mt] ty #[.map (some m)]).run prog w=.ok (.int .i64 (l.length:Int)) w:=by
 obtain⟨es,clock,l',h1,h2,h3,_,_,h6⟩:=hm.ex;have e1:es.size=l'.length:=by have:=h2.len;simpa using this
 have e2:l'.length=l.length:=by
  have hp:(l'.map (·.1)).Perm l:=(List.perm_ext_iff_of_nodup h6 hn).2 fun x=>by rw [<-BK,h3,hl]
  simpa using hp.length_eq
 simp [Builtin.len_,run_underlying T.pg,pX h1,goInt,Result.andThen,e1,e2]
end
section
variable{w w':World}{F S:Nat->Prop}{c k:Nat}{G:GS}{m:CM}{K:Value->World->Prop}
structure VB(w:World)(c:Nat)(s:HT)(bs bc bh q sm:Nat)(ov:HT->Option Nat):Prop where
 hs:w.heap[bs]? =some (.cells #[.pointer (some ⟨q,0,none⟩)] fu (0,0))
 hc:w.heap[bc]? =some (.cells #[.pointer (some ⟨c,0,none⟩)] eN (0,0))
 hh:w.heap[bh]? =some (.cells s.1 ah (0,0))
 sz:w.cell? ((⟨q,0,none⟩:Addr).add 35)=some (.map (some sm))
 ov:fR w sm (K1 ov)
theorem VB.aF{S:Nat->Prop}{s:HT}{bs bc bh q sm:Nat}{ov:HT->Option Nat}(h:VB w c s bs bc bh q sm ov)(hk:Kept S w w')(h1:¬S bs)(h2:¬S bc)(h3:¬S bh)(h4:¬S q)(h5:¬S sm):VB w' c s bs bc bh q sm ov:=
 ⟨hk.heap h.hs h1,hk.heap h.hc h2,hk.heap h.hh h3,hk.cell h.sz h4,h.ov.aF hk h5⟩
theorem VB.same{s:HT}{bs bc bh q sm:Nat}{ov:HT->Option Nat}(h:VB w c s bs bc bh q sm ov)(hk:Kept Nil w w'):VB w' c s bs bc bh q sm ov:=h.aF hk (fun h=>h) (fun h=>h) (fun h=>h) (fun h=>h) (fun h=>h)
theorem Bs(h:CV w F c k G m)(hD:G.D.length<=5000){s b:HT}(hs:s∈ids G.D){l:List HT}(hc:cI G.D G.P s l){bs bc bh q sm:Nat}{ov:HT->Option Nat}(V:VB w c s bs bc bh q sm ov)
 (hK:∀w',Kept Nil w w'->K (.int .i64 ((sq ov (mV m.sz l) b:Nat):Int)) w'):
 bu prog bX.id #[.agg b.1,.pointer (some ⟨bs,0,none⟩),.pointer (some ⟨bc,0,none⟩),.pointer (some ⟨bh,0,none⟩)] w K:=by
 refine bX.of ?_;unfold bX.W;intro w4 w5;have k4:Kept Nil w w4:=(Kept.refl _ _).alloc _;have rD:w4.heap[w.heap.size]? =some (.cells b.1 ah (0,0)):=aI w _;have k5:Kept Nil w4 w5:=(Kept.refl _ _).drew;clear_value w5;have oS:=k5.heap rD (fun h=>h);have nQ:=k4.tt k5;have V5:=V.same nQ;refine⟨some ⟨q,0,none⟩,by rw [aD V5.hs];rfl,_,V5.sz,b.1,⟨b.2.1,Cells.bI oS⟩,?_⟩;have lk:=V5.ov.Eh si b;unfold K1 at lk;cases hb:ov b with
 |some n=>
  rw [hb]at lk;refine⟨(n:Int),true,lk,Split.yes rfl ?_⟩;have:=hK w5 nQ;unfold sq at this;rw [hb]at this;exact this
 |none=>
  rw [hb]at lk;refine⟨0,false,lk,Split.no rfl ⟨some ⟨c,0,none⟩,by rw [aD V5.hc];rfl,s.1,⟨s.2.1,Cells.bI V5.hh⟩,b.1,⟨b.2.1,Cells.bI oS⟩,?_⟩⟩;refine De (h.same nQ) hD hs hc fun w7 k7=>⟨_,rfl,?_⟩;have:=hK w7 (nQ.tt k7);unfold sq at this;rw [hb]at this;exact this
def zp(w:World)(fm:Nat)(kn:HT->Nat)(done:List HT):Prop:=fR w fm fun y=>if y∈done then some (.int .i64 (kn y:Int))else none
theorem Bq(h:CV w F c k G m)(hD:G.D.length<=5000)(qw:k<=1000){s b:HT}(hs:s∈ids G.D){l:List HT}(hc:cI G.D G.P s l){bs bc bh q sm kb fb fm:Nat}{ov:HT->Option Nat}(V:VB w c s bs bc bh q sm ov)
 (Ny:w.heap[kb]? =some (.cells #[.func (.func bX.id) #[] #[.pointer (some ⟨bs,0,none⟩),.pointer (some ⟨bc,0,none⟩),.pointer (some ⟨bh,0,none⟩)]] fC (0,0)))
 (RT:w.heap[fb]? =some (.cells #[.map (some fm)] cK (0,0))) {done:List HT} (hn:done.Nodup) (Yq:b∉done) (hF:zp w fm (sq ov (mV m.sz l)) done) (hfo:¬m.own c fm) (hff:¬F fm) (fL:bc≠fm)
 (hK:∀w' (r:Bool),r=r8 k (sq ov (mV m.sz l)) done b->zp w' fm (sq ov (mV m.sz l)) (done++ [b])->Kept (· =fm) w w'->K (.bool r) w'):
 bu prog cJ.id #[.agg b.1,.pointer (some ⟨kb,0,none⟩),.pointer (some ⟨fb,0,none⟩),.pointer (some ⟨bc,0,none⟩)] w K:=by
 have lfm:=hF.lt;refine cJ.of ?_;unfold cJ.W;intro w4 w5;have k4:Kept Nil w w4:=(Kept.refl _ _).alloc _;have rD:w4.heap[w.heap.size]? =some (.cells b.1 ah (0,0)):=aI w _;have k5:Kept Nil w4 w5:=(Kept.refl _ _).drew;clear_value w5;have oS:=k5.heap rD (fun h=>h);have nQ:=k4.tt k5;have hnf:fb≠fm:=fun e=>by subst e;obtain⟨es,cl,_,h1,_⟩:=hF.ex;rw [RT]at h1;cases h1
 refine⟨some fm,by rw [aD (nQ.heap RT (fun h=>h))];rfl,b.1,⟨b.2.1,Cells.bI oS⟩,_,by rw [aD (nQ.heap Ny (fun h=>h))];rfl,b.1,⟨b.2.1,Cells.bI oS⟩,?_⟩;refine⟨_,_,_,_,rfl,bX.at_,rfl,?_⟩;refine Bs (h.same nQ) hD hs hc (V.same nQ) fun w7 k7=>⟨_,rfl,⟨b.1,rfl,b.2.1,Cells.bI (k7.heap oS (fun h=>h))⟩,?_,?_⟩
 ·rw [aD ((nQ.tt k7).heap RT (fun h=>h))];rfl
 have zu:=nQ.tt k7;obtain⟨w8,Ya,hm8,k8⟩:=(hF.same zu).put si b (.int .i64 ((sq ov (mV m.sz l) b:Nat):Int));refine⟨w8,Ya,?_⟩;intro w9;have k9:Kept Nil w8 w9:=(Kept.refl _ _).drew;clear_value w9;have k89:Kept (· =fm) w7 w9:=k8.trans k9 (fun _ _ h=>h.elim);have zt:Kept (· =fm) w w9:=(zu.mono fun _ _ h=>h.elim).tt k89;have RY:zp w9 fm (sq ov (mV m.sz l)) (done++ [b]):=by
  refine fR.same ?_ k9;have e:(fun y=>if y∈done++ [b]then some (Value.int .i64 ((sq ov (mV m.sz l) y:Nat):Int))else none)=fun x=>if x=b then some (.int .i64 ((sq ov (mV m.sz l) b:Nat):Int))else if x∈done then some (.int .i64 ((sq ov (mV m.sz l) x:Nat):Int))else none:=by
   funext y
   by_cases e:y=b
   ·subst e;rw [if_pos (by simp),if_pos rfl]
   ·rw [if_neg e]
    by_cases hy:y∈done
    ·rw [if_pos (List.mem_append_left _ hy),if_pos hy]
    ·rw [if_neg (by simp [hy,e]),if_neg hy]
  rw [e];exact hm8
 have hb9:w9.heap[w.heap.size]? =some (.cells b.1 ah (0,0)):=((k7.mono fun _ _ h=>h.elim).tt k89:Kept (· =fm) w5 w9).heap oS (by omega);have VI:=zt.heap RT hnf;have gB:(done++ [b]).Nodup:=List.nodup_append.2 ⟨hn,by simp,fun x hx y hy e=>by
  have:y=b:=by simpa using hy
  subst this;subst e;exact Yq hx⟩
 have h9:CV w9 F c k G m:=h.aF zt (fun j hj e=>by subst e;exact hfo hj) (fun j hj e=>by subst e;exact hff hj);have hc9:w9.heap[bc]? =some (.cells #[.pointer (some ⟨c,0,none⟩)] eN (0,0)):=zt.heap V.hc fL;refine⟨some fm,by rw [aD VI];rfl,(done++ [b]).length,RY.len si jV gB (fun x=>by
  by_cases hx:x∈done++ [b]
  ·rw [if_pos hx];exact⟨fun _=>hx,fun _ e=>by cases e⟩
  ·rw [if_neg hx];exact⟨fun e=>absurd rfl e,fun e=>absurd e hx⟩),some ⟨c,0,none⟩,by rw [aD hc9];rfl,(k:Int),h9.c0,?_⟩
 refine Split.dec (fun h1=>?_) (fun h1=>?_)
 ·have lk:=fR.look si RY b
  rw [if_pos (by simp)]at lk;refine⟨some fm,by rw [aD VI];rfl,b.1,⟨b.2.1,Cells.bI hb9⟩,_,lk,some ⟨c,0,none⟩,by rw [aD hc9];rfl,(k:Int),h9.c0,?_⟩;refine hK w9 _ ?_ RY zt;unfold r8;rw [List.length_append,List.length_cons,List.length_nil]at h1;refine decide_eq_decide.2 ⟨fun h2=>⟨by omega,by omega⟩,fun h2=>by omega⟩
 ·refine hK w9 false ?_ RY zt
  unfold r8;rw [List.length_append,List.length_cons,List.length_nil]at h1;exact(decide_eq_false (by omega)).symm
end
structure PN where
 bs:Nat
 bc:Nat
 bh:Nat
 q:Nat
 sm:Nat
 kb:Nat
 fb:Nat
 fm:Nat
 yb:Nat
 hb:Nat
def PN.y7(p:PN):Value:=.func (.func cJ.id) #[] #[.pointer (some ⟨p.kb,0,none⟩),.pointer (some ⟨p.fb,0,none⟩),.pointer (some ⟨p.bc,0,none⟩)]
def PN.iC(p:PN)(j:Nat):Prop:=p.bs≠j/\p.bc≠j/\p.bh≠j/\p.q≠j/\p.sm≠j/\p.kb≠j/\p.fb≠j
structure PG(w:World)(F:Nat->Prop)(c k:Nat)(G:GS)(m:CM)(s h:HT)(p:PN)(ov:HT->Option Nat):Prop where
 C:CV w F c k G m
 V:VB w c s p.bs p.bc p.bh p.q p.sm ov
 kb:w.heap[p.kb]? =some (.cells #[.func (.func bX.id) #[] #[.pointer (some ⟨p.bs,0,none⟩),.pointer (some ⟨p.bc,0,none⟩),.pointer (some ⟨p.bh,0,none⟩)]] fC (0,0))
 fb:w.heap[p.fb]? =some (.cells #[.map (some p.fm)] cK (0,0))
 yb:w.cell? ⟨p.yb,0,none⟩=some p.y7
 hb:w.heap[p.hb]? =some (.cells h.1 ah (0,0))
 fo:¬m.own c p.fm
 ff:¬F p.fm
 iC:p.iC p.fm
 y:p.yb≠p.fm
 h:p.hb≠p.fm
section
variable{w w' u:World}{F:Nat->Prop}{c k:Nat}{G:GS}{m:CM}{s h:HT}{p:PN}{ov:HT->Option Nat}{K:Value->World->Prop}
theorem PG.aF(B:PG w F c k G m s h p ov)(hk:Kept (· =p.fm) w w'):PG w' F c k G m s h p ov:=by
 obtain⟨f1,f2,f3,f4,f5,f6,f7⟩:=B.iC;exact⟨B.C.aF hk (fun j hj e=>by subst e;exact B.fo hj) (fun j hj e=>by subst e;exact B.ff hj),B.V.aF hk f1 f2 f3 f4 f5,hk.heap B.kb f6,hk.heap B.fb f7,hk.cell B.yb B.y,hk.heap B.hb B.h,B.fo,B.ff,B.iC,B.y,B.h⟩
theorem PG.same(B:PG w F c k G m s h p ov)(hk:Kept Nil w w'):PG w' F c k G m s h p ov:=B.aF (hk.mono fun _ _ h=>h.elim)
theorem tc(B:PG w F c k G m s h p ov)(hD:G.D.length<=5000)(qw:k<=1000)(hs:s∈ids G.D){l:List HT}(hc:cI G.D G.P s l){done:List HT}(hF:zp w p.fm (sq ov (mV m.sz l)) done){b:HT}{zb:Nat}
 (hz:w.heap[zb]? =some (.cells b.1 ah (0,0))) (hzf:zb≠p.fm) (hn:oo G.D b h->(done++ [b]).Nodup) {A T:World->Prop}
 (hA:∀u,oo G.D b h->r8 k (sq ov (mV m.sz l)) done b=false->Kept (· =p.fm) w u->A u)
 (hT:∀u yh,yh=done++(if oo G.D b h then [b]else [])->(oo G.D b h->r8 k (sq ov (mV m.sz l)) done b=true)->zp u p.fm (sq ov (mV m.sz l)) yh->Kept (· =p.fm) w u->T u):
 bu prog dq.id #[.pointer (some ⟨c,0,none⟩),.agg b.1,.agg h.1] w fun x y=>∃z:Bool,x=.bool z/\Split z (∃a1:Value,y.cell? ⟨p.yb,0,none⟩=some a1/\∃b1:Array Value,(b1.size=32/\Cells y ⟨zb,0,none⟩ b1)/\
  ∃(c1:Nat) (d1 e1:Array Value) (f1:Func),(a1:Value)=.func (.func c1) d1 e1/\prog.funcs[c1]? =some f1/\f1.body.isSome=true/\
   bu prog c1 (d1.toList++([.agg b1]:List Value)++e1.toList).toArray y fun g1 i1=>∃j1:Bool,g1=.bool j1/\Split (!j1) (A i1) (T i1)) (T y):=by
 refine Bt B.C hD b h fun y r hr ky=>⟨r,rfl,?_⟩;have kyf:Kept (· =p.fm) w y:=ky.mono fun _ _ h=>h.elim;have By:=B.same ky;cases r with
 |false=>
  have LK:¬oo G.D b h:=fun e=>by have:=hr.2 e;cases this
  exact Split.no rfl (hT y done (by rw [if_neg LK,List.append_nil]) (fun e=>absurd e LK) (hF.same ky) kyf)
 |true=>
  have ha:=hr.1 rfl;have gB:=hn ha;rw [List.nodup_append]at gB;refine Split.yes rfl ⟨_,By.yb,b.1,⟨b.2.1,Cells.bI (ky.heap hz (fun h=>h))⟩,_,_,_,_,rfl,cJ.at_,rfl,?_⟩;refine Bq By.C hD qw hs hc By.V By.kb By.fb gB.1 (fun e=>gB.2.2 b e b (by simp) rfl) (hF.same ky) B.fo B.ff B.iC.2.1 fun v r hr hv kv=>⟨r,rfl,?_⟩;have O2:Kept (· =p.fm) w v:=kyf.tt kv;cases r with
  |false=>exact Split.yes rfl (hA v ha hr.symm O2)
  |true=>exact Split.no rfl (hT v (done++ [b]) (by rw [if_pos ha]) (fun _=>hr.symm) hv O2)
end
structure PG0(w:World)(F:Nat->Prop)(c k:Nat)(G:GS)(m:CM)(s:HT)(p:PN)(ov:HT->Option Nat):Prop where
 C:CV w F c k G m
 V:VB w c s p.bs p.bc p.bh p.q p.sm ov
 kb:w.heap[p.kb]? =some (.cells #[.func (.func bX.id) #[] #[.pointer (some ⟨p.bs,0,none⟩),.pointer (some ⟨p.bc,0,none⟩),.pointer (some ⟨p.bh,0,none⟩)]] fC (0,0))
 fb:w.heap[p.fb]? =some (.cells #[.map (some p.fm)] cK (0,0))
 fo:¬m.own c p.fm
 ff:¬F p.fm
 iC:p.iC p.fm
theorem dc:∀ {l m:List HT},l.Nodup->(∀x∈l,x∈m)->l.length<=m.length
 | [],_,_,_=>Nat.zero_le _
 |x::l,m,hn,hm=>by
  rw [List.nodup_cons]at hn;have hx:=hm x List.mem_cons_self;have:=dc (m:=m.erase x) hn.2 fun y hy=>(List.mem_erase_of_ne (fun e=>hn.1 (by rw [<-e];exact hy))).2 (hm y (List.mem_cons_of_mem _ hy));rw [List.length_erase_of_mem hx]at this;have h0:=List.length_pos_of_mem hx;rw [List.length_cons];omega
theorem HS.get_mem{w:World}{A:Option Addr}{n:Nat}{l:List HT}(hl:HS w A n l){i:Nat}(hi:i<n):∃y,l[i]? =some y:=⟨_,List.getElem?_eq_getElem (by have:=hl.len;omega)⟩
theorem Al{D:DG}{l:List HT}{h x:HT}{i:Nat}(hx:l[i]? =some x):bV D (l.take (i+1)) h=bV D (l.take i) h++if oo D x h then [x]else []:=by
 have e:l.take (i+1)=l.take i++ [x]:=by rw [List.take_add_one,hx];rfl
 rw [e,fV]
 congr 1
 unfold bV;by_cases hp:oo D x h
 ·rw [if_pos hp,List.filter_cons_of_pos (by simpa using hp)];rfl
 ·rw [if_neg hp,List.filter_cons_of_neg (by simpa using hp)];rfl
theorem Dx{m:List HT}{b:List Bool}{x:HT}{y:Bool}{i:Nat}(hx:m[i]? =some x)(hy:b[i]? =some y):dZ (m.drop i) (b.drop i)=(if y then [x]else [])++dZ (m.drop (i+1)) (b.drop (i+1)):=by
 obtain⟨hi,ex⟩:=lgeS hx;obtain⟨hj,ey⟩:=lgeS hy;rw [List.drop_eq_getElem_cons hi,List.drop_eq_getElem_cons hj,ex,ey];cases y<;>rfl
theorem dJ(c:ou)(A:Option Addr)(n cp:Nat)(B:Option Addr)(m cq:Nat):∀v∈(cQ c A n cp B m cq).toList,v.oneCell'=true:=by
 intro v hv;unfold cQ at hv;rw [Array.toList_append,List.mem_append]at hv;rcases hv with hv|hv
 ·exact c.iY.2.one v hv
 ·simp only [List.mem_cons,List.not_mem_nil,or_false]at hv
  rcases hv with rfl|rfl|rfl<;>rfl
section
variable{w w':World}{F:Nat->Prop}{c k:Nat}{G:GS}{m:CM}{s:HT}{p:PN}{ov:HT->Option Nat}{K:Value->World->Prop}
theorem DC{kn:HT->Nat}{done rest lf:List HT}{b:HT}(e:done++b::rest=lf)(h:r8 k kn done b=false):ft k kn [] lf=false:=by
 rw [<-e,mP,List.nil_append,ft,h,Bool.false_and,Bool.and_false]
theorem zm{kn:HT->Nat}{done:List HT}{b:HT}(h:ft k kn [] done=true)(hb:r8 k kn done b=true):ft k kn [] (done++ [b])=true:=by
 rw [mP,h,List.nil_append,ft,hb,Bool.true_and,Bool.true_and];rfl
theorem Br(B:PG0 w F c k G m s p ov)(hD:G.D.length<=5000)(qw:k<=1000)(hs:s∈ids G.D){l:List HT}(hc:cI G.D G.P s l){h:HT}{bb:Nat}{A:Option Addr}{n cx:Nat}{bl:List HT}
 (xg:w.heap[bb]? =some (.cells #[.slice A n cx] ay (0,0))) (Yr:bb≠p.fm) (Db:HS w A n bl) (hAf:∀a,A=some a->a.block≠p.fm) (hn:n<=10000) (hF:zp w p.fm (sq ov (mV m.sz l)) []) (x6:(oU G h bl l).Nodup)
 (hK:∀w' (r:Bool),r=ft k (sq ov (mV m.sz l)) [] (oU G h bl l)->(r=true->zp w' p.fm (sq ov (mV m.sz l)) (oU G h bl l))->Kept (· =p.fm) w w'->K (.bool r) w'):
 bu prog ag.id #[.agg h.1,p.y7,.pointer (some ⟨bb,0,none⟩),.pointer (some ⟨p.bc,0,none⟩),.pointer (some ⟨p.bh,0,none⟩)] w K:=by
 have W:=B.C.fg.W;have H:=B.C.fg.iY;have RR:∀y∈l,y∈ids G.D:=fun y hy=>((hc.mem W H).1 hy).mem.1;have hlen:=Db.len;have lfm:=hF.lt;refine ag.of ?_;unfold ag.W;intro w4 w5 w6;have k4:Kept Nil w w4:=(Kept.refl _ _).alloc _;have hh4:w4.heap[w.heap.size]? =some (.cells h.1 ah (0,0)):=aI w _;have k5:Kept Nil w4 w5:=(Kept.refl _ _).alloc _;obtain⟨ty,hy5⟩:∃ty:TypeId,w5.heap[w4.heap.size]? =some (.cells #[p.y7] ty (0,0)):=⟨_,aI w4 _⟩;have k6:Kept Nil w5 w6:=(Kept.refl _ _).alloc _;have Yb:w6.heap[w5.heap.size]? =some (.cells #[.bool false] iK (0,0)):=aI w5 _;clear_value w6;have hy6:=k6.heap hy5 (fun h=>h);have hh6:=k6.heap (k5.heap hh4 (fun h=>h)) (fun h=>h);have qS:=(k4.tt k5).tt k6;have s4:=k4.size;have s5:=k5.size;have s6:=k6.size;have l4:=aQ hh4;have l5:=aQ hy5;have l6:=aQ Yb;clear_value w5 w4;obtain⟨p',LG,xh,Gt,acy,acw⟩:∃p':PN,p'= {p with yb:=w4.heap.size,hb:=w.heap.size}/\p'.y7=p.y7/\p'.fm=p.fm/\p'.bc=p.bc/\p'.bh=p.bh:=⟨_,rfl,rfl,rfl,rfl,rfl⟩;have eyb:p'.yb=w4.heap.size:=by rw [LG]
 have YI:p'.hb=w.heap.size:=by rw [LG]
 have B6:PG w6 F c k G m s h p' ov:=by
  rw [LG];exact⟨B.C.same qS,B.V.same qS,qS.heap B.kb (fun h=>h),qS.heap B.fb (fun h=>h),by show w6.cell? ⟨w4.heap.size,0,none⟩=_;rw [aD hy6];rfl,hh6,B.fo,B.ff,B.iC,(by show w4.heap.size≠p.fm;omega),(by show w.heap.size≠p.fm;omega)⟩
 generalize xc:sq ov (mV m.sz l)=kn at*;have hF6:zp w6 p'.fm kn []:=by rw [Gt];exact hF.same qS
 generalize jZ:oU G h bl l=lf at*;have rC:bV G.D bl h++zA G h l=lf:=jZ;rw [<-Gt]at Yr hAf lfm;have hK':∀w' (r:Bool),r=ft k kn [] lf->(r=true->zp w' p'.fm kn lf)->Kept (· =p'.fm) w w'->K (.bool r) w':=by rw [Gt];exact hK
 have kA:∀ {v:World},Kept (· =p'.fm) w6 v->Kept (· =p'.fm) w v:=fun k=>(qS.mono fun _ _ h=>h.elim).tt k;have fin:∀ {v:World} (r:Bool),Kept (· =p'.fm) w6 v->∃u:World,u=v.setCell ⟨w5.heap.size,0,none⟩ (.bool r)/\Wr v ⟨w5.heap.size,0,none⟩/\u.heap[w5.heap.size]? =some (.cells #[.bool r] iK (0,0))/\Kept (· =w5.heap.size) v u:=fun {v} r kv=>by
  have hr:=kv.heap Yb (by omega);refine⟨_,rfl,dY hr (by simp),?_,Kept.setCell (S:=fun k=>k=w5.heap.size) (Kept.refl _ v) (p:=⟨w5.heap.size,0,none⟩) (fun _=>rfl) _⟩;rw [dh hr 0];rfl
 have ZT:∀ {v u:World},Kept (· =p'.fm) w6 v->Kept (· =w5.heap.size) v u->Kept (· =p'.fm) w u:=fun kv ku=>⟨ku.os.trans (kA kv).os,ku.tape.trans (kA kv).tape,ku.output.trans (kA kv).output,Nat.le_trans (kA kv).size ku.size,fun j hj hn=>by rw [ku.block j (Nat.lt_of_lt_of_le hj (kA kv).size) (by omega),(kA kv).block j hj hn]⟩;refine⟨A,n,cx,by rw [aD (qS.heap xg (fun h=>h))];rfl,?_⟩;rw [<-acy,<-acw];refine ag.cy (I:=fun s0 v=>∃i:Nat,s0=(i:Int)/\i<=n/\zp v p'.fm kn (bV G.D (bl.take i) h)/\ft k kn [] (bV G.D (bl.take i) h)=true/\Kept (· =p'.fm) w6 v) (μ:=fun s0 _=>((n:Int)-s0).toNat) (s:=0) ⟨0,rfl,Nat.zero_le _,hF6,rfl,Kept.refl _ _⟩ ?_;rintro s0 v ⟨i,rfl,hi,hFv,di,kv⟩;have Bv:=B6.aF kv;refine Split.dec (fun jN=>?_) (fun gH=>?_)
 ·have dV:i<n:=by omega
  obtain⟨b,hb⟩:=Db.get_mem dV;have acu:HS v A n bl:=Db.aF (kA kv) hAf;refine acu.load (i:=(i:Int)) (by omega) hb ?_;intro mz;obtain⟨tu,jP,ko⟩:=iu (w:=v) (z:=dX.1) (cs:=b.1) (t:=ah) (by rw [b.2.1];rfl);refine⟨⟨b.2.1,b.2.one,fun j hj=>tu j (by rw [b.2.1];exact hj)⟩,?_⟩;intro jM
  replace jP:jM.heap[v.heap.size]? =some (.cells b.1 ah (0,0)):=jP
  replace ko:Kept Nil v jM:=ko
  clear_value jM;have sv:=(kA kv).size;have Rn:=Bv.same ko;have e1:=Al (D:=G.D) (h:=h) hb;have e2:∃rest,bV G.D (bl.take i) h++(if oo G.D b h then [b]else [])++rest=lf:=by
   refine⟨bV G.D (bl.drop (i+1)) h++zA G h l,?_⟩;rw [<-e1,<-rC,<-List.append_assoc,<-fV,List.take_append_drop]
  obtain⟨rest,e2⟩:=e2;refine⟨some ⟨c,0,none⟩,by rw [aD Rn.V.hc];rfl,b.1,⟨b.2.1,Cells.bI jP⟩,h.1,⟨h.2.1,by have:=Rn.hb;rw [YI]at this;exact Cells.bI this⟩,?_⟩;rw [<-eyb];refine tc Rn hD qw hs hc (done:=bV G.D (bl.take i) h) (by rw [xc];exact hFv.same ko) jP (by omega) (fun ha=>by
   rw [if_pos ha]at e2;rw [<-e2]at x6;exact(List.nodup_append.1 x6).1) ?_ ?_
  ·intro u ha hp ku
   rw [xc]at hp;have Rv:Kept (· =p'.fm) w6 u:=(kv.trans ko (fun _ _ h=>h.elim)).tt ku;obtain⟨u',eu,hw,Ui,kuu⟩:=fin false Rv;refine⟨hw,?_⟩;intro Ow;have e30:Ow=u':=eu.symm;rw [iT,ag.Ol,e30];rw [if_pos ha,List.append_assoc]at e2;exact⟨false,by rw [aD Ui];rfl,hK' u' false (DC e2 hp).symm (fun e=>by cases e) (ZT Rv kuu)⟩
  ·intro u yh ed hp NU ku
   rw [xc]at hp NU;have Rv:Kept (· =p'.fm) w6 u:=(kv.trans ko (fun _ _ h=>h.elim)).tt ku;rw [dW (n:=(i:Int)) (by omega) (by omega)];refine⟨(i:Int)+1,rfl,⟨i+1,rfl,dV,?_,?_,Rv⟩,by simp only;omega⟩
   ·rw [e1,<-ed];exact NU
   ·rw [e1]
    by_cases ha:oo G.D b h
    ·rw [if_pos ha];exact zm di (hp ha)
    ·rw [if_neg ha,List.append_nil];exact di
 ·rw [aR,ag.df]
  rw [List.take_of_length_le (by omega)]at di hFv;unfold ag.cV;intro sM;have CI:Kept Nil v sM:=(Kept.refl _ _).drew;clear_value sM;have B33:=Bv.same CI;refine⟨some ⟨c,0,none⟩,by rw [aD B33.V.hc];rfl,_,B33.C.c1,s.1,⟨s.2.1,Cells.bI B33.V.hh⟩,?_⟩;refine pH s fun kh pb qb ot LD LB Bf hqb=>⟨_,rfl,?_⟩;have O7:Kept Nil v kh:=CI.tt ot;have Lg:Kept (· =p'.fm) w6 kh:=kv.trans O7 (fun _ _ h=>h.elim);have B35:=Bv.same O7;have ag2:=Lg.size;have ade:zp kh p'.fm kn (bV G.D bl h):=hFv.same O7
  let y7:Value:=.func (.func aW.id) #[] #[.pointer (some ⟨pb,0,none⟩),.pointer (some ⟨qb,0,none⟩)]
  let ρ0:Env:= [(3,.pointer (some ⟨p'.bc,0,none⟩)),(5,.pointer (some ⟨w.heap.size,0,none⟩)),(6,.pointer (some ⟨w4.heap.size,0,none⟩)),(7,.pointer (some ⟨w5.heap.size,0,none⟩)),(36,y7)]
  let J:Nat->World->Prop:=fun j u=>∃done:List HT,done++zA G h (l.drop j)=lf/\zp u p'.fm kn done/\ft k kn [] done=true/\Kept (· =p'.fm) kh u/\j<=l.length
  let Jd:Code->World->Prop:=fun e u=>e=.ret/\∃r:Bool,u.heap[w5.heap.size]? =some (.cells #[.bool r] iK (0,0))/\r=ft k kn [] lf/\(r=true->zp u p'.fm kn lf)/\Kept (fun j=>j=p'.fm\/j=w5.heap.size) kh u
  have lpb:=aQ LD;have lqb:=aQ LB;have agY:=CI.size;have svw:=(kA kv).size;obtain⟨mx,X35,RI⟩:=B35.C.X;have XJ:∀ {u:World},Kept (· =p'.fm) kh u->XV u m.FX m.x G.D G.P mx:=fun k=>X35.aF k (fun j hj e=>by subst e;rw [Gt]at hj;exact B.fo (.inl (RI _ hj))) (fun j hj e=>by subst e;rw [Gt]at hj;exact B.ff (B.C.fx _ hj))
  change Holds none [] prog _ _ _ ρ0 kh
  have out:∀ {u:World} {R:Loop} (r:Bool),Kept (· =p'.fm) kh u->Live (kh.heap.size+1) kh.heap.size R u->r=ft k kn [] lf->(r=true->zp u p'.fm kn lf)->Wr u ⟨w5.heap.size,0,none⟩/\∀u',u'=u.setCell ⟨w5.heap.size,0,none⟩ (.bool r)->Live (kh.heap.size+1) kh.heap.size R u'/\Jd .ret u':=fun {u R} r ku hl hr hf=>by
   obtain⟨u0,e0,t1,t2,t3⟩:=fin r (Lg.tt ku);refine⟨t1,fun u' eu=>?_⟩;rw [eu,<-e0];refine⟨hl.aF t3 (by omega) (by omega),rfl,r,t2,hr,fun e=>(hf e).aF t3 (by omega),(ku.mono fun _ _ h=>.inl h).trans t3 (fun _ _ h=>.inr h)⟩
  refine oB (n:=90) (ρ:=ρ0) (ρ0:=ρ0) ng mix ag.k (t:=36) (ps:= #[37]) (by kernel_rfl) (by decide) rfl aW.at_ rfl (.inl rfl) (fun i x hi hx=>hx) rfl sE l (fun _=>rfl) (fun q hq=>by
   have W4:q=37:=by simpa using hq
   subst W4;exact⟨by decide,by decide⟩) (yv (F:=m.FX) (x:=m.x) (m:=mx) (pb:=pb) (qb:=qb) hc (by omega)) J Jd ?_ ?_ (fun j u ⟨done,_,_,_,kJ,_⟩=>⟨XJ kJ,kJ.heap LD (by omega),kJ.heap LB (by omega)⟩) ?_ ?_ ?_ ?_ ?_
  ·rintro j u1 u2 R oQ ⟨done,h1,h2,h3,h4,h5⟩ oR
   exact⟨done,h1,h2.aF oR (by omega),h3,h4.trans oR (fun k hk e=>by omega),h5⟩
  ·rintro e u1 u2 R oQ ⟨h1,r,h2,h3,h4,h5⟩ oR
   exact⟨h1,r,oR.heap h2 (by omega),h3,fun e=>(h4 e).aF oR (by omega),h5.trans oR (fun k hk e=>by omega)⟩
  ·intro R
   have ka:Kept Nil kh ((kh.alloc (.deferred (some []))).alloc (.loop R)):=(((Kept.refl _ _).alloc _).alloc _);exact⟨bV G.D bl h,rC,ade.same ka,di,ka.mono fun _ _ h=>h.elim,Nat.zero_le _⟩
  ·rintro j z u1 R hz ⟨done,h1,h2,h3,h4,h5⟩ oQ
   have e7:kX ρ0 ((#[37]:Array Nat).toList.zip (sE z))= [(3,.pointer (some ⟨p'.bc,0,none⟩)),(5,.pointer (some ⟨w.heap.size,0,none⟩)),(6,.pointer (some ⟨w4.heap.size,0,none⟩)),(7,.pointer (some ⟨w5.heap.size,0,none⟩)),(36,y7),(37,.agg z.1)]:=rfl;rw [e7,ag.a1];have uT:=(lgeS hz).1;have PE:=RR z (List.mem_of_getElem? hz);have W1:l.drop j=z::l.drop (j+1):=by
    obtain⟨hi,e⟩:=lgeS hz;rw [List.drop_eq_getElem_cons hi,e]
   rw [W1,zA]at h1;unfold ag.A1;intro Km;obtain⟨tu,jP,ko⟩:=iu (w:=u1) (z:=dX.1) (cs:=z.1) (t:=ah) (by rw [z.2.1];rfl);refine⟨⟨z.2.1,z.2.one,fun j hj=>tu j (by rw [z.2.1];exact hj)⟩,?_⟩;intro My
   replace jP:My.heap[u1.heap.size]? =some (.cells z.1 ah (0,0)):=jP
   replace ko:Kept Nil u1 My:=ko
   clear_value My;have Jk:=oQ.aF ko (fun h=>h) (fun h=>h);refine⟨Jk,fun w2 R2 mX rz=>?_⟩;have lT:=mX.heap jP (kY jP Jk.loop);have ag5:=h4.size;have wU:Kept (· =p'.fm) kh w2:=(h4.trans ko (fun _ _ h=>h.elim)).trans mX (fun k hk e=>by omega);have Q0:zp w2 p'.fm kn done:=(h2.same ko).aF mX (by omega);have B2:=B35.aF wU;rw [ag.y1];unfold ag.Y1;have e2:∃rest,done++(if oo G.D z h then [z]else [])++rest=lf:=⟨_,(List.append_assoc _ _ _).trans h1⟩;obtain⟨rest,e2⟩:=e2;refine⟨some ⟨c,0,none⟩,by rw [aD B2.V.hc];rfl,z.1,⟨z.2.1,Cells.bI lT⟩,h.1,⟨h.2.1,by have:=B2.hb;rw [YI]at this;exact Cells.bI this⟩,?_⟩;rw [<-eyb];refine tc B2 hD qw hs hc (done:=done) (by rw [xc];exact Q0) lT (by omega) (fun ha=>by
    rw [if_pos ha]at e2;rw [<-e2]at x6;exact(List.nodup_append.1 x6).1) ?_ ?_
   ·intro u ha hp ku
    rw [xc]at hp;rw [if_pos ha,List.append_assoc]at e2;obtain⟨o1,o2⟩:=out (u:=u) false (wU.tt ku) (rz.aF ku (by omega) (by omega)) (DC e2 hp).symm (fun e=>by cases e);refine⟨o1,?_⟩;intro Y9;exact o2 Y9 rfl
   ·intro u yh ed hp NU ku
    rw [xc]at hp NU;have Z5:=wU.tt ku;have hlu:=rz.aF ku (by omega) (by omega);have NT:ft k kn [] yh=true:=by
     rw [ed];by_cases ha:oo G.D z h
     ·rw [if_pos ha];exact zm h3 (hp ha)
     ·rw [if_neg ha,List.append_nil];exact h3
    rw [<-List.append_assoc,<-ed]at h1;intro Y8;have k61:Kept Nil u Y8:=(Kept.refl _ _).drew;clear_value Y8;have Pg:Kept (· =p'.fm) w2 Y8:=ku.trans k61 (fun _ _ h=>h.elim);have YX:=B2.aF Pg;have aae:=Pg.heap lT (by omega);obtain⟨mx1,X61,_⟩:=YX.C.X;refine⟨some ⟨c,0,none⟩,by rw [aD YX.V.hc];rfl,_,YX.C.c1,z.1,⟨z.2.1,Cells.bI aae⟩,h.1,⟨h.2.1,by have:=YX.hb;rw [YI]at this;exact Cells.bI this⟩,?_⟩;refine ml X61 hD z h fun G0 r hr Gb=>⟨r,rfl,?_⟩;have Ld:Kept Nil u G0:=k61.tt Gb;have U4:=hlu.aF Ld (fun h=>h) (fun h=>h);have TH:=Z5.trans Ld (fun _ _ h=>h.elim);have ada:=NU.same Ld;cases r with
    |true=>
     have Dc:=hr.1 rfl;rw [if_pos Dc,List.append_nil]at h1;obtain⟨o1,o2⟩:=out (u:=G0) true TH U4 (by rw [<-h1,NT]) (fun _=>by rw [<-h1];exact ada);refine Split.yes rfl ⟨o1,?_⟩;intro Ot;exact o2 Ot rfl
    |false=>
     have UP:¬fy G.D z h:=fun e=>by have:=hr.2 e;cases this
     rw [if_neg UP]at h1;refine Split.no rfl ?_;intro Ht;have MR:Kept Nil G0 Ht:=(Kept.refl _ _).drew;clear_value Ht;have Ln:Kept (· =p'.fm) w2 Ht:=Pg.trans (Gb.tt MR) (fun _ _ h=>h.elim);have Xv:=B2.aF Ln;have TZ:=Ln.heap lT (by omega);obtain⟨A1,n1,c1,B1,m1,d1,s1,sa⟩:=Xv.C.seen z PE;refine⟨some ⟨c,0,none⟩,by rw [aD Xv.V.hc];rfl,_,Xv.C.c2,z.1,⟨z.2.1,Cells.bI TZ⟩,_,Xv.C.oO PE,_,⟨aZ ..,sa.gF⟩,?_⟩;intro w73;have ZX:Kept Nil Ht w73:=(Kept.refl _ _).alloc _;obtain⟨PL,Bk,yW⟩:=iu (w:=Ht) (z:=zC) (cs:=cQ (G.gF z) A1 n1 c1 B1 m1 d1) (t:=bn) (by rw [aZ];rfl);have B73:=Xv.same ZX;refine⟨⟨_,rfl,aZ ..,(sa.aF ZX (fun _ _ h=>h)).gF⟩,B73.C.oO PE,⟨z.1,rfl,z.2.1,Cells.bI (ZX.heap TZ (fun h=>h))⟩,B73.C.c2,by rw [aD B73.V.hc];rfl,⟨aZ ..,dJ _ _ _ _ _ _ _,fun j hj=>PL j (by rw [aZ];exact hj)⟩,?_⟩;intro Rp
     replace Bk:Rp.heap[Ht.heap.size]? =some (.cells (cQ (G.gF z) A1 n1 c1 B1 m1 d1) bn (0,0)):=Bk
     replace yW:Kept Nil Ht Rp:=yW
     clear_value Rp w73;have Tu:Kept Nil u Rp:=Ld.tt (MR.tt yW);have TK:Kept (· =p'.fm) w2 Rp:=Ln.trans yW (fun _ _ h=>h.elim);have ag8:=TK.size;have ag9:=Ln.size;have s2:=wU.size;have ajt:=hlu.aF Tu (fun h=>h) (fun h=>h);have Zk:=sa.aF yW (fun _ _ h=>h);have afB:=sa.mg.len;have Wa:=sa.bl.len;have hff:∀j,F j->j≠p'.fm:=fun j hj e=>by rw [Gt]at e;subst e;exact B.ff hj
     have hcg:=gE (G.gF z) A1 n1 c1 B1 m1 d1 #[];rw [Array.append_empty]at hcg;refine⟨A1,n1,c1,by rw [br,aD Bk];exact hcg.2.1,?_⟩;have afF:(G.gF z).fh.length=(G.gF z).merge.length:=by
      rcases(cI.ex H z)with⟨lz,cz⟩;rcases cz.inv W H PE with⟨_,nd,h0,rfl⟩|⟨t,r',_,qG,_,_⟩
      ·obtain⟨r1,_⟩:=B.C.fg.root nd h0
       rw [r1];rfl
      ·exact(B.C.fg.up t z qG).2.2.1
     have He:(G.gF z).merge.length<=G.D.length:=by
      have gB:(G.gF z).merge.Nodup/\∀y∈(G.gF z).merge,y∈ids G.D:=by
       rcases(cI.ex H z)with⟨lz,cz⟩;rcases cz.inv W H PE with⟨_,nd,h0,rfl⟩|⟨t,r',_,qG,_,_⟩
       ·obtain⟨r1,_⟩:=B.C.fg.root nd h0
        rw [r1];exact⟨List.nodup_nil,fun y hy=>by cases hy⟩
       ·obtain⟨_,_,_,g1,g2⟩:=B.C.fg.up t z qG
        exact⟨g1,fun y hy=>(((g2 y).1 hy).1.mem W).1⟩
      have:=dc gB.1 gB.2
      rwa [gq]at this
     refine ag.iq (I:=fun s0 v=>∃i:Nat,s0=(i:Int)/\i<=n1/\∃dn:List HT,dn++(bV G.D (dZ ((G.gF z).merge.drop i) ((G.gF z).fh.drop i)) h++zA G h (l.drop (j+1)))=lf/\zp v p'.fm kn dn/\ft k kn [] dn=true/\Kept (· =p'.fm) Rp v) (μ:=fun s0 _=>((n1:Int)-s0).toNat) (s:=0) ⟨0,rfl,Nat.zero_le _,yh,by rw [List.drop_zero,List.drop_zero];exact h1,NU.same Tu,NT,Kept.refl _ _⟩ ?_;rintro s0 v2 ⟨i2,rfl,C6,dn,g1,g2,g3,g4⟩;have Iw:Kept (· =p'.fm) w2 v2:=TK.tt g4;have Bv2:=B2.aF Iw;have Zj:=Zk.aF g4 (fun j hj e=>hff j hj e);have TG:=wU.tt Iw;have U3:=rz.aF Iw (by omega) (by omega);have sv2:=Iw.size;refine Split.dec (fun jN=>?_) (fun gH=>?_)
     ·have dV:i2<n1:=by omega
      obtain⟨b,hb⟩:=Zj.mg.get_mem dV;obtain⟨bb2,Wh⟩:∃y,(G.gF z).fh[i2]? =some y:=⟨_,List.getElem?_eq_getElem (by omega)⟩;refine Zj.mg.load (i:=(i2:Int)) (by omega) hb ?_;intro mz;obtain⟨aao,Gw,wZ⟩:=iu (w:=v2) (z:=dX.1) (cs:=b.1) (t:=ah) (by rw [b.2.1];rfl);refine⟨⟨b.2.1,b.2.one,fun j hj=>aao j (by rw [b.2.1];exact hj)⟩,?_⟩;intro jM
      replace Gw:jM.heap[v2.heap.size]? =some (.cells b.1 ah (0,0)):=Gw
      replace wZ:Kept Nil v2 jM:=wZ
      clear_value jM;have Rn:=Bv2.same wZ;have V8:=wZ.heap (g4.heap Bk (by omega)) (fun h=>h);have Zl:=Zj.aF wZ (fun _ _ h=>h);obtain⟨aB,Jz,_,Ca⟩:=Zl.bl.at_ i2 bb2 Wh;subst Jz;refine⟨some aB,m1,d1,by rw [br,aD V8];exact hcg.2.2.1,⟨by omega,by omega⟩,bb2,by rw [Int.toNat_natCast,Nat.mul_one];exact Ca,?_⟩;rw [Dx hb Wh]at g1;cases bb2 with
      |false=>
       refine Split.no rfl ?_;rw [dW (n:=(i2:Int)) (by omega) (by omega)];exact⟨(i2:Int)+1,rfl,⟨i2+1,rfl,dV,dn,g1,g2.same wZ,g3,g4.trans wZ (fun _ _ h=>h.elim)⟩,by simp only;omega⟩
      |true=>
       rw [if_pos rfl,fV,List.append_assoc]at g1;have ady:bV G.D [b] h=if oo G.D b h then [b]else []:=by
        unfold bV;by_cases hp:oo G.D b h
        ·rw [if_pos hp,List.filter_cons_of_pos (by simpa using hp)];rfl
        ·rw [if_neg hp,List.filter_cons_of_neg (by simpa using hp)];rfl
       rw [ady,<-List.append_assoc]at g1;refine Split.yes rfl ⟨some ⟨c,0,none⟩,by rw [aD Rn.V.hc];rfl,b.1,⟨b.2.1,Cells.bI Gw⟩,h.1,⟨h.2.1,by have:=Rn.hb;rw [YI]at this;exact Cells.bI this⟩,?_⟩;refine tc Rn hD qw hs hc (done:=dn) (by rw [xc];exact g2.same wZ) Gw (by omega) (fun ha=>by
        rw [if_pos ha]at g1;rw [<-g1]at x6;exact(List.nodup_append.1 x6).1) ?_ ?_
       ·intro u2 ha hp Kp
        rw [xc]at hp;rw [if_pos ha,List.append_assoc]at g1;have kk:Kept (· =p'.fm) v2 u2:=(wZ.mono fun _ _ h=>h.elim).tt Kp;obtain⟨o1,o2⟩:=out (u:=u2) false (TG.tt kk) (U3.aF kk (by omega) (by omega)) (DC g1 hp).symm (fun e=>by cases e);refine⟨o1,?_⟩;intro Y9;rw [iT];exact o2 Y9 rfl
       ·intro u2 dn' ed2 RM WK Kp
        rw [xc]at RM WK;have kk:Kept (· =p'.fm) v2 u2:=(wZ.mono fun _ _ h=>h.elim).tt Kp;rw [dW (n:=(i2:Int)) (by omega) (by omega)];refine⟨(i2:Int)+1,rfl,⟨i2+1,rfl,dV,dn',by rw [ed2];exact g1,WK,?_,g4.tt kk⟩,by simp only;omega⟩;rw [ed2];by_cases ha:oo G.D b h
        ·rw [if_pos ha];exact zm g3 (RM ha)
        ·rw [if_neg ha,List.append_nil];exact g3
     ·rw [aR,ag.Y0]
      unfold ag.Xk;have en:(G.gF z).merge.drop i2= []:=List.drop_eq_nil_of_le (by omega);rw [en]at g1;exact⟨U3,dn,by simpa [dZ,bV]using g1,g2,g3,TG,uT⟩
  ·rintro u1 R ⟨done,h1,h2,h3,h4,h5⟩ oQ
   have e7:gv ρ0 kh.heap.size= [(3,.pointer (some ⟨p'.bc,0,none⟩)),(5,.pointer (some ⟨w.heap.size,0,none⟩)),(6,.pointer (some ⟨w4.heap.size,0,none⟩)),(7,.pointer (some ⟨w5.heap.size,0,none⟩)),(36,y7),(4294967296,.agg (pR [kh.heap.size]))]:=rfl;rw [e7,ag.jG];unfold ag.ig;have ec:done=lf:=by rw [<-h1,List.drop_of_length_le (Nat.le_refl _),zA,List.append_nil]
   obtain⟨o1,o2⟩:=out (u:=u1) true h4 oQ (by rw [<-ec,h3]) (fun _=>by rw [<-ec];exact h2);refine⟨o1,?_⟩;intro qX;obtain⟨abz,_,r,t1,t2,t3,t4⟩:=o2 qX rfl;clear_value qX;rw [mw];have kt:=jH [kh.heap.size] qX;have hm:∀E∈ [kh.heap.size],qX.heap[E]? =some (.deferred (some [])):=fun E hE=>by
    rw [List.mem_singleton]at hE;subst hE;exact abz.mark
   refine⟨lC [kh.heap.size] qX (by simp) hm,r,by rw [aD (kt.heap t1 (fun hE=>by rw [List.mem_singleton]at hE;omega))];rfl,?_⟩;exact hK' _ r t2 (fun e=>(t3 e).aF kt (fun hE=>by rw [List.mem_singleton]at hE;omega)) (((kA Lg).trans t4 (fun j hj e=>by rcases e with e|e;exact e;omega)).trans kt (fun j hj hE=>by rw [List.mem_singleton]at hE;omega))
  ·rintro u1 R ⟨_,r,t1,t2,t3,t4⟩ oQ
   have e7:gv ρ0 kh.heap.size= [(3,.pointer (some ⟨p'.bc,0,none⟩)),(5,.pointer (some ⟨w.heap.size,0,none⟩)),(6,.pointer (some ⟨w4.heap.size,0,none⟩)),(7,.pointer (some ⟨w5.heap.size,0,none⟩)),(36,y7),(4294967296,.agg (pR [kh.heap.size]))]:=rfl;rw [e7,ag.Ce];unfold ag.wH;rw [mw];have kt:=jH [kh.heap.size] u1;have hm:∀E∈ [kh.heap.size],u1.heap[E]? =some (.deferred (some [])):=fun E hE=>by
    rw [List.mem_singleton]at hE;subst hE;exact oQ.mark
   refine⟨lC [kh.heap.size] u1 (by simp) hm,r,by rw [aD (kt.heap t1 (fun hE=>by rw [List.mem_singleton]at hE;omega))];rfl,?_⟩;exact hK' _ r t2 (fun e=>(t3 e).aF kt (fun hE=>by rw [List.mem_singleton]at hE;omega)) (((kA Lg).trans t4 (fun j hj e=>by rcases e with e|e;exact e;omega)).trans kt (fun j hj hE=>by rw [List.mem_singleton]at hE;omega))
  ·rintro id u1 R ⟨e,_⟩ oQ
   cases e
end
end Go.Proofs.YtfleamccglihoaaGreatDoor
