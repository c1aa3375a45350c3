import Derived.Test.YtfleamccglihoaaGreatDoorMI
import Derived.Test.YtfleamccglihoaaGreatDoorMJ
import Derived.Test.YtfleamccglihoaaGreatDoorMN
import Derived.Test.YtfleamccglihoaaGreatDoorMG
open Go.IntKind (i64 u64)
set_option linter.unusedVariables false
namespace Go.Proofs.YtfleamccglihoaaGreatDoor
open Go.Proofs.Tryz
open Go Go.bR
structure nN where
 iw:HT
 score:Nat
 merge:List HT
 fz:List Bool
structure GS where
 D:DG
 P:List Int
 rN:List nN
 j0:List (List HT)
def GS.at_(G:GS)(h:HT):Option Nat:=pos h (ids G.D) 0
def GS.gw(G:GS)(h:HT):nN:=((G.at_ h).bind (G.rN[·]?)).getD ⟨dZ,0,[],[]⟩
def GS.world(G:GS)(h:HT):List HT:=((G.at_ h).bind (G.j0[·]?)).getD []
def GS.score(G:GS)(h:HT):Nat:=(G.gw h).score
def gl(G:GS)(a b:HT):Bool:=decide (G.score a<G.score b)||(decide (G.score a=G.score b)&&cJ a b)
def AO(G:GS)(a b:HT):Int:=if gl G a b then-1 else if gl G b a then 1 else 0
def bN(G:GS):List HT->HT
 | []=>dZ
 |x::l=>l.foldl (fun b y=>if gl G b y then y else b) x
def lI(D:DG)(a b:HT):Prop:=a≠b/\¬dN D a b/\¬dN D b a
noncomputable instance(D:DG)(a b:HT):Decidable (lI D a b):=Classical.propDecidable _
noncomputable instance(D:DG)(a b:HT):Decidable (dN D a b):=Classical.propDecidable _
noncomputable def bM(D:DG)(l:List HT)(h:HT):List HT:=l.filter fun b=>decide (lI D b h)
def SO(G:GS)(l:List HT):Prop:=l.Pairwise fun a b=>gl G a b=true
noncomputable def pw(D:DG)(s:HT)(l:List HT):List HT:=(di (du D l++l)).filter fun h=>decide (h≠s/\¬dN D h s)
def wg(G:GS)(x:HT):List HT->List HT
 | []=> [x]
 |y::l=>if gl G x y then x::y::l else y::wg G x l
noncomputable def cj(G:GS)(s:HT)(l:List HT):List HT:=(pw G.D s l).foldr (wg G) []
noncomputable def lG(k:Nat)(D:DG)(wd:List HT)(h:HT):Bool:=decide ((bM D wd h).length<=k/\∀y∈bM D wd h,(bM D wd y).length+1<=k)
structure VS where
 wd:List HT
 bl:List Bool
noncomputable def jB(k:Nat)(D:DG)(s:VS)(h:HT):VS:=⟨if lG k D s.wd h then s.wd++ [h]else s.wd,s.bl++ [lG k D s.wd h]⟩
noncomputable def dE(k:Nat)(G:GS)(s:HT)(l:List HT):VS:=(cj G s l).foldl (jB k G.D) ⟨G.world s++ [s],[]⟩
noncomputable def cI(k:Nat)(G:GS)(s:HT)(l:List HT):nN:=⟨s,G.score s+1+(dE k G s l).bl.count true,cj G s l,(dE k G s l).bl⟩
noncomputable def cV(k:Nat)(G:GS)(h:HT)(ps:List HT):GS:=
 if dr G.D h ps=0 then⟨G.D++ [⟨h,di ps⟩],G.P++ [(((pos (bN G ps) (ids G.D) 0).getD 0:Nat):Int)],G.rN++ [cI k G (bN G ps) ps],G.j0++ [(dE k G (bN G ps) ps).wd]⟩else G
def cS(r:HT):GS:=⟨[⟨r,[]⟩],[-1],[⟨dZ,0,[],[]⟩],[[]]⟩
def dQ:List HT->List Bool->List HT
 |h::l,b::m=>if b then h::dQ l m else dQ l m
 |_,_=> []
theorem lU(G:GS)(a:HT):gl G a a=false:=by simp [gl,gV]
theorem mr{G:GS}{a b c:HT}(h:gl G a b=true)(h':gl G b c=true):gl G a c=true:=by
 simp only [gl,Bool.or_eq_true,Bool.and_eq_true,decide_eq_true_eq]at*;rcases h with h|⟨h,h1⟩
 ·rcases h' with h'|⟨h',h2⟩
  ·exact .inl (by omega)
  ·exact .inl (by omega)
 ·rcases h' with h'|⟨h',h2⟩
  ·exact .inl (by omega)
  ·exact .inr ⟨by omega,jW h1 h2⟩
theorem mu{G:GS}{a b:HT}(h:gl G a b=false)(h':gl G b a=false):a=b:=by
 simp only [gl,Bool.or_eq_false_iff,Bool.and_eq_false_iff,decide_eq_false_iff_not]at*;have e:G.score a=G.score b:=by omega
 obtain⟨_,h2⟩:=h;obtain⟨_,h3⟩:=h';exact pW (by rcases h2 with h2|h2;exact absurd e h2;exact h2) (by rcases h3 with h3|h3;exact absurd e.symm h3;exact h3)
theorem Av{G:GS}{a b:HT}(h:gl G a b=true):gl G b a=false:=by
 cases hb:gl G b a
 ·rfl
 ·have:=mr h hb
  rw [lU]at this;cases this
theorem yz{G:GS}{a b:HT}:AO G a b<0↔gl G a b=true:=by
 unfold AO;split
 ·simp_all
 ·split<;>simp_all
theorem LM(G:GS)(a b:HT):AO G a b=if G.score a<G.score b then-1 else if G.score b<G.score a then 1 else ln a b:=by
 unfold AO ln gl;by_cases h1:G.score a<G.score b
 ·simp [h1]
 ·by_cases h2:G.score b<G.score a
  ·have:¬G.score a=G.score b:=by omega
   simp [h1,h2,this]
  ·have:G.score a=G.score b:=by omega
   simp [this]
theorem SO.cons{G:GS}{x:HT}{l:List HT}:SO G (x::l)↔(∀y∈l,gl G x y=true)/\SO G l:=List.pairwise_cons
theorem SO.nodup{G:GS}{l:List HT}(h:SO G l):l.Nodup:=List.Pairwise.imp (fun {a b} kM e=>by subst e;rw [lU]at kM;cases kM) h
theorem Jo{G:GS}:∀ {l m:List HT},SO G l->SO G m->(∀x,x∈l↔x∈m)->l=m
 | [],[],_,_,_=>rfl
 | [],y::m,_,_,h=>by have:=(h y).2 (by simp);simp at this
 |x::l,[],_,_,h=>by have:=(h x).1 (by simp);simp at this
 |x::l,y::m,hl,hm,h=>by
  rw [SO.cons]at hl hm;have oJ:x=y:=by
   rcases List.mem_cons.1 ((h x).1 List.mem_cons_self)with e|e
   ·exact e
   ·rcases List.mem_cons.1 ((h y).2 List.mem_cons_self)with e'|e'
    ·exact e'.symm
    ·have h1:=hm.1 _ e
     have h2:=hl.1 _ e';rw [Av h1]at h2;cases h2
  subst oJ;have:l=m:=Jo hl.2 hm.2 fun z=>by
   have hz:=h z;simp only [List.mem_cons]at hz;constructor
   ·intro mI
    rcases hz.1 (.inr mI)with e|e
    ·subst e;have:=hl.1 _ mI;rw [lU]at this;cases this
    ·exact e
   ·intro mI
    rcases hz.2 (.inr mI)with e|e
    ·subst e;have:=hm.1 _ mI;rw [lU]at this;cases this
    ·exact e
  rw [this]
theorem uX{G:GS}{x z:HT}:∀ {l:List HT},z∈wg G x l↔z=x\/z∈l
 | []=>by simp [wg]
 |y::l=>by
  unfold wg;split
  ·simp
  ·simp only [List.mem_cons,uX (l:=l)]
   constructor
   ·rintro(h|h|h)<;>simp [h]
   ·rintro(h|h|h)<;>simp [h]
theorem Eg{G:GS}{x:HT}:∀ {l:List HT},SO G l->x∉l->SO G (wg G x l)
 | [],_,_=>by simp [wg,SO]
 |y::l,h,hx=>by
  have h':=SO.cons.1 h;simp only [List.mem_cons,not_or]at hx;unfold wg;split
  ·rename_i oJ
   refine SO.cons.2 ⟨fun z hz=>?_,h⟩;rcases List.mem_cons.1 hz with rfl|hz
   ·exact oJ
   ·exact mr oJ (h'.1 _ hz)
  ·rename_i oJ
   refine SO.cons.2 ⟨fun z hz=>?_,Eg h'.2 hx.2⟩;rcases uX.1 hz with rfl|hz
   ·cases Rh:gl G y z
    ·exact absurd (mu Rh (by simpa using oJ)).symm hx.1
    ·rfl
   ·exact h'.1 _ hz
theorem nv{G:GS}{z:HT}:∀ {l:List HT},z∈l.foldr (wg G) []↔z∈l
 | []=>by simp
 |x::l=>by rw [List.foldr_cons,uX,nv,List.mem_cons]
theorem AZ{G:GS}:∀ {l:List HT},l.Nodup->SO G (l.foldr (wg G) [])
 | [],_=>List.Pairwise.nil
 |x::l,h=>by
  rw [List.nodup_cons]at h;exact Eg (AZ h.2) fun e=>h.1 (nv.1 e)
theorem qy(D:DG)(s:HT)(l:List HT):(pw D s l).Nodup:=(ir _).nodup.filter _
theorem nu{D:DG}{s:HT}{l:List HT}{h:HT}:h∈pw D s l↔((h∈ids D/\∃p∈l,dN D h p)\/h∈l)/\h≠s/\¬dN D h s:=by
 unfold pw du;rw [List.mem_filter,dd,List.mem_append,jb,decide_eq_true_eq]
theorem iH{G:GS}{s:HT}{l:List HT}{h:HT}:h∈cj G s l↔((h∈ids G.D/\∃p∈l,dN G.D h p)\/h∈l)/\h≠s/\¬dN G.D h s:=by
 unfold cj;rw [nv,nu]
theorem jv(G:GS)(s:HT)(l:List HT):SO G (cj G s l):=AZ (qy _ _ _)
theorem nt{G:GS}{s:HT}{l m:List HT}(hs:SO G m)(h:∀x,x∈m↔x∈pw G.D s l):m=cj G s l:=
 Jo hs (jv G s l) fun x=>by unfold cj;rw [h,nv]
theorem gq{G:GS}:∀ {l:List HT},l≠ []->bN G l∈l
 |x::l,_=>by
  have key:∀(l:List HT) (b:HT),l.foldl (fun b y=>if gl G b y then y else b) b=b\/l.foldl (fun b y=>if gl G b y then y else b) b∈l:=by
   intro l
   induction l with
   |nil=>intro b;exact .inl rfl
   |cons y l ih=>
    intro b;simp only [List.foldl_cons];rcases ih (if gl G b y then y else b)with e|e
    ·rw [e]
     split
     ·exact .inr List.mem_cons_self
     ·exact .inl rfl
    ·exact .inr (List.mem_cons_of_mem _ e)
  rcases key l x with e|e
  ·rw [bN,e];exact List.mem_cons_self
  ·exact List.mem_cons_of_mem _ e
theorem eF(D:DG)(l m:List HT)(h:HT):bM D (l++m) h=bM D l h++bM D m h:=List.filter_append ..
theorem dT{D:DG}{l:List HT}{h b:HT}:b∈bM D l h↔b∈l/\lI D b h:=by unfold bM;rw [List.mem_filter,decide_eq_true_eq]
theorem lI.symm{D:DG}{a b:HT}(h:lI D a b):lI D b a:=⟨h.1.symm,h.2.2,h.2.1⟩
theorem mw{x:HT}:∀ {m:List HT} {b:List Bool},x∈dQ m b->x∈m
 |h::l,b::m,hx=>by
  unfold dQ at hx;split at hx
  ·rcases List.mem_cons.1 hx with e|e
   ·rw [e];exact List.mem_cons_self
   ·exact List.mem_cons_of_mem _ (mw e)
  ·exact List.mem_cons_of_mem _ (mw hx)
 | [],_,hx=>by simp [dQ]at hx
 |_::_,[],hx=>by simp [dQ]at hx
theorem oq:∀ {m:List HT} {b:List Bool},m.Nodup->(dQ m b).Nodup
 |h::l,b::m,hn=>by
  rw [List.nodup_cons]at hn;unfold dQ;split
  ·exact List.nodup_cons.2 ⟨fun e=>hn.1 (mw e),oq hn.2⟩
  ·exact oq hn.2
 | [],_,_=>by simp [dQ]
 |_::_,[],_=>by simp [dQ]
theorem vM:∀ {m:List HT} {b:List Bool},b.length=m.length->(dQ m b).length=b.count true
 |h::l,b::m,hn=>by
  have:=vM (m:=l) (b:=m) (by simpa using hn);unfold dQ;cases b<;>simp [this]
 | [],[],_=>rfl
 | [],_::_,h=>by simp at h
 |_::_,[],h=>by simp at h
theorem tA{x:HT}{c:Bool}:∀ {m:List HT} {b:List Bool},b.length=m.length->dQ (m++ [x]) (b++ [c])=dQ m b++if c then [x]else []
 |h::l,b::m,hn=>by
  have:=tA (x:=x) (c:=c) (m:=l) (b:=m) (by simpa using hn);simp only [List.cons_append,dQ,this];cases b<;>simp
 | [],[],_=>by cases c<;>simp [dQ]
 | [],_::_,h=>by simp at h
 |_::_,[],h=>by simp at h
theorem GL(k:Nat)(D:DG)(wd:List HT):∀(m:List HT),∃b:List Bool,b.length=m.length/\m.foldl (jB k D) ⟨wd,[]⟩=⟨wd++dQ m b,b⟩:=by
 intro m
 induction h:m.length generalizing m with
 |zero=>exact⟨[],by simp,by rw [List.length_eq_zero_iff.1 h];simp [dQ]⟩
 |succ n ih=>
  have e9:m≠ []:=fun e=>by rw [e]at h;simp at h
  obtain⟨m',x,rfl⟩:∃m' x,m=m'++ [x]:=⟨m.dropLast,m.getLast e9,(List.dropLast_concat_getLast e9).symm⟩;obtain⟨b,h1,h2⟩:=ih m' (by simpa using h);have h1:b.length=m'.length:=by rw [List.length_append,List.length_cons,List.length_nil]at h;omega
  refine⟨b++ [lG k D (wd++dQ m' b) x],by simp only [List.length_append,List.length_cons,List.length_nil]at h⊢;omega,?_⟩;rw [List.foldl_append,h2,List.foldl_cons,List.foldl_nil,tA h1];unfold jB;cases lG k D (wd++dQ m' b) x<;>simp
theorem uj(k:Nat)(G:GS)(s:HT)(l:List HT):(dE k G s l).bl.length=(cj G s l).length/\(dE k G s l).wd=G.world s++ [s]++dQ (cj G s l) (dE k G s l).bl:=by
 obtain⟨b,h1,h2⟩:=GL k G.D (G.world s++ [s]) (cj G s l);unfold dE;rw [h2];exact⟨h1,rfl⟩
structure eK(k:Nat)(G:GS):Prop where
 W:jn G.D
 iw:qT G.D G.P
 lc:G.rN.length=G.D.length
 lw:G.j0.length=G.D.length
 root:∀nd,G.D[0]? =some nd->G.gw nd.id=⟨dZ,0,[],[]⟩/\G.world nd.id= []
 up:∀s h,jm G.D G.P s h->(G.gw h).iw=s/\G.world h=G.world s++ [s]++dQ (G.gw h).merge (G.gw h).fz/\(G.gw h).fz.length=(G.gw h).merge.length/\(G.gw h).merge.Nodup/\∀y,y∈(G.gw h).merge↔dN G.D y h/\y≠s/\¬dN G.D y s
 wd:∀h∈ids G.D,(G.world h).Nodup/\(∀b∈G.world h,dN G.D b h)/\G.score h=(G.world h).length
theorem GS.sK{G:GS}(W:jn G.D){i:Nat}{nd:DN}(h:G.D[i]? =some nd):G.at_ nd.id=some i:=W.pos_eq h
theorem GS.QJ{G:GS}(W:jn G.D){i:Nat}{nd:DN}{c:nN}(h:G.D[i]? =some nd)(hc:G.rN[i]? =some c):G.gw nd.id=c:=by
 unfold GS.gw;rw [GS.sK W h];simp [hc]
theorem GS.GC{G:GS}(W:jn G.D){i:Nat}{nd:DN}{c:List HT}(h:G.D[i]? =some nd)(hc:G.j0[i]? =some c):G.world nd.id=c:=by
 unfold GS.world;rw [GS.sK W h];simp [hc]
section
variable{k:Nat}{G:GS}{h:HT}{ps:List HT}
theorem ow(hc:dr G.D h ps≠0):cV k G h ps=G:=by unfold cV;rw [if_neg hc]
theorem pL:(cV k G h ps).D=mK G.D h ps:=by
 unfold cV mK;split<;>rfl
theorem Jj:(cV k G h ps).D=nE G.D h (bN G ps) ps:=by
 rw [pL];unfold nE;by_cases hc:dr G.D h ps=0
 ·have e9:=(jM hc).2.1
  have:gJ G.D h (bN G ps) ps=0:=by unfold gJ;rw [if_pos hc,if_pos (gq e9)]
  rw [if_pos this,pM hc]
 ·have:gJ G.D h (bN G ps) ps≠0:=by unfold gJ;rw [if_neg hc];exact hc
  rw [if_neg this];unfold mK;rw [if_neg hc]
theorem Gg:gJ G.D h (bN G ps) ps=dr G.D h ps:=by
 unfold gJ;split
 ·rename_i hc
  rw [if_pos (gq (jM hc).2.1),hc]
 ·rfl
theorem Jk:(cV k G h ps).P=nD G.D G.P h (bN G ps) ps:=by
 unfold nD cV;rw [Gg];by_cases hc:dr G.D h ps=0
 ·rw [if_pos hc,if_pos hc]
 ·rw [if_neg hc,if_neg hc]
theorem jH(hc:dr G.D h ps=0):cV k G h ps=⟨G.D++ [⟨h,di ps⟩],G.P++ [(((pos (bN G ps) (ids G.D) 0).getD 0:Nat):Int)],G.rN++ [cI k G (bN G ps) ps],G.j0++ [(dE k G (bN G ps) ps).wd]⟩:=by
 unfold cV;rw [if_pos hc]
theorem xL(H:eK k G){s:HT}(hs:s∈ids G.D)(l:List HT)(hl:∀p∈l,p∈ids G.D):
 (dE k G s l).wd.Nodup/\(dE k G s l).wd.length=(cI k G s l).score/\∀y∈(dE k G s l).wd,y∈ids G.D/\(y=s\/dN G.D y s\/y∈cj G s l):=by
 obtain⟨h1,h2⟩:=uj k G s l;obtain⟨w1,w2,w3⟩:=H.wd s hs;have hm:∀y∈dQ (cj G s l) (dE k G s l).bl,y∈ids G.D/\y≠s/\¬dN G.D y s:=fun y hy=>by
  obtain⟨e,h3,h4⟩:=iH.1 (mw hy);refine⟨?_,h3,h4⟩;rcases e with e|e
  ·exact e.1
  ·exact hl _ e
 rw [h2];refine⟨?_,?_,?_⟩
 ·refine List.nodup_append.2 ⟨List.nodup_append.2 ⟨w1,by simp,?_⟩,oq (jv G s l).nodup,?_⟩
  ·intro a ha b hb e
   have hb:b=s:=by simpa using hb
   subst hb;subst e;exact dN.irrefl H.W _ (w2 _ ha)
  ·intro a ha b hb e
   subst e;obtain⟨_,h3,h4⟩:=hm _ hb;rcases List.mem_append.1 ha with e|e
   ·exact h4 (w2 _ e)
   ·exact h3 (by simpa using e)
 ·unfold cI
  simp only [List.length_append,List.length_cons,List.length_nil,vM h1,w3]
 ·intro y hy
  rcases List.mem_append.1 hy with hy|hy
  ·rcases List.mem_append.1 hy with hy|hy
   ·exact⟨((w2 _ hy).mem H.W).1,.inr (.inl (w2 _ hy))⟩
   ·have:y=s:=by simpa using hy
    subst this;exact⟨hs,.inl rfl⟩
  ·exact⟨(hm _ hy).1,.inr (.inr (mw hy))⟩
theorem ij(H:eK k G){y:HT}(hy:y∈ids G.D):(cV k G h ps).gw y=G.gw y/\(cV k G h ps).world y=G.world y:=by
 by_cases hc:dr G.D h ps=0
 ·obtain⟨hn,e9,eW,oB⟩:=jM hc
  obtain⟨nd,nz,rfl⟩:=cP.1 hy;obtain⟨i,hi⟩:=List.getElem?_of_mem nz;have dP:=(lgeS hi).1;have FG:(G.D++ [(⟨h,di ps⟩:DN)])[i]? =some nd:=by rw [List.getElem?_append_left dP];exact hi
  have W':jn (cV k G h ps).D:=by rw [pL];exact H.W.add h ps
  rw [jH hc]at W'⊢;have e1:(⟨G.D++ [⟨h,di ps⟩],G.P++ [(((pos (bN G ps) (ids G.D) 0).getD 0:Nat):Int)],G.rN++ [cI k G (bN G ps) ps],G.j0++ [(dE k G (bN G ps) ps).wd]⟩:GS).at_ nd.id=some i:=GS.sK W' FG;have e2:=GS.sK H.W hi;unfold GS.gw GS.world;rw [e1,e2];simp only [Option.bind_some];rw [List.getElem?_append_left (by rw [H.lc];exact dP),List.getElem?_append_left (by rw [H.lw];exact dP)];exact⟨rfl,rfl⟩
 ·rw [ow hc];exact⟨rfl,rfl⟩
theorem lu(H:eK k G)(hc:dr G.D h ps=0):(cV k G h ps).gw h=cI k G (bN G ps) ps/\(cV k G h ps).world h=(dE k G (bN G ps) ps).wd:=by
 have W':jn (cV k G h ps).D:=by rw [pL];exact H.W.add h ps
 rw [jH hc]at W'⊢;have FG:(G.D++ [(⟨h,di ps⟩:DN)])[G.D.length]? =some ⟨h,di ps⟩:=by rw [List.getElem?_append_right (Nat.le_refl _),Nat.sub_self];rfl
 have e1:(⟨G.D++ [⟨h,di ps⟩],G.P++ [(((pos (bN G ps) (ids G.D) 0).getD 0:Nat):Int)],G.rN++ [cI k G (bN G ps) ps],G.j0++ [(dE k G (bN G ps) ps).wd]⟩:GS).at_ h=some G.D.length:=GS.sK W' FG;unfold GS.gw GS.world;rw [e1];simp only [Option.bind_some];rw [List.getElem?_append_right (by rw [H.lc];exact Nat.le_refl _),H.lc,Nat.sub_self,List.getElem?_append_right (by rw [H.lw];exact Nat.le_refl _),H.lw,Nat.sub_self];exact⟨rfl,rfl⟩
end
section
variable{k:Nat}{G:GS}{h:HT}{ps:List HT}
theorem iZ(k:Nat)(r:HT):eK k (cS r):=by
 have e0:(cS r).at_ r=some 0:=GS.sK (G:=cS r) (jn.root r) (nd:=⟨r,[]⟩) rfl;have ec:(cS r).gw r=⟨dZ,0,[],[]⟩:=by unfold GS.gw;rw [e0];rfl
 have ew:(cS r).world r= []:=by unfold GS.world;rw [e0];rfl
 refine⟨jn.root r,qT.one r,rfl,rfl,?_,?_,?_⟩
 ·intro nd eW
  have:nd=⟨r,[]⟩:=by simpa [cS]using eW.symm
  subst this;exact⟨ec,ew⟩
 ·rintro s h ⟨i,j,ni,m,h1,_,h3,_,_⟩
  exfalso;cases i with
  |zero=>simp [cS]at h3
  |succ i=>simp [cS]at h1
 ·intro h hm
  have:h=r:=by simpa [cS,ids]using hm
  subst this;refine⟨by rw [ew];simp,by rw [ew];simp,?_⟩;unfold GS.score;rw [ec,ew];rfl
theorem BG(H:eK k G)(hc:dr G.D h ps=0):∃(j:Nat) (m:DN),G.D[j]? =some m/\m.id=bN G ps/\(pos (bN G ps) (ids G.D) 0).getD 0=j/\bN G ps∈ps/\bN G ps∈ids G.D:=by
 obtain⟨hn,e9,eW,oB⟩:=jM hc;have h1:=gq (G:=G) e9;have h2:=oB _ (dd.2 h1);obtain⟨m,hm,e⟩:=cP.1 h2;obtain⟨j,hj⟩:=List.getElem?_of_mem hm;have h3:=H.W.pos_eq hj;rw [e]at h3;exact⟨j,m,hj,e,by rw [h3];rfl,h1,h2⟩
theorem vQ(H:eK k G)(hc:dr G.D h ps=0):(∀y,dN (G.D++ [⟨h,di ps⟩]) y h↔∃p∈ps,y=p\/dN G.D y p)/\∀a b,b∈ids G.D->(dN (G.D++ [⟨h,di ps⟩]) a b↔dN G.D a b):=by
 obtain⟨hn,e9,eW,oB⟩:=jM hc;have W':jn (G.D++ [⟨h,di ps⟩]):=by have:=H.W.add h ps;rwa [pM hc]at this
 have FG:(G.D++ [(⟨h,di ps⟩:DN)])[G.D.length]? =some ⟨h,di ps⟩:=by rw [List.getElem?_append_right (Nat.le_refl _),Nat.sub_self];rfl
 have Bd:∀a b,b∈ids G.D->(dN (G.D++ [⟨h,di ps⟩]) a b↔dN G.D a b):=fun a b hb=>jh H.W hn hb;refine⟨fun y=>?_,Bd⟩;rw [rR W' FG y];constructor
 ·rintro⟨p,hp,e⟩
  exact⟨p,dd.1 hp,e.imp_right fun e=>(Bd _ _ (oB _ hp)).1 e⟩
 ·rintro⟨p,hp,e⟩
  exact⟨p,dd.2 hp,e.imp_right fun e=>(Bd _ _ (oB _ (dd.2 hp))).2 e⟩
theorem eK.add(H:eK k G)(h:HT)(ps:List HT):eK k (cV k G h ps):=by
 by_cases hc:dr G.D h ps=0
 ·obtain⟨hn,e9,eW,oB⟩:=jM hc
  obtain⟨j,m,hj,hm,jt,yP,uf⟩:=BG H hc;obtain⟨yF,Bd⟩:=vQ H hc;have hk:=fun y (hy:y∈ids G.D)=>ij (h:=h) (ps:=ps) H hy;obtain⟨nc,nw⟩:=lu H hc;obtain⟨v1,v2⟩:=uj k G (bN G ps) ps;obtain⟨u1,u2,u3⟩:=xL H uf ps (fun p hp=>oB _ (dd.2 hp));have W':jn (G.D++ [⟨h,di ps⟩]):=by have:=H.W.add h ps;rwa [pM hc]at this
  have ml:qT (G.D++ [(⟨h,di ps⟩:DN)]) (G.P++ [(j:Int)]):=H.iw.snoc hj (by rw [hm];exact dd.2 yP) H.W.pos;generalize hs:bN G ps=s at*;have eG:=jH (k:=k) hc;rw [hs,jt]at eG;have eD:(cV k G h ps).D=G.D++ [⟨h,di ps⟩]:=by rw [eG]
  have eP:(cV k G h ps).P=G.P++ [(j:Int)]:=by rw [eG]
  refine⟨by rw [eD];exact W',by rw [eD,eP];exact ml,by rw [eG];simp [H.lc],by rw [eG];simp [H.lw],?_,?_,?_⟩
  ·intro nd nz
   rw [eD,List.getElem?_append_left H.W.pos]at nz;obtain⟨e1,e2⟩:=hk nd.id (cP.2 ⟨nd,List.mem_of_getElem? nz,rfl⟩);rw [e1,e2];exact H.root nd nz
  ·intro t y hy
   rw [eD,eP,nR H.W H.iw hn hj]at hy;rcases hy with hy|⟨rfl,rfl⟩
   ·have hp:=hy.par H.iw
    have Xo:y∈ids G.D:=((dN.one hp).mem H.W).2;have TH:t∈ids G.D:=((dN.one hp).mem H.W).1;obtain⟨e1,e2⟩:=hk y Xo;obtain⟨_,e3⟩:=hk t TH;obtain⟨g1,g2,g3,g4,g5⟩:=H.up t y hy;rw [e1,e2,e3,eD];refine⟨g1,g2,g3,g4,fun z=>?_⟩;rw [g5,Bd _ _ Xo,Bd _ _ TH]
   ·show _/\_
    rw [nc,nw,hm,(hk s uf).2,eD];refine⟨rfl,v2,v1,(jv _ _ _).nodup,fun z=>?_⟩;show z∈cj G s ps↔_
    rw [iH,yF,Bd _ _ uf];constructor
    ·rintro⟨e,h3,h4⟩
     refine⟨?_,h3,h4⟩;rcases e with⟨_,p,hp,e⟩|e
     ·exact⟨p,hp,.inr e⟩
     ·exact⟨z,e,.inl rfl⟩
    ·rintro⟨⟨p,hp,e⟩,h3,h4⟩
     refine⟨?_,h3,h4⟩;rcases e with rfl|e
     ·exact .inr hp
     ·exact .inl ⟨(e.mem H.W).1,p,hp,e⟩
  ·intro y hy
   rw [eD,lf]at hy;rcases List.mem_append.1 hy with hy|hy
   ·obtain⟨e1,e2⟩:=hk y hy
    obtain⟨g1,g2,g3⟩:=H.wd y hy;unfold GS.score;rw [e1,e2,eD];exact⟨g1,fun b hb=>(Bd _ _ hy).2 (g2 b hb),g3⟩
   ·have:y=h:=by simpa using hy
    subst this;unfold GS.score;rw [nc,nw,eD];refine⟨u1,fun b hb=>?_,u2.symm⟩;obtain⟨_,e⟩:=u3 b hb;rw [yF];rcases e with rfl|e|e
    ·exact⟨b,yP,.inl rfl⟩
    ·exact⟨s,yP,.inr e⟩
    ·obtain⟨e,_,_⟩:=iH.1 e
     rcases e with⟨_,p,hp,e⟩|e
     ·exact⟨p,hp,.inr e⟩
     ·exact⟨b,e,.inl rfl⟩
 ·rw [ow hc];exact H
end
def mF(sz:HT->HT->Option Nat)(l:List HT)(b:HT):Nat:=(l.findSome? fun h=>sz h b).getD 0
def rG(ov:HT->Option Nat)(base:HT->Nat)(b:HT):Nat:=(ov b).getD (base b)
structure OV(D:DG)(wd:List HT)(ov:HT->Option Nat)(base:HT->Nat):Prop where
 kn:∀b∈wd,rG ov base b=(bM D wd b).length
 RG:∀b n,ov b=some n->b∈wd
noncomputable def zA(D:DG)(wd:List HT)(ov:HT->Option Nat)(base:HT->Nat)(h:HT):HT->Option Nat:=
 fun b=>if b∈bM D wd h then some (rG ov base b+1)else if b=h then some (bM D wd h).length else ov b
theorem OV.step{D:DG}{wd:List HT}{ov:HT->Option Nat}{base:HT->Nat}(H:OV D wd ov base){h:HT}(hn:h∉wd):OV D (wd++ [h]) (zA D wd ov base h) base:=by
 refine⟨fun b hb=>?_,fun b n e=>?_⟩
 ·rw [eF,List.length_append]
  unfold rG zA;by_cases hp:b∈bM D wd h
  ·rw [if_pos hp]
   obtain⟨h1,h2⟩:=dT.1 hp;rw [Option.getD_some,H.kn b h1];have:bM D [h] b= [h]:=by unfold bM;rw [List.filter_cons_of_pos (by simpa using h2.symm)];rfl
   rw [this];rfl
  ·rw [if_neg hp]
   by_cases e:b=h
   ·subst e
    rw [if_pos rfl,Option.getD_some];have:bM D [b] b= []:=by unfold bM;rw [List.filter_cons_of_neg (by simpa using fun e:lI D b b=>e.1 rfl)];rfl
    rw [this];rfl
   ·rw [if_neg e]
    have hw:b∈wd:=by
     rcases List.mem_append.1 hb with hb|hb
     ·exact hb
     ·exact absurd (by simpa using hb) e
    have:bM D [h] b= []:=by unfold bM;rw [List.filter_cons_of_neg (by simpa using fun e':lI D h b=>hp (dT.2 ⟨hw,e'.symm⟩))];rfl
    rw [this];exact H.kn b hw
 ·unfold zA at e
  split at e
  ·rename_i hp
   exact List.mem_append_left _ (dT.1 hp).1
  ·split at e
   ·rename_i hb;subst hb;exact List.mem_append_right _ (by simp)
   ·exact List.mem_append_left _ (H.RG b n e)
structure SZ(G:GS)(sz:HT->HT->Option Nat):Prop where
 kn:∀h l,h∈ids G.D->cr G.D G.P h l->∀b∈G.world h++ [h],mF sz l b=(bM G.D (G.world h++ [h]) b).length
 RG:∀h b n,sz h b=some n->b∈ids G.D
theorem SZ.ov{G:GS}{sz:HT->HT->Option Nat}(Z:SZ G sz){s:HT}(hs:s∈ids G.D){l:List HT}(hl:cr G.D G.P s l):OV G.D (G.world s++ [s]) (fun _=>none) (mF sz l):=
 ⟨fun b hb=>Z.kn s l hs hl b hb,fun b n e=>by cases e⟩
theorem Up.snoc{P:List Int}{p:Int}:∀ {i:Nat} {l:List Nat},Up P i l->Up (P++ [p]) i l:=by
 intro i l h
 induction h with
 |root=>exact .root
 |step h _ ih=>exact .step (by rw [List.getElem?_append_left (lgeS h).1];exact h) ih
theorem xl{D:DG}{nd:DN}{i:Nat}(h:i<D.length):mi (D++ [nd]) i=mi D i:=by unfold mi;rw [List.getElem?_append_left h]
theorem cr.snoc{D:DG}{P:List Int}(H:qT D P){nd:DN}{p:Int}{h:HT}{l:List HT}(hm:h∈ids D)(c:cr D P h l):cr (D++ [nd]) (P++ [p]) h l:=by
 rcases c with⟨hn,_⟩|⟨i,m,ks,h1,h2,h3,h4⟩
 ·exact absurd hm hn
 ·have dP:=(lgeS h1).1
  refine .inr ⟨i,m,ks,by rw [List.getElem?_append_left dP];exact h1,h2,h3.snoc,?_⟩;rw [h4];refine List.map_congr_left fun k hk=>(xl ?_).symm;have:=h3.lt H.par (by rw [H.len];exact dP) k hk
  rwa [H.len]at this
theorem cr.new{D:DG}{P:List Int}(W:jn D)(H:qT D P){nd m:DN}{j:Nat}(hj:D[j]? =some m){l:List HT}(c:cr D P m.id l):cr (D++ [nd]) (P++ [(j:Int)]) nd.id (nd.id::l):=by
 have hm:m.id∈ids D:=cP.2 ⟨m,List.mem_of_getElem? hj,rfl⟩;have c':=cr.snoc (nd:=nd) (p:=(j:Int)) H hm c;rcases c with⟨hn,_⟩|⟨i,m',ks,h1,h2,h3,h4⟩
 ·exact absurd hm hn
 ·have pX:=W.inj h1 hj h2
  subst pX;have e0:(D++ [nd])[D.length]? =some nd:=by rw [List.getElem?_append_right (Nat.le_refl _),Nat.sub_self];rfl
  refine .inr ⟨D.length,nd,D.length::ks,e0,rfl,.step (by rw [<-H.len,List.getElem?_append_right (Nat.le_refl _),Nat.sub_self];rfl) h3.snoc,?_⟩;rw [List.map_cons,mh e0,h4]
  congr 1
  refine List.map_congr_left fun k hk=>(xl ?_).symm;have:=h3.lt H.par (by rw [H.len];exact(lgeS h1).1) k hk
  rwa [H.len]at this
theorem lM{D D':DG}{l:List HT}{b:HT}(h:∀a∈l,lI D' a b↔lI D a b):bM D' l b=bM D l b:=by
 unfold bM;exact List.filter_congr fun a ha=>by simp only [h a ha]
theorem SZ.root(r:HT):SZ (cS r) (fun _ _=>none):=by
 refine⟨fun h l hm _ b hb=>?_,fun h b n e=>by cases e⟩;have hh:h=r:=by simpa [cS,ids]using hm
 subst hh;have ew:(cS h).world h= []:=((iZ 0 h).root ⟨h,[]⟩ rfl).2;rw [ew]at hb⊢;have:b=h:=by simpa using hb
 subst this;have:bM (cS b).D ([]++ [b]) b= []:=by unfold bM;rw [List.nil_append,List.filter_cons_of_neg (by simpa using fun e:lI (cS b).D b b=>e.1 rfl)];rfl
 rw [this];unfold mF;have:(l.findSome? fun _=>(none:Option Nat))=none:=by simp
 rw [this];rfl
theorem SZ.add{k:Nat}{G:GS}{sz:HT->HT->Option Nat}(Z:SZ G sz)(H:eK k G){h:HT}{ps:List HT}(hc:dr G.D h ps=0){l:List HT}(hl:cr G.D G.P (bN G ps) l){ov:HT->Option Nat}
 (O:OV G.D (dE k G (bN G ps) ps).wd ov (mF sz l)):SZ (cV k G h ps) (fun y=>if y=h then ov else sz y):=by
 obtain⟨hn,e9,eW,oB⟩:=jM hc;obtain⟨j,m,hj,hm,jt,yP,uf⟩:=BG H hc;obtain⟨yF,Bd⟩:=vQ H hc;have H':=H.add h ps;obtain⟨nc,nw⟩:=lu H hc;obtain⟨u1,u2,u3⟩:=xL H uf ps (fun p hp=>oB _ (dd.2 hp));have eD:(cV k G h ps).D=G.D++ [⟨h,di ps⟩]:=by rw [jH hc]
 have eP:(cV k G h ps).P=G.P++ [(j:Int)]:=by rw [jH hc,jt]
 have RM:∀a b,a∈ids G.D->b∈ids G.D->(lI (G.D++ [⟨h,di ps⟩]) a b↔lI G.D a b):=fun a b ha hb=>by unfold lI;rw [Bd _ _ hb,Bd _ _ ha]
 have lno:∀(y:HT) (l':List HT),y∈ids G.D->cr G.D G.P y l'->∀b,mF (fun y=>if y=h then ov else sz y) l' b=mF sz l' b:=fun y l' hy c b=>by
  unfold mF;have Pz:h∉l':=fun e=>hn ((c.mem H.W H.iw).1 e).mem.1;have key:∀l':List HT,h∉l'->(l'.findSome? fun y=>(if y=h then ov else sz y) b)=l'.findSome? fun y=>sz y b:=by
   intro l'
   induction l' with
   |nil=>intro _;rfl
   |cons y l' ih=>
    intro hq;simp only [List.mem_cons,not_or]at hq;rw [List.findSome?_cons,List.findSome?_cons,if_neg (fun e=>hq.1 e.symm),ih hq.2]
  rw [key l' Pz]
 refine⟨fun y l' hy c b hb=>?_,fun y b n e=>?_⟩
 ·rw [eD,eP]at c
  rw [eD]at hy⊢;rw [lf]at hy;have W':jn (G.D++ [⟨h,di ps⟩]):=by have:=H'.W;rwa [eD]at this
  have S':qT (G.D++ [⟨h,di ps⟩]) (G.P++ [(j:Int)]):=by have:=H'.iw;rwa [eD,eP]at this
  rcases List.mem_append.1 hy with hy|hy
  ·obtain⟨l0,c0⟩:=cr.ex H.iw y
   have:l'=l0:=c.one W' S' (c0.snoc H.iw hy);subst this;obtain⟨_,e2⟩:=ij (k:=k) (h:=h) (ps:=ps) H hy;rw [e2]at hb⊢;rw [lno y l' hy c0,Z.kn y l' hy c0 b hb];have fC:∀a∈G.world y++ [y],a∈ids G.D:=fun a ha=>by
    rcases List.mem_append.1 ha with ha|ha
    ·exact(((H.wd y hy).2.1 a ha).mem H.W).1
    ·have:a=y:=by simpa using ha
     subst this;exact hy
   rw [lM fun a ha=>RM a b (fC a ha) (fC b hb)]
  ·have:y=h:=by simpa using hy
   subst this;have cn:=cr.new (nd:=⟨y,di ps⟩) H.W H.iw hj (by rw [hm];exact hl);have:l'=y::l:=c.one W' S' cn;subst this;rw [nw]at hb⊢;have e1:mF (fun z=>if z=y then ov else sz z) (y::l) b=rG ov (mF sz l) b:=by
    have:=lno _ l uf hl b;unfold mF at this⊢;unfold rG;rw [List.findSome?_cons];cases FC:ov b with
    |none=>simp only [if_true,FC,Option.getD_none];exact this
    |some n=>simp only [if_true,FC,Option.getD_some]
   rw [e1,eF,List.length_append];have Sw:∀a∈(dE k G (bN G ps) ps).wd,¬lI (G.D++ [⟨y,di ps⟩]) a y:=fun a ha e=>by
    obtain⟨_,e'⟩:=u3 a ha;refine e.2.1 ((yF a).2 ?_);rcases e' with rfl|e'|e'
    ·exact⟨_,yP,.inl rfl⟩
    ·exact⟨_,yP,.inr e'⟩
    ·obtain⟨e',_,_⟩:=iH.1 e'
     rcases e' with⟨_,p,hp,e'⟩|e'
     ·exact⟨p,hp,.inr e'⟩
     ·exact⟨a,e',.inl rfl⟩
   rcases List.mem_append.1 hb with hb|hb
   ·have hbi:=(u3 b hb).1
    have:bM (G.D++ [⟨y,di ps⟩]) [y] b= []:=by unfold bM;rw [List.filter_cons_of_neg (by simpa using fun e:lI _ y b=>Sw b hb e.symm)];rfl
    rw [this,O.kn b hb,lM fun a ha=>RM a b (u3 a ha).1 hbi];rfl
   ·have:b=y:=by simpa using hb
    subst this;have e2:bM (G.D++ [⟨b,di ps⟩]) (dE k G (bN G ps) ps).wd b= []:=by
     unfold bM;rw [List.filter_eq_nil_iff];intro a ha;simpa using Sw a ha
    have e3:bM (G.D++ [⟨b,di ps⟩]) [b] b= []:=by unfold bM;rw [List.filter_cons_of_neg (by simpa using fun e:lI _ b b=>e.1 rfl)];rfl
    rw [e2,e3];have e4:ov b=none:=by
     cases FC:ov b with
     |none=>rfl
     |some n=>exact absurd (u3 b (O.RG b n FC)).1 hn
    have e5:mF sz l b=0:=by
     unfold mF;have:(l.findSome? fun h=>sz h b)=none:=by
      rw [List.findSome?_eq_none_iff];intro y hy;cases Ia:sz y b with
      |none=>rfl
      |some n=>exact absurd (Z.RG y b n Ia) hn
     rw [this];rfl
    unfold rG;rw [e4,e5];rfl
 ·rw [eD,lf]
  refine List.mem_append_left _ ?_;split at e
  ·exact(u3 b (O.RG b n e)).1
  ·exact Z.RG y b n e
noncomputable def yS(G:GS)(h:HT):List HT->List HT
 | []=> []
 |a::r=>(if lI G.D a h then [a]else [])++if dN G.D a h then []else bM G.D (dQ (G.gw a).merge (G.gw a).fz) h++yS G h r
theorem Up.inv{P:List Int}{i:Nat}{l:List Nat}(h:Up P i l):(i=0/\l= [0])\/∃(j:Nat) (r:List Nat),l=i::r/\P[i]? =some (j:Int)/\Up P j r:=by
 cases h with
 |root=>exact .inl ⟨rfl,rfl⟩
 |step h1 h2=>exact .inr ⟨_,_,rfl,h1,h2⟩
theorem cr.inv{D:DG}{P:List Int}(W:jn D)(H:qT D P){h:HT}{l:List HT}(hm:h∈ids D)(c:cr D P h l):
 (l= [h]/\∃nd,D[0]? =some nd/\nd.id=h)\/∃(s:HT) (r:List HT),l=h::r/\jm D P s h/\s∈ids D/\cr D P s r:=by
 rcases c with⟨hn,_⟩|⟨i,m,ks,h1,h2,h3,h4⟩
 ·exact absurd hm hn
 ·rcases h3.inv with⟨rfl,rfl⟩|⟨j,r,rfl,h5,h6⟩
  ·refine .inl ⟨?_,m,h1,h2⟩
   rw [h4,List.map_cons,List.map_nil,mh h1,h2]
  ·have hj:j<D.length:=by
    cases i with
    |zero=>rw [H.root]at h5;simp only [Option.some.injEq]at h5;omega
    |succ i=>
     obtain⟨j',m',e,_,h7,_⟩:=H.up (i+1) _ m (by omega) h5 h1;have:=(lgeS h7).1;omega
   obtain⟨mj,PE⟩:∃mj,D[j]? =some mj:=⟨_,List.getElem?_eq_getElem hj⟩;refine .inr ⟨mj.id,r.map (mi D),?_,⟨i,j,m,mj,h1,h2,h5,PE,rfl⟩,cP.2 ⟨mj,List.mem_of_getElem? PE,rfl⟩,.inr ⟨j,mj,r,PE,rfl,h6,rfl⟩⟩;rw [h4,List.map_cons,mh h1,h2]
theorem QG{k:Nat}{G:GS}(H:eK k G)(h:HT):∀(l:List HT) (s:HT),s∈ids G.D->cr G.D G.P s l->(yS G h l).Nodup/\∀y,y∈yS G h l↔y∈bM G.D (G.world s++ [s]) h:=by
 intro l
 induction l with
 |nil=>
  intro s hs c;rcases c.inv H.W H.iw hs with⟨e,_⟩|⟨_,_,e,_⟩<;>cases e
 |cons a r ih=>
  intro s hs c;have key:∀(wb:List HT),G.world s=wb++dQ (G.gw s).merge (G.gw s).fz->(yS G h r).Nodup->(∀y,y∈yS G h r↔y∈bM G.D wb h)->a=s->(yS G h (a::r)).Nodup/\∀y,y∈yS G h (a::r)↔y∈bM G.D (G.world s++ [s]) h:=by
   rintro wb hw hn hy rfl;obtain⟨w1,w2,_⟩:=H.wd a hs;have aa9:=dN.irrefl H.W a;rw [hw]at w1 w2⊢;rw [List.nodup_append]at w1;obtain⟨w3,w4,w5⟩:=w1;unfold yS;by_cases ha:dN G.D a h
   ·have K8:¬lI G.D a h:=fun e=>e.2.1 ha
    rw [if_pos ha,if_neg K8];refine⟨by simp,fun y=>?_⟩;simp only [List.append_nil,List.not_mem_nil,false_iff];intro e;obtain⟨e1,e2⟩:=dT.1 e;rcases List.mem_append.1 e1 with e1|e1
    ·exact e2.2.1 ((w2 y e1).trans ha)
    ·have:y=a:=by simpa using e1
     subst this;exact K8 e2
   ·rw [if_neg ha]
    have hr:∀y∈yS G h r,y∈wb:=fun y e=>(dT.1 ((hy y).1 e)).1;refine⟨?_,fun y=>?_⟩
    ·refine List.nodup_append.2 ⟨by split<;>simp,List.nodup_append.2 ⟨w4.filter _,hn,?_⟩,?_⟩
     ·intro x hx z hz e
      subst e;exact w5 x (hr x hz) x (dT.1 hx).1 rfl
     ·intro x hx z hz e
      subst e;split at hx
      ·have:x=a:=by simpa using hx
       subst this;refine aa9 (w2 x ?_);rcases List.mem_append.1 hz with hz|hz
       ·exact List.mem_append_right _ (dT.1 hz).1
       ·exact List.mem_append_left _ (hr x hz)
      ·simp at hx
    ·rw [eF,eF]
     simp only [List.mem_append,hy];have e1:y∈(if lI G.D a h then [a]else [])↔y∈bM G.D [a] h:=by
      unfold bM;by_cases hp:lI G.D a h
      ·rw [if_pos hp,List.filter_cons_of_pos (by simpa using hp)];rfl
      ·rw [if_neg hp,List.filter_cons_of_neg (by simpa using hp)];rfl
     rw [e1];constructor
     ·rintro(e|e|e)
      ·exact .inr e
      ·exact .inl (.inr e)
      ·exact .inl (.inl e)
     ·rintro((e|e)|e)
      ·exact .inr (.inr e)
      ·exact .inr (.inl e)
      ·exact .inl e
  rcases c.inv H.W H.iw hs with⟨e,nd,h0,rfl⟩|⟨t,r',e,qf,ht,hc⟩
  ·obtain⟨r1,r2⟩:=H.root nd h0
   cases e;exact key [] (by rw [r2,r1];simp [dQ]) (by simp [yS]) (fun y=>by simp [yS,bM]) rfl
  ·cases e
   obtain⟨_,u2,_⟩:=H.up t a qf;obtain⟨i1,i2⟩:=ih t ht hc;exact key (G.world t++ [t]) u2 i1 i2 rfl
noncomputable def oG(G:GS)(h:HT)(bl l:List HT):List HT:=bM G.D bl h++yS G h l
theorem LO{k:Nat}{G:GS}(H:eK k G){h s:HT}{l bl:List HT}(hs:s∈ids G.D)(hl:cr G.D G.P s l)(hn:(G.world s++ [s]++bl).Nodup):
 (oG G h bl l).Nodup/\(oG G h bl l).length=(bM G.D (G.world s++ [s]++bl) h).length/\∀y,y∈oG G h bl l↔y∈bM G.D (G.world s++ [s]++bl) h:=by
 obtain⟨h1,h2⟩:=QG H h l s hs hl;have h0:=hn;rw [List.nodup_append]at hn;obtain⟨n1,n2,n3⟩:=hn;have hm:∀y,y∈oG G h bl l↔y∈bM G.D (G.world s++ [s]++bl) h:=fun y=>by
  unfold oG;rw [eF,List.mem_append,List.mem_append,h2];exact Or.comm
 have eW:(oG G h bl l).Nodup:=by
  refine List.nodup_append.2 ⟨n2.filter _,h1,?_⟩;intro x hx z hz e;subst e;exact n3 x (dT.1 ((h2 x).1 hz)).1 x (dT.1 hx).1 rfl
 exact⟨eW,((List.perm_ext_iff_of_nodup eW (h0.filter _)).2 hm).length_eq,hm⟩
def ri(k:Nat)(kn:HT->Nat)(done:List HT)(b:HT):Bool:=decide (done.length+1<=k/\kn b<k)
def fc(k:Nat)(kn:HT->Nat):List HT->List HT->Bool
 |_,[]=>true
 |done,b::l=>ri k kn done b&&fc k kn (done++ [b]) l
theorem pK{k:Nat}{kn:HT->Nat}:∀ {l done:List HT},fc k kn done l=true↔(l≠ []->done.length+l.length<=k)/\∀b∈l,kn b<k
 | [],done=>by simp [fc]
 |b::l,done=>by
  unfold fc ri;rw [Bool.and_eq_true,decide_eq_true_eq,pK];simp only [List.length_append,List.length_cons,List.length_nil,List.mem_cons,forall_eq_or_imp,ne_eq,reduceCtorEq,not_false_eq_true,forall_const];constructor
  ·rintro⟨⟨h1,h2⟩,h3,h4⟩
   refine⟨?_,h2,h4⟩;by_cases e:l= []
   ·subst e;simpa using h1
   ·have:=h3 e;omega
  ·rintro⟨h1,h2,h3⟩
   refine⟨⟨by omega,h2⟩,fun _=>by omega,h3⟩
theorem mz{k:Nat}{kn:HT->Nat}:∀ {l m done:List HT},fc k kn done (l++m)=(fc k kn done l&&fc k kn (done++l) m)
 | [],m,done=>by simp [fc]
 |b::l,m,done=>by
  simp only [List.cons_append,fc,mz (l:=l),Bool.and_assoc,List.append_assoc,List.nil_append]
theorem I6{k:Nat}{D:DG}{wd:List HT}{kn:HT->Nat}{h:HT}{c:List HT}(hk:∀b∈wd,kn b=(bM D wd b).length)(hl:c.length=(bM D wd h).length)(hm:∀y,y∈c↔y∈bM D wd h):
 fc k kn [] c=lG k D wd h:=by
 rw [Bool.eq_iff_iff,pK];unfold lG;rw [decide_eq_true_eq];simp only [List.length_nil,Nat.zero_add,<-hl];constructor
 ·rintro⟨h1,h2⟩
  refine⟨?_,fun y hy=>?_⟩
  ·by_cases e:c= []
   ·subst e;simp
   ·exact h1 e
  ·have:=h2 y ((hm y).2 hy)
   rw [hk y (dT.1 hy).1]at this;omega
 ·rintro⟨h1,h2⟩
  refine⟨fun _=>h1,fun y hy=>?_⟩;have hy:=(hm y).1 hy;rw [hk y (dT.1 hy).1];have:=h2 y hy;omega
open Go.RowKit
theorem Ho:wH dD fg (.pointer none):=⟨by kernel_rfl,tW (by kernel_rfl)⟩
theorem rr:wH cu jI (.int .i64 0):=⟨by kernel_rfl,tW (by kernel_rfl)⟩
structure Bo(w:World)(A:Option Addr)(n:Nat)(l:List Bool):Prop where
 len:l.length=n
 at_:∀(i:Nat) (b:Bool),l[i]? =some b->∃a,A=some a/\a.block<w.heap.size/\w.cell? (a.add i)=some (.bool b)
theorem Bo.aG{S:Nat->Prop}{w w':World}{A:Option Addr}{n:Nat}{l:List Bool}(h:Bo w A n l)(hk:Kept S w w')(hn:∀a,A=some a->¬S a.block):Bo w' A n l:=⟨h.len,fun i x hi=>by
 obtain⟨a,h1,h2,h3⟩:=h.at_ i x hi;exact⟨a,h1,Nat.lt_of_lt_of_le h2 hk.size,hk.cell h3 (by rw [eR];exact hn a h1)⟩⟩
theorem Bo.same{w w':World}{A:Option Addr}{n:Nat}{l:List Bool}(h:Bo w A n l)(hk:Kept Nil w w'):Bo w' A n l:=h.aG hk fun _ _ h=>h
def Km(ov:HT->Option Nat)(b:HT):Option Value:=(ov b).map fun n:Nat=>.int .i64 (n:Int)
def Gi(w:World)(F:Nat->Prop)(sm:Option Nat)(sz:HT->Option Nat):Prop:=
 (sm=none/\∀b,sz b=none)\/∃s,sm=some s/\F s/\fG w s (Km sz)
def cG(c:nN)(A:Option Addr)(n cp:Nat)(B:Option Addr)(m cq:Nat):Array Value:=c.iw.1++ #[.int .u64 (c.score:Int),.slice A n cp,.slice B m cq]
structure qu(w:World)(F:Nat->Prop)(q:Nat)(c:nN)(sz:HT->Option Nat)(A:Option Addr)(n cp:Nat)(B:Option Addr)(m cq:Nat)(sm:Option Nat):Prop where
 top:w.heap[q]? =some (.cells (cG c A n cp B m cq++ #[.map sm]) dR (0,0))
 mg:HS w A n c.merge
 bl:Bo w B m c.fz
 fA:∀a,A=some a->F a.block
 fB:∀a,B=some a->F a.block
 sz:Gi w F sm sz
 fq:F q
def Seen(w:World)(F:Nat->Prop)(q:Nat)(c:nN)(sz:HT->Option Nat):Prop:=∃A n cp B m cq sm,qu w F q c sz A n cp B m cq sm
section
variable{w w':World}{F S:Nat->Prop}{q:Nat}{c:nN}{sz:HT->Option Nat}{A B:Option Addr}{n cp m cq:Nat}{sm:Option Nat}
theorem Gi.aG(h:Gi w F sm sz)(hk:Kept S w w')(hF:∀j,F j->¬S j):Gi w' F sm sz:=by
 rcases h with h|⟨s,h1,h2,h3⟩
 ·exact .inl h
 ·exact .inr ⟨s,h1,h2,h3.aG hk (hF _ h2)⟩
theorem qu.aG(h:qu w F q c sz A n cp B m cq sm)(hk:Kept S w w')(hF:∀j,F j->¬S j):qu w' F q c sz A n cp B m cq sm:=
 ⟨hk.heap h.top (hF _ h.fq),h.mg.aG hk (fun a ha=>hF _ (h.fA a ha)),h.bl.aG hk (fun a ha=>hF _ (h.fB a ha)),h.fA,h.fB,h.sz.aG hk hF,h.fq⟩
theorem Seen.aG(h:Seen w F q c sz)(hk:Kept S w w')(hF:∀j,F j->¬S j):Seen w' F q c sz:=by
 obtain⟨A,n,cp,B,m,cq,sm,h⟩:=h;exact⟨A,n,cp,B,m,cq,sm,h.aG hk hF⟩
theorem bf(c:nN)(A:Option Addr)(n cp:Nat)(B:Option Addr)(m cq:Nat):(cG c A n cp B m cq).size=35:=by
 unfold cG;rw [Array.size_append,c.iw.2.1];rfl
theorem fZ(c:nN)(A:Option Addr)(n cp:Nat)(B:Option Addr)(m cq:Nat)(r:Array Value):
 ((cG c A n cp B m cq)++r)[32]? =some (.int .u64 (c.score:Int))/\((cG c A n cp B m cq)++r)[33]? =some (.slice A n cp)/\((cG c A n cp B m cq)++r)[34]? =some (.slice B m cq)/\((cG c A n cp B m cq)++r)[35]? =r[0]? :=by
 have hs:=bf c A n cp B m cq;have h0:c.iw.1.size=32:=c.iw.2.1;refine⟨?_,?_,?_,?_⟩
 ·rw [Array.getElem?_append_left (by omega)];unfold cG;rw [Array.getElem?_append_right (by omega),h0];rfl
 ·rw [Array.getElem?_append_left (by omega)];unfold cG;rw [Array.getElem?_append_right (by omega),h0];rfl
 ·rw [Array.getElem?_append_left (by omega)];unfold cG;rw [Array.getElem?_append_right (by omega),h0];rfl
 ·rw [Array.getElem?_append_right (by omega),hs]
theorem qu.WI(h:qu w F q c sz A n cp B m cq sm):w.cell? (((⟨q,0,none⟩:Addr).add 0).add 32)=some (.int .u64 (c.score:Int)):=by
 rw [add_zero,bg,aA h.top];exact(fZ ..).1
theorem qu.c35(h:qu w F q c sz A n cp B m cq sm):w.cell? ((⟨q,0,none⟩:Addr).add 35)=some (.map sm):=by
 rw [bg,aA h.top];exact(fZ ..).2.2.2
theorem qu.gw(h:qu w F q c sz A n cp B m cq sm):Cells w ((⟨q,0,none⟩:Addr).add 0) (cG c A n cp B m cq):=by
 intro j u hj;rw [add_zero,bg,aA h.top,Array.getElem?_append_left (by rw [bf];have:=(Array.getElem?_eq_some_iff.1 hj).1;rw [bf]at this;omega)];rw [Nat.zero_add];exact hj
end
structure CM where
 x:Nat
 mb:Nat
 SX:Nat->Prop
 FX:Nat->Prop
 q:HT->Nat
 sz:HT->HT->Option Nat
def CM.own(m:CM)(c j:Nat):Prop:=m.SX j\/j=c\/j=m.mb
structure CV(w:World)(F:Nat->Prop)(c:Nat)(k:Nat)(G:GS)(m:CM):Prop where
 top:w.heap[c]? =some (.cells #[.int .i64 (k:Int),.pointer (some ⟨m.x,0,none⟩),.map (some m.mb)] gM (0,0))
 X:C1 w m.SX m.FX m.x G.D G.P
 all:fG w m.mb fun h=>if h∈ids G.D then some (.pointer (some ⟨m.q h,0,none⟩))else none
 seen:∀h∈ids G.D,Seen w F (m.q h) (G.gw h) (m.sz h)
 fy:eK k G
 Z:SZ G m.sz
 fx:∀j,m.FX j->F j
 fo:∀j,F j->¬m.own c j
 so:∀j,m.SX j->j≠c/\j≠m.mb
 ne:c≠m.mb
 low:∀j,m.own c j\/F j->j<w.heap.size
section
variable{w w':World}{F S:Nat->Prop}{c k:Nat}{G:GS}{m:CM}{K:Value->World->Prop}
theorem CV.aG{S0:Nat->Prop}(h:CV w F c k G m)(hk:Kept S0 w w')(hS:∀j,m.own c j->¬S0 j)(hF:∀j,F j->¬S0 j):CV w' F c k G m where
 top:=hk.heap h.top (hS _ (.inr (.inl rfl)))
 X:=h.X.aG hk (fun j e=>hS j (.inl e)) (fun j e=>hF j (h.fx j e))
 all:=h.all.aG hk (hS _ (.inr (.inr rfl)))
 seen:=fun y hy=>(h.seen y hy).aG hk hF
 fy:=h.fy
 Z:=h.Z
 fx:=h.fx
 fo:=h.fo
 so:=h.so
 ne:=h.ne
 low:=fun j e=>Nat.lt_of_lt_of_le (h.low j e) hk.size
theorem CV.same(h:CV w F c k G m)(hk:Kept Nil w w'):CV w' F c k G m:=h.aG hk (fun _ _ h=>h) (fun _ _ h=>h)
theorem CV.c0(h:CV w F c k G m):w.cell? ((⟨c,0,none⟩:Addr).add 0)=some (.int .i64 (k:Int)):=by rw [bg,aA h.top];rfl
theorem CV.c1(h:CV w F c k G m):w.cell? ((⟨c,0,none⟩:Addr).add 1)=some (.pointer (some ⟨m.x,0,none⟩)):=by rw [bg,aA h.top];rfl
theorem CV.c2(h:CV w F c k G m):w.cell? ((⟨c,0,none⟩:Addr).add 2)=some (.map (some m.mb)):=by rw [bg,aA h.top];rfl
theorem CV.look(h:CV w F c k G m)(y:HT):(Instr.lookup dD (.map (some m.mb)) (.agg y.1) false).run prog w=.ok (.pointer (if y∈ids G.D then some ⟨m.q y,0,none⟩else none)) w:=by
 have:=h.all.look Ho y;by_cases hy:y∈ids G.D
 ·rw [if_pos hy]at this;rw [if_pos hy];exact this
 ·rw [if_neg hy]at this;rw [if_neg hy];exact this
theorem CV.oz(h:CV w F c k G m){y:HT}(hy:y∈ids G.D):(Instr.lookup dD (.map (some m.mb)) (.agg y.1) false).run prog w=.ok (.pointer (some ⟨m.q y,0,none⟩)) w:=by
 have:=h.look y;rwa [if_pos hy]at this
theorem mN(h:CV w F c k G m)(hK:K (.bool true) w):bk prog dU.id #[.pointer (some ⟨c,0,none⟩)] w K:=
 dU.of (Split.yes rfl ⟨_,h.c1,hK⟩)
theorem FZ{A:Addr}{x y:Int}{cx:Nat}(h0:w.cell? A=some (.int .i64 x))(h1:w.cell? (A.add 1)=some (.int .i64 y))(hK:K (.int .i64 (if x=0 then y else x)) w):
 bk prog bH.id #[.slice (some A) 2 cx] w K:=by
 refine bH.of ?_;unfold bH.W;refine bH.b9 (I:=fun s w'=>w'=w/\((s=(0,0))\/(s=(0,1)/\x=0)\/(s=(0,2)/\x=0/\y=0))) (μ:=fun s _=>(2-s.2).toNat) (s:=(0,0)) ⟨rfl,.inl rfl⟩ ?_;rintro s w' ⟨rfl,h⟩;rcases h with rfl|⟨rfl,hx⟩|⟨rfl,hx,hy⟩
 ·refine Split.yes rfl ⟨by simp only;omega,x,by rw [show(0:Int).toNat*1=0 from rfl,add_zero];exact h0,?_⟩
  by_cases hx:x=0
  ·refine Split.no (by simp [hx]) ?_
   exact⟨(0,1),rfl,⟨rfl,.inr (.inl ⟨rfl,hx⟩)⟩,by simp only;omega⟩
  ·refine Split.yes (by simpa using hx) ?_
   rw [if_neg hx]at hK;rw [iF];exact hK
 ·refine Split.yes rfl ⟨by simp only;omega,y,h1,?_⟩
  rw [if_pos hx]at hK;by_cases hy:y=0
  ·refine Split.no (by simp [hy]) ?_
   exact⟨(0,2),rfl,⟨rfl,.inr (.inr ⟨rfl,hx,hy⟩)⟩,by simp only;omega⟩
  ·refine Split.yes (by simpa using hy) ?_
   rw [iF];exact hK
 ·refine Split.no rfl ?_
  rw [aO,bH.df];rw [if_pos hx,hy]at hK;exact hK
theorem CJ{x y:Int}(hK:K (.int .i64 (if x<y then-1 else if y<x then 1 else 0)) w):bk prog dA.id #[.int .u64 x,.int .u64 y] w K:=by
 refine dA.of ?_;refine fi.of ⟨_,rfl,?_⟩;refine fi.of ⟨_,rfl,?_⟩;refine Split.no (by simp) (Split.no (by simp) (Split.dec (fun h=>?_) (fun h=>Split.dec (fun h'=>?_) (fun h'=>?_))))
 ·rw [if_pos h]at hK;exact hK
 ·rw [if_neg h,if_pos h']at hK;exact hK
 ·rw [if_neg h,if_neg h']at hK;exact hK
theorem pF(h:CV w F c k G m){a b:HT}(ha:a∈ids G.D)(hb:b∈ids G.D)(hK:∀w',Kept Nil w w'->K (.int .i64 (AO G a b)) w'):
 bk prog bt.id #[.pointer (some ⟨c,0,none⟩),.agg a.1,.agg b.1] w K:=by
 refine bt.of ?_;unfold bt.W;intro w4 w5 w6;have k4:Kept Nil w w4:=(Kept.refl _ _).alloc _;have Ar:w4.heap[w.heap.size]? =some (.cells a.1 ai (0,0)):=aI w _;have k5:Kept Nil w4 w5:=(Kept.refl _ _).alloc _;have oE:w5.heap[w4.heap.size]? =some (.cells b.1 ai (0,0)):=aI w4 _;have k6:Kept Nil w5 w6:=(Kept.refl _ _).drew;clear_value w6;have wu:=(k5.tt k6).heap Ar (fun h=>h);have qh:=k6.heap oE (fun h=>h);have qE:=(k4.tt k5).tt k6;have h6:=h.same qE;obtain⟨A1,n1,c1,B1,m1,d1,s1,sa⟩:=h6.seen a ha;obtain⟨A2,n2,c2,B2,m2,d2,s2,sb⟩:=h6.seen b hb;refine⟨_,h6.c2,a.1,⟨a.2.1,Cells.bE wu⟩,_,h6.oz ha,_,sa.WI,_,h6.c2,b.1,⟨b.2.1,Cells.bE qh⟩,_,h6.oz hb,_,sb.WI,a.1,⟨a.2.1,Cells.bE wu⟩,b.1,⟨b.2.1,Cells.bE qh⟩,?_⟩;refine CJ ⟨_,rfl,⟨b.1,rfl,b.2.1,Cells.bE qh⟩,⟨a.1,rfl,a.2.1,Cells.bE wu⟩,?_⟩;refine pI a b ⟨_,rfl,?_⟩;have k7:Kept Nil w6 ((w6.alloc (.cells a.1 ai)).alloc (.cells b.1 ai)).drew:=(((Kept.refl Nil w6).alloc _).alloc _).drew;generalize ((w6.alloc (.cells a.1 ai)).alloc (.cells b.1 ai)).drew=w7 at k7⊢;intro w8;have k8:Kept Nil w7 w8:=(Kept.refl _ _).alloc _;have Lq:w8.heap[w7.heap.size]? =some (.cells _ _ (0,0)):=aI w7 _;clear_value w8;refine FZ (A:=⟨w7.heap.size,0,none⟩) (by rw [aA Lq];rfl) (by rw [bg,aA Lq];rfl) ⟨_,rfl,?_⟩;have e:(if(if((G.gw a).score:Int)<((G.gw b).score:Int)then(-1:Int)else if((G.gw b).score:Int)<((G.gw a).score:Int)then 1 else 0)=0 then ln a b else if((G.gw a).score:Int)<((G.gw b).score:Int)then(-1:Int)else if((G.gw b).score:Int)<((G.gw a).score:Int)then 1 else 0)=AO G a b:=by
  rw [LM];unfold GS.score;by_cases h1:(G.gw a).score<(G.gw b).score
  ·have qS:((G.gw a).score:Int)<((G.gw b).score:Int):=by omega
   rw [if_pos h1,if_pos qS,if_neg (by decide)]
  ·have qS:¬((G.gw a).score:Int)<((G.gw b).score:Int):=by omega
   by_cases h2:(G.gw b).score<(G.gw a).score
   ·have tO:((G.gw b).score:Int)<((G.gw a).score:Int):=by omega
    rw [if_neg h1,if_neg qS,if_pos h2,if_pos tO,if_neg (by decide)]
   ·have tO:¬((G.gw b).score:Int)<((G.gw a).score:Int):=by omega
    rw [if_neg h1,if_neg qS,if_neg h2,if_neg tO,if_pos rfl]
 rw [e];exact hK _ ((qE.tt k7).tt k8)
end
section
variable{w:World}
theorem fG.Du{mt te:TypeId}{z:Value}(T:wH mt te z){m:Nat}{f:HT->Option Value}(hm:fG w m f)(h:HT):
 (Instr.lookup mt (.map (some m)) (.agg h.1) true).run prog w=.ok (.tuple #[(f h).getD z,.bool (f h).isSome]) w:=by
 obtain⟨es,clock,l,h1,h2,h3,_⟩:=hm.ex;have h4:=lJ h w h2;have h5:=mO h l 0;rw [h3]at h5;simp only [Instr.lookup,Sem.run_bind,run_underlying T.oS,pG h1,Result.andThen_ok,Sem.run_pure,iX,h4];cases hp:lF h l 0 with
 |none=>rw [hp]at h5;simp [<-h5,T.zero]
 |some p=>rw [hp]at h5;simp [<-h5]
theorem BS{mt te:TypeId}{z:Value}(T:wH mt te z)(h:HT):
 (Instr.lookup mt (.map none) (.agg h.1) true).run prog w=.ok (.tuple #[z,.bool false]) w:=by
 have h3:=lJ (es:= []) (l:= []) h w trivial;simp only [Instr.lookup,Sem.run_bind,run_underlying T.oS,Result.andThen_ok,Sem.run_pure,iX];simp [h3,lF,T.zero]
theorem Gi.Du{F:Nat->Prop}{sm:Option Nat}{sz:HT->Option Nat}(h:Gi w F sm sz)(b:HT):
 (Instr.lookup cu (.map sm) (.agg b.1) true).run prog w=.ok (.tuple #[.int .i64 (((sz b).getD 0:Nat):Int),.bool (sz b).isSome]) w:=by
 rcases h with⟨rfl,h⟩|⟨s,rfl,_,h⟩
 ·rw [h b];exact BS rr b
 ·have:=h.Du rr b
  unfold Km at this;cases hb:sz b with
  |none=>rw [hb]at this;exact this
  |some n=>rw [hb]at this;exact this
end
section
variable{w w':World}{F S:Nat->Prop}{c k:Nat}{G:GS}{m:CM}{K:Value->World->Prop}
theorem AB(h:CV w F c k G m)(hD:G.D.length<=5000)(a b:HT)(hK:∀w' (r:Bool),(r=true↔lI G.D a b)->Kept Nil w w'->K (.bool r) w'):
 bk prog dg.id #[.pointer (some ⟨c,0,none⟩),.agg a.1,.agg b.1] w K:=by
 refine dg.of ?_;unfold dg.W;intro w4 w5 w6;have k4:Kept Nil w w4:=(Kept.refl _ _).alloc _;have Ar:w4.heap[w.heap.size]? =some (.cells a.1 ai (0,0)):=aI w _;have k5:Kept Nil w4 w5:=(Kept.refl _ _).alloc _;have oE:w5.heap[w4.heap.size]? =some (.cells b.1 ai (0,0)):=aI w4 _;have k6:Kept Nil w5 w6:=(Kept.refl _ _).drew;clear_value w6;have wu:=(k5.tt k6).heap Ar (fun h=>h);have qh:=k6.heap oE (fun h=>h);have qE:=(k4.tt k5).tt k6;have h6:=h.same qE;refine⟨a.1,⟨a.2.1,Cells.bE wu⟩,b.1,⟨b.2.1,Cells.bE qh⟩,⟨a.2.ints,b.2.ints⟩,?_⟩;rw [dH];by_cases kM:a=b
 ·refine Split.no (by rw [decide_eq_true kM];rfl) (hK w6 false ⟨(fun e=>by cases e),fun e=>absurd kM e.1⟩ qE)
 ·refine Split.yes (by rw [decide_eq_false kM];rfl) ⟨_,h6.c1,a.1,⟨a.2.1,Cells.bE wu⟩,b.1,⟨b.2.1,Cells.bE qh⟩,?_⟩
  obtain⟨mx,X6,_⟩:=h6.X;refine lL X6 hD a b fun w7 r hr k7=>⟨_,rfl,?_⟩;have yM:=qE.tt k7;cases r with
  |true=>exact Split.no rfl (hK w7 false ⟨(fun e=>by cases e),fun e=>absurd (hr.1 rfl) e.2.1⟩ yM)
  |false=>
   have h7:=h.same yM;refine Split.yes rfl ⟨_,h7.c1,b.1,⟨b.2.1,Cells.bE (k7.heap qh (fun h=>h))⟩,a.1,⟨a.2.1,Cells.bE (k7.heap wu (fun h=>h))⟩,?_⟩;obtain⟨mx',X7,_⟩:=h7.X;refine lL X7 hD b a fun w8 r' Rq k8=>⟨_,rfl,hK w8 _ ?_ (yM.tt k8)⟩;cases r' with
   |true=>exact⟨(fun e=>by cases e),fun e=>absurd (Rq.1 rfl) e.2.2⟩
   |false=>exact⟨fun _=>⟨kM,(fun e=>by have:=hr.2 e;cases this),(fun e=>by have:=Rq.2 e;cases this)⟩,fun _=>rfl⟩
def nx(D:DG)(l:List HT):Int:=if l= []then 9 else if ∃p∈l,p∉ids D then 6 else 0
theorem FO(h:CV w F c k G m){A:Option Addr}{n cx:Nat}{l:List HT}(hl:HS w A n l)(hn:n<=400000)(hK:∀w',Kept Nil w w'->K (.int .i64 (nx G.D l)) w'):
 bk prog ek.id #[.pointer (some ⟨c,0,none⟩),.slice A n cx] w K:=by
 have hlen:=hl.len;refine ek.of ?_;unfold ek.W;intro w4;have k4:Kept Nil w w4:=(Kept.refl _ _).alloc _;have Qe:w4.heap[w.heap.size]? =some (.cells #[.pointer (some ⟨c,0,none⟩)] eB (0,0)):=aI w _;clear_value w4;refine⟨some ⟨c,0,none⟩,by rw [aA Qe];rfl,mN (h.same k4) ⟨_,rfl,Split.no rfl ?_⟩⟩;by_cases h0:n=0
 ·subst h0
  have e:l= []:=List.eq_nil_of_length_eq_zero hlen;refine Split.yes rfl ?_;have:=hK w4 k4;unfold nx at this;rw [if_pos e]at this;exact this
 ·have e9:l≠ []:=fun e=>by subst e;exact h0 hlen.symm
  refine Split.no (by simpa using (by omega:¬(n:Int)=0)) ?_;refine bW.of (an.of ?_);refine an.b9 (I:=fun s w'=>∃i:Nat,s=(0,(i:Int))/\i<=n/\(∀p∈l.take i,p∈ids G.D)/\Kept Nil w4 w') (μ:=fun s _=>((n:Int)-s.2).toNat) (s:=(0,0)) ⟨0,rfl,Nat.zero_le _,by simp,Kept.refl _ _⟩ ?_;rintro s w' ⟨i,rfl,hi,cU,kw⟩;have k0w:=k4.tt kw;refine Split.dec (fun jx=>?_) (fun gu=>?_)
  ·simp only at jx
   have dP:i<n:=by omega
   obtain⟨y,hy⟩:∃y,l[i]? =some y:=⟨_,List.getElem?_eq_getElem (by omega)⟩;refine(hl.same k0w).load (i:=(i:Int)) (by omega) hy ?_;refine eE.of ?_;unfold eE.W;intro w7 w8;have k7:Kept Nil w' w7:=(Kept.refl _ _).alloc _;have VN:w7.heap[w'.heap.size]? =some (.cells y.1 ai (0,0)):=aI w' _;have k8:Kept Nil w7 w8:=(Kept.refl _ _).drew;clear_value w8;have Lq:=k8.heap VN (fun h=>h);have Q8:=(kw.tt k7).tt k8;have h8:=h.same (k4.tt Q8);refine⟨some ⟨c,0,none⟩,by rw [aA (Q8.heap Qe (fun h=>h))];rfl,_,h8.c2,y.1,⟨y.2.1,Cells.bE Lq⟩,_,h8.look y,_,rfl,?_⟩;by_cases hm:y∈ids G.D
   ·refine Split.no (by rw [if_pos hm];rfl) ?_
    simp only;rw [dt (n:=(i:Int)) (by omega) (by omega)];refine⟨(0,(i:Int)+1),rfl,⟨i+1,rfl,dP,fun p hp=>?_,Q8⟩,by simp only;omega⟩;rcases(bJ hy).1 hp with hp|rfl
    ·exact cU p hp
    ·exact hm
   ·refine Split.yes (by rw [if_neg hm];rfl) ?_
    refine⟨(i:Int),rfl,_,rfl,?_⟩;have:=hK w8 (k4.tt Q8);unfold nx at this;rw [if_neg e9,if_pos ⟨y,List.mem_of_getElem? hy,hm⟩]at this;refine Split.yes (decide_eq_true (by omega)) this
  ·simp only at gu
   rw [aO,an.df];rw [List.take_of_length_le (by omega)]at cU;refine⟨_,rfl,_,rfl,?_⟩;have:=hK w' k0w;unfold nx at this;rw [if_neg e9,if_neg (fun⟨p,hp,hn⟩=>hn (cU p hp))]at this;exact Split.no (by decide) this
end
theorem tu{α β:Type}{f:α->Option β}{y:α}{n:β}:∀ {l:List α} {j:Nat},l[j]? =some y->(∀x∈l.take j,f x=none)->f y=some n->l.findSome? f=some n
 | [],j,h,_,_=>by simp at h
 |x::l,0,h,_,hy=>by
  simp only [List.getElem?_cons_zero,Option.some.injEq]at h;subst h;rw [List.findSome?_cons,hy]
 |x::l,j+1,h,ha,hy=>by
  have hx:=ha x (by simp);rw [List.findSome?_cons,hx];exact tu (l:=l) (j:=j) (by simpa using h) (fun z hz=>ha z (by simp [hz])) hy
section
variable{w w':World}{F S:Nat->Prop}{c k:Nat}{G:GS}{m:CM}{K:Value->World->Prop}
theorem CB(h:CV w F c k G m)(hD:G.D.length<=5000){a b:HT}(ha:a∈ids G.D){l:List HT}(hc:cr G.D G.P a l)(hK:∀w',Kept Nil w w'->K (.int .i64 ((mF m.sz l b:Nat):Int)) w'):
 bk prog aY.id #[.pointer (some ⟨c,0,none⟩),.agg a.1,.agg b.1] w K:=by
 have W:=h.fy.W;have H:=h.fy.iw;have Rw:∀y∈l,y∈ids G.D:=fun y hy=>((hc.mem W H).1 hy).mem.1;refine aY.of ?_;unfold aY.W;intro w4 w5 w6 w7 w8;have k4:Kept Nil w w4:=(Kept.refl _ _).alloc _;have Qe:w4.heap[w.heap.size]? =some (.cells #[.pointer (some ⟨c,0,none⟩)] eB (0,0)):=aI w _;have k5:Kept Nil w4 w5:=(Kept.refl _ _).alloc _;have Lv:w5.heap[w4.heap.size]? =some (.cells a.1 ai (0,0)):=aI w4 _;have k6:Kept Nil w5 w6:=(Kept.refl _ _).alloc _;have qh:w6.heap[w5.heap.size]? =some (.cells b.1 ai (0,0)):=aI w5 _;have k7:Kept Nil w6 w7:=(Kept.refl _ _).alloc _;have ML:w7.heap[w6.heap.size]? =some (.cells #[.int .i64 0] jI (0,0)):=aI w6 _;have k8:Kept Nil w7 w8:=(Kept.refl _ _).drew;clear_value w8;have Xy:=k8.heap ML (fun h=>h);have Lq:=k8.heap (k7.heap qh (fun h=>h)) (fun h=>h);have ha8:=k8.heap (k7.heap (k6.heap Lv (fun h=>h)) (fun h=>h)) (fun h=>h);have hc8:=k8.heap (k7.heap (k6.heap (k5.heap Qe (fun h=>h)) (fun h=>h)) (fun h=>h)) (fun h=>h);have ud:=(((k4.tt k5).tt k6).tt k7).tt k8;have s06:=(((k4.tt k5).tt k6)).size;have l7:=aT ML;have l8:=aT Xy;clear_value w7 w6 w5 w4;refine⟨some ⟨c,0,none⟩,by rw [aA hc8];rfl,_,(h.same ud).c1,a.1,⟨a.2.1,Cells.bE ha8⟩,?_⟩;refine o9 a fun jO pb qb nM K3 K1 Ah hqb=>⟨_,rfl,?_⟩;have YP:=nM.size;have HQ:=ud.tt nM;have Pv:=nM.heap Xy (fun h=>h)
 let yv:Value:=.func (.func aV.id) #[] #[.pointer (some ⟨pb,0,none⟩),.pointer (some ⟨qb,0,none⟩)]
 let ρ0:Env:= [(3,.pointer (some ⟨w.heap.size,0,none⟩)),(5,.pointer (some ⟨w5.heap.size,0,none⟩)),(6,.pointer (some ⟨w6.heap.size,0,none⟩)),(15,yv)]
 let J:Nat->World->Prop:=fun j u=>Kept Nil jO u/\j<=l.length/\∀y∈l.take j,m.sz y b=none
 let Jd:Code->World->Prop:=fun e u=>e=.ret/\Kept (fun k=>k=w6.heap.size) jO u/\∃n:Nat,(l.findSome? fun y=>m.sz y b)=some n/\u.heap[w6.heap.size]? =some (.cells #[.int .i64 (n:Int)] jI (0,0))
 have k0J:∀ {u:World},Kept Nil jO u->Kept Nil w u:=fun k=>HQ.tt k;have kS:∀ {v:World},Kept (fun k=>k=w6.heap.size) jO v->Kept Nil w v:=fun k=>HQ.trans k (fun k hk e=>by omega);obtain⟨mx,X35,_⟩:=(h.same HQ).X
 change Holds none [] prog _ _ _ ρ0 jO
 refine nX (n:=33) (ρ:=ρ0) (ρ0:=ρ0) ng mix aY.k (t:=15) (ps:= #[16]) (by kernel_rfl) (by decide) rfl aV.at_ rfl (.inl rfl) (fun i x hi hx=>hx) rfl rL l (fun _=>rfl) (fun q hq=>by
  have WC:q=16:=by simpa using hq
  subst WC;exact⟨by decide,by decide⟩) (xN (F:=m.FX) (x:=m.x) (m:=mx) (pb:=pb) (qb:=qb) hc (by omega)) J Jd ?_ ?_ (fun j u hJ=>⟨X35.same hJ.1,hJ.1.heap K3 (fun h=>h),hJ.1.heap K1 (fun h=>h)⟩) ?_ ?_ ?_ ?_ ?_
 ·rintro j u1 u2 R oC ⟨h1,h2,h3⟩ oD
  exact⟨h1.trans oD (fun k hk e=>by omega),h2,h3⟩
 ·rintro e u1 u2 R oC ⟨h1,h2,n,h3,h4⟩ oD
  exact⟨h1,h2.trans oD (fun k hk e=>by omega),n,h3,oD.heap h4 (by omega)⟩
 ·intro R
  exact⟨(((Kept.refl _ _).alloc _).alloc _),Nat.zero_le _,by simp⟩
 ·rintro j z u1 R hz ⟨h1,h2,h3⟩ oC
  have e7:ko ρ0 ((#[16]:Array Nat).toList.zip (rL z))= [(3,.pointer (some ⟨w.heap.size,0,none⟩)),(5,.pointer (some ⟨w5.heap.size,0,none⟩)),(6,.pointer (some ⟨w6.heap.size,0,none⟩)),(15,yv),(16,.agg z.1)]:=rfl;rw [e7,aY.a1];have tn:=(lgeS hz).1;unfold aY.A1;intro Jt;obtain⟨sD,jz,jS⟩:=gR (w:=u1) (z:=dZ.1) (cs:=z.1) (t:=ai) (by rw [z.2.1];rfl);refine⟨⟨z.2.1,z.2.one,fun j hj=>sD j (by rw [z.2.1];exact hj)⟩,?_⟩;intro LZ
  replace jz:LZ.heap[u1.heap.size]? =some (.cells z.1 ai (0,0)):=jz
  replace jS:Kept Nil u1 LZ:=jS
  clear_value LZ;have Iy:=oC.aG jS (fun h=>h) (fun h=>h);refine⟨Iy,fun w2 R2 mJ qH=>?_⟩;have lh:=mJ.heap jz (kr jz Iy.loop);have v8:Kept Nil jO w2:=(h1.tt jS).trans mJ (fun k hk e=>by omega);rw [aY.y1];unfold aY.Y1;intro RZ;have Zu:Kept Nil w2 RZ:=(Kept.refl _ _).drew;clear_value RZ;have UN:=qH.aG Zu (fun h=>h) (fun h=>h);have zW:=v8.tt Zu;have OE:=nM.tt zW;have h48:=h.same (ud.tt OE);obtain⟨A1,n1,c1,B1,m1,d1,s1,sa⟩:=h48.seen z (Rw z (List.mem_of_getElem? hz));refine⟨some ⟨c,0,none⟩,by rw [aA (OE.heap hc8 (fun h=>h))];rfl,_,h48.c2,z.1,⟨z.2.1,Cells.bE (Zu.heap lh (fun h=>h))⟩,_,h48.oz (Rw z (List.mem_of_getElem? hz)),_,sa.c35,b.1,⟨b.2.1,Cells.bE (OE.heap Lq (fun h=>h))⟩,_,_,sa.sz.Du b,?_⟩;cases hzb:m.sz z b with
  |some n=>
   refine Split.yes rfl ⟨dO (zW.heap Pv (fun h=>h)) (by simp),?_⟩;intro qv;have Pt:qv.heap[w6.heap.size]? =some (.cells #[.int .i64 (n:Int)] jI (0,0)):=by
    show(RZ.setCell ⟨w6.heap.size,0,none⟩ (.int .i64 (n:Int))).heap[w6.heap.size]? =_;rw [dc (zW.heap Pv (fun h=>h)) 0];rfl
   have Fp:Kept (· =w6.heap.size) RZ qv:=Kept.setCell (S:=fun k=>k=w6.heap.size) (Kept.refl _ RZ) (p:=⟨w6.heap.size,0,none⟩) (fun _=>rfl) _;clear_value qv;exact⟨UN.aG Fp (fun e=>by omega) (fun e=>by omega),rfl,(zW.mono fun _ _ h=>h.elim).tt Fp,n,tu hz h3 hzb,Pt⟩
  |none=>
   refine Split.no rfl ⟨UN,zW,tn,fun y hy=>?_⟩;rcases(bJ hz).1 hy with hy|rfl
   ·exact h3 y hy
   ·exact hzb
 ·rintro u1 R ⟨h1,h2,h3⟩ oC
  rw [List.take_of_length_le (Nat.le_refl _)]at h3;have e7:fR ρ0 jO.heap.size= [(3,.pointer (some ⟨w.heap.size,0,none⟩)),(5,.pointer (some ⟨w5.heap.size,0,none⟩)),(6,.pointer (some ⟨w6.heap.size,0,none⟩)),(15,yv),(4294967296,.agg (pC [jO.heap.size]))]:=rfl;rw [e7,aY.jo];unfold aY.gL;have mE:=h1.heap Pv (fun h=>h);refine⟨dO mE (by simp),?_⟩;intro qv;have Pt:qv.heap[w6.heap.size]? =some (.cells #[.int .i64 0] jI (0,0)):=by
   show(u1.setCell ⟨w6.heap.size,0,none⟩ (.int .i64 0)).heap[w6.heap.size]? =_;rw [dc mE 0];rfl
  have Fp:Kept (· =w6.heap.size) u1 qv:=Kept.setCell (S:=fun k=>k=w6.heap.size) (Kept.refl _ u1) (p:=⟨w6.heap.size,0,none⟩) (fun _=>rfl) _;clear_value qv;have oC:=oC.aG Fp (fun e=>by omega) (fun e=>by omega);rw [lT];have kt:=jq [jO.heap.size] qv;have hm:∀E∈ [jO.heap.size],qv.heap[E]? =some (.deferred (some [])):=fun E hE=>by
   rw [List.mem_singleton]at hE;subst hE;exact oC.mark
  refine⟨kQ [jO.heap.size] qv (by simp) hm,0,by rw [aA (kt.heap Pt (fun hE=>by rw [List.mem_singleton]at hE;omega))];rfl,?_⟩;have e0:mF m.sz l b=0:=by
   unfold mF;have:(l.findSome? fun h=>m.sz h b)=none:=List.findSome?_eq_none_iff.2 h3;rw [this];rfl
  have:=hK (fN [jO.heap.size] qv) ((kS ((h1.mono fun _ _ h=>h.elim).tt Fp)).trans kt (fun k hk hE=>by rw [List.mem_singleton]at hE;have:=HQ.size;omega));rw [e0]at this;exact this
 ·rintro u1 R ⟨_,h2,n,h3,h4⟩ oC
  have e7:fR ρ0 jO.heap.size= [(3,.pointer (some ⟨w.heap.size,0,none⟩)),(5,.pointer (some ⟨w5.heap.size,0,none⟩)),(6,.pointer (some ⟨w6.heap.size,0,none⟩)),(15,yv),(4294967296,.agg (pC [jO.heap.size]))]:=rfl;rw [e7,aY.Bp];unfold aY.vR;rw [lT];have kt:=jq [jO.heap.size] u1;have hm:∀E∈ [jO.heap.size],u1.heap[E]? =some (.deferred (some [])):=fun E hE=>by
   rw [List.mem_singleton]at hE;subst hE;exact oC.mark
  refine⟨kQ [jO.heap.size] u1 (by simp) hm,(n:Int),by rw [aA (kt.heap h4 (fun hE=>by rw [List.mem_singleton]at hE;omega))];rfl,?_⟩;have e0:mF m.sz l b=n:=by unfold mF;rw [h3];rfl
  have:=hK (fN [jO.heap.size] u1) ((kS h2).trans kt (fun k hk hE=>by rw [List.mem_singleton]at hE;have:=HQ.size;omega));rw [e0]at this;exact this
 ·rintro id u1 R ⟨e,_⟩ oC
  cases e
end
section
variable{w:World}
theorem AR{x:HT}:∀ {l:List (HT×Value)},assoc x l≠none↔x∈l.map (·.1)
 | []=>by simp [assoc]
 |(y,v)::l=>by
  have:=AR (x:=x) (l:=l);unfold assoc;by_cases e:x=y
  ·subst e;simp
  ·rw [if_neg e,this]
   simp only [List.map_cons,List.mem_cons];exact⟨.inr,fun h=>h.resolve_left e⟩
theorem fG.len{mt te:TypeId}{z:Value}(T:wH mt te z){m:Nat}{f:HT->Option Value}(hm:fG w m f)(ty:TypeId){l:List HT}(hn:l.Nodup)(hl:∀x,f x≠none↔x∈l):
 (Builtin.len_ #[mt] ty #[.map (some m)]).run prog w=.ok (.int .i64 (l.length:Int)) w:=by
 obtain⟨es,clock,l',h1,h2,h3,_,_,h6⟩:=hm.ex;have e1:es.size=l'.length:=by have:=h2.len;simpa using this
 have e2:l'.length=l.length:=by
  have hp:(l'.map (·.1)).Perm l:=(List.perm_ext_iff_of_nodup h6 hn).2 fun x=>by rw [<-AR,h3,hl]
  simpa using hp.length_eq
 simp [Builtin.len_,run_underlying T.oS,pG h1,goInt,Result.andThen,e1,e2]
end
section
variable{w w':World}{F S:Nat->Prop}{c k:Nat}{G:GS}{m:CM}{K:Value->World->Prop}
structure VB(w:World)(c:Nat)(s:HT)(bs bc bh q sm:Nat)(ov:HT->Option Nat):Prop where
 hs:w.heap[bs]? =some (.cells #[.pointer (some ⟨q,0,none⟩)] fg (0,0))
 hc:w.heap[bc]? =some (.cells #[.pointer (some ⟨c,0,none⟩)] eB (0,0))
 hh:w.heap[bh]? =some (.cells s.1 ai (0,0))
 sz:w.cell? ((⟨q,0,none⟩:Addr).add 35)=some (.map (some sm))
 ov:fG w sm (Km ov)
theorem VB.aG{S:Nat->Prop}{s:HT}{bs bc bh q sm:Nat}{ov:HT->Option Nat}(h:VB w c s bs bc bh q sm ov)(hk:Kept S w w')(h1:¬S bs)(h2:¬S bc)(h3:¬S bh)(h4:¬S q)(h5:¬S sm):VB w' c s bs bc bh q sm ov:=
 ⟨hk.heap h.hs h1,hk.heap h.hc h2,hk.heap h.hh h3,hk.cell h.sz h4,h.ov.aG hk h5⟩
theorem VB.same{s:HT}{bs bc bh q sm:Nat}{ov:HT->Option Nat}(h:VB w c s bs bc bh q sm ov)(hk:Kept Nil w w'):VB w' c s bs bc bh q sm ov:=h.aG hk (fun h=>h) (fun h=>h) (fun h=>h) (fun h=>h) (fun h=>h)
theorem Az(h:CV w F c k G m)(hD:G.D.length<=5000){s b:HT}(hs:s∈ids G.D){l:List HT}(hc:cr G.D G.P s l){bs bc bh q sm:Nat}{ov:HT->Option Nat}(V:VB w c s bs bc bh q sm ov)
 (hK:∀w',Kept Nil w w'->K (.int .i64 ((rG ov (mF m.sz l) b:Nat):Int)) w'):
 bk prog bU.id #[.agg b.1,.pointer (some ⟨bs,0,none⟩),.pointer (some ⟨bc,0,none⟩),.pointer (some ⟨bh,0,none⟩)] w K:=by
 refine bU.of ?_;unfold bU.W;intro w4 w5;have k4:Kept Nil w w4:=(Kept.refl _ _).alloc _;have qJ:w4.heap[w.heap.size]? =some (.cells b.1 ai (0,0)):=aI w _;have k5:Kept Nil w4 w5:=(Kept.refl _ _).drew;clear_value w5;have oE:=k5.heap qJ (fun h=>h);have tk:=k4.tt k5;have V5:=V.same tk;refine⟨some ⟨q,0,none⟩,by rw [aA V5.hs];rfl,_,V5.sz,b.1,⟨b.2.1,Cells.bE oE⟩,?_⟩;have lk:=V5.ov.Du rr b;unfold Km at lk;cases hb:ov b with
 |some n=>
  rw [hb]at lk;refine⟨(n:Int),true,lk,Split.yes rfl ?_⟩;have:=hK w5 tk;unfold rG at this;rw [hb]at this;exact this
 |none=>
  rw [hb]at lk;refine⟨0,false,lk,Split.no rfl ⟨some ⟨c,0,none⟩,by rw [aA V5.hc];rfl,s.1,⟨s.2.1,Cells.bE V5.hh⟩,b.1,⟨b.2.1,Cells.bE oE⟩,?_⟩⟩;refine CB (h.same tk) hD hs hc fun w7 k7=>⟨_,rfl,?_⟩;have:=hK w7 (tk.tt k7);unfold rG at this;rw [hb]at this;exact this
def yJ(w:World)(fm:Nat)(kn:HT->Nat)(done:List HT):Prop:=fG w fm fun y=>if y∈done then some (.int .i64 (kn y:Int))else none
theorem Ax(h:CV w F c k G m)(hD:G.D.length<=5000)(qQ:k<=1000){s b:HT}(hs:s∈ids G.D){l:List HT}(hc:cr G.D G.P s l){bs bc bh q sm kb fb fm:Nat}{ov:HT->Option Nat}(V:VB w c s bs bc bh q sm ov)
 (MY:w.heap[kb]? =some (.cells #[.func (.func bU.id) #[] #[.pointer (some ⟨bs,0,none⟩),.pointer (some ⟨bc,0,none⟩),.pointer (some ⟨bh,0,none⟩)]] fj (0,0)))
 (Ry:w.heap[fb]? =some (.cells #[.map (some fm)] cu (0,0))) {done:List HT} (hn:done.Nodup) (XS:b∉done) (hF:yJ w fm (rG ov (mF m.sz l)) done) (hfo:¬m.own c fm) (hff:¬F fm) (e9:bc≠fm)
 (hK:∀w' (r:Bool),r=ri k (rG ov (mF m.sz l)) done b->yJ w' fm (rG ov (mF m.sz l)) (done++ [b])->Kept (· =fm) w w'->K (.bool r) w'):
 bk prog ct.id #[.agg b.1,.pointer (some ⟨kb,0,none⟩),.pointer (some ⟨fb,0,none⟩),.pointer (some ⟨bc,0,none⟩)] w K:=by
 have lfm:=hF.lt;refine ct.of ?_;unfold ct.W;intro w4 w5;have k4:Kept Nil w w4:=(Kept.refl _ _).alloc _;have qJ:w4.heap[w.heap.size]? =some (.cells b.1 ai (0,0)):=aI w _;have k5:Kept Nil w4 w5:=(Kept.refl _ _).drew;clear_value w5;have oE:=k5.heap qJ (fun h=>h);have tk:=k4.tt k5;have hnf:fb≠fm:=fun e=>by subst e;obtain⟨es,cl,_,h1,_⟩:=hF.ex;rw [Ry]at h1;cases h1
 refine⟨some fm,by rw [aA (tk.heap Ry (fun h=>h))];rfl,b.1,⟨b.2.1,Cells.bE oE⟩,_,by rw [aA (tk.heap MY (fun h=>h))];rfl,b.1,⟨b.2.1,Cells.bE oE⟩,?_⟩;refine⟨_,_,_,_,rfl,bU.at_,rfl,?_⟩;refine Az (h.same tk) hD hs hc (V.same tk) fun w7 k7=>⟨_,rfl,⟨b.1,rfl,b.2.1,Cells.bE (k7.heap oE (fun h=>h))⟩,?_,?_⟩
 ·rw [aA ((tk.tt k7).heap Ry (fun h=>h))];rfl
 have yM:=tk.tt k7;obtain⟨w8,Xy,hm8,k8⟩:=(hF.same yM).put rr b (.int .i64 ((rG ov (mF m.sz l) b:Nat):Int));refine⟨w8,Xy,?_⟩;intro w9;have k9:Kept Nil w8 w9:=(Kept.refl _ _).drew;clear_value w9;have k89:Kept (· =fm) w7 w9:=k8.trans k9 (fun _ _ h=>h.elim);have Fv:Kept (· =fm) w w9:=(yM.mono fun _ _ h=>h.elim).tt k89;have RE:yJ w9 fm (rG ov (mF m.sz l)) (done++ [b]):=by
  refine fG.same ?_ k9;have e:(fun y=>if y∈done++ [b]then some (Value.int .i64 ((rG ov (mF m.sz l) y:Nat):Int))else none)=fun x=>if x=b then some (.int .i64 ((rG ov (mF m.sz l) b:Nat):Int))else if x∈done then some (.int .i64 ((rG ov (mF m.sz l) x:Nat):Int))else none:=by
   funext y
   by_cases e:y=b
   ·subst e;rw [if_pos (by simp),if_pos rfl]
   ·rw [if_neg e]
    by_cases hy:y∈done
    ·rw [if_pos (List.mem_append_left _ hy),if_pos hy]
    ·rw [if_neg (by simp [hy,e]),if_neg hy]
  rw [e];exact hm8
 have hb9:w9.heap[w.heap.size]? =some (.cells b.1 ai (0,0)):=((k7.mono fun _ _ h=>h.elim).tt k89:Kept (· =fm) w5 w9).heap oE (by omega);have Vg:=Fv.heap Ry hnf;have eW:(done++ [b]).Nodup:=List.nodup_append.2 ⟨hn,by simp,fun x hx y hy e=>by
  have:y=b:=by simpa using hy
  subst this;subst e;exact XS hx⟩
 have h9:CV w9 F c k G m:=h.aG Fv (fun j hj e=>by subst e;exact hfo hj) (fun j hj e=>by subst e;exact hff hj);have hc9:w9.heap[bc]? =some (.cells #[.pointer (some ⟨c,0,none⟩)] eB (0,0)):=Fv.heap V.hc e9;refine⟨some fm,by rw [aA Vg];rfl,(done++ [b]).length,RE.len rr jI eW (fun x=>by
  by_cases hx:x∈done++ [b]
  ·rw [if_pos hx];exact⟨fun _=>hx,fun _ e=>by cases e⟩
  ·rw [if_neg hx];exact⟨fun e=>absurd rfl e,fun e=>absurd e hx⟩),some ⟨c,0,none⟩,by rw [aA hc9];rfl,(k:Int),h9.c0,?_⟩
 refine Split.dec (fun h1=>?_) (fun h1=>?_)
 ·have lk:=fG.look rr RE b
  rw [if_pos (by simp)]at lk;refine⟨some fm,by rw [aA Vg];rfl,b.1,⟨b.2.1,Cells.bE hb9⟩,_,lk,some ⟨c,0,none⟩,by rw [aA hc9];rfl,(k:Int),h9.c0,?_⟩;refine hK w9 _ ?_ RE Fv;unfold ri;rw [List.length_append,List.length_cons,List.length_nil]at h1;refine decide_eq_decide.2 ⟨fun h2=>⟨by omega,by omega⟩,fun h2=>by omega⟩
 ·refine hK w9 false ?_ RE Fv
  unfold ri;rw [List.length_append,List.length_cons,List.length_nil]at h1;exact(decide_eq_false (by omega)).symm
end
structure PN where
 bs:Nat
 bc:Nat
 bh:Nat
 q:Nat
 sm:Nat
 kb:Nat
 fb:Nat
 fm:Nat
 yb:Nat
 hb:Nat
def PN.yv(p:PN):Value:=.func (.func ct.id) #[] #[.pointer (some ⟨p.kb,0,none⟩),.pointer (some ⟨p.fb,0,none⟩),.pointer (some ⟨p.bc,0,none⟩)]
def PN.gZ(p:PN)(j:Nat):Prop:=p.bs≠j/\p.bc≠j/\p.bh≠j/\p.q≠j/\p.sm≠j/\p.kb≠j/\p.fb≠j
structure PG(w:World)(F:Nat->Prop)(c k:Nat)(G:GS)(m:CM)(s h:HT)(p:PN)(ov:HT->Option Nat):Prop where
 C:CV w F c k G m
 V:VB w c s p.bs p.bc p.bh p.q p.sm ov
 kb:w.heap[p.kb]? =some (.cells #[.func (.func bU.id) #[] #[.pointer (some ⟨p.bs,0,none⟩),.pointer (some ⟨p.bc,0,none⟩),.pointer (some ⟨p.bh,0,none⟩)]] fj (0,0))
 fb:w.heap[p.fb]? =some (.cells #[.map (some p.fm)] cu (0,0))
 yb:w.cell? ⟨p.yb,0,none⟩=some p.yv
 hb:w.heap[p.hb]? =some (.cells h.1 ai (0,0))
 fo:¬m.own c p.fm
 ff:¬F p.fm
 gZ:p.gZ p.fm
 y:p.yb≠p.fm
 h:p.hb≠p.fm
section
variable{w w' u:World}{F:Nat->Prop}{c k:Nat}{G:GS}{m:CM}{s h:HT}{p:PN}{ov:HT->Option Nat}{K:Value->World->Prop}
theorem PG.aG(B:PG w F c k G m s h p ov)(hk:Kept (· =p.fm) w w'):PG w' F c k G m s h p ov:=by
 obtain⟨f1,f2,f3,f4,f5,f6,f7⟩:=B.gZ;exact⟨B.C.aG hk (fun j hj e=>by subst e;exact B.fo hj) (fun j hj e=>by subst e;exact B.ff hj),B.V.aG hk f1 f2 f3 f4 f5,hk.heap B.kb f6,hk.heap B.fb f7,hk.cell B.yb B.y,hk.heap B.hb B.h,B.fo,B.ff,B.gZ,B.y,B.h⟩
theorem PG.same(B:PG w F c k G m s h p ov)(hk:Kept Nil w w'):PG w' F c k G m s h p ov:=B.aG (hk.mono fun _ _ h=>h.elim)
theorem sj(B:PG w F c k G m s h p ov)(hD:G.D.length<=5000)(qQ:k<=1000)(hs:s∈ids G.D){l:List HT}(hc:cr G.D G.P s l){done:List HT}(hF:yJ w p.fm (rG ov (mF m.sz l)) done){b:HT}{zb:Nat}
 (hz:w.heap[zb]? =some (.cells b.1 ai (0,0))) (hzf:zb≠p.fm) (hn:lI G.D b h->(done++ [b]).Nodup) {A T:World->Prop}
 (hA:∀u,lI G.D b h->ri k (rG ov (mF m.sz l)) done b=false->Kept (· =p.fm) w u->A u)
 (hT:∀u xz,xz=done++(if lI G.D b h then [b]else [])->(lI G.D b h->ri k (rG ov (mF m.sz l)) done b=true)->yJ u p.fm (rG ov (mF m.sz l)) xz->Kept (· =p.fm) w u->T u):
 bk prog dg.id #[.pointer (some ⟨c,0,none⟩),.agg b.1,.agg h.1] w fun x y=>∃z:Bool,x=.bool z/\Split z (∃a1:Value,y.cell? ⟨p.yb,0,none⟩=some a1/\∃b1:Array Value,(b1.size=32/\Cells y ⟨zb,0,none⟩ b1)/\
  ∃(c1:Nat) (d1 e1:Array Value) (f1:Func),(a1:Value)=.func (.func c1) d1 e1/\prog.funcs[c1]? =some f1/\f1.body.isSome=true/\
   bk prog c1 (d1.toList++([.agg b1]:List Value)++e1.toList).toArray y fun g1 i1=>∃j1:Bool,g1=.bool j1/\Split (!j1) (A i1) (T i1)) (T y):=by
 refine AB B.C hD b h fun y r hr ky=>⟨r,rfl,?_⟩;have kyf:Kept (· =p.fm) w y:=ky.mono fun _ _ h=>h.elim;have By:=B.same ky;cases r with
 |false=>
  have K8:¬lI G.D b h:=fun e=>by have:=hr.2 e;cases this
  exact Split.no rfl (hT y done (by rw [if_neg K8,List.append_nil]) (fun e=>absurd e K8) (hF.same ky) kyf)
 |true=>
  have ha:=hr.1 rfl;have eW:=hn ha;rw [List.nodup_append]at eW;refine Split.yes rfl ⟨_,By.yb,b.1,⟨b.2.1,Cells.bE (ky.heap hz (fun h=>h))⟩,_,_,_,_,rfl,ct.at_,rfl,?_⟩;refine Ax By.C hD qQ hs hc By.V By.kb By.fb eW.1 (fun e=>eW.2.2 b e b (by simp) rfl) (hF.same ky) B.fo B.ff B.gZ.2.1 fun v r hr hv kv=>⟨r,rfl,?_⟩;have Ov:Kept (· =p.fm) w v:=kyf.tt kv;cases r with
  |false=>exact Split.yes rfl (hA v ha hr.symm Ov)
  |true=>exact Split.no rfl (hT v (done++ [b]) (by rw [if_pos ha]) (fun _=>hr.symm) hv Ov)
end
structure PG0(w:World)(F:Nat->Prop)(c k:Nat)(G:GS)(m:CM)(s:HT)(p:PN)(ov:HT->Option Nat):Prop where
 C:CV w F c k G m
 V:VB w c s p.bs p.bc p.bh p.q p.sm ov
 kb:w.heap[p.kb]? =some (.cells #[.func (.func bU.id) #[] #[.pointer (some ⟨p.bs,0,none⟩),.pointer (some ⟨p.bc,0,none⟩),.pointer (some ⟨p.bh,0,none⟩)]] fj (0,0))
 fb:w.heap[p.fb]? =some (.cells #[.map (some p.fm)] cu (0,0))
 fo:¬m.own c p.fm
 ff:¬F p.fm
 gZ:p.gZ p.fm
theorem cM:∀ {l m:List HT},l.Nodup->(∀x∈l,x∈m)->l.length<=m.length
 | [],_,_,_=>Nat.zero_le _
 |x::l,m,hn,hm=>by
  rw [List.nodup_cons]at hn;have hx:=hm x List.mem_cons_self;have:=cM (m:=m.erase x) hn.2 fun y hy=>(List.mem_erase_of_ne (fun e=>hn.1 (by rw [<-e];exact hy))).2 (hm y (List.mem_cons_of_mem _ hy));rw [List.length_erase_of_mem hx]at this;have h0:=List.length_pos_of_mem hx;rw [List.length_cons];omega
theorem HS.get_mem{w:World}{A:Option Addr}{n:Nat}{l:List HT}(hl:HS w A n l){i:Nat}(hi:i<n):∃y,l[i]? =some y:=⟨_,List.getElem?_eq_getElem (by have:=hl.len;omega)⟩
theorem zz{D:DG}{l:List HT}{h x:HT}{i:Nat}(hx:l[i]? =some x):bM D (l.take (i+1)) h=bM D (l.take i) h++if lI D x h then [x]else []:=by
 have e:l.take (i+1)=l.take i++ [x]:=by rw [List.take_add_one,hx];rfl
 rw [e,eF]
 congr 1
 unfold bM;by_cases hp:lI D x h
 ·rw [if_pos hp,List.filter_cons_of_pos (by simpa using hp)];rfl
 ·rw [if_neg hp,List.filter_cons_of_neg (by simpa using hp)];rfl
theorem CP{m:List HT}{b:List Bool}{x:HT}{y:Bool}{i:Nat}(hx:m[i]? =some x)(hy:b[i]? =some y):dQ (m.drop i) (b.drop i)=(if y then [x]else [])++dQ (m.drop (i+1)) (b.drop (i+1)):=by
 obtain⟨hi,ex⟩:=lgeS hx;obtain⟨hj,ey⟩:=lgeS hy;rw [List.drop_eq_getElem_cons hi,List.drop_eq_getElem_cons hj,ex,ey];cases y<;>rfl
theorem eI(c:nN)(A:Option Addr)(n cp:Nat)(B:Option Addr)(m cq:Nat):∀v∈(cG c A n cp B m cq).toList,v.oneCell'=true:=by
 intro v hv;unfold cG at hv;rw [Array.toList_append,List.mem_append]at hv;rcases hv with hv|hv
 ·exact c.iw.2.one v hv
 ·simp only [List.mem_cons,List.not_mem_nil,or_false]at hv
  rcases hv with rfl|rfl|rfl<;>rfl
section
variable{w w':World}{F:Nat->Prop}{c k:Nat}{G:GS}{m:CM}{s:HT}{p:PN}{ov:HT->Option Nat}{K:Value->World->Prop}
theorem CU{kn:HT->Nat}{done rest kF:List HT}{b:HT}(e:done++b::rest=kF)(h:ri k kn done b=false):fc k kn [] kF=false:=by
 rw [<-e,mz,List.nil_append,fc,h,Bool.false_and,Bool.and_false]
theorem yG{kn:HT->Nat}{done:List HT}{b:HT}(h:fc k kn [] done=true)(hb:ri k kn done b=true):fc k kn [] (done++ [b])=true:=by
 rw [mz,h,List.nil_append,fc,hb,Bool.true_and,Bool.true_and];rfl
theorem Ay(B:PG0 w F c k G m s p ov)(hD:G.D.length<=5000)(qQ:k<=1000)(hs:s∈ids G.D){l:List HT}(hc:cr G.D G.P s l){h:HT}{bb:Nat}{A:Option Addr}{n cx:Nat}{bl:List HT}
 (wo:w.heap[bb]? =some (.cells #[.slice A n cx] aC (0,0))) (XT:bb≠p.fm) (Cx:HS w A n bl) (hAf:∀a,A=some a->a.block≠p.fm) (hn:n<=10000) (hF:yJ w p.fm (rG ov (mF m.sz l)) []) (xq:(oG G h bl l).Nodup)
 (hK:∀w' (r:Bool),r=fc k (rG ov (mF m.sz l)) [] (oG G h bl l)->(r=true->yJ w' p.fm (rG ov (mF m.sz l)) (oG G h bl l))->Kept (· =p.fm) w w'->K (.bool r) w'):
 bk prog ah.id #[.agg h.1,p.yv,.pointer (some ⟨bb,0,none⟩),.pointer (some ⟨p.bc,0,none⟩),.pointer (some ⟨p.bh,0,none⟩)] w K:=by
 have W:=B.C.fy.W;have H:=B.C.fy.iw;have Rw:∀y∈l,y∈ids G.D:=fun y hy=>((hc.mem W H).1 hy).mem.1;have hlen:=Cx.len;have lfm:=hF.lt;refine ah.of ?_;unfold ah.W;intro w4 w5 w6;have k4:Kept Nil w w4:=(Kept.refl _ _).alloc _;have hh4:w4.heap[w.heap.size]? =some (.cells h.1 ai (0,0)):=aI w _;have k5:Kept Nil w4 w5:=(Kept.refl _ _).alloc _;obtain⟨ty,hy5⟩:∃ty:TypeId,w5.heap[w4.heap.size]? =some (.cells #[p.yv] ty (0,0)):=⟨_,aI w4 _⟩;have k6:Kept Nil w5 w6:=(Kept.refl _ _).alloc _;have Xz:w6.heap[w5.heap.size]? =some (.cells #[.bool false] iq (0,0)):=aI w5 _;clear_value w6;have hy6:=k6.heap hy5 (fun h=>h);have hh6:=k6.heap (k5.heap hh4 (fun h=>h)) (fun h=>h);have qE:=(k4.tt k5).tt k6;have s4:=k4.size;have s5:=k5.size;have s6:=k6.size;have l4:=aT hh4;have l5:=aT hy5;have l6:=aT Xz;clear_value w5 w4;obtain⟨p',Cp,wq,FH,abU,abS⟩:∃p':PN,p'= {p with yb:=w4.heap.size,hb:=w.heap.size}/\p'.yv=p.yv/\p'.fm=p.fm/\p'.bc=p.bc/\p'.bh=p.bh:=⟨_,rfl,rfl,rfl,rfl,rfl⟩;have eyb:p'.yb=w4.heap.size:=by rw [Cp]
 have Yf:p'.hb=w.heap.size:=by rw [Cp]
 have B6:PG w6 F c k G m s h p' ov:=by
  rw [Cp];exact⟨B.C.same qE,B.V.same qE,qE.heap B.kb (fun h=>h),qE.heap B.fb (fun h=>h),by show w6.cell? ⟨w4.heap.size,0,none⟩=_;rw [aA hy6];rfl,hh6,B.fo,B.ff,B.gZ,(by show w4.heap.size≠p.fm;omega),(by show w.heap.size≠p.fm;omega)⟩
 generalize wk:rG ov (mF m.sz l)=kn at*;have hF6:yJ w6 p'.fm kn []:=by rw [FH];exact hF.same qE
 generalize jL:oG G h bl l=kF at*;have qI:bM G.D bl h++yS G h l=kF:=jL;rw [<-FH]at XT hAf lfm;have hK':∀w' (r:Bool),r=fc k kn [] kF->(r=true->yJ w' p'.fm kn kF)->Kept (· =p'.fm) w w'->K (.bool r) w':=by rw [FH];exact hK
 have kA:∀ {v:World},Kept (· =p'.fm) w6 v->Kept (· =p'.fm) w v:=fun k=>(qE.mono fun _ _ h=>h.elim).tt k;have fin:∀ {v:World} (r:Bool),Kept (· =p'.fm) w6 v->∃u:World,u=v.setCell ⟨w5.heap.size,0,none⟩ (.bool r)/\Wr v ⟨w5.heap.size,0,none⟩/\u.heap[w5.heap.size]? =some (.cells #[.bool r] iq (0,0))/\Kept (· =w5.heap.size) v u:=fun {v} r kv=>by
  have hr:=kv.heap Xz (by omega);refine⟨_,rfl,dO hr (by simp),?_,Kept.setCell (S:=fun k=>k=w5.heap.size) (Kept.refl _ v) (p:=⟨w5.heap.size,0,none⟩) (fun _=>rfl) _⟩;rw [dc hr 0];rfl
 have Zk:∀ {v u:World},Kept (· =p'.fm) w6 v->Kept (· =w5.heap.size) v u->Kept (· =p'.fm) w u:=fun kv ku=>⟨ku.os.trans (kA kv).os,ku.tape.trans (kA kv).tape,ku.output.trans (kA kv).output,Nat.le_trans (kA kv).size ku.size,fun j hj hn=>by rw [ku.block j (Nat.lt_of_lt_of_le hj (kA kv).size) (by omega),(kA kv).block j hj hn]⟩;refine⟨A,n,cx,by rw [aA (qE.heap wo (fun h=>h))];rfl,?_⟩;rw [<-abU,<-abS];refine ah.b9 (I:=fun s0 v=>∃i:Nat,s0=(i:Int)/\i<=n/\yJ v p'.fm kn (bM G.D (bl.take i) h)/\fc k kn [] (bM G.D (bl.take i) h)=true/\Kept (· =p'.fm) w6 v) (μ:=fun s0 _=>((n:Int)-s0).toNat) (s:=0) ⟨0,rfl,Nat.zero_le _,hF6,rfl,Kept.refl _ _⟩ ?_;rintro s0 v ⟨i,rfl,hi,hFv,cU,kv⟩;have Bv:=B6.aG kv;refine Split.dec (fun jx=>?_) (fun gu=>?_)
 ·have dP:i<n:=by omega
  obtain⟨b,hb⟩:=Cx.get_mem dP;have abQ:HS v A n bl:=Cx.aG (kA kv) hAf;refine abQ.load (i:=(i:Int)) (by omega) hb ?_;intro lV;obtain⟨sD,jz,jS⟩:=gR (w:=v) (z:=dZ.1) (cs:=b.1) (t:=ai) (by rw [b.2.1];rfl);refine⟨⟨b.2.1,b.2.one,fun j hj=>sD j (by rw [b.2.1];exact hj)⟩,?_⟩;intro jw
  replace jz:jw.heap[v.heap.size]? =some (.cells b.1 ai (0,0)):=jz
  replace jS:Kept Nil v jw:=jS
  clear_value jw;have sv:=(kA kv).size;have QZ:=Bv.same jS;have e1:=zz (D:=G.D) (h:=h) hb;have e2:∃rest,bM G.D (bl.take i) h++(if lI G.D b h then [b]else [])++rest=kF:=by
   refine⟨bM G.D (bl.drop (i+1)) h++yS G h l,?_⟩;rw [<-e1,<-qI,<-List.append_assoc,<-eF,List.take_append_drop]
  obtain⟨rest,e2⟩:=e2;refine⟨some ⟨c,0,none⟩,by rw [aA QZ.V.hc];rfl,b.1,⟨b.2.1,Cells.bE jz⟩,h.1,⟨h.2.1,by have:=QZ.hb;rw [Yf]at this;exact Cells.bE this⟩,?_⟩;rw [<-eyb];refine sj QZ hD qQ hs hc (done:=bM G.D (bl.take i) h) (by rw [wk];exact hFv.same jS) jz (by omega) (fun ha=>by
   rw [if_pos ha]at e2;rw [<-e2]at xq;exact(List.nodup_append.1 xq).1) ?_ ?_
  ·intro u ha hp ku
   rw [wk]at hp;have Q7:Kept (· =p'.fm) w6 u:=(kv.trans jS (fun _ _ h=>h.elim)).tt ku;obtain⟨u',eu,hw,TR,kuu⟩:=fin false Q7;refine⟨hw,?_⟩;intro NK;have e30:NK=u':=eu.symm;rw [iF,ah.NA,e30];rw [if_pos ha,List.append_assoc]at e2;exact⟨false,by rw [aA TR];rfl,hK' u' false (CU e2 hp).symm (fun e=>by cases e) (Zk Q7 kuu)⟩
  ·intro u xz ed hp Nl ku
   rw [wk]at hp Nl;have Q7:Kept (· =p'.fm) w6 u:=(kv.trans jS (fun _ _ h=>h.elim)).tt ku;rw [dt (n:=(i:Int)) (by omega) (by omega)];refine⟨(i:Int)+1,rfl,⟨i+1,rfl,dP,?_,?_,Q7⟩,by simp only;omega⟩
   ·rw [e1,<-ed];exact Nl
   ·rw [e1]
    by_cases ha:lI G.D b h
    ·rw [if_pos ha];exact yG cU (hp ha)
    ·rw [if_neg ha,List.append_nil];exact cU
 ·rw [aO,ah.df]
  rw [List.take_of_length_le (by omega)]at cU hFv;unfold ah.cH;intro rU;have BY:Kept Nil v rU:=(Kept.refl _ _).drew;clear_value rU;have B33:=Bv.same BY;refine⟨some ⟨c,0,none⟩,by rw [aA B33.V.hc];rfl,_,B33.C.c1,s.1,⟨s.2.1,Cells.bE B33.V.hh⟩,?_⟩;refine o9 s fun jO pb qb nM K3 K1 Ah hqb=>⟨_,rfl,?_⟩;have Oy:Kept Nil v jO:=BY.tt nM;have KF:Kept (· =p'.fm) w6 jO:=kv.trans Oy (fun _ _ h=>h.elim);have B35:=Bv.same Oy;have agh:=KF.size;have acy:yJ jO p'.fm kn (bM G.D bl h):=hFv.same Oy
  let yv:Value:=.func (.func aV.id) #[] #[.pointer (some ⟨pb,0,none⟩),.pointer (some ⟨qb,0,none⟩)]
  let ρ0:Env:= [(3,.pointer (some ⟨p'.bc,0,none⟩)),(5,.pointer (some ⟨w.heap.size,0,none⟩)),(6,.pointer (some ⟨w4.heap.size,0,none⟩)),(7,.pointer (some ⟨w5.heap.size,0,none⟩)),(36,yv)]
  let J:Nat->World->Prop:=fun j u=>∃done:List HT,done++yS G h (l.drop j)=kF/\yJ u p'.fm kn done/\fc k kn [] done=true/\Kept (· =p'.fm) jO u/\j<=l.length
  let Jd:Code->World->Prop:=fun e u=>e=.ret/\∃r:Bool,u.heap[w5.heap.size]? =some (.cells #[.bool r] iq (0,0))/\r=fc k kn [] kF/\(r=true->yJ u p'.fm kn kF)/\Kept (fun j=>j=p'.fm\/j=w5.heap.size) jO u
  have lpb:=aT K3;have lqb:=aT K1;have agc:=BY.size;have svw:=(kA kv).size;obtain⟨mx,X35,Rn⟩:=B35.C.X;have XJ:∀ {u:World},Kept (· =p'.fm) jO u->XV u m.FX m.x G.D G.P mx:=fun k=>X35.aG k (fun j hj e=>by subst e;rw [FH]at hj;exact B.fo (.inl (Rn _ hj))) (fun j hj e=>by subst e;rw [FH]at hj;exact B.ff (B.C.fx _ hj))
  change Holds none [] prog _ _ _ ρ0 jO
  have out:∀ {u:World} {R:Loop} (r:Bool),Kept (· =p'.fm) jO u->Live (jO.heap.size+1) jO.heap.size R u->r=fc k kn [] kF->(r=true->yJ u p'.fm kn kF)->Wr u ⟨w5.heap.size,0,none⟩/\∀u',u'=u.setCell ⟨w5.heap.size,0,none⟩ (.bool r)->Live (jO.heap.size+1) jO.heap.size R u'/\Jd .ret u':=fun {u R} r ku hl hr hf=>by
   obtain⟨u0,e0,t1,t2,t3⟩:=fin r (KF.tt ku);refine⟨t1,fun u' eu=>?_⟩;rw [eu,<-e0];refine⟨hl.aG t3 (by omega) (by omega),rfl,r,t2,hr,fun e=>(hf e).aG t3 (by omega),(ku.mono fun _ _ h=>.inl h).trans t3 (fun _ _ h=>.inr h)⟩
  refine nX (n:=90) (ρ:=ρ0) (ρ0:=ρ0) ng mix ah.k (t:=36) (ps:= #[37]) (by kernel_rfl) (by decide) rfl aV.at_ rfl (.inl rfl) (fun i x hi hx=>hx) rfl rL l (fun _=>rfl) (fun q hq=>by
   have WC:q=37:=by simpa using hq
   subst WC;exact⟨by decide,by decide⟩) (xN (F:=m.FX) (x:=m.x) (m:=mx) (pb:=pb) (qb:=qb) hc (by omega)) J Jd ?_ ?_ (fun j u ⟨done,_,_,_,kJ,_⟩=>⟨XJ kJ,kJ.heap K3 (by omega),kJ.heap K1 (by omega)⟩) ?_ ?_ ?_ ?_ ?_
  ·rintro j u1 u2 R oC ⟨done,h1,h2,h3,h4,h5⟩ oD
   exact⟨done,h1,h2.aG oD (by omega),h3,h4.trans oD (fun k hk e=>by omega),h5⟩
  ·rintro e u1 u2 R oC ⟨h1,r,h2,h3,h4,h5⟩ oD
   exact⟨h1,r,oD.heap h2 (by omega),h3,fun e=>(h4 e).aG oD (by omega),h5.trans oD (fun k hk e=>by omega)⟩
  ·intro R
   have ka:Kept Nil jO ((jO.alloc (.deferred (some []))).alloc (.loop R)):=(((Kept.refl _ _).alloc _).alloc _);exact⟨bM G.D bl h,qI,acy.same ka,cU,ka.mono fun _ _ h=>h.elim,Nat.zero_le _⟩
  ·rintro j z u1 R hz ⟨done,h1,h2,h3,h4,h5⟩ oC
   have e7:ko ρ0 ((#[37]:Array Nat).toList.zip (rL z))= [(3,.pointer (some ⟨p'.bc,0,none⟩)),(5,.pointer (some ⟨w.heap.size,0,none⟩)),(6,.pointer (some ⟨w4.heap.size,0,none⟩)),(7,.pointer (some ⟨w5.heap.size,0,none⟩)),(36,yv),(37,.agg z.1)]:=rfl;rw [e7,ah.a1];have tn:=(lgeS hz).1;have O6:=Rw z (List.mem_of_getElem? hz);have WB:l.drop j=z::l.drop (j+1):=by
    obtain⟨hi,e⟩:=lgeS hz;rw [List.drop_eq_getElem_cons hi,e]
   rw [WB,yS]at h1;unfold ah.A1;intro Jt;obtain⟨sD,jz,jS⟩:=gR (w:=u1) (z:=dZ.1) (cs:=z.1) (t:=ai) (by rw [z.2.1];rfl);refine⟨⟨z.2.1,z.2.one,fun j hj=>sD j (by rw [z.2.1];exact hj)⟩,?_⟩;intro LZ
   replace jz:LZ.heap[u1.heap.size]? =some (.cells z.1 ai (0,0)):=jz
   replace jS:Kept Nil u1 LZ:=jS
   clear_value LZ;have Iy:=oC.aG jS (fun h=>h) (fun h=>h);refine⟨Iy,fun w2 R2 mJ qH=>?_⟩;have lh:=mJ.heap jz (kr jz Iy.loop);have agj:=h4.size;have v8:Kept (· =p'.fm) jO w2:=(h4.trans jS (fun _ _ h=>h.elim)).trans mJ (fun k hk e=>by omega);have QA:yJ w2 p'.fm kn done:=(h2.same jS).aG mJ (by omega);have B2:=B35.aG v8;rw [ah.y1];unfold ah.Y1;have e2:∃rest,done++(if lI G.D z h then [z]else [])++rest=kF:=⟨_,(List.append_assoc _ _ _).trans h1⟩;obtain⟨rest,e2⟩:=e2;refine⟨some ⟨c,0,none⟩,by rw [aA B2.V.hc];rfl,z.1,⟨z.2.1,Cells.bE lh⟩,h.1,⟨h.2.1,by have:=B2.hb;rw [Yf]at this;exact Cells.bE this⟩,?_⟩;rw [<-eyb];refine sj B2 hD qQ hs hc (done:=done) (by rw [wk];exact QA) lh (by omega) (fun ha=>by
    rw [if_pos ha]at e2;rw [<-e2]at xq;exact(List.nodup_append.1 xq).1) ?_ ?_
   ·intro u ha hp ku
    rw [wk]at hp;rw [if_pos ha,List.append_assoc]at e2;obtain⟨o1,o2⟩:=out (u:=u) false (v8.tt ku) (qH.aG ku (by omega) (by omega)) (CU e2 hp).symm (fun e=>by cases e);refine⟨o1,?_⟩;intro YC;exact o2 YC rfl
   ·intro u xz ed hp Nl ku
    rw [wk]at hp Nl;have Zx:=v8.tt ku;have hlu:=qH.aG ku (by omega) (by omega);have Nj:fc k kn [] xz=true:=by
     rw [ed];by_cases ha:lI G.D z h
     ·rw [if_pos ha];exact yG h3 (hp ha)
     ·rw [if_neg ha,List.append_nil];exact h3
    rw [<-List.append_assoc,<-ed]at h1;intro YB;have k61:Kept Nil u YB:=(Kept.refl _ _).drew;clear_value YB;have OK:Kept (· =p'.fm) w2 YB:=ku.trans k61 (fun _ _ h=>h.elim);have Ys:=B2.aG OK;have ZF:=OK.heap lh (by omega);obtain⟨mx1,X61,_⟩:=Ys.C.X;refine⟨some ⟨c,0,none⟩,by rw [aA Ys.V.hc];rfl,_,Ys.C.c1,z.1,⟨z.2.1,Cells.bE ZF⟩,h.1,⟨h.2.1,by have:=Ys.hb;rw [Yf]at this;exact Cells.bE this⟩,?_⟩;refine lL X61 hD z h fun Gk r hr Fo=>⟨r,rfl,?_⟩;have KB:Kept Nil u Gk:=k61.tt Fo;have UH:=hlu.aG KB (fun h=>h) (fun h=>h);have Th:=Zx.trans KB (fun _ _ h=>h.elim);have acw:=Nl.same KB;cases r with
    |true=>
     have Cy:=hr.1 rfl;rw [if_pos Cy,List.append_nil]at h1;obtain⟨o1,o2⟩:=out (u:=Gk) true Th UH (by rw [<-h1,Nj]) (fun _=>by rw [<-h1];exact acw);refine Split.yes rfl ⟨o1,?_⟩;intro NH;exact o2 NH rfl
    |false=>
     have Ut:¬dN G.D z h:=fun e=>by have:=hr.2 e;cases this
     rw [if_neg Ut]at h1;refine Split.no rfl ?_;intro GD;have Mn:Kept Nil Gk GD:=(Kept.refl _ _).drew;clear_value GD;have KN:Kept (· =p'.fm) w2 GD:=OK.trans (Fo.tt Mn) (fun _ _ h=>h.elim);have W1:=B2.aG KN;have TA:=KN.heap lh (by omega);obtain⟨A1,n1,c1,B1,m1,d1,s1,sa⟩:=W1.C.seen z O6;refine⟨some ⟨c,0,none⟩,by rw [aA W1.V.hc];rfl,_,W1.C.c2,z.1,⟨z.2.1,Cells.bE TA⟩,_,W1.C.oz O6,_,⟨bf ..,sa.gw⟩,?_⟩;intro w73;have Zo:Kept Nil GD w73:=(Kept.refl _ _).alloc _;obtain⟨Pa,An,yn⟩:=gR (w:=GD) (z:=zC) (cs:=cG (G.gw z) A1 n1 c1 B1 m1 d1) (t:=bn) (by rw [bf];rfl);have B73:=W1.same Zo;refine⟨⟨_,rfl,bf ..,(sa.aG Zo (fun _ _ h=>h)).gw⟩,B73.C.oz O6,⟨z.1,rfl,z.2.1,Cells.bE (Zo.heap TA (fun h=>h))⟩,B73.C.c2,by rw [aA B73.V.hc];rfl,⟨bf ..,eI _ _ _ _ _ _ _,fun j hj=>Pa j (by rw [bf];exact hj)⟩,?_⟩;intro Q1
     replace An:Q1.heap[GD.heap.size]? =some (.cells (cG (G.gw z) A1 n1 c1 B1 m1 d1) bn (0,0)):=An
     replace yn:Kept Nil GD Q1:=yn
     clear_value Q1 w73;have S5:Kept Nil u Q1:=KB.tt (Mn.tt yn);have Tk:Kept (· =p'.fm) w2 Q1:=KN.trans yn (fun _ _ h=>h.elim);have agm:=Tk.size;have agn:=KN.size;have s2:=v8.size;have aiK:=hlu.aG S5 (fun h=>h) (fun h=>h);have YN:=sa.aG yn (fun _ _ h=>h);have aeS:=sa.mg.len;have VE:=sa.bl.len;have hff:∀j,F j->j≠p'.fm:=fun j hj e=>by rw [FH]at e;subst e;exact B.ff hj
     have hcg:=fZ (G.gw z) A1 n1 c1 B1 m1 d1 #[];rw [Array.append_empty]at hcg;refine⟨A1,n1,c1,by rw [bg,aA An];exact hcg.2.1,?_⟩;have aeX:(G.gw z).fz.length=(G.gw z).merge.length:=by
      rcases(cr.ex H z)with⟨lz,cz⟩;rcases cz.inv W H O6 with⟨_,nd,h0,rfl⟩|⟨t,r',_,qf,_,_⟩
      ·obtain⟨r1,_⟩:=B.C.fy.root nd h0
       rw [r1];rfl
      ·exact(B.C.fy.up t z qf).2.2.1
     have Lb:(G.gw z).merge.length<=G.D.length:=by
      have eW:(G.gw z).merge.Nodup/\∀y∈(G.gw z).merge,y∈ids G.D:=by
       rcases(cr.ex H z)with⟨lz,cz⟩;rcases cz.inv W H O6 with⟨_,nd,h0,rfl⟩|⟨t,r',_,qf,_,_⟩
       ·obtain⟨r1,_⟩:=B.C.fy.root nd h0
        rw [r1];exact⟨List.nodup_nil,fun y hy=>by cases hy⟩
       ·obtain⟨_,_,_,g1,g2⟩:=B.C.fy.up t z qf
        exact⟨g1,fun y hy=>(((g2 y).1 hy).1.mem W).1⟩
      have:=cM eW.1 eW.2
      rwa [gg]at this
     refine ah.gC (I:=fun s0 v=>∃i:Nat,s0=(i:Int)/\i<=n1/\∃dn:List HT,dn++(bM G.D (dQ ((G.gw z).merge.drop i) ((G.gw z).fz.drop i)) h++yS G h (l.drop (j+1)))=kF/\yJ v p'.fm kn dn/\fc k kn [] dn=true/\Kept (· =p'.fm) Q1 v) (μ:=fun s0 _=>((n1:Int)-s0).toNat) (s:=0) ⟨0,rfl,Nat.zero_le _,xz,by rw [List.drop_zero,List.drop_zero];exact h1,Nl.same S5,Nj,Kept.refl _ _⟩ ?_;rintro s0 v2 ⟨i2,rfl,Ct,dn,g1,g2,g3,g4⟩;have HD:Kept (· =p'.fm) w2 v2:=Tk.tt g4;have Bv2:=B2.aG HD;have YM:=YN.aG g4 (fun j hj e=>hff j hj e);have Tg:=v8.tt HD;have UG:=qH.aG HD (by omega) (by omega);have sv2:=HD.size;refine Split.dec (fun jx=>?_) (fun gu=>?_)
     ·have dP:i2<n1:=by omega
      obtain⟨b,hb⟩:=YM.mg.get_mem dP;obtain⟨bb2,VL⟩:∃y,(G.gw z).fz[i2]? =some y:=⟨_,List.getElem?_eq_getElem (by omega)⟩;refine YM.mg.load (i:=(i2:Int)) (by omega) hb ?_;intro lV;obtain⟨ZP,FK,wj⟩:=gR (w:=v2) (z:=dZ.1) (cs:=b.1) (t:=ai) (by rw [b.2.1];rfl);refine⟨⟨b.2.1,b.2.one,fun j hj=>ZP j (by rw [b.2.1];exact hj)⟩,?_⟩;intro jw
      replace FK:jw.heap[v2.heap.size]? =some (.cells b.1 ai (0,0)):=FK
      replace wj:Kept Nil v2 jw:=wj
      clear_value jw;have QZ:=Bv2.same wj;have VC:=wj.heap (g4.heap An (by omega)) (fun h=>h);have YO:=YM.aG wj (fun _ _ h=>h);obtain⟨aB,IM,_,Bk⟩:=YO.bl.at_ i2 bb2 VL;subst IM;refine⟨some aB,m1,d1,by rw [bg,aA VC];exact hcg.2.2.1,⟨by omega,by omega⟩,bb2,by rw [Int.toNat_natCast,Nat.mul_one];exact Bk,?_⟩;rw [CP hb VL]at g1;cases bb2 with
      |false=>
       refine Split.no rfl ?_;rw [dt (n:=(i2:Int)) (by omega) (by omega)];exact⟨(i2:Int)+1,rfl,⟨i2+1,rfl,dP,dn,g1,g2.same wj,g3,g4.trans wj (fun _ _ h=>h.elim)⟩,by simp only;omega⟩
      |true=>
       rw [if_pos rfl,eF,List.append_assoc]at g1;have acP:bM G.D [b] h=if lI G.D b h then [b]else []:=by
        unfold bM;by_cases hp:lI G.D b h
        ·rw [if_pos hp,List.filter_cons_of_pos (by simpa using hp)];rfl
        ·rw [if_neg hp,List.filter_cons_of_neg (by simpa using hp)];rfl
       rw [acP,<-List.append_assoc]at g1;refine Split.yes rfl ⟨some ⟨c,0,none⟩,by rw [aA QZ.V.hc];rfl,b.1,⟨b.2.1,Cells.bE FK⟩,h.1,⟨h.2.1,by have:=QZ.hb;rw [Yf]at this;exact Cells.bE this⟩,?_⟩;refine sj QZ hD qQ hs hc (done:=dn) (by rw [wk];exact g2.same wj) FK (by omega) (fun ha=>by
        rw [if_pos ha]at g1;rw [<-g1]at xq;exact(List.nodup_append.1 xq).1) ?_ ?_
       ·intro u2 ha hp Jw
        rw [wk]at hp;rw [if_pos ha,List.append_assoc]at g1;have kk:Kept (· =p'.fm) v2 u2:=(wj.mono fun _ _ h=>h.elim).tt Jw;obtain⟨o1,o2⟩:=out (u:=u2) false (Tg.tt kk) (UG.aG kk (by omega) (by omega)) (CU g1 hp).symm (fun e=>by cases e);refine⟨o1,?_⟩;intro YC;rw [iF];exact o2 YC rfl
       ·intro u2 dn' ed2 Rs Wk Jw
        rw [wk]at Rs Wk;have kk:Kept (· =p'.fm) v2 u2:=(wj.mono fun _ _ h=>h.elim).tt Jw;rw [dt (n:=(i2:Int)) (by omega) (by omega)];refine⟨(i2:Int)+1,rfl,⟨i2+1,rfl,dP,dn',by rw [ed2];exact g1,Wk,?_,g4.tt kk⟩,by simp only;omega⟩;rw [ed2];by_cases ha:lI G.D b h
        ·rw [if_pos ha];exact yG g3 (Rs ha)
        ·rw [if_neg ha,List.append_nil];exact g3
     ·rw [aO,ah.Yu]
      unfold ah.WO;have en:(G.gw z).merge.drop i2= []:=List.drop_eq_nil_of_le (by omega);rw [en]at g1;exact⟨UG,dn,by simpa [dQ,bM]using g1,g2,g3,Tg,tn⟩
  ·rintro u1 R ⟨done,h1,h2,h3,h4,h5⟩ oC
   have e7:fR ρ0 jO.heap.size= [(3,.pointer (some ⟨p'.bc,0,none⟩)),(5,.pointer (some ⟨w.heap.size,0,none⟩)),(6,.pointer (some ⟨w4.heap.size,0,none⟩)),(7,.pointer (some ⟨w5.heap.size,0,none⟩)),(36,yv),(4294967296,.agg (pC [jO.heap.size]))]:=rfl;rw [e7,ah.jo];unfold ah.gL;have ec:done=kF:=by rw [<-h1,List.drop_of_length_le (Nat.le_refl _),yS,List.append_nil]
   obtain⟨o1,o2⟩:=out (u:=u1) true h4 oC (by rw [<-ec,h3]) (fun _=>by rw [<-ec];exact h2);refine⟨o1,?_⟩;intro qv;obtain⟨aaZ,_,r,t1,t2,t3,t4⟩:=o2 qv rfl;clear_value qv;rw [lT];have kt:=jq [jO.heap.size] qv;have hm:∀E∈ [jO.heap.size],qv.heap[E]? =some (.deferred (some [])):=fun E hE=>by
    rw [List.mem_singleton]at hE;subst hE;exact aaZ.mark
   refine⟨kQ [jO.heap.size] qv (by simp) hm,r,by rw [aA (kt.heap t1 (fun hE=>by rw [List.mem_singleton]at hE;omega))];rfl,?_⟩;exact hK' _ r t2 (fun e=>(t3 e).aG kt (fun hE=>by rw [List.mem_singleton]at hE;omega)) (((kA KF).trans t4 (fun j hj e=>by rcases e with e|e;exact e;omega)).trans kt (fun j hj hE=>by rw [List.mem_singleton]at hE;omega))
  ·rintro u1 R ⟨_,r,t1,t2,t3,t4⟩ oC
   have e7:fR ρ0 jO.heap.size= [(3,.pointer (some ⟨p'.bc,0,none⟩)),(5,.pointer (some ⟨w.heap.size,0,none⟩)),(6,.pointer (some ⟨w4.heap.size,0,none⟩)),(7,.pointer (some ⟨w5.heap.size,0,none⟩)),(36,yv),(4294967296,.agg (pC [jO.heap.size]))]:=rfl;rw [e7,ah.Bp];unfold ah.vR;rw [lT];have kt:=jq [jO.heap.size] u1;have hm:∀E∈ [jO.heap.size],u1.heap[E]? =some (.deferred (some [])):=fun E hE=>by
    rw [List.mem_singleton]at hE;subst hE;exact oC.mark
   refine⟨kQ [jO.heap.size] u1 (by simp) hm,r,by rw [aA (kt.heap t1 (fun hE=>by rw [List.mem_singleton]at hE;omega))];rfl,?_⟩;exact hK' _ r t2 (fun e=>(t3 e).aG kt (fun hE=>by rw [List.mem_singleton]at hE;omega)) (((kA KF).trans t4 (fun j hj e=>by rcases e with e|e;exact e;omega)).trans kt (fun j hj hE=>by rw [List.mem_singleton]at hE;omega))
  ·rintro id u1 R ⟨e,_⟩ oC
   cases e
end
end Go.Proofs.YtfleamccglihoaaGreatDoor
