import Derived.Test.YtfleamccglihoaaGreatDoorMI
import Derived.Test.YtfleamccglihoaaGreatDoorMJ
import Derived.Test.YtfleamccglihoaaGreatDoorMN
import Derived.Test.YtfleamccglihoaaGreatDoorMG
open Go.IntKind (i64 u64)
set_option linter.unusedVariables false
namespace Go.Proofs.YtfleamccglihoaaGreatDoor
open Go.Proofs.Tryz
open Go Go.b0
structure pB where
 nz:HT
 score:Nat
 merge:List HT
 gu:List Bool
structure GS where
 D:DG
 P:List Int
 sN:List pB
 la:List (List HT)
def GS.at_(G:GS)(h:HT):Option Nat:=pos h (ids G.D) 0
def GS.kr(G:GS)(h:HT):pB:=((G.at_ h).bind (G.sN[·]?)).getD ⟨fH,0,[],[]⟩
def GS.world(G:GS)(h:HT):List HT:=((G.at_ h).bind (G.la[·]?)).getD []
def GS.score(G:GS)(h:HT):Nat:=(G.kr h).score
def gl(G:GS)(a b:HT):Bool:=decide (G.score a<G.score b)||(decide (G.score a=G.score b)&&di a b)
def BA(G:GS)(a b:HT):Int:=if gl G a b then-1 else if gl G b a then 1 else 0
def bS(G:GS):List HT->HT
 | []=>fH
 |x::l=>l.foldl (fun b y=>if gl G b y then y else b) x
def oC(D:DG)(a b:HT):Prop:=a≠b/\¬fI D a b/\¬fI D b a
noncomputable instance(D:DG)(a b:HT):Decidable (oC D a b):=Classical.propDecidable _
noncomputable instance(D:DG)(a b:HT):Decidable (fI D a b):=Classical.propDecidable _
noncomputable def cr(D:DG)(l:List HT)(h:HT):List HT:=l.filter fun b=>decide (oC D b h)
def SO(G:GS)(l:List HT):Prop:=l.Pairwise fun a b=>gl G a b=true
noncomputable def tm(D:DG)(s:HT)(l:List HT):List HT:=(dC (eN D l++l)).filter fun h=>decide (h≠s/\¬fI D h s)
def xc(G:GS)(x:HT):List HT->List HT
 | []=> [x]
 |y::l=>if gl G x y then x::y::l else y::xc G x l
noncomputable def cR(G:GS)(s:HT)(l:List HT):List HT:=(tm G.D s l).foldr (xc G) []
noncomputable def qX(k:Nat)(D:DG)(wd:List HT)(h:HT):Bool:=decide ((cr D wd h).length<=k/\∀y∈cr D wd h,(cr D wd y).length+1<=k)
structure VS where
 wd:List HT
 bl:List Bool
noncomputable def rT(k:Nat)(D:DG)(s:VS)(h:HT):VS:=⟨if qX k D s.wd h then s.wd++ [h]else s.wd,s.bl++ [qX k D s.wd h]⟩
noncomputable def iz(k:Nat)(G:GS)(s:HT)(l:List HT):VS:=(cR G s l).foldl (rT k G.D) ⟨G.world s++ [s],[]⟩
noncomputable def dr(k:Nat)(G:GS)(s:HT)(l:List HT):pB:=⟨s,G.score s+1+(iz k G s l).bl.count true,cR G s l,(iz k G s l).bl⟩
noncomputable def eZ(k:Nat)(G:GS)(h:HT)(ps:List HT):GS:=
 if dU G.D h ps=0 then⟨G.D++ [⟨h,dC ps⟩],G.P++ [(((pos (bS G ps) (ids G.D) 0).getD 0:Nat):Int)],G.sN++ [dr k G (bS G ps) ps],G.la++ [(iz k G (bS G ps) ps).wd]⟩else G
def fh(r:HT):GS:=⟨[⟨r,[]⟩],[-1],[⟨fH,0,[],[]⟩],[[]]⟩
def eJ:List HT->List Bool->List HT
 |h::l,b::m=>if b then h::eJ l m else eJ l m
 |_,_=> []
theorem ou(G:GS)(a:HT):gl G a a=false:=by simp [gl,js]
theorem p9{G:GS}{a b c:HT}(h:gl G a b=true)(h':gl G b c=true):gl G a c=true:=by
 simp only [gl,Bool.or_eq_true,Bool.and_eq_true,decide_eq_true_eq]at*;rcases h with h|⟨h,h1⟩
 ·rcases h' with h'|⟨h',h2⟩
  ·exact .inl (by omega)
  ·exact .inl (by omega)
 ·rcases h' with h'|⟨h',h2⟩
  ·exact .inl (by omega)
  ·exact .inr ⟨by omega,lL h1 h2⟩
theorem sH{G:GS}{a b:HT}(h:gl G a b=false)(h':gl G b a=false):a=b:=by
 simp only [gl,Bool.or_eq_false_iff,Bool.and_eq_false_iff,decide_eq_false_iff_not]at*;have e:G.score a=G.score b:=by omega
 obtain⟨_,h2⟩:=h;obtain⟨_,h3⟩:=h';exact qE (by rcases h2 with h2|h2;exact absurd e h2;exact h2) (by rcases h3 with h3|h3;exact absurd e.symm h3;exact h3)
theorem Bj{G:GS}{a b:HT}(h:gl G a b=true):gl G b a=false:=by
 cases hb:gl G b a
 ·rfl
 ·have:=p9 h hb
  rw [ou]at this;cases this
theorem Mo{G:GS}{a b:HT}:BA G a b<0↔gl G a b=true:=by
 unfold BA;split
 ·simp_all
 ·split<;>simp_all
theorem Mn(G:GS)(a b:HT):BA G a b=if G.score a<G.score b then-1 else if G.score b<G.score a then 1 else lX a b:=by
 unfold BA lX gl;by_cases h1:G.score a<G.score b
 ·simp [h1]
 ·by_cases h2:G.score b<G.score a
  ·have:¬G.score a=G.score b:=by omega
   simp [h1,h2,this]
  ·have:G.score a=G.score b:=by omega
   simp [this]
theorem SO.cons{G:GS}{x:HT}{l:List HT}:SO G (x::l)↔(∀y∈l,gl G x y=true)/\SO G l:=List.pairwise_cons
theorem SO.nodup{G:GS}{l:List HT}(h:SO G l):l.Nodup:=List.Pairwise.imp (fun {a b} nv e=>by subst e;rw [ou]at nv;cases nv) h
theorem JP{G:GS}:∀ {l m:List HT},SO G l->SO G m->(∀x,x∈l↔x∈m)->l=m
 | [],[],_,_,_=>rfl
 | [],y::m,_,_,h=>by have:=(h y).2 (by simp);simp at this
 |x::l,[],_,_,h=>by have:=(h x).1 (by simp);simp at this
 |x::l,y::m,hl,hm,h=>by
  rw [SO.cons]at hl hm;have nD:x=y:=by
   rcases List.mem_cons.1 ((h x).1 List.mem_cons_self)with e|e
   ·exact e
   ·rcases List.mem_cons.1 ((h y).2 List.mem_cons_self)with e'|e'
    ·exact e'.symm
    ·have h1:=hm.1 _ e
     have h2:=hl.1 _ e';rw [Bj h1]at h2;cases h2
  subst nD;have:l=m:=JP hl.2 hm.2 fun z=>by
   have hz:=h z;simp only [List.mem_cons]at hz;constructor
   ·intro ns
    rcases hz.1 (.inr ns)with e|e
    ·subst e;have:=hl.1 _ ns;rw [ou]at this;cases this
    ·exact e
   ·intro ns
    rcases hz.2 (.inr ns)with e|e
    ·subst e;have:=hm.1 _ ns;rw [ou]at this;cases this
    ·exact e
  rw [this]
theorem vH{G:GS}{x z:HT}:∀ {l:List HT},z∈xc G x l↔z=x\/z∈l
 | []=>by simp [xc]
 |y::l=>by
  unfold xc;split
  ·simp
  ·simp only [List.mem_cons,vH (l:=l)]
   constructor
   ·rintro(h|h|h)<;>simp [h]
   ·rintro(h|h|h)<;>simp [h]
theorem E6{G:GS}{x:HT}:∀ {l:List HT},SO G l->x∉l->SO G (xc G x l)
 | [],_,_=>by simp [xc,SO]
 |y::l,h,hx=>by
  have h':=SO.cons.1 h;simp only [List.mem_cons,not_or]at hx;unfold xc;split
  ·rename_i nD
   refine SO.cons.2 ⟨fun z hz=>?_,h⟩;rcases List.mem_cons.1 hz with rfl|hz
   ·exact nD
   ·exact p9 nD (h'.1 _ hz)
  ·rename_i nD
   refine SO.cons.2 ⟨fun z hz=>?_,E6 h'.2 hx.2⟩;rcases vH.1 hz with rfl|hz
   ·cases RJ:gl G y z
    ·exact absurd (sH RJ (by simpa using nD)).symm hx.1
    ·rfl
   ·exact h'.1 _ hz
theorem qC{G:GS}{z:HT}:∀ {l:List HT},z∈l.foldr (xc G) []↔z∈l
 | []=>by simp
 |x::l=>by rw [List.foldr_cons,vH,qC,List.mem_cons]
theorem BL{G:GS}:∀ {l:List HT},l.Nodup->SO G (l.foldr (xc G) [])
 | [],_=>List.Pairwise.nil
 |x::l,h=>by
  rw [List.nodup_cons]at h;exact E6 (BL h.2) fun e=>h.1 (qC.1 e)
theorem ri(D:DG)(s:HT)(l:List HT):(tm D s l).Nodup:=(jz _).nodup.filter _
theorem AD{D:DG}{s:HT}{l:List HT}{h:HT}:h∈tm D s l↔((h∈ids D/\∃p∈l,fI D h p)\/h∈l)/\h≠s/\¬fI D h s:=by
 unfold tm eN;rw [List.mem_filter,dW,List.mem_append,km,decide_eq_true_eq]
theorem kO{G:GS}{s:HT}{l:List HT}{h:HT}:h∈cR G s l↔((h∈ids G.D/\∃p∈l,fI G.D h p)\/h∈l)/\h≠s/\¬fI G.D h s:=by
 unfold cR;rw [qC,AD]
theorem mI(G:GS)(s:HT)(l:List HT):SO G (cR G s l):=BL (ri _ _ _)
theorem xP{G:GS}{s:HT}{l m:List HT}(hs:SO G m)(h:∀x,x∈m↔x∈tm G.D s l):m=cR G s l:=
 JP hs (mI G s l) fun x=>by unfold cR;rw [h,qC]
theorem jI{G:GS}:∀ {l:List HT},l≠ []->bS G l∈l
 |x::l,_=>by
  have key:∀(l:List HT) (b:HT),l.foldl (fun b y=>if gl G b y then y else b) b=b\/l.foldl (fun b y=>if gl G b y then y else b) b∈l:=by
   intro l
   induction l with
   |nil=>intro b;exact .inl rfl
   |cons y l ih=>
    intro b;simp only [List.foldl_cons];rcases ih (if gl G b y then y else b)with e|e
    ·rw [e]
     split
     ·exact .inr List.mem_cons_self
     ·exact .inl rfl
    ·exact .inr (List.mem_cons_of_mem _ e)
  rcases key l x with e|e
  ·rw [bS,e];exact List.mem_cons_self
  ·exact List.mem_cons_of_mem _ e
theorem gz(D:DG)(l m:List HT)(h:HT):cr D (l++m) h=cr D l h++cr D m h:=List.filter_append ..
theorem gL{D:DG}{l:List HT}{h b:HT}:b∈cr D l h↔b∈l/\oC D b h:=by unfold cr;rw [List.mem_filter,decide_eq_true_eq]
theorem oC.symm{D:DG}{a b:HT}(h:oC D a b):oC D b a:=⟨h.1.symm,h.2.2,h.2.1⟩
theorem mU{x:HT}:∀ {m:List HT} {b:List Bool},x∈eJ m b->x∈m
 |h::l,b::m,hx=>by
  unfold eJ at hx;split at hx
  ·rcases List.mem_cons.1 hx with e|e
   ·rw [e];exact List.mem_cons_self
   ·exact List.mem_cons_of_mem _ (mU e)
  ·exact List.mem_cons_of_mem _ (mU hx)
 | [],_,hx=>by simp [eJ]at hx
 |_::_,[],hx=>by simp [eJ]at hx
theorem oT:∀ {m:List HT} {b:List Bool},m.Nodup->(eJ m b).Nodup
 |h::l,b::m,hn=>by
  rw [List.nodup_cons]at hn;unfold eJ;split
  ·exact List.nodup_cons.2 ⟨fun e=>hn.1 (mU e),oT hn.2⟩
  ·exact oT hn.2
 | [],_,_=>by simp [eJ]
 |_::_,[],_=>by simp [eJ]
theorem wC:∀ {m:List HT} {b:List Bool},b.length=m.length->(eJ m b).length=b.count true
 |h::l,b::m,hn=>by
  have:=wC (m:=l) (b:=m) (by simpa using hn);unfold eJ;cases b<;>simp [this]
 | [],[],_=>rfl
 | [],_::_,h=>by simp at h
 |_::_,[],h=>by simp at h
theorem uy{x:HT}{c:Bool}:∀ {m:List HT} {b:List Bool},b.length=m.length->eJ (m++ [x]) (b++ [c])=eJ m b++if c then [x]else []
 |h::l,b::m,hn=>by
  have:=uy (x:=x) (c:=c) (m:=l) (b:=m) (by simpa using hn);simp only [List.cons_append,eJ,this];cases b<;>simp
 | [],[],_=>by cases c<;>simp [eJ]
 | [],_::_,h=>by simp at h
 |_::_,[],h=>by simp at h
theorem Ht(k:Nat)(D:DG)(wd:List HT):∀(m:List HT),∃b:List Bool,b.length=m.length/\m.foldl (rT k D) ⟨wd,[]⟩=⟨wd++eJ m b,b⟩:=by
 intro m
 induction h:m.length generalizing m with
 |zero=>exact⟨[],by simp,by rw [List.length_eq_zero_iff.1 h];simp [eJ]⟩
 |succ n ih=>
  have fX:m≠ []:=fun e=>by rw [e]at h;simp at h
  obtain⟨m',x,rfl⟩:∃m' x,m=m'++ [x]:=⟨m.dropLast,m.getLast fX,(List.dropLast_concat_getLast fX).symm⟩;obtain⟨b,h1,h2⟩:=ih m' (by simpa using h);have h1:b.length=m'.length:=by rw [List.length_append,List.length_cons,List.length_nil]at h;omega
  refine⟨b++ [qX k D (wd++eJ m' b) x],by simp only [List.length_append,List.length_cons,List.length_nil]at h⊢;omega,?_⟩;rw [List.foldl_append,h2,List.foldl_cons,List.foldl_nil,uy h1];unfold rT;cases qX k D (wd++eJ m' b) x<;>simp
theorem u9(k:Nat)(G:GS)(s:HT)(l:List HT):(iz k G s l).bl.length=(cR G s l).length/\(iz k G s l).wd=G.world s++ [s]++eJ (cR G s l) (iz k G s l).bl:=by
 obtain⟨b,h1,h2⟩:=Ht k G.D (G.world s++ [s]) (cR G s l);unfold iz;rw [h2];exact⟨h1,rfl⟩
structure lG(k:Nat)(G:GS):Prop where
 W:kP G.D
 nz:sV G.D G.P
 lc:G.sN.length=G.D.length
 lw:G.la.length=G.D.length
 root:∀nd,G.D[0]? =some nd->G.kr nd.id=⟨fH,0,[],[]⟩/\G.world nd.id= []
 up:∀s h,mf G.D G.P s h->(G.kr h).nz=s/\G.world h=G.world s++ [s]++eJ (G.kr h).merge (G.kr h).gu/\(G.kr h).gu.length=(G.kr h).merge.length/\(G.kr h).merge.Nodup/\∀y,y∈(G.kr h).merge↔fI G.D y h/\y≠s/\¬fI G.D y s
 wd:∀h∈ids G.D,(G.world h).Nodup/\(∀b∈G.world h,fI G.D b h)/\G.score h=(G.world h).length
theorem GS.tI{G:GS}(W:kP G.D){i:Nat}{nd:DN}(h:G.D[i]? =some nd):G.at_ nd.id=some i:=W.pos_eq h
theorem GS.Q9{G:GS}(W:kP G.D){i:Nat}{nd:DN}{c:pB}(h:G.D[i]? =some nd)(hc:G.sN[i]? =some c):G.kr nd.id=c:=by
 unfold GS.kr;rw [GS.tI W h];simp [hc]
theorem GS.Hm{G:GS}(W:kP G.D){i:Nat}{nd:DN}{c:List HT}(h:G.D[i]? =some nd)(hc:G.la[i]? =some c):G.world nd.id=c:=by
 unfold GS.world;rw [GS.tI W h];simp [hc]
section
variable{k:Nat}{G:GS}{h:HT}{ps:List HT}
theorem uY(hc:dU G.D h ps≠0):eZ k G h ps=G:=by unfold eZ;rw [if_neg hc]
theorem tL:(eZ k G h ps).D=mC G.D h ps:=by
 unfold eZ mC;split<;>rfl
theorem JK:(eZ k G h ps).D=oz G.D h (bS G ps) ps:=by
 rw [tL];unfold oz;by_cases hc:dU G.D h ps=0
 ·have fX:=(lP hc).2.1
  have:iH G.D h (bS G ps) ps=0:=by unfold iH;rw [if_pos hc,if_pos (jI fX)]
  rw [if_pos this,qm hc]
 ·have:iH G.D h (bS G ps) ps≠0:=by unfold iH;rw [if_neg hc];exact hc
  rw [if_neg this];unfold mC;rw [if_neg hc]
theorem G0:iH G.D h (bS G ps) ps=dU G.D h ps:=by
 unfold iH;split
 ·rename_i hc
  rw [if_pos (jI (lP hc).2.1),hc]
 ·rfl
theorem JL:(eZ k G h ps).P=oy G.D G.P h (bS G ps) ps:=by
 unfold oy eZ;rw [G0];by_cases hc:dU G.D h ps=0
 ·rw [if_pos hc,if_pos hc]
 ·rw [if_neg hc,if_neg hc]
theorem mW(hc:dU G.D h ps=0):eZ k G h ps=⟨G.D++ [⟨h,dC ps⟩],G.P++ [(((pos (bS G ps) (ids G.D) 0).getD 0:Nat):Int)],G.sN++ [dr k G (bS G ps) ps],G.la++ [(iz k G (bS G ps) ps).wd]⟩:=by
 unfold eZ;rw [if_pos hc]
theorem DX(H:lG k G){s:HT}(hs:s∈ids G.D)(l:List HT)(hl:∀p∈l,p∈ids G.D):
 (iz k G s l).wd.Nodup/\(iz k G s l).wd.length=(dr k G s l).score/\∀y∈(iz k G s l).wd,y∈ids G.D/\(y=s\/fI G.D y s\/y∈cR G s l):=by
 obtain⟨h1,h2⟩:=u9 k G s l;obtain⟨w1,w2,w3⟩:=H.wd s hs;have hm:∀y∈eJ (cR G s l) (iz k G s l).bl,y∈ids G.D/\y≠s/\¬fI G.D y s:=fun y hy=>by
  obtain⟨e,h3,h4⟩:=kO.1 (mU hy);refine⟨?_,h3,h4⟩;rcases e with e|e
  ·exact e.1
  ·exact hl _ e
 rw [h2];refine⟨?_,?_,?_⟩
 ·refine List.nodup_append.2 ⟨List.nodup_append.2 ⟨w1,by simp,?_⟩,oT (mI G s l).nodup,?_⟩
  ·intro a ha b hb e
   have hb:b=s:=by simpa using hb
   subst hb;subst e;exact fI.irrefl H.W _ (w2 _ ha)
  ·intro a ha b hb e
   subst e;obtain⟨_,h3,h4⟩:=hm _ hb;rcases List.mem_append.1 ha with e|e
   ·exact h4 (w2 _ e)
   ·exact h3 (by simpa using e)
 ·unfold dr
  simp only [List.length_append,List.length_cons,List.length_nil,wC h1,w3]
 ·intro y hy
  rcases List.mem_append.1 hy with hy|hy
  ·rcases List.mem_append.1 hy with hy|hy
   ·exact⟨((w2 _ hy).mem H.W).1,.inr (.inl (w2 _ hy))⟩
   ·have:y=s:=by simpa using hy
    subst this;exact⟨hs,.inl rfl⟩
  ·exact⟨(hm _ hy).1,.inr (.inr (mU hy))⟩
theorem wG(H:lG k G){y:HT}(hy:y∈ids G.D):(eZ k G h ps).kr y=G.kr y/\(eZ k G h ps).world y=G.world y:=by
 by_cases hc:dU G.D h ps=0
 ·obtain⟨hn,fX,gQ,sD⟩:=lP hc
  obtain⟨nd,uG,rfl⟩:=eI.1 hy;obtain⟨i,hi⟩:=List.getElem?_of_mem uG;have dX:=(lgeS hi).1;have Gt:(G.D++ [(⟨h,dC ps⟩:DN)])[i]? =some nd:=by rw [List.getElem?_append_left dX];exact hi
  have W':kP (eZ k G h ps).D:=by rw [tL];exact H.W.add h ps
  rw [mW hc]at W'⊢;have e1:(⟨G.D++ [⟨h,dC ps⟩],G.P++ [(((pos (bS G ps) (ids G.D) 0).getD 0:Nat):Int)],G.sN++ [dr k G (bS G ps) ps],G.la++ [(iz k G (bS G ps) ps).wd]⟩:GS).at_ nd.id=some i:=GS.tI W' Gt;have e2:=GS.tI H.W hi;unfold GS.kr GS.world;rw [e1,e2];simp only [Option.bind_some];rw [List.getElem?_append_left (by rw [H.lc];exact dX),List.getElem?_append_left (by rw [H.lw];exact dX)];exact⟨rfl,rfl⟩
 ·rw [uY hc];exact⟨rfl,rfl⟩
theorem wH(H:lG k G)(hc:dU G.D h ps=0):(eZ k G h ps).kr h=dr k G (bS G ps) ps/\(eZ k G h ps).world h=(iz k G (bS G ps) ps).wd:=by
 have W':kP (eZ k G h ps).D:=by rw [tL];exact H.W.add h ps
 rw [mW hc]at W'⊢;have Gt:(G.D++ [(⟨h,dC ps⟩:DN)])[G.D.length]? =some ⟨h,dC ps⟩:=by rw [List.getElem?_append_right (Nat.le_refl _),Nat.sub_self];rfl
 have e1:(⟨G.D++ [⟨h,dC ps⟩],G.P++ [(((pos (bS G ps) (ids G.D) 0).getD 0:Nat):Int)],G.sN++ [dr k G (bS G ps) ps],G.la++ [(iz k G (bS G ps) ps).wd]⟩:GS).at_ h=some G.D.length:=GS.tI W' Gt;unfold GS.kr GS.world;rw [e1];simp only [Option.bind_some];rw [List.getElem?_append_right (by rw [H.lc];exact Nat.le_refl _),H.lc,Nat.sub_self,List.getElem?_append_right (by rw [H.lw];exact Nat.le_refl _),H.lw,Nat.sub_self];exact⟨rfl,rfl⟩
end
section
variable{k:Nat}{G:GS}{h:HT}{ps:List HT}
theorem mO(k:Nat)(r:HT):lG k (fh r):=by
 have e0:(fh r).at_ r=some 0:=GS.tI (G:=fh r) (kP.root r) (nd:=⟨r,[]⟩) rfl;have ec:(fh r).kr r=⟨fH,0,[],[]⟩:=by unfold GS.kr;rw [e0];rfl
 have ew:(fh r).world r= []:=by unfold GS.world;rw [e0];rfl
 refine⟨kP.root r,sV.one r,rfl,rfl,?_,?_,?_⟩
 ·intro nd gQ
  have:nd=⟨r,[]⟩:=by simpa [fh]using gQ.symm
  subst this;exact⟨ec,ew⟩
 ·rintro s h ⟨i,j,ni,m,h1,_,h3,_,_⟩
  exfalso;cases i with
  |zero=>simp [fh]at h3
  |succ i=>simp [fh]at h1
 ·intro h hm
  have:h=r:=by simpa [fh,ids]using hm
  subst this;refine⟨by rw [ew];simp,by rw [ew];simp,?_⟩;unfold GS.score;rw [ec,ew];rfl
theorem HG(H:lG k G)(hc:dU G.D h ps=0):∃(j:Nat) (m:DN),G.D[j]? =some m/\m.id=bS G ps/\(pos (bS G ps) (ids G.D) 0).getD 0=j/\bS G ps∈ps/\bS G ps∈ids G.D:=by
 obtain⟨hn,fX,gQ,sD⟩:=lP hc;have h1:=jI (G:=G) fX;have h2:=sD _ (dW.2 h1);obtain⟨m,hm,e⟩:=eI.1 h2;obtain⟨j,hj⟩:=List.getElem?_of_mem hm;have h3:=H.W.pos_eq hj;rw [e]at h3;exact⟨j,m,hj,e,by rw [h3];rfl,h1,h2⟩
theorem BJ(H:lG k G)(hc:dU G.D h ps=0):(∀y,fI (G.D++ [⟨h,dC ps⟩]) y h↔∃p∈ps,y=p\/fI G.D y p)/\∀a b,b∈ids G.D->(fI (G.D++ [⟨h,dC ps⟩]) a b↔fI G.D a b):=by
 obtain⟨hn,fX,gQ,sD⟩:=lP hc;have W':kP (G.D++ [⟨h,dC ps⟩]):=by have:=H.W.add h ps;rwa [qm hc]at this
 have Gt:(G.D++ [(⟨h,dC ps⟩:DN)])[G.D.length]? =some ⟨h,dC ps⟩:=by rw [List.getElem?_append_right (Nat.le_refl _),Nat.sub_self];rfl
 have FQ:∀a b,b∈ids G.D->(fI (G.D++ [⟨h,dC ps⟩]) a b↔fI G.D a b):=fun a b hb=>jN H.W hn hb;refine⟨fun y=>?_,FQ⟩;rw [EY W' Gt y];constructor
 ·rintro⟨p,hp,e⟩
  exact⟨p,dW.1 hp,e.imp_right fun e=>(FQ _ _ (sD _ hp)).1 e⟩
 ·rintro⟨p,hp,e⟩
  exact⟨p,dW.2 hp,e.imp_right fun e=>(FQ _ _ (sD _ (dW.2 hp))).2 e⟩
theorem lG.add(H:lG k G)(h:HT)(ps:List HT):lG k (eZ k G h ps):=by
 by_cases hc:dU G.D h ps=0
 ·obtain⟨hn,fX,gQ,sD⟩:=lP hc
  obtain⟨j,m,hj,hm,jT,Ha,Hb⟩:=HG H hc;obtain⟨GW,FQ⟩:=BJ H hc;have hk:=fun y (hy:y∈ids G.D)=>wG (h:=h) (ps:=ps) H hy;obtain⟨nc,nw⟩:=wH H hc;obtain⟨v1,v2⟩:=u9 k G (bS G ps) ps;obtain⟨u1,u2,u3⟩:=DX H Hb ps (fun p hp=>sD _ (dW.2 hp));have W':kP (G.D++ [⟨h,dC ps⟩]):=by have:=H.W.add h ps;rwa [qm hc]at this
  have oN:sV (G.D++ [(⟨h,dC ps⟩:DN)]) (G.P++ [(j:Int)]):=H.nz.snoc hj (by rw [hm];exact dW.2 Ha) H.W.pos;generalize hs:bS G ps=s at*;have eG:=mW (k:=k) hc;rw [hs,jT]at eG;have eD:(eZ k G h ps).D=G.D++ [⟨h,dC ps⟩]:=by rw [eG]
  have eP:(eZ k G h ps).P=G.P++ [(j:Int)]:=by rw [eG]
  refine⟨by rw [eD];exact W',by rw [eD,eP];exact oN,by rw [eG];simp [H.lc],by rw [eG];simp [H.lw],?_,?_,?_⟩
  ·intro nd uG
   rw [eD,List.getElem?_append_left H.W.pos]at uG;obtain⟨e1,e2⟩:=hk nd.id (eI.2 ⟨nd,List.mem_of_getElem? uG,rfl⟩);rw [e1,e2];exact H.root nd uG
  ·intro t y hy
   rw [eD,eP,oG H.W H.nz hn hj]at hy;rcases hy with hy|⟨rfl,rfl⟩
   ·have hp:=hy.par H.nz
    have XX:y∈ids G.D:=((fI.one hp).mem H.W).2;have Kf:t∈ids G.D:=((fI.one hp).mem H.W).1;obtain⟨e1,e2⟩:=hk y XX;obtain⟨_,e3⟩:=hk t Kf;obtain⟨g1,g2,g3,g4,g5⟩:=H.up t y hy;rw [e1,e2,e3,eD];refine⟨g1,g2,g3,g4,fun z=>?_⟩;rw [g5,FQ _ _ XX,FQ _ _ Kf]
   ·show _/\_
    rw [nc,nw,hm,(hk s Hb).2,eD];refine⟨rfl,v2,v1,(mI _ _ _).nodup,fun z=>?_⟩;show z∈cR G s ps↔_
    rw [kO,GW,FQ _ _ Hb];constructor
    ·rintro⟨e,h3,h4⟩
     refine⟨?_,h3,h4⟩;rcases e with⟨_,p,hp,e⟩|e
     ·exact⟨p,hp,.inr e⟩
     ·exact⟨z,e,.inl rfl⟩
    ·rintro⟨⟨p,hp,e⟩,h3,h4⟩
     refine⟨?_,h3,h4⟩;rcases e with rfl|e
     ·exact .inr hp
     ·exact .inl ⟨(e.mem H.W).1,p,hp,e⟩
  ·intro y hy
   rw [eD,lU]at hy;rcases List.mem_append.1 hy with hy|hy
   ·obtain⟨e1,e2⟩:=hk y hy
    obtain⟨g1,g2,g3⟩:=H.wd y hy;unfold GS.score;rw [e1,e2,eD];exact⟨g1,fun b hb=>(FQ _ _ hy).2 (g2 b hb),g3⟩
   ·have:y=h:=by simpa using hy
    subst this;unfold GS.score;rw [nc,nw,eD];refine⟨u1,fun b hb=>?_,u2.symm⟩;obtain⟨_,e⟩:=u3 b hb;rw [GW];rcases e with rfl|e|e
    ·exact⟨b,Ha,.inl rfl⟩
    ·exact⟨s,Ha,.inr e⟩
    ·obtain⟨e,_,_⟩:=kO.1 e
     rcases e with⟨_,p,hp,e⟩|e
     ·exact⟨p,hp,.inr e⟩
     ·exact⟨b,e,.inl rfl⟩
 ·rw [uY hc];exact H
end
def nt(sz:HT->HT->Option Nat)(l:List HT)(b:HT):Nat:=(l.findSome? fun h=>sz h b).getD 0
def sx(ov:HT->Option Nat)(base:HT->Nat)(b:HT):Nat:=(ov b).getD (base b)
structure OV(D:DG)(wd:List HT)(ov:HT->Option Nat)(base:HT->Nat):Prop where
 kn:∀b∈wd,sx ov base b=(cr D wd b).length
 R9:∀b n,ov b=some n->b∈wd
noncomputable def An(D:DG)(wd:List HT)(ov:HT->Option Nat)(base:HT->Nat)(h:HT):HT->Option Nat:=
 fun b=>if b∈cr D wd h then some (sx ov base b+1)else if b=h then some (cr D wd h).length else ov b
theorem OV.step{D:DG}{wd:List HT}{ov:HT->Option Nat}{base:HT->Nat}(H:OV D wd ov base){h:HT}(hn:h∉wd):OV D (wd++ [h]) (An D wd ov base h) base:=by
 refine⟨fun b hb=>?_,fun b n e=>?_⟩
 ·rw [gz,List.length_append]
  unfold sx An;by_cases hp:b∈cr D wd h
  ·rw [if_pos hp]
   obtain⟨h1,h2⟩:=gL.1 hp;rw [Option.getD_some,H.kn b h1];have:cr D [h] b= [h]:=by unfold cr;rw [List.filter_cons_of_pos (by simpa using h2.symm)];rfl
   rw [this];rfl
  ·rw [if_neg hp]
   by_cases e:b=h
   ·subst e
    rw [if_pos rfl,Option.getD_some];have:cr D [b] b= []:=by unfold cr;rw [List.filter_cons_of_neg (by simpa using fun e:oC D b b=>e.1 rfl)];rfl
    rw [this];rfl
   ·rw [if_neg e]
    have hw:b∈wd:=by
     rcases List.mem_append.1 hb with hb|hb
     ·exact hb
     ·exact absurd (by simpa using hb) e
    have:cr D [h] b= []:=by unfold cr;rw [List.filter_cons_of_neg (by simpa using fun e':oC D h b=>hp (gL.2 ⟨hw,e'.symm⟩))];rfl
    rw [this];exact H.kn b hw
 ·unfold An at e
  split at e
  ·rename_i hp
   exact List.mem_append_left _ (gL.1 hp).1
  ·split at e
   ·rename_i hb;subst hb;exact List.mem_append_right _ (by simp)
   ·exact List.mem_append_left _ (H.R9 b n e)
structure SZ(G:GS)(sz:HT->HT->Option Nat):Prop where
 kn:∀h l,h∈ids G.D->dH G.D G.P h l->∀b∈G.world h++ [h],nt sz l b=(cr G.D (G.world h++ [h]) b).length
 R9:∀h b n,sz h b=some n->b∈ids G.D
theorem SZ.ov{G:GS}{sz:HT->HT->Option Nat}(Z:SZ G sz){s:HT}(hs:s∈ids G.D){l:List HT}(hl:dH G.D G.P s l):OV G.D (G.world s++ [s]) (fun _=>none) (nt sz l):=
 ⟨fun b hb=>Z.kn s l hs hl b hb,fun b n e=>by cases e⟩
theorem Up.snoc{P:List Int}{p:Int}:∀ {i:Nat} {l:List Nat},Up P i l->Up (P++ [p]) i l:=by
 intro i l h
 induction h with
 |root=>exact .root
 |step h _ ih=>exact .step (by rw [List.getElem?_append_left (lgeS h).1];exact h) ih
theorem yc{D:DG}{nd:DN}{i:Nat}(h:i<D.length):ph (D++ [nd]) i=ph D i:=by unfold ph;rw [List.getElem?_append_left h]
theorem dH.snoc{D:DG}{P:List Int}(H:sV D P){nd:DN}{p:Int}{h:HT}{l:List HT}(hm:h∈ids D)(c:dH D P h l):dH (D++ [nd]) (P++ [p]) h l:=by
 rcases c with⟨hn,_⟩|⟨i,m,ks,h1,h2,h3,h4⟩
 ·exact absurd hm hn
 ·have dX:=(lgeS h1).1
  refine .inr ⟨i,m,ks,by rw [List.getElem?_append_left dX];exact h1,h2,h3.snoc,?_⟩;rw [h4];refine List.map_congr_left fun k hk=>(yc ?_).symm;have:=h3.lt H.par (by rw [H.len];exact dX) k hk
  rwa [H.len]at this
theorem dH.new{D:DG}{P:List Int}(W:kP D)(H:sV D P){nd m:DN}{j:Nat}(hj:D[j]? =some m){l:List HT}(c:dH D P m.id l):dH (D++ [nd]) (P++ [(j:Int)]) nd.id (nd.id::l):=by
 have hm:m.id∈ids D:=eI.2 ⟨m,List.mem_of_getElem? hj,rfl⟩;have c':=dH.snoc (nd:=nd) (p:=(j:Int)) H hm c;rcases c with⟨hn,_⟩|⟨i,m',ks,h1,h2,h3,h4⟩
 ·exact absurd hm hn
 ·have sG:=W.inj h1 hj h2
  subst sG;have e0:(D++ [nd])[D.length]? =some nd:=by rw [List.getElem?_append_right (Nat.le_refl _),Nat.sub_self];rfl
  refine .inr ⟨D.length,nd,D.length::ks,e0,rfl,.step (by rw [<-H.len,List.getElem?_append_right (Nat.le_refl _),Nat.sub_self];rfl) h3.snoc,?_⟩;rw [List.map_cons,ot e0,h4]
  congr 1
  refine List.map_congr_left fun k hk=>(yc ?_).symm;have:=h3.lt H.par (by rw [H.len];exact(lgeS h1).1) k hk
  rwa [H.len]at this
theorem sg{D D':DG}{l:List HT}{b:HT}(h:∀a∈l,oC D' a b↔oC D a b):cr D' l b=cr D l b:=by
 unfold cr;exact List.filter_congr fun a ha=>by simp only [h a ha]
theorem SZ.root(r:HT):SZ (fh r) (fun _ _=>none):=by
 refine⟨fun h l hm _ b hb=>?_,fun h b n e=>by cases e⟩;have hh:h=r:=by simpa [fh,ids]using hm
 subst hh;have ew:(fh h).world h= []:=((mO 0 h).root ⟨h,[]⟩ rfl).2;rw [ew]at hb⊢;have:b=h:=by simpa using hb
 subst this;have:cr (fh b).D ([]++ [b]) b= []:=by unfold cr;rw [List.nil_append,List.filter_cons_of_neg (by simpa using fun e:oC (fh b).D b b=>e.1 rfl)];rfl
 rw [this];unfold nt;have:(l.findSome? fun _=>(none:Option Nat))=none:=by simp
 rw [this];rfl
theorem SZ.add{k:Nat}{G:GS}{sz:HT->HT->Option Nat}(Z:SZ G sz)(H:lG k G){h:HT}{ps:List HT}(hc:dU G.D h ps=0){l:List HT}(hl:dH G.D G.P (bS G ps) l){ov:HT->Option Nat}
 (O:OV G.D (iz k G (bS G ps) ps).wd ov (nt sz l)):SZ (eZ k G h ps) (fun y=>if y=h then ov else sz y):=by
 obtain⟨hn,fX,gQ,sD⟩:=lP hc;obtain⟨j,m,hj,hm,jT,Ha,Hb⟩:=HG H hc;obtain⟨GW,FQ⟩:=BJ H hc;have H':=H.add h ps;obtain⟨nc,nw⟩:=wH H hc;obtain⟨u1,u2,u3⟩:=DX H Hb ps (fun p hp=>sD _ (dW.2 hp));have eD:(eZ k G h ps).D=G.D++ [⟨h,dC ps⟩]:=by rw [mW hc]
 have eP:(eZ k G h ps).P=G.P++ [(j:Int)]:=by rw [mW hc,jT]
 have apt:∀a b,a∈ids G.D->b∈ids G.D->(oC (G.D++ [⟨h,dC ps⟩]) a b↔oC G.D a b):=fun a b ha hb=>by unfold oC;rw [FQ _ _ hb,FQ _ _ ha]
 have lno:∀(y:HT) (l':List HT),y∈ids G.D->dH G.D G.P y l'->∀b,nt (fun y=>if y=h then ov else sz y) l' b=nt sz l' b:=fun y l' hy c b=>by
  unfold nt;have Yg:h∉l':=fun e=>hn ((c.mem H.W H.nz).1 e).mem.1;have key:∀l':List HT,h∉l'->(l'.findSome? fun y=>(if y=h then ov else sz y) b)=l'.findSome? fun y=>sz y b:=by
   intro l'
   induction l' with
   |nil=>intro _;rfl
   |cons y l' ih=>
    intro hq;simp only [List.mem_cons,not_or]at hq;rw [List.findSome?_cons,List.findSome?_cons,if_neg (fun e=>hq.1 e.symm),ih hq.2]
  rw [key l' Yg]
 refine⟨fun y l' hy c b hb=>?_,fun y b n e=>?_⟩
 ·rw [eD,eP]at c
  rw [eD]at hy⊢;rw [lU]at hy;have W':kP (G.D++ [⟨h,dC ps⟩]):=by have:=H'.W;rwa [eD]at this
  have S':sV (G.D++ [⟨h,dC ps⟩]) (G.P++ [(j:Int)]):=by have:=H'.nz;rwa [eD,eP]at this
  rcases List.mem_append.1 hy with hy|hy
  ·obtain⟨l0,c0⟩:=dH.ex H.nz y
   have:l'=l0:=c.one W' S' (c0.snoc H.nz hy);subst this;obtain⟨_,e2⟩:=wG (k:=k) (h:=h) (ps:=ps) H hy;rw [e2]at hb⊢;rw [lno y l' hy c0,Z.kn y l' hy c0 b hb];have gD:∀a∈G.world y++ [y],a∈ids G.D:=fun a ha=>by
    rcases List.mem_append.1 ha with ha|ha
    ·exact(((H.wd y hy).2.1 a ha).mem H.W).1
    ·have:a=y:=by simpa using ha
     subst this;exact hy
   rw [sg fun a ha=>apt a b (gD a ha) (gD b hb)]
  ·have:y=h:=by simpa using hy
   subst this;have cn:=dH.new (nd:=⟨y,dC ps⟩) H.W H.nz hj (by rw [hm];exact hl);have:l'=y::l:=c.one W' S' cn;subst this;rw [nw]at hb⊢;have e1:nt (fun z=>if z=y then ov else sz z) (y::l) b=sx ov (nt sz l) b:=by
    have:=lno _ l Hb hl b;unfold nt at this⊢;unfold sx;rw [List.findSome?_cons];cases BU:ov b with
    |none=>simp only [if_true,BU,Option.getD_none];exact this
    |some n=>simp only [if_true,BU,Option.getD_some]
   rw [e1,gz,List.length_append];have S6:∀a∈(iz k G (bS G ps) ps).wd,¬oC (G.D++ [⟨y,dC ps⟩]) a y:=fun a ha e=>by
    obtain⟨_,e'⟩:=u3 a ha;refine e.2.1 ((GW a).2 ?_);rcases e' with rfl|e'|e'
    ·exact⟨_,Ha,.inl rfl⟩
    ·exact⟨_,Ha,.inr e'⟩
    ·obtain⟨e',_,_⟩:=kO.1 e'
     rcases e' with⟨_,p,hp,e'⟩|e'
     ·exact⟨p,hp,.inr e'⟩
     ·exact⟨a,e',.inl rfl⟩
   rcases List.mem_append.1 hb with hb|hb
   ·have hbi:=(u3 b hb).1
    have:cr (G.D++ [⟨y,dC ps⟩]) [y] b= []:=by unfold cr;rw [List.filter_cons_of_neg (by simpa using fun e:oC _ y b=>S6 b hb e.symm)];rfl
    rw [this,O.kn b hb,sg fun a ha=>apt a b (u3 a ha).1 hbi];rfl
   ·have:b=y:=by simpa using hb
    subst this;have e2:cr (G.D++ [⟨b,dC ps⟩]) (iz k G (bS G ps) ps).wd b= []:=by
     unfold cr;rw [List.filter_eq_nil_iff];intro a ha;simpa using S6 a ha
    have e3:cr (G.D++ [⟨b,dC ps⟩]) [b] b= []:=by unfold cr;rw [List.filter_cons_of_neg (by simpa using fun e:oC _ b b=>e.1 rfl)];rfl
    rw [e2,e3];have e4:ov b=none:=by
     cases BU:ov b with
     |none=>rfl
     |some n=>exact absurd (u3 b (O.R9 b n BU)).1 hn
    have e5:nt sz l b=0:=by
     unfold nt;have:(l.findSome? fun h=>sz h b)=none:=by
      rw [List.findSome?_eq_none_iff];intro y hy;cases IE:sz y b with
      |none=>rfl
      |some n=>exact absurd (Z.R9 y b n IE) hn
     rw [this];rfl
    unfold sx;rw [e4,e5];rfl
 ·rw [eD,lU]
  refine List.mem_append_left _ ?_;split at e
  ·exact(u3 b (O.R9 b n e)).1
  ·exact Z.R9 y b n e
noncomputable def zE(G:GS)(h:HT):List HT->List HT
 | []=> []
 |a::r=>(if oC G.D a h then [a]else [])++if fI G.D a h then []else cr G.D (eJ (G.kr a).merge (G.kr a).gu) h++zE G h r
theorem Up.inv{P:List Int}{i:Nat}{l:List Nat}(h:Up P i l):(i=0/\l= [0])\/∃(j:Nat) (r:List Nat),l=i::r/\P[i]? =some (j:Int)/\Up P j r:=by
 cases h with
 |root=>exact .inl ⟨rfl,rfl⟩
 |step h1 h2=>exact .inr ⟨_,_,rfl,h1,h2⟩
theorem dH.inv{D:DG}{P:List Int}(W:kP D)(H:sV D P){h:HT}{l:List HT}(hm:h∈ids D)(c:dH D P h l):
 (l= [h]/\∃nd,D[0]? =some nd/\nd.id=h)\/∃(s:HT) (r:List HT),l=h::r/\mf D P s h/\s∈ids D/\dH D P s r:=by
 rcases c with⟨hn,_⟩|⟨i,m,ks,h1,h2,h3,h4⟩
 ·exact absurd hm hn
 ·rcases h3.inv with⟨rfl,rfl⟩|⟨j,r,rfl,h5,h6⟩
  ·refine .inl ⟨?_,m,h1,h2⟩
   rw [h4,List.map_cons,List.map_nil,ot h1,h2]
  ·have hj:j<D.length:=by
    cases i with
    |zero=>rw [H.root]at h5;simp only [Option.some.injEq]at h5;omega
    |succ i=>
     obtain⟨j',m',e,_,h7,_⟩:=H.up (i+1) _ m (by omega) h5 h1;have:=(lgeS h7).1;omega
   obtain⟨mj,Qc⟩:∃mj,D[j]? =some mj:=⟨_,List.getElem?_eq_getElem hj⟩;refine .inr ⟨mj.id,r.map (ph D),?_,⟨i,j,m,mj,h1,h2,h5,Qc,rfl⟩,eI.2 ⟨mj,List.mem_of_getElem? Qc,rfl⟩,.inr ⟨j,mj,r,Qc,rfl,h6,rfl⟩⟩;rw [h4,List.map_cons,ot h1,h2]
theorem Q3{k:Nat}{G:GS}(H:lG k G)(h:HT):∀(l:List HT) (s:HT),s∈ids G.D->dH G.D G.P s l->(zE G h l).Nodup/\∀y,y∈zE G h l↔y∈cr G.D (G.world s++ [s]) h:=by
 intro l
 induction l with
 |nil=>
  intro s hs c;rcases c.inv H.W H.nz hs with⟨e,_⟩|⟨_,_,e,_⟩<;>cases e
 |cons a r ih=>
  intro s hs c;have key:∀(wb:List HT),G.world s=wb++eJ (G.kr s).merge (G.kr s).gu->(zE G h r).Nodup->(∀y,y∈zE G h r↔y∈cr G.D wb h)->a=s->(zE G h (a::r)).Nodup/\∀y,y∈zE G h (a::r)↔y∈cr G.D (G.world s++ [s]) h:=by
   rintro wb hw hn hy rfl;obtain⟨w1,w2,_⟩:=H.wd a hs;have abz:=fI.irrefl H.W a;rw [hw]at w1 w2⊢;rw [List.nodup_append]at w1;obtain⟨w3,w4,w5⟩:=w1;unfold zE;by_cases ha:fI G.D a h
   ·have LA:¬oC G.D a h:=fun e=>e.2.1 ha
    rw [if_pos ha,if_neg LA];refine⟨by simp,fun y=>?_⟩;simp only [List.append_nil,List.not_mem_nil,false_iff];intro e;obtain⟨e1,e2⟩:=gL.1 e;rcases List.mem_append.1 e1 with e1|e1
    ·exact e2.2.1 ((w2 y e1).trans ha)
    ·have:y=a:=by simpa using e1
     subst this;exact LA e2
   ·rw [if_neg ha]
    have hr:∀y∈zE G h r,y∈wb:=fun y e=>(gL.1 ((hy y).1 e)).1;refine⟨?_,fun y=>?_⟩
    ·refine List.nodup_append.2 ⟨by split<;>simp,List.nodup_append.2 ⟨w4.filter _,hn,?_⟩,?_⟩
     ·intro x hx z hz e
      subst e;exact w5 x (hr x hz) x (gL.1 hx).1 rfl
     ·intro x hx z hz e
      subst e;split at hx
      ·have:x=a:=by simpa using hx
       subst this;refine abz (w2 x ?_);rcases List.mem_append.1 hz with hz|hz
       ·exact List.mem_append_right _ (gL.1 hz).1
       ·exact List.mem_append_left _ (hr x hz)
      ·simp at hx
    ·rw [gz,gz]
     simp only [List.mem_append,hy];have e1:y∈(if oC G.D a h then [a]else [])↔y∈cr G.D [a] h:=by
      unfold cr;by_cases hp:oC G.D a h
      ·rw [if_pos hp,List.filter_cons_of_pos (by simpa using hp)];rfl
      ·rw [if_neg hp,List.filter_cons_of_neg (by simpa using hp)];rfl
     rw [e1];constructor
     ·rintro(e|e|e)
      ·exact .inr e
      ·exact .inl (.inr e)
      ·exact .inl (.inl e)
     ·rintro((e|e)|e)
      ·exact .inr (.inr e)
      ·exact .inr (.inl e)
      ·exact .inl e
  rcases c.inv H.W H.nz hs with⟨e,nd,h0,rfl⟩|⟨t,r',e,nu,ht,hc⟩
  ·obtain⟨r1,r2⟩:=H.root nd h0
   cases e;exact key [] (by rw [r2,r1];simp [eJ]) (by simp [zE]) (fun y=>by simp [zE,cr]) rfl
  ·cases e
   obtain⟨_,u2,_⟩:=H.up t a nu;obtain⟨i1,i2⟩:=ih t ht hc;exact key (G.world t++ [t]) u2 i1 i2 rfl
noncomputable def o9(G:GS)(h:HT)(bl l:List HT):List HT:=cr G.D bl h++zE G h l
theorem Mp{k:Nat}{G:GS}(H:lG k G){h s:HT}{l bl:List HT}(hs:s∈ids G.D)(hl:dH G.D G.P s l)(hn:(G.world s++ [s]++bl).Nodup):
 (o9 G h bl l).Nodup/\(o9 G h bl l).length=(cr G.D (G.world s++ [s]++bl) h).length/\∀y,y∈o9 G h bl l↔y∈cr G.D (G.world s++ [s]++bl) h:=by
 obtain⟨h1,h2⟩:=Q3 H h l s hs hl;have h0:=hn;rw [List.nodup_append]at hn;obtain⟨n1,n2,n3⟩:=hn;have hm:∀y,y∈o9 G h bl l↔y∈cr G.D (G.world s++ [s]++bl) h:=fun y=>by
  unfold o9;rw [gz,List.mem_append,List.mem_append,h2];exact Or.comm
 have gQ:(o9 G h bl l).Nodup:=by
  refine List.nodup_append.2 ⟨n2.filter _,h1,?_⟩;intro x hx z hz e;subst e;exact n3 x (gL.1 ((h2 x).1 hz)).1 x (gL.1 hx).1 rfl
 exact⟨gQ,((List.perm_ext_iff_of_nodup gQ (h0.filter _)).2 hm).length_eq,hm⟩
def sh(k:Nat)(kn:HT->Nat)(done:List HT)(b:HT):Bool:=decide (done.length+1<=k/\kn b<k)
def fK(k:Nat)(kn:HT->Nat):List HT->List HT->Bool
 |_,[]=>true
 |done,b::l=>sh k kn done b&&fK k kn (done++ [b]) l
theorem qi{k:Nat}{kn:HT->Nat}:∀ {l done:List HT},fK k kn done l=true↔(l≠ []->done.length+l.length<=k)/\∀b∈l,kn b<k
 | [],done=>by simp [fK]
 |b::l,done=>by
  unfold fK sh;rw [Bool.and_eq_true,decide_eq_true_eq,qi];simp only [List.length_append,List.length_cons,List.length_nil,List.mem_cons,forall_eq_or_imp,ne_eq,reduceCtorEq,not_false_eq_true,forall_const];constructor
  ·rintro⟨⟨h1,h2⟩,h3,h4⟩
   refine⟨?_,h2,h4⟩;by_cases e:l= []
   ·subst e;simpa using h1
   ·have:=h3 e;omega
  ·rintro⟨h1,h2,h3⟩
   refine⟨⟨by omega,h2⟩,fun _=>by omega,h3⟩
theorem mV{k:Nat}{kn:HT->Nat}:∀ {l m done:List HT},fK k kn done (l++m)=(fK k kn done l&&fK k kn (done++l) m)
 | [],m,done=>by simp [fK]
 |b::l,m,done=>by
  simp only [List.cons_append,fK,mV (l:=l),Bool.and_assoc,List.append_assoc,List.nil_append]
theorem Jy{k:Nat}{D:DG}{wd:List HT}{kn:HT->Nat}{h:HT}{c:List HT}(hk:∀b∈wd,kn b=(cr D wd b).length)(hl:c.length=(cr D wd h).length)(hm:∀y,y∈c↔y∈cr D wd h):
 fK k kn [] c=qX k D wd h:=by
 rw [Bool.eq_iff_iff,qi];unfold qX;rw [decide_eq_true_eq];simp only [List.length_nil,Nat.zero_add,<-hl];constructor
 ·rintro⟨h1,h2⟩
  refine⟨?_,fun y hy=>?_⟩
  ·by_cases e:c= []
   ·subst e;simp
   ·exact h1 e
  ·have:=h2 y ((hm y).2 hy)
   rw [hk y (gL.1 hy).1]at this;omega
 ·rintro⟨h1,h2⟩
  refine⟨fun _=>h1,fun y hy=>?_⟩;have hy:=(hm y).1 hy;rw [hk y (gL.1 hy).1];have:=h2 y hy;omega
open Go.RowKit
theorem HY:xA fG fL (.pointer none):=⟨by kernel_rfl,uP (by kernel_rfl)⟩
theorem sk:xA cV iu (.int .i64 0):=⟨by kernel_rfl,uP (by kernel_rfl)⟩
structure Bo(w:World)(A:Option Addr)(n:Nat)(l:List Bool):Prop where
 len:l.length=n
 at_:∀(i:Nat) (b:Bool),l[i]? =some b->∃a,A=some a/\a.block<w.heap.size/\w.cell? (a.add i)=some (.bool b)
theorem Bo.aK{S:Nat->Prop}{w w':World}{A:Option Addr}{n:Nat}{l:List Bool}(h:Bo w A n l)(hk:Kept S w w')(hn:∀a,A=some a->¬S a.block):Bo w' A n l:=⟨h.len,fun i x hi=>by
 obtain⟨a,h1,h2,h3⟩:=h.at_ i x hi;exact⟨a,h1,Nat.lt_of_lt_of_le h2 hk.size,hk.cell h3 (by rw [fw];exact hn a h1)⟩⟩
theorem Bo.same{w w':World}{A:Option Addr}{n:Nat}{l:List Bool}(h:Bo w A n l)(hk:Kept Nil w w'):Bo w' A n l:=h.aK hk fun _ _ h=>h
def KM(ov:HT->Option Nat)(b:HT):Option Value:=(ov b).map fun n:Nat=>.int .i64 (n:Int)
def G3(w:World)(F:Nat->Prop)(sm:Option Nat)(sz:HT->Option Nat):Prop:=
 (sm=none/\∀b,sz b=none)\/∃s,sm=some s/\F s/\gh w s (KM sz)
def dp(c:pB)(A:Option Addr)(n cp:Nat)(B:Option Addr)(m cq:Nat):Array Value:=c.nz.1++ #[.int .u64 (c.score:Int),.slice A n cp,.slice B m cq]
structure qY(w:World)(F:Nat->Prop)(q:Nat)(c:pB)(sz:HT->Option Nat)(A:Option Addr)(n cp:Nat)(B:Option Addr)(m cq:Nat)(sm:Option Nat):Prop where
 top:w.heap[q]? =some (.cells (dp c A n cp B m cq++ #[.map sm]) eK (0,0))
 mg:HS w A n c.merge
 bl:Bo w B m c.gu
 fA:∀a,A=some a->F a.block
 fB:∀a,B=some a->F a.block
 sz:G3 w F sm sz
 fq:F q
def Seen(w:World)(F:Nat->Prop)(q:Nat)(c:pB)(sz:HT->Option Nat):Prop:=∃A n cp B m cq sm,qY w F q c sz A n cp B m cq sm
section
variable{w w':World}{F S:Nat->Prop}{q:Nat}{c:pB}{sz:HT->Option Nat}{A B:Option Addr}{n cp m cq:Nat}{sm:Option Nat}
theorem G3.aK(h:G3 w F sm sz)(hk:Kept S w w')(hF:∀j,F j->¬S j):G3 w' F sm sz:=by
 rcases h with h|⟨s,h1,h2,h3⟩
 ·exact .inl h
 ·exact .inr ⟨s,h1,h2,h3.aK hk (hF _ h2)⟩
theorem qY.aK(h:qY w F q c sz A n cp B m cq sm)(hk:Kept S w w')(hF:∀j,F j->¬S j):qY w' F q c sz A n cp B m cq sm:=
 ⟨hk.heap h.top (hF _ h.fq),h.mg.aK hk (fun a ha=>hF _ (h.fA a ha)),h.bl.aK hk (fun a ha=>hF _ (h.fB a ha)),h.fA,h.fB,h.sz.aK hk hF,h.fq⟩
theorem Seen.aK(h:Seen w F q c sz)(hk:Kept S w w')(hF:∀j,F j->¬S j):Seen w' F q c sz:=by
 obtain⟨A,n,cp,B,m,cq,sm,h⟩:=h;exact⟨A,n,cp,B,m,cq,sm,h.aK hk hF⟩
theorem bJ(c:pB)(A:Option Addr)(n cp:Nat)(B:Option Addr)(m cq:Nat):(dp c A n cp B m cq).size=35:=by
 unfold dp;rw [Array.size_append,c.nz.2.1];rfl
theorem gU(c:pB)(A:Option Addr)(n cp:Nat)(B:Option Addr)(m cq:Nat)(r:Array Value):
 ((dp c A n cp B m cq)++r)[32]? =some (.int .u64 (c.score:Int))/\((dp c A n cp B m cq)++r)[33]? =some (.slice A n cp)/\((dp c A n cp B m cq)++r)[34]? =some (.slice B m cq)/\((dp c A n cp B m cq)++r)[35]? =r[0]? :=by
 have hs:=bJ c A n cp B m cq;have h0:c.nz.1.size=32:=c.nz.2.1;refine⟨?_,?_,?_,?_⟩
 ·rw [Array.getElem?_append_left (by omega)];unfold dp;rw [Array.getElem?_append_right (by omega),h0];rfl
 ·rw [Array.getElem?_append_left (by omega)];unfold dp;rw [Array.getElem?_append_right (by omega),h0];rfl
 ·rw [Array.getElem?_append_left (by omega)];unfold dp;rw [Array.getElem?_append_right (by omega),h0];rfl
 ·rw [Array.getElem?_append_right (by omega),hs]
theorem qY.Xd(h:qY w F q c sz A n cp B m cq sm):w.cell? (((⟨q,0,none⟩:Addr).add 0).add 32)=some (.int .u64 (c.score:Int)):=by
 rw [add_zero,bE,aE h.top];exact(gU ..).1
theorem qY.c35(h:qY w F q c sz A n cp B m cq sm):w.cell? ((⟨q,0,none⟩:Addr).add 35)=some (.map sm):=by
 rw [bE,aE h.top];exact(gU ..).2.2.2
theorem qY.kr(h:qY w F q c sz A n cp B m cq sm):Cells w ((⟨q,0,none⟩:Addr).add 0) (dp c A n cp B m cq):=by
 intro j u hj;rw [add_zero,bE,aE h.top,Array.getElem?_append_left (by rw [bJ];have:=(Array.getElem?_eq_some_iff.1 hj).1;rw [bJ]at this;omega)];rw [Nat.zero_add];exact hj
end
structure CM where
 x:Nat
 mb:Nat
 SX:Nat->Prop
 FX:Nat->Prop
 q:HT->Nat
 sz:HT->HT->Option Nat
def CM.own(m:CM)(c j:Nat):Prop:=m.SX j\/j=c\/j=m.mb
structure CV(w:World)(F:Nat->Prop)(c:Nat)(k:Nat)(G:GS)(m:CM):Prop where
 top:w.heap[c]? =some (.cells #[.int .i64 (k:Int),.pointer (some ⟨m.x,0,none⟩),.map (some m.mb)] iJ (0,0))
 X:DP w m.SX m.FX m.x G.D G.P
 all:gh w m.mb fun h=>if h∈ids G.D then some (.pointer (some ⟨m.q h,0,none⟩))else none
 seen:∀h∈ids G.D,Seen w F (m.q h) (G.kr h) (m.sz h)
 iC:lG k G
 Z:SZ G m.sz
 fx:∀j,m.FX j->F j
 fo:∀j,F j->¬m.own c j
 so:∀j,m.SX j->j≠c/\j≠m.mb
 ne:c≠m.mb
 low:∀j,m.own c j\/F j->j<w.heap.size
section
variable{w w':World}{F S:Nat->Prop}{c k:Nat}{G:GS}{m:CM}{K:Value->World->Prop}
theorem CV.aK{S0:Nat->Prop}(h:CV w F c k G m)(hk:Kept S0 w w')(hS:∀j,m.own c j->¬S0 j)(hF:∀j,F j->¬S0 j):CV w' F c k G m where
 top:=hk.heap h.top (hS _ (.inr (.inl rfl)))
 X:=h.X.aK hk (fun j e=>hS j (.inl e)) (fun j e=>hF j (h.fx j e))
 all:=h.all.aK hk (hS _ (.inr (.inr rfl)))
 seen:=fun y hy=>(h.seen y hy).aK hk hF
 iC:=h.iC
 Z:=h.Z
 fx:=h.fx
 fo:=h.fo
 so:=h.so
 ne:=h.ne
 low:=fun j e=>Nat.lt_of_lt_of_le (h.low j e) hk.size
theorem CV.same(h:CV w F c k G m)(hk:Kept Nil w w'):CV w' F c k G m:=h.aK hk (fun _ _ h=>h) (fun _ _ h=>h)
theorem CV.c0(h:CV w F c k G m):w.cell? ((⟨c,0,none⟩:Addr).add 0)=some (.int .i64 (k:Int)):=by rw [bE,aE h.top];rfl
theorem CV.c1(h:CV w F c k G m):w.cell? ((⟨c,0,none⟩:Addr).add 1)=some (.pointer (some ⟨m.x,0,none⟩)):=by rw [bE,aE h.top];rfl
theorem CV.c2(h:CV w F c k G m):w.cell? ((⟨c,0,none⟩:Addr).add 2)=some (.map (some m.mb)):=by rw [bE,aE h.top];rfl
theorem CV.look(h:CV w F c k G m)(y:HT):(Instr.lookup fG (.map (some m.mb)) (.agg y.1) false).run prog w=.ok (.pointer (if y∈ids G.D then some ⟨m.q y,0,none⟩else none)) w:=by
 have:=h.all.look HY y;by_cases hy:y∈ids G.D
 ·rw [if_pos hy]at this;rw [if_pos hy];exact this
 ·rw [if_neg hy]at this;rw [if_neg hy];exact this
theorem CV.qT(h:CV w F c k G m){y:HT}(hy:y∈ids G.D):(Instr.lookup fG (.map (some m.mb)) (.agg y.1) false).run prog w=.ok (.pointer (some ⟨m.q y,0,none⟩)) w:=by
 have:=h.look y;rwa [if_pos hy]at this
theorem uo(h:CV w F c k G m)(hK:K (.bool true) w):bG prog eQ.id #[.pointer (some ⟨c,0,none⟩)] w K:=
 eQ.of (Split.yes rfl ⟨_,h.c1,hK⟩)
theorem GK{A:Addr}{x y:Int}{cx:Nat}(h0:w.cell? A=some (.int .i64 x))(h1:w.cell? (A.add 1)=some (.int .i64 y))(hK:K (.int .i64 (if x=0 then y else x)) w):
 bG prog bU.id #[.slice (some A) 2 cx] w K:=by
 refine bU.of ?_;unfold bU.W;refine bU.cJ (I:=fun s w'=>w'=w/\((s=(0,0))\/(s=(0,1)/\x=0)\/(s=(0,2)/\x=0/\y=0))) (μ:=fun s _=>(2-s.2).toNat) (s:=(0,0)) ⟨rfl,.inl rfl⟩ ?_;rintro s w' ⟨rfl,h⟩;rcases h with rfl|⟨rfl,hx⟩|⟨rfl,hx,hy⟩
 ·refine Split.yes rfl ⟨by simp only;omega,x,by rw [show(0:Int).toNat*1=0 from rfl,add_zero];exact h0,?_⟩
  by_cases hx:x=0
  ·refine Split.no (by simp [hx]) ?_
   exact⟨(0,1),rfl,⟨rfl,.inr (.inl ⟨rfl,hx⟩)⟩,by simp only;omega⟩
  ·refine Split.yes (by simpa using hx) ?_
   rw [if_neg hx]at hK;rw [iS];exact hK
 ·refine Split.yes rfl ⟨by simp only;omega,y,h1,?_⟩
  rw [if_pos hx]at hK;by_cases hy:y=0
  ·refine Split.no (by simp [hy]) ?_
   exact⟨(0,2),rfl,⟨rfl,.inr (.inr ⟨rfl,hx,hy⟩)⟩,by simp only;omega⟩
  ·refine Split.yes (by simpa using hy) ?_
   rw [iS];exact hK
 ·refine Split.no rfl ?_
  rw [aU,bU.dz];rw [if_pos hx,hy]at hK;exact hK
theorem Du{x y:Int}(hK:K (.int .i64 (if x<y then-1 else if y<x then 1 else 0)) w):bG prog dR.id #[.int .u64 x,.int .u64 y] w K:=by
 refine dR.of ?_;refine fN.of ⟨_,rfl,?_⟩;refine fN.of ⟨_,rfl,?_⟩;refine Split.no (by simp) (Split.no (by simp) (Split.dec (fun h=>?_) (fun h=>Split.dec (fun h'=>?_) (fun h'=>?_))))
 ·rw [if_pos h]at hK;exact hK
 ·rw [if_neg h,if_pos h']at hK;exact hK
 ·rw [if_neg h,if_neg h']at hK;exact hK
theorem uq(h:CV w F c k G m){a b:HT}(ha:a∈ids G.D)(hb:b∈ids G.D)(hK:∀w',Kept Nil w w'->K (.int .i64 (BA G a b)) w'):
 bG prog dv.id #[.pointer (some ⟨c,0,none⟩),.agg a.1,.agg b.1] w K:=by
 refine dv.of ?_;unfold dv.W;intro w4 w5 w6;have k4:Kept Nil w w4:=(Kept.refl _ _).alloc _;have Db:w4.heap[w.heap.size]? =some (.cells a.1 al (0,0)):=aM w _;have k5:Kept Nil w4 w5:=(Kept.refl _ _).alloc _;have pF:w5.heap[w4.heap.size]? =some (.cells b.1 al (0,0)):=aM w4 _;have k6:Kept Nil w5 w6:=(Kept.refl _ _).drew;clear_value w6;have xm:=(k5.tt k6).heap Db (fun h=>h);have p7:=k6.heap pF (fun h=>h);have np:=(k4.tt k5).tt k6;have h6:=h.same np;obtain⟨A1,n1,c1,B1,m1,d1,s1,sa⟩:=h6.seen a ha;obtain⟨A2,n2,c2,B2,m2,d2,s2,sb⟩:=h6.seen b hb;refine⟨_,h6.c2,a.1,⟨a.2.1,Cells.bV xm⟩,_,h6.qT ha,_,sa.Xd,_,h6.c2,b.1,⟨b.2.1,Cells.bV p7⟩,_,h6.qT hb,_,sb.Xd,a.1,⟨a.2.1,Cells.bV xm⟩,b.1,⟨b.2.1,Cells.bV p7⟩,?_⟩;refine Du ⟨_,rfl,⟨b.1,rfl,b.2.1,Cells.bV p7⟩,⟨a.1,rfl,a.2.1,Cells.bV xm⟩,?_⟩;refine qg a b ⟨_,rfl,?_⟩;have k7:Kept Nil w6 ((w6.alloc (.cells a.1 al)).alloc (.cells b.1 al)).drew:=(((Kept.refl Nil w6).alloc _).alloc _).drew;generalize ((w6.alloc (.cells a.1 al)).alloc (.cells b.1 al)).drew=w7 at k7⊢;intro w8;have k8:Kept Nil w7 w8:=(Kept.refl _ _).alloc _;have NZ:w8.heap[w7.heap.size]? =some (.cells _ _ (0,0)):=aM w7 _;clear_value w8;refine GK (A:=⟨w7.heap.size,0,none⟩) (by rw [aE NZ];rfl) (by rw [bE,aE NZ];rfl) ⟨_,rfl,?_⟩;have e:(if(if((G.kr a).score:Int)<((G.kr b).score:Int)then(-1:Int)else if((G.kr b).score:Int)<((G.kr a).score:Int)then 1 else 0)=0 then lX a b else if((G.kr a).score:Int)<((G.kr b).score:Int)then(-1:Int)else if((G.kr b).score:Int)<((G.kr a).score:Int)then 1 else 0)=BA G a b:=by
  rw [Mn];unfold GS.score;by_cases h1:(G.kr a).score<(G.kr b).score
  ·have um:((G.kr a).score:Int)<((G.kr b).score:Int):=by omega
   rw [if_pos h1,if_pos um,if_neg (by decide)]
  ·have um:¬((G.kr a).score:Int)<((G.kr b).score:Int):=by omega
   by_cases h2:(G.kr b).score<(G.kr a).score
   ·have v7:((G.kr b).score:Int)<((G.kr a).score:Int):=by omega
    rw [if_neg h1,if_neg um,if_pos h2,if_pos v7,if_neg (by decide)]
   ·have v7:¬((G.kr b).score:Int)<((G.kr a).score:Int):=by omega
    rw [if_neg h1,if_neg um,if_neg h2,if_neg v7,if_pos rfl]
 rw [e];exact hK _ ((np.tt k7).tt k8)
end
section
variable{w:World}
theorem gh.El{mt te:TypeId}{z:Value}(T:xA mt te z){m:Nat}{f:HT->Option Value}(hm:gh w m f)(h:HT):
 (Instr.lookup mt (.map (some m)) (.agg h.1) true).run prog w=.ok (.tuple #[(f h).getD z,.bool (f h).isSome]) w:=by
 obtain⟨es,clock,l,h1,h2,h3,_⟩:=hm.ex;have h4:=mw h w h2;have h5:=nI h l 0;rw [h3]at h5;simp only [Instr.lookup,Sem.run_bind,run_underlying T.pE,qd h1,Result.andThen_ok,Sem.run_pure,jJ,h4];cases hp:mv h l 0 with
 |none=>rw [hp]at h5;simp [<-h5,T.zero]
 |some p=>rw [hp]at h5;simp [<-h5]
theorem Cy{mt te:TypeId}{z:Value}(T:xA mt te z)(h:HT):
 (Instr.lookup mt (.map none) (.agg h.1) true).run prog w=.ok (.tuple #[z,.bool false]) w:=by
 have h3:=mw (es:= []) (l:= []) h w trivial;simp only [Instr.lookup,Sem.run_bind,run_underlying T.pE,Result.andThen_ok,Sem.run_pure,jJ];simp [h3,mv,T.zero]
theorem G3.El{F:Nat->Prop}{sm:Option Nat}{sz:HT->Option Nat}(h:G3 w F sm sz)(b:HT):
 (Instr.lookup cV (.map sm) (.agg b.1) true).run prog w=.ok (.tuple #[.int .i64 (((sz b).getD 0:Nat):Int),.bool (sz b).isSome]) w:=by
 rcases h with⟨rfl,h⟩|⟨s,rfl,_,h⟩
 ·rw [h b];exact Cy sk b
 ·have:=h.El sk b
  unfold KM at this;cases hb:sz b with
  |none=>rw [hb]at this;exact this
  |some n=>rw [hb]at this;exact this
end
section
variable{w w':World}{F S:Nat->Prop}{c k:Nat}{G:GS}{m:CM}{K:Value->World->Prop}
theorem Bn(h:CV w F c k G m)(hD:G.D.length<=5000)(a b:HT)(hK:∀w' (r:Bool),(r=true↔oC G.D a b)->Kept Nil w w'->K (.bool r) w'):
 bG prog dD.id #[.pointer (some ⟨c,0,none⟩),.agg a.1,.agg b.1] w K:=by
 refine dD.of ?_;unfold dD.W;intro w4 w5 w6;have k4:Kept Nil w w4:=(Kept.refl _ _).alloc _;have Db:w4.heap[w.heap.size]? =some (.cells a.1 al (0,0)):=aM w _;have k5:Kept Nil w4 w5:=(Kept.refl _ _).alloc _;have pF:w5.heap[w4.heap.size]? =some (.cells b.1 al (0,0)):=aM w4 _;have k6:Kept Nil w5 w6:=(Kept.refl _ _).drew;clear_value w6;have xm:=(k5.tt k6).heap Db (fun h=>h);have p7:=k6.heap pF (fun h=>h);have np:=(k4.tt k5).tt k6;have h6:=h.same np;refine⟨a.1,⟨a.2.1,Cells.bV xm⟩,b.1,⟨b.2.1,Cells.bV p7⟩,⟨a.2.ints,b.2.ints⟩,?_⟩;rw [fz];by_cases nv:a=b
 ·refine Split.no (by rw [decide_eq_true nv];rfl) (hK w6 false ⟨(fun e=>by cases e),fun e=>absurd nv e.1⟩ np)
 ·refine Split.yes (by rw [decide_eq_false nv];rfl) ⟨_,h6.c1,a.1,⟨a.2.1,Cells.bV xm⟩,b.1,⟨b.2.1,Cells.bV p7⟩,?_⟩
  obtain⟨mx,X6,_⟩:=h6.X;refine lu X6 hD a b fun w7 r hr k7=>⟨_,rfl,?_⟩;have tu:=np.tt k7;cases r with
  |true=>exact Split.no rfl (hK w7 false ⟨(fun e=>by cases e),fun e=>absurd (hr.1 rfl) e.2.1⟩ tu)
  |false=>
   have h7:=h.same tu;refine Split.yes rfl ⟨_,h7.c1,b.1,⟨b.2.1,Cells.bV (k7.heap p7 (fun h=>h))⟩,a.1,⟨a.2.1,Cells.bV (k7.heap xm (fun h=>h))⟩,?_⟩;obtain⟨mx',X7,_⟩:=h7.X;refine lu X7 hD b a fun w8 r' RP k8=>⟨_,rfl,hK w8 _ ?_ (tu.tt k8)⟩;cases r' with
   |true=>exact⟨(fun e=>by cases e),fun e=>absurd (RP.1 rfl) e.2.2⟩
   |false=>exact⟨fun _=>⟨nv,(fun e=>by have:=hr.2 e;cases this),(fun e=>by have:=RP.2 e;cases this)⟩,fun _=>rfl⟩
def lE(D:DG)(l:List HT):Int:=if l= []then 9 else if ∃p∈l,p∉ids D then 6 else 0
theorem yn(h:CV w F c k G m){A:Option Addr}{n cx:Nat}{l:List HT}(hl:HS w A n l)(hn:n<=400000)(hK:∀w',Kept Nil w w'->K (.int .i64 (lE G.D l)) w'):
 bG prog eV.id #[.pointer (some ⟨c,0,none⟩),.slice A n cx] w K:=by
 have hlen:=hl.len;refine eV.of ?_;unfold eV.W;intro w4;have k4:Kept Nil w w4:=(Kept.refl _ _).alloc _;have NL:w4.heap[w.heap.size]? =some (.cells #[.pointer (some ⟨c,0,none⟩)] dG (0,0)):=aM w _;clear_value w4;refine⟨some ⟨c,0,none⟩,by rw [aE NL];rfl,uo (h.same k4) ⟨_,rfl,Split.no rfl ?_⟩⟩;by_cases h0:n=0
 ·subst h0
  have e:l= []:=List.eq_nil_of_length_eq_zero hlen;refine Split.yes rfl ?_;have:=hK w4 k4;unfold lE at this;rw [if_pos e]at this;exact this
 ·have fX:l≠ []:=fun e=>by subst e;exact h0 hlen.symm
  refine Split.no (by simpa using (by omega:¬(n:Int)=0)) ?_;refine cC.of (au.of ?_);refine au.cJ (I:=fun s w'=>∃i:Nat,s=(0,(i:Int))/\i<=n/\(∀p∈l.take i,p∈ids G.D)/\Kept Nil w4 w') (μ:=fun s _=>((n:Int)-s.2).toNat) (s:=(0,0)) ⟨0,rfl,Nat.zero_le _,by simp,Kept.refl _ _⟩ ?_;rintro s w' ⟨i,rfl,hi,cY,kw⟩;have k0w:=k4.tt kw;refine Split.dec (fun jZ=>?_) (fun gH=>?_)
  ·simp only at jZ
   have dX:i<n:=by omega
   obtain⟨y,hy⟩:∃y,l[i]? =some y:=⟨_,List.getElem?_eq_getElem (by omega)⟩;refine(hl.same k0w).load (i:=(i:Int)) (by omega) hy ?_;refine fc.of ?_;unfold fc.W;intro w7 w8;have k7:Kept Nil w' w7:=(Kept.refl _ _).alloc _;have hb7:w7.heap[w'.heap.size]? =some (.cells y.1 al (0,0)):=aM w' _;have k8:Kept Nil w7 w8:=(Kept.refl _ _).drew;clear_value w8;have NZ:=k8.heap hb7 (fun h=>h);have RB:=(kw.tt k7).tt k8;have h8:=h.same (k4.tt RB);refine⟨some ⟨c,0,none⟩,by rw [aE (RB.heap NL (fun h=>h))];rfl,_,h8.c2,y.1,⟨y.2.1,Cells.bV NZ⟩,_,h8.look y,_,rfl,?_⟩;by_cases hm:y∈ids G.D
   ·refine Split.no (by rw [if_pos hm];rfl) ?_
    simp only;rw [dF (n:=(i:Int)) (by omega) (by omega)];refine⟨(0,(i:Int)+1),rfl,⟨i+1,rfl,dX,fun p hp=>?_,RB⟩,by simp only;omega⟩;rcases(bP hy).1 hp with hp|rfl
    ·exact cY p hp
    ·exact hm
   ·refine Split.yes (by rw [if_neg hm];rfl) ?_
    refine⟨(i:Int),rfl,_,rfl,?_⟩;have:=hK w8 (k4.tt RB);unfold lE at this;rw [if_neg fX,if_pos ⟨y,List.mem_of_getElem? hy,hm⟩]at this;refine Split.yes (decide_eq_true (by omega)) this
  ·simp only at gH
   rw [aU,au.dz];rw [List.take_of_length_le (by omega)]at cY;refine⟨_,rfl,_,rfl,?_⟩;have:=hK w' k0w;unfold lE at this;rw [if_neg fX,if_neg (fun⟨p,hp,hn⟩=>hn (cY p hp))]at this;exact Split.no (by decide) this
end
theorem uv{α β:Type}{f:α->Option β}{y:α}{n:β}:∀ {l:List α} {j:Nat},l[j]? =some y->(∀x∈l.take j,f x=none)->f y=some n->l.findSome? f=some n
 | [],j,h,_,_=>by simp at h
 |x::l,0,h,_,hy=>by
  simp only [List.getElem?_cons_zero,Option.some.injEq]at h;subst h;rw [List.findSome?_cons,hy]
 |x::l,j+1,h,ha,hy=>by
  have hx:=ha x (by simp);rw [List.findSome?_cons,hx];exact uv (l:=l) (j:=j) (by simpa using h) (fun z hz=>ha z (by simp [hz])) hy
section
variable{w w':World}{F S:Nat->Prop}{c k:Nat}{G:GS}{m:CM}{K:Value->World->Prop}
theorem De(h:CV w F c k G m)(hD:G.D.length<=5000){a b:HT}(ha:a∈ids G.D){l:List HT}(hc:dH G.D G.P a l)(hK:∀w',Kept Nil w w'->K (.int .i64 ((nt m.sz l b:Nat):Int)) w'):
 bG prog bz.id #[.pointer (some ⟨c,0,none⟩),.agg a.1,.agg b.1] w K:=by
 have W:=h.iC.W;have H:=h.iC.nz;have Yk:∀y∈l,y∈ids G.D:=fun y hy=>((hc.mem W H).1 hy).mem.1;refine bz.of ?_;unfold bz.W;intro w4 w5 w6 w7 w8;have k4:Kept Nil w w4:=(Kept.refl _ _).alloc _;have NL:w4.heap[w.heap.size]? =some (.cells #[.pointer (some ⟨c,0,none⟩)] dG (0,0)):=aM w _;have k5:Kept Nil w4 w5:=(Kept.refl _ _).alloc _;have L6:w5.heap[w4.heap.size]? =some (.cells a.1 al (0,0)):=aM w4 _;have k6:Kept Nil w5 w6:=(Kept.refl _ _).alloc _;have p7:w6.heap[w5.heap.size]? =some (.cells b.1 al (0,0)):=aM w5 _;have k7:Kept Nil w6 w7:=(Kept.refl _ _).alloc _;have Nl:w7.heap[w6.heap.size]? =some (.cells #[.int .i64 0] iu (0,0)):=aM w6 _;have k8:Kept Nil w7 w8:=(Kept.refl _ _).drew;clear_value w8;have Yb:=k8.heap Nl (fun h=>h);have NZ:=k8.heap (k7.heap p7 (fun h=>h)) (fun h=>h);have ha8:=k8.heap (k7.heap (k6.heap L6 (fun h=>h)) (fun h=>h)) (fun h=>h);have hc8:=k8.heap (k7.heap (k6.heap (k5.heap NL (fun h=>h)) (fun h=>h)) (fun h=>h)) (fun h=>h);have zx:=(((k4.tt k5).tt k6).tt k7).tt k8;have s06:=(((k4.tt k5).tt k6)).size;have l7:=bf Nl;have l8:=bf Yb;clear_value w7 w6 w5 w4;refine⟨some ⟨c,0,none⟩,by rw [aE hc8];rfl,_,(h.same zx).c1,a.1,⟨a.2.1,Cells.bV ha8⟩,?_⟩;refine tW a fun jG pb qb nn Lv Lt vT hqb=>⟨_,rfl,?_⟩;have Zq:=nn.size;have Iq:=zx.tt nn;have P4:=nn.heap Yb (fun h=>h)
 let Dk:Value:=.func (.func bt.id) #[] #[.pointer (some ⟨pb,0,none⟩),.pointer (some ⟨qb,0,none⟩)]
 let ρ0:Env:= [(3,.pointer (some ⟨w.heap.size,0,none⟩)),(5,.pointer (some ⟨w5.heap.size,0,none⟩)),(6,.pointer (some ⟨w6.heap.size,0,none⟩)),(15,Dk)]
 let J:Nat->World->Prop:=fun j u=>Kept Nil jG u/\j<=l.length/\∀y∈l.take j,m.sz y b=none
 let Jd:Code->World->Prop:=fun e u=>e=.ret/\Kept (fun k=>k=w6.heap.size) jG u/\∃n:Nat,(l.findSome? fun y=>m.sz y b)=some n/\u.heap[w6.heap.size]? =some (.cells #[.int .i64 (n:Int)] iu (0,0))
 have k0J:∀ {u:World},Kept Nil jG u->Kept Nil w u:=fun k=>Iq.tt k;have kS:∀ {v:World},Kept (fun k=>k=w6.heap.size) jG v->Kept Nil w v:=fun k=>Iq.trans k (fun k hk e=>by omega);obtain⟨mx,X35,_⟩:=(h.same Iq).X
 change Holds none [] prog _ _ _ ρ0 jG
 refine oM (n:=33) (ρ:=ρ0) (ρ0:=ρ0) ng mix bz.k (t:=15) (ps:= #[16]) (by kernel_rfl) (by decide) rfl bt.at_ rfl (.inl rfl) (fun i x hi hx=>hx) rfl sJ l (fun _=>rfl) (fun q hq=>by
  have e49:q=16:=by simpa using hq
  subst e49;exact⟨by decide,by decide⟩) (DY (F:=m.FX) (x:=m.x) (m:=mx) (pb:=pb) (qb:=qb) hc (by omega)) J Jd ?_ ?_ (fun j u hJ=>⟨X35.same hJ.1,hJ.1.heap Lv (fun h=>h),hJ.1.heap Lt (fun h=>h)⟩) ?_ ?_ ?_ ?_ ?_
 ·rintro j u1 u2 R rC ⟨h1,h2,h3⟩ o7
  exact⟨h1.trans o7 (fun k hk e=>by omega),h2,h3⟩
 ·rintro e u1 u2 R rC ⟨h1,h2,n,h3,h4⟩ o7
  exact⟨h1,h2.trans o7 (fun k hk e=>by omega),n,h3,o7.heap h4 (by omega)⟩
 ·intro R
  exact⟨(((Kept.refl _ _).alloc _).alloc _),Nat.zero_le _,by simp⟩
 ·rintro j z u1 R hz ⟨h1,h2,h3⟩ rC
  have e7:mo ρ0 ((#[16]:Array Nat).toList.zip (sJ z))= [(3,.pointer (some ⟨w.heap.size,0,none⟩)),(5,.pointer (some ⟨w5.heap.size,0,none⟩)),(6,.pointer (some ⟨w6.heap.size,0,none⟩)),(15,Dk),(16,.agg z.1)]:=rfl;rw [e7,bz.a1];have uV:=(lgeS hz).1;unfold bz.A1;intro Rv;obtain⟨tA,kh,kH⟩:=iP (w:=u1) (z:=fH.1) (cs:=z.1) (t:=al) (by rw [z.2.1];rfl);refine⟨⟨z.2.1,z.2.one,fun j hj=>tA j (by rw [z.2.1];exact hj)⟩,?_⟩;intro Mz
  replace kh:Mz.heap[u1.heap.size]? =some (.cells z.1 al (0,0)):=kh
  replace kH:Kept Nil u1 Mz:=kH
  clear_value Mz;have IY:=rC.aK kH (fun h=>h) (fun h=>h);refine⟨IY,fun w2 R2 o5 uH=>?_⟩;have nH:=o5.heap kh (lO kh IY.loop);have wX:Kept Nil jG w2:=(h1.tt kH).trans o5 (fun k hk e=>by omega);rw [bz.y1];unfold bz.Y1;intro Sq;have ZY:Kept Nil w2 Sq:=(Kept.refl _ _).drew;clear_value Sq;have Vb:=uH.aK ZY (fun h=>h) (fun h=>h);have AQ:=wX.tt ZY;have Pd:=nn.tt AQ;have h48:=h.same (zx.tt Pd);obtain⟨A1,n1,c1,B1,m1,d1,s1,sa⟩:=h48.seen z (Yk z (List.mem_of_getElem? hz));refine⟨some ⟨c,0,none⟩,by rw [aE (Pd.heap hc8 (fun h=>h))];rfl,_,h48.c2,z.1,⟨z.2.1,Cells.bV (ZY.heap nH (fun h=>h))⟩,_,h48.qT (Yk z (List.mem_of_getElem? hz)),_,sa.c35,b.1,⟨b.2.1,Cells.bV (Pd.heap NZ (fun h=>h))⟩,_,_,sa.sz.El b,?_⟩;cases hzb:m.sz z b with
  |some n=>
   refine Split.yes rfl ⟨dQ (AQ.heap P4 (fun h=>h)) (by simp),?_⟩;intro qZ;have P0:qZ.heap[w6.heap.size]? =some (.cells #[.int .i64 (n:Int)] iu (0,0)):=by
    show(Sq.setCell ⟨w6.heap.size,0,none⟩ (.int .i64 (n:Int))).heap[w6.heap.size]? =_;rw [du (AQ.heap P4 (fun h=>h)) 0];rfl
   have Gc:Kept (· =w6.heap.size) Sq qZ:=Kept.setCell (S:=fun k=>k=w6.heap.size) (Kept.refl _ Sq) (p:=⟨w6.heap.size,0,none⟩) (fun _=>rfl) _;clear_value qZ;exact⟨Vb.aK Gc (fun e=>by omega) (fun e=>by omega),rfl,(AQ.mono fun _ _ h=>h.elim).tt Gc,n,uv hz h3 hzb,P0⟩
  |none=>
   refine Split.no rfl ⟨Vb,AQ,uV,fun y hy=>?_⟩;rcases(bP hz).1 hy with hy|rfl
   ·exact h3 y hy
   ·exact hzb
 ·rintro u1 R ⟨h1,h2,h3⟩ rC
  rw [List.take_of_length_le (Nat.le_refl _)]at h3;have e7:iY ρ0 jG.heap.size= [(3,.pointer (some ⟨w.heap.size,0,none⟩)),(5,.pointer (some ⟨w5.heap.size,0,none⟩)),(6,.pointer (some ⟨w6.heap.size,0,none⟩)),(15,Dk),(4294967296,.agg (rp [jG.heap.size]))]:=rfl;rw [e7,bz.lI];unfold bz.jW;have nE:=h1.heap P4 (fun h=>h);refine⟨dQ nE (by simp),?_⟩;intro qZ;have P0:qZ.heap[w6.heap.size]? =some (.cells #[.int .i64 0] iu (0,0)):=by
   show(u1.setCell ⟨w6.heap.size,0,none⟩ (.int .i64 0)).heap[w6.heap.size]? =_;rw [du nE 0];rfl
  have Gc:Kept (· =w6.heap.size) u1 qZ:=Kept.setCell (S:=fun k=>k=w6.heap.size) (Kept.refl _ u1) (p:=⟨w6.heap.size,0,none⟩) (fun _=>rfl) _;clear_value qZ;have rC:=rC.aK Gc (fun e=>by omega) (fun e=>by omega);rw [oo];have kt:=lg [jG.heap.size] qZ;have hm:∀E∈ [jG.heap.size],qZ.heap[E]? =some (.deferred (some [])):=fun E hE=>by
   rw [List.mem_singleton]at hE;subst hE;exact rC.mark
  refine⟨mR [jG.heap.size] qZ (by simp) hm,0,by rw [aE (kt.heap P0 (fun hE=>by rw [List.mem_singleton]at hE;omega))];rfl,?_⟩;have e0:nt m.sz l b=0:=by
   unfold nt;have:(l.findSome? fun h=>m.sz h b)=none:=List.findSome?_eq_none_iff.2 h3;rw [this];rfl
  have:=hK (gX [jG.heap.size] qZ) ((kS ((h1.mono fun _ _ h=>h.elim).tt Gc)).trans kt (fun k hk hE=>by rw [List.mem_singleton]at hE;have:=Iq.size;omega));rw [e0]at this;exact this
 ·rintro u1 R ⟨_,h2,n,h3,h4⟩ rC
  have e7:iY ρ0 jG.heap.size= [(3,.pointer (some ⟨w.heap.size,0,none⟩)),(5,.pointer (some ⟨w5.heap.size,0,none⟩)),(6,.pointer (some ⟨w6.heap.size,0,none⟩)),(15,Dk),(4294967296,.agg (rp [jG.heap.size]))]:=rfl;rw [e7,bz.BZ];unfold bz.wI;rw [oo];have kt:=lg [jG.heap.size] u1;have hm:∀E∈ [jG.heap.size],u1.heap[E]? =some (.deferred (some [])):=fun E hE=>by
   rw [List.mem_singleton]at hE;subst hE;exact rC.mark
  refine⟨mR [jG.heap.size] u1 (by simp) hm,(n:Int),by rw [aE (kt.heap h4 (fun hE=>by rw [List.mem_singleton]at hE;omega))];rfl,?_⟩;have e0:nt m.sz l b=n:=by unfold nt;rw [h3];rfl
  have:=hK (gX [jG.heap.size] u1) ((kS h2).trans kt (fun k hk hE=>by rw [List.mem_singleton]at hE;have:=Iq.size;omega));rw [e0]at this;exact this
 ·rintro id u1 R ⟨e,_⟩ rC
  cases e
end
section
variable{w:World}
theorem BE{x:HT}:∀ {l:List (HT×Value)},assoc x l≠none↔x∈l.map (·.1)
 | []=>by simp [assoc]
 |(y,v)::l=>by
  have:=BE (x:=x) (l:=l);unfold assoc;by_cases e:x=y
  ·subst e;simp
  ·rw [if_neg e,this]
   simp only [List.map_cons,List.mem_cons];exact⟨.inr,fun h=>h.resolve_left e⟩
theorem gh.len{mt te:TypeId}{z:Value}(T:xA mt te z){m:Nat}{f:HT->Option Value}(hm:gh w m f)(ty:TypeId){l:List HT}(hn:l.Nodup)(hl:∀x,f x≠none↔x∈l):
 (Builtin.len_ #[mt] ty #[.map (some m)]).run prog w=.ok (.int .i64 (l.length:Int)) w:=by
 obtain⟨es,clock,l',h1,h2,h3,_,_,h6⟩:=hm.ex;have e1:es.size=l'.length:=by have:=h2.len;simpa using this
 have e2:l'.length=l.length:=by
  have hp:(l'.map (·.1)).Perm l:=(List.perm_ext_iff_of_nodup h6 hn).2 fun x=>by rw [<-BE,h3,hl]
  simpa using hp.length_eq
 simp [Builtin.len_,run_underlying T.pE,qd h1,goInt,Result.andThen,e1,e2]
end
section
variable{w w':World}{F S:Nat->Prop}{c k:Nat}{G:GS}{m:CM}{K:Value->World->Prop}
structure VB(w:World)(c:Nat)(s:HT)(bs bc bh q sm:Nat)(ov:HT->Option Nat):Prop where
 hs:w.heap[bs]? =some (.cells #[.pointer (some ⟨q,0,none⟩)] fL (0,0))
 hc:w.heap[bc]? =some (.cells #[.pointer (some ⟨c,0,none⟩)] dG (0,0))
 hh:w.heap[bh]? =some (.cells s.1 al (0,0))
 sz:w.cell? ((⟨q,0,none⟩:Addr).add 35)=some (.map (some sm))
 ov:gh w sm (KM ov)
theorem VB.aK{S:Nat->Prop}{s:HT}{bs bc bh q sm:Nat}{ov:HT->Option Nat}(h:VB w c s bs bc bh q sm ov)(hk:Kept S w w')(h1:¬S bs)(h2:¬S bc)(h3:¬S bh)(h4:¬S q)(h5:¬S sm):VB w' c s bs bc bh q sm ov:=
 ⟨hk.heap h.hs h1,hk.heap h.hc h2,hk.heap h.hh h3,hk.cell h.sz h4,h.ov.aK hk h5⟩
theorem VB.same{s:HT}{bs bc bh q sm:Nat}{ov:HT->Option Nat}(h:VB w c s bs bc bh q sm ov)(hk:Kept Nil w w'):VB w' c s bs bc bh q sm ov:=h.aK hk (fun h=>h) (fun h=>h) (fun h=>h) (fun h=>h) (fun h=>h)
theorem Bm(h:CV w F c k G m)(hD:G.D.length<=5000){s b:HT}(hs:s∈ids G.D){l:List HT}(hc:dH G.D G.P s l){bs bc bh q sm:Nat}{ov:HT->Option Nat}(V:VB w c s bs bc bh q sm ov)
 (hK:∀w',Kept Nil w w'->K (.int .i64 ((sx ov (nt m.sz l) b:Nat):Int)) w'):
 bG prog ct.id #[.agg b.1,.pointer (some ⟨bs,0,none⟩),.pointer (some ⟨bc,0,none⟩),.pointer (some ⟨bh,0,none⟩)] w K:=by
 refine ct.of ?_;unfold ct.W;intro w4 w5;have k4:Kept Nil w w4:=(Kept.refl _ _).alloc _;have ui:w4.heap[w.heap.size]? =some (.cells b.1 al (0,0)):=aM w _;have k5:Kept Nil w4 w5:=(Kept.refl _ _).drew;clear_value w5;have pF:=k5.heap ui (fun h=>h);have nC:=k4.tt k5;have V5:=V.same nC;refine⟨some ⟨q,0,none⟩,by rw [aE V5.hs];rfl,_,V5.sz,b.1,⟨b.2.1,Cells.bV pF⟩,?_⟩;have lk:=V5.ov.El sk b;unfold KM at lk;cases hb:ov b with
 |some n=>
  rw [hb]at lk;refine⟨(n:Int),true,lk,Split.yes rfl ?_⟩;have:=hK w5 nC;unfold sx at this;rw [hb]at this;exact this
 |none=>
  rw [hb]at lk;refine⟨0,false,lk,Split.no rfl ⟨some ⟨c,0,none⟩,by rw [aE V5.hc];rfl,s.1,⟨s.2.1,Cells.bV V5.hh⟩,b.1,⟨b.2.1,Cells.bV pF⟩,?_⟩⟩;refine De (h.same nC) hD hs hc fun w7 k7=>⟨_,rfl,?_⟩;have:=hK w7 (nC.tt k7);unfold sx at this;rw [hb]at this;exact this
def zt(w:World)(fm:Nat)(kn:HT->Nat)(done:List HT):Prop:=gh w fm fun y=>if y∈done then some (.int .i64 (kn y:Int))else none
theorem Bk(h:CV w F c k G m)(hD:G.D.length<=5000)(o6:k<=1000){s b:HT}(hs:s∈ids G.D){l:List HT}(hc:dH G.D G.P s l){bs bc bh q sm kb fb fm:Nat}{ov:HT->Option Nat}(V:VB w c s bs bc bh q sm ov)
 (NC:w.heap[kb]? =some (.cells #[.func (.func ct.id) #[] #[.pointer (some ⟨bs,0,none⟩),.pointer (some ⟨bc,0,none⟩),.pointer (some ⟨bh,0,none⟩)]] fO (0,0)))
 (RZ:w.heap[fb]? =some (.cells #[.map (some fm)] cV (0,0))) {done:List HT} (hn:done.Nodup) (Yx:b∉done) (hF:zt w fm (sx ov (nt m.sz l)) done) (hfo:¬m.own c fm) (hff:¬F fm) (fX:bc≠fm)
 (hK:∀w' (r:Bool),r=sh k (sx ov (nt m.sz l)) done b->zt w' fm (sx ov (nt m.sz l)) (done++ [b])->Kept (· =fm) w w'->K (.bool r) w'):
 bG prog cU.id #[.agg b.1,.pointer (some ⟨kb,0,none⟩),.pointer (some ⟨fb,0,none⟩),.pointer (some ⟨bc,0,none⟩)] w K:=by
 have lfm:=hF.lt;refine cU.of ?_;unfold cU.W;intro w4 w5;have k4:Kept Nil w w4:=(Kept.refl _ _).alloc _;have ui:w4.heap[w.heap.size]? =some (.cells b.1 al (0,0)):=aM w _;have k5:Kept Nil w4 w5:=(Kept.refl _ _).drew;clear_value w5;have pF:=k5.heap ui (fun h=>h);have nC:=k4.tt k5;have hnf:fb≠fm:=fun e=>by subst e;obtain⟨es,cl,_,h1,_⟩:=hF.ex;rw [RZ]at h1;cases h1
 refine⟨some fm,by rw [aE (nC.heap RZ (fun h=>h))];rfl,b.1,⟨b.2.1,Cells.bV pF⟩,_,by rw [aE (nC.heap NC (fun h=>h))];rfl,b.1,⟨b.2.1,Cells.bV pF⟩,?_⟩;refine⟨_,_,_,_,rfl,ct.at_,rfl,?_⟩;refine Bm (h.same nC) hD hs hc (V.same nC) fun w7 k7=>⟨_,rfl,⟨b.1,rfl,b.2.1,Cells.bV (k7.heap pF (fun h=>h))⟩,?_,?_⟩
 ·rw [aE ((nC.tt k7).heap RZ (fun h=>h))];rfl
 have tu:=nC.tt k7;obtain⟨w8,Yb,hm8,k8⟩:=(hF.same tu).put sk b (.int .i64 ((sx ov (nt m.sz l) b:Nat):Int));refine⟨w8,Yb,?_⟩;intro w9;have k9:Kept Nil w8 w9:=(Kept.refl _ _).drew;clear_value w9;have k89:Kept (· =fm) w7 w9:=k8.trans k9 (fun _ _ h=>h.elim);have BP:Kept (· =fm) w w9:=(tu.mono fun _ _ h=>h.elim).tt k89;have R5:zt w9 fm (sx ov (nt m.sz l)) (done++ [b]):=by
  refine gh.same ?_ k9;have e:(fun y=>if y∈done++ [b]then some (Value.int .i64 ((sx ov (nt m.sz l) y:Nat):Int))else none)=fun x=>if x=b then some (.int .i64 ((sx ov (nt m.sz l) b:Nat):Int))else if x∈done then some (.int .i64 ((sx ov (nt m.sz l) x:Nat):Int))else none:=by
   funext y
   by_cases e:y=b
   ·subst e;rw [if_pos (by simp),if_pos rfl]
   ·rw [if_neg e]
    by_cases hy:y∈done
    ·rw [if_pos (List.mem_append_left _ hy),if_pos hy]
    ·rw [if_neg (by simp [hy,e]),if_neg hy]
  rw [e];exact hm8
 have hb9:w9.heap[w.heap.size]? =some (.cells b.1 al (0,0)):=((k7.mono fun _ _ h=>h.elim).tt k89:Kept (· =fm) w5 w9).heap pF (by omega);have VG:=BP.heap RZ hnf;have gQ:(done++ [b]).Nodup:=List.nodup_append.2 ⟨hn,by simp,fun x hx y hy e=>by
  have:y=b:=by simpa using hy
  subst this;subst e;exact Yx hx⟩
 have h9:CV w9 F c k G m:=h.aK BP (fun j hj e=>by subst e;exact hfo hj) (fun j hj e=>by subst e;exact hff hj);have hc9:w9.heap[bc]? =some (.cells #[.pointer (some ⟨c,0,none⟩)] dG (0,0)):=BP.heap V.hc fX;refine⟨some fm,by rw [aE VG];rfl,(done++ [b]).length,R5.len sk iu gQ (fun x=>by
  by_cases hx:x∈done++ [b]
  ·rw [if_pos hx];exact⟨fun _=>hx,fun _ e=>by cases e⟩
  ·rw [if_neg hx];exact⟨fun e=>absurd rfl e,fun e=>absurd e hx⟩),some ⟨c,0,none⟩,by rw [aE hc9];rfl,(k:Int),h9.c0,?_⟩
 refine Split.dec (fun h1=>?_) (fun h1=>?_)
 ·have lk:=gh.look sk R5 b
  rw [if_pos (by simp)]at lk;refine⟨some fm,by rw [aE VG];rfl,b.1,⟨b.2.1,Cells.bV hb9⟩,_,lk,some ⟨c,0,none⟩,by rw [aE hc9];rfl,(k:Int),h9.c0,?_⟩;refine hK w9 _ ?_ R5 BP;unfold sh;rw [List.length_append,List.length_cons,List.length_nil]at h1;refine decide_eq_decide.2 ⟨fun h2=>⟨by omega,by omega⟩,fun h2=>by omega⟩
 ·refine hK w9 false ?_ R5 BP
  unfold sh;rw [List.length_append,List.length_cons,List.length_nil]at h1;exact(decide_eq_false (by omega)).symm
end
structure PN where
 bs:Nat
 bc:Nat
 bh:Nat
 q:Nat
 sm:Nat
 kb:Nat
 fb:Nat
 fm:Nat
 yb:Nat
 hb:Nat
def PN.Dk(p:PN):Value:=.func (.func cU.id) #[] #[.pointer (some ⟨p.kb,0,none⟩),.pointer (some ⟨p.fb,0,none⟩),.pointer (some ⟨p.bc,0,none⟩)]
def PN.iX(p:PN)(j:Nat):Prop:=p.bs≠j/\p.bc≠j/\p.bh≠j/\p.q≠j/\p.sm≠j/\p.kb≠j/\p.fb≠j
structure PG(w:World)(F:Nat->Prop)(c k:Nat)(G:GS)(m:CM)(s h:HT)(p:PN)(ov:HT->Option Nat):Prop where
 C:CV w F c k G m
 V:VB w c s p.bs p.bc p.bh p.q p.sm ov
 kb:w.heap[p.kb]? =some (.cells #[.func (.func ct.id) #[] #[.pointer (some ⟨p.bs,0,none⟩),.pointer (some ⟨p.bc,0,none⟩),.pointer (some ⟨p.bh,0,none⟩)]] fO (0,0))
 fb:w.heap[p.fb]? =some (.cells #[.map (some p.fm)] cV (0,0))
 yb:w.cell? ⟨p.yb,0,none⟩=some p.Dk
 hb:w.heap[p.hb]? =some (.cells h.1 al (0,0))
 fo:¬m.own c p.fm
 ff:¬F p.fm
 iX:p.iX p.fm
 y:p.yb≠p.fm
 h:p.hb≠p.fm
section
variable{w w' u:World}{F:Nat->Prop}{c k:Nat}{G:GS}{m:CM}{s h:HT}{p:PN}{ov:HT->Option Nat}{K:Value->World->Prop}
theorem PG.aK(B:PG w F c k G m s h p ov)(hk:Kept (· =p.fm) w w'):PG w' F c k G m s h p ov:=by
 obtain⟨f1,f2,f3,f4,f5,f6,f7⟩:=B.iX;exact⟨B.C.aK hk (fun j hj e=>by subst e;exact B.fo hj) (fun j hj e=>by subst e;exact B.ff hj),B.V.aK hk f1 f2 f3 f4 f5,hk.heap B.kb f6,hk.heap B.fb f7,hk.cell B.yb B.y,hk.heap B.hb B.h,B.fo,B.ff,B.iX,B.y,B.h⟩
theorem PG.same(B:PG w F c k G m s h p ov)(hk:Kept Nil w w'):PG w' F c k G m s h p ov:=B.aK (hk.mono fun _ _ h=>h.elim)
theorem ti(B:PG w F c k G m s h p ov)(hD:G.D.length<=5000)(o6:k<=1000)(hs:s∈ids G.D){l:List HT}(hc:dH G.D G.P s l){done:List HT}(hF:zt w p.fm (sx ov (nt m.sz l)) done){b:HT}{zb:Nat}
 (hz:w.heap[zb]? =some (.cells b.1 al (0,0))) (hzf:zb≠p.fm) (hn:oC G.D b h->(done++ [b]).Nodup) {A T:World->Prop}
 (hA:∀u,oC G.D b h->sh k (sx ov (nt m.sz l)) done b=false->Kept (· =p.fm) w u->A u)
 (hT:∀u yp,yp=done++(if oC G.D b h then [b]else [])->(oC G.D b h->sh k (sx ov (nt m.sz l)) done b=true)->zt u p.fm (sx ov (nt m.sz l)) yp->Kept (· =p.fm) w u->T u):
 bG prog dD.id #[.pointer (some ⟨c,0,none⟩),.agg b.1,.agg h.1] w fun x y=>∃z:Bool,x=.bool z/\Split z (∃a1:Value,y.cell? ⟨p.yb,0,none⟩=some a1/\∃b1:Array Value,(b1.size=32/\Cells y ⟨zb,0,none⟩ b1)/\
  ∃(c1:Nat) (d1 e1:Array Value) (f1:Func),(a1:Value)=.func (.func c1) d1 e1/\prog.funcs[c1]? =some f1/\f1.body.isSome=true/\
   bG prog c1 (d1.toList++([.agg b1]:List Value)++e1.toList).toArray y fun g1 i1=>∃j1:Bool,g1=.bool j1/\Split (!j1) (A i1) (T i1)) (T y):=by
 refine Bn B.C hD b h fun y r hr ky=>⟨r,rfl,?_⟩;have kyf:Kept (· =p.fm) w y:=ky.mono fun _ _ h=>h.elim;have By:=B.same ky;cases r with
 |false=>
  have LA:¬oC G.D b h:=fun e=>by have:=hr.2 e;cases this
  exact Split.no rfl (hT y done (by rw [if_neg LA,List.append_nil]) (fun e=>absurd e LA) (hF.same ky) kyf)
 |true=>
  have ha:=hr.1 rfl;have gQ:=hn ha;rw [List.nodup_append]at gQ;refine Split.yes rfl ⟨_,By.yb,b.1,⟨b.2.1,Cells.bV (ky.heap hz (fun h=>h))⟩,_,_,_,_,rfl,cU.at_,rfl,?_⟩;refine Bk By.C hD o6 hs hc By.V By.kb By.fb gQ.1 (fun e=>gQ.2.2 b e b (by simp) rfl) (hF.same ky) B.fo B.ff B.iX.2.1 fun v r hr hv kv=>⟨r,rfl,?_⟩;have O6:Kept (· =p.fm) w v:=kyf.tt kv;cases r with
  |false=>exact Split.yes rfl (hA v ha hr.symm O6)
  |true=>exact Split.no rfl (hT v (done++ [b]) (by rw [if_pos ha]) (fun _=>hr.symm) hv O6)
end
structure PG0(w:World)(F:Nat->Prop)(c k:Nat)(G:GS)(m:CM)(s:HT)(p:PN)(ov:HT->Option Nat):Prop where
 C:CV w F c k G m
 V:VB w c s p.bs p.bc p.bh p.q p.sm ov
 kb:w.heap[p.kb]? =some (.cells #[.func (.func ct.id) #[] #[.pointer (some ⟨p.bs,0,none⟩),.pointer (some ⟨p.bc,0,none⟩),.pointer (some ⟨p.bh,0,none⟩)]] fO (0,0))
 fb:w.heap[p.fb]? =some (.cells #[.map (some p.fm)] cV (0,0))
 fo:¬m.own c p.fm
 ff:¬F p.fm
 iX:p.iX p.fm
theorem dL:∀ {l m:List HT},l.Nodup->(∀x∈l,x∈m)->l.length<=m.length
 | [],_,_,_=>Nat.zero_le _
 |x::l,m,hn,hm=>by
  rw [List.nodup_cons]at hn;have hx:=hm x List.mem_cons_self;have:=dL (m:=m.erase x) hn.2 fun y hy=>(List.mem_erase_of_ne (fun e=>hn.1 (by rw [<-e];exact hy))).2 (hm y (List.mem_cons_of_mem _ hy));rw [List.length_erase_of_mem hx]at this;have h0:=List.length_pos_of_mem hx;rw [List.length_cons];omega
theorem HS.get_mem{w:World}{A:Option Addr}{n:Nat}{l:List HT}(hl:HS w A n l){i:Nat}(hi:i<n):∃y,l[i]? =some y:=⟨_,List.getElem?_eq_getElem (by have:=hl.len;omega)⟩
theorem Al{D:DG}{l:List HT}{h x:HT}{i:Nat}(hx:l[i]? =some x):cr D (l.take (i+1)) h=cr D (l.take i) h++if oC D x h then [x]else []:=by
 have e:l.take (i+1)=l.take i++ [x]:=by rw [List.take_add_one,hx];rfl
 rw [e,gz]
 congr 1
 unfold cr;by_cases hp:oC D x h
 ·rw [if_pos hp,List.filter_cons_of_pos (by simpa using hp)];rfl
 ·rw [if_neg hp,List.filter_cons_of_neg (by simpa using hp)];rfl
theorem DB{m:List HT}{b:List Bool}{x:HT}{y:Bool}{i:Nat}(hx:m[i]? =some x)(hy:b[i]? =some y):eJ (m.drop i) (b.drop i)=(if y then [x]else [])++eJ (m.drop (i+1)) (b.drop (i+1)):=by
 obtain⟨hi,ex⟩:=lgeS hx;obtain⟨hj,ey⟩:=lgeS hy;rw [List.drop_eq_getElem_cons hi,List.drop_eq_getElem_cons hj,ex,ey];cases y<;>rfl
theorem fF(c:pB)(A:Option Addr)(n cp:Nat)(B:Option Addr)(m cq:Nat):∀v∈(dp c A n cp B m cq).toList,v.oneCell'=true:=by
 intro v hv;unfold dp at hv;rw [Array.toList_append,List.mem_append]at hv;rcases hv with hv|hv
 ·exact c.nz.2.one v hv
 ·simp only [List.mem_cons,List.not_mem_nil,or_false]at hv
  rcases hv with rfl|rfl|rfl<;>rfl
section
variable{w w':World}{F:Nat->Prop}{c k:Nat}{G:GS}{m:CM}{s:HT}{p:PN}{ov:HT->Option Nat}{K:Value->World->Prop}
theorem DH{kn:HT->Nat}{done rest lA:List HT}{b:HT}(e:done++b::rest=lA)(h:sh k kn done b=false):fK k kn [] lA=false:=by
 rw [<-e,mV,List.nil_append,fK,h,Bool.false_and,Bool.and_false]
theorem zp{kn:HT->Nat}{done:List HT}{b:HT}(h:fK k kn [] done=true)(hb:sh k kn done b=true):fK k kn [] (done++ [b])=true:=by
 rw [mV,h,List.nil_append,fK,hb,Bool.true_and,Bool.true_and];rfl
theorem Bl(B:PG0 w F c k G m s p ov)(hD:G.D.length<=5000)(o6:k<=1000)(hs:s∈ids G.D){l:List HT}(hc:dH G.D G.P s l){h:HT}{bb:Nat}{A:Option Addr}{n cx:Nat}{bl:List HT}
 (xl:w.heap[bb]? =some (.cells #[.slice A n cx] aF (0,0))) (Yy:bb≠p.fm) (C9:HS w A n bl) (hAf:∀a,A=some a->a.block≠p.fm) (hn:n<=10000) (hF:zt w p.fm (sx ov (nt m.sz l)) []) (yi:(o9 G h bl l).Nodup)
 (hK:∀w' (r:Bool),r=fK k (sx ov (nt m.sz l)) [] (o9 G h bl l)->(r=true->zt w' p.fm (sx ov (nt m.sz l)) (o9 G h bl l))->Kept (· =p.fm) w w'->K (.bool r) w'):
 bG prog ag.id #[.agg h.1,p.Dk,.pointer (some ⟨bb,0,none⟩),.pointer (some ⟨p.bc,0,none⟩),.pointer (some ⟨p.bh,0,none⟩)] w K:=by
 have W:=B.C.iC.W;have H:=B.C.iC.nz;have Yk:∀y∈l,y∈ids G.D:=fun y hy=>((hc.mem W H).1 hy).mem.1;have hlen:=C9.len;have lfm:=hF.lt;refine ag.of ?_;unfold ag.W;intro w4 w5 w6;have k4:Kept Nil w w4:=(Kept.refl _ _).alloc _;have Vo:w4.heap[w.heap.size]? =some (.cells h.1 al (0,0)):=aM w _;have k5:Kept Nil w4 w5:=(Kept.refl _ _).alloc _;obtain⟨ty,hy5⟩:∃ty:TypeId,w5.heap[w4.heap.size]? =some (.cells #[p.Dk] ty (0,0)):=⟨_,aM w4 _⟩;have k6:Kept Nil w5 w6:=(Kept.refl _ _).alloc _;have Yc:w6.heap[w5.heap.size]? =some (.cells #[.bool false] jv (0,0)):=aM w5 _;clear_value w6;have hy6:=k6.heap hy5 (fun h=>h);have hh6:=k6.heap (k5.heap Vo (fun h=>h)) (fun h=>h);have np:=(k4.tt k5).tt k6;have s4:=k4.size;have s5:=k5.size;have s6:=k6.size;have l4:=bf Vo;have l5:=bf hy5;have l6:=bf Yc;clear_value w5 w4;obtain⟨p',Lx,uJ,Gu,acn,ack⟩:∃p':PN,p'= {p with yb:=w4.heap.size,hb:=w.heap.size}/\p'.Dk=p.Dk/\p'.fm=p.fm/\p'.bc=p.bc/\p'.bh=p.bh:=⟨_,rfl,rfl,rfl,rfl,rfl⟩;have eyb:p'.yb=w4.heap.size:=by rw [Lx]
 have YP:p'.hb=w.heap.size:=by rw [Lx]
 have B6:PG w6 F c k G m s h p' ov:=by
  rw [Lx];exact⟨B.C.same np,B.V.same np,np.heap B.kb (fun h=>h),np.heap B.fb (fun h=>h),by show w6.cell? ⟨w4.heap.size,0,none⟩=_;rw [aE hy6];rfl,hh6,B.fo,B.ff,B.iX,(by show w4.heap.size≠p.fm;omega),(by show w.heap.size≠p.fm;omega)⟩
 generalize xh:sx ov (nt m.sz l)=kn at*;have hF6:zt w6 p'.fm kn []:=by rw [Gu];exact hF.same np
 generalize kI:o9 G h bl l=lA at*;have rD:cr G.D bl h++zE G h l=lA:=kI;rw [<-Gu]at Yy hAf lfm;have hK':∀w' (r:Bool),r=fK k kn [] lA->(r=true->zt w' p'.fm kn lA)->Kept (· =p'.fm) w w'->K (.bool r) w':=by rw [Gu];exact hK
 have kA:∀ {v:World},Kept (· =p'.fm) w6 v->Kept (· =p'.fm) w v:=fun k=>(np.mono fun _ _ h=>h.elim).tt k;have fin:∀ {v:World} (r:Bool),Kept (· =p'.fm) w6 v->∃u:World,u=v.setCell ⟨w5.heap.size,0,none⟩ (.bool r)/\Wr v ⟨w5.heap.size,0,none⟩/\u.heap[w5.heap.size]? =some (.cells #[.bool r] jv (0,0))/\Kept (· =w5.heap.size) v u:=fun {v} r kv=>by
  have hr:=kv.heap Yc (by omega);refine⟨_,rfl,dQ hr (by simp),?_,Kept.setCell (S:=fun k=>k=w5.heap.size) (Kept.refl _ v) (p:=⟨w5.heap.size,0,none⟩) (fun _=>rfl) _⟩;rw [du hr 0];rfl
 have ZR:∀ {v u:World},Kept (· =p'.fm) w6 v->Kept (· =w5.heap.size) v u->Kept (· =p'.fm) w u:=fun kv ku=>⟨ku.os.trans (kA kv).os,ku.tape.trans (kA kv).tape,ku.output.trans (kA kv).output,Nat.le_trans (kA kv).size ku.size,fun j hj hn=>by rw [ku.block j (Nat.lt_of_lt_of_le hj (kA kv).size) (by omega),(kA kv).block j hj hn]⟩;refine⟨A,n,cx,by rw [aE (np.heap xl (fun h=>h))];rfl,?_⟩;rw [<-acn,<-ack];refine ag.cJ (I:=fun s0 v=>∃i:Nat,s0=(i:Int)/\i<=n/\zt v p'.fm kn (cr G.D (bl.take i) h)/\fK k kn [] (cr G.D (bl.take i) h)=true/\Kept (· =p'.fm) w6 v) (μ:=fun s0 _=>((n:Int)-s0).toNat) (s:=0) ⟨0,rfl,Nat.zero_le _,hF6,rfl,Kept.refl _ _⟩ ?_;rintro s0 v ⟨i,rfl,hi,hFv,cY,kv⟩;have Bv:=B6.aK kv;refine Split.dec (fun jZ=>?_) (fun gH=>?_)
 ·have dX:i<n:=by omega
  obtain⟨b,hb⟩:=C9.get_mem dX;have aci:HS v A n bl:=C9.aK (kA kv) hAf;refine aci.load (i:=(i:Int)) (by omega) hb ?_;intro pD;obtain⟨tA,kh,kH⟩:=iP (w:=v) (z:=fH.1) (cs:=b.1) (t:=al) (by rw [b.2.1];rfl);refine⟨⟨b.2.1,b.2.one,fun j hj=>tA j (by rw [b.2.1];exact hj)⟩,?_⟩;intro nh
  replace kh:nh.heap[v.heap.size]? =some (.cells b.1 al (0,0)):=kh
  replace kH:Kept Nil v nh:=kH
  clear_value nh;have sv:=(kA kv).size;have Rq:=Bv.same kH;have e1:=Al (D:=G.D) (h:=h) hb;have e2:∃rest,cr G.D (bl.take i) h++(if oC G.D b h then [b]else [])++rest=lA:=by
   refine⟨cr G.D (bl.drop (i+1)) h++zE G h l,?_⟩;rw [<-e1,<-rD,<-List.append_assoc,<-gz,List.take_append_drop]
  obtain⟨rest,e2⟩:=e2;refine⟨some ⟨c,0,none⟩,by rw [aE Rq.V.hc];rfl,b.1,⟨b.2.1,Cells.bV kh⟩,h.1,⟨h.2.1,by have:=Rq.hb;rw [YP]at this;exact Cells.bV this⟩,?_⟩;rw [<-eyb];refine ti Rq hD o6 hs hc (done:=cr G.D (bl.take i) h) (by rw [xh];exact hFv.same kH) kh (by omega) (fun ha=>by
   rw [if_pos ha]at e2;rw [<-e2]at yi;exact(List.nodup_append.1 yi).1) ?_ ?_
  ·intro u ha hp ku
   rw [xh]at hp;have RA:Kept (· =p'.fm) w6 u:=(kv.trans kH (fun _ _ h=>h.elim)).tt ku;obtain⟨u',eu,hw,Ug,kuu⟩:=fin false RA;refine⟨hw,?_⟩;intro Rw;have e30:Rw=u':=eu.symm;rw [iS,ag.B7,e30];rw [if_pos ha,List.append_assoc]at e2;exact⟨false,by rw [aE Ug];rfl,hK' u' false (DH e2 hp).symm (fun e=>by cases e) (ZR RA kuu)⟩
  ·intro u yp ed hp Oc ku
   rw [xh]at hp Oc;have RA:Kept (· =p'.fm) w6 u:=(kv.trans kH (fun _ _ h=>h.elim)).tt ku;rw [dF (n:=(i:Int)) (by omega) (by omega)];refine⟨(i:Int)+1,rfl,⟨i+1,rfl,dX,?_,?_,RA⟩,by simp only;omega⟩
   ·rw [e1,<-ed];exact Oc
   ·rw [e1]
    by_cases ha:oC G.D b h
    ·rw [if_pos ha];exact zp cY (hp ha)
    ·rw [if_neg ha,List.append_nil];exact cY
 ·rw [aU,ag.dz]
  rw [List.take_of_length_le (by omega)]at cY hFv;unfold ag.df;intro qt;have zv:Kept Nil v qt:=(Kept.refl _ _).drew;clear_value qt;have B33:=Bv.same zv;refine⟨some ⟨c,0,none⟩,by rw [aE B33.V.hc];rfl,_,B33.C.c1,s.1,⟨s.2.1,Cells.bV B33.V.hh⟩,?_⟩;refine tW s fun jG pb qb nn Lv Lt vT hqb=>⟨_,rfl,?_⟩;have O9:Kept Nil v jG:=zv.tt nn;have K5:Kept (· =p'.fm) w6 jG:=kv.trans O9 (fun _ _ h=>h.elim);have B35:=Bv.same O9;have agT:=K5.size;have ac0:zt jG p'.fm kn (cr G.D bl h):=hFv.same O9
  let Dk:Value:=.func (.func bt.id) #[] #[.pointer (some ⟨pb,0,none⟩),.pointer (some ⟨qb,0,none⟩)]
  let ρ0:Env:= [(3,.pointer (some ⟨p'.bc,0,none⟩)),(5,.pointer (some ⟨w.heap.size,0,none⟩)),(6,.pointer (some ⟨w4.heap.size,0,none⟩)),(7,.pointer (some ⟨w5.heap.size,0,none⟩)),(36,Dk)]
  let J:Nat->World->Prop:=fun j u=>∃done:List HT,done++zE G h (l.drop j)=lA/\zt u p'.fm kn done/\fK k kn [] done=true/\Kept (· =p'.fm) jG u/\j<=l.length
  let Jd:Code->World->Prop:=fun e u=>e=.ret/\∃r:Bool,u.heap[w5.heap.size]? =some (.cells #[.bool r] jv (0,0))/\r=fK k kn [] lA/\(r=true->zt u p'.fm kn lA)/\Kept (fun j=>j=p'.fm\/j=w5.heap.size) jG u
  have lpb:=bf Lv;have lqb:=bf Lt;have agQ:=zv.size;have svw:=(kA kv).size;obtain⟨mx,X35,RN⟩:=B35.C.X;have XJ:∀ {u:World},Kept (· =p'.fm) jG u->XV u m.FX m.x G.D G.P mx:=fun k=>X35.aK k (fun j hj e=>by subst e;rw [Gu]at hj;exact B.fo (.inl (RN _ hj))) (fun j hj e=>by subst e;rw [Gu]at hj;exact B.ff (B.C.fx _ hj))
  change Holds none [] prog _ _ _ ρ0 jG
  have out:∀ {u:World} {R:Loop} (r:Bool),Kept (· =p'.fm) jG u->Live (jG.heap.size+1) jG.heap.size R u->r=fK k kn [] lA->(r=true->zt u p'.fm kn lA)->Wr u ⟨w5.heap.size,0,none⟩/\∀u',u'=u.setCell ⟨w5.heap.size,0,none⟩ (.bool r)->Live (jG.heap.size+1) jG.heap.size R u'/\Jd .ret u':=fun {u R} r ku hl hr hf=>by
   obtain⟨u0,e0,t1,t2,t3⟩:=fin r (K5.tt ku);refine⟨t1,fun u' eu=>?_⟩;rw [eu,<-e0];refine⟨hl.aK t3 (by omega) (by omega),rfl,r,t2,hr,fun e=>(hf e).aK t3 (by omega),(ku.mono fun _ _ h=>.inl h).trans t3 (fun _ _ h=>.inr h)⟩
  refine oM (n:=90) (ρ:=ρ0) (ρ0:=ρ0) ng mix ag.k (t:=36) (ps:= #[37]) (by kernel_rfl) (by decide) rfl bt.at_ rfl (.inl rfl) (fun i x hi hx=>hx) rfl sJ l (fun _=>rfl) (fun q hq=>by
   have e49:q=37:=by simpa using hq
   subst e49;exact⟨by decide,by decide⟩) (DY (F:=m.FX) (x:=m.x) (m:=mx) (pb:=pb) (qb:=qb) hc (by omega)) J Jd ?_ ?_ (fun j u ⟨done,_,_,_,kJ,_⟩=>⟨XJ kJ,kJ.heap Lv (by omega),kJ.heap Lt (by omega)⟩) ?_ ?_ ?_ ?_ ?_
  ·rintro j u1 u2 R rC ⟨done,h1,h2,h3,h4,h5⟩ o7
   exact⟨done,h1,h2.aK o7 (by omega),h3,h4.trans o7 (fun k hk e=>by omega),h5⟩
  ·rintro e u1 u2 R rC ⟨h1,r,h2,h3,h4,h5⟩ o7
   exact⟨h1,r,o7.heap h2 (by omega),h3,fun e=>(h4 e).aK o7 (by omega),h5.trans o7 (fun k hk e=>by omega)⟩
  ·intro R
   have ka:Kept Nil jG ((jG.alloc (.deferred (some []))).alloc (.loop R)):=(((Kept.refl _ _).alloc _).alloc _);exact⟨cr G.D bl h,rD,ac0.same ka,cY,ka.mono fun _ _ h=>h.elim,Nat.zero_le _⟩
  ·rintro j z u1 R hz ⟨done,h1,h2,h3,h4,h5⟩ rC
   have e7:mo ρ0 ((#[37]:Array Nat).toList.zip (sJ z))= [(3,.pointer (some ⟨p'.bc,0,none⟩)),(5,.pointer (some ⟨w.heap.size,0,none⟩)),(6,.pointer (some ⟨w4.heap.size,0,none⟩)),(7,.pointer (some ⟨w5.heap.size,0,none⟩)),(36,Dk),(37,.agg z.1)]:=rfl;rw [e7,ag.a1];have uV:=(lgeS hz).1;have PE:=Yk z (List.mem_of_getElem? hz);have W8:l.drop j=z::l.drop (j+1):=by
    obtain⟨hi,e⟩:=lgeS hz;rw [List.drop_eq_getElem_cons hi,e]
   rw [W8,zE]at h1;unfold ag.A1;intro Rv;obtain⟨tA,kh,kH⟩:=iP (w:=u1) (z:=fH.1) (cs:=z.1) (t:=al) (by rw [z.2.1];rfl);refine⟨⟨z.2.1,z.2.one,fun j hj=>tA j (by rw [z.2.1];exact hj)⟩,?_⟩;intro Mz
   replace kh:Mz.heap[u1.heap.size]? =some (.cells z.1 al (0,0)):=kh
   replace kH:Kept Nil u1 Mz:=kH
   clear_value Mz;have IY:=rC.aK kH (fun h=>h) (fun h=>h);refine⟨IY,fun w2 R2 o5 uH=>?_⟩;have nH:=o5.heap kh (lO kh IY.loop);have agV:=h4.size;have wX:Kept (· =p'.fm) jG w2:=(h4.trans kH (fun _ _ h=>h.elim)).trans o5 (fun k hk e=>by omega);have QX:zt w2 p'.fm kn done:=(h2.same kH).aK o5 (by omega);have B2:=B35.aK wX;rw [ag.y1];unfold ag.Y1;have e2:∃rest,done++(if oC G.D z h then [z]else [])++rest=lA:=⟨_,(List.append_assoc _ _ _).trans h1⟩;obtain⟨rest,e2⟩:=e2;refine⟨some ⟨c,0,none⟩,by rw [aE B2.V.hc];rfl,z.1,⟨z.2.1,Cells.bV nH⟩,h.1,⟨h.2.1,by have:=B2.hb;rw [YP]at this;exact Cells.bV this⟩,?_⟩;rw [<-eyb];refine ti B2 hD o6 hs hc (done:=done) (by rw [xh];exact QX) nH (by omega) (fun ha=>by
    rw [if_pos ha]at e2;rw [<-e2]at yi;exact(List.nodup_append.1 yi).1) ?_ ?_
   ·intro u ha hp ku
    rw [xh]at hp;rw [if_pos ha,List.append_assoc]at e2;obtain⟨o1,o2⟩:=out (u:=u) false (wX.tt ku) (uH.aK ku (by omega) (by omega)) (DH e2 hp).symm (fun e=>by cases e);refine⟨o1,?_⟩;intro Ze;exact o2 Ze rfl
   ·intro u yp ed hp Oc ku
    rw [xh]at hp Oc;have ZZ:=wX.tt ku;have hlu:=uH.aK ku (by omega) (by omega);have Oa:fK k kn [] yp=true:=by
     rw [ed];by_cases ha:oC G.D z h
     ·rw [if_pos ha];exact zp h3 (hp ha)
     ·rw [if_neg ha,List.append_nil];exact h3
    rw [<-List.append_assoc,<-ed]at h1;intro Zd;have k61:Kept Nil u Zd:=(Kept.refl _ _).drew;clear_value Zd;have Pg:Kept (· =p'.fm) w2 Zd:=ku.trans k61 (fun _ _ h=>h.elim);have Y4:=B2.aK Pg;have Z7:=Pg.heap nH (by omega);obtain⟨mx1,X61,_⟩:=Y4.C.X;refine⟨some ⟨c,0,none⟩,by rw [aE Y4.V.hc];rfl,_,Y4.C.c1,z.1,⟨z.2.1,Cells.bV Z7⟩,h.1,⟨h.2.1,by have:=Y4.hb;rw [YP]at this;exact Cells.bV this⟩,?_⟩;refine lu X61 hD z h fun G5 r hr Ga=>⟨r,rfl,?_⟩;have K1:Kept Nil u G5:=k61.tt Ga;have U5:=hlu.aK K1 (fun h=>h) (fun h=>h);have TF:=ZZ.trans K1 (fun _ _ h=>h.elim);have acY:=Oc.same K1;cases r with
    |true=>
     have Da:=hr.1 rfl;rw [if_pos Da,List.append_nil]at h1;obtain⟨o1,o2⟩:=out (u:=G5) true TF U5 (by rw [<-h1,Oa]) (fun _=>by rw [<-h1];exact acY);refine Split.yes rfl ⟨o1,?_⟩;intro Oz;exact o2 Oz rfl
    |false=>
     have UQ:¬fI G.D z h:=fun e=>by have:=hr.2 e;cases this
     rw [if_neg UQ]at h1;refine Split.no rfl ?_;intro Hn;have MT:Kept Nil G5 Hn:=(Kept.refl _ _).drew;clear_value Hn;have Lc:Kept (· =p'.fm) w2 Hn:=Pg.trans (Ga.tt MT) (fun _ _ h=>h.elim);have Xw:=B2.aK Lc;have TW:=Lc.heap nH (by omega);obtain⟨A1,n1,c1,B1,m1,d1,s1,sa⟩:=Xw.C.seen z PE;refine⟨some ⟨c,0,none⟩,by rw [aE Xw.V.hc];rfl,_,Xw.C.c2,z.1,⟨z.2.1,Cells.bV TW⟩,_,Xw.C.qT PE,_,⟨bJ ..,sa.kr⟩,?_⟩;intro w73;have ZT:Kept Nil Hn w73:=(Kept.refl _ _).alloc _;obtain⟨PI,Bh,y5⟩:=iP (w:=Hn) (z:=zC) (cs:=dp (G.kr z) A1 n1 c1 B1 m1 d1) (t:=bL) (by rw [bJ];rfl);have B73:=Xw.same ZT;refine⟨⟨_,rfl,bJ ..,(sa.aK ZT (fun _ _ h=>h)).kr⟩,B73.C.qT PE,⟨z.1,rfl,z.2.1,Cells.bV (ZT.heap TW (fun h=>h))⟩,B73.C.c2,by rw [aE B73.V.hc];rfl,⟨bJ ..,fF _ _ _ _ _ _ _,fun j hj=>PI j (by rw [bJ];exact hj)⟩,?_⟩;intro Rs
     replace Bh:Rs.heap[Hn.heap.size]? =some (.cells (dp (G.kr z) A1 n1 c1 B1 m1 d1) bL (0,0)):=Bh
     replace y5:Kept Nil Hn Rs:=y5
     clear_value Rs w73;have Tt:Kept Nil u Rs:=K1.tt (MT.tt y5);have TI:Kept (· =p'.fm) w2 Rs:=Lc.trans y5 (fun _ _ h=>h.elim);have agY:=TI.size;have agZ:=Lc.size;have s2:=wX.size;have ajw:=hlu.aK Tt (fun h=>h) (fun h=>h);have Zo:=sa.aK y5 (fun _ _ h=>h);have afq:=sa.mg.len;have V9:=sa.bl.len;have hff:∀j,F j->j≠p'.fm:=fun j hj e=>by rw [Gu]at e;subst e;exact B.ff hj
     have hcg:=gU (G.kr z) A1 n1 c1 B1 m1 d1 #[];rw [Array.append_empty]at hcg;refine⟨A1,n1,c1,by rw [bE,aE Bh];exact hcg.2.1,?_⟩;have afv:(G.kr z).gu.length=(G.kr z).merge.length:=by
      rcases(dH.ex H z)with⟨lz,cz⟩;rcases cz.inv W H PE with⟨_,nd,h0,rfl⟩|⟨t,r',_,nu,_,_⟩
      ·obtain⟨r1,_⟩:=B.C.iC.root nd h0
       rw [r1];rfl
      ·exact(B.C.iC.up t z nu).2.2.1
     have Gr:(G.kr z).merge.length<=G.D.length:=by
      have gQ:(G.kr z).merge.Nodup/\∀y∈(G.kr z).merge,y∈ids G.D:=by
       rcases(dH.ex H z)with⟨lz,cz⟩;rcases cz.inv W H PE with⟨_,nd,h0,rfl⟩|⟨t,r',_,nu,_,_⟩
       ·obtain⟨r1,_⟩:=B.C.iC.root nd h0
        rw [r1];exact⟨List.nodup_nil,fun y hy=>by cases hy⟩
       ·obtain⟨_,_,_,g1,g2⟩:=B.C.iC.up t z nu
        exact⟨g1,fun y hy=>(((g2 y).1 hy).1.mem W).1⟩
      have:=dL gQ.1 gQ.2
      rwa [iM]at this
     refine ag.iB (I:=fun s0 v=>∃i:Nat,s0=(i:Int)/\i<=n1/\∃dn:List HT,dn++(cr G.D (eJ ((G.kr z).merge.drop i) ((G.kr z).gu.drop i)) h++zE G h (l.drop (j+1)))=lA/\zt v p'.fm kn dn/\fK k kn [] dn=true/\Kept (· =p'.fm) Rs v) (μ:=fun s0 _=>((n1:Int)-s0).toNat) (s:=0) ⟨0,rfl,Nat.zero_le _,yp,by rw [List.drop_zero,List.drop_zero];exact h1,Oc.same Tt,Oa,Kept.refl _ _⟩ ?_;rintro s0 v2 ⟨i2,rfl,BV,dn,g1,g2,g3,g4⟩;have Ib:Kept (· =p'.fm) w2 v2:=TI.tt g4;have Bv2:=B2.aK Ib;have Zn:=Zo.aK g4 (fun j hj e=>hff j hj e);have TE:=wX.tt Ib;have U4:=uH.aK Ib (by omega) (by omega);have sv2:=Ib.size;refine Split.dec (fun jZ=>?_) (fun gH=>?_)
     ·have dX:i2<n1:=by omega
      obtain⟨b,hb⟩:=Zn.mg.get_mem dX;obtain⟨bb2,Wg⟩:∃y,(G.kr z).gu[i2]? =some y:=⟨_,List.getElem?_eq_getElem (by omega)⟩;refine Zn.mg.load (i:=(i2:Int)) (by omega) hb ?_;intro pD;obtain⟨aaj,Gx,xg⟩:=iP (w:=v2) (z:=fH.1) (cs:=b.1) (t:=al) (by rw [b.2.1];rfl);refine⟨⟨b.2.1,b.2.one,fun j hj=>aaj j (by rw [b.2.1];exact hj)⟩,?_⟩;intro nh
      replace Gx:nh.heap[v2.heap.size]? =some (.cells b.1 al (0,0)):=Gx
      replace xg:Kept Nil v2 nh:=xg
      clear_value nh;have Rq:=Bv2.same xg;have V1:=xg.heap (g4.heap Bh (by omega)) (fun h=>h);have Zp:=Zn.aK xg (fun _ _ h=>h);obtain⟨aB,Ji,_,QM⟩:=Zp.bl.at_ i2 bb2 Wg;subst Ji;refine⟨some aB,m1,d1,by rw [bE,aE V1];exact hcg.2.2.1,⟨by omega,by omega⟩,bb2,by rw [Int.toNat_natCast,Nat.mul_one];exact QM,?_⟩;rw [DB hb Wg]at g1;cases bb2 with
      |false=>
       refine Split.no rfl ?_;rw [dF (n:=(i2:Int)) (by omega) (by omega)];exact⟨(i2:Int)+1,rfl,⟨i2+1,rfl,dX,dn,g1,g2.same xg,g3,g4.trans xg (fun _ _ h=>h.elim)⟩,by simp only;omega⟩
      |true=>
       rw [if_pos rfl,gz,List.append_assoc]at g1;have adn:cr G.D [b] h=if oC G.D b h then [b]else []:=by
        unfold cr;by_cases hp:oC G.D b h
        ·rw [if_pos hp,List.filter_cons_of_pos (by simpa using hp)];rfl
        ·rw [if_neg hp,List.filter_cons_of_neg (by simpa using hp)];rfl
       rw [adn,<-List.append_assoc]at g1;refine Split.yes rfl ⟨some ⟨c,0,none⟩,by rw [aE Rq.V.hc];rfl,b.1,⟨b.2.1,Cells.bV Gx⟩,h.1,⟨h.2.1,by have:=Rq.hb;rw [YP]at this;exact Cells.bV this⟩,?_⟩;refine ti Rq hD o6 hs hc (done:=dn) (by rw [xh];exact g2.same xg) Gx (by omega) (fun ha=>by
        rw [if_pos ha]at g1;rw [<-g1]at yi;exact(List.nodup_append.1 yi).1) ?_ ?_
       ·intro u2 ha hp JW
        rw [xh]at hp;rw [if_pos ha,List.append_assoc]at g1;have kk:Kept (· =p'.fm) v2 u2:=(xg.mono fun _ _ h=>h.elim).tt JW;obtain⟨o1,o2⟩:=out (u:=u2) false (TE.tt kk) (U4.aK kk (by omega) (by omega)) (DH g1 hp).symm (fun e=>by cases e);refine⟨o1,?_⟩;intro Ze;rw [iS];exact o2 Ze rfl
       ·intro u2 dn' ed2 EC WK JW
        rw [xh]at EC WK;have kk:Kept (· =p'.fm) v2 u2:=(xg.mono fun _ _ h=>h.elim).tt JW;rw [dF (n:=(i2:Int)) (by omega) (by omega)];refine⟨(i2:Int)+1,rfl,⟨i2+1,rfl,dX,dn',by rw [ed2];exact g1,WK,?_,g4.tt kk⟩,by simp only;omega⟩;rw [ed2];by_cases ha:oC G.D b h
        ·rw [if_pos ha];exact zp g3 (EC ha)
        ·rw [if_neg ha,List.append_nil];exact g3
     ·rw [aU,ag.Y6]
      unfold ag.Xl;have en:(G.kr z).merge.drop i2= []:=List.drop_eq_nil_of_le (by omega);rw [en]at g1;exact⟨U4,dn,by simpa [eJ,cr]using g1,g2,g3,TE,uV⟩
  ·rintro u1 R ⟨done,h1,h2,h3,h4,h5⟩ rC
   have e7:iY ρ0 jG.heap.size= [(3,.pointer (some ⟨p'.bc,0,none⟩)),(5,.pointer (some ⟨w.heap.size,0,none⟩)),(6,.pointer (some ⟨w4.heap.size,0,none⟩)),(7,.pointer (some ⟨w5.heap.size,0,none⟩)),(36,Dk),(4294967296,.agg (rp [jG.heap.size]))]:=rfl;rw [e7,ag.lI];unfold ag.jW;have ec:done=lA:=by rw [<-h1,List.drop_of_length_le (Nat.le_refl _),zE,List.append_nil]
   obtain⟨o1,o2⟩:=out (u:=u1) true h4 rC (by rw [<-ec,h3]) (fun _=>by rw [<-ec];exact h2);refine⟨o1,?_⟩;intro qZ;obtain⟨abp,_,r,t1,t2,t3,t4⟩:=o2 qZ rfl;clear_value qZ;rw [oo];have kt:=lg [jG.heap.size] qZ;have hm:∀E∈ [jG.heap.size],qZ.heap[E]? =some (.deferred (some [])):=fun E hE=>by
    rw [List.mem_singleton]at hE;subst hE;exact abp.mark
   refine⟨mR [jG.heap.size] qZ (by simp) hm,r,by rw [aE (kt.heap t1 (fun hE=>by rw [List.mem_singleton]at hE;omega))];rfl,?_⟩;exact hK' _ r t2 (fun e=>(t3 e).aK kt (fun hE=>by rw [List.mem_singleton]at hE;omega)) (((kA K5).trans t4 (fun j hj e=>by rcases e with e|e;exact e;omega)).trans kt (fun j hj hE=>by rw [List.mem_singleton]at hE;omega))
  ·rintro u1 R ⟨_,r,t1,t2,t3,t4⟩ rC
   have e7:iY ρ0 jG.heap.size= [(3,.pointer (some ⟨p'.bc,0,none⟩)),(5,.pointer (some ⟨w.heap.size,0,none⟩)),(6,.pointer (some ⟨w4.heap.size,0,none⟩)),(7,.pointer (some ⟨w5.heap.size,0,none⟩)),(36,Dk),(4294967296,.agg (rp [jG.heap.size]))]:=rfl;rw [e7,ag.BZ];unfold ag.wI;rw [oo];have kt:=lg [jG.heap.size] u1;have hm:∀E∈ [jG.heap.size],u1.heap[E]? =some (.deferred (some [])):=fun E hE=>by
    rw [List.mem_singleton]at hE;subst hE;exact rC.mark
   refine⟨mR [jG.heap.size] u1 (by simp) hm,r,by rw [aE (kt.heap t1 (fun hE=>by rw [List.mem_singleton]at hE;omega))];rfl,?_⟩;exact hK' _ r t2 (fun e=>(t3 e).aK kt (fun hE=>by rw [List.mem_singleton]at hE;omega)) (((kA K5).trans t4 (fun j hj e=>by rcases e with e|e;exact e;omega)).trans kt (fun j hj hE=>by rw [List.mem_singleton]at hE;omega))
  ·rintro id u1 R ⟨e,_⟩ rC
   cases e
end
end Go.Proofs.YtfleamccglihoaaGreatDoor
