import Derived.Test.YtfleamccglihoaaGreatDoorMI
import Derived.Test.YtfleamccglihoaaGreatDoorMJ
import Derived.Test.YtfleamccglihoaaGreatDoorMN
import Derived.Test.YtfleamccglihoaaGreatDoorMG
open Go.IntKind (i64 u64)
set_option linter.unusedVariables false
namespace Go.Proofs.YtfleamccglihoaaGreatDoor
open Go.Proofs.Tryz
open Go Go.bE
structure rl where
 ml:HT
 score:Nat
 merge:List HT
 iJ:List Bool
structure GS where
 D:DG
 P:List Int
 Cx:List rl
 p7:List (List HT)
def GS.at_(G:GS)(h:HT):Option Nat:=pos h (ids G.D) 0
def GS.iZ(G:GS)(h:HT):rl:=((G.at_ h).bind (G.Cx[·]?)).getD ⟨fI,0,[],[]⟩
def GS.world(G:GS)(h:HT):List HT:=((G.at_ h).bind (G.p7[·]?)).getD []
def GS.score(G:GS)(h:HT):Nat:=(G.iZ h).score
def gl(G:GS)(a b:HT):Bool:=decide (G.score a<G.score b)||(decide (G.score a=G.score b)&&cK a b)
def xK(G:GS)(a b:HT):Int:=if gl G a b then-1 else if gl G b a then 1 else 0
def bK(G:GS):List HT->HT
 | []=>fI
 |x::l=>l.foldl (fun b y=>if gl G b y then y else b) x
def nn(D:DG)(a b:HT):Prop:=a≠b/\¬fG D a b/\¬fG D b a
noncomputable instance(D:DG)(a b:HT):Decidable (nn D a b):=Classical.propDecidable _
noncomputable instance(D:DG)(a b:HT):Decidable (fG D a b):=Classical.propDecidable _
noncomputable def bY(D:DG)(l:List HT)(h:HT):List HT:=l.filter fun b=>decide (nn D b h)
def SO(G:GS)(l:List HT):Prop:=l.Pairwise fun a b=>gl G a b=true
noncomputable def ru(D:DG)(s:HT)(l:List HT):List HT:=(dh (eT D l++l)).filter fun h=>decide (h≠s/\¬fG D h s)
def tX(G:GS)(x:HT):List HT->List HT
 | []=> [x]
 |y::l=>if gl G x y then x::y::l else y::tX G x l
noncomputable def ct(G:GS)(s:HT)(l:List HT):List HT:=(ru G.D s l).foldr (tX G) []
noncomputable def tw(k:Nat)(D:DG)(wd:List HT)(h:HT):Bool:=decide ((bY D wd h).length<=k/\∀y∈bY D wd h,(bY D wd y).length+1<=k)
structure VS where
 wd:List HT
 bl:List Bool
noncomputable def rS(k:Nat)(D:DG)(s:VS)(h:HT):VS:=⟨if tw k D s.wd h then s.wd++ [h]else s.wd,s.bl++ [tw k D s.wd h]⟩
noncomputable def gK(k:Nat)(G:GS)(s:HT)(l:List HT):VS:=(ct G s l).foldl (rS k G.D) ⟨G.world s++ [s],[]⟩
noncomputable def fO(k:Nat)(G:GS)(s:HT)(l:List HT):rl:=⟨s,G.score s+1+(gK k G s l).bl.count true,ct G s l,(gK k G s l).bl⟩
noncomputable def fF(k:Nat)(G:GS)(h:HT)(ps:List HT):GS:=
 if eA G.D h ps=0 then⟨G.D++ [⟨h,dh ps⟩],G.P++ [(((pos (bK G ps) (ids G.D) 0).getD 0:Nat):Int)],G.Cx++ [fO k G (bK G ps) ps],G.p7++ [(gK k G (bK G ps) ps).wd]⟩else G
def gw(r:HT):GS:=⟨[⟨r,[]⟩],[-1],[⟨fI,0,[],[]⟩],[[]]⟩
def dM:List HT->List Bool->List HT
 |h::l,b::m=>if b then h::dM l m else dM l m
 |_,_=> []
theorem lT(G:GS)(a:HT):gl G a a=false:=by simp [gl,hZ]
theorem pS{G:GS}{a b c:HT}(h:gl G a b=true)(h':gl G b c=true):gl G a c=true:=by
 simp only [gl,Bool.or_eq_true,Bool.and_eq_true,decide_eq_true_eq]at*;rcases h with h|⟨h,h1⟩
 ·rcases h' with h'|⟨h',h2⟩
  ·exact .inl (by omega)
  ·exact .inl (by omega)
 ·rcases h' with h'|⟨h',h2⟩
  ·exact .inl (by omega)
  ·exact .inr ⟨by omega,kH h1 h2⟩
theorem sP{G:GS}{a b:HT}(h:gl G a b=false)(h':gl G b a=false):a=b:=by
 simp only [gl,Bool.or_eq_false_iff,Bool.and_eq_false_iff,decide_eq_false_iff_not]at*;have e:G.score a=G.score b:=by omega
 obtain⟨_,h2⟩:=h;obtain⟨_,h3⟩:=h';exact ow (by rcases h2 with h2|h2;exact absurd e h2;exact h2) (by rcases h3 with h3|h3;exact absurd e.symm h3;exact h3)
theorem xx{G:GS}{a b:HT}(h:gl G a b=true):gl G b a=false:=by
 cases hb:gl G b a
 ·rfl
 ·have:=pS h hb
  rw [lT]at this;cases this
theorem HM{G:GS}{a b:HT}:xK G a b<0↔gl G a b=true:=by
 unfold xK;split
 ·simp_all
 ·split<;>simp_all
theorem HL(G:GS)(a b:HT):xK G a b=if G.score a<G.score b then-1 else if G.score b<G.score a then 1 else mT a b:=by
 unfold xK mT gl;by_cases h1:G.score a<G.score b
 ·simp [h1]
 ·by_cases h2:G.score b<G.score a
  ·have:¬G.score a=G.score b:=by omega
   simp [h1,h2,this]
  ·have:G.score a=G.score b:=by omega
   simp [this]
theorem SO.cons{G:GS}{x:HT}{l:List HT}:SO G (x::l)↔(∀y∈l,gl G x y=true)/\SO G l:=List.pairwise_cons
theorem SO.nodup{G:GS}{l:List HT}(h:SO G l):l.Nodup:=List.Pairwise.imp (fun {a b} mJ e=>by subst e;rw [lT]at mJ;cases mJ) h
theorem Fw{G:GS}:∀ {l m:List HT},SO G l->SO G m->(∀x,x∈l↔x∈m)->l=m
 | [],[],_,_,_=>rfl
 | [],y::m,_,_,h=>by have:=(h y).2 (by simp);simp at this
 |x::l,[],_,_,h=>by have:=(h x).1 (by simp);simp at this
 |x::l,y::m,hl,hm,h=>by
  rw [SO.cons]at hl hm;have lZ:x=y:=by
   rcases List.mem_cons.1 ((h x).1 List.mem_cons_self)with e|e
   ·exact e
   ·rcases List.mem_cons.1 ((h y).2 List.mem_cons_self)with e'|e'
    ·exact e'.symm
    ·have h1:=hm.1 _ e
     have h2:=hl.1 _ e';rw [xx h1]at h2;cases h2
  subst lZ;have:l=m:=Fw hl.2 hm.2 fun z=>by
   have hz:=h z;simp only [List.mem_cons]at hz;constructor
   ·intro oF
    rcases hz.1 (.inr oF)with e|e
    ·subst e;have:=hl.1 _ oF;rw [lT]at this;cases this
    ·exact e
   ·intro oF
    rcases hz.2 (.inr oF)with e|e
    ·subst e;have:=hm.1 _ oF;rw [lT]at this;cases this
    ·exact e
  rw [this]
theorem sr{G:GS}{x z:HT}:∀ {l:List HT},z∈tX G x l↔z=x\/z∈l
 | []=>by simp [tX]
 |y::l=>by
  unfold tX;split
  ·simp
  ·simp only [List.mem_cons,sr (l:=l)]
   constructor
   ·rintro(h|h|h)<;>simp [h]
   ·rintro(h|h|h)<;>simp [h]
theorem A9{G:GS}{x:HT}:∀ {l:List HT},SO G l->x∉l->SO G (tX G x l)
 | [],_,_=>by simp [tX,SO]
 |y::l,h,hx=>by
  have h':=SO.cons.1 h;simp only [List.mem_cons,not_or]at hx;unfold tX;split
  ·rename_i lZ
   refine SO.cons.2 ⟨fun z hz=>?_,h⟩;rcases List.mem_cons.1 hz with rfl|hz
   ·exact lZ
   ·exact pS lZ (h'.1 _ hz)
  ·rename_i lZ
   refine SO.cons.2 ⟨fun z hz=>?_,A9 h'.2 hx.2⟩;rcases sr.1 hz with rfl|hz
   ·cases Ml:gl G y z
    ·exact absurd (sP Ml (by simpa using lZ)).symm hx.1
    ·rfl
   ·exact h'.1 _ hz
theorem oo{G:GS}{z:HT}:∀ {l:List HT},z∈l.foldr (tX G) []↔z∈l
 | []=>by simp
 |x::l=>by rw [List.foldr_cons,sr,oo,List.mem_cons]
theorem xU{G:GS}:∀ {l:List HT},l.Nodup->SO G (l.foldr (tX G) [])
 | [],_=>List.Pairwise.nil
 |x::l,h=>by
  rw [List.nodup_cons]at h;exact A9 (xU h.2) fun e=>h.1 (oo.1 e)
theorem oS(D:DG)(s:HT)(l:List HT):(ru D s l).Nodup:=(iL _).nodup.filter _
theorem wR{D:DG}{s:HT}{l:List HT}{h:HT}:h∈ru D s l↔((h∈ids D/\∃p∈l,fG D h p)\/h∈l)/\h≠s/\¬fG D h s:=by
 unfold ru eT;rw [List.mem_filter,dJ,List.mem_append,jL,decide_eq_true_eq]
theorem iV{G:GS}{s:HT}{l:List HT}{h:HT}:h∈ct G s l↔((h∈ids G.D/\∃p∈l,fG G.D h p)\/h∈l)/\h≠s/\¬fG G.D h s:=by
 unfold ct;rw [oo,wR]
theorem lW(G:GS)(s:HT)(l:List HT):SO G (ct G s l):=xU (oS _ _ _)
theorem BR{G:GS}{s:HT}{l m:List HT}(hs:SO G m)(h:∀x,x∈m↔x∈ru G.D s l):m=ct G s l:=
 Fw hs (lW G s l) fun x=>by unfold ct;rw [h,oo]
theorem jI{G:GS}:∀ {l:List HT},l≠ []->bK G l∈l
 |x::l,_=>by
  have key:∀(l:List HT) (b:HT),l.foldl (fun b y=>if gl G b y then y else b) b=b\/l.foldl (fun b y=>if gl G b y then y else b) b∈l:=by
   intro l
   induction l with
   |nil=>intro b;exact .inl rfl
   |cons y l ih=>
    intro b;simp only [List.foldl_cons];rcases ih (if gl G b y then y else b)with e|e
    ·rw [e]
     split
     ·exact .inr List.mem_cons_self
     ·exact .inl rfl
    ·exact .inr (List.mem_cons_of_mem _ e)
  rcases key l x with e|e
  ·rw [bK,e];exact List.mem_cons_self
  ·exact List.mem_cons_of_mem _ e
theorem fz(D:DG)(l m:List HT)(h:HT):bY D (l++m) h=bY D l h++bY D m h:=List.filter_append ..
theorem eU{D:DG}{l:List HT}{h b:HT}:b∈bY D l h↔b∈l/\nn D b h:=by unfold bY;rw [List.mem_filter,decide_eq_true_eq]
theorem nn.symm{D:DG}{a b:HT}(h:nn D a b):nn D b a:=⟨h.1.symm,h.2.2,h.2.1⟩
theorem kX{x:HT}:∀ {m:List HT} {b:List Bool},x∈dM m b->x∈m
 |h::l,b::m,hx=>by
  unfold dM at hx;split at hx
  ·rcases List.mem_cons.1 hx with e|e
   ·rw [e];exact List.mem_cons_self
   ·exact List.mem_cons_of_mem _ (kX e)
  ·exact List.mem_cons_of_mem _ (kX hx)
 | [],_,hx=>by simp [dM]at hx
 |_::_,[],hx=>by simp [dM]at hx
theorem mB:∀ {m:List HT} {b:List Bool},m.Nodup->(dM m b).Nodup
 |h::l,b::m,hn=>by
  rw [List.nodup_cons]at hn;unfold dM;split
  ·exact List.nodup_cons.2 ⟨fun e=>hn.1 (kX e),mB hn.2⟩
  ·exact mB hn.2
 | [],_,_=>by simp [dM]
 |_::_,[],_=>by simp [dM]
theorem tu:∀ {m:List HT} {b:List Bool},b.length=m.length->(dM m b).length=b.count true
 |h::l,b::m,hn=>by
  have:=tu (m:=l) (b:=m) (by simpa using hn);unfold dM;cases b<;>simp [this]
 | [],[],_=>rfl
 | [],_::_,h=>by simp at h
 |_::_,[],h=>by simp at h
theorem q8{x:HT}{c:Bool}:∀ {m:List HT} {b:List Bool},b.length=m.length->dM (m++ [x]) (b++ [c])=dM m b++if c then [x]else []
 |h::l,b::m,hn=>by
  have:=q8 (x:=x) (c:=c) (m:=l) (b:=m) (by simpa using hn);simp only [List.cons_append,dM,this];cases b<;>simp
 | [],[],_=>by cases c<;>simp [dM]
 | [],_::_,h=>by simp at h
 |_::_,[],h=>by simp at h
theorem HX(k:Nat)(D:DG)(wd:List HT):∀(m:List HT),∃b:List Bool,b.length=m.length/\m.foldl (rS k D) ⟨wd,[]⟩=⟨wd++dM m b,b⟩:=by
 intro m
 induction h:m.length generalizing m with
 |zero=>exact⟨[],by simp,by rw [List.length_eq_zero_iff.1 h];simp [dM]⟩
 |succ n ih=>
  have fJ:m≠ []:=fun e=>by rw [e]at h;simp at h
  obtain⟨m',x,rfl⟩:∃m' x,m=m'++ [x]:=⟨m.dropLast,m.getLast fJ,(List.dropLast_concat_getLast fJ).symm⟩;obtain⟨b,h1,h2⟩:=ih m' (by simpa using h);have h1:b.length=m'.length:=by rw [List.length_append,List.length_cons,List.length_nil]at h;omega
  refine⟨b++ [tw k D (wd++dM m' b) x],by simp only [List.length_append,List.length_cons,List.length_nil]at h⊢;omega,?_⟩;rw [List.foldl_append,h2,List.foldl_cons,List.foldl_nil,q8 h1];unfold rS;cases tw k D (wd++dM m' b) x<;>simp
theorem rT(k:Nat)(G:GS)(s:HT)(l:List HT):(gK k G s l).bl.length=(ct G s l).length/\(gK k G s l).wd=G.world s++ [s]++dM (ct G s l) (gK k G s l).bl:=by
 obtain⟨b,h1,h2⟩:=HX k G.D (G.world s++ [s]) (ct G s l);unfold gK;rw [h2];exact⟨h1,rfl⟩
structure lD(k:Nat)(G:GS):Prop where
 W:jZ G.D
 ml:rI G.D G.P
 lc:G.Cx.length=G.D.length
 lw:G.p7.length=G.D.length
 root:∀nd,G.D[0]? =some nd->G.iZ nd.id=⟨fI,0,[],[]⟩/\G.world nd.id= []
 up:∀s h,jS G.D G.P s h->(G.iZ h).ml=s/\G.world h=G.world s++ [s]++dM (G.iZ h).merge (G.iZ h).iJ/\(G.iZ h).iJ.length=(G.iZ h).merge.length/\(G.iZ h).merge.Nodup/\∀y,y∈(G.iZ h).merge↔fG G.D y h/\y≠s/\¬fG G.D y s
 wd:∀h∈ids G.D,(G.world h).Nodup/\(∀b∈G.world h,fG G.D b h)/\G.score h=(G.world h).length
theorem GS.vK{G:GS}(W:jZ G.D){i:Nat}{nd:DN}(h:G.D[i]? =some nd):G.at_ nd.id=some i:=W.pos_eq h
section
variable{k:Nat}{G:GS}{h:HT}{ps:List HT}
theorem vP(hc:eA G.D h ps≠0):fF k G h ps=G:=by unfold fF;rw [if_neg hc]
theorem tG:(fF k G h ps).D=mE G.D h ps:=by
 unfold fF mE;split<;>rfl
theorem LN:(fF k G h ps).D=rh G.D h (bK G ps) ps:=by
 rw [tG];unfold rh;by_cases hc:eA G.D h ps=0
 ·have fJ:=(lC hc).2.1
  have:gS G.D h (bK G ps) ps=0:=by unfold gS;rw [if_pos hc,if_pos (jI fJ)]
  rw [if_pos this,p4 hc]
 ·have:gS G.D h (bK G ps) ps≠0:=by unfold gS;rw [if_neg hc];exact hc
  rw [if_neg this];unfold mE;rw [if_neg hc]
theorem CJ:gS G.D h (bK G ps) ps=eA G.D h ps:=by
 unfold gS;split
 ·rename_i hc
  rw [if_pos (jI (lC hc).2.1),hc]
 ·rfl
theorem LO:(fF k G h ps).P=rf G.D G.P h (bK G ps) ps:=by
 unfold rf fF;rw [CJ];by_cases hc:eA G.D h ps=0
 ·rw [if_pos hc,if_pos hc]
 ·rw [if_neg hc,if_neg hc]
theorem lV(hc:eA G.D h ps=0):fF k G h ps=⟨G.D++ [⟨h,dh ps⟩],G.P++ [(((pos (bK G ps) (ids G.D) 0).getD 0:Nat):Int)],G.Cx++ [fO k G (bK G ps) ps],G.p7++ [(gK k G (bK G ps) ps).wd]⟩:=by
 unfold fF;rw [if_pos hc]
theorem zV(H:lD k G){s:HT}(hs:s∈ids G.D)(l:List HT)(hl:∀p∈l,p∈ids G.D):
 (gK k G s l).wd.Nodup/\(gK k G s l).wd.length=(fO k G s l).score/\∀y∈(gK k G s l).wd,y∈ids G.D/\(y=s\/fG G.D y s\/y∈ct G s l):=by
 obtain⟨h1,h2⟩:=rT k G s l;obtain⟨w1,w2,w3⟩:=H.wd s hs;have hm:∀y∈dM (ct G s l) (gK k G s l).bl,y∈ids G.D/\y≠s/\¬fG G.D y s:=fun y hy=>by
  obtain⟨e,h3,h4⟩:=iV.1 (kX hy);refine⟨?_,h3,h4⟩;rcases e with e|e
  ·exact e.1
  ·exact hl _ e
 rw [h2];refine⟨?_,?_,?_⟩
 ·refine List.nodup_append.2 ⟨List.nodup_append.2 ⟨w1,by simp,?_⟩,mB (lW G s l).nodup,?_⟩
  ·intro a ha b hb e
   have hb:b=s:=by simpa using hb
   subst hb;subst e;exact fG.irrefl H.W _ (w2 _ ha)
  ·intro a ha b hb e
   subst e;obtain⟨_,h3,h4⟩:=hm _ hb;rcases List.mem_append.1 ha with e|e
   ·exact h4 (w2 _ e)
   ·exact h3 (by simpa using e)
 ·unfold fO
  simp only [List.length_append,List.length_cons,List.length_nil,tu h1,w3]
 ·intro y hy
  rcases List.mem_append.1 hy with hy|hy
  ·rcases List.mem_append.1 hy with hy|hy
   ·exact⟨((w2 _ hy).mem H.W).1,.inr (.inl (w2 _ hy))⟩
   ·have:y=s:=by simpa using hy
    subst this;exact⟨hs,.inl rfl⟩
  ·exact⟨(hm _ hy).1,.inr (.inr (kX hy))⟩
theorem tD(H:lD k G){y:HT}(hy:y∈ids G.D):(fF k G h ps).iZ y=G.iZ y/\(fF k G h ps).world y=G.world y:=by
 by_cases hc:eA G.D h ps=0
 ·obtain⟨hn,fJ,gL,vU⟩:=lC hc
  obtain⟨nd,sJ,rfl⟩:=dz.1 hy;obtain⟨i,hi⟩:=List.getElem?_of_mem sJ;have fg:=(lgeS hi).1;have K5:(G.D++ [(⟨h,dh ps⟩:DN)])[i]? =some nd:=by rw [List.getElem?_append_left fg];exact hi
  have W':jZ (fF k G h ps).D:=by rw [tG];exact H.W.add h ps
  rw [lV hc]at W'⊢;have e1:(⟨G.D++ [⟨h,dh ps⟩],G.P++ [(((pos (bK G ps) (ids G.D) 0).getD 0:Nat):Int)],G.Cx++ [fO k G (bK G ps) ps],G.p7++ [(gK k G (bK G ps) ps).wd]⟩:GS).at_ nd.id=some i:=GS.vK W' K5;have e2:=GS.vK H.W hi;unfold GS.iZ GS.world;rw [e1,e2];simp only [Option.bind_some];rw [List.getElem?_append_left (by rw [H.lc];exact fg),List.getElem?_append_left (by rw [H.lw];exact fg)];exact⟨rfl,rfl⟩
 ·rw [vP hc];exact⟨rfl,rfl⟩
theorem tF(H:lD k G)(hc:eA G.D h ps=0):(fF k G h ps).iZ h=fO k G (bK G ps) ps/\(fF k G h ps).world h=(gK k G (bK G ps) ps).wd:=by
 have W':jZ (fF k G h ps).D:=by rw [tG];exact H.W.add h ps
 rw [lV hc]at W'⊢;have K5:(G.D++ [(⟨h,dh ps⟩:DN)])[G.D.length]? =some ⟨h,dh ps⟩:=by rw [List.getElem?_append_right (Nat.le_refl _),Nat.sub_self];rfl
 have e1:(⟨G.D++ [⟨h,dh ps⟩],G.P++ [(((pos (bK G ps) (ids G.D) 0).getD 0:Nat):Int)],G.Cx++ [fO k G (bK G ps) ps],G.p7++ [(gK k G (bK G ps) ps).wd]⟩:GS).at_ h=some G.D.length:=GS.vK W' K5;unfold GS.iZ GS.world;rw [e1];simp only [Option.bind_some];rw [List.getElem?_append_right (by rw [H.lc];exact Nat.le_refl _),H.lc,Nat.sub_self,List.getElem?_append_right (by rw [H.lw];exact Nat.le_refl _),H.lw,Nat.sub_self];exact⟨rfl,rfl⟩
end
section
variable{k:Nat}{G:GS}{h:HT}{ps:List HT}
theorem mo(k:Nat)(r:HT):lD k (gw r):=by
 have e0:(gw r).at_ r=some 0:=GS.vK (G:=gw r) (jZ.root r) (nd:=⟨r,[]⟩) rfl;have ec:(gw r).iZ r=⟨fI,0,[],[]⟩:=by unfold GS.iZ;rw [e0];rfl
 have ew:(gw r).world r= []:=by unfold GS.world;rw [e0];rfl
 refine⟨jZ.root r,rI.one r,rfl,rfl,?_,?_,?_⟩
 ·intro nd gL
  have:nd=⟨r,[]⟩:=by simpa [gw]using gL.symm
  subst this;exact⟨ec,ew⟩
 ·rintro s h ⟨i,j,ni,m,h1,_,h3,_,_⟩
  exfalso;cases i with
  |zero=>simp [gw]at h3
  |succ i=>simp [gw]at h1
 ·intro h hm
  have:h=r:=by simpa [gw,ids]using hm
  subst this;refine⟨by rw [ew];simp,by rw [ew];simp,?_⟩;unfold GS.score;rw [ec,ew];rfl
theorem Dy(H:lD k G)(hc:eA G.D h ps=0):∃(j:Nat) (m:DN),G.D[j]? =some m/\m.id=bK G ps/\(pos (bK G ps) (ids G.D) 0).getD 0=j/\bK G ps∈ps/\bK G ps∈ids G.D:=by
 obtain⟨hn,fJ,gL,vU⟩:=lC hc;have h1:=jI (G:=G) fJ;have h2:=vU _ (dJ.2 h1);obtain⟨m,hm,e⟩:=dz.1 h2;obtain⟨j,hj⟩:=List.getElem?_of_mem hm;have h3:=H.W.pos_eq hj;rw [e]at h3;exact⟨j,m,hj,e,by rw [h3];rfl,h1,h2⟩
theorem xS(H:lD k G)(hc:eA G.D h ps=0):(∀y,fG (G.D++ [⟨h,dh ps⟩]) y h↔∃p∈ps,y=p\/fG G.D y p)/\∀a b,b∈ids G.D->(fG (G.D++ [⟨h,dh ps⟩]) a b↔fG G.D a b):=by
 obtain⟨hn,fJ,gL,vU⟩:=lC hc;have W':jZ (G.D++ [⟨h,dh ps⟩]):=by have:=H.W.add h ps;rwa [p4 hc]at this
 have K5:(G.D++ [(⟨h,dh ps⟩:DN)])[G.D.length]? =some ⟨h,dh ps⟩:=by rw [List.getElem?_append_right (Nat.le_refl _),Nat.sub_self];rfl
 have BP:∀a b,b∈ids G.D->(fG (G.D++ [⟨h,dh ps⟩]) a b↔fG G.D a b):=fun a b hb=>iw H.W hn hb;refine⟨fun y=>?_,BP⟩;rw [AW W' K5 y];constructor
 ·rintro⟨p,hp,e⟩
  exact⟨p,dJ.1 hp,e.imp_right fun e=>(BP _ _ (vU _ hp)).1 e⟩
 ·rintro⟨p,hp,e⟩
  exact⟨p,dJ.2 hp,e.imp_right fun e=>(BP _ _ (vU _ (dJ.2 hp))).2 e⟩
theorem lD.add(H:lD k G)(h:HT)(ps:List HT):lD k (fF k G h ps):=by
 by_cases hc:eA G.D h ps=0
 ·obtain⟨hn,fJ,gL,vU⟩:=lC hc
  obtain⟨j,m,hj,hm,ko,CS,FK⟩:=Dy H hc;obtain⟨LL,BP⟩:=xS H hc;have hk:=fun y (hy:y∈ids G.D)=>tD (h:=h) (ps:=ps) H hy;obtain⟨nc,nw⟩:=tF H hc;obtain⟨v1,v2⟩:=rT k G (bK G ps) ps;obtain⟨u1,u2,u3⟩:=zV H FK ps (fun p hp=>vU _ (dJ.2 hp));have W':jZ (G.D++ [⟨h,dh ps⟩]):=by have:=H.W.add h ps;rwa [p4 hc]at this
  have pM:rI (G.D++ [(⟨h,dh ps⟩:DN)]) (G.P++ [(j:Int)]):=H.ml.snoc hj (by rw [hm];exact dJ.2 CS) H.W.pos;generalize hs:bK G ps=s at*;have eG:=lV (k:=k) hc;rw [hs,ko]at eG;have eD:(fF k G h ps).D=G.D++ [⟨h,dh ps⟩]:=by rw [eG]
  have eP:(fF k G h ps).P=G.P++ [(j:Int)]:=by rw [eG]
  refine⟨by rw [eD];exact W',by rw [eD,eP];exact pM,by rw [eG];simp [H.lc],by rw [eG];simp [H.lw],?_,?_,?_⟩
  ·intro nd sJ
   rw [eD,List.getElem?_append_left H.W.pos]at sJ;obtain⟨e1,e2⟩:=hk nd.id (dz.2 ⟨nd,List.mem_of_getElem? sJ,rfl⟩);rw [e1,e2];exact H.root nd sJ
  ·intro t y hy
   rw [eD,eP,mi H.W H.ml hn hj]at hy;rcases hy with hy|⟨rfl,rfl⟩
   ·have hp:=hy.par H.ml
    have RL:y∈ids G.D:=((fG.one hp).mem H.W).2;have FI:t∈ids G.D:=((fG.one hp).mem H.W).1;obtain⟨e1,e2⟩:=hk y RL;obtain⟨_,e3⟩:=hk t FI;obtain⟨g1,g2,g3,g4,g5⟩:=H.up t y hy;rw [e1,e2,e3,eD];refine⟨g1,g2,g3,g4,fun z=>?_⟩;rw [g5,BP _ _ RL,BP _ _ FI]
   ·show _/\_
    rw [nc,nw,hm,(hk s FK).2,eD];refine⟨rfl,v2,v1,(lW _ _ _).nodup,fun z=>?_⟩;show z∈ct G s ps↔_
    rw [iV,LL,BP _ _ FK];constructor
    ·rintro⟨e,h3,h4⟩
     refine⟨?_,h3,h4⟩;rcases e with⟨_,p,hp,e⟩|e
     ·exact⟨p,hp,.inr e⟩
     ·exact⟨z,e,.inl rfl⟩
    ·rintro⟨⟨p,hp,e⟩,h3,h4⟩
     refine⟨?_,h3,h4⟩;rcases e with rfl|e
     ·exact .inr hp
     ·exact .inl ⟨(e.mem H.W).1,p,hp,e⟩
  ·intro y hy
   rw [eD,jM]at hy;rcases List.mem_append.1 hy with hy|hy
   ·obtain⟨e1,e2⟩:=hk y hy
    obtain⟨g1,g2,g3⟩:=H.wd y hy;unfold GS.score;rw [e1,e2,eD];exact⟨g1,fun b hb=>(BP _ _ hy).2 (g2 b hb),g3⟩
   ·have:y=h:=by simpa using hy
    subst this;unfold GS.score;rw [nc,nw,eD];refine⟨u1,fun b hb=>?_,u2.symm⟩;obtain⟨_,e⟩:=u3 b hb;rw [LL];rcases e with rfl|e|e
    ·exact⟨b,CS,.inl rfl⟩
    ·exact⟨s,CS,.inr e⟩
    ·obtain⟨e,_,_⟩:=iV.1 e
     rcases e with⟨_,p,hp,e⟩|e
     ·exact⟨p,hp,.inr e⟩
     ·exact⟨b,e,.inl rfl⟩
 ·rw [vP hc];exact H
end
def lh(sz:HT->HT->Option Nat)(l:List HT)(b:HT):Nat:=(l.findSome? fun h=>sz h b).getD 0
def pJ(ov:HT->Option Nat)(base:HT->Nat)(b:HT):Nat:=(ov b).getD (base b)
structure OV(D:DG)(wd:List HT)(ov:HT->Option Nat)(base:HT->Nat):Prop where
 kn:∀b∈wd,pJ ov base b=(bY D wd b).length
 MI:∀b n,ov b=some n->b∈wd
noncomputable def wI(D:DG)(wd:List HT)(ov:HT->Option Nat)(base:HT->Nat)(h:HT):HT->Option Nat:=
 fun b=>if b∈bY D wd h then some (pJ ov base b+1)else if b=h then some (bY D wd h).length else ov b
theorem OV.step{D:DG}{wd:List HT}{ov:HT->Option Nat}{base:HT->Nat}(H:OV D wd ov base){h:HT}(hn:h∉wd):OV D (wd++ [h]) (wI D wd ov base h) base:=by
 refine⟨fun b hb=>?_,fun b n e=>?_⟩
 ·rw [fz,List.length_append]
  unfold pJ wI;by_cases hp:b∈bY D wd h
  ·rw [if_pos hp]
   obtain⟨h1,h2⟩:=eU.1 hp;rw [Option.getD_some,H.kn b h1];have:bY D [h] b= [h]:=by unfold bY;rw [List.filter_cons_of_pos (by simpa using h2.symm)];rfl
   rw [this];rfl
  ·rw [if_neg hp]
   by_cases e:b=h
   ·subst e
    rw [if_pos rfl,Option.getD_some];have:bY D [b] b= []:=by unfold bY;rw [List.filter_cons_of_neg (by simpa using fun e:nn D b b=>e.1 rfl)];rfl
    rw [this];rfl
   ·rw [if_neg e]
    have hw:b∈wd:=by
     rcases List.mem_append.1 hb with hb|hb
     ·exact hb
     ·exact absurd (by simpa using hb) e
    have:bY D [h] b= []:=by unfold bY;rw [List.filter_cons_of_neg (by simpa using fun e':nn D h b=>hp (eU.2 ⟨hw,e'.symm⟩))];rfl
    rw [this];exact H.kn b hw
 ·unfold wI at e
  split at e
  ·rename_i hp
   exact List.mem_append_left _ (eU.1 hp).1
  ·split at e
   ·rename_i hb;subst hb;exact List.mem_append_right _ (by simp)
   ·exact List.mem_append_left _ (H.MI b n e)
structure SZ(G:GS)(sz:HT->HT->Option Nat):Prop where
 kn:∀h l,h∈ids G.D->cN G.D G.P h l->∀b∈G.world h++ [h],lh sz l b=(bY G.D (G.world h++ [h]) b).length
 MI:∀h b n,sz h b=some n->b∈ids G.D
theorem SZ.ov{G:GS}{sz:HT->HT->Option Nat}(Z:SZ G sz){s:HT}(hs:s∈ids G.D){l:List HT}(hl:cN G.D G.P s l):OV G.D (G.world s++ [s]) (fun _=>none) (lh sz l):=
 ⟨fun b hb=>Z.kn s l hs hl b hb,fun b n e=>by cases e⟩
theorem Up.snoc{P:List Int}{p:Int}:∀ {i:Nat} {l:List Nat},Up P i l->Up (P++ [p]) i l:=by
 intro i l h
 induction h with
 |root=>exact .root
 |step h _ ih=>exact .step (by rw [List.getElem?_append_left (lgeS h).1];exact h) ih
theorem uS{D:DG}{nd:DN}{i:Nat}(h:i<D.length):mO (D++ [nd]) i=mO D i:=by unfold mO;rw [List.getElem?_append_left h]
theorem cN.snoc{D:DG}{P:List Int}(H:rI D P){nd:DN}{p:Int}{h:HT}{l:List HT}(hm:h∈ids D)(c:cN D P h l):cN (D++ [nd]) (P++ [p]) h l:=by
 rcases c with⟨hn,_⟩|⟨i,m,ks,h1,h2,h3,h4⟩
 ·exact absurd hm hn
 ·have fg:=(lgeS h1).1
  refine .inr ⟨i,m,ks,by rw [List.getElem?_append_left fg];exact h1,h2,h3.snoc,?_⟩;rw [h4];refine List.map_congr_left fun k hk=>(uS ?_).symm;have:=h3.lt H.par (by rw [H.len];exact fg) k hk
  rwa [H.len]at this
theorem cN.new{D:DG}{P:List Int}(W:jZ D)(H:rI D P){nd m:DN}{j:Nat}(hj:D[j]? =some m){l:List HT}(c:cN D P m.id l):cN (D++ [nd]) (P++ [(j:Int)]) nd.id (nd.id::l):=by
 have hm:m.id∈ids D:=dz.2 ⟨m,List.mem_of_getElem? hj,rfl⟩;have c':=cN.snoc (nd:=nd) (p:=(j:Int)) H hm c;rcases c with⟨hn,_⟩|⟨i,m',ks,h1,h2,h3,h4⟩
 ·exact absurd hm hn
 ·have pP:=W.inj h1 hj h2
  subst pP;have e0:(D++ [nd])[D.length]? =some nd:=by rw [List.getElem?_append_right (Nat.le_refl _),Nat.sub_self];rfl
  refine .inr ⟨D.length,nd,D.length::ks,e0,rfl,.step (by rw [<-H.len,List.getElem?_append_right (Nat.le_refl _),Nat.sub_self];rfl) h3.snoc,?_⟩;rw [List.map_cons,lR e0,h4]
  congr 1
  refine List.map_congr_left fun k hk=>(uS ?_).symm;have:=h3.lt H.par (by rw [H.len];exact(lgeS h1).1) k hk
  rwa [H.len]at this
theorem pD{D D':DG}{l:List HT}{b:HT}(h:∀a∈l,nn D' a b↔nn D a b):bY D' l b=bY D l b:=by
 unfold bY;exact List.filter_congr fun a ha=>by simp only [h a ha]
theorem SZ.root(r:HT):SZ (gw r) (fun _ _=>none):=by
 refine⟨fun h l hm _ b hb=>?_,fun h b n e=>by cases e⟩;have hh:h=r:=by simpa [gw,ids]using hm
 subst hh;have ew:(gw h).world h= []:=((mo 0 h).root ⟨h,[]⟩ rfl).2;rw [ew]at hb⊢;have:b=h:=by simpa using hb
 subst this;have:bY (gw b).D ([]++ [b]) b= []:=by unfold bY;rw [List.nil_append,List.filter_cons_of_neg (by simpa using fun e:nn (gw b).D b b=>e.1 rfl)];rfl
 rw [this];unfold lh;have:(l.findSome? fun _=>(none:Option Nat))=none:=by simp
 rw [this];rfl
theorem SZ.add{k:Nat}{G:GS}{sz:HT->HT->Option Nat}(Z:SZ G sz)(H:lD k G){h:HT}{ps:List HT}(hc:eA G.D h ps=0){l:List HT}(hl:cN G.D G.P (bK G ps) l){ov:HT->Option Nat}
 (O:OV G.D (gK k G (bK G ps) ps).wd ov (lh sz l)):SZ (fF k G h ps) (fun y=>if y=h then ov else sz y):=by
 obtain⟨hn,fJ,gL,vU⟩:=lC hc;obtain⟨j,m,hj,hm,ko,CS,FK⟩:=Dy H hc;obtain⟨LL,BP⟩:=xS H hc;have H':=H.add h ps;obtain⟨nc,nw⟩:=tF H hc;obtain⟨u1,u2,u3⟩:=zV H FK ps (fun p hp=>vU _ (dJ.2 hp));have eD:(fF k G h ps).D=G.D++ [⟨h,dh ps⟩]:=by rw [lV hc]
 have eP:(fF k G h ps).P=G.P++ [(j:Int)]:=by rw [lV hc,ko]
 have apt:∀a b,a∈ids G.D->b∈ids G.D->(nn (G.D++ [⟨h,dh ps⟩]) a b↔nn G.D a b):=fun a b ha hb=>by unfold nn;rw [BP _ _ hb,BP _ _ ha]
 have X3:∀(y:HT) (l':List HT),y∈ids G.D->cN G.D G.P y l'->∀b,lh (fun y=>if y=h then ov else sz y) l' b=lh sz l' b:=fun y l' hy c b=>by
  unfold lh;have RY:h∉l':=fun e=>hn ((c.mem H.W H.ml).1 e).mem.1;have key:∀l':List HT,h∉l'->(l'.findSome? fun y=>(if y=h then ov else sz y) b)=l'.findSome? fun y=>sz y b:=by
   intro l'
   induction l' with
   |nil=>intro _;rfl
   |cons y l' ih=>
    intro hq;simp only [List.mem_cons,not_or]at hq;rw [List.findSome?_cons,List.findSome?_cons,if_neg (fun e=>hq.1 e.symm),ih hq.2]
  rw [key l' RY]
 refine⟨fun y l' hy c b hb=>?_,fun y b n e=>?_⟩
 ·rw [eD,eP]at c
  rw [eD]at hy⊢;rw [jM]at hy;have W':jZ (G.D++ [⟨h,dh ps⟩]):=by have:=H'.W;rwa [eD]at this
  have S':rI (G.D++ [⟨h,dh ps⟩]) (G.P++ [(j:Int)]):=by have:=H'.ml;rwa [eD,eP]at this
  rcases List.mem_append.1 hy with hy|hy
  ·obtain⟨l0,c0⟩:=cN.ex H.ml y
   have:l'=l0:=c.one W' S' (c0.snoc H.ml hy);subst this;obtain⟨_,e2⟩:=tD (k:=k) (h:=h) (ps:=ps) H hy;rw [e2]at hb⊢;rw [X3 y l' hy c0,Z.kn y l' hy c0 b hb];have gM:∀a∈G.world y++ [y],a∈ids G.D:=fun a ha=>by
    rcases List.mem_append.1 ha with ha|ha
    ·exact(((H.wd y hy).2.1 a ha).mem H.W).1
    ·have:a=y:=by simpa using ha
     subst this;exact hy
   rw [pD fun a ha=>apt a b (gM a ha) (gM b hb)]
  ·have:y=h:=by simpa using hy
   subst this;have cn:=cN.new (nd:=⟨y,dh ps⟩) H.W H.ml hj (by rw [hm];exact hl);have:l'=y::l:=c.one W' S' cn;subst this;rw [nw]at hb⊢;have e1:lh (fun z=>if z=y then ov else sz z) (y::l) b=pJ ov (lh sz l) b:=by
    have:=X3 _ l FK hl b;unfold lh at this⊢;unfold pJ;rw [List.findSome?_cons];cases x6:ov b with
    |none=>simp only [if_true,x6,Option.getD_none];exact this
    |some n=>simp only [if_true,x6,Option.getD_some]
   rw [e1,fz,List.length_append];have Nr:∀a∈(gK k G (bK G ps) ps).wd,¬nn (G.D++ [⟨y,dh ps⟩]) a y:=fun a ha e=>by
    obtain⟨_,e'⟩:=u3 a ha;refine e.2.1 ((LL a).2 ?_);rcases e' with rfl|e'|e'
    ·exact⟨_,CS,.inl rfl⟩
    ·exact⟨_,CS,.inr e'⟩
    ·obtain⟨e',_,_⟩:=iV.1 e'
     rcases e' with⟨_,p,hp,e'⟩|e'
     ·exact⟨p,hp,.inr e'⟩
     ·exact⟨a,e',.inl rfl⟩
   rcases List.mem_append.1 hb with hb|hb
   ·have ZD:=(u3 b hb).1
    have:bY (G.D++ [⟨y,dh ps⟩]) [y] b= []:=by unfold bY;rw [List.filter_cons_of_neg (by simpa using fun e:nn _ y b=>Nr b hb e.symm)];rfl
    rw [this,O.kn b hb,pD fun a ha=>apt a b (u3 a ha).1 ZD];rfl
   ·have:b=y:=by simpa using hb
    subst this;have e2:bY (G.D++ [⟨b,dh ps⟩]) (gK k G (bK G ps) ps).wd b= []:=by
     unfold bY;rw [List.filter_eq_nil_iff];intro a ha;simpa using Nr a ha
    have e3:bY (G.D++ [⟨b,dh ps⟩]) [b] b= []:=by unfold bY;rw [List.filter_cons_of_neg (by simpa using fun e:nn _ b b=>e.1 rfl)];rfl
    rw [e2,e3];have e4:ov b=none:=by
     cases x6:ov b with
     |none=>rfl
     |some n=>exact absurd (u3 b (O.MI b n x6)).1 hn
    have e5:lh sz l b=0:=by
     unfold lh;have:(l.findSome? fun h=>sz h b)=none:=by
      rw [List.findSome?_eq_none_iff];intro y hy;cases Ug:sz y b with
      |none=>rfl
      |some n=>exact absurd (Z.MI y b n Ug) hn
     rw [this];rfl
    unfold pJ;rw [e4,e5];rfl
 ·rw [eD,jM]
  refine List.mem_append_left _ ?_;split at e
  ·exact(u3 b (O.MI b n e)).1
  ·exact Z.MI y b n e
noncomputable def vW(G:GS)(h:HT):List HT->List HT
 | []=> []
 |a::r=>(if nn G.D a h then [a]else [])++if fG G.D a h then []else bY G.D (dM (G.iZ a).merge (G.iZ a).iJ) h++vW G h r
theorem Up.inv{P:List Int}{i:Nat}{l:List Nat}(h:Up P i l):(i=0/\l= [0])\/∃(j:Nat) (r:List Nat),l=i::r/\P[i]? =some (j:Int)/\Up P j r:=by
 cases h with
 |root=>exact .inl ⟨rfl,rfl⟩
 |step h1 h2=>exact .inr ⟨_,_,rfl,h1,h2⟩
theorem cN.inv{D:DG}{P:List Int}(W:jZ D)(H:rI D P){h:HT}{l:List HT}(hm:h∈ids D)(c:cN D P h l):
 (l= [h]/\∃nd,D[0]? =some nd/\nd.id=h)\/∃(s:HT) (r:List HT),l=h::r/\jS D P s h/\s∈ids D/\cN D P s r:=by
 rcases c with⟨hn,_⟩|⟨i,m,ks,h1,h2,h3,h4⟩
 ·exact absurd hm hn
 ·rcases h3.inv with⟨rfl,rfl⟩|⟨j,r,rfl,h5,h6⟩
  ·refine .inl ⟨?_,m,h1,h2⟩
   rw [h4,List.map_cons,List.map_nil,lR h1,h2]
  ·have hj:j<D.length:=by
    cases i with
    |zero=>rw [H.root]at h5;simp only [Option.some.injEq]at h5;omega
    |succ i=>
     obtain⟨j',m',e,_,h7,_⟩:=H.up (i+1) _ m (by omega) h5 h1;have:=(lgeS h7).1;omega
   obtain⟨mj,Pg⟩:∃mj,D[j]? =some mj:=⟨_,List.getElem?_eq_getElem hj⟩;refine .inr ⟨mj.id,r.map (mO D),?_,⟨i,j,m,mj,h1,h2,h5,Pg,rfl⟩,dz.2 ⟨mj,List.mem_of_getElem? Pg,rfl⟩,.inr ⟨j,mj,r,Pg,rfl,h6,rfl⟩⟩;rw [h4,List.map_cons,lR h1,h2]
theorem LA{k:Nat}{G:GS}(H:lD k G)(h:HT):∀(l:List HT) (s:HT),s∈ids G.D->cN G.D G.P s l->(vW G h l).Nodup/\∀y,y∈vW G h l↔y∈bY G.D (G.world s++ [s]) h:=by
 intro l
 induction l with
 |nil=>
  intro s hs c;rcases c.inv H.W H.ml hs with⟨e,_⟩|⟨_,_,e,_⟩<;>cases e
 |cons a r ih=>
  intro s hs c;have key:∀(wb:List HT),G.world s=wb++dM (G.iZ s).merge (G.iZ s).iJ->(vW G h r).Nodup->(∀y,y∈vW G h r↔y∈bY G.D wb h)->a=s->(vW G h (a::r)).Nodup/\∀y,y∈vW G h (a::r)↔y∈bY G.D (G.world s++ [s]) h:=by
   rintro wb hw hn hy rfl;obtain⟨w1,w2,_⟩:=H.wd a hs;have Vi:=fG.irrefl H.W a;rw [hw]at w1 w2⊢;rw [List.nodup_append]at w1;obtain⟨w3,w4,w5⟩:=w1;unfold vW;by_cases ha:fG G.D a h
   ·have KP:¬nn G.D a h:=fun e=>e.2.1 ha
    rw [if_pos ha,if_neg KP];refine⟨by simp,fun y=>?_⟩;simp only [List.append_nil,List.not_mem_nil,false_iff];intro e;obtain⟨e1,e2⟩:=eU.1 e;rcases List.mem_append.1 e1 with e1|e1
    ·exact e2.2.1 ((w2 y e1).trans ha)
    ·have:y=a:=by simpa using e1
     subst this;exact KP e2
   ·rw [if_neg ha]
    have hr:∀y∈vW G h r,y∈wb:=fun y e=>(eU.1 ((hy y).1 e)).1;refine⟨?_,fun y=>?_⟩
    ·refine List.nodup_append.2 ⟨by split<;>simp,List.nodup_append.2 ⟨w4.filter _,hn,?_⟩,?_⟩
     ·intro x hx z hz e
      subst e;exact w5 x (hr x hz) x (eU.1 hx).1 rfl
     ·intro x hx z hz e
      subst e;split at hx
      ·have:x=a:=by simpa using hx
       subst this;refine Vi (w2 x ?_);rcases List.mem_append.1 hz with hz|hz
       ·exact List.mem_append_right _ (eU.1 hz).1
       ·exact List.mem_append_left _ (hr x hz)
      ·simp at hx
    ·rw [fz,fz]
     simp only [List.mem_append,hy];have e1:y∈(if nn G.D a h then [a]else [])↔y∈bY G.D [a] h:=by
      unfold bY;by_cases hp:nn G.D a h
      ·rw [if_pos hp,List.filter_cons_of_pos (by simpa using hp)];rfl
      ·rw [if_neg hp,List.filter_cons_of_neg (by simpa using hp)];rfl
     rw [e1];constructor
     ·rintro(e|e|e)
      ·exact .inr e
      ·exact .inl (.inr e)
      ·exact .inl (.inl e)
     ·rintro((e|e)|e)
      ·exact .inr (.inr e)
      ·exact .inr (.inl e)
      ·exact .inl e
  rcases c.inv H.W H.ml hs with⟨e,nd,h0,rfl⟩|⟨t,r',e,ou,ht,hc⟩
  ·obtain⟨r1,r2⟩:=H.root nd h0
   cases e;exact key [] (by rw [r2,r1];simp [dM]) (by simp [vW]) (fun y=>by simp [vW,bY]) rfl
  ·cases e
   obtain⟨_,u2,_⟩:=H.up t a ou;obtain⟨i1,i2⟩:=ih t ht hc;exact key (G.world t++ [t]) u2 i1 i2 rfl
noncomputable def mK(G:GS)(h:HT)(bl l:List HT):List HT:=bY G.D bl h++vW G h l
theorem HN{k:Nat}{G:GS}(H:lD k G){h s:HT}{l bl:List HT}(hs:s∈ids G.D)(hl:cN G.D G.P s l)(hn:(G.world s++ [s]++bl).Nodup):
 (mK G h bl l).Nodup/\(mK G h bl l).length=(bY G.D (G.world s++ [s]++bl) h).length/\∀y,y∈mK G h bl l↔y∈bY G.D (G.world s++ [s]++bl) h:=by
 obtain⟨h1,h2⟩:=LA H h l s hs hl;have h0:=hn;rw [List.nodup_append]at hn;obtain⟨n1,n2,n3⟩:=hn;have hm:∀y,y∈mK G h bl l↔y∈bY G.D (G.world s++ [s]++bl) h:=fun y=>by
  unfold mK;rw [fz,List.mem_append,List.mem_append,h2];exact Or.comm
 have gL:(mK G h bl l).Nodup:=by
  refine List.nodup_append.2 ⟨n2.filter _,h1,?_⟩;intro x hx z hz e;subst e;exact n3 x (eU.1 ((h2 x).1 hz)).1 x (eU.1 hx).1 rfl
 exact⟨gL,((List.perm_ext_iff_of_nodup gL (h0.filter _)).2 hm).length_eq,hm⟩
def pE(k:Nat)(kn:HT->Nat)(done:List HT)(b:HT):Bool:=decide (done.length+1<=k/\kn b<k)
def dO(k:Nat)(kn:HT->Nat):List HT->List HT->Bool
 |_,[]=>true
 |done,b::l=>pE k kn done b&&dO k kn (done++ [b]) l
theorem nV{k:Nat}{kn:HT->Nat}:∀ {l done:List HT},dO k kn done l=true↔(l≠ []->done.length+l.length<=k)/\∀b∈l,kn b<k
 | [],done=>by simp [dO]
 |b::l,done=>by
  unfold dO pE;rw [Bool.and_eq_true,decide_eq_true_eq,nV];simp only [List.length_append,List.length_cons,List.length_nil,List.mem_cons,forall_eq_or_imp,ne_eq,reduceCtorEq,not_false_eq_true,forall_const];constructor
  ·rintro⟨⟨h1,h2⟩,h3,h4⟩
   refine⟨?_,h2,h4⟩;by_cases e:l= []
   ·subst e;simpa using h1
   ·have:=h3 e;omega
  ·rintro⟨h1,h2,h3⟩
   refine⟨⟨by omega,h2⟩,fun _=>by omega,h3⟩
theorem kY{k:Nat}{kn:HT->Nat}:∀ {l m done:List HT},dO k kn done (l++m)=(dO k kn done l&&dO k kn (done++l) m)
 | [],m,done=>by simp [dO]
 |b::l,m,done=>by
  simp only [List.cons_append,dO,kY (l:=l),Bool.and_assoc,List.append_assoc,List.nil_append]
theorem Fg{k:Nat}{D:DG}{wd:List HT}{kn:HT->Nat}{h:HT}{c:List HT}(hk:∀b∈wd,kn b=(bY D wd b).length)(hl:c.length=(bY D wd h).length)(hm:∀y,y∈c↔y∈bY D wd h):
 dO k kn [] c=tw k D wd h:=by
 rw [Bool.eq_iff_iff,nV];unfold tw;rw [decide_eq_true_eq];simp only [List.length_nil,Nat.zero_add,<-hl];constructor
 ·rintro⟨h1,h2⟩
  refine⟨?_,fun y hy=>?_⟩
  ·by_cases e:c= []
   ·subst e;simp
   ·exact h1 e
  ·have:=h2 y ((hm y).2 hy)
   rw [hk y (eU.1 hy).1]at this;omega
 ·rintro⟨h1,h2⟩
  refine⟨fun _=>h1,fun y hy=>?_⟩;have hy:=(hm y).1 hy;rw [hk y (eU.1 hy).1];have:=h2 y hy;omega
open Go.RowKit
theorem DP:ur dK dP (.pointer none):=⟨by kernel_rfl,rJ (by kernel_rfl)⟩
theorem pH:ur b0 fE (.int .i64 0):=⟨by kernel_rfl,rJ (by kernel_rfl)⟩
structure Bo(w:World)(A:Option Addr)(n:Nat)(l:List Bool):Prop where
 len:l.length=n
 at_:∀(i:Nat) (b:Bool),l[i]? =some b->∃a,A=some a/\a.block<w.heap.size/\w.cell? (a.add i)=some (.bool b)
theorem Bo.aK{S:Nat->Prop}{w w':World}{A:Option Addr}{n:Nat}{l:List Bool}(h:Bo w A n l)(hk:Kept S w w')(hn:∀a,A=some a->¬S a.block):Bo w' A n l:=⟨h.len,fun i x hi=>by
 obtain⟨a,h1,h2,h3⟩:=h.at_ i x hi;exact⟨a,h1,Nat.lt_of_lt_of_le h2 hk.size,hk.cell h3 (by rw [iy];exact hn a h1)⟩⟩
theorem Bo.same{w w':World}{A:Option Addr}{n:Nat}{l:List Bool}(h:Bo w A n l)(hk:Kept Nil w w'):Bo w' A n l:=h.aK hk fun _ _ h=>h
def Gs(ov:HT->Option Nat)(b:HT):Option Value:=(ov b).map fun n:Nat=>.int .i64 (n:Int)
def CN(w:World)(F:Nat->Prop)(sm:Option Nat)(sz:HT->Option Nat):Prop:=
 (sm=none/\∀b,sz b=none)\/∃s,sm=some s/\F s/\dX w s (Gs sz)
def dT(c:rl)(A:Option Addr)(n cp:Nat)(B:Option Addr)(m cq:Nat):Array Value:=c.ml.1++ #[.int .u64 (c.score:Int),.slice A n cp,.slice B m cq]
structure oN(w:World)(F:Nat->Prop)(q:Nat)(c:rl)(sz:HT->Option Nat)(A:Option Addr)(n cp:Nat)(B:Option Addr)(m cq:Nat)(sm:Option Nat):Prop where
 top:w.heap[q]? =some (.cells (dT c A n cp B m cq++ #[.map sm]) dg (0,0))
 mg:HS w A n c.merge
 bl:Bo w B m c.iJ
 fA:∀a,A=some a->F a.block
 fB:∀a,B=some a->F a.block
 sz:CN w F sm sz
 fq:F q
def Seen(w:World)(F:Nat->Prop)(q:Nat)(c:rl)(sz:HT->Option Nat):Prop:=∃A n cp B m cq sm,oN w F q c sz A n cp B m cq sm
section
variable{w w':World}{F S:Nat->Prop}{q:Nat}{c:rl}{sz:HT->Option Nat}{A B:Option Addr}{n cp m cq:Nat}{sm:Option Nat}
theorem CN.aK(h:CN w F sm sz)(hk:Kept S w w')(hF:∀j,F j->¬S j):CN w' F sm sz:=by
 rcases h with h|⟨s,h1,h2,h3⟩
 ·exact .inl h
 ·exact .inr ⟨s,h1,h2,h3.aK hk (hF _ h2)⟩
theorem oN.aK(h:oN w F q c sz A n cp B m cq sm)(hk:Kept S w w')(hF:∀j,F j->¬S j):oN w' F q c sz A n cp B m cq sm:=
 ⟨hk.heap h.top (hF _ h.fq),h.mg.aK hk (fun a ha=>hF _ (h.fA a ha)),h.bl.aK hk (fun a ha=>hF _ (h.fB a ha)),h.fA,h.fB,h.sz.aK hk hF,h.fq⟩
theorem Seen.aK(h:Seen w F q c sz)(hk:Kept S w w')(hF:∀j,F j->¬S j):Seen w' F q c sz:=by
 obtain⟨A,n,cp,B,m,cq,sm,h⟩:=h;exact⟨A,n,cp,B,m,cq,sm,h.aK hk hF⟩
theorem bX(c:rl)(A:Option Addr)(n cp:Nat)(B:Option Addr)(m cq:Nat):(dT c A n cp B m cq).size=35:=by
 unfold dT;rw [Array.size_append,c.ml.2.1];rfl
theorem gN(c:rl)(A:Option Addr)(n cp:Nat)(B:Option Addr)(m cq:Nat)(r:Array Value):
 ((dT c A n cp B m cq)++r)[32]? =some (.int .u64 (c.score:Int))/\((dT c A n cp B m cq)++r)[33]? =some (.slice A n cp)/\((dT c A n cp B m cq)++r)[34]? =some (.slice B m cq)/\((dT c A n cp B m cq)++r)[35]? =r[0]? :=by
 have hs:=bX c A n cp B m cq;have h0:c.ml.1.size=32:=c.ml.2.1;refine⟨?_,?_,?_,?_⟩
 ·rw [Array.getElem?_append_left (by omega)];unfold dT;rw [Array.getElem?_append_right (by omega),h0];rfl
 ·rw [Array.getElem?_append_left (by omega)];unfold dT;rw [Array.getElem?_append_right (by omega),h0];rfl
 ·rw [Array.getElem?_append_left (by omega)];unfold dT;rw [Array.getElem?_append_right (by omega),h0];rfl
 ·rw [Array.getElem?_append_right (by omega),hs]
theorem oN.Ra(h:oN w F q c sz A n cp B m cq sm):w.cell? (((⟨q,0,none⟩:Addr).add 0).add 32)=some (.int .u64 (c.score:Int)):=by
 rw [add_zero,bu,aD h.top];exact(gN ..).1
theorem oN.c35(h:oN w F q c sz A n cp B m cq sm):w.cell? ((⟨q,0,none⟩:Addr).add 35)=some (.map sm):=by
 rw [bu,aD h.top];exact(gN ..).2.2.2
theorem oN.iZ(h:oN w F q c sz A n cp B m cq sm):Cells w ((⟨q,0,none⟩:Addr).add 0) (dT c A n cp B m cq):=by
 intro j u hj;rw [add_zero,bu,aD h.top,Array.getElem?_append_left (by rw [bX];have:=(Array.getElem?_eq_some_iff.1 hj).1;rw [bX]at this;omega)];rw [Nat.zero_add];exact hj
end
structure CM where
 x:Nat
 mb:Nat
 SX:Nat->Prop
 FX:Nat->Prop
 q:HT->Nat
 sz:HT->HT->Option Nat
def CM.own(m:CM)(c j:Nat):Prop:=m.SX j\/j=c\/j=m.mb
structure CV(w:World)(F:Nat->Prop)(c:Nat)(k:Nat)(G:GS)(m:CM):Prop where
 top:w.heap[c]? =some (.cells #[.int .i64 (k:Int),.pointer (some ⟨m.x,0,none⟩),.map (some m.mb)] fN (0,0))
 X:zO w m.SX m.FX m.x G.D G.P
 all:dX w m.mb fun h=>if h∈ids G.D then some (.pointer (some ⟨m.q h,0,none⟩))else none
 seen:∀h∈ids G.D,Seen w F (m.q h) (G.iZ h) (m.sz h)
 iP:lD k G
 Z:SZ G m.sz
 fx:∀j,m.FX j->F j
 fo:∀j,F j->¬m.own c j
 so:∀j,m.SX j->j≠c/\j≠m.mb
 ne:c≠m.mb
 low:∀j,m.own c j\/F j->j<w.heap.size
section
variable{w w':World}{F S:Nat->Prop}{c k:Nat}{G:GS}{m:CM}{K:Value->World->Prop}
theorem CV.aK{S0:Nat->Prop}(h:CV w F c k G m)(hk:Kept S0 w w')(hS:∀j,m.own c j->¬S0 j)(hF:∀j,F j->¬S0 j):CV w' F c k G m where
 top:=hk.heap h.top (hS _ (.inr (.inl rfl)))
 X:=h.X.aK hk (fun j e=>hS j (.inl e)) (fun j e=>hF j (h.fx j e))
 all:=h.all.aK hk (hS _ (.inr (.inr rfl)))
 seen:=fun y hy=>(h.seen y hy).aK hk hF
 iP:=h.iP
 Z:=h.Z
 fx:=h.fx
 fo:=h.fo
 so:=h.so
 ne:=h.ne
 low:=fun j e=>Nat.lt_of_lt_of_le (h.low j e) hk.size
theorem CV.same(h:CV w F c k G m)(hk:Kept Nil w w'):CV w' F c k G m:=h.aK hk (fun _ _ h=>h) (fun _ _ h=>h)
theorem CV.c0(h:CV w F c k G m):w.cell? ((⟨c,0,none⟩:Addr).add 0)=some (.int .i64 (k:Int)):=by rw [bu,aD h.top];rfl
theorem CV.c1(h:CV w F c k G m):w.cell? ((⟨c,0,none⟩:Addr).add 1)=some (.pointer (some ⟨m.x,0,none⟩)):=by rw [bu,aD h.top];rfl
theorem CV.c2(h:CV w F c k G m):w.cell? ((⟨c,0,none⟩:Addr).add 2)=some (.map (some m.mb)):=by rw [bu,aD h.top];rfl
theorem CV.look(h:CV w F c k G m)(y:HT):(Instr.lookup dK (.map (some m.mb)) (.agg y.1) false).run prog w=.ok (.pointer (if y∈ids G.D then some ⟨m.q y,0,none⟩else none)) w:=by
 have:=h.all.look DP y;by_cases hy:y∈ids G.D
 ·rw [if_pos hy]at this;rw [if_pos hy];exact this
 ·rw [if_neg hy]at this;rw [if_neg hy];exact this
theorem CV.oK(h:CV w F c k G m){y:HT}(hy:y∈ids G.D):(Instr.lookup dK (.map (some m.mb)) (.agg y.1) false).run prog w=.ok (.pointer (some ⟨m.q y,0,none⟩)) w:=by
 have:=h.look y;rwa [if_pos hy]at this
theorem qV(h:CV w F c k G m)(hK:K (.bool true) w):bm prog di.id #[.pointer (some ⟨c,0,none⟩)] w K:=
 di.of (Split.yes rfl ⟨_,h.c1,hK⟩)
theorem Cy{A:Addr}{x y:Int}{cx:Nat}(h0:w.cell? A=some (.int .i64 x))(h1:w.cell? (A.add 1)=some (.int .i64 y))(hK:K (.int .i64 (if x=0 then y else x)) w):
 bm prog bA.id #[.slice (some A) 2 cx] w K:=by
 refine bA.of ?_;unfold bA.W;refine bA.cf (I:=fun s w'=>w'=w/\((s=(0,0))\/(s=(0,1)/\x=0)\/(s=(0,2)/\x=0/\y=0))) (μ:=fun s _=>(2-s.2).toNat) (s:=(0,0)) ⟨rfl,.inl rfl⟩ ?_;rintro s w' ⟨rfl,h⟩;rcases h with rfl|⟨rfl,hx⟩|⟨rfl,hx,hy⟩
 ·refine Split.yes rfl ⟨by simp only;omega,x,by rw [show(0:Int).toNat*1=0 from rfl,add_zero];exact h0,?_⟩
  by_cases hx:x=0
  ·refine Split.no (by simp [hx]) ?_
   exact⟨(0,1),rfl,⟨rfl,.inr (.inl ⟨rfl,hx⟩)⟩,by simp only;omega⟩
  ·refine Split.yes (by simpa using hx) ?_
   rw [if_neg hx]at hK;rw [gH];exact hK
 ·refine Split.yes rfl ⟨by simp only;omega,y,h1,?_⟩
  rw [if_pos hx]at hK;by_cases hy:y=0
  ·refine Split.no (by simp [hy]) ?_
   exact⟨(0,2),rfl,⟨rfl,.inr (.inr ⟨rfl,hx,hy⟩)⟩,by simp only;omega⟩
  ·refine Split.yes (by simpa using hy) ?_
   rw [gH];exact hK
 ·refine Split.no rfl ?_
  rw [aY,bA.dB];rw [if_pos hx,hy]at hK;exact hK
theorem zy{x y:Int}(hK:K (.int .i64 (if x<y then-1 else if y<x then 1 else 0)) w):bm prog cW.id #[.int .u64 x,.int .u64 y] w K:=by
 refine cW.of ?_;refine dR.of ⟨_,rfl,?_⟩;refine dR.of ⟨_,rfl,?_⟩;refine Split.no (by simp) (Split.no (by simp) (Split.dec (fun h=>?_) (fun h=>Split.dec (fun h'=>?_) (fun h'=>?_))))
 ·rw [if_pos h]at hK;exact hK
 ·rw [if_neg h,if_pos h']at hK;exact hK
 ·rw [if_neg h,if_neg h']at hK;exact hK
theorem qW(h:CV w F c k G m){a b:HT}(ha:a∈ids G.D)(hb:b∈ids G.D)(hK:∀w',Kept Nil w w'->K (.int .i64 (xK G a b)) w'):
 bm prog cC.id #[.pointer (some ⟨c,0,none⟩),.agg a.1,.agg b.1] w K:=by
 refine cC.of ?_;unfold cC.W;intro w4 w5 w6;have k4:Kept Nil w w4:=(Kept.refl _ _).alloc _;have QA:w4.heap[w.heap.size]? =some (.cells a.1 ax (0,0)):=aR w _;have k5:Kept Nil w4 w5:=(Kept.refl _ _).alloc _;have vD:w5.heap[w4.heap.size]? =some (.cells b.1 ax (0,0)):=aR w4 _;have k6:Kept Nil w5 w6:=(Kept.refl _ _).drew;clear_value w6;have zc:=(k5.tt k6).heap QA (fun h=>h);have pQ:=k6.heap vD (fun h=>h);have qw:=(k4.tt k5).tt k6;have h6:=h.same qw;obtain⟨A1,n1,c1,B1,m1,d1,s1,sa⟩:=h6.seen a ha;obtain⟨A2,n2,c2,B2,m2,d2,s2,sb⟩:=h6.seen b hb;refine⟨_,h6.c2,a.1,⟨a.2.1,Cells.bS zc⟩,_,h6.oK ha,_,sa.Ra,_,h6.c2,b.1,⟨b.2.1,Cells.bS pQ⟩,_,h6.oK hb,_,sb.Ra,a.1,⟨a.2.1,Cells.bS zc⟩,b.1,⟨b.2.1,Cells.bS pQ⟩,?_⟩;refine zy ⟨_,rfl,⟨b.1,rfl,b.2.1,Cells.bS pQ⟩,⟨a.1,rfl,a.2.1,Cells.bS zc⟩,?_⟩;refine nS a b ⟨_,rfl,?_⟩;have k7:Kept Nil w6 ((w6.alloc (.cells a.1 ax)).alloc (.cells b.1 ax)).drew:=(((Kept.refl Nil w6).alloc _).alloc _).drew;generalize ((w6.alloc (.cells a.1 ax)).alloc (.cells b.1 ax)).drew=w7 at k7⊢;intro w8;have k8:Kept Nil w7 w8:=(Kept.refl _ _).alloc _;have ME:w8.heap[w7.heap.size]? =some (.cells _ _ (0,0)):=aR w7 _;clear_value w8;refine Cy (A:=⟨w7.heap.size,0,none⟩) (by rw [aD ME];rfl) (by rw [bu,aD ME];rfl) ⟨_,rfl,?_⟩;have e:(if(if((G.iZ a).score:Int)<((G.iZ b).score:Int)then(-1:Int)else if((G.iZ b).score:Int)<((G.iZ a).score:Int)then 1 else 0)=0 then mT a b else if((G.iZ a).score:Int)<((G.iZ b).score:Int)then(-1:Int)else if((G.iZ b).score:Int)<((G.iZ a).score:Int)then 1 else 0)=xK G a b:=by
  rw [HL];unfold GS.score;by_cases h1:(G.iZ a).score<(G.iZ b).score
  ·have qU:((G.iZ a).score:Int)<((G.iZ b).score:Int):=by omega
   rw [if_pos h1,if_pos qU,if_neg (by decide)]
  ·have qU:¬((G.iZ a).score:Int)<((G.iZ b).score:Int):=by omega
   by_cases h2:(G.iZ b).score<(G.iZ a).score
   ·have sO:((G.iZ b).score:Int)<((G.iZ a).score:Int):=by omega
    rw [if_neg h1,if_neg qU,if_pos h2,if_pos sO,if_neg (by decide)]
   ·have sO:¬((G.iZ b).score:Int)<((G.iZ a).score:Int):=by omega
    rw [if_neg h1,if_neg qU,if_neg h2,if_neg sO,if_pos rfl]
 rw [e];exact hK _ ((qw.tt k7).tt k8)
end
section
variable{w:World}
theorem dX.Aj{mt te:TypeId}{z:Value}(T:ur mt te z){m:Nat}{f:HT->Option Value}(hm:dX w m f)(h:HT):
 (Instr.lookup mt (.map (some m)) (.agg h.1) true).run prog w=.ok (.tuple #[(f h).getD z,.bool (f h).isSome]) w:=by
 obtain⟨es,clock,l,h1,h2,h3,_⟩:=hm.ex;have h4:=kh h w h2;have h5:=ly h l 0;rw [h3]at h5;simp only [Instr.lookup,Sem.run_bind,run_underlying T.mY,nQ h1,Result.andThen_ok,Sem.run_pure,hU,h4];cases hp:kf h l 0 with
 |none=>rw [hp]at h5;simp [<-h5,T.zero]
 |some p=>rw [hp]at h5;simp [<-h5]
theorem yJ{mt te:TypeId}{z:Value}(T:ur mt te z)(h:HT):
 (Instr.lookup mt (.map none) (.agg h.1) true).run prog w=.ok (.tuple #[z,.bool false]) w:=by
 have h3:=kh (es:= []) (l:= []) h w trivial;simp only [Instr.lookup,Sem.run_bind,run_underlying T.mY,Result.andThen_ok,Sem.run_pure,hU];simp [h3,kf,T.zero]
theorem CN.Aj{F:Nat->Prop}{sm:Option Nat}{sz:HT->Option Nat}(h:CN w F sm sz)(b:HT):
 (Instr.lookup b0 (.map sm) (.agg b.1) true).run prog w=.ok (.tuple #[.int .i64 (((sz b).getD 0:Nat):Int),.bool (sz b).isSome]) w:=by
 rcases h with⟨rfl,h⟩|⟨s,rfl,_,h⟩
 ·rw [h b];exact yJ pH b
 ·have:=h.Aj pH b
  unfold Gs at this;cases hb:sz b with
  |none=>rw [hb]at this;exact this
  |some n=>rw [hb]at this;exact this
end
section
variable{w w':World}{F S:Nat->Prop}{c k:Nat}{G:GS}{m:CM}{K:Value->World->Prop}
theorem xB(h:CV w F c k G m)(hD:G.D.length<=5000)(a b:HT)(hK:∀w' (r:Bool),(r=true↔nn G.D a b)->Kept Nil w w'->K (.bool r) w'):
 bm prog cI.id #[.pointer (some ⟨c,0,none⟩),.agg a.1,.agg b.1] w K:=by
 refine cI.of ?_;unfold cI.W;intro w4 w5 w6;have k4:Kept Nil w w4:=(Kept.refl _ _).alloc _;have QA:w4.heap[w.heap.size]? =some (.cells a.1 ax (0,0)):=aR w _;have k5:Kept Nil w4 w5:=(Kept.refl _ _).alloc _;have vD:w5.heap[w4.heap.size]? =some (.cells b.1 ax (0,0)):=aR w4 _;have k6:Kept Nil w5 w6:=(Kept.refl _ _).drew;clear_value w6;have zc:=(k5.tt k6).heap QA (fun h=>h);have pQ:=k6.heap vD (fun h=>h);have qw:=(k4.tt k5).tt k6;have h6:=h.same qw;refine⟨a.1,⟨a.2.1,Cells.bS zc⟩,b.1,⟨b.2.1,Cells.bS pQ⟩,⟨a.2.ints,b.2.ints⟩,?_⟩;rw [gB];by_cases mJ:a=b
 ·refine Split.no (by rw [decide_eq_true mJ];rfl) (hK w6 false ⟨(fun e=>by cases e),fun e=>absurd mJ e.1⟩ qw)
 ·refine Split.yes (by rw [decide_eq_false mJ];rfl) ⟨_,h6.c1,a.1,⟨a.2.1,Cells.bS zc⟩,b.1,⟨b.2.1,Cells.bS pQ⟩,?_⟩
  obtain⟨mx,X6,_⟩:=h6.X;refine jo X6 hD a b fun w7 r hr k7=>⟨_,rfl,?_⟩;have uR:=qw.tt k7;cases r with
  |true=>exact Split.no rfl (hK w7 false ⟨(fun e=>by cases e),fun e=>absurd (hr.1 rfl) e.2.1⟩ uR)
  |false=>
   have h7:=h.same uR;refine Split.yes rfl ⟨_,h7.c1,b.1,⟨b.2.1,Cells.bS (k7.heap pQ (fun h=>h))⟩,a.1,⟨a.2.1,Cells.bS (k7.heap zc (fun h=>h))⟩,?_⟩;obtain⟨mx',X7,_⟩:=h7.X;refine jo X7 hD b a fun w8 r' YR k8=>⟨_,rfl,hK w8 _ ?_ (uR.tt k8)⟩;cases r' with
   |true=>exact⟨(fun e=>by cases e),fun e=>absurd (YR.1 rfl) e.2.2⟩
   |false=>exact⟨fun _=>⟨mJ,(fun e=>by have:=hr.2 e;cases this),(fun e=>by have:=YR.2 e;cases this)⟩,fun _=>rfl⟩
def kl(D:DG)(l:List HT):Int:=if l= []then 9 else if ∃p∈l,p∉ids D then 6 else 0
theorem uX(h:CV w F c k G m){A:Option Addr}{n cx:Nat}{l:List HT}(hl:HS w A n l)(hn:n<=400000)(hK:∀w',Kept Nil w w'->K (.int .i64 (kl G.D l)) w'):
 bm prog dt.id #[.pointer (some ⟨c,0,none⟩),.slice A n cx] w K:=by
 have hlen:=hl.len;refine dt.of ?_;unfold dt.W;intro w4;have k4:Kept Nil w w4:=(Kept.refl _ _).alloc _;have IV:w4.heap[w.heap.size]? =some (.cells #[.pointer (some ⟨c,0,none⟩)] cM (0,0)):=aR w _;clear_value w4;refine⟨some ⟨c,0,none⟩,by rw [aD IV];rfl,qV (h.same k4) ⟨_,rfl,Split.no rfl ?_⟩⟩;by_cases h0:n=0
 ·subst h0
  have e:l= []:=List.eq_nil_of_length_eq_zero hlen;refine Split.yes rfl ?_;have:=hK w4 k4;unfold kl at this;rw [if_pos e]at this;exact this
 ·have fJ:l≠ []:=fun e=>by subst e;exact h0 hlen.symm
  refine Split.no (by simpa using (by omega:¬(n:Int)=0)) ?_;refine bL.of (an.of ?_);refine an.cf (I:=fun s w'=>∃i:Nat,s=(0,(i:Int))/\i<=n/\(∀p∈l.take i,p∈ids G.D)/\Kept Nil w4 w') (μ:=fun s _=>((n:Int)-s.2).toNat) (s:=(0,0)) ⟨0,rfl,Nat.zero_le _,by simp,Kept.refl _ _⟩ ?_;rintro s w' ⟨i,rfl,hi,cP,kw⟩;have Yn:=k4.tt kw;refine Split.dec (fun lH=>?_) (fun iK=>?_)
  ·simp only at lH
   have fg:i<n:=by omega
   obtain⟨y,hy⟩:∃y,l[i]? =some y:=⟨_,List.getElem?_eq_getElem (by omega)⟩;refine(hl.same Yn).load (i:=(i:Int)) (by omega) hy ?_;refine dv.of ?_;unfold dv.W;intro w7 w8;have k7:Kept Nil w' w7:=(Kept.refl _ _).alloc _;have hb7:w7.heap[w'.heap.size]? =some (.cells y.1 ax (0,0)):=aR w' _;have k8:Kept Nil w7 w8:=(Kept.refl _ _).drew;clear_value w8;have ME:=k8.heap hb7 (fun h=>h);have RB:=(kw.tt k7).tt k8;have h8:=h.same (k4.tt RB);refine⟨some ⟨c,0,none⟩,by rw [aD (RB.heap IV (fun h=>h))];rfl,_,h8.c2,y.1,⟨y.2.1,Cells.bS ME⟩,_,h8.look y,_,rfl,?_⟩;by_cases hm:y∈ids G.D
   ·refine Split.no (by rw [if_pos hm];rfl) ?_
    simp only;rw [eK (n:=(i:Int)) (by omega) (by omega)];refine⟨(0,(i:Int)+1),rfl,⟨i+1,rfl,fg,fun p hp=>?_,RB⟩,by simp only;omega⟩;rcases(bI hy).1 hp with hp|rfl
    ·exact cP p hp
    ·exact hm
   ·refine Split.yes (by rw [if_neg hm];rfl) ?_
    refine⟨(i:Int),rfl,_,rfl,?_⟩;have:=hK w8 (k4.tt RB);unfold kl at this;rw [if_neg fJ,if_pos ⟨y,List.mem_of_getElem? hy,hm⟩]at this;refine Split.yes (decide_eq_true (by omega)) this
  ·simp only at iK
   rw [aY,an.dB];rw [List.take_of_length_le (by omega)]at cP;refine⟨_,rfl,_,rfl,?_⟩;have:=hK w' Yn;unfold kl at this;rw [if_neg fJ,if_neg (fun⟨p,hp,hn⟩=>hn (cP p hp))]at this;exact Split.no (by decide) this
end
theorem qZ{α β:Type}{f:α->Option β}{y:α}{n:β}:∀ {l:List α} {j:Nat},l[j]? =some y->(∀x∈l.take j,f x=none)->f y=some n->l.findSome? f=some n
 | [],j,h,_,_=>by simp at h
 |x::l,0,h,_,hy=>by
  simp only [List.getElem?_cons_zero,Option.some.injEq]at h;subst h;rw [List.findSome?_cons,hy]
 |x::l,j+1,h,ha,hy=>by
  have hx:=ha x (by simp);rw [List.findSome?_cons,hx];exact qZ (l:=l) (j:=j) (by simpa using h) (fun z hz=>ha z (by simp [hz])) hy
section
variable{w w':World}{F S:Nat->Prop}{c k:Nat}{G:GS}{m:CM}{K:Value->World->Prop}
theorem zi(h:CV w F c k G m)(hD:G.D.length<=5000){a b:HT}(ha:a∈ids G.D){l:List HT}(hc:cN G.D G.P a l)(hK:∀w',Kept Nil w w'->K (.int .i64 ((lh m.sz l b:Nat):Int)) w'):
 bm prog aS.id #[.pointer (some ⟨c,0,none⟩),.agg a.1,.agg b.1] w K:=by
 have W:=h.iP.W;have H:=h.iP.ml;have R0:∀y∈l,y∈ids G.D:=fun y hy=>((hc.mem W H).1 hy).mem.1;refine aS.of ?_;unfold aS.W;intro w4 w5 w6 w7 w8;have k4:Kept Nil w w4:=(Kept.refl _ _).alloc _;have IV:w4.heap[w.heap.size]? =some (.cells #[.pointer (some ⟨c,0,none⟩)] cM (0,0)):=aR w _;have k5:Kept Nil w4 w5:=(Kept.refl _ _).alloc _;have Wj:w5.heap[w4.heap.size]? =some (.cells a.1 ax (0,0)):=aR w4 _;have k6:Kept Nil w5 w6:=(Kept.refl _ _).alloc _;have pQ:w6.heap[w5.heap.size]? =some (.cells b.1 ax (0,0)):=aR w5 _;have k7:Kept Nil w6 w7:=(Kept.refl _ _).alloc _;have Iz:w7.heap[w6.heap.size]? =some (.cells #[.int .i64 0] fE (0,0)):=aR w6 _;have k8:Kept Nil w7 w8:=(Kept.refl _ _).drew;clear_value w8;have RT:=k8.heap Iz (fun h=>h);have ME:=k8.heap (k7.heap pQ (fun h=>h)) (fun h=>h);have ha8:=k8.heap (k7.heap (k6.heap Wj (fun h=>h)) (fun h=>h)) (fun h=>h);have Zz:=k8.heap (k7.heap (k6.heap (k5.heap IV (fun h=>h)) (fun h=>h)) (fun h=>h)) (fun h=>h);have Ee:=(((k4.tt k5).tt k6).tt k7).tt k8;have s06:=(((k4.tt k5).tt k6)).size;have l7:=bf Iz;have l8:=bf RT;clear_value w7 w6 w5 w4;refine⟨some ⟨c,0,none⟩,by rw [aD Zz];rfl,_,(h.same Ee).c1,a.1,⟨a.2.1,Cells.bS ha8⟩,?_⟩;refine qN a fun gY pb qb lQ G8 G5 CY hqb=>⟨_,rfl,?_⟩;have Tb:=lQ.size;have Ef:=Ee.tt lQ;have KL:=lQ.heap RT (fun h=>h)
 let zn:Value:=.func (.func aP.id) #[] #[.pointer (some ⟨pb,0,none⟩),.pointer (some ⟨qb,0,none⟩)]
 let ρ0:Env:= [(3,.pointer (some ⟨w.heap.size,0,none⟩)),(5,.pointer (some ⟨w5.heap.size,0,none⟩)),(6,.pointer (some ⟨w6.heap.size,0,none⟩)),(15,zn)]
 let J:Nat->World->Prop:=fun j u=>Kept Nil gY u/\j<=l.length/\∀y∈l.take j,m.sz y b=none
 let Jd:Code->World->Prop:=fun e u=>e=.ret/\Kept (fun k=>k=w6.heap.size) gY u/\∃n:Nat,(l.findSome? fun y=>m.sz y b)=some n/\u.heap[w6.heap.size]? =some (.cells #[.int .i64 (n:Int)] fE (0,0))
 have k0J:∀ {u:World},Kept Nil gY u->Kept Nil w u:=fun k=>Ef.tt k;have kS:∀ {v:World},Kept (fun k=>k=w6.heap.size) gY v->Kept Nil w v:=fun k=>Ef.trans k (fun k hk e=>by omega);obtain⟨mx,W9,_⟩:=(h.same Ef).X
 change Holds none [] prog _ _ _ ρ0 gY
 refine mu (n:=33) (ρ:=ρ0) (ρ0:=ρ0) ng mix aS.k (t:=15) (ps:= #[16]) (by kernel_rfl) (by decide) rfl aP.at_ rfl (.inl rfl) (fun i x hi hx=>hx) rfl pU l (fun _=>rfl) (fun q hq=>by
  have W0:q=16:=by simpa using hq
  subst W0;exact⟨by decide,by decide⟩) (zW (F:=m.FX) (x:=m.x) (m:=mx) (pb:=pb) (qb:=qb) hc (by omega)) J Jd ?_ ?_ (fun j u hJ=>⟨W9.same hJ.1,hJ.1.heap G8 (fun h=>h),hJ.1.heap G5 (fun h=>h)⟩) ?_ ?_ ?_ ?_ ?_
 ·rintro j u1 u2 R oZ ⟨h1,h2,h3⟩ mZ
  exact⟨h1.trans mZ (fun k hk e=>by omega),h2,h3⟩
 ·rintro e u1 u2 R oZ ⟨h1,h2,n,h3,h4⟩ mZ
  exact⟨h1,h2.trans mZ (fun k hk e=>by omega),n,h3,mZ.heap h4 (by omega)⟩
 ·intro R
  exact⟨(((Kept.refl _ _).alloc _).alloc _),Nat.zero_le _,by simp⟩
 ·rintro j z u1 R hz ⟨h1,h2,h3⟩ oZ
  have e7:jW ρ0 ((#[16]:Array Nat).toList.zip (pU z))= [(3,.pointer (some ⟨w.heap.size,0,none⟩)),(5,.pointer (some ⟨w5.heap.size,0,none⟩)),(6,.pointer (some ⟨w6.heap.size,0,none⟩)),(15,zn),(16,.agg z.1)]:=rfl;rw [e7,aS.a1];have tJ:=(lgeS hz).1;unfold aS.A1;intro w43;obtain⟨ry,jv,jf⟩:=gh (w:=u1) (z:=fI.1) (cs:=z.1) (t:=ax) (by rw [z.2.1];rfl);refine⟨⟨z.2.1,z.2.one,fun j hj=>ry j (by rw [z.2.1];exact hj)⟩,?_⟩;intro HW
  replace jv:HW.heap[u1.heap.size]? =some (.cells z.1 ax (0,0)):=jv
  replace jf:Kept Nil u1 HW:=jf
  clear_value HW;have ED:=oZ.aK jf (fun h=>h) (fun h=>h);refine⟨ED,fun w2 R2 mP vy=>?_⟩;have oy:=mP.heap jv (jF jv ED.loop);have tR:Kept Nil gY w2:=(h1.tt jf).trans mP (fun k hk e=>by omega);rw [aS.y1];unfold aS.Y1;intro MY;have TG:Kept Nil w2 MY:=(Kept.refl _ _).drew;clear_value MY;have Pv:=vy.aK TG (fun h=>h) (fun h=>h);have xh:=tR.tt TG;have JT:=lQ.tt xh;have WJ:=h.same (Ee.tt JT);obtain⟨A1,n1,c1,B1,m1,d1,s1,sa⟩:=WJ.seen z (R0 z (List.mem_of_getElem? hz));refine⟨some ⟨c,0,none⟩,by rw [aD (JT.heap Zz (fun h=>h))];rfl,_,WJ.c2,z.1,⟨z.2.1,Cells.bS (TG.heap oy (fun h=>h))⟩,_,WJ.oK (R0 z (List.mem_of_getElem? hz)),_,sa.c35,b.1,⟨b.2.1,Cells.bS (JT.heap ME (fun h=>h))⟩,_,_,sa.sz.Aj b,?_⟩;cases Yr:m.sz z b with
  |some n=>
   refine Split.yes rfl ⟨dL (xh.heap KL (fun h=>h)) (by simp),?_⟩;intro oO;have KJ:oO.heap[w6.heap.size]? =some (.cells #[.int .i64 (n:Int)] fE (0,0)):=by
    show(MY.setCell ⟨w6.heap.size,0,none⟩ (.int .i64 (n:Int))).heap[w6.heap.size]? =_;rw [cY (xh.heap KL (fun h=>h)) 0];rfl
   have BZ:Kept (· =w6.heap.size) MY oO:=Kept.setCell (S:=fun k=>k=w6.heap.size) (Kept.refl _ MY) (p:=⟨w6.heap.size,0,none⟩) (fun _=>rfl) _;clear_value oO;exact⟨Pv.aK BZ (fun e=>by omega) (fun e=>by omega),rfl,(xh.mono fun _ _ h=>h.elim).tt BZ,n,qZ hz h3 Yr,KJ⟩
  |none=>
   refine Split.no rfl ⟨Pv,xh,tJ,fun y hy=>?_⟩;rcases(bI hz).1 hy with hy|rfl
   ·exact h3 y hy
   ·exact Yr
 ·rintro u1 R ⟨h1,h2,h3⟩ oZ
  rw [List.take_of_length_le (Nat.le_refl _)]at h3;have e7:gm ρ0 gY.heap.size= [(3,.pointer (some ⟨w.heap.size,0,none⟩)),(5,.pointer (some ⟨w5.heap.size,0,none⟩)),(6,.pointer (some ⟨w6.heap.size,0,none⟩)),(15,zn),(4294967296,.agg (oU [gY.heap.size]))]:=rfl;rw [e7,aS.jx];unfold aS.iG;have qz:=h1.heap KL (fun h=>h);refine⟨dL qz (by simp),?_⟩;intro oO;have KJ:oO.heap[w6.heap.size]? =some (.cells #[.int .i64 0] fE (0,0)):=by
   show(u1.setCell ⟨w6.heap.size,0,none⟩ (.int .i64 0)).heap[w6.heap.size]? =_;rw [cY qz 0];rfl
  have BZ:Kept (· =w6.heap.size) u1 oO:=Kept.setCell (S:=fun k=>k=w6.heap.size) (Kept.refl _ u1) (p:=⟨w6.heap.size,0,none⟩) (fun _=>rfl) _;clear_value oO;have oZ:=oZ.aK BZ (fun e=>by omega) (fun e=>by omega);rw [lP];have kt:=ji [gY.heap.size] oO;have hm:∀E∈ [gY.heap.size],oO.heap[E]? =some (.deferred (some [])):=fun E hE=>by
   rw [List.mem_singleton]at hE;subst hE;exact oZ.mark
  refine⟨kP [gY.heap.size] oO (by simp) hm,0,by rw [aD (kt.heap KJ (fun hE=>by rw [List.mem_singleton]at hE;omega))];rfl,?_⟩;have e0:lh m.sz l b=0:=by
   unfold lh;have:(l.findSome? fun h=>m.sz h b)=none:=List.findSome?_eq_none_iff.2 h3;rw [this];rfl
  have:=hK (fp [gY.heap.size] oO) ((kS ((h1.mono fun _ _ h=>h.elim).tt BZ)).trans kt (fun k hk hE=>by rw [List.mem_singleton]at hE;have:=Ef.size;omega));rw [e0]at this;exact this
 ·rintro u1 R ⟨_,h2,n,h3,h4⟩ oZ
  have e7:gm ρ0 gY.heap.size= [(3,.pointer (some ⟨w.heap.size,0,none⟩)),(5,.pointer (some ⟨w5.heap.size,0,none⟩)),(6,.pointer (some ⟨w6.heap.size,0,none⟩)),(15,zn),(4294967296,.agg (oU [gY.heap.size]))]:=rfl;rw [e7,aS.yc];unfold aS.tH;rw [lP];have kt:=ji [gY.heap.size] u1;have hm:∀E∈ [gY.heap.size],u1.heap[E]? =some (.deferred (some [])):=fun E hE=>by
   rw [List.mem_singleton]at hE;subst hE;exact oZ.mark
  refine⟨kP [gY.heap.size] u1 (by simp) hm,(n:Int),by rw [aD (kt.heap h4 (fun hE=>by rw [List.mem_singleton]at hE;omega))];rfl,?_⟩;have e0:lh m.sz l b=n:=by unfold lh;rw [h3];rfl
  have:=hK (fp [gY.heap.size] u1) ((kS h2).trans kt (fun k hk hE=>by rw [List.mem_singleton]at hE;have:=Ef.size;omega));rw [e0]at this;exact this
 ·rintro id u1 R ⟨e,_⟩ oZ
  cases e
end
section
variable{w:World}
theorem xN{x:HT}:∀ {l:List (HT×Value)},assoc x l≠none↔x∈l.map (·.1)
 | []=>by simp [assoc]
 |(y,v)::l=>by
  have:=xN (x:=x) (l:=l);unfold assoc;by_cases e:x=y
  ·subst e;simp
  ·rw [if_neg e,this]
   simp only [List.map_cons,List.mem_cons];exact⟨.inr,fun h=>h.resolve_left e⟩
theorem dX.len{mt te:TypeId}{z:Value}(T:ur mt te z){m:Nat}{f:HT->Option Value}(hm:dX w m f)(ty:TypeId){l:List HT}(hn:l.Nodup)(hl:∀x,f x≠none↔x∈l):
 (Builtin.len_ #[mt] ty #[.map (some m)]).run prog w=.ok (.int .i64 (l.length:Int)) w:=by
 obtain⟨es,clock,l',h1,h2,h3,_,_,h6⟩:=hm.ex;have e1:es.size=l'.length:=by have:=h2.len;simpa using this
 have e2:l'.length=l.length:=by
  have hp:(l'.map (·.1)).Perm l:=(List.perm_ext_iff_of_nodup h6 hn).2 fun x=>by rw [<-xN,h3,hl]
  simpa using hp.length_eq
 simp [Builtin.len_,run_underlying T.mY,nQ h1,goInt,Result.andThen,e1,e2]
end
section
variable{w w':World}{F S:Nat->Prop}{c k:Nat}{G:GS}{m:CM}{K:Value->World->Prop}
structure VB(w:World)(c:Nat)(s:HT)(bs bc bh q sm:Nat)(ov:HT->Option Nat):Prop where
 hs:w.heap[bs]? =some (.cells #[.pointer (some ⟨q,0,none⟩)] dP (0,0))
 hc:w.heap[bc]? =some (.cells #[.pointer (some ⟨c,0,none⟩)] cM (0,0))
 hh:w.heap[bh]? =some (.cells s.1 ax (0,0))
 sz:w.cell? ((⟨q,0,none⟩:Addr).add 35)=some (.map (some sm))
 ov:dX w sm (Gs ov)
theorem VB.aK{S:Nat->Prop}{s:HT}{bs bc bh q sm:Nat}{ov:HT->Option Nat}(h:VB w c s bs bc bh q sm ov)(hk:Kept S w w')(h1:¬S bs)(h2:¬S bc)(h3:¬S bh)(h4:¬S q)(h5:¬S sm):VB w' c s bs bc bh q sm ov:=
 ⟨hk.heap h.hs h1,hk.heap h.hc h2,hk.heap h.hh h3,hk.cell h.sz h4,h.ov.aK hk h5⟩
theorem VB.same{s:HT}{bs bc bh q sm:Nat}{ov:HT->Option Nat}(h:VB w c s bs bc bh q sm ov)(hk:Kept Nil w w'):VB w' c s bs bc bh q sm ov:=h.aK hk (fun h=>h) (fun h=>h) (fun h=>h) (fun h=>h) (fun h=>h)
theorem xA(h:CV w F c k G m)(hD:G.D.length<=5000){s b:HT}(hs:s∈ids G.D){l:List HT}(hc:cN G.D G.P s l){bs bc bh q sm:Nat}{ov:HT->Option Nat}(V:VB w c s bs bc bh q sm ov)
 (hK:∀w',Kept Nil w w'->K (.int .i64 ((pJ ov (lh m.sz l) b:Nat):Int)) w'):
 bm prog bH.id #[.agg b.1,.pointer (some ⟨bs,0,none⟩),.pointer (some ⟨bc,0,none⟩),.pointer (some ⟨bh,0,none⟩)] w K:=by
 refine bH.of ?_;unfold bH.W;intro w4 w5;have k4:Kept Nil w w4:=(Kept.refl _ _).alloc _;have AO:w4.heap[w.heap.size]? =some (.cells b.1 ax (0,0)):=aR w _;have k5:Kept Nil w4 w5:=(Kept.refl _ _).drew;clear_value w5;have vD:=k5.heap AO (fun h=>h);have pf:=k4.tt k5;have V5:=V.same pf;refine⟨some ⟨q,0,none⟩,by rw [aD V5.hs];rfl,_,V5.sz,b.1,⟨b.2.1,Cells.bS vD⟩,?_⟩;have lk:=V5.ov.Aj pH b;unfold Gs at lk;cases hb:ov b with
 |some n=>
  rw [hb]at lk;refine⟨(n:Int),true,lk,Split.yes rfl ?_⟩;have:=hK w5 pf;unfold pJ at this;rw [hb]at this;exact this
 |none=>
  rw [hb]at lk;refine⟨0,false,lk,Split.no rfl ⟨some ⟨c,0,none⟩,by rw [aD V5.hc];rfl,s.1,⟨s.2.1,Cells.bS V5.hh⟩,b.1,⟨b.2.1,Cells.bS vD⟩,?_⟩⟩;refine zi (h.same pf) hD hs hc fun w7 k7=>⟨_,rfl,?_⟩;have:=hK w7 (pf.tt k7);unfold pJ at this;rw [hb]at this;exact this
def vR(w:World)(fm:Nat)(kn:HT->Nat)(done:List HT):Prop:=dX w fm fun y=>if y∈done then some (.int .i64 (kn y:Int))else none
theorem xy(h:CV w F c k G m)(hD:G.D.length<=5000)(rO:k<=1000){s b:HT}(hs:s∈ids G.D){l:List HT}(hc:cN G.D G.P s l){bs bc bh q sm kb fb fm:Nat}{ov:HT->Option Nat}(V:VB w c s bs bc bh q sm ov)
 (IM:w.heap[kb]? =some (.cells #[.func (.func bH.id) #[] #[.pointer (some ⟨bs,0,none⟩),.pointer (some ⟨bc,0,none⟩),.pointer (some ⟨bh,0,none⟩)]] dS (0,0)))
 (MA:w.heap[fb]? =some (.cells #[.map (some fm)] b0 (0,0))) {done:List HT} (hn:done.Nodup) (VV:b∉done) (hF:vR w fm (pJ ov (lh m.sz l)) done) (hfo:¬m.own c fm) (Vz:¬F fm) (fJ:bc≠fm)
 (hK:∀w' (r:Bool),r=pE k (pJ ov (lh m.sz l)) done b->vR w' fm (pJ ov (lh m.sz l)) (done++ [b])->Kept (· =fm) w w'->K (.bool r) w'):
 bm prog bZ.id #[.agg b.1,.pointer (some ⟨kb,0,none⟩),.pointer (some ⟨fb,0,none⟩),.pointer (some ⟨bc,0,none⟩)] w K:=by
 have X8:=hF.lt;refine bZ.of ?_;unfold bZ.W;intro w4 w5;have k4:Kept Nil w w4:=(Kept.refl _ _).alloc _;have AO:w4.heap[w.heap.size]? =some (.cells b.1 ax (0,0)):=aR w _;have k5:Kept Nil w4 w5:=(Kept.refl _ _).drew;clear_value w5;have vD:=k5.heap AO (fun h=>h);have pf:=k4.tt k5;have hnf:fb≠fm:=fun e=>by subst e;obtain⟨es,cl,_,h1,_⟩:=hF.ex;rw [MA]at h1;cases h1
 refine⟨some fm,by rw [aD (pf.heap MA (fun h=>h))];rfl,b.1,⟨b.2.1,Cells.bS vD⟩,_,by rw [aD (pf.heap IM (fun h=>h))];rfl,b.1,⟨b.2.1,Cells.bS vD⟩,?_⟩;refine⟨_,_,_,_,rfl,bH.at_,rfl,?_⟩;refine xA (h.same pf) hD hs hc (V.same pf) fun w7 k7=>⟨_,rfl,⟨b.1,rfl,b.2.1,Cells.bS (k7.heap vD (fun h=>h))⟩,?_,?_⟩
 ·rw [aD ((pf.tt k7).heap MA (fun h=>h))];rfl
 have uR:=pf.tt k7;obtain⟨w8,RT,hm8,k8⟩:=(hF.same uR).put pH b (.int .i64 ((pJ ov (lh m.sz l) b:Nat):Int));refine⟨w8,RT,?_⟩;intro w9;have k9:Kept Nil w8 w9:=(Kept.refl _ _).drew;clear_value w9;have Yj:Kept (· =fm) w7 w9:=k8.trans k9 (fun _ _ h=>h.elim);have Ed:Kept (· =fm) w w9:=(uR.mono fun _ _ h=>h.elim).tt Yj;have MG:vR w9 fm (pJ ov (lh m.sz l)) (done++ [b]):=by
  refine dX.same ?_ k9;have e:(fun y=>if y∈done++ [b]then some (Value.int .i64 ((pJ ov (lh m.sz l) y:Nat):Int))else none)=fun x=>if x=b then some (.int .i64 ((pJ ov (lh m.sz l) b:Nat):Int))else if x∈done then some (.int .i64 ((pJ ov (lh m.sz l) x:Nat):Int))else none:=by
   funext y
   by_cases e:y=b
   ·subst e;rw [if_pos (by simp),if_pos rfl]
   ·rw [if_neg e]
    by_cases hy:y∈done
    ·rw [if_pos (List.mem_append_left _ hy),if_pos hy]
    ·rw [if_neg (by simp [hy,e]),if_neg hy]
  rw [e];exact hm8
 have hb9:w9.heap[w.heap.size]? =some (.cells b.1 ax (0,0)):=((k7.mono fun _ _ h=>h.elim).tt Yj:Kept (· =fm) w5 w9).heap vD (by omega);have P3:=Ed.heap MA hnf;have gL:(done++ [b]).Nodup:=List.nodup_append.2 ⟨hn,by simp,fun x hx y hy e=>by
  have:y=b:=by simpa using hy
  subst this;subst e;exact VV hx⟩
 have h9:CV w9 F c k G m:=h.aK Ed (fun j hj e=>by subst e;exact hfo hj) (fun j hj e=>by subst e;exact Vz hj);have Zy:w9.heap[bc]? =some (.cells #[.pointer (some ⟨c,0,none⟩)] cM (0,0)):=Ed.heap V.hc fJ;refine⟨some fm,by rw [aD P3];rfl,(done++ [b]).length,MG.len pH fE gL (fun x=>by
  by_cases hx:x∈done++ [b]
  ·rw [if_pos hx];exact⟨fun _=>hx,fun _ e=>by cases e⟩
  ·rw [if_neg hx];exact⟨fun e=>absurd rfl e,fun e=>absurd e hx⟩),some ⟨c,0,none⟩,by rw [aD Zy];rfl,(k:Int),h9.c0,?_⟩
 refine Split.dec (fun h1=>?_) (fun h1=>?_)
 ·have lk:=dX.look pH MG b
  rw [if_pos (by simp)]at lk;refine⟨some fm,by rw [aD P3];rfl,b.1,⟨b.2.1,Cells.bS hb9⟩,_,lk,some ⟨c,0,none⟩,by rw [aD Zy];rfl,(k:Int),h9.c0,?_⟩;refine hK w9 _ ?_ MG Ed;unfold pE;rw [List.length_append,List.length_cons,List.length_nil]at h1;refine decide_eq_decide.2 ⟨fun h2=>⟨by omega,by omega⟩,fun h2=>by omega⟩
 ·refine hK w9 false ?_ MG Ed
  unfold pE;rw [List.length_append,List.length_cons,List.length_nil]at h1;exact(decide_eq_false (by omega)).symm
end
structure PN where
 bs:Nat
 bc:Nat
 bh:Nat
 q:Nat
 sm:Nat
 kb:Nat
 fb:Nat
 fm:Nat
 yb:Nat
 hb:Nat
def PN.zn(p:PN):Value:=.func (.func bZ.id) #[] #[.pointer (some ⟨p.kb,0,none⟩),.pointer (some ⟨p.fb,0,none⟩),.pointer (some ⟨p.bc,0,none⟩)]
def PN.kV(p:PN)(j:Nat):Prop:=p.bs≠j/\p.bc≠j/\p.bh≠j/\p.q≠j/\p.sm≠j/\p.kb≠j/\p.fb≠j
structure PG(w:World)(F:Nat->Prop)(c k:Nat)(G:GS)(m:CM)(s h:HT)(p:PN)(ov:HT->Option Nat):Prop where
 C:CV w F c k G m
 V:VB w c s p.bs p.bc p.bh p.q p.sm ov
 kb:w.heap[p.kb]? =some (.cells #[.func (.func bH.id) #[] #[.pointer (some ⟨p.bs,0,none⟩),.pointer (some ⟨p.bc,0,none⟩),.pointer (some ⟨p.bh,0,none⟩)]] dS (0,0))
 fb:w.heap[p.fb]? =some (.cells #[.map (some p.fm)] b0 (0,0))
 yb:w.cell? ⟨p.yb,0,none⟩=some p.zn
 hb:w.heap[p.hb]? =some (.cells h.1 ax (0,0))
 fo:¬m.own c p.fm
 ff:¬F p.fm
 kV:p.kV p.fm
 y:p.yb≠p.fm
 h:p.hb≠p.fm
section
variable{w w' u:World}{F:Nat->Prop}{c k:Nat}{G:GS}{m:CM}{s h:HT}{p:PN}{ov:HT->Option Nat}{K:Value->World->Prop}
theorem PG.aK(B:PG w F c k G m s h p ov)(hk:Kept (· =p.fm) w w'):PG w' F c k G m s h p ov:=by
 obtain⟨f1,f2,f3,f4,f5,f6,f7⟩:=B.kV;exact⟨B.C.aK hk (fun j hj e=>by subst e;exact B.fo hj) (fun j hj e=>by subst e;exact B.ff hj),B.V.aK hk f1 f2 f3 f4 f5,hk.heap B.kb f6,hk.heap B.fb f7,hk.cell B.yb B.y,hk.heap B.hb B.h,B.fo,B.ff,B.kV,B.y,B.h⟩
theorem PG.same(B:PG w F c k G m s h p ov)(hk:Kept Nil w w'):PG w' F c k G m s h p ov:=B.aK (hk.mono fun _ _ h=>h.elim)
theorem qp(B:PG w F c k G m s h p ov)(hD:G.D.length<=5000)(rO:k<=1000)(hs:s∈ids G.D){l:List HT}(hc:cN G.D G.P s l){done:List HT}(hF:vR w p.fm (pJ ov (lh m.sz l)) done){b:HT}{zb:Nat}
 (hz:w.heap[zb]? =some (.cells b.1 ax (0,0))) (hzf:zb≠p.fm) (hn:nn G.D b h->(done++ [b]).Nodup) {A T:World->Prop}
 (hA:∀u,nn G.D b h->pE k (pJ ov (lh m.sz l)) done b=false->Kept (· =p.fm) w u->A u)
 (hT:∀u uZ,uZ=done++(if nn G.D b h then [b]else [])->(nn G.D b h->pE k (pJ ov (lh m.sz l)) done b=true)->vR u p.fm (pJ ov (lh m.sz l)) uZ->Kept (· =p.fm) w u->T u):
 bm prog cI.id #[.pointer (some ⟨c,0,none⟩),.agg b.1,.agg h.1] w fun x y=>∃z:Bool,x=.bool z/\Split z (∃a1:Value,y.cell? ⟨p.yb,0,none⟩=some a1/\∃b1:Array Value,(b1.size=32/\Cells y ⟨zb,0,none⟩ b1)/\
  ∃(c1:Nat) (d1 e1:Array Value) (f1:Func),(a1:Value)=.func (.func c1) d1 e1/\prog.funcs[c1]? =some f1/\f1.body.isSome=true/\
   bm prog c1 (d1.toList++([.agg b1]:List Value)++e1.toList).toArray y fun g1 i1=>∃j1:Bool,g1=.bool j1/\Split (!j1) (A i1) (T i1)) (T y):=by
 refine xB B.C hD b h fun y r hr ky=>⟨r,rfl,?_⟩;have Ya:Kept (· =p.fm) w y:=ky.mono fun _ _ h=>h.elim;have By:=B.same ky;cases r with
 |false=>
  have KP:¬nn G.D b h:=fun e=>by have:=hr.2 e;cases this
  exact Split.no rfl (hT y done (by rw [if_neg KP,List.append_nil]) (fun e=>absurd e KP) (hF.same ky) Ya)
 |true=>
  have ha:=hr.1 rfl;have gL:=hn ha;rw [List.nodup_append]at gL;refine Split.yes rfl ⟨_,By.yb,b.1,⟨b.2.1,Cells.bS (ky.heap hz (fun h=>h))⟩,_,_,_,_,rfl,bZ.at_,rfl,?_⟩;refine xy By.C hD rO hs hc By.V By.kb By.fb gL.1 (fun e=>gL.2.2 b e b (by simp) rfl) (hF.same ky) B.fo B.ff B.kV.2.1 fun v r hr hv kv=>⟨r,rfl,?_⟩;have Yc:Kept (· =p.fm) w v:=Ya.tt kv;cases r with
  |false=>exact Split.yes rfl (hA v ha hr.symm Yc)
  |true=>exact Split.no rfl (hT v (done++ [b]) (by rw [if_pos ha]) (fun _=>hr.symm) hv Yc)
end
structure PG0(w:World)(F:Nat->Prop)(c k:Nat)(G:GS)(m:CM)(s:HT)(p:PN)(ov:HT->Option Nat):Prop where
 C:CV w F c k G m
 V:VB w c s p.bs p.bc p.bh p.q p.sm ov
 kb:w.heap[p.kb]? =some (.cells #[.func (.func bH.id) #[] #[.pointer (some ⟨p.bs,0,none⟩),.pointer (some ⟨p.bc,0,none⟩),.pointer (some ⟨p.bh,0,none⟩)]] dS (0,0))
 fb:w.heap[p.fb]? =some (.cells #[.map (some p.fm)] b0 (0,0))
 fo:¬m.own c p.fm
 ff:¬F p.fm
 kV:p.kV p.fm
theorem eo:∀ {l m:List HT},l.Nodup->(∀x∈l,x∈m)->l.length<=m.length
 | [],_,_,_=>Nat.zero_le _
 |x::l,m,hn,hm=>by
  rw [List.nodup_cons]at hn;have hx:=hm x List.mem_cons_self;have:=eo (m:=m.erase x) hn.2 fun y hy=>(List.mem_erase_of_ne (fun e=>hn.1 (by rw [<-e];exact hy))).2 (hm y (List.mem_cons_of_mem _ hy));rw [List.length_erase_of_mem hx]at this;have h0:=List.length_pos_of_mem hx;rw [List.length_cons];omega
theorem HS.get_mem{w:World}{A:Option Addr}{n:Nat}{l:List HT}(hl:HS w A n l){i:Nat}(hi:i<n):∃y,l[i]? =some y:=⟨_,List.getElem?_eq_getElem (by have:=hl.len;omega)⟩
theorem wG{D:DG}{l:List HT}{h x:HT}{i:Nat}(hx:l[i]? =some x):bY D (l.take (i+1)) h=bY D (l.take i) h++if nn D x h then [x]else []:=by
 have e:l.take (i+1)=l.take i++ [x]:=by rw [List.take_add_one,hx];rfl
 rw [e,fz]
 congr 1
 unfold bY;by_cases hp:nn D x h
 ·rw [if_pos hp,List.filter_cons_of_pos (by simpa using hp)];rfl
 ·rw [if_neg hp,List.filter_cons_of_neg (by simpa using hp)];rfl
theorem zD{m:List HT}{b:List Bool}{x:HT}{y:Bool}{i:Nat}(hx:m[i]? =some x)(hy:b[i]? =some y):dM (m.drop i) (b.drop i)=(if y then [x]else [])++dM (m.drop (i+1)) (b.drop (i+1)):=by
 obtain⟨hi,ex⟩:=lgeS hx;obtain⟨hj,ey⟩:=lgeS hy;rw [List.drop_eq_getElem_cons hi,List.drop_eq_getElem_cons hj,ex,ey];cases y<;>rfl
theorem kW(c:rl)(A:Option Addr)(n cp:Nat)(B:Option Addr)(m cq:Nat):∀v∈(dT c A n cp B m cq).toList,v.oneCell'=true:=by
 intro v hv;unfold dT at hv;rw [Array.toList_append,List.mem_append]at hv;rcases hv with hv|hv
 ·exact c.ml.2.one v hv
 ·simp only [List.mem_cons,List.not_mem_nil,or_false]at hv
  rcases hv with rfl|rfl|rfl<;>rfl
section
variable{w w':World}{F:Nat->Prop}{c k:Nat}{G:GS}{m:CM}{s:HT}{p:PN}{ov:HT->Option Nat}{K:Value->World->Prop}
theorem zG{kn:HT->Nat}{done rest jt:List HT}{b:HT}(e:done++b::rest=jt)(h:pE k kn done b=false):dO k kn [] jt=false:=by
 rw [<-e,kY,List.nil_append,dO,h,Bool.false_and,Bool.and_false]
theorem vN{kn:HT->Nat}{done:List HT}{b:HT}(h:dO k kn [] done=true)(hb:pE k kn done b=true):dO k kn [] (done++ [b])=true:=by
 rw [kY,h,List.nil_append,dO,hb,Bool.true_and,Bool.true_and];rfl
theorem xz(B:PG0 w F c k G m s p ov)(hD:G.D.length<=5000)(rO:k<=1000)(hs:s∈ids G.D){l:List HT}(hc:cN G.D G.P s l){h:HT}{bb:Nat}{A:Option Addr}{n cx:Nat}{bl:List HT}
 (Cn:w.heap[bb]? =some (.cells #[.slice A n cx] aW (0,0))) (hbf:bb≠p.fm) (Cm:HS w A n bl) (ZP:∀a,A=some a->a.block≠p.fm) (hn:n<=10000) (hF:vR w p.fm (pJ ov (lh m.sz l)) []) (uU:(mK G h bl l).Nodup)
 (hK:∀w' (r:Bool),r=dO k (pJ ov (lh m.sz l)) [] (mK G h bl l)->(r=true->vR w' p.fm (pJ ov (lh m.sz l)) (mK G h bl l))->Kept (· =p.fm) w w'->K (.bool r) w'):
 bm prog af.id #[.agg h.1,p.zn,.pointer (some ⟨bb,0,none⟩),.pointer (some ⟨p.bc,0,none⟩),.pointer (some ⟨p.bh,0,none⟩)] w K:=by
 have W:=B.C.iP.W;have H:=B.C.iP.ml;have R0:∀y∈l,y∈ids G.D:=fun y hy=>((hc.mem W H).1 hy).mem.1;have hlen:=Cm.len;have X8:=hF.lt;refine af.of ?_;unfold af.W;intro w4 w5 w6;have k4:Kept Nil w w4:=(Kept.refl _ _).alloc _;have PL:w4.heap[w.heap.size]? =some (.cells h.1 ax (0,0)):=aR w _;have k5:Kept Nil w4 w5:=(Kept.refl _ _).alloc _;obtain⟨ty,Yv⟩:∃ty:TypeId,w5.heap[w4.heap.size]? =some (.cells #[p.zn] ty (0,0)):=⟨_,aR w4 _⟩;have k6:Kept Nil w5 w6:=(Kept.refl _ _).alloc _;have RU:w6.heap[w5.heap.size]? =some (.cells #[.bool false] iW (0,0)):=aR w5 _;clear_value w6;have hy6:=k6.heap Yv (fun h=>h);have hh6:=k6.heap (k5.heap PL (fun h=>h)) (fun h=>h);have qw:=(k4.tt k5).tt k6;have s4:=k4.size;have s5:=k5.size;have s6:=k6.size;have l4:=bf PL;have l5:=bf Yv;have l6:=bf RU;clear_value w5 w4;obtain⟨p',G9,ub,Ci,VZ,VX⟩:∃p':PN,p'= {p with yb:=w4.heap.size,hb:=w.heap.size}/\p'.zn=p.zn/\p'.fm=p.fm/\p'.bc=p.bc/\p'.bh=p.bh:=⟨_,rfl,rfl,rfl,rfl,rfl⟩;have ZZ:p'.yb=w4.heap.size:=by rw [G9]
 have Sr:p'.hb=w.heap.size:=by rw [G9]
 have B6:PG w6 F c k G m s h p' ov:=by
  rw [G9];exact⟨B.C.same qw,B.V.same qw,qw.heap B.kb (fun h=>h),qw.heap B.fb (fun h=>h),by show w6.cell? ⟨w4.heap.size,0,none⟩=_;rw [aD hy6];rfl,hh6,B.fo,B.ff,B.kV,(by show w4.heap.size≠p.fm;omega),(by show w.heap.size≠p.fm;omega)⟩
 generalize tZ:pJ ov (lh m.sz l)=kn at*;have hF6:vR w6 p'.fm kn []:=by rw [Ci];exact hF.same qw
 generalize iQ:mK G h bl l=jt at*;have o4:bY G.D bl h++vW G h l=jt:=iQ;rw [<-Ci]at hbf ZP X8;have Wu:∀w' (r:Bool),r=dO k kn [] jt->(r=true->vR w' p'.fm kn jt)->Kept (· =p'.fm) w w'->K (.bool r) w':=by rw [Ci];exact hK
 have kA:∀ {v:World},Kept (· =p'.fm) w6 v->Kept (· =p'.fm) w v:=fun k=>(qw.mono fun _ _ h=>h.elim).tt k;have fin:∀ {v:World} (r:Bool),Kept (· =p'.fm) w6 v->∃u:World,u=v.setCell ⟨w5.heap.size,0,none⟩ (.bool r)/\Wr v ⟨w5.heap.size,0,none⟩/\u.heap[w5.heap.size]? =some (.cells #[.bool r] iW (0,0))/\Kept (· =w5.heap.size) v u:=fun {v} r kv=>by
  have hr:=kv.heap RU (by omega);refine⟨_,rfl,dL hr (by simp),?_,Kept.setCell (S:=fun k=>k=w5.heap.size) (Kept.refl _ v) (p:=⟨w5.heap.size,0,none⟩) (fun _=>rfl) _⟩;rw [cY hr 0];rfl
 have Ty:∀ {v u:World},Kept (· =p'.fm) w6 v->Kept (· =w5.heap.size) v u->Kept (· =p'.fm) w u:=fun kv ku=>⟨ku.os.trans (kA kv).os,ku.tape.trans (kA kv).tape,ku.output.trans (kA kv).output,Nat.le_trans (kA kv).size ku.size,fun j hj hn=>by rw [ku.block j (Nat.lt_of_lt_of_le hj (kA kv).size) (by omega),(kA kv).block j hj hn]⟩;refine⟨A,n,cx,by rw [aD (qw.heap Cn (fun h=>h))];rfl,?_⟩;rw [<-VZ,<-VX];refine af.cf (I:=fun s0 v=>∃i:Nat,s0=(i:Int)/\i<=n/\vR v p'.fm kn (bY G.D (bl.take i) h)/\dO k kn [] (bY G.D (bl.take i) h)=true/\Kept (· =p'.fm) w6 v) (μ:=fun s0 _=>((n:Int)-s0).toNat) (s:=0) ⟨0,rfl,Nat.zero_le _,hF6,rfl,Kept.refl _ _⟩ ?_;rintro s0 v ⟨i,rfl,hi,Wx,cP,kv⟩;have Bv:=B6.aK kv;refine Split.dec (fun lH=>?_) (fun iK=>?_)
 ·have fg:i<n:=by omega
  obtain⟨b,hb⟩:=Cm.get_mem fg;have VW:HS v A n bl:=Cm.aK (kA kv) ZP;refine VW.load (i:=(i:Int)) (by omega) hb ?_;intro p5;obtain⟨ry,jv,jf⟩:=gh (w:=v) (z:=fI.1) (cs:=b.1) (t:=ax) (by rw [b.2.1];rfl);refine⟨⟨b.2.1,b.2.one,fun j hj=>ry j (by rw [b.2.1];exact hj)⟩,?_⟩;intro lr
  replace jv:lr.heap[v.heap.size]? =some (.cells b.1 ax (0,0)):=jv
  replace jf:Kept Nil v lr:=jf
  clear_value lr;have sv:=(kA kv).size;have LY:=Bv.same jf;have e1:=wG (D:=G.D) (h:=h) hb;have e2:∃rest,bY G.D (bl.take i) h++(if nn G.D b h then [b]else [])++rest=jt:=by
   refine⟨bY G.D (bl.drop (i+1)) h++vW G h l,?_⟩;rw [<-e1,<-o4,<-List.append_assoc,<-fz,List.take_append_drop]
  obtain⟨rest,e2⟩:=e2;refine⟨some ⟨c,0,none⟩,by rw [aD LY.V.hc];rfl,b.1,⟨b.2.1,Cells.bS jv⟩,h.1,⟨h.2.1,by have:=LY.hb;rw [Sr]at this;exact Cells.bS this⟩,?_⟩;rw [<-ZZ];refine qp LY hD rO hs hc (done:=bY G.D (bl.take i) h) (by rw [tZ];exact Wx.same jf) jv (by omega) (fun ha=>by
   rw [if_pos ha]at e2;rw [<-e2]at uU;exact(List.nodup_append.1 uU).1) ?_ ?_
  ·intro u ha hp ku
   rw [tZ]at hp;have RA:Kept (· =p'.fm) w6 u:=(kv.trans jf (fun _ _ h=>h.elim)).tt ku;obtain⟨u',eu,hw,OF,kuu⟩:=fin false RA;refine⟨hw,?_⟩;intro L7;have e30:L7=u':=eu.symm;rw [gH,af.yf,e30];rw [if_pos ha,List.append_assoc]at e2;exact⟨false,by rw [aD OF];rfl,Wu u' false (zG e2 hp).symm (fun e=>by cases e) (Ty RA kuu)⟩
  ·intro u uZ ed hp I8 ku
   rw [tZ]at hp I8;have RA:Kept (· =p'.fm) w6 u:=(kv.trans jf (fun _ _ h=>h.elim)).tt ku;rw [eK (n:=(i:Int)) (by omega) (by omega)];refine⟨(i:Int)+1,rfl,⟨i+1,rfl,fg,?_,?_,RA⟩,by simp only;omega⟩
   ·rw [e1,<-ed];exact I8
   ·rw [e1]
    by_cases ha:nn G.D b h
    ·rw [if_pos ha];exact vN cP (hp ha)
    ·rw [if_neg ha,List.append_nil];exact cP
 ·rw [aY,af.dB]
  rw [List.take_of_length_le (by omega)]at cP Wx;unfold af.cX;intro p8;have Ap:Kept Nil v p8:=(Kept.refl _ _).drew;clear_value p8;have Xt:=Bv.same Ap;refine⟨some ⟨c,0,none⟩,by rw [aD Xt.V.hc];rfl,_,Xt.C.c1,s.1,⟨s.2.1,Cells.bS Xt.V.hh⟩,?_⟩;refine qN s fun gY pb qb lQ G8 G5 CY hqb=>⟨_,rfl,?_⟩;have JQ:Kept Nil v gY:=Ap.tt lQ;have GH:Kept (· =p'.fm) w6 gY:=kv.trans JQ (fun _ _ h=>h.elim);have B35:=Bv.same JQ;have aaA:=GH.size;have WA:vR gY p'.fm kn (bY G.D bl h):=Wx.same JQ
  let zn:Value:=.func (.func aP.id) #[] #[.pointer (some ⟨pb,0,none⟩),.pointer (some ⟨qb,0,none⟩)]
  let ρ0:Env:= [(3,.pointer (some ⟨p'.bc,0,none⟩)),(5,.pointer (some ⟨w.heap.size,0,none⟩)),(6,.pointer (some ⟨w4.heap.size,0,none⟩)),(7,.pointer (some ⟨w5.heap.size,0,none⟩)),(36,zn)]
  let J:Nat->World->Prop:=fun j u=>∃done:List HT,done++vW G h (l.drop j)=jt/\vR u p'.fm kn done/\dO k kn [] done=true/\Kept (· =p'.fm) gY u/\j<=l.length
  let Jd:Code->World->Prop:=fun e u=>e=.ret/\∃r:Bool,u.heap[w5.heap.size]? =some (.cells #[.bool r] iW (0,0))/\r=dO k kn [] jt/\(r=true->vR u p'.fm kn jt)/\Kept (fun j=>j=p'.fm\/j=w5.heap.size) gY u
  have lpb:=bf G8;have lqb:=bf G5;have aaz:=Ap.size;have svw:=(kA kv).size;obtain⟨mx,W9,YL⟩:=B35.C.X;have XJ:∀ {u:World},Kept (· =p'.fm) gY u->XV u m.FX m.x G.D G.P mx:=fun k=>W9.aK k (fun j hj e=>by subst e;rw [Ci]at hj;exact B.fo (.inl (YL _ hj))) (fun j hj e=>by subst e;rw [Ci]at hj;exact B.ff (B.C.fx _ hj))
  change Holds none [] prog _ _ _ ρ0 gY
  have out:∀ {u:World} {R:Loop} (r:Bool),Kept (· =p'.fm) gY u->Live (gY.heap.size+1) gY.heap.size R u->r=dO k kn [] jt->(r=true->vR u p'.fm kn jt)->Wr u ⟨w5.heap.size,0,none⟩/\∀u',u'=u.setCell ⟨w5.heap.size,0,none⟩ (.bool r)->Live (gY.heap.size+1) gY.heap.size R u'/\Jd .ret u':=fun {u R} r ku hl hr hf=>by
   obtain⟨u0,e0,t1,t2,t3⟩:=fin r (GH.tt ku);refine⟨t1,fun u' eu=>?_⟩;rw [eu,<-e0];refine⟨hl.aK t3 (by omega) (by omega),rfl,r,t2,hr,fun e=>(hf e).aK t3 (by omega),(ku.mono fun _ _ h=>.inl h).trans t3 (fun _ _ h=>.inr h)⟩
  refine mu (n:=90) (ρ:=ρ0) (ρ0:=ρ0) ng mix af.k (t:=36) (ps:= #[37]) (by kernel_rfl) (by decide) rfl aP.at_ rfl (.inl rfl) (fun i x hi hx=>hx) rfl pU l (fun _=>rfl) (fun q hq=>by
   have W0:q=37:=by simpa using hq
   subst W0;exact⟨by decide,by decide⟩) (zW (F:=m.FX) (x:=m.x) (m:=mx) (pb:=pb) (qb:=qb) hc (by omega)) J Jd ?_ ?_ (fun j u ⟨done,_,_,_,kJ,_⟩=>⟨XJ kJ,kJ.heap G8 (by omega),kJ.heap G5 (by omega)⟩) ?_ ?_ ?_ ?_ ?_
  ·rintro j u1 u2 R oZ ⟨done,h1,h2,h3,h4,h5⟩ mZ
   exact⟨done,h1,h2.aK mZ (by omega),h3,h4.trans mZ (fun k hk e=>by omega),h5⟩
  ·rintro e u1 u2 R oZ ⟨h1,r,h2,h3,h4,h5⟩ mZ
   exact⟨h1,r,mZ.heap h2 (by omega),h3,fun e=>(h4 e).aK mZ (by omega),h5.trans mZ (fun k hk e=>by omega)⟩
  ·intro R
   have ka:Kept Nil gY ((gY.alloc (.deferred (some []))).alloc (.loop R)):=(((Kept.refl _ _).alloc _).alloc _);exact⟨bY G.D bl h,o4,WA.same ka,cP,ka.mono fun _ _ h=>h.elim,Nat.zero_le _⟩
  ·rintro j z u1 R hz ⟨done,h1,h2,h3,h4,h5⟩ oZ
   have e7:jW ρ0 ((#[37]:Array Nat).toList.zip (pU z))= [(3,.pointer (some ⟨p'.bc,0,none⟩)),(5,.pointer (some ⟨w.heap.size,0,none⟩)),(6,.pointer (some ⟨w4.heap.size,0,none⟩)),(7,.pointer (some ⟨w5.heap.size,0,none⟩)),(36,zn),(37,.agg z.1)]:=rfl;rw [e7,af.a1];have tJ:=(lgeS hz).1;have Om:=R0 z (List.mem_of_getElem? hz);have Q4:l.drop j=z::l.drop (j+1):=by
    obtain⟨hi,e⟩:=lgeS hz;rw [List.drop_eq_getElem_cons hi,e]
   rw [Q4,vW]at h1;unfold af.A1;intro w43;obtain⟨ry,jv,jf⟩:=gh (w:=u1) (z:=fI.1) (cs:=z.1) (t:=ax) (by rw [z.2.1];rfl);refine⟨⟨z.2.1,z.2.one,fun j hj=>ry j (by rw [z.2.1];exact hj)⟩,?_⟩;intro HW
   replace jv:HW.heap[u1.heap.size]? =some (.cells z.1 ax (0,0)):=jv
   replace jf:Kept Nil u1 HW:=jf
   clear_value HW;have ED:=oZ.aK jf (fun h=>h) (fun h=>h);refine⟨ED,fun w2 R2 mP vy=>?_⟩;have oy:=mP.heap jv (jF jv ED.loop);have aaC:=h4.size;have tR:Kept (· =p'.fm) gY w2:=(h4.trans jf (fun _ _ h=>h.elim)).trans mP (fun k hk e=>by omega);have Sf:vR w2 p'.fm kn done:=(h2.same jf).aK mP (by omega);have B2:=B35.aK tR;rw [af.y1];unfold af.Y1;have e2:∃rest,done++(if nn G.D z h then [z]else [])++rest=jt:=⟨_,(List.append_assoc _ _ _).trans h1⟩;obtain⟨rest,e2⟩:=e2;refine⟨some ⟨c,0,none⟩,by rw [aD B2.V.hc];rfl,z.1,⟨z.2.1,Cells.bS oy⟩,h.1,⟨h.2.1,by have:=B2.hb;rw [Sr]at this;exact Cells.bS this⟩,?_⟩;rw [<-ZZ];refine qp B2 hD rO hs hc (done:=done) (by rw [tZ];exact Sf) oy (by omega) (fun ha=>by
    rw [if_pos ha]at e2;rw [<-e2]at uU;exact(List.nodup_append.1 uU).1) ?_ ?_
   ·intro u ha hp ku
    rw [tZ]at hp;rw [if_pos ha,List.append_assoc]at e2;obtain⟨o1,o2⟩:=out (u:=u) false (tR.tt ku) (vy.aK ku (by omega) (by omega)) (zG e2 hp).symm (fun e=>by cases e);refine⟨o1,?_⟩;intro SN;exact o2 SN rfl
   ·intro u uZ ed hp I8 ku
    rw [tZ]at hp I8;have TH:=tR.tt ku;have Zd:=vy.aK ku (by omega) (by omega);have I6:dO k kn [] uZ=true:=by
     rw [ed];by_cases ha:nn G.D z h
     ·rw [if_pos ha];exact vN h3 (hp ha)
     ·rw [if_neg ha,List.append_nil];exact h3
    rw [<-List.append_assoc,<-ed]at h1;intro SM;have Yl:Kept Nil u SM:=(Kept.refl _ _).drew;clear_value SM;have JX:Kept (· =p'.fm) w2 SM:=ku.trans Yl (fun _ _ h=>h.elim);have SD:=B2.aK JX;have TQ:=JX.heap oy (by omega);obtain⟨mx1,X61,_⟩:=SD.C.X;refine⟨some ⟨c,0,none⟩,by rw [aD SD.V.hc];rfl,_,SD.C.c1,z.1,⟨z.2.1,Cells.bS TQ⟩,h.1,⟨h.2.1,by have:=SD.hb;rw [Sr]at this;exact Cells.bS this⟩,?_⟩;refine jo X61 hD z h fun CP r hr BY=>⟨r,rfl,?_⟩;have GC:Kept Nil u CP:=Yl.tt BY;have Pp:=Zd.aK GC (fun h=>h) (fun h=>h);have NV:=TH.trans GC (fun _ _ h=>h.elim);have Wy:=I8.same GC;cases r with
    |true=>
     have ES:=hr.1 rfl;rw [if_pos ES,List.append_nil]at h1;obtain⟨o1,o2⟩:=out (u:=CP) true NV Pp (by rw [<-h1,I6]) (fun _=>by rw [<-h1];exact Wy);refine Split.yes rfl ⟨o1,?_⟩;intro Jq;exact o2 Jq rfl
    |false=>
     have Pb:¬fG G.D z h:=fun e=>by have:=hr.2 e;cases this
     rw [if_neg Pb]at h1;refine Split.no rfl ?_;intro Dc;have Ie:Kept Nil CP Dc:=(Kept.refl _ _).drew;clear_value Dc;have GP:Kept (· =p'.fm) w2 Dc:=JX.trans (BY.tt Ie) (fun _ _ h=>h.elim);have Rs:=B2.aK GP;have On:=GP.heap oy (by omega);obtain⟨A1,n1,c1,B1,m1,d1,s1,sa⟩:=Rs.C.seen z Om;refine⟨some ⟨c,0,none⟩,by rw [aD Rs.V.hc];rfl,_,Rs.C.c2,z.1,⟨z.2.1,Cells.bS On⟩,_,Rs.C.oK Om,_,⟨bX ..,sa.iZ⟩,?_⟩;intro Xy;have TA:Kept Nil Dc Xy:=(Kept.refl _ _).alloc _;obtain⟨Kv,xw,vA⟩:=gh (w:=Dc) (z:=zC) (cs:=dT (G.iZ z) A1 n1 c1 B1 m1 d1) (t:=cB) (by rw [bX];rfl);have Xs:=Rs.same TA;refine⟨⟨_,rfl,bX ..,(sa.aK TA (fun _ _ h=>h)).iZ⟩,Xs.C.oK Om,⟨z.1,rfl,z.2.1,Cells.bS (TA.heap On (fun h=>h))⟩,Xs.C.c2,by rw [aD Xs.V.hc];rfl,⟨bX ..,kW _ _ _ _ _ _ _,fun j hj=>Kv j (by rw [bX];exact hj)⟩,?_⟩;intro L4
     replace xw:L4.heap[Dc.heap.size]? =some (.cells (dT (G.iZ z) A1 n1 c1 B1 m1 d1) cB (0,0)):=xw
     replace vA:Kept Nil Dc L4:=vA
     clear_value L4 Xy;have NK:Kept Nil u L4:=GC.tt (Ie.tt vA);have NY:Kept (· =p'.fm) w2 L4:=GP.trans vA (fun _ _ h=>h.elim);have aaE:=NY.size;have aaF:=GP.size;have s2:=tR.size;have acP:=Zd.aK NK (fun h=>h) (fun h=>h);have S9:=sa.aK vA (fun _ _ h=>h);have Y7:=sa.mg.len;have Ql:=sa.bl.len;have Vz:∀j,F j->j≠p'.fm:=fun j hj e=>by rw [Ci]at e;subst e;exact B.ff hj
     have VN:=gN (G.iZ z) A1 n1 c1 B1 m1 d1 #[];rw [Array.append_empty]at VN;refine⟨A1,n1,c1,by rw [bu,aD xw];exact VN.2.1,?_⟩;have Zf:(G.iZ z).iJ.length=(G.iZ z).merge.length:=by
      rcases(cN.ex H z)with⟨lz,cz⟩;rcases cz.inv W H Om with⟨_,nd,h0,rfl⟩|⟨t,r',_,ou,_,_⟩
      ·obtain⟨r1,_⟩:=B.C.iP.root nd h0
       rw [r1];rfl
      ·exact(B.C.iP.up t z ou).2.2.1
     have FO:(G.iZ z).merge.length<=G.D.length:=by
      have gL:(G.iZ z).merge.Nodup/\∀y∈(G.iZ z).merge,y∈ids G.D:=by
       rcases(cN.ex H z)with⟨lz,cz⟩;rcases cz.inv W H Om with⟨_,nd,h0,rfl⟩|⟨t,r',_,ou,_,_⟩
       ·obtain⟨r1,_⟩:=B.C.iP.root nd h0
        rw [r1];exact⟨List.nodup_nil,fun y hy=>by cases hy⟩
       ·obtain⟨_,_,_,g1,g2⟩:=B.C.iP.up t z ou
        exact⟨g1,fun y hy=>(((g2 y).1 hy).1.mem W).1⟩
      have:=eo gL.1 gL.2
      rwa [jG]at this
     refine af.iN (I:=fun s0 v=>∃i:Nat,s0=(i:Int)/\i<=n1/\∃dn:List HT,dn++(bY G.D (dM ((G.iZ z).merge.drop i) ((G.iZ z).iJ.drop i)) h++vW G h (l.drop (j+1)))=jt/\vR v p'.fm kn dn/\dO k kn [] dn=true/\Kept (· =p'.fm) L4 v) (μ:=fun s0 _=>((n1:Int)-s0).toNat) (s:=0) ⟨0,rfl,Nat.zero_le _,uZ,by rw [List.drop_zero,List.drop_zero];exact h1,I8.same NK,I6,Kept.refl _ _⟩ ?_;rintro s0 v2 ⟨i2,rfl,EE,dn,g1,g2,g3,g4⟩;have D5:Kept (· =p'.fm) w2 v2:=NY.tt g4;have Bv2:=B2.aK D5;have S8:=S9.aK g4 (fun j hj e=>Vz j hj e);have NU:=tR.tt D5;have Po:=vy.aK D5 (by omega) (by omega);have sv2:=D5.size;refine Split.dec (fun lH=>?_) (fun iK=>?_)
     ·have fg:i2<n1:=by omega
      obtain⟨b,hb⟩:=S8.mg.get_mem fg;obtain⟨W5,Qs⟩:∃y,(G.iZ z).iJ[i2]? =some y:=⟨_,List.getElem?_eq_getElem (by omega)⟩;refine S8.mg.load (i:=(i2:Int)) (by omega) hb ?_;intro p5;obtain⟨TZ,Cl,tY⟩:=gh (w:=v2) (z:=fI.1) (cs:=b.1) (t:=ax) (by rw [b.2.1];rfl);refine⟨⟨b.2.1,b.2.one,fun j hj=>TZ j (by rw [b.2.1];exact hj)⟩,?_⟩;intro lr
      replace Cl:lr.heap[v2.heap.size]? =some (.cells b.1 ax (0,0)):=Cl
      replace tY:Kept Nil v2 lr:=tY
      clear_value lr;have LY:=Bv2.same tY;have Qj:=tY.heap (g4.heap xw (by omega)) (fun h=>h);have Ta:=S8.aK tY (fun _ _ h=>h);obtain⟨aB,EW,_,Lk⟩:=Ta.bl.at_ i2 W5 Qs;subst EW;refine⟨some aB,m1,d1,by rw [bu,aD Qj];exact VN.2.2.1,⟨by omega,by omega⟩,W5,by rw [Int.toNat_natCast,Nat.mul_one];exact Lk,?_⟩;rw [zD hb Qs]at g1;cases W5 with
      |false=>
       refine Split.no rfl ?_;rw [eK (n:=(i2:Int)) (by omega) (by omega)];exact⟨(i2:Int)+1,rfl,⟨i2+1,rfl,fg,dn,g1,g2.same tY,g3,g4.trans tY (fun _ _ h=>h.elim)⟩,by simp only;omega⟩
      |true=>
       rw [if_pos rfl,fz,List.append_assoc]at g1;have WV:bY G.D [b] h=if nn G.D b h then [b]else []:=by
        unfold bY;by_cases hp:nn G.D b h
        ·rw [if_pos hp,List.filter_cons_of_pos (by simpa using hp)];rfl
        ·rw [if_neg hp,List.filter_cons_of_neg (by simpa using hp)];rfl
       rw [WV,<-List.append_assoc]at g1;refine Split.yes rfl ⟨some ⟨c,0,none⟩,by rw [aD LY.V.hc];rfl,b.1,⟨b.2.1,Cells.bS Cl⟩,h.1,⟨h.2.1,by have:=LY.hb;rw [Sr]at this;exact Cells.bS this⟩,?_⟩;refine qp LY hD rO hs hc (done:=dn) (by rw [tZ];exact g2.same tY) Cl (by omega) (fun ha=>by
        rw [if_pos ha]at g1;rw [<-g1]at uU;exact(List.nodup_append.1 uU).1) ?_ ?_
       ·intro u2 ha hp Tx
        rw [tZ]at hp;rw [if_pos ha,List.append_assoc]at g1;have kk:Kept (· =p'.fm) v2 u2:=(tY.mono fun _ _ h=>h.elim).tt Tx;obtain⟨o1,o2⟩:=out (u:=u2) false (NU.tt kk) (Po.aK kk (by omega) (by omega)) (zG g1 hp).symm (fun e=>by cases e);refine⟨o1,?_⟩;intro SN;rw [gH];exact o2 SN rfl
       ·intro u2 dn' Z0 Mt QN Tx
        rw [tZ]at Mt QN;have kk:Kept (· =p'.fm) v2 u2:=(tY.mono fun _ _ h=>h.elim).tt Tx;rw [eK (n:=(i2:Int)) (by omega) (by omega)];refine⟨(i2:Int)+1,rfl,⟨i2+1,rfl,fg,dn',by rw [Z0];exact g1,QN,?_,g4.tt kk⟩,by simp only;omega⟩;rw [Z0];by_cases ha:nn G.D b h
        ·rw [if_pos ha];exact vN g3 (Mt ha)
        ·rw [if_neg ha,List.append_nil];exact g3
     ·rw [aY,af.SF]
      unfold af.Ri;have en:(G.iZ z).merge.drop i2= []:=List.drop_eq_nil_of_le (by omega);rw [en]at g1;exact⟨Po,dn,by simpa [dM,bY]using g1,g2,g3,NU,tJ⟩
  ·rintro u1 R ⟨done,h1,h2,h3,h4,h5⟩ oZ
   have e7:gm ρ0 gY.heap.size= [(3,.pointer (some ⟨p'.bc,0,none⟩)),(5,.pointer (some ⟨w.heap.size,0,none⟩)),(6,.pointer (some ⟨w4.heap.size,0,none⟩)),(7,.pointer (some ⟨w5.heap.size,0,none⟩)),(36,zn),(4294967296,.agg (oU [gY.heap.size]))]:=rfl;rw [e7,af.jx];unfold af.iG;have ec:done=jt:=by rw [<-h1,List.drop_of_length_le (Nat.le_refl _),vW,List.append_nil]
   obtain⟨o1,o2⟩:=out (u:=u1) true h4 oZ (by rw [<-ec,h3]) (fun _=>by rw [<-ec];exact h2);refine⟨o1,?_⟩;intro oO;obtain⟨U9,_,r,t1,t2,t3,t4⟩:=o2 oO rfl;clear_value oO;rw [lP];have kt:=ji [gY.heap.size] oO;have hm:∀E∈ [gY.heap.size],oO.heap[E]? =some (.deferred (some [])):=fun E hE=>by
    rw [List.mem_singleton]at hE;subst hE;exact U9.mark
   refine⟨kP [gY.heap.size] oO (by simp) hm,r,by rw [aD (kt.heap t1 (fun hE=>by rw [List.mem_singleton]at hE;omega))];rfl,?_⟩;exact Wu _ r t2 (fun e=>(t3 e).aK kt (fun hE=>by rw [List.mem_singleton]at hE;omega)) (((kA GH).trans t4 (fun j hj e=>by rcases e with e|e;exact e;omega)).trans kt (fun j hj hE=>by rw [List.mem_singleton]at hE;omega))
  ·rintro u1 R ⟨_,r,t1,t2,t3,t4⟩ oZ
   have e7:gm ρ0 gY.heap.size= [(3,.pointer (some ⟨p'.bc,0,none⟩)),(5,.pointer (some ⟨w.heap.size,0,none⟩)),(6,.pointer (some ⟨w4.heap.size,0,none⟩)),(7,.pointer (some ⟨w5.heap.size,0,none⟩)),(36,zn),(4294967296,.agg (oU [gY.heap.size]))]:=rfl;rw [e7,af.yc];unfold af.tH;rw [lP];have kt:=ji [gY.heap.size] u1;have hm:∀E∈ [gY.heap.size],u1.heap[E]? =some (.deferred (some [])):=fun E hE=>by
    rw [List.mem_singleton]at hE;subst hE;exact oZ.mark
   refine⟨kP [gY.heap.size] u1 (by simp) hm,r,by rw [aD (kt.heap t1 (fun hE=>by rw [List.mem_singleton]at hE;omega))];rfl,?_⟩;exact Wu _ r t2 (fun e=>(t3 e).aK kt (fun hE=>by rw [List.mem_singleton]at hE;omega)) (((kA GH).trans t4 (fun j hj e=>by rcases e with e|e;exact e;omega)).trans kt (fun j hj hE=>by rw [List.mem_singleton]at hE;omega))
  ·rintro id u1 R ⟨e,_⟩ oZ
   cases e
end
end Go.Proofs.YtfleamccglihoaaGreatDoor
