import Derived.Test.YtfleamccglihoaaGreatDoorMI
import Derived.Test.YtfleamccglihoaaGreatDoorMJ
import Derived.Test.YtfleamccglihoaaGreatDoorMN
import Derived.Test.YtfleamccglihoaaGreatDoorMG
open Go.IntKind (i64 u64)
set_option linter.unusedVariables false
namespace Go.Proofs.YtfleamccglihoaaGreatDoor
open Go.Proofs.Tryz
open Go Go.bE
structure rl where
 lZ:HT
 score:Nat
 merge:List HT
 iJ:List Bool
structure GS where
 D:DG
 P:List Int
 CA:List rl
 p8:List (List HT)
def GS.at_(G:GS)(h:HT):Option Nat:=pos h (ids G.D) 0
def GS.iR(G:GS)(h:HT):rl:=((G.at_ h).bind (G.CA[·]?)).getD ⟨fG,0,[],[]⟩
def GS.world(G:GS)(h:HT):List HT:=((G.at_ h).bind (G.p8[·]?)).getD []
def GS.score(G:GS)(h:HT):Nat:=(G.iR h).score
def gl(G:GS)(a b:HT):Bool:=decide (G.score a<G.score b)||(decide (G.score a=G.score b)&&cJ a b)
def xN(G:GS)(a b:HT):Int:=if gl G a b then-1 else if gl G b a then 1 else 0
def bG(G:GS):List HT->HT
 | []=>fG
 |x::l=>l.foldl (fun b y=>if gl G b y then y else b) x
def nn(D:DG)(a b:HT):Prop:=a≠b/\¬fD D a b/\¬fD D b a
noncomputable instance(D:DG)(a b:HT):Decidable (nn D a b):=Classical.propDecidable _
noncomputable instance(D:DG)(a b:HT):Decidable (fD D a b):=Classical.propDecidable _
noncomputable def bY(D:DG)(l:List HT)(h:HT):List HT:=l.filter fun b=>decide (nn D b h)
def SO(G:GS)(l:List HT):Prop:=l.Pairwise fun a b=>gl G a b=true
noncomputable def ru(D:DG)(s:HT)(l:List HT):List HT:=(dg (eR D l++l)).filter fun h=>decide (h≠s/\¬fD D h s)
def ub(G:GS)(x:HT):List HT->List HT
 | []=> [x]
 |y::l=>if gl G x y then x::y::l else y::ub G x l
noncomputable def cg(G:GS)(s:HT)(l:List HT):List HT:=(ru G.D s l).foldr (ub G) []
noncomputable def tB(k:Nat)(D:DG)(wd:List HT)(h:HT):Bool:=decide ((bY D wd h).length<=k/\∀y∈bY D wd h,(bY D wd y).length+1<=k)
structure VS where
 wd:List HT
 bl:List Bool
noncomputable def rU(k:Nat)(D:DG)(s:VS)(h:HT):VS:=⟨if tB k D s.wd h then s.wd++ [h]else s.wd,s.bl++ [tB k D s.wd h]⟩
noncomputable def gJ(k:Nat)(G:GS)(s:HT)(l:List HT):VS:=(cg G s l).foldl (rU k G.D) ⟨G.world s++ [s],[]⟩
noncomputable def fM(k:Nat)(G:GS)(s:HT)(l:List HT):rl:=⟨s,G.score s+1+(gJ k G s l).bl.count true,cg G s l,(gJ k G s l).bl⟩
noncomputable def fE(k:Nat)(G:GS)(h:HT)(ps:List HT):GS:=
 if eo G.D h ps=0 then⟨G.D++ [⟨h,dg ps⟩],G.P++ [(((pos (bG G ps) (ids G.D) 0).getD 0:Nat):Int)],G.CA++ [fM k G (bG G ps) ps],G.p8++ [(gJ k G (bG G ps) ps).wd]⟩else G
def gv(r:HT):GS:=⟨[⟨r,[]⟩],[-1],[⟨fG,0,[],[]⟩],[[]]⟩
def dL:List HT->List Bool->List HT
 |h::l,b::m=>if b then h::dL l m else dL l m
 |_,_=> []
theorem lT(G:GS)(a:HT):gl G a a=false:=by simp [gl,hZ]
theorem pS{G:GS}{a b c:HT}(h:gl G a b=true)(h':gl G b c=true):gl G a c=true:=by
 simp only [gl,Bool.or_eq_true,Bool.and_eq_true,decide_eq_true_eq]at*;rcases h with h|⟨h,h1⟩
 ·rcases h' with h'|⟨h',h2⟩
  ·exact .inl (by omega)
  ·exact .inl (by omega)
 ·rcases h' with h'|⟨h',h2⟩
  ·exact .inl (by omega)
  ·exact .inr ⟨by omega,kH h1 h2⟩
theorem pT{G:GS}{a b:HT}(h:gl G a b=false)(h':gl G b a=false):a=b:=by
 simp only [gl,Bool.or_eq_false_iff,Bool.and_eq_false_iff,decide_eq_false_iff_not]at*;have e:G.score a=G.score b:=by omega
 obtain⟨_,h2⟩:=h;obtain⟨_,h3⟩:=h';exact ox (by rcases h2 with h2|h2;exact absurd e h2;exact h2) (by rcases h3 with h3|h3;exact absurd e.symm h3;exact h3)
theorem xA{G:GS}{a b:HT}(h:gl G a b=true):gl G b a=false:=by
 cases hb:gl G b a
 ·rfl
 ·have:=pS h hb
  rw [lT]at this;cases this
theorem vM{G:GS}{a b:HT}:xN G a b<0↔gl G a b=true:=by
 unfold xN;split
 ·simp_all
 ·split<;>simp_all
theorem HK(G:GS)(a b:HT):xN G a b=if G.score a<G.score b then-1 else if G.score b<G.score a then 1 else mT a b:=by
 unfold xN mT gl;by_cases h1:G.score a<G.score b
 ·simp [h1]
 ·by_cases h2:G.score b<G.score a
  ·have:¬G.score a=G.score b:=by omega
   simp [h1,h2,this]
  ·have:G.score a=G.score b:=by omega
   simp [this]
theorem SO.cons{G:GS}{x:HT}{l:List HT}:SO G (x::l)↔(∀y∈l,gl G x y=true)/\SO G l:=List.pairwise_cons
theorem SO.nodup{G:GS}{l:List HT}(h:SO G l):l.Nodup:=List.Pairwise.imp (fun {a b} mJ e=>by subst e;rw [lT]at mJ;cases mJ) h
theorem Fx{G:GS}:∀ {l m:List HT},SO G l->SO G m->(∀x,x∈l↔x∈m)->l=m
 | [],[],_,_,_=>rfl
 | [],y::m,_,_,h=>by have:=(h y).2 (by simp);simp at this
 |x::l,[],_,_,h=>by have:=(h x).1 (by simp);simp at this
 |x::l,y::m,hl,hm,h=>by
  rw [SO.cons]at hl hm;have l9:x=y:=by
   rcases List.mem_cons.1 ((h x).1 List.mem_cons_self)with e|e
   ·exact e
   ·rcases List.mem_cons.1 ((h y).2 List.mem_cons_self)with e'|e'
    ·exact e'.symm
    ·have h1:=hm.1 _ e
     have h2:=hl.1 _ e';rw [xA h1]at h2;cases h2
  subst l9;have:l=m:=Fx hl.2 hm.2 fun z=>by
   have hz:=h z;simp only [List.mem_cons]at hz;constructor
   ·intro oG
    rcases hz.1 (.inr oG)with e|e
    ·subst e;have:=hl.1 _ oG;rw [lT]at this;cases this
    ·exact e
   ·intro oG
    rcases hz.2 (.inr oG)with e|e
    ·subst e;have:=hm.1 _ oG;rw [lT]at this;cases this
    ·exact e
  rw [this]
theorem sy{G:GS}{x z:HT}:∀ {l:List HT},z∈ub G x l↔z=x\/z∈l
 | []=>by simp [ub]
 |y::l=>by
  unfold ub;split
  ·simp
  ·simp only [List.mem_cons,sy (l:=l)]
   constructor
   ·rintro(h|h|h)<;>simp [h]
   ·rintro(h|h|h)<;>simp [h]
theorem Bd{G:GS}{x:HT}:∀ {l:List HT},SO G l->x∉l->SO G (ub G x l)
 | [],_,_=>by simp [ub,SO]
 |y::l,h,hx=>by
  have h':=SO.cons.1 h;simp only [List.mem_cons,not_or]at hx;unfold ub;split
  ·rename_i l9
   refine SO.cons.2 ⟨fun z hz=>?_,h⟩;rcases List.mem_cons.1 hz with rfl|hz
   ·exact l9
   ·exact pS l9 (h'.1 _ hz)
  ·rename_i l9
   refine SO.cons.2 ⟨fun z hz=>?_,Bd h'.2 hx.2⟩;rcases sy.1 hz with rfl|hz
   ·cases Mi:gl G y z
    ·exact absurd (pT Mi (by simpa using l9)).symm hx.1
    ·rfl
   ·exact h'.1 _ hz
theorem ot{G:GS}{z:HT}:∀ {l:List HT},z∈l.foldr (ub G) []↔z∈l
 | []=>by simp
 |x::l=>by rw [List.foldr_cons,sy,ot,List.mem_cons]
theorem xX{G:GS}:∀ {l:List HT},l.Nodup->SO G (l.foldr (ub G) [])
 | [],_=>List.Pairwise.nil
 |x::l,h=>by
  rw [List.nodup_cons]at h;exact Bd (xX h.2) fun e=>h.1 (ot.1 e)
theorem oT(D:DG)(s:HT)(l:List HT):(ru D s l).Nodup:=(iL _).nodup.filter _
theorem wV{D:DG}{s:HT}{l:List HT}{h:HT}:h∈ru D s l↔((h∈ids D/\∃p∈l,fD D h p)\/h∈l)/\h≠s/\¬fD D h s:=by
 unfold ru eR;rw [List.mem_filter,dI,List.mem_append,jL,decide_eq_true_eq]
theorem iW{G:GS}{s:HT}{l:List HT}{h:HT}:h∈cg G s l↔((h∈ids G.D/\∃p∈l,fD G.D h p)\/h∈l)/\h≠s/\¬fD G.D h s:=by
 unfold cg;rw [ot,wV]
theorem lW(G:GS)(s:HT)(l:List HT):SO G (cg G s l):=xX (oT _ _ _)
theorem BU{G:GS}{s:HT}{l m:List HT}(hs:SO G m)(h:∀x,x∈m↔x∈ru G.D s l):m=cg G s l:=
 Fx hs (lW G s l) fun x=>by unfold cg;rw [h,ot]
theorem iY{G:GS}:∀ {l:List HT},l≠ []->bG G l∈l
 |x::l,_=>by
  have key:∀(l:List HT) (b:HT),l.foldl (fun b y=>if gl G b y then y else b) b=b\/l.foldl (fun b y=>if gl G b y then y else b) b∈l:=by
   intro l
   induction l with
   |nil=>intro b;exact .inl rfl
   |cons y l ih=>
    intro b;simp only [List.foldl_cons];rcases ih (if gl G b y then y else b)with e|e
    ·rw [e]
     split
     ·exact .inr List.mem_cons_self
     ·exact .inl rfl
    ·exact .inr (List.mem_cons_of_mem _ e)
  rcases key l x with e|e
  ·rw [bG,e];exact List.mem_cons_self
  ·exact List.mem_cons_of_mem _ e
theorem fw(D:DG)(l m:List HT)(h:HT):bY D (l++m) h=bY D l h++bY D m h:=List.filter_append ..
theorem eT{D:DG}{l:List HT}{h b:HT}:b∈bY D l h↔b∈l/\nn D b h:=by unfold bY;rw [List.mem_filter,decide_eq_true_eq]
theorem nn.symm{D:DG}{a b:HT}(h:nn D a b):nn D b a:=⟨h.1.symm,h.2.2,h.2.1⟩
theorem kX{x:HT}:∀ {m:List HT} {b:List Bool},x∈dL m b->x∈m
 |h::l,b::m,hx=>by
  unfold dL at hx;split at hx
  ·rcases List.mem_cons.1 hx with e|e
   ·rw [e];exact List.mem_cons_self
   ·exact List.mem_cons_of_mem _ (kX e)
  ·exact List.mem_cons_of_mem _ (kX hx)
 | [],_,hx=>by simp [dL]at hx
 |_::_,[],hx=>by simp [dL]at hx
theorem mB:∀ {m:List HT} {b:List Bool},m.Nodup->(dL m b).Nodup
 |h::l,b::m,hn=>by
  rw [List.nodup_cons]at hn;unfold dL;split
  ·exact List.nodup_cons.2 ⟨fun e=>hn.1 (kX e),mB hn.2⟩
  ·exact mB hn.2
 | [],_,_=>by simp [dL]
 |_::_,[],_=>by simp [dL]
theorem tA:∀ {m:List HT} {b:List Bool},b.length=m.length->(dL m b).length=b.count true
 |h::l,b::m,hn=>by
  have:=tA (m:=l) (b:=m) (by simpa using hn);unfold dL;cases b<;>simp [this]
 | [],[],_=>rfl
 | [],_::_,h=>by simp at h
 |_::_,[],h=>by simp at h
theorem q8{x:HT}{c:Bool}:∀ {m:List HT} {b:List Bool},b.length=m.length->dL (m++ [x]) (b++ [c])=dL m b++if c then [x]else []
 |h::l,b::m,hn=>by
  have:=q8 (x:=x) (c:=c) (m:=l) (b:=m) (by simpa using hn);simp only [List.cons_append,dL,this];cases b<;>simp
 | [],[],_=>by cases c<;>simp [dL]
 | [],_::_,h=>by simp at h
 |_::_,[],h=>by simp at h
theorem HV(k:Nat)(D:DG)(wd:List HT):∀(m:List HT),∃b:List Bool,b.length=m.length/\m.foldl (rU k D) ⟨wd,[]⟩=⟨wd++dL m b,b⟩:=by
 intro m
 induction h:m.length generalizing m with
 |zero=>exact⟨[],by simp,by rw [List.length_eq_zero_iff.1 h];simp [dL]⟩
 |succ n ih=>
  have fH:m≠ []:=fun e=>by rw [e]at h;simp at h
  obtain⟨m',x,rfl⟩:∃m' x,m=m'++ [x]:=⟨m.dropLast,m.getLast fH,(List.dropLast_concat_getLast fH).symm⟩;obtain⟨b,h1,h2⟩:=ih m' (by simpa using h);have h1:b.length=m'.length:=by rw [List.length_append,List.length_cons,List.length_nil]at h;omega
  refine⟨b++ [tB k D (wd++dL m' b) x],by simp only [List.length_append,List.length_cons,List.length_nil]at h⊢;omega,?_⟩;rw [List.foldl_append,h2,List.foldl_cons,List.foldl_nil,q8 h1];unfold rU;cases tB k D (wd++dL m' b) x<;>simp
theorem rV(k:Nat)(G:GS)(s:HT)(l:List HT):(gJ k G s l).bl.length=(cg G s l).length/\(gJ k G s l).wd=G.world s++ [s]++dL (cg G s l) (gJ k G s l).bl:=by
 obtain⟨b,h1,h2⟩:=HV k G.D (G.world s++ [s]) (cg G s l);unfold gJ;rw [h2];exact⟨h1,rfl⟩
structure lf(k:Nat)(G:GS):Prop where
 W:jQ G.D
 lZ:rJ G.D G.P
 lc:G.CA.length=G.D.length
 lw:G.p8.length=G.D.length
 root:∀nd,G.D[0]? =some nd->G.iR nd.id=⟨fG,0,[],[]⟩/\G.world nd.id= []
 up:∀s h,jT G.D G.P s h->(G.iR h).lZ=s/\G.world h=G.world s++ [s]++dL (G.iR h).merge (G.iR h).iJ/\(G.iR h).iJ.length=(G.iR h).merge.length/\(G.iR h).merge.Nodup/\∀y,y∈(G.iR h).merge↔fD G.D y h/\y≠s/\¬fD G.D y s
 wd:∀h∈ids G.D,(G.world h).Nodup/\(∀b∈G.world h,fD G.D b h)/\G.score h=(G.world h).length
theorem GS.vO{G:GS}(W:jQ G.D){i:Nat}{nd:DN}(h:G.D[i]? =some nd):G.at_ nd.id=some i:=W.pos_eq h
section
variable{k:Nat}{G:GS}{h:HT}{ps:List HT}
theorem vT(hc:eo G.D h ps≠0):fE k G h ps=G:=by unfold fE;rw [if_neg hc]
theorem tJ:(fE k G h ps).D=mE G.D h ps:=by
 unfold fE mE;split<;>rfl
theorem LK:(fE k G h ps).D=rh G.D h (bG G ps) ps:=by
 rw [tJ];unfold rh;by_cases hc:eo G.D h ps=0
 ·have fH:=(lD hc).2.1
  have:gS G.D h (bG G ps) ps=0:=by unfold gS;rw [if_pos hc,if_pos (iY fH)]
  rw [if_pos this,p5 hc]
 ·have:gS G.D h (bG G ps) ps≠0:=by unfold gS;rw [if_neg hc];exact hc
  rw [if_neg this];unfold mE;rw [if_neg hc]
theorem CK:gS G.D h (bG G ps) ps=eo G.D h ps:=by
 unfold gS;split
 ·rename_i hc
  rw [if_pos (iY (lD hc).2.1),hc]
 ·rfl
theorem LL:(fE k G h ps).P=rf G.D G.P h (bG G ps) ps:=by
 unfold rf fE;rw [CK];by_cases hc:eo G.D h ps=0
 ·rw [if_pos hc,if_pos hc]
 ·rw [if_neg hc,if_neg hc]
theorem lV(hc:eo G.D h ps=0):fE k G h ps=⟨G.D++ [⟨h,dg ps⟩],G.P++ [(((pos (bG G ps) (ids G.D) 0).getD 0:Nat):Int)],G.CA++ [fM k G (bG G ps) ps],G.p8++ [(gJ k G (bG G ps) ps).wd]⟩:=by
 unfold fE;rw [if_pos hc]
theorem zZ(H:lf k G){s:HT}(hs:s∈ids G.D)(l:List HT)(hl:∀p∈l,p∈ids G.D):
 (gJ k G s l).wd.Nodup/\(gJ k G s l).wd.length=(fM k G s l).score/\∀y∈(gJ k G s l).wd,y∈ids G.D/\(y=s\/fD G.D y s\/y∈cg G s l):=by
 obtain⟨h1,h2⟩:=rV k G s l;obtain⟨w1,w2,w3⟩:=H.wd s hs;have hm:∀y∈dL (cg G s l) (gJ k G s l).bl,y∈ids G.D/\y≠s/\¬fD G.D y s:=fun y hy=>by
  obtain⟨e,h3,h4⟩:=iW.1 (kX hy);refine⟨?_,h3,h4⟩;rcases e with e|e
  ·exact e.1
  ·exact hl _ e
 rw [h2];refine⟨?_,?_,?_⟩
 ·refine List.nodup_append.2 ⟨List.nodup_append.2 ⟨w1,by simp,?_⟩,mB (lW G s l).nodup,?_⟩
  ·intro a ha b hb e
   have hb:b=s:=by simpa using hb
   subst hb;subst e;exact fD.irrefl H.W _ (w2 _ ha)
  ·intro a ha b hb e
   subst e;obtain⟨_,h3,h4⟩:=hm _ hb;rcases List.mem_append.1 ha with e|e
   ·exact h4 (w2 _ e)
   ·exact h3 (by simpa using e)
 ·unfold fM
  simp only [List.length_append,List.length_cons,List.length_nil,tA h1,w3]
 ·intro y hy
  rcases List.mem_append.1 hy with hy|hy
  ·rcases List.mem_append.1 hy with hy|hy
   ·exact⟨((w2 _ hy).mem H.W).1,.inr (.inl (w2 _ hy))⟩
   ·have:y=s:=by simpa using hy
    subst this;exact⟨hs,.inl rfl⟩
  ·exact⟨(hm _ hy).1,.inr (.inr (kX hy))⟩
theorem tH(H:lf k G){y:HT}(hy:y∈ids G.D):(fE k G h ps).iR y=G.iR y/\(fE k G h ps).world y=G.world y:=by
 by_cases hc:eo G.D h ps=0
 ·obtain⟨hn,fH,gP,vY⟩:=lD hc
  obtain⟨nd,sN,rfl⟩:=dw.1 hy;obtain⟨i,hi⟩:=List.getElem?_of_mem sN;have fc:=(lgeS hi).1;have K4:(G.D++ [(⟨h,dg ps⟩:DN)])[i]? =some nd:=by rw [List.getElem?_append_left fc];exact hi
  have W':jQ (fE k G h ps).D:=by rw [tJ];exact H.W.add h ps
  rw [lV hc]at W'⊢;have e1:(⟨G.D++ [⟨h,dg ps⟩],G.P++ [(((pos (bG G ps) (ids G.D) 0).getD 0:Nat):Int)],G.CA++ [fM k G (bG G ps) ps],G.p8++ [(gJ k G (bG G ps) ps).wd]⟩:GS).at_ nd.id=some i:=GS.vO W' K4;have e2:=GS.vO H.W hi;unfold GS.iR GS.world;rw [e1,e2];simp only [Option.bind_some];rw [List.getElem?_append_left (by rw [H.lc];exact fc),List.getElem?_append_left (by rw [H.lw];exact fc)];exact⟨rfl,rfl⟩
 ·rw [vT hc];exact⟨rfl,rfl⟩
theorem tI(H:lf k G)(hc:eo G.D h ps=0):(fE k G h ps).iR h=fM k G (bG G ps) ps/\(fE k G h ps).world h=(gJ k G (bG G ps) ps).wd:=by
 have W':jQ (fE k G h ps).D:=by rw [tJ];exact H.W.add h ps
 rw [lV hc]at W'⊢;have K4:(G.D++ [(⟨h,dg ps⟩:DN)])[G.D.length]? =some ⟨h,dg ps⟩:=by rw [List.getElem?_append_right (Nat.le_refl _),Nat.sub_self];rfl
 have e1:(⟨G.D++ [⟨h,dg ps⟩],G.P++ [(((pos (bG G ps) (ids G.D) 0).getD 0:Nat):Int)],G.CA++ [fM k G (bG G ps) ps],G.p8++ [(gJ k G (bG G ps) ps).wd]⟩:GS).at_ h=some G.D.length:=GS.vO W' K4;unfold GS.iR GS.world;rw [e1];simp only [Option.bind_some];rw [List.getElem?_append_right (by rw [H.lc];exact Nat.le_refl _),H.lc,Nat.sub_self,List.getElem?_append_right (by rw [H.lw];exact Nat.le_refl _),H.lw,Nat.sub_self];exact⟨rfl,rfl⟩
end
section
variable{k:Nat}{G:GS}{h:HT}{ps:List HT}
theorem mo(k:Nat)(r:HT):lf k (gv r):=by
 have e0:(gv r).at_ r=some 0:=GS.vO (G:=gv r) (jQ.root r) (nd:=⟨r,[]⟩) rfl;have ec:(gv r).iR r=⟨fG,0,[],[]⟩:=by unfold GS.iR;rw [e0];rfl
 have ew:(gv r).world r= []:=by unfold GS.world;rw [e0];rfl
 refine⟨jQ.root r,rJ.one r,rfl,rfl,?_,?_,?_⟩
 ·intro nd gP
  have:nd=⟨r,[]⟩:=by simpa [gv]using gP.symm
  subst this;exact⟨ec,ew⟩
 ·rintro s h ⟨i,j,ni,m,h1,_,h3,_,_⟩
  exfalso;cases i with
  |zero=>simp [gv]at h3
  |succ i=>simp [gv]at h1
 ·intro h hm
  have:h=r:=by simpa [gv,ids]using hm
  subst this;refine⟨by rw [ew];simp,by rw [ew];simp,?_⟩;unfold GS.score;rw [ec,ew];rfl
theorem Dz(H:lf k G)(hc:eo G.D h ps=0):∃(j:Nat) (m:DN),G.D[j]? =some m/\m.id=bG G ps/\(pos (bG G ps) (ids G.D) 0).getD 0=j/\bG G ps∈ps/\bG G ps∈ids G.D:=by
 obtain⟨hn,fH,gP,vY⟩:=lD hc;have h1:=iY (G:=G) fH;have h2:=vY _ (dI.2 h1);obtain⟨m,hm,e⟩:=dw.1 h2;obtain⟨j,hj⟩:=List.getElem?_of_mem hm;have h3:=H.W.pos_eq hj;rw [e]at h3;exact⟨j,m,hj,e,by rw [h3];rfl,h1,h2⟩
theorem xV(H:lf k G)(hc:eo G.D h ps=0):(∀y,fD (G.D++ [⟨h,dg ps⟩]) y h↔∃p∈ps,y=p\/fD G.D y p)/\∀a b,b∈ids G.D->(fD (G.D++ [⟨h,dg ps⟩]) a b↔fD G.D a b):=by
 obtain⟨hn,fH,gP,vY⟩:=lD hc;have W':jQ (G.D++ [⟨h,dg ps⟩]):=by have:=H.W.add h ps;rwa [p5 hc]at this
 have K4:(G.D++ [(⟨h,dg ps⟩:DN)])[G.D.length]? =some ⟨h,dg ps⟩:=by rw [List.getElem?_append_right (Nat.le_refl _),Nat.sub_self];rfl
 have BS:∀a b,b∈ids G.D->(fD (G.D++ [⟨h,dg ps⟩]) a b↔fD G.D a b):=fun a b hb=>iw H.W hn hb;refine⟨fun y=>?_,BS⟩;rw [A0 W' K4 y];constructor
 ·rintro⟨p,hp,e⟩
  exact⟨p,dI.1 hp,e.imp_right fun e=>(BS _ _ (vY _ hp)).1 e⟩
 ·rintro⟨p,hp,e⟩
  exact⟨p,dI.2 hp,e.imp_right fun e=>(BS _ _ (vY _ (dI.2 hp))).2 e⟩
theorem lf.add(H:lf k G)(h:HT)(ps:List HT):lf k (fE k G h ps):=by
 by_cases hc:eo G.D h ps=0
 ·obtain⟨hn,fH,gP,vY⟩:=lD hc
  obtain⟨j,m,hj,hm,km,CS,CT⟩:=Dz H hc;obtain⟨Je,BS⟩:=xV H hc;have hk:=fun y (hy:y∈ids G.D)=>tH (h:=h) (ps:=ps) H hy;obtain⟨nc,nw⟩:=tI H hc;obtain⟨v1,v2⟩:=rV k G (bG G ps) ps;obtain⟨u1,u2,u3⟩:=zZ H CT ps (fun p hp=>vY _ (dI.2 hp));have W':jQ (G.D++ [⟨h,dg ps⟩]):=by have:=H.W.add h ps;rwa [p5 hc]at this
  have pN:rJ (G.D++ [(⟨h,dg ps⟩:DN)]) (G.P++ [(j:Int)]):=H.lZ.snoc hj (by rw [hm];exact dI.2 CS) H.W.pos;generalize hs:bG G ps=s at*;have eG:=lV (k:=k) hc;rw [hs,km]at eG;have eD:(fE k G h ps).D=G.D++ [⟨h,dg ps⟩]:=by rw [eG]
  have eP:(fE k G h ps).P=G.P++ [(j:Int)]:=by rw [eG]
  refine⟨by rw [eD];exact W',by rw [eD,eP];exact pN,by rw [eG];simp [H.lc],by rw [eG];simp [H.lw],?_,?_,?_⟩
  ·intro nd sN
   rw [eD,List.getElem?_append_left H.W.pos]at sN;obtain⟨e1,e2⟩:=hk nd.id (dw.2 ⟨nd,List.mem_of_getElem? sN,rfl⟩);rw [e1,e2];exact H.root nd sN
  ·intro t y hy
   rw [eD,eP,ml H.W H.lZ hn hj]at hy;rcases hy with hy|⟨rfl,rfl⟩
   ·have hp:=hy.par H.lZ
    have RJ:y∈ids G.D:=((fD.one hp).mem H.W).2;have FJ:t∈ids G.D:=((fD.one hp).mem H.W).1;obtain⟨e1,e2⟩:=hk y RJ;obtain⟨_,e3⟩:=hk t FJ;obtain⟨g1,g2,g3,g4,g5⟩:=H.up t y hy;rw [e1,e2,e3,eD];refine⟨g1,g2,g3,g4,fun z=>?_⟩;rw [g5,BS _ _ RJ,BS _ _ FJ]
   ·show _/\_
    rw [nc,nw,hm,(hk s CT).2,eD];refine⟨rfl,v2,v1,(lW _ _ _).nodup,fun z=>?_⟩;show z∈cg G s ps↔_
    rw [iW,Je,BS _ _ CT];constructor
    ·rintro⟨e,h3,h4⟩
     refine⟨?_,h3,h4⟩;rcases e with⟨_,p,hp,e⟩|e
     ·exact⟨p,hp,.inr e⟩
     ·exact⟨z,e,.inl rfl⟩
    ·rintro⟨⟨p,hp,e⟩,h3,h4⟩
     refine⟨?_,h3,h4⟩;rcases e with rfl|e
     ·exact .inr hp
     ·exact .inl ⟨(e.mem H.W).1,p,hp,e⟩
  ·intro y hy
   rw [eD,jM]at hy;rcases List.mem_append.1 hy with hy|hy
   ·obtain⟨e1,e2⟩:=hk y hy
    obtain⟨g1,g2,g3⟩:=H.wd y hy;unfold GS.score;rw [e1,e2,eD];exact⟨g1,fun b hb=>(BS _ _ hy).2 (g2 b hb),g3⟩
   ·have:y=h:=by simpa using hy
    subst this;unfold GS.score;rw [nc,nw,eD];refine⟨u1,fun b hb=>?_,u2.symm⟩;obtain⟨_,e⟩:=u3 b hb;rw [Je];rcases e with rfl|e|e
    ·exact⟨b,CS,.inl rfl⟩
    ·exact⟨s,CS,.inr e⟩
    ·obtain⟨e,_,_⟩:=iW.1 e
     rcases e with⟨_,p,hp,e⟩|e
     ·exact⟨p,hp,.inr e⟩
     ·exact⟨b,e,.inl rfl⟩
 ·rw [vT hc];exact H
end
def lj(sz:HT->HT->Option Nat)(l:List HT)(b:HT):Nat:=(l.findSome? fun h=>sz h b).getD 0
def pK(ov:HT->Option Nat)(base:HT->Nat)(b:HT):Nat:=(ov b).getD (base b)
structure OV(D:DG)(wd:List HT)(ov:HT->Option Nat)(base:HT->Nat):Prop where
 kn:∀b∈wd,pK ov base b=(bY D wd b).length
 MF:∀b n,ov b=some n->b∈wd
noncomputable def wM(D:DG)(wd:List HT)(ov:HT->Option Nat)(base:HT->Nat)(h:HT):HT->Option Nat:=
 fun b=>if b∈bY D wd h then some (pK ov base b+1)else if b=h then some (bY D wd h).length else ov b
theorem OV.step{D:DG}{wd:List HT}{ov:HT->Option Nat}{base:HT->Nat}(H:OV D wd ov base){h:HT}(hn:h∉wd):OV D (wd++ [h]) (wM D wd ov base h) base:=by
 refine⟨fun b hb=>?_,fun b n e=>?_⟩
 ·rw [fw,List.length_append]
  unfold pK wM;by_cases hp:b∈bY D wd h
  ·rw [if_pos hp]
   obtain⟨h1,h2⟩:=eT.1 hp;rw [Option.getD_some,H.kn b h1];have:bY D [h] b= [h]:=by unfold bY;rw [List.filter_cons_of_pos (by simpa using h2.symm)];rfl
   rw [this];rfl
  ·rw [if_neg hp]
   by_cases e:b=h
   ·subst e
    rw [if_pos rfl,Option.getD_some];have:bY D [b] b= []:=by unfold bY;rw [List.filter_cons_of_neg (by simpa using fun e:nn D b b=>e.1 rfl)];rfl
    rw [this];rfl
   ·rw [if_neg e]
    have hw:b∈wd:=by
     rcases List.mem_append.1 hb with hb|hb
     ·exact hb
     ·exact absurd (by simpa using hb) e
    have:bY D [h] b= []:=by unfold bY;rw [List.filter_cons_of_neg (by simpa using fun e':nn D h b=>hp (eT.2 ⟨hw,e'.symm⟩))];rfl
    rw [this];exact H.kn b hw
 ·unfold wM at e
  split at e
  ·rename_i hp
   exact List.mem_append_left _ (eT.1 hp).1
  ·split at e
   ·rename_i hb;subst hb;exact List.mem_append_right _ (by simp)
   ·exact List.mem_append_left _ (H.MF b n e)
structure SZ(G:GS)(sz:HT->HT->Option Nat):Prop where
 kn:∀h l,h∈ids G.D->cM G.D G.P h l->∀b∈G.world h++ [h],lj sz l b=(bY G.D (G.world h++ [h]) b).length
 MF:∀h b n,sz h b=some n->b∈ids G.D
theorem SZ.ov{G:GS}{sz:HT->HT->Option Nat}(Z:SZ G sz){s:HT}(hs:s∈ids G.D){l:List HT}(hl:cM G.D G.P s l):OV G.D (G.world s++ [s]) (fun _=>none) (lj sz l):=
 ⟨fun b hb=>Z.kn s l hs hl b hb,fun b n e=>by cases e⟩
theorem Up.snoc{P:List Int}{p:Int}:∀ {i:Nat} {l:List Nat},Up P i l->Up (P++ [p]) i l:=by
 intro i l h
 induction h with
 |root=>exact .root
 |step h _ ih=>exact .step (by rw [List.getElem?_append_left (lgeS h).1];exact h) ih
theorem uV{D:DG}{nd:DN}{i:Nat}(h:i<D.length):mO (D++ [nd]) i=mO D i:=by unfold mO;rw [List.getElem?_append_left h]
theorem cM.snoc{D:DG}{P:List Int}(H:rJ D P){nd:DN}{p:Int}{h:HT}{l:List HT}(hm:h∈ids D)(c:cM D P h l):cM (D++ [nd]) (P++ [p]) h l:=by
 rcases c with⟨hn,_⟩|⟨i,m,ks,h1,h2,h3,h4⟩
 ·exact absurd hm hn
 ·have fc:=(lgeS h1).1
  refine .inr ⟨i,m,ks,by rw [List.getElem?_append_left fc];exact h1,h2,h3.snoc,?_⟩;rw [h4];refine List.map_congr_left fun k hk=>(uV ?_).symm;have:=h3.lt H.par (by rw [H.len];exact fc) k hk
  rwa [H.len]at this
theorem cM.new{D:DG}{P:List Int}(W:jQ D)(H:rJ D P){nd m:DN}{j:Nat}(hj:D[j]? =some m){l:List HT}(c:cM D P m.id l):cM (D++ [nd]) (P++ [(j:Int)]) nd.id (nd.id::l):=by
 have hm:m.id∈ids D:=dw.2 ⟨m,List.mem_of_getElem? hj,rfl⟩;have c':=cM.snoc (nd:=nd) (p:=(j:Int)) H hm c;rcases c with⟨hn,_⟩|⟨i,m',ks,h1,h2,h3,h4⟩
 ·exact absurd hm hn
 ·have pP:=W.inj h1 hj h2
  subst pP;have e0:(D++ [nd])[D.length]? =some nd:=by rw [List.getElem?_append_right (Nat.le_refl _),Nat.sub_self];rfl
  refine .inr ⟨D.length,nd,D.length::ks,e0,rfl,.step (by rw [<-H.len,List.getElem?_append_right (Nat.le_refl _),Nat.sub_self];rfl) h3.snoc,?_⟩;rw [List.map_cons,lR e0,h4]
  congr 1
  refine List.map_congr_left fun k hk=>(uV ?_).symm;have:=h3.lt H.par (by rw [H.len];exact(lgeS h1).1) k hk
  rwa [H.len]at this
theorem pE{D D':DG}{l:List HT}{b:HT}(h:∀a∈l,nn D' a b↔nn D a b):bY D' l b=bY D l b:=by
 unfold bY;exact List.filter_congr fun a ha=>by simp only [h a ha]
theorem SZ.root(r:HT):SZ (gv r) (fun _ _=>none):=by
 refine⟨fun h l hm _ b hb=>?_,fun h b n e=>by cases e⟩;have hh:h=r:=by simpa [gv,ids]using hm
 subst hh;have ew:(gv h).world h= []:=((mo 0 h).root ⟨h,[]⟩ rfl).2;rw [ew]at hb⊢;have:b=h:=by simpa using hb
 subst this;have:bY (gv b).D ([]++ [b]) b= []:=by unfold bY;rw [List.nil_append,List.filter_cons_of_neg (by simpa using fun e:nn (gv b).D b b=>e.1 rfl)];rfl
 rw [this];unfold lj;have:(l.findSome? fun _=>(none:Option Nat))=none:=by simp
 rw [this];rfl
theorem SZ.add{k:Nat}{G:GS}{sz:HT->HT->Option Nat}(Z:SZ G sz)(H:lf k G){h:HT}{ps:List HT}(hc:eo G.D h ps=0){l:List HT}(hl:cM G.D G.P (bG G ps) l){ov:HT->Option Nat}
 (O:OV G.D (gJ k G (bG G ps) ps).wd ov (lj sz l)):SZ (fE k G h ps) (fun y=>if y=h then ov else sz y):=by
 obtain⟨hn,fH,gP,vY⟩:=lD hc;obtain⟨j,m,hj,hm,km,CS,CT⟩:=Dz H hc;obtain⟨Je,BS⟩:=xV H hc;have H':=H.add h ps;obtain⟨nc,nw⟩:=tI H hc;obtain⟨u1,u2,u3⟩:=zZ H CT ps (fun p hp=>vY _ (dI.2 hp));have eD:(fE k G h ps).D=G.D++ [⟨h,dg ps⟩]:=by rw [lV hc]
 have eP:(fE k G h ps).P=G.P++ [(j:Int)]:=by rw [lV hc,km]
 have apt:∀a b,a∈ids G.D->b∈ids G.D->(nn (G.D++ [⟨h,dg ps⟩]) a b↔nn G.D a b):=fun a b ha hb=>by unfold nn;rw [BS _ _ hb,BS _ _ ha]
 have X0:∀(y:HT) (l':List HT),y∈ids G.D->cM G.D G.P y l'->∀b,lj (fun y=>if y=h then ov else sz y) l' b=lj sz l' b:=fun y l' hy c b=>by
  unfold lj;have RW:h∉l':=fun e=>hn ((c.mem H.W H.lZ).1 e).mem.1;have key:∀l':List HT,h∉l'->(l'.findSome? fun y=>(if y=h then ov else sz y) b)=l'.findSome? fun y=>sz y b:=by
   intro l'
   induction l' with
   |nil=>intro _;rfl
   |cons y l' ih=>
    intro hq;simp only [List.mem_cons,not_or]at hq;rw [List.findSome?_cons,List.findSome?_cons,if_neg (fun e=>hq.1 e.symm),ih hq.2]
  rw [key l' RW]
 refine⟨fun y l' hy c b hb=>?_,fun y b n e=>?_⟩
 ·rw [eD,eP]at c
  rw [eD]at hy⊢;rw [jM]at hy;have W':jQ (G.D++ [⟨h,dg ps⟩]):=by have:=H'.W;rwa [eD]at this
  have S':rJ (G.D++ [⟨h,dg ps⟩]) (G.P++ [(j:Int)]):=by have:=H'.lZ;rwa [eD,eP]at this
  rcases List.mem_append.1 hy with hy|hy
  ·obtain⟨l0,c0⟩:=cM.ex H.lZ y
   have:l'=l0:=c.one W' S' (c0.snoc H.lZ hy);subst this;obtain⟨_,e2⟩:=tH (k:=k) (h:=h) (ps:=ps) H hy;rw [e2]at hb⊢;rw [X0 y l' hy c0,Z.kn y l' hy c0 b hb];have gK:∀a∈G.world y++ [y],a∈ids G.D:=fun a ha=>by
    rcases List.mem_append.1 ha with ha|ha
    ·exact(((H.wd y hy).2.1 a ha).mem H.W).1
    ·have:a=y:=by simpa using ha
     subst this;exact hy
   rw [pE fun a ha=>apt a b (gK a ha) (gK b hb)]
  ·have:y=h:=by simpa using hy
   subst this;have cn:=cM.new (nd:=⟨y,dg ps⟩) H.W H.lZ hj (by rw [hm];exact hl);have:l'=y::l:=c.one W' S' cn;subst this;rw [nw]at hb⊢;have e1:lj (fun z=>if z=y then ov else sz z) (y::l) b=pK ov (lj sz l) b:=by
    have:=X0 _ l CT hl b;unfold lj at this⊢;unfold pK;rw [List.findSome?_cons];cases x9:ov b with
    |none=>simp only [if_true,x9,Option.getD_none];exact this
    |some n=>simp only [if_true,x9,Option.getD_some]
   rw [e1,fw,List.length_append];have Nn:∀a∈(gJ k G (bG G ps) ps).wd,¬nn (G.D++ [⟨y,dg ps⟩]) a y:=fun a ha e=>by
    obtain⟨_,e'⟩:=u3 a ha;refine e.2.1 ((Je a).2 ?_);rcases e' with rfl|e'|e'
    ·exact⟨_,CS,.inl rfl⟩
    ·exact⟨_,CS,.inr e'⟩
    ·obtain⟨e',_,_⟩:=iW.1 e'
     rcases e' with⟨_,p,hp,e'⟩|e'
     ·exact⟨p,hp,.inr e'⟩
     ·exact⟨a,e',.inl rfl⟩
   rcases List.mem_append.1 hb with hb|hb
   ·have ZB:=(u3 b hb).1
    have:bY (G.D++ [⟨y,dg ps⟩]) [y] b= []:=by unfold bY;rw [List.filter_cons_of_neg (by simpa using fun e:nn _ y b=>Nn b hb e.symm)];rfl
    rw [this,O.kn b hb,pE fun a ha=>apt a b (u3 a ha).1 ZB];rfl
   ·have:b=y:=by simpa using hb
    subst this;have e2:bY (G.D++ [⟨b,dg ps⟩]) (gJ k G (bG G ps) ps).wd b= []:=by
     unfold bY;rw [List.filter_eq_nil_iff];intro a ha;simpa using Nn a ha
    have e3:bY (G.D++ [⟨b,dg ps⟩]) [b] b= []:=by unfold bY;rw [List.filter_cons_of_neg (by simpa using fun e:nn _ b b=>e.1 rfl)];rfl
    rw [e2,e3];have e4:ov b=none:=by
     cases x9:ov b with
     |none=>rfl
     |some n=>exact absurd (u3 b (O.MF b n x9)).1 hn
    have e5:lj sz l b=0:=by
     unfold lj;have:(l.findSome? fun h=>sz h b)=none:=by
      rw [List.findSome?_eq_none_iff];intro y hy;cases Ue:sz y b with
      |none=>rfl
      |some n=>exact absurd (Z.MF y b n Ue) hn
     rw [this];rfl
    unfold pK;rw [e4,e5];rfl
 ·rw [eD,jM]
  refine List.mem_append_left _ ?_;split at e
  ·exact(u3 b (O.MF b n e)).1
  ·exact Z.MF y b n e
noncomputable def v7(G:GS)(h:HT):List HT->List HT
 | []=> []
 |a::r=>(if nn G.D a h then [a]else [])++if fD G.D a h then []else bY G.D (dL (G.iR a).merge (G.iR a).iJ) h++v7 G h r
theorem Up.inv{P:List Int}{i:Nat}{l:List Nat}(h:Up P i l):(i=0/\l= [0])\/∃(j:Nat) (r:List Nat),l=i::r/\P[i]? =some (j:Int)/\Up P j r:=by
 cases h with
 |root=>exact .inl ⟨rfl,rfl⟩
 |step h1 h2=>exact .inr ⟨_,_,rfl,h1,h2⟩
theorem cM.inv{D:DG}{P:List Int}(W:jQ D)(H:rJ D P){h:HT}{l:List HT}(hm:h∈ids D)(c:cM D P h l):
 (l= [h]/\∃nd,D[0]? =some nd/\nd.id=h)\/∃(s:HT) (r:List HT),l=h::r/\jT D P s h/\s∈ids D/\cM D P s r:=by
 rcases c with⟨hn,_⟩|⟨i,m,ks,h1,h2,h3,h4⟩
 ·exact absurd hm hn
 ·rcases h3.inv with⟨rfl,rfl⟩|⟨j,r,rfl,h5,h6⟩
  ·refine .inl ⟨?_,m,h1,h2⟩
   rw [h4,List.map_cons,List.map_nil,lR h1,h2]
  ·have hj:j<D.length:=by
    cases i with
    |zero=>rw [H.root]at h5;simp only [Option.some.injEq]at h5;omega
    |succ i=>
     obtain⟨j',m',e,_,h7,_⟩:=H.up (i+1) _ m (by omega) h5 h1;have:=(lgeS h7).1;omega
   obtain⟨mj,Pe⟩:∃mj,D[j]? =some mj:=⟨_,List.getElem?_eq_getElem hj⟩;refine .inr ⟨mj.id,r.map (mO D),?_,⟨i,j,m,mj,h1,h2,h5,Pe,rfl⟩,dw.2 ⟨mj,List.mem_of_getElem? Pe,rfl⟩,.inr ⟨j,mj,r,Pe,rfl,h6,rfl⟩⟩;rw [h4,List.map_cons,lR h1,h2]
theorem Lz{k:Nat}{G:GS}(H:lf k G)(h:HT):∀(l:List HT) (s:HT),s∈ids G.D->cM G.D G.P s l->(v7 G h l).Nodup/\∀y,y∈v7 G h l↔y∈bY G.D (G.world s++ [s]) h:=by
 intro l
 induction l with
 |nil=>
  intro s hs c;rcases c.inv H.W H.lZ hs with⟨e,_⟩|⟨_,_,e,_⟩<;>cases e
 |cons a r ih=>
  intro s hs c;have key:∀(wb:List HT),G.world s=wb++dL (G.iR s).merge (G.iR s).iJ->(v7 G h r).Nodup->(∀y,y∈v7 G h r↔y∈bY G.D wb h)->a=s->(v7 G h (a::r)).Nodup/\∀y,y∈v7 G h (a::r)↔y∈bY G.D (G.world s++ [s]) h:=by
   rintro wb hw hn hy rfl;obtain⟨w1,w2,_⟩:=H.wd a hs;have Vg:=fD.irrefl H.W a;rw [hw]at w1 w2⊢;rw [List.nodup_append]at w1;obtain⟨w3,w4,w5⟩:=w1;unfold v7;by_cases ha:fD G.D a h
   ·have KO:¬nn G.D a h:=fun e=>e.2.1 ha
    rw [if_pos ha,if_neg KO];refine⟨by simp,fun y=>?_⟩;simp only [List.append_nil,List.not_mem_nil,false_iff];intro e;obtain⟨e1,e2⟩:=eT.1 e;rcases List.mem_append.1 e1 with e1|e1
    ·exact e2.2.1 ((w2 y e1).trans ha)
    ·have:y=a:=by simpa using e1
     subst this;exact KO e2
   ·rw [if_neg ha]
    have hr:∀y∈v7 G h r,y∈wb:=fun y e=>(eT.1 ((hy y).1 e)).1;refine⟨?_,fun y=>?_⟩
    ·refine List.nodup_append.2 ⟨by split<;>simp,List.nodup_append.2 ⟨w4.filter _,hn,?_⟩,?_⟩
     ·intro x hx z hz e
      subst e;exact w5 x (hr x hz) x (eT.1 hx).1 rfl
     ·intro x hx z hz e
      subst e;split at hx
      ·have:x=a:=by simpa using hx
       subst this;refine Vg (w2 x ?_);rcases List.mem_append.1 hz with hz|hz
       ·exact List.mem_append_right _ (eT.1 hz).1
       ·exact List.mem_append_left _ (hr x hz)
      ·simp at hx
    ·rw [fw,fw]
     simp only [List.mem_append,hy];have e1:y∈(if nn G.D a h then [a]else [])↔y∈bY G.D [a] h:=by
      unfold bY;by_cases hp:nn G.D a h
      ·rw [if_pos hp,List.filter_cons_of_pos (by simpa using hp)];rfl
      ·rw [if_neg hp,List.filter_cons_of_neg (by simpa using hp)];rfl
     rw [e1];constructor
     ·rintro(e|e|e)
      ·exact .inr e
      ·exact .inl (.inr e)
      ·exact .inl (.inl e)
     ·rintro((e|e)|e)
      ·exact .inr (.inr e)
      ·exact .inr (.inl e)
      ·exact .inl e
  rcases c.inv H.W H.lZ hs with⟨e,nd,h0,rfl⟩|⟨t,r',e,ow,ht,hc⟩
  ·obtain⟨r1,r2⟩:=H.root nd h0
   cases e;exact key [] (by rw [r2,r1];simp [dL]) (by simp [v7]) (fun y=>by simp [v7,bY]) rfl
  ·cases e
   obtain⟨_,u2,_⟩:=H.up t a ow;obtain⟨i1,i2⟩:=ih t ht hc;exact key (G.world t++ [t]) u2 i1 i2 rfl
noncomputable def mK(G:GS)(h:HT)(bl l:List HT):List HT:=bY G.D bl h++v7 G h l
theorem HL{k:Nat}{G:GS}(H:lf k G){h s:HT}{l bl:List HT}(hs:s∈ids G.D)(hl:cM G.D G.P s l)(hn:(G.world s++ [s]++bl).Nodup):
 (mK G h bl l).Nodup/\(mK G h bl l).length=(bY G.D (G.world s++ [s]++bl) h).length/\∀y,y∈mK G h bl l↔y∈bY G.D (G.world s++ [s]++bl) h:=by
 obtain⟨h1,h2⟩:=Lz H h l s hs hl;have h0:=hn;rw [List.nodup_append]at hn;obtain⟨n1,n2,n3⟩:=hn;have hm:∀y,y∈mK G h bl l↔y∈bY G.D (G.world s++ [s]++bl) h:=fun y=>by
  unfold mK;rw [fw,List.mem_append,List.mem_append,h2];exact Or.comm
 have gP:(mK G h bl l).Nodup:=by
  refine List.nodup_append.2 ⟨n2.filter _,h1,?_⟩;intro x hx z hz e;subst e;exact n3 x (eT.1 ((h2 x).1 hz)).1 x (eT.1 hx).1 rfl
 exact⟨gP,((List.perm_ext_iff_of_nodup gP (h0.filter _)).2 hm).length_eq,hm⟩
def pF(k:Nat)(kn:HT->Nat)(done:List HT)(b:HT):Bool:=decide (done.length+1<=k/\kn b<k)
def dN(k:Nat)(kn:HT->Nat):List HT->List HT->Bool
 |_,[]=>true
 |done,b::l=>pF k kn done b&&dN k kn (done++ [b]) l
theorem nW{k:Nat}{kn:HT->Nat}:∀ {l done:List HT},dN k kn done l=true↔(l≠ []->done.length+l.length<=k)/\∀b∈l,kn b<k
 | [],done=>by simp [dN]
 |b::l,done=>by
  unfold dN pF;rw [Bool.and_eq_true,decide_eq_true_eq,nW];simp only [List.length_append,List.length_cons,List.length_nil,List.mem_cons,forall_eq_or_imp,ne_eq,reduceCtorEq,not_false_eq_true,forall_const];constructor
  ·rintro⟨⟨h1,h2⟩,h3,h4⟩
   refine⟨?_,h2,h4⟩;by_cases e:l= []
   ·subst e;simpa using h1
   ·have:=h3 e;omega
  ·rintro⟨h1,h2,h3⟩
   refine⟨⟨by omega,h2⟩,fun _=>by omega,h3⟩
theorem kY{k:Nat}{kn:HT->Nat}:∀ {l m done:List HT},dN k kn done (l++m)=(dN k kn done l&&dN k kn (done++l) m)
 | [],m,done=>by simp [dN]
 |b::l,m,done=>by
  simp only [List.cons_append,dN,kY (l:=l),Bool.and_assoc,List.append_assoc,List.nil_append]
theorem Fh{k:Nat}{D:DG}{wd:List HT}{kn:HT->Nat}{h:HT}{c:List HT}(hk:∀b∈wd,kn b=(bY D wd b).length)(hl:c.length=(bY D wd h).length)(hm:∀y,y∈c↔y∈bY D wd h):
 dN k kn [] c=tB k D wd h:=by
 rw [Bool.eq_iff_iff,nW];unfold tB;rw [decide_eq_true_eq];simp only [List.length_nil,Nat.zero_add,<-hl];constructor
 ·rintro⟨h1,h2⟩
  refine⟨?_,fun y hy=>?_⟩
  ·by_cases e:c= []
   ·subst e;simp
   ·exact h1 e
  ·have:=h2 y ((hm y).2 hy)
   rw [hk y (eT.1 hy).1]at this;omega
 ·rintro⟨h1,h2⟩
  refine⟨fun _=>h1,fun y hy=>?_⟩;have hy:=(hm y).1 hy;rw [hk y (eT.1 hy).1];have:=h2 y hy;omega
open Go.RowKit
theorem DQ:uw dJ dO (.pointer none):=⟨by kernel_rfl,rK (by kernel_rfl)⟩
theorem pI:uw b0 fC (.int .i64 0):=⟨by kernel_rfl,rK (by kernel_rfl)⟩
structure Bo(w:World)(A:Option Addr)(n:Nat)(l:List Bool):Prop where
 len:l.length=n
 at_:∀(i:Nat) (b:Bool),l[i]? =some b->∃a,A=some a/\a.block<w.heap.size/\w.cell? (a.add i)=some (.bool b)
theorem Bo.aK{S:Nat->Prop}{w w':World}{A:Option Addr}{n:Nat}{l:List Bool}(h:Bo w A n l)(hk:Kept S w w')(hn:∀a,A=some a->¬S a.block):Bo w' A n l:=⟨h.len,fun i x hi=>by
 obtain⟨a,h1,h2,h3⟩:=h.at_ i x hi;exact⟨a,h1,Nat.lt_of_lt_of_le h2 hk.size,hk.cell h3 (by rw [iy];exact hn a h1)⟩⟩
theorem Bo.same{w w':World}{A:Option Addr}{n:Nat}{l:List Bool}(h:Bo w A n l)(hk:Kept Nil w w'):Bo w' A n l:=h.aK hk fun _ _ h=>h
def Gr(ov:HT->Option Nat)(b:HT):Option Value:=(ov b).map fun n:Nat=>.int .i64 (n:Int)
def CN(w:World)(F:Nat->Prop)(sm:Option Nat)(sz:HT->Option Nat):Prop:=
 (sm=none/\∀b,sz b=none)\/∃s,sm=some s/\F s/\dW w s (Gr sz)
def dS(c:rl)(A:Option Addr)(n cp:Nat)(B:Option Addr)(m cq:Nat):Array Value:=c.lZ.1++ #[.int .u64 (c.score:Int),.slice A n cp,.slice B m cq]
structure oO(w:World)(F:Nat->Prop)(q:Nat)(c:rl)(sz:HT->Option Nat)(A:Option Addr)(n cp:Nat)(B:Option Addr)(m cq:Nat)(sm:Option Nat):Prop where
 top:w.heap[q]? =some (.cells (dS c A n cp B m cq++ #[.map sm]) df (0,0))
 mg:HS w A n c.merge
 bl:Bo w B m c.iJ
 fA:∀a,A=some a->F a.block
 fB:∀a,B=some a->F a.block
 sz:CN w F sm sz
 fq:F q
def Seen(w:World)(F:Nat->Prop)(q:Nat)(c:rl)(sz:HT->Option Nat):Prop:=∃A n cp B m cq sm,oO w F q c sz A n cp B m cq sm
section
variable{w w':World}{F S:Nat->Prop}{q:Nat}{c:rl}{sz:HT->Option Nat}{A B:Option Addr}{n cp m cq:Nat}{sm:Option Nat}
theorem CN.aK(h:CN w F sm sz)(hk:Kept S w w')(hF:∀j,F j->¬S j):CN w' F sm sz:=by
 rcases h with h|⟨s,h1,h2,h3⟩
 ·exact .inl h
 ·exact .inr ⟨s,h1,h2,h3.aK hk (hF _ h2)⟩
theorem oO.aK(h:oO w F q c sz A n cp B m cq sm)(hk:Kept S w w')(hF:∀j,F j->¬S j):oO w' F q c sz A n cp B m cq sm:=
 ⟨hk.heap h.top (hF _ h.fq),h.mg.aK hk (fun a ha=>hF _ (h.fA a ha)),h.bl.aK hk (fun a ha=>hF _ (h.fB a ha)),h.fA,h.fB,h.sz.aK hk hF,h.fq⟩
theorem Seen.aK(h:Seen w F q c sz)(hk:Kept S w w')(hF:∀j,F j->¬S j):Seen w' F q c sz:=by
 obtain⟨A,n,cp,B,m,cq,sm,h⟩:=h;exact⟨A,n,cp,B,m,cq,sm,h.aK hk hF⟩
theorem bX(c:rl)(A:Option Addr)(n cp:Nat)(B:Option Addr)(m cq:Nat):(dS c A n cp B m cq).size=35:=by
 unfold dS;rw [Array.size_append,c.lZ.2.1];rfl
theorem gL(c:rl)(A:Option Addr)(n cp:Nat)(B:Option Addr)(m cq:Nat)(r:Array Value):
 ((dS c A n cp B m cq)++r)[32]? =some (.int .u64 (c.score:Int))/\((dS c A n cp B m cq)++r)[33]? =some (.slice A n cp)/\((dS c A n cp B m cq)++r)[34]? =some (.slice B m cq)/\((dS c A n cp B m cq)++r)[35]? =r[0]? :=by
 have hs:=bX c A n cp B m cq;have h0:c.lZ.1.size=32:=c.lZ.2.1;refine⟨?_,?_,?_,?_⟩
 ·rw [Array.getElem?_append_left (by omega)];unfold dS;rw [Array.getElem?_append_right (by omega),h0];rfl
 ·rw [Array.getElem?_append_left (by omega)];unfold dS;rw [Array.getElem?_append_right (by omega),h0];rfl
 ·rw [Array.getElem?_append_left (by omega)];unfold dS;rw [Array.getElem?_append_right (by omega),h0];rfl
 ·rw [Array.getElem?_append_right (by omega),hs]
theorem oO.Q8(h:oO w F q c sz A n cp B m cq sm):w.cell? (((⟨q,0,none⟩:Addr).add 0).add 32)=some (.int .u64 (c.score:Int)):=by
 rw [add_zero,bu,aD h.top];exact(gL ..).1
theorem oO.c35(h:oO w F q c sz A n cp B m cq sm):w.cell? ((⟨q,0,none⟩:Addr).add 35)=some (.map sm):=by
 rw [bu,aD h.top];exact(gL ..).2.2.2
theorem oO.iR(h:oO w F q c sz A n cp B m cq sm):Cells w ((⟨q,0,none⟩:Addr).add 0) (dS c A n cp B m cq):=by
 intro j u hj;rw [add_zero,bu,aD h.top,Array.getElem?_append_left (by rw [bX];have:=(Array.getElem?_eq_some_iff.1 hj).1;rw [bX]at this;omega)];rw [Nat.zero_add];exact hj
end
structure CM where
 x:Nat
 mb:Nat
 SX:Nat->Prop
 FX:Nat->Prop
 q:HT->Nat
 sz:HT->HT->Option Nat
def CM.own(m:CM)(c j:Nat):Prop:=m.SX j\/j=c\/j=m.mb
structure CV(w:World)(F:Nat->Prop)(c:Nat)(k:Nat)(G:GS)(m:CM):Prop where
 top:w.heap[c]? =some (.cells #[.int .i64 (k:Int),.pointer (some ⟨m.x,0,none⟩),.map (some m.mb)] fL (0,0))
 X:zR w m.SX m.FX m.x G.D G.P
 all:dW w m.mb fun h=>if h∈ids G.D then some (.pointer (some ⟨m.q h,0,none⟩))else none
 seen:∀h∈ids G.D,Seen w F (m.q h) (G.iR h) (m.sz h)
 iP:lf k G
 Z:SZ G m.sz
 fx:∀j,m.FX j->F j
 fo:∀j,F j->¬m.own c j
 so:∀j,m.SX j->j≠c/\j≠m.mb
 ne:c≠m.mb
 low:∀j,m.own c j\/F j->j<w.heap.size
section
variable{w w':World}{F S:Nat->Prop}{c k:Nat}{G:GS}{m:CM}{K:Value->World->Prop}
theorem CV.aK{S0:Nat->Prop}(h:CV w F c k G m)(hk:Kept S0 w w')(hS:∀j,m.own c j->¬S0 j)(hF:∀j,F j->¬S0 j):CV w' F c k G m where
 top:=hk.heap h.top (hS _ (.inr (.inl rfl)))
 X:=h.X.aK hk (fun j e=>hS j (.inl e)) (fun j e=>hF j (h.fx j e))
 all:=h.all.aK hk (hS _ (.inr (.inr rfl)))
 seen:=fun y hy=>(h.seen y hy).aK hk hF
 iP:=h.iP
 Z:=h.Z
 fx:=h.fx
 fo:=h.fo
 so:=h.so
 ne:=h.ne
 low:=fun j e=>Nat.lt_of_lt_of_le (h.low j e) hk.size
theorem CV.same(h:CV w F c k G m)(hk:Kept Nil w w'):CV w' F c k G m:=h.aK hk (fun _ _ h=>h) (fun _ _ h=>h)
theorem CV.c0(h:CV w F c k G m):w.cell? ((⟨c,0,none⟩:Addr).add 0)=some (.int .i64 (k:Int)):=by rw [bu,aD h.top];rfl
theorem CV.c1(h:CV w F c k G m):w.cell? ((⟨c,0,none⟩:Addr).add 1)=some (.pointer (some ⟨m.x,0,none⟩)):=by rw [bu,aD h.top];rfl
theorem CV.c2(h:CV w F c k G m):w.cell? ((⟨c,0,none⟩:Addr).add 2)=some (.map (some m.mb)):=by rw [bu,aD h.top];rfl
theorem CV.look(h:CV w F c k G m)(y:HT):(Instr.lookup dJ (.map (some m.mb)) (.agg y.1) false).run prog w=.ok (.pointer (if y∈ids G.D then some ⟨m.q y,0,none⟩else none)) w:=by
 have:=h.all.look DQ y;by_cases hy:y∈ids G.D
 ·rw [if_pos hy]at this;rw [if_pos hy];exact this
 ·rw [if_neg hy]at this;rw [if_neg hy];exact this
theorem CV.oL(h:CV w F c k G m){y:HT}(hy:y∈ids G.D):(Instr.lookup dJ (.map (some m.mb)) (.agg y.1) false).run prog w=.ok (.pointer (some ⟨m.q y,0,none⟩)) w:=by
 have:=h.look y;rwa [if_pos hy]at this
theorem qW(h:CV w F c k G m)(hK:K (.bool true) w):bm prog dh.id #[.pointer (some ⟨c,0,none⟩)] w K:=
 dh.of (Split.yes rfl ⟨_,h.c1,hK⟩)
theorem CB{A:Addr}{x y:Int}{cx:Nat}(h0:w.cell? A=some (.int .i64 x))(h1:w.cell? (A.add 1)=some (.int .i64 y))(hK:K (.int .i64 (if x=0 then y else x)) w):
 bm prog bA.id #[.slice (some A) 2 cx] w K:=by
 refine bA.of ?_;unfold bA.W;refine bA.cf (I:=fun s w'=>w'=w/\((s=(0,0))\/(s=(0,1)/\x=0)\/(s=(0,2)/\x=0/\y=0))) (μ:=fun s _=>(2-s.2).toNat) (s:=(0,0)) ⟨rfl,.inl rfl⟩ ?_;rintro s w' ⟨rfl,h⟩;rcases h with rfl|⟨rfl,hx⟩|⟨rfl,hx,hy⟩
 ·refine Split.yes rfl ⟨by simp only;omega,x,by rw [show(0:Int).toNat*1=0 from rfl,add_zero];exact h0,?_⟩
  by_cases hx:x=0
  ·refine Split.no (by simp [hx]) ?_
   exact⟨(0,1),rfl,⟨rfl,.inr (.inl ⟨rfl,hx⟩)⟩,by simp only;omega⟩
  ·refine Split.yes (by simpa using hx) ?_
   rw [if_neg hx]at hK;rw [gF];exact hK
 ·refine Split.yes rfl ⟨by simp only;omega,y,h1,?_⟩
  rw [if_pos hx]at hK;by_cases hy:y=0
  ·refine Split.no (by simp [hy]) ?_
   exact⟨(0,2),rfl,⟨rfl,.inr (.inr ⟨rfl,hx,hy⟩)⟩,by simp only;omega⟩
  ·refine Split.yes (by simpa using hy) ?_
   rw [gF];exact hK
 ·refine Split.no rfl ?_
  rw [aX,bA.dA];rw [if_pos hx,hy]at hK;exact hK
theorem zB{x y:Int}(hK:K (.int .i64 (if x<y then-1 else if y<x then 1 else 0)) w):bm prog cV.id #[.int .u64 x,.int .u64 y] w K:=by
 refine cV.of ?_;refine dQ.of ⟨_,rfl,?_⟩;refine dQ.of ⟨_,rfl,?_⟩;refine Split.no (by simp) (Split.no (by simp) (Split.dec (fun h=>?_) (fun h=>Split.dec (fun h'=>?_) (fun h'=>?_))))
 ·rw [if_pos h]at hK;exact hK
 ·rw [if_neg h,if_pos h']at hK;exact hK
 ·rw [if_neg h,if_neg h']at hK;exact hK
theorem nQ(h:CV w F c k G m){a b:HT}(ha:a∈ids G.D)(hb:b∈ids G.D)(hK:∀w',Kept Nil w w'->K (.int .i64 (xN G a b)) w'):
 bm prog bg.id #[.pointer (some ⟨c,0,none⟩),.agg a.1,.agg b.1] w K:=by
 refine bg.of ?_;unfold bg.W;intro w4 w5 w6;have k4:Kept Nil w w4:=(Kept.refl _ _).alloc _;have Qy:w4.heap[w.heap.size]? =some (.cells a.1 ax (0,0)):=aR w _;have k5:Kept Nil w4 w5:=(Kept.refl _ _).alloc _;have vG:w5.heap[w4.heap.size]? =some (.cells b.1 ax (0,0)):=aR w4 _;have k6:Kept Nil w5 w6:=(Kept.refl _ _).drew;clear_value w6;have zh:=(k5.tt k6).heap Qy (fun h=>h);have pQ:=k6.heap vG (fun h=>h);have qx:=(k4.tt k5).tt k6;have h6:=h.same qx;obtain⟨A1,n1,c1,B1,m1,d1,s1,sa⟩:=h6.seen a ha;obtain⟨A2,n2,c2,B2,m2,d2,s2,sb⟩:=h6.seen b hb;refine⟨_,h6.c2,a.1,⟨a.2.1,Cells.bS zh⟩,_,h6.oL ha,_,sa.Q8,_,h6.c2,b.1,⟨b.2.1,Cells.bS pQ⟩,_,h6.oL hb,_,sb.Q8,a.1,⟨a.2.1,Cells.bS zh⟩,b.1,⟨b.2.1,Cells.bS pQ⟩,?_⟩;refine zB ⟨_,rfl,⟨b.1,rfl,b.2.1,Cells.bS pQ⟩,⟨a.1,rfl,a.2.1,Cells.bS zh⟩,?_⟩;refine nU a b ⟨_,rfl,?_⟩;have k7:Kept Nil w6 ((w6.alloc (.cells a.1 ax)).alloc (.cells b.1 ax)).drew:=(((Kept.refl Nil w6).alloc _).alloc _).drew;generalize ((w6.alloc (.cells a.1 ax)).alloc (.cells b.1 ax)).drew=w7 at k7⊢;intro w8;have k8:Kept Nil w7 w8:=(Kept.refl _ _).alloc _;have MA:w8.heap[w7.heap.size]? =some (.cells _ _ (0,0)):=aR w7 _;clear_value w8;refine CB (A:=⟨w7.heap.size,0,none⟩) (by rw [aD MA];rfl) (by rw [bu,aD MA];rfl) ⟨_,rfl,?_⟩;have e:(if(if((G.iR a).score:Int)<((G.iR b).score:Int)then(-1:Int)else if((G.iR b).score:Int)<((G.iR a).score:Int)then 1 else 0)=0 then mT a b else if((G.iR a).score:Int)<((G.iR b).score:Int)then(-1:Int)else if((G.iR b).score:Int)<((G.iR a).score:Int)then 1 else 0)=xN G a b:=by
  rw [HK];unfold GS.score;by_cases h1:(G.iR a).score<(G.iR b).score
  ·have qV:((G.iR a).score:Int)<((G.iR b).score:Int):=by omega
   rw [if_pos h1,if_pos qV,if_neg (by decide)]
  ·have qV:¬((G.iR a).score:Int)<((G.iR b).score:Int):=by omega
   by_cases h2:(G.iR b).score<(G.iR a).score
   ·have sS:((G.iR b).score:Int)<((G.iR a).score:Int):=by omega
    rw [if_neg h1,if_neg qV,if_pos h2,if_pos sS,if_neg (by decide)]
   ·have sS:¬((G.iR b).score:Int)<((G.iR a).score:Int):=by omega
    rw [if_neg h1,if_neg qV,if_neg h2,if_neg sS,if_pos rfl]
 rw [e];exact hK _ ((qx.tt k7).tt k8)
end
section
variable{w:World}
theorem dW.Ao{mt te:TypeId}{z:Value}(T:uw mt te z){m:Nat}{f:HT->Option Value}(hm:dW w m f)(h:HT):
 (Instr.lookup mt (.map (some m)) (.agg h.1) true).run prog w=.ok (.tuple #[(f h).getD z,.bool (f h).isSome]) w:=by
 obtain⟨es,clock,l,h1,h2,h3,_⟩:=hm.ex;have h4:=kf h w h2;have h5:=lA h l 0;rw [h3]at h5;simp only [Instr.lookup,Sem.run_bind,run_underlying T.mY,nR h1,Result.andThen_ok,Sem.run_pure,hU,h4];cases hp:j0 h l 0 with
 |none=>rw [hp]at h5;simp [<-h5,T.zero]
 |some p=>rw [hp]at h5;simp [<-h5]
theorem yM{mt te:TypeId}{z:Value}(T:uw mt te z)(h:HT):
 (Instr.lookup mt (.map none) (.agg h.1) true).run prog w=.ok (.tuple #[z,.bool false]) w:=by
 have h3:=kf (es:= []) (l:= []) h w trivial;simp only [Instr.lookup,Sem.run_bind,run_underlying T.mY,Result.andThen_ok,Sem.run_pure,hU];simp [h3,j0,T.zero]
theorem CN.Ao{F:Nat->Prop}{sm:Option Nat}{sz:HT->Option Nat}(h:CN w F sm sz)(b:HT):
 (Instr.lookup b0 (.map sm) (.agg b.1) true).run prog w=.ok (.tuple #[.int .i64 (((sz b).getD 0:Nat):Int),.bool (sz b).isSome]) w:=by
 rcases h with⟨rfl,h⟩|⟨s,rfl,_,h⟩
 ·rw [h b];exact yM pI b
 ·have:=h.Ao pI b
  unfold Gr at this;cases hb:sz b with
  |none=>rw [hb]at this;exact this
  |some n=>rw [hb]at this;exact this
end
section
variable{w w':World}{F S:Nat->Prop}{c k:Nat}{G:GS}{m:CM}{K:Value->World->Prop}
theorem xE(h:CV w F c k G m)(hD:G.D.length<=5000)(a b:HT)(hK:∀w' (r:Bool),(r=true↔nn G.D a b)->Kept Nil w w'->K (.bool r) w'):
 bm prog cH.id #[.pointer (some ⟨c,0,none⟩),.agg a.1,.agg b.1] w K:=by
 refine cH.of ?_;unfold cH.W;intro w4 w5 w6;have k4:Kept Nil w w4:=(Kept.refl _ _).alloc _;have Qy:w4.heap[w.heap.size]? =some (.cells a.1 ax (0,0)):=aR w _;have k5:Kept Nil w4 w5:=(Kept.refl _ _).alloc _;have vG:w5.heap[w4.heap.size]? =some (.cells b.1 ax (0,0)):=aR w4 _;have k6:Kept Nil w5 w6:=(Kept.refl _ _).drew;clear_value w6;have zh:=(k5.tt k6).heap Qy (fun h=>h);have pQ:=k6.heap vG (fun h=>h);have qx:=(k4.tt k5).tt k6;have h6:=h.same qx;refine⟨a.1,⟨a.2.1,Cells.bS zh⟩,b.1,⟨b.2.1,Cells.bS pQ⟩,⟨a.2.ints,b.2.ints⟩,?_⟩;rw [gA];by_cases mJ:a=b
 ·refine Split.no (by rw [decide_eq_true mJ];rfl) (hK w6 false ⟨(fun e=>by cases e),fun e=>absurd mJ e.1⟩ qx)
 ·refine Split.yes (by rw [decide_eq_false mJ];rfl) ⟨_,h6.c1,a.1,⟨a.2.1,Cells.bS zh⟩,b.1,⟨b.2.1,Cells.bS pQ⟩,?_⟩
  obtain⟨mx,X6,_⟩:=h6.X;refine jr X6 hD a b fun w7 r hr k7=>⟨_,rfl,?_⟩;have uU:=qx.tt k7;cases r with
  |true=>exact Split.no rfl (hK w7 false ⟨(fun e=>by cases e),fun e=>absurd (hr.1 rfl) e.2.1⟩ uU)
  |false=>
   have h7:=h.same uU;refine Split.yes rfl ⟨_,h7.c1,b.1,⟨b.2.1,Cells.bS (k7.heap pQ (fun h=>h))⟩,a.1,⟨a.2.1,Cells.bS (k7.heap zh (fun h=>h))⟩,?_⟩;obtain⟨mx',X7,_⟩:=h7.X;refine jr X7 hD b a fun w8 r' YP k8=>⟨_,rfl,hK w8 _ ?_ (uU.tt k8)⟩;cases r' with
   |true=>exact⟨(fun e=>by cases e),fun e=>absurd (YP.1 rfl) e.2.2⟩
   |false=>exact⟨fun _=>⟨mJ,(fun e=>by have:=hr.2 e;cases this),(fun e=>by have:=YP.2 e;cases this)⟩,fun _=>rfl⟩
def ki(D:DG)(l:List HT):Int:=if l= []then 9 else if ∃p∈l,p∉ids D then 6 else 0
theorem u6(h:CV w F c k G m){A:Option Addr}{n cx:Nat}{l:List HT}(hl:HS w A n l)(hn:n<=400000)(hK:∀w',Kept Nil w w'->K (.int .i64 (ki G.D l)) w'):
 bm prog dr.id #[.pointer (some ⟨c,0,none⟩),.slice A n cx] w K:=by
 have hlen:=hl.len;refine dr.of ?_;unfold dr.W;intro w4;have k4:Kept Nil w w4:=(Kept.refl _ _).alloc _;have IT:w4.heap[w.heap.size]? =some (.cells #[.pointer (some ⟨c,0,none⟩)] cK (0,0)):=aR w _;clear_value w4;refine⟨some ⟨c,0,none⟩,by rw [aD IT];rfl,qW (h.same k4) ⟨_,rfl,Split.no rfl ?_⟩⟩;by_cases h0:n=0
 ·subst h0
  have e:l= []:=List.eq_nil_of_length_eq_zero hlen;refine Split.yes rfl ?_;have:=hK w4 k4;unfold ki at this;rw [if_pos e]at this;exact this
 ·have fH:l≠ []:=fun e=>by subst e;exact h0 hlen.symm
  refine Split.no (by simpa using (by omega:¬(n:Int)=0)) ?_;refine bL.of (an.of ?_);refine an.cf (I:=fun s w'=>∃i:Nat,s=(0,(i:Int))/\i<=n/\(∀p∈l.take i,p∈ids G.D)/\Kept Nil w4 w') (μ:=fun s _=>((n:Int)-s.2).toNat) (s:=(0,0)) ⟨0,rfl,Nat.zero_le _,by simp,Kept.refl _ _⟩ ?_;rintro s w' ⟨i,rfl,hi,cO,kw⟩;have Yl:=k4.tt kw;refine Split.dec (fun lH=>?_) (fun iK=>?_)
  ·simp only at lH
   have fc:i<n:=by omega
   obtain⟨y,hy⟩:∃y,l[i]? =some y:=⟨_,List.getElem?_eq_getElem (by omega)⟩;refine(hl.same Yl).load (i:=(i:Int)) (by omega) hy ?_;refine du.of ?_;unfold du.W;intro w7 w8;have k7:Kept Nil w' w7:=(Kept.refl _ _).alloc _;have hb7:w7.heap[w'.heap.size]? =some (.cells y.1 ax (0,0)):=aR w' _;have k8:Kept Nil w7 w8:=(Kept.refl _ _).drew;clear_value w8;have MA:=k8.heap hb7 (fun h=>h);have Rz:=(kw.tt k7).tt k8;have h8:=h.same (k4.tt Rz);refine⟨some ⟨c,0,none⟩,by rw [aD (Rz.heap IT (fun h=>h))];rfl,_,h8.c2,y.1,⟨y.2.1,Cells.bS MA⟩,_,h8.look y,_,rfl,?_⟩;by_cases hm:y∈ids G.D
   ·refine Split.no (by rw [if_pos hm];rfl) ?_
    simp only;rw [eJ (n:=(i:Int)) (by omega) (by omega)];refine⟨(0,(i:Int)+1),rfl,⟨i+1,rfl,fc,fun p hp=>?_,Rz⟩,by simp only;omega⟩;rcases(bJ hy).1 hp with hp|rfl
    ·exact cO p hp
    ·exact hm
   ·refine Split.yes (by rw [if_neg hm];rfl) ?_
    refine⟨(i:Int),rfl,_,rfl,?_⟩;have:=hK w8 (k4.tt Rz);unfold ki at this;rw [if_neg fH,if_pos ⟨y,List.mem_of_getElem? hy,hm⟩]at this;refine Split.yes (decide_eq_true (by omega)) this
  ·simp only at iK
   rw [aX,an.dA];rw [List.take_of_length_le (by omega)]at cO;refine⟨_,rfl,_,rfl,?_⟩;have:=hK w' Yl;unfold ki at this;rw [if_neg fH,if_neg (fun⟨p,hp,hn⟩=>hn (cO p hp))]at this;exact Split.no (by decide) this
end
theorem qZ{α β:Type}{f:α->Option β}{y:α}{n:β}:∀ {l:List α} {j:Nat},l[j]? =some y->(∀x∈l.take j,f x=none)->f y=some n->l.findSome? f=some n
 | [],j,h,_,_=>by simp at h
 |x::l,0,h,_,hy=>by
  simp only [List.getElem?_cons_zero,Option.some.injEq]at h;subst h;rw [List.findSome?_cons,hy]
 |x::l,j+1,h,ha,hy=>by
  have hx:=ha x (by simp);rw [List.findSome?_cons,hx];exact qZ (l:=l) (j:=j) (by simpa using h) (fun z hz=>ha z (by simp [hz])) hy
section
variable{w w':World}{F S:Nat->Prop}{c k:Nat}{G:GS}{m:CM}{K:Value->World->Prop}
theorem zn(h:CV w F c k G m)(hD:G.D.length<=5000){a b:HT}(ha:a∈ids G.D){l:List HT}(hc:cM G.D G.P a l)(hK:∀w',Kept Nil w w'->K (.int .i64 ((lj m.sz l b:Nat):Int)) w'):
 bm prog aS.id #[.pointer (some ⟨c,0,none⟩),.agg a.1,.agg b.1] w K:=by
 have W:=h.iP.W;have H:=h.iP.lZ;have RY:∀y∈l,y∈ids G.D:=fun y hy=>((hc.mem W H).1 hy).mem.1;refine aS.of ?_;unfold aS.W;intro w4 w5 w6 w7 w8;have k4:Kept Nil w w4:=(Kept.refl _ _).alloc _;have IT:w4.heap[w.heap.size]? =some (.cells #[.pointer (some ⟨c,0,none⟩)] cK (0,0)):=aR w _;have k5:Kept Nil w4 w5:=(Kept.refl _ _).alloc _;have Wh:w5.heap[w4.heap.size]? =some (.cells a.1 ax (0,0)):=aR w4 _;have k6:Kept Nil w5 w6:=(Kept.refl _ _).alloc _;have pQ:w6.heap[w5.heap.size]? =some (.cells b.1 ax (0,0)):=aR w5 _;have k7:Kept Nil w6 w7:=(Kept.refl _ _).alloc _;have Ix:w7.heap[w6.heap.size]? =some (.cells #[.int .i64 0] fC (0,0)):=aR w6 _;have k8:Kept Nil w7 w8:=(Kept.refl _ _).drew;clear_value w8;have RR:=k8.heap Ix (fun h=>h);have MA:=k8.heap (k7.heap pQ (fun h=>h)) (fun h=>h);have ha8:=k8.heap (k7.heap (k6.heap Wh (fun h=>h)) (fun h=>h)) (fun h=>h);have Zx:=k8.heap (k7.heap (k6.heap (k5.heap IT (fun h=>h)) (fun h=>h)) (fun h=>h)) (fun h=>h);have Ef:=(((k4.tt k5).tt k6).tt k7).tt k8;have s06:=(((k4.tt k5).tt k6)).size;have l7:=aZ Ix;have l8:=aZ RR;clear_value w7 w6 w5 w4;refine⟨some ⟨c,0,none⟩,by rw [aD Zx];rfl,_,(h.same Ef).c1,a.1,⟨a.2.1,Cells.bS ha8⟩,?_⟩;refine qO a fun gY pb qb lQ G6 G4 CZ hqb=>⟨_,rfl,?_⟩;have S9:=lQ.size;have Eg:=Ef.tt lQ;have KK:=lQ.heap RR (fun h=>h)
 let zq:Value:=.func (.func aP.id) #[] #[.pointer (some ⟨pb,0,none⟩),.pointer (some ⟨qb,0,none⟩)]
 let ρ0:Env:= [(3,.pointer (some ⟨w.heap.size,0,none⟩)),(5,.pointer (some ⟨w5.heap.size,0,none⟩)),(6,.pointer (some ⟨w6.heap.size,0,none⟩)),(15,zq)]
 let J:Nat->World->Prop:=fun j u=>Kept Nil gY u/\j<=l.length/\∀y∈l.take j,m.sz y b=none
 let Jd:Code->World->Prop:=fun e u=>e=.ret/\Kept (fun k=>k=w6.heap.size) gY u/\∃n:Nat,(l.findSome? fun y=>m.sz y b)=some n/\u.heap[w6.heap.size]? =some (.cells #[.int .i64 (n:Int)] fC (0,0))
 have k0J:∀ {u:World},Kept Nil gY u->Kept Nil w u:=fun k=>Eg.tt k;have kS:∀ {v:World},Kept (fun k=>k=w6.heap.size) gY v->Kept Nil w v:=fun k=>Eg.trans k (fun k hk e=>by omega);obtain⟨mx,W7,_⟩:=(h.same Eg).X
 change Holds none [] prog _ _ _ ρ0 gY
 refine mu (n:=33) (ρ:=ρ0) (ρ0:=ρ0) ng mix aS.k (t:=15) (ps:= #[16]) (by kernel_rfl) (by decide) rfl aP.at_ rfl (.inl rfl) (fun i x hi hx=>hx) rfl pV l (fun _=>rfl) (fun q hq=>by
  have WY:q=16:=by simpa using hq
  subst WY;exact⟨by decide,by decide⟩) (z6 (F:=m.FX) (x:=m.x) (m:=mx) (pb:=pb) (qb:=qb) hc (by omega)) J Jd ?_ ?_ (fun j u hJ=>⟨W7.same hJ.1,hJ.1.heap G6 (fun h=>h),hJ.1.heap G4 (fun h=>h)⟩) ?_ ?_ ?_ ?_ ?_
 ·rintro j u1 u2 R o4 ⟨h1,h2,h3⟩ mZ
  exact⟨h1.trans mZ (fun k hk e=>by omega),h2,h3⟩
 ·rintro e u1 u2 R o4 ⟨h1,h2,n,h3,h4⟩ mZ
  exact⟨h1,h2.trans mZ (fun k hk e=>by omega),n,h3,mZ.heap h4 (by omega)⟩
 ·intro R
  exact⟨(((Kept.refl _ _).alloc _).alloc _),Nat.zero_le _,by simp⟩
 ·rintro j z u1 R hz ⟨h1,h2,h3⟩ o4
  have e7:jX ρ0 ((#[16]:Array Nat).toList.zip (pV z))= [(3,.pointer (some ⟨w.heap.size,0,none⟩)),(5,.pointer (some ⟨w5.heap.size,0,none⟩)),(6,.pointer (some ⟨w6.heap.size,0,none⟩)),(15,zq),(16,.agg z.1)]:=rfl;rw [e7,aS.a1];have tM:=(lgeS hz).1;unfold aS.A1;intro w43;obtain⟨ry,jw,jg⟩:=gg (w:=u1) (z:=fG.1) (cs:=z.1) (t:=ax) (by rw [z.2.1];rfl);refine⟨⟨z.2.1,z.2.one,fun j hj=>ry j (by rw [z.2.1];exact hj)⟩,?_⟩;intro HU
  replace jw:HU.heap[u1.heap.size]? =some (.cells z.1 ax (0,0)):=jw
  replace jg:Kept Nil u1 HU:=jg
  clear_value HU;have EE:=o4.aK jg (fun h=>h) (fun h=>h);refine⟨EE,fun w2 R2 mP vB=>?_⟩;have oz:=mP.heap jw (jG jw EE.loop);have tV:Kept Nil gY w2:=(h1.tt jg).trans mP (fun k hk e=>by omega);rw [aS.y1];unfold aS.Y1;intro MV;have TE:Kept Nil w2 MV:=(Kept.refl _ _).drew;clear_value MV;have Pt:=vB.aK TE (fun h=>h) (fun h=>h);have xm:=tV.tt TE;have JS:=lQ.tt xm;have WH:=h.same (Ef.tt JS);obtain⟨A1,n1,c1,B1,m1,d1,s1,sa⟩:=WH.seen z (RY z (List.mem_of_getElem? hz));refine⟨some ⟨c,0,none⟩,by rw [aD (JS.heap Zx (fun h=>h))];rfl,_,WH.c2,z.1,⟨z.2.1,Cells.bS (TE.heap oz (fun h=>h))⟩,_,WH.oL (RY z (List.mem_of_getElem? hz)),_,sa.c35,b.1,⟨b.2.1,Cells.bS (JS.heap MA (fun h=>h))⟩,_,_,sa.sz.Ao b,?_⟩;cases Yp:m.sz z b with
  |some n=>
   refine Split.yes rfl ⟨dK (xm.heap KK (fun h=>h)) (by simp),?_⟩;intro oP;have KI:oP.heap[w6.heap.size]? =some (.cells #[.int .i64 (n:Int)] fC (0,0)):=by
    show(MV.setCell ⟨w6.heap.size,0,none⟩ (.int .i64 (n:Int))).heap[w6.heap.size]? =_;rw [cX (xm.heap KK (fun h=>h)) 0];rfl
   have B9:Kept (· =w6.heap.size) MV oP:=Kept.setCell (S:=fun k=>k=w6.heap.size) (Kept.refl _ MV) (p:=⟨w6.heap.size,0,none⟩) (fun _=>rfl) _;clear_value oP;exact⟨Pt.aK B9 (fun e=>by omega) (fun e=>by omega),rfl,(xm.mono fun _ _ h=>h.elim).tt B9,n,qZ hz h3 Yp,KI⟩
  |none=>
   refine Split.no rfl ⟨Pt,xm,tM,fun y hy=>?_⟩;rcases(bJ hz).1 hy with hy|rfl
   ·exact h3 y hy
   ·exact Yp
 ·rintro u1 R ⟨h1,h2,h3⟩ o4
  rw [List.take_of_length_le (Nat.le_refl _)]at h3;have e7:gh ρ0 gY.heap.size= [(3,.pointer (some ⟨w.heap.size,0,none⟩)),(5,.pointer (some ⟨w5.heap.size,0,none⟩)),(6,.pointer (some ⟨w6.heap.size,0,none⟩)),(15,zq),(4294967296,.agg (oV [gY.heap.size]))]:=rfl;rw [e7,aS.jy];unfold aS.iG;have qA:=h1.heap KK (fun h=>h);refine⟨dK qA (by simp),?_⟩;intro oP;have KI:oP.heap[w6.heap.size]? =some (.cells #[.int .i64 0] fC (0,0)):=by
   show(u1.setCell ⟨w6.heap.size,0,none⟩ (.int .i64 0)).heap[w6.heap.size]? =_;rw [cX qA 0];rfl
  have B9:Kept (· =w6.heap.size) u1 oP:=Kept.setCell (S:=fun k=>k=w6.heap.size) (Kept.refl _ u1) (p:=⟨w6.heap.size,0,none⟩) (fun _=>rfl) _;clear_value oP;have o4:=o4.aK B9 (fun e=>by omega) (fun e=>by omega);rw [lP];have kt:=jl [gY.heap.size] oP;have hm:∀E∈ [gY.heap.size],oP.heap[E]? =some (.deferred (some [])):=fun E hE=>by
   rw [List.mem_singleton]at hE;subst hE;exact o4.mark
  refine⟨kP [gY.heap.size] oP (by simp) hm,0,by rw [aD (kt.heap KI (fun hE=>by rw [List.mem_singleton]at hE;omega))];rfl,?_⟩;have e0:lj m.sz l b=0:=by
   unfold lj;have:(l.findSome? fun h=>m.sz h b)=none:=List.findSome?_eq_none_iff.2 h3;rw [this];rfl
  have:=hK (fi [gY.heap.size] oP) ((kS ((h1.mono fun _ _ h=>h.elim).tt B9)).trans kt (fun k hk hE=>by rw [List.mem_singleton]at hE;have:=Eg.size;omega));rw [e0]at this;exact this
 ·rintro u1 R ⟨_,h2,n,h3,h4⟩ o4
  have e7:gh ρ0 gY.heap.size= [(3,.pointer (some ⟨w.heap.size,0,none⟩)),(5,.pointer (some ⟨w5.heap.size,0,none⟩)),(6,.pointer (some ⟨w6.heap.size,0,none⟩)),(15,zq),(4294967296,.agg (oV [gY.heap.size]))]:=rfl;rw [e7,aS.yh];unfold aS.tK;rw [lP];have kt:=jl [gY.heap.size] u1;have hm:∀E∈ [gY.heap.size],u1.heap[E]? =some (.deferred (some [])):=fun E hE=>by
   rw [List.mem_singleton]at hE;subst hE;exact o4.mark
  refine⟨kP [gY.heap.size] u1 (by simp) hm,(n:Int),by rw [aD (kt.heap h4 (fun hE=>by rw [List.mem_singleton]at hE;omega))];rfl,?_⟩;have e0:lj m.sz l b=n:=by unfold lj;rw [h3];rfl
  have:=hK (fi [gY.heap.size] u1) ((kS h2).trans kt (fun k hk hE=>by rw [List.mem_singleton]at hE;have:=Eg.size;omega));rw [e0]at this;exact this
 ·rintro id u1 R ⟨e,_⟩ o4
  cases e
end
section
variable{w:World}
theorem xQ{x:HT}:∀ {l:List (HT×Value)},assoc x l≠none↔x∈l.map (·.1)
 | []=>by simp [assoc]
 |(y,v)::l=>by
  have:=xQ (x:=x) (l:=l);unfold assoc;by_cases e:x=y
  ·subst e;simp
  ·rw [if_neg e,this]
   simp only [List.map_cons,List.mem_cons];exact⟨.inr,fun h=>h.resolve_left e⟩
theorem dW.len{mt te:TypeId}{z:Value}(T:uw mt te z){m:Nat}{f:HT->Option Value}(hm:dW w m f)(ty:TypeId){l:List HT}(hn:l.Nodup)(hl:∀x,f x≠none↔x∈l):
 (Builtin.len_ #[mt] ty #[.map (some m)]).run prog w=.ok (.int .i64 (l.length:Int)) w:=by
 obtain⟨es,clock,l',h1,h2,h3,_,_,h6⟩:=hm.ex;have e1:es.size=l'.length:=by have:=h2.len;simpa using this
 have e2:l'.length=l.length:=by
  have hp:(l'.map (·.1)).Perm l:=(List.perm_ext_iff_of_nodup h6 hn).2 fun x=>by rw [<-xQ,h3,hl]
  simpa using hp.length_eq
 simp [Builtin.len_,run_underlying T.mY,nR h1,goInt,Result.andThen,e1,e2]
end
section
variable{w w':World}{F S:Nat->Prop}{c k:Nat}{G:GS}{m:CM}{K:Value->World->Prop}
structure VB(w:World)(c:Nat)(s:HT)(bs bc bh q sm:Nat)(ov:HT->Option Nat):Prop where
 hs:w.heap[bs]? =some (.cells #[.pointer (some ⟨q,0,none⟩)] dO (0,0))
 hc:w.heap[bc]? =some (.cells #[.pointer (some ⟨c,0,none⟩)] cK (0,0))
 hh:w.heap[bh]? =some (.cells s.1 ax (0,0))
 sz:w.cell? ((⟨q,0,none⟩:Addr).add 35)=some (.map (some sm))
 ov:dW w sm (Gr ov)
theorem VB.aK{S:Nat->Prop}{s:HT}{bs bc bh q sm:Nat}{ov:HT->Option Nat}(h:VB w c s bs bc bh q sm ov)(hk:Kept S w w')(h1:¬S bs)(h2:¬S bc)(h3:¬S bh)(h4:¬S q)(h5:¬S sm):VB w' c s bs bc bh q sm ov:=
 ⟨hk.heap h.hs h1,hk.heap h.hc h2,hk.heap h.hh h3,hk.cell h.sz h4,h.ov.aK hk h5⟩
theorem VB.same{s:HT}{bs bc bh q sm:Nat}{ov:HT->Option Nat}(h:VB w c s bs bc bh q sm ov)(hk:Kept Nil w w'):VB w' c s bs bc bh q sm ov:=h.aK hk (fun h=>h) (fun h=>h) (fun h=>h) (fun h=>h) (fun h=>h)
theorem xD(h:CV w F c k G m)(hD:G.D.length<=5000){s b:HT}(hs:s∈ids G.D){l:List HT}(hc:cM G.D G.P s l){bs bc bh q sm:Nat}{ov:HT->Option Nat}(V:VB w c s bs bc bh q sm ov)
 (hK:∀w',Kept Nil w w'->K (.int .i64 ((pK ov (lj m.sz l) b:Nat):Int)) w'):
 bm prog bI.id #[.agg b.1,.pointer (some ⟨bs,0,none⟩),.pointer (some ⟨bc,0,none⟩),.pointer (some ⟨bh,0,none⟩)] w K:=by
 refine bI.of ?_;unfold bI.W;intro w4 w5;have k4:Kept Nil w w4:=(Kept.refl _ _).alloc _;have AS:w4.heap[w.heap.size]? =some (.cells b.1 ax (0,0)):=aR w _;have k5:Kept Nil w4 w5:=(Kept.refl _ _).drew;clear_value w5;have vG:=k5.heap AS (fun h=>h);have pg:=k4.tt k5;have V5:=V.same pg;refine⟨some ⟨q,0,none⟩,by rw [aD V5.hs];rfl,_,V5.sz,b.1,⟨b.2.1,Cells.bS vG⟩,?_⟩;have lk:=V5.ov.Ao pI b;unfold Gr at lk;cases hb:ov b with
 |some n=>
  rw [hb]at lk;refine⟨(n:Int),true,lk,Split.yes rfl ?_⟩;have:=hK w5 pg;unfold pK at this;rw [hb]at this;exact this
 |none=>
  rw [hb]at lk;refine⟨0,false,lk,Split.no rfl ⟨some ⟨c,0,none⟩,by rw [aD V5.hc];rfl,s.1,⟨s.2.1,Cells.bS V5.hh⟩,b.1,⟨b.2.1,Cells.bS vG⟩,?_⟩⟩;refine zn (h.same pg) hD hs hc fun w7 k7=>⟨_,rfl,?_⟩;have:=hK w7 (pg.tt k7);unfold pK at this;rw [hb]at this;exact this
def vV(w:World)(fm:Nat)(kn:HT->Nat)(done:List HT):Prop:=dW w fm fun y=>if y∈done then some (.int .i64 (kn y:Int))else none
theorem xB(h:CV w F c k G m)(hD:G.D.length<=5000)(rP:k<=1000){s b:HT}(hs:s∈ids G.D){l:List HT}(hc:cM G.D G.P s l){bs bc bh q sm kb fb fm:Nat}{ov:HT->Option Nat}(V:VB w c s bs bc bh q sm ov)
 (IK:w.heap[kb]? =some (.cells #[.func (.func bI.id) #[] #[.pointer (some ⟨bs,0,none⟩),.pointer (some ⟨bc,0,none⟩),.pointer (some ⟨bh,0,none⟩)]] dR (0,0)))
 (Mx:w.heap[fb]? =some (.cells #[.map (some fm)] b0 (0,0))) {done:List HT} (hn:done.Nodup) (VT:b∉done) (hF:vV w fm (pK ov (lj m.sz l)) done) (hfo:¬m.own c fm) (Vx:¬F fm) (fH:bc≠fm)
 (hK:∀w' (r:Bool),r=pF k (pK ov (lj m.sz l)) done b->vV w' fm (pK ov (lj m.sz l)) (done++ [b])->Kept (· =fm) w w'->K (.bool r) w'):
 bm prog bZ.id #[.agg b.1,.pointer (some ⟨kb,0,none⟩),.pointer (some ⟨fb,0,none⟩),.pointer (some ⟨bc,0,none⟩)] w K:=by
 have X3:=hF.lt;refine bZ.of ?_;unfold bZ.W;intro w4 w5;have k4:Kept Nil w w4:=(Kept.refl _ _).alloc _;have AS:w4.heap[w.heap.size]? =some (.cells b.1 ax (0,0)):=aR w _;have k5:Kept Nil w4 w5:=(Kept.refl _ _).drew;clear_value w5;have vG:=k5.heap AS (fun h=>h);have pg:=k4.tt k5;have hnf:fb≠fm:=fun e=>by subst e;obtain⟨es,cl,_,h1,_⟩:=hF.ex;rw [Mx]at h1;cases h1
 refine⟨some fm,by rw [aD (pg.heap Mx (fun h=>h))];rfl,b.1,⟨b.2.1,Cells.bS vG⟩,_,by rw [aD (pg.heap IK (fun h=>h))];rfl,b.1,⟨b.2.1,Cells.bS vG⟩,?_⟩;refine⟨_,_,_,_,rfl,bI.at_,rfl,?_⟩;refine xD (h.same pg) hD hs hc (V.same pg) fun w7 k7=>⟨_,rfl,⟨b.1,rfl,b.2.1,Cells.bS (k7.heap vG (fun h=>h))⟩,?_,?_⟩
 ·rw [aD ((pg.tt k7).heap Mx (fun h=>h))];rfl
 have uU:=pg.tt k7;obtain⟨w8,RR,hm8,k8⟩:=(hF.same uU).put pI b (.int .i64 ((pK ov (lj m.sz l) b:Nat):Int));refine⟨w8,RR,?_⟩;intro w9;have k9:Kept Nil w8 w9:=(Kept.refl _ _).drew;clear_value w9;have Yh:Kept (· =fm) w7 w9:=k8.trans k9 (fun _ _ h=>h.elim);have Ee:Kept (· =fm) w w9:=(uU.mono fun _ _ h=>h.elim).tt Yh;have MD:vV w9 fm (pK ov (lj m.sz l)) (done++ [b]):=by
  refine dW.same ?_ k9;have e:(fun y=>if y∈done++ [b]then some (Value.int .i64 ((pK ov (lj m.sz l) y:Nat):Int))else none)=fun x=>if x=b then some (.int .i64 ((pK ov (lj m.sz l) b:Nat):Int))else if x∈done then some (.int .i64 ((pK ov (lj m.sz l) x:Nat):Int))else none:=by
   funext y
   by_cases e:y=b
   ·subst e;rw [if_pos (by simp),if_pos rfl]
   ·rw [if_neg e]
    by_cases hy:y∈done
    ·rw [if_pos (List.mem_append_left _ hy),if_pos hy]
    ·rw [if_neg (by simp [hy,e]),if_neg hy]
  rw [e];exact hm8
 have hb9:w9.heap[w.heap.size]? =some (.cells b.1 ax (0,0)):=((k7.mono fun _ _ h=>h.elim).tt Yh:Kept (· =fm) w5 w9).heap vG (by omega);have PZ:=Ee.heap Mx hnf;have gP:(done++ [b]).Nodup:=List.nodup_append.2 ⟨hn,by simp,fun x hx y hy e=>by
  have:y=b:=by simpa using hy
  subst this;subst e;exact VT hx⟩
 have h9:CV w9 F c k G m:=h.aK Ee (fun j hj e=>by subst e;exact hfo hj) (fun j hj e=>by subst e;exact Vx hj);have Zw:w9.heap[bc]? =some (.cells #[.pointer (some ⟨c,0,none⟩)] cK (0,0)):=Ee.heap V.hc fH;refine⟨some fm,by rw [aD PZ];rfl,(done++ [b]).length,MD.len pI fC gP (fun x=>by
  by_cases hx:x∈done++ [b]
  ·rw [if_pos hx];exact⟨fun _=>hx,fun _ e=>by cases e⟩
  ·rw [if_neg hx];exact⟨fun e=>absurd rfl e,fun e=>absurd e hx⟩),some ⟨c,0,none⟩,by rw [aD Zw];rfl,(k:Int),h9.c0,?_⟩
 refine Split.dec (fun h1=>?_) (fun h1=>?_)
 ·have lk:=dW.look pI MD b
  rw [if_pos (by simp)]at lk;refine⟨some fm,by rw [aD PZ];rfl,b.1,⟨b.2.1,Cells.bS hb9⟩,_,lk,some ⟨c,0,none⟩,by rw [aD Zw];rfl,(k:Int),h9.c0,?_⟩;refine hK w9 _ ?_ MD Ee;unfold pF;rw [List.length_append,List.length_cons,List.length_nil]at h1;refine decide_eq_decide.2 ⟨fun h2=>⟨by omega,by omega⟩,fun h2=>by omega⟩
 ·refine hK w9 false ?_ MD Ee
  unfold pF;rw [List.length_append,List.length_cons,List.length_nil]at h1;exact(decide_eq_false (by omega)).symm
end
structure PN where
 bs:Nat
 bc:Nat
 bh:Nat
 q:Nat
 sm:Nat
 kb:Nat
 fb:Nat
 fm:Nat
 yb:Nat
 hb:Nat
def PN.zq(p:PN):Value:=.func (.func bZ.id) #[] #[.pointer (some ⟨p.kb,0,none⟩),.pointer (some ⟨p.fb,0,none⟩),.pointer (some ⟨p.bc,0,none⟩)]
def PN.ko(p:PN)(j:Nat):Prop:=p.bs≠j/\p.bc≠j/\p.bh≠j/\p.q≠j/\p.sm≠j/\p.kb≠j/\p.fb≠j
structure PG(w:World)(F:Nat->Prop)(c k:Nat)(G:GS)(m:CM)(s h:HT)(p:PN)(ov:HT->Option Nat):Prop where
 C:CV w F c k G m
 V:VB w c s p.bs p.bc p.bh p.q p.sm ov
 kb:w.heap[p.kb]? =some (.cells #[.func (.func bI.id) #[] #[.pointer (some ⟨p.bs,0,none⟩),.pointer (some ⟨p.bc,0,none⟩),.pointer (some ⟨p.bh,0,none⟩)]] dR (0,0))
 fb:w.heap[p.fb]? =some (.cells #[.map (some p.fm)] b0 (0,0))
 yb:w.cell? ⟨p.yb,0,none⟩=some p.zq
 hb:w.heap[p.hb]? =some (.cells h.1 ax (0,0))
 fo:¬m.own c p.fm
 ff:¬F p.fm
 ko:p.ko p.fm
 y:p.yb≠p.fm
 h:p.hb≠p.fm
section
variable{w w' u:World}{F:Nat->Prop}{c k:Nat}{G:GS}{m:CM}{s h:HT}{p:PN}{ov:HT->Option Nat}{K:Value->World->Prop}
theorem PG.aK(B:PG w F c k G m s h p ov)(hk:Kept (· =p.fm) w w'):PG w' F c k G m s h p ov:=by
 obtain⟨f1,f2,f3,f4,f5,f6,f7⟩:=B.ko;exact⟨B.C.aK hk (fun j hj e=>by subst e;exact B.fo hj) (fun j hj e=>by subst e;exact B.ff hj),B.V.aK hk f1 f2 f3 f4 f5,hk.heap B.kb f6,hk.heap B.fb f7,hk.cell B.yb B.y,hk.heap B.hb B.h,B.fo,B.ff,B.ko,B.y,B.h⟩
theorem PG.same(B:PG w F c k G m s h p ov)(hk:Kept Nil w w'):PG w' F c k G m s h p ov:=B.aK (hk.mono fun _ _ h=>h.elim)
theorem qq(B:PG w F c k G m s h p ov)(hD:G.D.length<=5000)(rP:k<=1000)(hs:s∈ids G.D){l:List HT}(hc:cM G.D G.P s l){done:List HT}(hF:vV w p.fm (pK ov (lj m.sz l)) done){b:HT}{zb:Nat}
 (hz:w.heap[zb]? =some (.cells b.1 ax (0,0))) (hzf:zb≠p.fm) (hn:nn G.D b h->(done++ [b]).Nodup) {A T:World->Prop}
 (hA:∀u,nn G.D b h->pF k (pK ov (lj m.sz l)) done b=false->Kept (· =p.fm) w u->A u)
 (hT:∀u u9,u9=done++(if nn G.D b h then [b]else [])->(nn G.D b h->pF k (pK ov (lj m.sz l)) done b=true)->vV u p.fm (pK ov (lj m.sz l)) u9->Kept (· =p.fm) w u->T u):
 bm prog cH.id #[.pointer (some ⟨c,0,none⟩),.agg b.1,.agg h.1] w fun x y=>∃z:Bool,x=.bool z/\Split z (∃a1:Value,y.cell? ⟨p.yb,0,none⟩=some a1/\∃b1:Array Value,(b1.size=32/\Cells y ⟨zb,0,none⟩ b1)/\
  ∃(c1:Nat) (d1 e1:Array Value) (f1:Func),(a1:Value)=.func (.func c1) d1 e1/\prog.funcs[c1]? =some f1/\f1.body.isSome=true/\
   bm prog c1 (d1.toList++([.agg b1]:List Value)++e1.toList).toArray y fun g1 i1=>∃j1:Bool,g1=.bool j1/\Split (!j1) (A i1) (T i1)) (T y):=by
 refine xE B.C hD b h fun y r hr ky=>⟨r,rfl,?_⟩;have X5:Kept (· =p.fm) w y:=ky.mono fun _ _ h=>h.elim;have By:=B.same ky;cases r with
 |false=>
  have KO:¬nn G.D b h:=fun e=>by have:=hr.2 e;cases this
  exact Split.no rfl (hT y done (by rw [if_neg KO,List.append_nil]) (fun e=>absurd e KO) (hF.same ky) X5)
 |true=>
  have ha:=hr.1 rfl;have gP:=hn ha;rw [List.nodup_append]at gP;refine Split.yes rfl ⟨_,By.yb,b.1,⟨b.2.1,Cells.bS (ky.heap hz (fun h=>h))⟩,_,_,_,_,rfl,bZ.at_,rfl,?_⟩;refine xB By.C hD rP hs hc By.V By.kb By.fb gP.1 (fun e=>gP.2.2 b e b (by simp) rfl) (hF.same ky) B.fo B.ff B.ko.2.1 fun v r hr hv kv=>⟨r,rfl,?_⟩;have Ya:Kept (· =p.fm) w v:=X5.tt kv;cases r with
  |false=>exact Split.yes rfl (hA v ha hr.symm Ya)
  |true=>exact Split.no rfl (hT v (done++ [b]) (by rw [if_pos ha]) (fun _=>hr.symm) hv Ya)
end
structure PG0(w:World)(F:Nat->Prop)(c k:Nat)(G:GS)(m:CM)(s:HT)(p:PN)(ov:HT->Option Nat):Prop where
 C:CV w F c k G m
 V:VB w c s p.bs p.bc p.bh p.q p.sm ov
 kb:w.heap[p.kb]? =some (.cells #[.func (.func bI.id) #[] #[.pointer (some ⟨p.bs,0,none⟩),.pointer (some ⟨p.bc,0,none⟩),.pointer (some ⟨p.bh,0,none⟩)]] dR (0,0))
 fb:w.heap[p.fb]? =some (.cells #[.map (some p.fm)] b0 (0,0))
 fo:¬m.own c p.fm
 ff:¬F p.fm
 ko:p.ko p.fm
theorem eh:∀ {l m:List HT},l.Nodup->(∀x∈l,x∈m)->l.length<=m.length
 | [],_,_,_=>Nat.zero_le _
 |x::l,m,hn,hm=>by
  rw [List.nodup_cons]at hn;have hx:=hm x List.mem_cons_self;have:=eh (m:=m.erase x) hn.2 fun y hy=>(List.mem_erase_of_ne (fun e=>hn.1 (by rw [<-e];exact hy))).2 (hm y (List.mem_cons_of_mem _ hy));rw [List.length_erase_of_mem hx]at this;have h0:=List.length_pos_of_mem hx;rw [List.length_cons];omega
theorem HS.get_mem{w:World}{A:Option Addr}{n:Nat}{l:List HT}(hl:HS w A n l){i:Nat}(hi:i<n):∃y,l[i]? =some y:=⟨_,List.getElem?_eq_getElem (by have:=hl.len;omega)⟩
theorem wK{D:DG}{l:List HT}{h x:HT}{i:Nat}(hx:l[i]? =some x):bY D (l.take (i+1)) h=bY D (l.take i) h++if nn D x h then [x]else []:=by
 have e:l.take (i+1)=l.take i++ [x]:=by rw [List.take_add_one,hx];rfl
 rw [e,fw]
 congr 1
 unfold bY;by_cases hp:nn D x h
 ·rw [if_pos hp,List.filter_cons_of_pos (by simpa using hp)];rfl
 ·rw [if_neg hp,List.filter_cons_of_neg (by simpa using hp)];rfl
theorem zG{m:List HT}{b:List Bool}{x:HT}{y:Bool}{i:Nat}(hx:m[i]? =some x)(hy:b[i]? =some y):dL (m.drop i) (b.drop i)=(if y then [x]else [])++dL (m.drop (i+1)) (b.drop (i+1)):=by
 obtain⟨hi,ex⟩:=lgeS hx;obtain⟨hj,ey⟩:=lgeS hy;rw [List.drop_eq_getElem_cons hi,List.drop_eq_getElem_cons hj,ex,ey];cases y<;>rfl
theorem kW(c:rl)(A:Option Addr)(n cp:Nat)(B:Option Addr)(m cq:Nat):∀v∈(dS c A n cp B m cq).toList,v.oneCell'=true:=by
 intro v hv;unfold dS at hv;rw [Array.toList_append,List.mem_append]at hv;rcases hv with hv|hv
 ·exact c.lZ.2.one v hv
 ·simp only [List.mem_cons,List.not_mem_nil,or_false]at hv
  rcases hv with rfl|rfl|rfl<;>rfl
section
variable{w w':World}{F:Nat->Prop}{c k:Nat}{G:GS}{m:CM}{s:HT}{p:PN}{ov:HT->Option Nat}{K:Value->World->Prop}
theorem zK{kn:HT->Nat}{done rest ju:List HT}{b:HT}(e:done++b::rest=ju)(h:pF k kn done b=false):dN k kn [] ju=false:=by
 rw [<-e,kY,List.nil_append,dN,h,Bool.false_and,Bool.and_false]
theorem vR{kn:HT->Nat}{done:List HT}{b:HT}(h:dN k kn [] done=true)(hb:pF k kn done b=true):dN k kn [] (done++ [b])=true:=by
 rw [kY,h,List.nil_append,dN,hb,Bool.true_and,Bool.true_and];rfl
theorem xC(B:PG0 w F c k G m s p ov)(hD:G.D.length<=5000)(rP:k<=1000)(hs:s∈ids G.D){l:List HT}(hc:cM G.D G.P s l){h:HT}{bb:Nat}{A:Option Addr}{n cx:Nat}{bl:List HT}
 (Cq:w.heap[bb]? =some (.cells #[.slice A n cx] aV (0,0))) (hbf:bb≠p.fm) (Cp:HS w A n bl) (ZN:∀a,A=some a->a.block≠p.fm) (hn:n<=10000) (hF:vV w p.fm (pK ov (lj m.sz l)) []) (uX:(mK G h bl l).Nodup)
 (hK:∀w' (r:Bool),r=dN k (pK ov (lj m.sz l)) [] (mK G h bl l)->(r=true->vV w' p.fm (pK ov (lj m.sz l)) (mK G h bl l))->Kept (· =p.fm) w w'->K (.bool r) w'):
 bm prog af.id #[.agg h.1,p.zq,.pointer (some ⟨bb,0,none⟩),.pointer (some ⟨p.bc,0,none⟩),.pointer (some ⟨p.bh,0,none⟩)] w K:=by
 have W:=B.C.iP.W;have H:=B.C.iP.lZ;have RY:∀y∈l,y∈ids G.D:=fun y hy=>((hc.mem W H).1 hy).mem.1;have hlen:=Cp.len;have X3:=hF.lt;refine af.of ?_;unfold af.W;intro w4 w5 w6;have k4:Kept Nil w w4:=(Kept.refl _ _).alloc _;have PJ:w4.heap[w.heap.size]? =some (.cells h.1 ax (0,0)):=aR w _;have k5:Kept Nil w4 w5:=(Kept.refl _ _).alloc _;obtain⟨ty,Yt⟩:∃ty:TypeId,w5.heap[w4.heap.size]? =some (.cells #[p.zq] ty (0,0)):=⟨_,aR w4 _⟩;have k6:Kept Nil w5 w6:=(Kept.refl _ _).alloc _;have RS:w6.heap[w5.heap.size]? =some (.cells #[.bool false] iX (0,0)):=aR w5 _;clear_value w6;have hy6:=k6.heap Yt (fun h=>h);have hh6:=k6.heap (k5.heap PJ (fun h=>h)) (fun h=>h);have qx:=(k4.tt k5).tt k6;have s4:=k4.size;have s5:=k5.size;have s6:=k6.size;have l4:=aZ PJ;have l5:=aZ Yt;have l6:=aZ RS;clear_value w5 w4;obtain⟨p',G8,uf,Cl,VX,VV⟩:∃p':PN,p'= {p with yb:=w4.heap.size,hb:=w.heap.size}/\p'.zq=p.zq/\p'.fm=p.fm/\p'.bc=p.bc/\p'.bh=p.bh:=⟨_,rfl,rfl,rfl,rfl,rfl⟩;have ZX:p'.yb=w4.heap.size:=by rw [G8]
 have Sp:p'.hb=w.heap.size:=by rw [G8]
 have B6:PG w6 F c k G m s h p' ov:=by
  rw [G8];exact⟨B.C.same qx,B.V.same qx,qx.heap B.kb (fun h=>h),qx.heap B.fb (fun h=>h),by show w6.cell? ⟨w4.heap.size,0,none⟩=_;rw [aD hy6];rfl,hh6,B.fo,B.ff,B.ko,(by show w4.heap.size≠p.fm;omega),(by show w.heap.size≠p.fm;omega)⟩
 generalize ud:pK ov (lj m.sz l)=kn at*;have hF6:vV w6 p'.fm kn []:=by rw [Cl];exact hF.same qx
 generalize iQ:mK G h bl l=ju at*;have o5:bY G.D bl h++v7 G h l=ju:=iQ;rw [<-Cl]at hbf ZN X3;have Ws:∀w' (r:Bool),r=dN k kn [] ju->(r=true->vV w' p'.fm kn ju)->Kept (· =p'.fm) w w'->K (.bool r) w':=by rw [Cl];exact hK
 have kA:∀ {v:World},Kept (· =p'.fm) w6 v->Kept (· =p'.fm) w v:=fun k=>(qx.mono fun _ _ h=>h.elim).tt k;have fin:∀ {v:World} (r:Bool),Kept (· =p'.fm) w6 v->∃u:World,u=v.setCell ⟨w5.heap.size,0,none⟩ (.bool r)/\Wr v ⟨w5.heap.size,0,none⟩/\u.heap[w5.heap.size]? =some (.cells #[.bool r] iX (0,0))/\Kept (· =w5.heap.size) v u:=fun {v} r kv=>by
  have hr:=kv.heap RS (by omega);refine⟨_,rfl,dK hr (by simp),?_,Kept.setCell (S:=fun k=>k=w5.heap.size) (Kept.refl _ v) (p:=⟨w5.heap.size,0,none⟩) (fun _=>rfl) _⟩;rw [cX hr 0];rfl
 have Tw:∀ {v u:World},Kept (· =p'.fm) w6 v->Kept (· =w5.heap.size) v u->Kept (· =p'.fm) w u:=fun kv ku=>⟨ku.os.trans (kA kv).os,ku.tape.trans (kA kv).tape,ku.output.trans (kA kv).output,Nat.le_trans (kA kv).size ku.size,fun j hj hn=>by rw [ku.block j (Nat.lt_of_lt_of_le hj (kA kv).size) (by omega),(kA kv).block j hj hn]⟩;refine⟨A,n,cx,by rw [aD (qx.heap Cq (fun h=>h))];rfl,?_⟩;rw [<-VX,<-VV];refine af.cf (I:=fun s0 v=>∃i:Nat,s0=(i:Int)/\i<=n/\vV v p'.fm kn (bY G.D (bl.take i) h)/\dN k kn [] (bY G.D (bl.take i) h)=true/\Kept (· =p'.fm) w6 v) (μ:=fun s0 _=>((n:Int)-s0).toNat) (s:=0) ⟨0,rfl,Nat.zero_le _,hF6,rfl,Kept.refl _ _⟩ ?_;rintro s0 v ⟨i,rfl,hi,Wv,cO,kv⟩;have Bv:=B6.aK kv;refine Split.dec (fun lH=>?_) (fun iK=>?_)
 ·have fc:i<n:=by omega
  obtain⟨b,hb⟩:=Cp.get_mem fc;have VU:HS v A n bl:=Cp.aK (kA kv) ZN;refine VU.load (i:=(i:Int)) (by omega) hb ?_;intro p6;obtain⟨ry,jw,jg⟩:=gg (w:=v) (z:=fG.1) (cs:=b.1) (t:=ax) (by rw [b.2.1];rfl);refine⟨⟨b.2.1,b.2.one,fun j hj=>ry j (by rw [b.2.1];exact hj)⟩,?_⟩;intro lu
  replace jw:lu.heap[v.heap.size]? =some (.cells b.1 ax (0,0)):=jw
  replace jg:Kept Nil v lu:=jg
  clear_value lu;have sv:=(kA kv).size;have LV:=Bv.same jg;have e1:=wK (D:=G.D) (h:=h) hb;have e2:∃rest,bY G.D (bl.take i) h++(if nn G.D b h then [b]else [])++rest=ju:=by
   refine⟨bY G.D (bl.drop (i+1)) h++v7 G h l,?_⟩;rw [<-e1,<-o5,<-List.append_assoc,<-fw,List.take_append_drop]
  obtain⟨rest,e2⟩:=e2;refine⟨some ⟨c,0,none⟩,by rw [aD LV.V.hc];rfl,b.1,⟨b.2.1,Cells.bS jw⟩,h.1,⟨h.2.1,by have:=LV.hb;rw [Sp]at this;exact Cells.bS this⟩,?_⟩;rw [<-ZX];refine qq LV hD rP hs hc (done:=bY G.D (bl.take i) h) (by rw [ud];exact Wv.same jg) jw (by omega) (fun ha=>by
   rw [if_pos ha]at e2;rw [<-e2]at uX;exact(List.nodup_append.1 uX).1) ?_ ?_
  ·intro u ha hp ku
   rw [ud]at hp;have Ry:Kept (· =p'.fm) w6 u:=(kv.trans jg (fun _ _ h=>h.elim)).tt ku;obtain⟨u',eu,hw,OD,kuu⟩:=fin false Ry;refine⟨hw,?_⟩;intro L4;have e30:L4=u':=eu.symm;rw [gF,af.yi,e30];rw [if_pos ha,List.append_assoc]at e2;exact⟨false,by rw [aD OD];rfl,Ws u' false (zK e2 hp).symm (fun e=>by cases e) (Tw Ry kuu)⟩
  ·intro u u9 ed hp I6 ku
   rw [ud]at hp I6;have Ry:Kept (· =p'.fm) w6 u:=(kv.trans jg (fun _ _ h=>h.elim)).tt ku;rw [eJ (n:=(i:Int)) (by omega) (by omega)];refine⟨(i:Int)+1,rfl,⟨i+1,rfl,fc,?_,?_,Ry⟩,by simp only;omega⟩
   ·rw [e1,<-ed];exact I6
   ·rw [e1]
    by_cases ha:nn G.D b h
    ·rw [if_pos ha];exact vR cO (hp ha)
    ·rw [if_neg ha,List.append_nil];exact cO
 ·rw [aX,af.dA]
  rw [List.take_of_length_le (by omega)]at cO Wv;unfold af.cW;intro p9;have Aw:Kept Nil v p9:=(Kept.refl _ _).drew;clear_value p9;have Xr:=Bv.same Aw;refine⟨some ⟨c,0,none⟩,by rw [aD Xr.V.hc];rfl,_,Xr.C.c1,s.1,⟨s.2.1,Cells.bS Xr.V.hh⟩,?_⟩;refine qO s fun gY pb qb lQ G6 G4 CZ hqb=>⟨_,rfl,?_⟩;have JP:Kept Nil v gY:=Aw.tt lQ;have GF:Kept (· =p'.fm) w6 gY:=kv.trans JP (fun _ _ h=>h.elim);have B35:=Bv.same JP;have aay:=GF.size;have Wy:vV gY p'.fm kn (bY G.D bl h):=Wv.same JP
  let zq:Value:=.func (.func aP.id) #[] #[.pointer (some ⟨pb,0,none⟩),.pointer (some ⟨qb,0,none⟩)]
  let ρ0:Env:= [(3,.pointer (some ⟨p'.bc,0,none⟩)),(5,.pointer (some ⟨w.heap.size,0,none⟩)),(6,.pointer (some ⟨w4.heap.size,0,none⟩)),(7,.pointer (some ⟨w5.heap.size,0,none⟩)),(36,zq)]
  let J:Nat->World->Prop:=fun j u=>∃done:List HT,done++v7 G h (l.drop j)=ju/\vV u p'.fm kn done/\dN k kn [] done=true/\Kept (· =p'.fm) gY u/\j<=l.length
  let Jd:Code->World->Prop:=fun e u=>e=.ret/\∃r:Bool,u.heap[w5.heap.size]? =some (.cells #[.bool r] iX (0,0))/\r=dN k kn [] ju/\(r=true->vV u p'.fm kn ju)/\Kept (fun j=>j=p'.fm\/j=w5.heap.size) gY u
  have lpb:=aZ G6;have lqb:=aZ G4;have aax:=Aw.size;have svw:=(kA kv).size;obtain⟨mx,W7,YJ⟩:=B35.C.X;have XJ:∀ {u:World},Kept (· =p'.fm) gY u->XV u m.FX m.x G.D G.P mx:=fun k=>W7.aK k (fun j hj e=>by subst e;rw [Cl]at hj;exact B.fo (.inl (YJ _ hj))) (fun j hj e=>by subst e;rw [Cl]at hj;exact B.ff (B.C.fx _ hj))
  change Holds none [] prog _ _ _ ρ0 gY
  have out:∀ {u:World} {R:Loop} (r:Bool),Kept (· =p'.fm) gY u->Live (gY.heap.size+1) gY.heap.size R u->r=dN k kn [] ju->(r=true->vV u p'.fm kn ju)->Wr u ⟨w5.heap.size,0,none⟩/\∀u',u'=u.setCell ⟨w5.heap.size,0,none⟩ (.bool r)->Live (gY.heap.size+1) gY.heap.size R u'/\Jd .ret u':=fun {u R} r ku hl hr hf=>by
   obtain⟨u0,e0,t1,t2,t3⟩:=fin r (GF.tt ku);refine⟨t1,fun u' eu=>?_⟩;rw [eu,<-e0];refine⟨hl.aK t3 (by omega) (by omega),rfl,r,t2,hr,fun e=>(hf e).aK t3 (by omega),(ku.mono fun _ _ h=>.inl h).trans t3 (fun _ _ h=>.inr h)⟩
  refine mu (n:=90) (ρ:=ρ0) (ρ0:=ρ0) ng mix af.k (t:=36) (ps:= #[37]) (by kernel_rfl) (by decide) rfl aP.at_ rfl (.inl rfl) (fun i x hi hx=>hx) rfl pV l (fun _=>rfl) (fun q hq=>by
   have WY:q=37:=by simpa using hq
   subst WY;exact⟨by decide,by decide⟩) (z6 (F:=m.FX) (x:=m.x) (m:=mx) (pb:=pb) (qb:=qb) hc (by omega)) J Jd ?_ ?_ (fun j u ⟨done,_,_,_,kJ,_⟩=>⟨XJ kJ,kJ.heap G6 (by omega),kJ.heap G4 (by omega)⟩) ?_ ?_ ?_ ?_ ?_
  ·rintro j u1 u2 R o4 ⟨done,h1,h2,h3,h4,h5⟩ mZ
   exact⟨done,h1,h2.aK mZ (by omega),h3,h4.trans mZ (fun k hk e=>by omega),h5⟩
  ·rintro e u1 u2 R o4 ⟨h1,r,h2,h3,h4,h5⟩ mZ
   exact⟨h1,r,mZ.heap h2 (by omega),h3,fun e=>(h4 e).aK mZ (by omega),h5.trans mZ (fun k hk e=>by omega)⟩
  ·intro R
   have ka:Kept Nil gY ((gY.alloc (.deferred (some []))).alloc (.loop R)):=(((Kept.refl _ _).alloc _).alloc _);exact⟨bY G.D bl h,o5,Wy.same ka,cO,ka.mono fun _ _ h=>h.elim,Nat.zero_le _⟩
  ·rintro j z u1 R hz ⟨done,h1,h2,h3,h4,h5⟩ o4
   have e7:jX ρ0 ((#[37]:Array Nat).toList.zip (pV z))= [(3,.pointer (some ⟨p'.bc,0,none⟩)),(5,.pointer (some ⟨w.heap.size,0,none⟩)),(6,.pointer (some ⟨w4.heap.size,0,none⟩)),(7,.pointer (some ⟨w5.heap.size,0,none⟩)),(36,zq),(37,.agg z.1)]:=rfl;rw [e7,af.a1];have tM:=(lgeS hz).1;have Oj:=RY z (List.mem_of_getElem? hz);have Q2:l.drop j=z::l.drop (j+1):=by
    obtain⟨hi,e⟩:=lgeS hz;rw [List.drop_eq_getElem_cons hi,e]
   rw [Q2,v7]at h1;unfold af.A1;intro w43;obtain⟨ry,jw,jg⟩:=gg (w:=u1) (z:=fG.1) (cs:=z.1) (t:=ax) (by rw [z.2.1];rfl);refine⟨⟨z.2.1,z.2.one,fun j hj=>ry j (by rw [z.2.1];exact hj)⟩,?_⟩;intro HU
   replace jw:HU.heap[u1.heap.size]? =some (.cells z.1 ax (0,0)):=jw
   replace jg:Kept Nil u1 HU:=jg
   clear_value HU;have EE:=o4.aK jg (fun h=>h) (fun h=>h);refine⟨EE,fun w2 R2 mP vB=>?_⟩;have oz:=mP.heap jw (jG jw EE.loop);have aaA:=h4.size;have tV:Kept (· =p'.fm) gY w2:=(h4.trans jg (fun _ _ h=>h.elim)).trans mP (fun k hk e=>by omega);have Sd:vV w2 p'.fm kn done:=(h2.same jg).aK mP (by omega);have B2:=B35.aK tV;rw [af.y1];unfold af.Y1;have e2:∃rest,done++(if nn G.D z h then [z]else [])++rest=ju:=⟨_,(List.append_assoc _ _ _).trans h1⟩;obtain⟨rest,e2⟩:=e2;refine⟨some ⟨c,0,none⟩,by rw [aD B2.V.hc];rfl,z.1,⟨z.2.1,Cells.bS oz⟩,h.1,⟨h.2.1,by have:=B2.hb;rw [Sp]at this;exact Cells.bS this⟩,?_⟩;rw [<-ZX];refine qq B2 hD rP hs hc (done:=done) (by rw [ud];exact Sd) oz (by omega) (fun ha=>by
    rw [if_pos ha]at e2;rw [<-e2]at uX;exact(List.nodup_append.1 uX).1) ?_ ?_
   ·intro u ha hp ku
    rw [ud]at hp;rw [if_pos ha,List.append_assoc]at e2;obtain⟨o1,o2⟩:=out (u:=u) false (tV.tt ku) (vB.aK ku (by omega) (by omega)) (zK e2 hp).symm (fun e=>by cases e);refine⟨o1,?_⟩;intro SM;exact o2 SM rfl
   ·intro u u9 ed hp I6 ku
    rw [ud]at hp I6;have TF:=tV.tt ku;have Zb:=vB.aK ku (by omega) (by omega);have I4:dN k kn [] u9=true:=by
     rw [ed];by_cases ha:nn G.D z h
     ·rw [if_pos ha];exact vR h3 (hp ha)
     ·rw [if_neg ha,List.append_nil];exact h3
    rw [<-List.append_assoc,<-ed]at h1;intro SL;have Yj:Kept Nil u SL:=(Kept.refl _ _).drew;clear_value SL;have JW:Kept (· =p'.fm) w2 SL:=ku.trans Yj (fun _ _ h=>h.elim);have SB:=B2.aK JW;have TO:=JW.heap oz (by omega);obtain⟨mx1,X61,_⟩:=SB.C.X;refine⟨some ⟨c,0,none⟩,by rw [aD SB.V.hc];rfl,_,SB.C.c1,z.1,⟨z.2.1,Cells.bS TO⟩,h.1,⟨h.2.1,by have:=SB.hb;rw [Sp]at this;exact Cells.bS this⟩,?_⟩;refine jr X61 hD z h fun CP r hr B8=>⟨r,rfl,?_⟩;have GB:Kept Nil u CP:=Yj.tt B8;have Pn:=Zb.aK GB (fun h=>h) (fun h=>h);have NT:=TF.trans GB (fun _ _ h=>h.elim);have Ww:=I6.same GB;cases r with
    |true=>
     have ET:=hr.1 rfl;rw [if_pos ET,List.append_nil]at h1;obtain⟨o1,o2⟩:=out (u:=CP) true NT Pn (by rw [<-h1,I4]) (fun _=>by rw [<-h1];exact Ww);refine Split.yes rfl ⟨o1,?_⟩;intro Jp;exact o2 Jp rfl
    |false=>
     have O9:¬fD G.D z h:=fun e=>by have:=hr.2 e;cases this
     rw [if_neg O9]at h1;refine Split.no rfl ?_;intro Dd;have Ib:Kept Nil CP Dd:=(Kept.refl _ _).drew;clear_value Dd;have GO:Kept (· =p'.fm) w2 Dd:=JW.trans (B8.tt Ib) (fun _ _ h=>h.elim);have Rq:=B2.aK GO;have Ol:=GO.heap oz (by omega);obtain⟨A1,n1,c1,B1,m1,d1,s1,sa⟩:=Rq.C.seen z Oj;refine⟨some ⟨c,0,none⟩,by rw [aD Rq.V.hc];rfl,_,Rq.C.c2,z.1,⟨z.2.1,Cells.bS Ol⟩,_,Rq.C.oL Oj,_,⟨bX ..,sa.iR⟩,?_⟩;intro Xw;have Ty:Kept Nil Dd Xw:=(Kept.refl _ _).alloc _;obtain⟨Ku,xz,vD⟩:=gg (w:=Dd) (z:=zC) (cs:=dS (G.iR z) A1 n1 c1 B1 m1 d1) (t:=cB) (by rw [bX];rfl);have Xq:=Rq.same Ty;refine⟨⟨_,rfl,bX ..,(sa.aK Ty (fun _ _ h=>h)).iR⟩,Xq.C.oL Oj,⟨z.1,rfl,z.2.1,Cells.bS (Ty.heap Ol (fun h=>h))⟩,Xq.C.c2,by rw [aD Xq.V.hc];rfl,⟨bX ..,kW _ _ _ _ _ _ _,fun j hj=>Ku j (by rw [bX];exact hj)⟩,?_⟩;intro LX
     replace xz:LX.heap[Dd.heap.size]? =some (.cells (dS (G.iR z) A1 n1 c1 B1 m1 d1) cB (0,0)):=xz
     replace vD:Kept Nil Dd LX:=vD
     clear_value LX Xw;have NF:Kept Nil u LX:=GB.tt (Ib.tt vD);have NW:Kept (· =p'.fm) w2 LX:=GO.trans vD (fun _ _ h=>h.elim);have aaC:=NW.size;have aaD:=GO.size;have s2:=tV.size;have acN:=Zb.aK NF (fun h=>h) (fun h=>h);have S7:=sa.aK vD (fun _ _ h=>h);have Y5:=sa.mg.len;have Qj:=sa.bl.len;have Vx:∀j,F j->j≠p'.fm:=fun j hj e=>by rw [Cl]at e;subst e;exact B.ff hj
     have VL:=gL (G.iR z) A1 n1 c1 B1 m1 d1 #[];rw [Array.append_empty]at VL;refine⟨A1,n1,c1,by rw [bu,aD xz];exact VL.2.1,?_⟩;have Zd:(G.iR z).iJ.length=(G.iR z).merge.length:=by
      rcases(cM.ex H z)with⟨lz,cz⟩;rcases cz.inv W H Oj with⟨_,nd,h0,rfl⟩|⟨t,r',_,ow,_,_⟩
      ·obtain⟨r1,_⟩:=B.C.iP.root nd h0
       rw [r1];rfl
      ·exact(B.C.iP.up t z ow).2.2.1
     have FO:(G.iR z).merge.length<=G.D.length:=by
      have gP:(G.iR z).merge.Nodup/\∀y∈(G.iR z).merge,y∈ids G.D:=by
       rcases(cM.ex H z)with⟨lz,cz⟩;rcases cz.inv W H Oj with⟨_,nd,h0,rfl⟩|⟨t,r',_,ow,_,_⟩
       ·obtain⟨r1,_⟩:=B.C.iP.root nd h0
        rw [r1];exact⟨List.nodup_nil,fun y hy=>by cases hy⟩
       ·obtain⟨_,_,_,g1,g2⟩:=B.C.iP.up t z ow
        exact⟨g1,fun y hy=>(((g2 y).1 hy).1.mem W).1⟩
      have:=eh gP.1 gP.2
      rwa [jH]at this
     refine af.iN (I:=fun s0 v=>∃i:Nat,s0=(i:Int)/\i<=n1/\∃dn:List HT,dn++(bY G.D (dL ((G.iR z).merge.drop i) ((G.iR z).iJ.drop i)) h++v7 G h (l.drop (j+1)))=ju/\vV v p'.fm kn dn/\dN k kn [] dn=true/\Kept (· =p'.fm) LX v) (μ:=fun s0 _=>((n1:Int)-s0).toNat) (s:=0) ⟨0,rfl,Nat.zero_le _,u9,by rw [List.drop_zero,List.drop_zero];exact h1,I6.same NF,I4,Kept.refl _ _⟩ ?_;rintro s0 v2 ⟨i2,rfl,EF,dn,g1,g2,g3,g4⟩;have D6:Kept (· =p'.fm) w2 v2:=NW.tt g4;have Bv2:=B2.aK D6;have S6:=S7.aK g4 (fun j hj e=>Vx j hj e);have NR:=tV.tt D6;have Pm:=vB.aK D6 (by omega) (by omega);have sv2:=D6.size;refine Split.dec (fun lH=>?_) (fun iK=>?_)
     ·have fc:i2<n1:=by omega
      obtain⟨b,hb⟩:=S6.mg.get_mem fc;obtain⟨W3,Qq⟩:∃y,(G.iR z).iJ[i2]? =some y:=⟨_,List.getElem?_eq_getElem (by omega)⟩;refine S6.mg.load (i:=(i2:Int)) (by omega) hb ?_;intro p6;obtain⟨TX,Co,uc⟩:=gg (w:=v2) (z:=fG.1) (cs:=b.1) (t:=ax) (by rw [b.2.1];rfl);refine⟨⟨b.2.1,b.2.one,fun j hj=>TX j (by rw [b.2.1];exact hj)⟩,?_⟩;intro lu
      replace Co:lu.heap[v2.heap.size]? =some (.cells b.1 ax (0,0)):=Co
      replace uc:Kept Nil v2 lu:=uc
      clear_value lu;have LV:=Bv2.same uc;have Qh:=uc.heap (g4.heap xz (by omega)) (fun h=>h);have S8:=S6.aK uc (fun _ _ h=>h);obtain⟨aB,EX,_,Lj⟩:=S8.bl.at_ i2 W3 Qq;subst EX;refine⟨some aB,m1,d1,by rw [bu,aD Qh];exact VL.2.2.1,⟨by omega,by omega⟩,W3,by rw [Int.toNat_natCast,Nat.mul_one];exact Lj,?_⟩;rw [zG hb Qq]at g1;cases W3 with
      |false=>
       refine Split.no rfl ?_;rw [eJ (n:=(i2:Int)) (by omega) (by omega)];exact⟨(i2:Int)+1,rfl,⟨i2+1,rfl,fc,dn,g1,g2.same uc,g3,g4.trans uc (fun _ _ h=>h.elim)⟩,by simp only;omega⟩
      |true=>
       rw [if_pos rfl,fw,List.append_assoc]at g1;have WT:bY G.D [b] h=if nn G.D b h then [b]else []:=by
        unfold bY;by_cases hp:nn G.D b h
        ·rw [if_pos hp,List.filter_cons_of_pos (by simpa using hp)];rfl
        ·rw [if_neg hp,List.filter_cons_of_neg (by simpa using hp)];rfl
       rw [WT,<-List.append_assoc]at g1;refine Split.yes rfl ⟨some ⟨c,0,none⟩,by rw [aD LV.V.hc];rfl,b.1,⟨b.2.1,Cells.bS Co⟩,h.1,⟨h.2.1,by have:=LV.hb;rw [Sp]at this;exact Cells.bS this⟩,?_⟩;refine qq LV hD rP hs hc (done:=dn) (by rw [ud];exact g2.same uc) Co (by omega) (fun ha=>by
        rw [if_pos ha]at g1;rw [<-g1]at uX;exact(List.nodup_append.1 uX).1) ?_ ?_
       ·intro u2 ha hp Tv
        rw [ud]at hp;rw [if_pos ha,List.append_assoc]at g1;have kk:Kept (· =p'.fm) v2 u2:=(uc.mono fun _ _ h=>h.elim).tt Tv;obtain⟨o1,o2⟩:=out (u:=u2) false (NR.tt kk) (Pm.aK kk (by omega) (by omega)) (zK g1 hp).symm (fun e=>by cases e);refine⟨o1,?_⟩;intro SM;rw [gF];exact o2 SM rfl
       ·intro u2 dn' ZY Mq QL Tv
        rw [ud]at Mq QL;have kk:Kept (· =p'.fm) v2 u2:=(uc.mono fun _ _ h=>h.elim).tt Tv;rw [eJ (n:=(i2:Int)) (by omega) (by omega)];refine⟨(i2:Int)+1,rfl,⟨i2+1,rfl,fc,dn',by rw [ZY];exact g1,QL,?_,g4.tt kk⟩,by simp only;omega⟩;rw [ZY];by_cases ha:nn G.D b h
        ·rw [if_pos ha];exact vR g3 (Mq ha)
        ·rw [if_neg ha,List.append_nil];exact g3
     ·rw [aX,af.SD]
      unfold af.Rg;have en:(G.iR z).merge.drop i2= []:=List.drop_eq_nil_of_le (by omega);rw [en]at g1;exact⟨Pm,dn,by simpa [dL,bY]using g1,g2,g3,NR,tM⟩
  ·rintro u1 R ⟨done,h1,h2,h3,h4,h5⟩ o4
   have e7:gh ρ0 gY.heap.size= [(3,.pointer (some ⟨p'.bc,0,none⟩)),(5,.pointer (some ⟨w.heap.size,0,none⟩)),(6,.pointer (some ⟨w4.heap.size,0,none⟩)),(7,.pointer (some ⟨w5.heap.size,0,none⟩)),(36,zq),(4294967296,.agg (oV [gY.heap.size]))]:=rfl;rw [e7,af.jy];unfold af.iG;have ec:done=ju:=by rw [<-h1,List.drop_of_length_le (Nat.le_refl _),v7,List.append_nil]
   obtain⟨o1,o2⟩:=out (u:=u1) true h4 o4 (by rw [<-ec,h3]) (fun _=>by rw [<-ec];exact h2);refine⟨o1,?_⟩;intro oP;obtain⟨U7,_,r,t1,t2,t3,t4⟩:=o2 oP rfl;clear_value oP;rw [lP];have kt:=jl [gY.heap.size] oP;have hm:∀E∈ [gY.heap.size],oP.heap[E]? =some (.deferred (some [])):=fun E hE=>by
    rw [List.mem_singleton]at hE;subst hE;exact U7.mark
   refine⟨kP [gY.heap.size] oP (by simp) hm,r,by rw [aD (kt.heap t1 (fun hE=>by rw [List.mem_singleton]at hE;omega))];rfl,?_⟩;exact Ws _ r t2 (fun e=>(t3 e).aK kt (fun hE=>by rw [List.mem_singleton]at hE;omega)) (((kA GF).trans t4 (fun j hj e=>by rcases e with e|e;exact e;omega)).trans kt (fun j hj hE=>by rw [List.mem_singleton]at hE;omega))
  ·rintro u1 R ⟨_,r,t1,t2,t3,t4⟩ o4
   have e7:gh ρ0 gY.heap.size= [(3,.pointer (some ⟨p'.bc,0,none⟩)),(5,.pointer (some ⟨w.heap.size,0,none⟩)),(6,.pointer (some ⟨w4.heap.size,0,none⟩)),(7,.pointer (some ⟨w5.heap.size,0,none⟩)),(36,zq),(4294967296,.agg (oV [gY.heap.size]))]:=rfl;rw [e7,af.yh];unfold af.tK;rw [lP];have kt:=jl [gY.heap.size] u1;have hm:∀E∈ [gY.heap.size],u1.heap[E]? =some (.deferred (some [])):=fun E hE=>by
    rw [List.mem_singleton]at hE;subst hE;exact o4.mark
   refine⟨kP [gY.heap.size] u1 (by simp) hm,r,by rw [aD (kt.heap t1 (fun hE=>by rw [List.mem_singleton]at hE;omega))];rfl,?_⟩;exact Ws _ r t2 (fun e=>(t3 e).aK kt (fun hE=>by rw [List.mem_singleton]at hE;omega)) (((kA GF).trans t4 (fun j hj e=>by rcases e with e|e;exact e;omega)).trans kt (fun j hj hE=>by rw [List.mem_singleton]at hE;omega))
  ·rintro id u1 R ⟨e,_⟩ o4
   cases e
end
end Go.Proofs.YtfleamccglihoaaGreatDoor
