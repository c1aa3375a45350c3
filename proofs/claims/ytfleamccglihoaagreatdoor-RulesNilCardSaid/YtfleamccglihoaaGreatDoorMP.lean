import Derived.Test.YtfleamccglihoaaGreatDoorMI
import Derived.Test.YtfleamccglihoaaGreatDoorMJ
import Derived.Test.YtfleamccglihoaaGreatDoorMN
import Derived.Test.YtfleamccglihoaaGreatDoorMG
open Go.IntKind (i64 u64)
set_option linter.unusedVariables false
namespace Go.Proofs.YtfleamccglihoaaGreatDoor
open Go.Proofs.Tryz
open Go Go.bE
structure q7 where
 mf:HT
 score:Nat
 merge:List HT
 iH:List Bool
structure GS where
 D:DG
 P:List Int
 Cu:List q7
 p4:List (List HT)
def GS.at_(G:GS)(h:HT):Option Nat:=pos h (ids G.D) 0
def GS.iY(G:GS)(h:HT):q7:=((G.at_ h).bind (G.Cu[·]?)).getD ⟨fy,0,[],[]⟩
def GS.world(G:GS)(h:HT):List HT:=((G.at_ h).bind (G.p4[·]?)).getD []
def GS.score(G:GS)(h:HT):Nat:=(G.iY h).score
def gl(G:GS)(a b:HT):Bool:=decide (G.score a<G.score b)||(decide (G.score a=G.score b)&&cI a b)
def xH(G:GS)(a b:HT):Int:=if gl G a b then-1 else if gl G b a then 1 else 0
def bK(G:GS):List HT->HT
 | []=>fy
 |x::l=>l.foldl (fun b y=>if gl G b y then y else b) x
def nf(D:DG)(a b:HT):Prop:=a≠b/\¬fE D a b/\¬fE D b a
noncomputable instance(D:DG)(a b:HT):Decidable (nf D a b):=Classical.propDecidable _
noncomputable instance(D:DG)(a b:HT):Decidable (fE D a b):=Classical.propDecidable _
noncomputable def bY(D:DG)(l:List HT)(h:HT):List HT:=l.filter fun b=>decide (nf D b h)
def SO(G:GS)(l:List HT):Prop:=l.Pairwise fun a b=>gl G a b=true
noncomputable def rh(D:DG)(s:HT)(l:List HT):List HT:=(di (eT D l++l)).filter fun h=>decide (h≠s/\¬fE D h s)
def tU(G:GS)(x:HT):List HT->List HT
 | []=> [x]
 |y::l=>if gl G x y then x::y::l else y::tU G x l
noncomputable def cu(G:GS)(s:HT)(l:List HT):List HT:=(rh G.D s l).foldr (tU G) []
noncomputable def th(k:Nat)(D:DG)(wd:List HT)(h:HT):Bool:=decide ((bY D wd h).length<=k/\∀y∈bY D wd h,(bY D wd y).length+1<=k)
structure VS where
 wd:List HT
 bl:List Bool
noncomputable def rL(k:Nat)(D:DG)(s:VS)(h:HT):VS:=⟨if th k D s.wd h then s.wd++ [h]else s.wd,s.bl++ [th k D s.wd h]⟩
noncomputable def gI(k:Nat)(G:GS)(s:HT)(l:List HT):VS:=(cu G s l).foldl (rL k G.D) ⟨G.world s++ [s],[]⟩
noncomputable def fK(k:Nat)(G:GS)(s:HT)(l:List HT):q7:=⟨s,G.score s+1+(gI k G s l).bl.count true,cu G s l,(gI k G s l).bl⟩
noncomputable def fD(k:Nat)(G:GS)(h:HT)(ps:List HT):GS:=
 if eB G.D h ps=0 then⟨G.D++ [⟨h,di ps⟩],G.P++ [(((pos (bK G ps) (ids G.D) 0).getD 0:Nat):Int)],G.Cu++ [fK k G (bK G ps) ps],G.p4++ [(gI k G (bK G ps) ps).wd]⟩else G
def gm(r:HT):GS:=⟨[⟨r,[]⟩],[-1],[⟨fy,0,[],[]⟩],[[]]⟩
def dL:List HT->List Bool->List HT
 |h::l,b::m=>if b then h::dL l m else dL l m
 |_,_=> []
theorem lQ(G:GS)(a:HT):gl G a a=false:=by simp [gl,gZ]
theorem pP{G:GS}{a b c:HT}(h:gl G a b=true)(h':gl G b c=true):gl G a c=true:=by
 simp only [gl,Bool.or_eq_true,Bool.and_eq_true,decide_eq_true_eq]at*;rcases h with h|⟨h,h1⟩
 ·rcases h' with h'|⟨h',h2⟩
  ·exact .inl (by omega)
  ·exact .inl (by omega)
 ·rcases h' with h'|⟨h',h2⟩
  ·exact .inl (by omega)
  ·exact .inr ⟨by omega,kz h1 h2⟩
theorem sG{G:GS}{a b:HT}(h:gl G a b=false)(h':gl G b a=false):a=b:=by
 simp only [gl,Bool.or_eq_false_iff,Bool.and_eq_false_iff,decide_eq_false_iff_not]at*;have e:G.score a=G.score b:=by omega
 obtain⟨_,h2⟩:=h;obtain⟨_,h3⟩:=h';exact ot (by rcases h2 with h2|h2;exact absurd e h2;exact h2) (by rcases h3 with h3|h3;exact absurd e.symm h3;exact h3)
theorem xt{G:GS}{a b:HT}(h:gl G a b=true):gl G b a=false:=by
 cases hb:gl G b a
 ·rfl
 ·have:=pP h hb
  rw [lQ]at this;cases this
theorem HN{G:GS}{a b:HT}:xH G a b<0↔gl G a b=true:=by
 unfold xH;split
 ·simp_all
 ·split<;>simp_all
theorem HM(G:GS)(a b:HT):xH G a b=if G.score a<G.score b then-1 else if G.score b<G.score a then 1 else mR a b:=by
 unfold xH mR gl;by_cases h1:G.score a<G.score b
 ·simp [h1]
 ·by_cases h2:G.score b<G.score a
  ·have:¬G.score a=G.score b:=by omega
   simp [h1,h2,this]
  ·have:G.score a=G.score b:=by omega
   simp [this]
theorem SO.cons{G:GS}{x:HT}{l:List HT}:SO G (x::l)↔(∀y∈l,gl G x y=true)/\SO G l:=List.pairwise_cons
theorem SO.nodup{G:GS}{l:List HT}(h:SO G l):l.Nodup:=List.Pairwise.imp (fun {a b} mH e=>by subst e;rw [lQ]at mH;cases mH) h
theorem Fw{G:GS}:∀ {l m:List HT},SO G l->SO G m->(∀x,x∈l↔x∈m)->l=m
 | [],[],_,_,_=>rfl
 | [],y::m,_,_,h=>by have:=(h y).2 (by simp);simp at this
 |x::l,[],_,_,h=>by have:=(h x).1 (by simp);simp at this
 |x::l,y::m,hl,hm,h=>by
  rw [SO.cons]at hl hm;have lW:x=y:=by
   rcases List.mem_cons.1 ((h x).1 List.mem_cons_self)with e|e
   ·exact e
   ·rcases List.mem_cons.1 ((h y).2 List.mem_cons_self)with e'|e'
    ·exact e'.symm
    ·have h1:=hm.1 _ e
     have h2:=hl.1 _ e';rw [xt h1]at h2;cases h2
  subst lW;have:l=m:=Fw hl.2 hm.2 fun z=>by
   have hz:=h z;simp only [List.mem_cons]at hz;constructor
   ·intro oC
    rcases hz.1 (.inr oC)with e|e
    ·subst e;have:=hl.1 _ oC;rw [lQ]at this;cases this
    ·exact e
   ·intro oC
    rcases hz.2 (.inr oC)with e|e
    ·subst e;have:=hm.1 _ oC;rw [lQ]at this;cases this
    ·exact e
  rw [this]
theorem sh{G:GS}{x z:HT}:∀ {l:List HT},z∈tU G x l↔z=x\/z∈l
 | []=>by simp [tU]
 |y::l=>by
  unfold tU;split
  ·simp
  ·simp only [List.mem_cons,sh (l:=l)]
   constructor
   ·rintro(h|h|h)<;>simp [h]
   ·rintro(h|h|h)<;>simp [h]
theorem AW{G:GS}{x:HT}:∀ {l:List HT},SO G l->x∉l->SO G (tU G x l)
 | [],_,_=>by simp [tU,SO]
 |y::l,h,hx=>by
  have h':=SO.cons.1 h;simp only [List.mem_cons,not_or]at hx;unfold tU;split
  ·rename_i lW
   refine SO.cons.2 ⟨fun z hz=>?_,h⟩;rcases List.mem_cons.1 hz with rfl|hz
   ·exact lW
   ·exact pP lW (h'.1 _ hz)
  ·rename_i lW
   refine SO.cons.2 ⟨fun z hz=>?_,AW h'.2 hx.2⟩;rcases sh.1 hz with rfl|hz
   ·cases Mi:gl G y z
    ·exact absurd (sG Mi (by simpa using lW)).symm hx.1
    ·rfl
   ·exact h'.1 _ hz
theorem oh{G:GS}{z:HT}:∀ {l:List HT},z∈l.foldr (tU G) []↔z∈l
 | []=>by simp
 |x::l=>by rw [List.foldr_cons,sh,oh,List.mem_cons]
theorem xR{G:GS}:∀ {l:List HT},l.Nodup->SO G (l.foldr (tU G) [])
 | [],_=>List.Pairwise.nil
 |x::l,h=>by
  rw [List.nodup_cons]at h;exact AW (xR h.2) fun e=>h.1 (oh.1 e)
theorem oO(D:DG)(s:HT)(l:List HT):(rh D s l).Nodup:=(iI _).nodup.filter _
theorem wM{D:DG}{s:HT}{l:List HT}{h:HT}:h∈rh D s l↔((h∈ids D/\∃p∈l,fE D h p)\/h∈l)/\h≠s/\¬fE D h s:=by
 unfold rh eT;rw [List.mem_filter,dJ,List.mem_append,jK,decide_eq_true_eq]
theorem iU{G:GS}{s:HT}{l:List HT}{h:HT}:h∈cu G s l↔((h∈ids G.D/\∃p∈l,fE G.D h p)\/h∈l)/\h≠s/\¬fE G.D h s:=by
 unfold cu;rw [oh,wM]
theorem lT(G:GS)(s:HT)(l:List HT):SO G (cu G s l):=xR (oO _ _ _)
theorem BN{G:GS}{s:HT}{l m:List HT}(hs:SO G m)(h:∀x,x∈m↔x∈rh G.D s l):m=cu G s l:=
 Fw hs (lT G s l) fun x=>by unfold cu;rw [h,oh]
theorem jH{G:GS}:∀ {l:List HT},l≠ []->bK G l∈l
 |x::l,_=>by
  have key:∀(l:List HT) (b:HT),l.foldl (fun b y=>if gl G b y then y else b) b=b\/l.foldl (fun b y=>if gl G b y then y else b) b∈l:=by
   intro l
   induction l with
   |nil=>intro b;exact .inl rfl
   |cons y l ih=>
    intro b;simp only [List.foldl_cons];rcases ih (if gl G b y then y else b)with e|e
    ·rw [e]
     split
     ·exact .inr List.mem_cons_self
     ·exact .inl rfl
    ·exact .inr (List.mem_cons_of_mem _ e)
  rcases key l x with e|e
  ·rw [bK,e];exact List.mem_cons_self
  ·exact List.mem_cons_of_mem _ e
theorem fw(D:DG)(l m:List HT)(h:HT):bY D (l++m) h=bY D l h++bY D m h:=List.filter_append ..
theorem eU{D:DG}{l:List HT}{h b:HT}:b∈bY D l h↔b∈l/\nf D b h:=by unfold bY;rw [List.mem_filter,decide_eq_true_eq]
theorem nf.symm{D:DG}{a b:HT}(h:nf D a b):nf D b a:=⟨h.1.symm,h.2.2,h.2.1⟩
theorem kV{x:HT}:∀ {m:List HT} {b:List Bool},x∈dL m b->x∈m
 |h::l,b::m,hx=>by
  unfold dL at hx;split at hx
  ·rcases List.mem_cons.1 hx with e|e
   ·rw [e];exact List.mem_cons_self
   ·exact List.mem_cons_of_mem _ (kV e)
  ·exact List.mem_cons_of_mem _ (kV hx)
 | [],_,hx=>by simp [dL]at hx
 |_::_,[],hx=>by simp [dL]at hx
theorem mv:∀ {m:List HT} {b:List Bool},m.Nodup->(dL m b).Nodup
 |h::l,b::m,hn=>by
  rw [List.nodup_cons]at hn;unfold dL;split
  ·exact List.nodup_cons.2 ⟨fun e=>hn.1 (kV e),mv hn.2⟩
  ·exact mv hn.2
 | [],_,_=>by simp [dL]
 |_::_,[],_=>by simp [dL]
theorem tg:∀ {m:List HT} {b:List Bool},b.length=m.length->(dL m b).length=b.count true
 |h::l,b::m,hn=>by
  have:=tg (m:=l) (b:=m) (by simpa using hn);unfold dL;cases b<;>simp [this]
 | [],[],_=>rfl
 | [],_::_,h=>by simp at h
 |_::_,[],h=>by simp at h
theorem qW{x:HT}{c:Bool}:∀ {m:List HT} {b:List Bool},b.length=m.length->dL (m++ [x]) (b++ [c])=dL m b++if c then [x]else []
 |h::l,b::m,hn=>by
  have:=qW (x:=x) (c:=c) (m:=l) (b:=m) (by simpa using hn);simp only [List.cons_append,dL,this];cases b<;>simp
 | [],[],_=>by cases c<;>simp [dL]
 | [],_::_,h=>by simp at h
 |_::_,[],h=>by simp at h
theorem HY(k:Nat)(D:DG)(wd:List HT):∀(m:List HT),∃b:List Bool,b.length=m.length/\m.foldl (rL k D) ⟨wd,[]⟩=⟨wd++dL m b,b⟩:=by
 intro m
 induction h:m.length generalizing m with
 |zero=>exact⟨[],by simp,by rw [List.length_eq_zero_iff.1 h];simp [dL]⟩
 |succ n ih=>
  have fG:m≠ []:=fun e=>by rw [e]at h;simp at h
  obtain⟨m',x,rfl⟩:∃m' x,m=m'++ [x]:=⟨m.dropLast,m.getLast fG,(List.dropLast_concat_getLast fG).symm⟩;obtain⟨b,h1,h2⟩:=ih m' (by simpa using h);have h1:b.length=m'.length:=by rw [List.length_append,List.length_cons,List.length_nil]at h;omega
  refine⟨b++ [th k D (wd++dL m' b) x],by simp only [List.length_append,List.length_cons,List.length_nil]at h⊢;omega,?_⟩;rw [List.foldl_append,h2,List.foldl_cons,List.foldl_nil,qW h1];unfold rL;cases th k D (wd++dL m' b) x<;>simp
theorem rM(k:Nat)(G:GS)(s:HT)(l:List HT):(gI k G s l).bl.length=(cu G s l).length/\(gI k G s l).wd=G.world s++ [s]++dL (cu G s l) (gI k G s l).bl:=by
 obtain⟨b,h1,h2⟩:=HY k G.D (G.world s++ [s]) (cu G s l);unfold gI;rw [h2];exact⟨h1,rfl⟩
structure lA(k:Nat)(G:GS):Prop where
 W:jY G.D
 mf:rz G.D G.P
 lc:G.Cu.length=G.D.length
 lw:G.p4.length=G.D.length
 root:∀nd,G.D[0]? =some nd->G.iY nd.id=⟨fy,0,[],[]⟩/\G.world nd.id= []
 up:∀s h,jR G.D G.P s h->(G.iY h).mf=s/\G.world h=G.world s++ [s]++dL (G.iY h).merge (G.iY h).iH/\(G.iY h).iH.length=(G.iY h).merge.length/\(G.iY h).merge.Nodup/\∀y,y∈(G.iY h).merge↔fE G.D y h/\y≠s/\¬fE G.D y s
 wd:∀h∈ids G.D,(G.world h).Nodup/\(∀b∈G.world h,fE G.D b h)/\G.score h=(G.world h).length
theorem GS.vG{G:GS}(W:jY G.D){i:Nat}{nd:DN}(h:G.D[i]? =some nd):G.at_ nd.id=some i:=W.pos_eq h
section
variable{k:Nat}{G:GS}{h:HT}{ps:List HT}
theorem vL(hc:eB G.D h ps≠0):fD k G h ps=G:=by unfold fD;rw [if_neg hc]
theorem tu:(fD k G h ps).D=mB G.D h ps:=by
 unfold fD mB;split<;>rfl
theorem LJ:(fD k G h ps).D=qZ G.D h (bK G ps) ps:=by
 rw [tu];unfold qZ;by_cases hc:eB G.D h ps=0
 ·have fG:=(ly hc).2.1
  have:gR G.D h (bK G ps) ps=0:=by unfold gR;rw [if_pos hc,if_pos (jH fG)]
  rw [if_pos this,pX hc]
 ·have:gR G.D h (bK G ps) ps≠0:=by unfold gR;rw [if_neg hc];exact hc
  rw [if_neg this];unfold mB;rw [if_neg hc]
theorem CH:gR G.D h (bK G ps) ps=eB G.D h ps:=by
 unfold gR;split
 ·rename_i hc
  rw [if_pos (jH (ly hc).2.1),hc]
 ·rfl
theorem LK:(fD k G h ps).P=qY G.D G.P h (bK G ps) ps:=by
 unfold qY fD;rw [CH];by_cases hc:eB G.D h ps=0
 ·rw [if_pos hc,if_pos hc]
 ·rw [if_neg hc,if_neg hc]
theorem lS(hc:eB G.D h ps=0):fD k G h ps=⟨G.D++ [⟨h,di ps⟩],G.P++ [(((pos (bK G ps) (ids G.D) 0).getD 0:Nat):Int)],G.Cu++ [fK k G (bK G ps) ps],G.p4++ [(gI k G (bK G ps) ps).wd]⟩:=by
 unfold fD;rw [if_pos hc]
theorem zR(H:lA k G){s:HT}(hs:s∈ids G.D)(l:List HT)(hl:∀p∈l,p∈ids G.D):
 (gI k G s l).wd.Nodup/\(gI k G s l).wd.length=(fK k G s l).score/\∀y∈(gI k G s l).wd,y∈ids G.D/\(y=s\/fE G.D y s\/y∈cu G s l):=by
 obtain⟨h1,h2⟩:=rM k G s l;obtain⟨w1,w2,w3⟩:=H.wd s hs;have hm:∀y∈dL (cu G s l) (gI k G s l).bl,y∈ids G.D/\y≠s/\¬fE G.D y s:=fun y hy=>by
  obtain⟨e,h3,h4⟩:=iU.1 (kV hy);refine⟨?_,h3,h4⟩;rcases e with e|e
  ·exact e.1
  ·exact hl _ e
 rw [h2];refine⟨?_,?_,?_⟩
 ·refine List.nodup_append.2 ⟨List.nodup_append.2 ⟨w1,by simp,?_⟩,mv (lT G s l).nodup,?_⟩
  ·intro a ha b hb e
   have hb:b=s:=by simpa using hb
   subst hb;subst e;exact fE.irrefl H.W _ (w2 _ ha)
  ·intro a ha b hb e
   subst e;obtain⟨_,h3,h4⟩:=hm _ hb;rcases List.mem_append.1 ha with e|e
   ·exact h4 (w2 _ e)
   ·exact h3 (by simpa using e)
 ·unfold fK
  simp only [List.length_append,List.length_cons,List.length_nil,tg h1,w3]
 ·intro y hy
  rcases List.mem_append.1 hy with hy|hy
  ·rcases List.mem_append.1 hy with hy|hy
   ·exact⟨((w2 _ hy).mem H.W).1,.inr (.inl (w2 _ hy))⟩
   ·have:y=s:=by simpa using hy
    subst this;exact⟨hs,.inl rfl⟩
  ·exact⟨(hm _ hy).1,.inr (.inr (kV hy))⟩
theorem tp(H:lA k G){y:HT}(hy:y∈ids G.D):(fD k G h ps).iY y=G.iY y/\(fD k G h ps).world y=G.world y:=by
 by_cases hc:eB G.D h ps=0
 ·obtain⟨hn,fG,gJ,vQ⟩:=ly hc
  obtain⟨nd,sA,rfl⟩:=dB.1 hy;obtain⟨i,hi⟩:=List.getElem?_of_mem sA;have eV:=(lgeS hi).1;have KZ:(G.D++ [(⟨h,di ps⟩:DN)])[i]? =some nd:=by rw [List.getElem?_append_left eV];exact hi
  have W':jY (fD k G h ps).D:=by rw [tu];exact H.W.add h ps
  rw [lS hc]at W'⊢;have e1:(⟨G.D++ [⟨h,di ps⟩],G.P++ [(((pos (bK G ps) (ids G.D) 0).getD 0:Nat):Int)],G.Cu++ [fK k G (bK G ps) ps],G.p4++ [(gI k G (bK G ps) ps).wd]⟩:GS).at_ nd.id=some i:=GS.vG W' KZ;have e2:=GS.vG H.W hi;unfold GS.iY GS.world;rw [e1,e2];simp only [Option.bind_some];rw [List.getElem?_append_left (by rw [H.lc];exact eV),List.getElem?_append_left (by rw [H.lw];exact eV)];exact⟨rfl,rfl⟩
 ·rw [vL hc];exact⟨rfl,rfl⟩
theorem tq(H:lA k G)(hc:eB G.D h ps=0):(fD k G h ps).iY h=fK k G (bK G ps) ps/\(fD k G h ps).world h=(gI k G (bK G ps) ps).wd:=by
 have W':jY (fD k G h ps).D:=by rw [tu];exact H.W.add h ps
 rw [lS hc]at W'⊢;have KZ:(G.D++ [(⟨h,di ps⟩:DN)])[G.D.length]? =some ⟨h,di ps⟩:=by rw [List.getElem?_append_right (Nat.le_refl _),Nat.sub_self];rfl
 have e1:(⟨G.D++ [⟨h,di ps⟩],G.P++ [(((pos (bK G ps) (ids G.D) 0).getD 0:Nat):Int)],G.Cu++ [fK k G (bK G ps) ps],G.p4++ [(gI k G (bK G ps) ps).wd]⟩:GS).at_ h=some G.D.length:=GS.vG W' KZ;unfold GS.iY GS.world;rw [e1];simp only [Option.bind_some];rw [List.getElem?_append_right (by rw [H.lc];exact Nat.le_refl _),H.lc,Nat.sub_self,List.getElem?_append_right (by rw [H.lw];exact Nat.le_refl _),H.lw,Nat.sub_self];exact⟨rfl,rfl⟩
end
section
variable{k:Nat}{G:GS}{h:HT}{ps:List HT}
theorem mi(k:Nat)(r:HT):lA k (gm r):=by
 have e0:(gm r).at_ r=some 0:=GS.vG (G:=gm r) (jY.root r) (nd:=⟨r,[]⟩) rfl;have ec:(gm r).iY r=⟨fy,0,[],[]⟩:=by unfold GS.iY;rw [e0];rfl
 have ew:(gm r).world r= []:=by unfold GS.world;rw [e0];rfl
 refine⟨jY.root r,rz.one r,rfl,rfl,?_,?_,?_⟩
 ·intro nd gJ
  have:nd=⟨r,[]⟩:=by simpa [gm]using gJ.symm
  subst this;exact⟨ec,ew⟩
 ·rintro s h ⟨i,j,ni,m,h1,_,h3,_,_⟩
  exfalso;cases i with
  |zero=>simp [gm]at h3
  |succ i=>simp [gm]at h1
 ·intro h hm
  have:h=r:=by simpa [gm,ids]using hm
  subst this;refine⟨by rw [ew];simp,by rw [ew];simp,?_⟩;unfold GS.score;rw [ec,ew];rfl
theorem Dw(H:lA k G)(hc:eB G.D h ps=0):∃(j:Nat) (m:DN),G.D[j]? =some m/\m.id=bK G ps/\(pos (bK G ps) (ids G.D) 0).getD 0=j/\bK G ps∈ps/\bK G ps∈ids G.D:=by
 obtain⟨hn,fG,gJ,vQ⟩:=ly hc;have h1:=jH (G:=G) fG;have h2:=vQ _ (dJ.2 h1);obtain⟨m,hm,e⟩:=dB.1 h2;obtain⟨j,hj⟩:=List.getElem?_of_mem hm;have h3:=H.W.pos_eq hj;rw [e]at h3;exact⟨j,m,hj,e,by rw [h3];rfl,h1,h2⟩
theorem xP(H:lA k G)(hc:eB G.D h ps=0):(∀y,fE (G.D++ [⟨h,di ps⟩]) y h↔∃p∈ps,y=p\/fE G.D y p)/\∀a b,b∈ids G.D->(fE (G.D++ [⟨h,di ps⟩]) a b↔fE G.D a b):=by
 obtain⟨hn,fG,gJ,vQ⟩:=ly hc;have W':jY (G.D++ [⟨h,di ps⟩]):=by have:=H.W.add h ps;rwa [pX hc]at this
 have KZ:(G.D++ [(⟨h,di ps⟩:DN)])[G.D.length]? =some ⟨h,di ps⟩:=by rw [List.getElem?_append_right (Nat.le_refl _),Nat.sub_self];rfl
 have BK:∀a b,b∈ids G.D->(fE (G.D++ [⟨h,di ps⟩]) a b↔fE G.D a b):=fun a b hb=>ir H.W hn hb;refine⟨fun y=>?_,BK⟩;rw [AQ W' KZ y];constructor
 ·rintro⟨p,hp,e⟩
  exact⟨p,dJ.1 hp,e.imp_right fun e=>(BK _ _ (vQ _ hp)).1 e⟩
 ·rintro⟨p,hp,e⟩
  exact⟨p,dJ.2 hp,e.imp_right fun e=>(BK _ _ (vQ _ (dJ.2 hp))).2 e⟩
theorem lA.add(H:lA k G)(h:HT)(ps:List HT):lA k (fD k G h ps):=by
 by_cases hc:eB G.D h ps=0
 ·obtain⟨hn,fG,gJ,vQ⟩:=ly hc
  obtain⟨j,m,hj,hm,kl,CS,FM⟩:=Dw H hc;obtain⟨LH,BK⟩:=xP H hc;have hk:=fun y (hy:y∈ids G.D)=>tp (h:=h) (ps:=ps) H hy;obtain⟨nc,nw⟩:=tq H hc;obtain⟨v1,v2⟩:=rM k G (bK G ps) ps;obtain⟨u1,u2,u3⟩:=zR H FM ps (fun p hp=>vQ _ (dJ.2 hp));have W':jY (G.D++ [⟨h,di ps⟩]):=by have:=H.W.add h ps;rwa [pX hc]at this
  have pI:rz (G.D++ [(⟨h,di ps⟩:DN)]) (G.P++ [(j:Int)]):=H.mf.snoc hj (by rw [hm];exact dJ.2 CS) H.W.pos;generalize hs:bK G ps=s at*;have eG:=lS (k:=k) hc;rw [hs,kl]at eG;have eD:(fD k G h ps).D=G.D++ [⟨h,di ps⟩]:=by rw [eG]
  have eP:(fD k G h ps).P=G.P++ [(j:Int)]:=by rw [eG]
  refine⟨by rw [eD];exact W',by rw [eD,eP];exact pI,by rw [eG];simp [H.lc],by rw [eG];simp [H.lw],?_,?_,?_⟩
  ·intro nd sA
   rw [eD,List.getElem?_append_left H.W.pos]at sA;obtain⟨e1,e2⟩:=hk nd.id (dB.2 ⟨nd,List.mem_of_getElem? sA,rfl⟩);rw [e1,e2];exact H.root nd sA
  ·intro t y hy
   rw [eD,eP,mc H.W H.mf hn hj]at hy;rcases hy with hy|⟨rfl,rfl⟩
   ·have hp:=hy.par H.mf
    have RE:y∈ids G.D:=((fE.one hp).mem H.W).2;have FK:t∈ids G.D:=((fE.one hp).mem H.W).1;obtain⟨e1,e2⟩:=hk y RE;obtain⟨_,e3⟩:=hk t FK;obtain⟨g1,g2,g3,g4,g5⟩:=H.up t y hy;rw [e1,e2,e3,eD];refine⟨g1,g2,g3,g4,fun z=>?_⟩;rw [g5,BK _ _ RE,BK _ _ FK]
   ·show _/\_
    rw [nc,nw,hm,(hk s FM).2,eD];refine⟨rfl,v2,v1,(lT _ _ _).nodup,fun z=>?_⟩;show z∈cu G s ps↔_
    rw [iU,LH,BK _ _ FM];constructor
    ·rintro⟨e,h3,h4⟩
     refine⟨?_,h3,h4⟩;rcases e with⟨_,p,hp,e⟩|e
     ·exact⟨p,hp,.inr e⟩
     ·exact⟨z,e,.inl rfl⟩
    ·rintro⟨⟨p,hp,e⟩,h3,h4⟩
     refine⟨?_,h3,h4⟩;rcases e with rfl|e
     ·exact .inr hp
     ·exact .inl ⟨(e.mem H.W).1,p,hp,e⟩
  ·intro y hy
   rw [eD,jL]at hy;rcases List.mem_append.1 hy with hy|hy
   ·obtain⟨e1,e2⟩:=hk y hy
    obtain⟨g1,g2,g3⟩:=H.wd y hy;unfold GS.score;rw [e1,e2,eD];exact⟨g1,fun b hb=>(BK _ _ hy).2 (g2 b hb),g3⟩
   ·have:y=h:=by simpa using hy
    subst this;unfold GS.score;rw [nc,nw,eD];refine⟨u1,fun b hb=>?_,u2.symm⟩;obtain⟨_,e⟩:=u3 b hb;rw [LH];rcases e with rfl|e|e
    ·exact⟨b,CS,.inl rfl⟩
    ·exact⟨s,CS,.inr e⟩
    ·obtain⟨e,_,_⟩:=iU.1 e
     rcases e with⟨_,p,hp,e⟩|e
     ·exact⟨p,hp,.inr e⟩
     ·exact⟨b,e,.inl rfl⟩
 ·rw [vL hc];exact H
end
def lf(sz:HT->HT->Option Nat)(l:List HT)(b:HT):Nat:=(l.findSome? fun h=>sz h b).getD 0
def pF(ov:HT->Option Nat)(base:HT->Nat)(b:HT):Nat:=(ov b).getD (base b)
structure OV(D:DG)(wd:List HT)(ov:HT->Option Nat)(base:HT->Nat):Prop where
 kn:∀b∈wd,pF ov base b=(bY D wd b).length
 MF:∀b n,ov b=some n->b∈wd
noncomputable def wD(D:DG)(wd:List HT)(ov:HT->Option Nat)(base:HT->Nat)(h:HT):HT->Option Nat:=
 fun b=>if b∈bY D wd h then some (pF ov base b+1)else if b=h then some (bY D wd h).length else ov b
theorem OV.step{D:DG}{wd:List HT}{ov:HT->Option Nat}{base:HT->Nat}(H:OV D wd ov base){h:HT}(hn:h∉wd):OV D (wd++ [h]) (wD D wd ov base h) base:=by
 refine⟨fun b hb=>?_,fun b n e=>?_⟩
 ·rw [fw,List.length_append]
  unfold pF wD;by_cases hp:b∈bY D wd h
  ·rw [if_pos hp]
   obtain⟨h1,h2⟩:=eU.1 hp;rw [Option.getD_some,H.kn b h1];have:bY D [h] b= [h]:=by unfold bY;rw [List.filter_cons_of_pos (by simpa using h2.symm)];rfl
   rw [this];rfl
  ·rw [if_neg hp]
   by_cases e:b=h
   ·subst e
    rw [if_pos rfl,Option.getD_some];have:bY D [b] b= []:=by unfold bY;rw [List.filter_cons_of_neg (by simpa using fun e:nf D b b=>e.1 rfl)];rfl
    rw [this];rfl
   ·rw [if_neg e]
    have hw:b∈wd:=by
     rcases List.mem_append.1 hb with hb|hb
     ·exact hb
     ·exact absurd (by simpa using hb) e
    have:bY D [h] b= []:=by unfold bY;rw [List.filter_cons_of_neg (by simpa using fun e':nf D h b=>hp (eU.2 ⟨hw,e'.symm⟩))];rfl
    rw [this];exact H.kn b hw
 ·unfold wD at e
  split at e
  ·rename_i hp
   exact List.mem_append_left _ (eU.1 hp).1
  ·split at e
   ·rename_i hb;subst hb;exact List.mem_append_right _ (by simp)
   ·exact List.mem_append_left _ (H.MF b n e)
structure SZ(G:GS)(sz:HT->HT->Option Nat):Prop where
 kn:∀h l,h∈ids G.D->cN G.D G.P h l->∀b∈G.world h++ [h],lf sz l b=(bY G.D (G.world h++ [h]) b).length
 MF:∀h b n,sz h b=some n->b∈ids G.D
theorem SZ.ov{G:GS}{sz:HT->HT->Option Nat}(Z:SZ G sz){s:HT}(hs:s∈ids G.D){l:List HT}(hl:cN G.D G.P s l):OV G.D (G.world s++ [s]) (fun _=>none) (lf sz l):=
 ⟨fun b hb=>Z.kn s l hs hl b hb,fun b n e=>by cases e⟩
theorem Up.snoc{P:List Int}{p:Int}:∀ {i:Nat} {l:List Nat},Up P i l->Up (P++ [p]) i l:=by
 intro i l h
 induction h with
 |root=>exact .root
 |step h _ ih=>exact .step (by rw [List.getElem?_append_left (lgeS h).1];exact h) ih
theorem uO{D:DG}{nd:DN}{i:Nat}(h:i<D.length):mM (D++ [nd]) i=mM D i:=by unfold mM;rw [List.getElem?_append_left h]
theorem cN.snoc{D:DG}{P:List Int}(H:rz D P){nd:DN}{p:Int}{h:HT}{l:List HT}(hm:h∈ids D)(c:cN D P h l):cN (D++ [nd]) (P++ [p]) h l:=by
 rcases c with⟨hn,_⟩|⟨i,m,ks,h1,h2,h3,h4⟩
 ·exact absurd hm hn
 ·have eV:=(lgeS h1).1
  refine .inr ⟨i,m,ks,by rw [List.getElem?_append_left eV];exact h1,h2,h3.snoc,?_⟩;rw [h4];refine List.map_congr_left fun k hk=>(uO ?_).symm;have:=h3.lt H.par (by rw [H.len];exact eV) k hk
  rwa [H.len]at this
theorem cN.new{D:DG}{P:List Int}(W:jY D)(H:rz D P){nd m:DN}{j:Nat}(hj:D[j]? =some m){l:List HT}(c:cN D P m.id l):cN (D++ [nd]) (P++ [(j:Int)]) nd.id (nd.id::l):=by
 have hm:m.id∈ids D:=dB.2 ⟨m,List.mem_of_getElem? hj,rfl⟩;have c':=cN.snoc (nd:=nd) (p:=(j:Int)) H hm c;rcases c with⟨hn,_⟩|⟨i,m',ks,h1,h2,h3,h4⟩
 ·exact absurd hm hn
 ·have pM:=W.inj h1 hj h2
  subst pM;have e0:(D++ [nd])[D.length]? =some nd:=by rw [List.getElem?_append_right (Nat.le_refl _),Nat.sub_self];rfl
  refine .inr ⟨D.length,nd,D.length::ks,e0,rfl,.step (by rw [<-H.len,List.getElem?_append_right (Nat.le_refl _),Nat.sub_self];rfl) h3.snoc,?_⟩;rw [List.map_cons,lO e0,h4]
  congr 1
  refine List.map_congr_left fun k hk=>(uO ?_).symm;have:=h3.lt H.par (by rw [H.len];exact(lgeS h1).1) k hk
  rwa [H.len]at this
theorem pw{D D':DG}{l:List HT}{b:HT}(h:∀a∈l,nf D' a b↔nf D a b):bY D' l b=bY D l b:=by
 unfold bY;exact List.filter_congr fun a ha=>by simp only [h a ha]
theorem SZ.root(r:HT):SZ (gm r) (fun _ _=>none):=by
 refine⟨fun h l hm _ b hb=>?_,fun h b n e=>by cases e⟩;have hh:h=r:=by simpa [gm,ids]using hm
 subst hh;have ew:(gm h).world h= []:=((mi 0 h).root ⟨h,[]⟩ rfl).2;rw [ew]at hb⊢;have:b=h:=by simpa using hb
 subst this;have:bY (gm b).D ([]++ [b]) b= []:=by unfold bY;rw [List.nil_append,List.filter_cons_of_neg (by simpa using fun e:nf (gm b).D b b=>e.1 rfl)];rfl
 rw [this];unfold lf;have:(l.findSome? fun _=>(none:Option Nat))=none:=by simp
 rw [this];rfl
theorem SZ.add{k:Nat}{G:GS}{sz:HT->HT->Option Nat}(Z:SZ G sz)(H:lA k G){h:HT}{ps:List HT}(hc:eB G.D h ps=0){l:List HT}(hl:cN G.D G.P (bK G ps) l){ov:HT->Option Nat}
 (O:OV G.D (gI k G (bK G ps) ps).wd ov (lf sz l)):SZ (fD k G h ps) (fun y=>if y=h then ov else sz y):=by
 obtain⟨hn,fG,gJ,vQ⟩:=ly hc;obtain⟨j,m,hj,hm,kl,CS,FM⟩:=Dw H hc;obtain⟨LH,BK⟩:=xP H hc;have H':=H.add h ps;obtain⟨nc,nw⟩:=tq H hc;obtain⟨u1,u2,u3⟩:=zR H FM ps (fun p hp=>vQ _ (dJ.2 hp));have eD:(fD k G h ps).D=G.D++ [⟨h,di ps⟩]:=by rw [lS hc]
 have eP:(fD k G h ps).P=G.P++ [(j:Int)]:=by rw [lS hc,kl]
 have Z4:∀a b,a∈ids G.D->b∈ids G.D->(nf (G.D++ [⟨h,di ps⟩]) a b↔nf G.D a b):=fun a b ha hb=>by unfold nf;rw [BK _ _ hb,BK _ _ ha]
 have XU:∀(y:HT) (l':List HT),y∈ids G.D->cN G.D G.P y l'->∀b,lf (fun y=>if y=h then ov else sz y) l' b=lf sz l' b:=fun y l' hy c b=>by
  unfold lf;have RS:h∉l':=fun e=>hn ((c.mem H.W H.mf).1 e).mem.1;have key:∀l':List HT,h∉l'->(l'.findSome? fun y=>(if y=h then ov else sz y) b)=l'.findSome? fun y=>sz y b:=by
   intro l'
   induction l' with
   |nil=>intro _;rfl
   |cons y l' ih=>
    intro hq;simp only [List.mem_cons,not_or]at hq;rw [List.findSome?_cons,List.findSome?_cons,if_neg (fun e=>hq.1 e.symm),ih hq.2]
  rw [key l' RS]
 refine⟨fun y l' hy c b hb=>?_,fun y b n e=>?_⟩
 ·rw [eD,eP]at c
  rw [eD]at hy⊢;rw [jL]at hy;have W':jY (G.D++ [⟨h,di ps⟩]):=by have:=H'.W;rwa [eD]at this
  have S':rz (G.D++ [⟨h,di ps⟩]) (G.P++ [(j:Int)]):=by have:=H'.mf;rwa [eD,eP]at this
  rcases List.mem_append.1 hy with hy|hy
  ·obtain⟨l0,c0⟩:=cN.ex H.mf y
   have:l'=l0:=c.one W' S' (c0.snoc H.mf hy);subst this;obtain⟨_,e2⟩:=tp (k:=k) (h:=h) (ps:=ps) H hy;rw [e2]at hb⊢;rw [XU y l' hy c0,Z.kn y l' hy c0 b hb];have gK:∀a∈G.world y++ [y],a∈ids G.D:=fun a ha=>by
    rcases List.mem_append.1 ha with ha|ha
    ·exact(((H.wd y hy).2.1 a ha).mem H.W).1
    ·have:a=y:=by simpa using ha
     subst this;exact hy
   rw [pw fun a ha=>Z4 a b (gK a ha) (gK b hb)]
  ·have:y=h:=by simpa using hy
   subst this;have cn:=cN.new (nd:=⟨y,di ps⟩) H.W H.mf hj (by rw [hm];exact hl);have:l'=y::l:=c.one W' S' cn;subst this;rw [nw]at hb⊢;have e1:lf (fun z=>if z=y then ov else sz z) (y::l) b=pF ov (lf sz l) b:=by
    have:=XU _ l FM hl b;unfold lf at this⊢;unfold pF;rw [List.findSome?_cons];cases xl:ov b with
    |none=>simp only [if_true,xl,Option.getD_none];exact this
    |some n=>simp only [if_true,xl,Option.getD_some]
   rw [e1,fw,List.length_append];have No:∀a∈(gI k G (bK G ps) ps).wd,¬nf (G.D++ [⟨y,di ps⟩]) a y:=fun a ha e=>by
    obtain⟨_,e'⟩:=u3 a ha;refine e.2.1 ((LH a).2 ?_);rcases e' with rfl|e'|e'
    ·exact⟨_,CS,.inl rfl⟩
    ·exact⟨_,CS,.inr e'⟩
    ·obtain⟨e',_,_⟩:=iU.1 e'
     rcases e' with⟨_,p,hp,e'⟩|e'
     ·exact⟨p,hp,.inr e'⟩
     ·exact⟨a,e',.inl rfl⟩
   rcases List.mem_append.1 hb with hb|hb
   ·have Zs:=(u3 b hb).1
    have:bY (G.D++ [⟨y,di ps⟩]) [y] b= []:=by unfold bY;rw [List.filter_cons_of_neg (by simpa using fun e:nf _ y b=>No b hb e.symm)];rfl
    rw [this,O.kn b hb,pw fun a ha=>Z4 a b (u3 a ha).1 Zs];rfl
   ·have:b=y:=by simpa using hb
    subst this;have e2:bY (G.D++ [⟨b,di ps⟩]) (gI k G (bK G ps) ps).wd b= []:=by
     unfold bY;rw [List.filter_eq_nil_iff];intro a ha;simpa using No a ha
    have e3:bY (G.D++ [⟨b,di ps⟩]) [b] b= []:=by unfold bY;rw [List.filter_cons_of_neg (by simpa using fun e:nf _ b b=>e.1 rfl)];rfl
    rw [e2,e3];have e4:ov b=none:=by
     cases xl:ov b with
     |none=>rfl
     |some n=>exact absurd (u3 b (O.MF b n xl)).1 hn
    have e5:lf sz l b=0:=by
     unfold lf;have:(l.findSome? fun h=>sz h b)=none:=by
      rw [List.findSome?_eq_none_iff];intro y hy;cases Ub:sz y b with
      |none=>rfl
      |some n=>exact absurd (Z.MF y b n Ub) hn
     rw [this];rfl
    unfold pF;rw [e4,e5];rfl
 ·rw [eD,jL]
  refine List.mem_append_left _ ?_;split at e
  ·exact(u3 b (O.MF b n e)).1
  ·exact Z.MF y b n e
noncomputable def vS(G:GS)(h:HT):List HT->List HT
 | []=> []
 |a::r=>(if nf G.D a h then [a]else [])++if fE G.D a h then []else bY G.D (dL (G.iY a).merge (G.iY a).iH) h++vS G h r
theorem Up.inv{P:List Int}{i:Nat}{l:List Nat}(h:Up P i l):(i=0/\l= [0])\/∃(j:Nat) (r:List Nat),l=i::r/\P[i]? =some (j:Int)/\Up P j r:=by
 cases h with
 |root=>exact .inl ⟨rfl,rfl⟩
 |step h1 h2=>exact .inr ⟨_,_,rfl,h1,h2⟩
theorem cN.inv{D:DG}{P:List Int}(W:jY D)(H:rz D P){h:HT}{l:List HT}(hm:h∈ids D)(c:cN D P h l):
 (l= [h]/\∃nd,D[0]? =some nd/\nd.id=h)\/∃(s:HT) (r:List HT),l=h::r/\jR D P s h/\s∈ids D/\cN D P s r:=by
 rcases c with⟨hn,_⟩|⟨i,m,ks,h1,h2,h3,h4⟩
 ·exact absurd hm hn
 ·rcases h3.inv with⟨rfl,rfl⟩|⟨j,r,rfl,h5,h6⟩
  ·refine .inl ⟨?_,m,h1,h2⟩
   rw [h4,List.map_cons,List.map_nil,lO h1,h2]
  ·have hj:j<D.length:=by
    cases i with
    |zero=>rw [H.root]at h5;simp only [Option.some.injEq]at h5;omega
    |succ i=>
     obtain⟨j',m',e,_,h7,_⟩:=H.up (i+1) _ m (by omega) h5 h1;have:=(lgeS h7).1;omega
   obtain⟨mj,Pg⟩:∃mj,D[j]? =some mj:=⟨_,List.getElem?_eq_getElem hj⟩;refine .inr ⟨mj.id,r.map (mM D),?_,⟨i,j,m,mj,h1,h2,h5,Pg,rfl⟩,dB.2 ⟨mj,List.mem_of_getElem? Pg,rfl⟩,.inr ⟨j,mj,r,Pg,rfl,h6,rfl⟩⟩;rw [h4,List.map_cons,lO h1,h2]
theorem Lw{k:Nat}{G:GS}(H:lA k G)(h:HT):∀(l:List HT) (s:HT),s∈ids G.D->cN G.D G.P s l->(vS G h l).Nodup/\∀y,y∈vS G h l↔y∈bY G.D (G.world s++ [s]) h:=by
 intro l
 induction l with
 |nil=>
  intro s hs c;rcases c.inv H.W H.mf hs with⟨e,_⟩|⟨_,_,e,_⟩<;>cases e
 |cons a r ih=>
  intro s hs c;have key:∀(wb:List HT),G.world s=wb++dL (G.iY s).merge (G.iY s).iH->(vS G h r).Nodup->(∀y,y∈vS G h r↔y∈bY G.D wb h)->a=s->(vS G h (a::r)).Nodup/\∀y,y∈vS G h (a::r)↔y∈bY G.D (G.world s++ [s]) h:=by
   rintro wb hw hn hy rfl;obtain⟨w1,w2,_⟩:=H.wd a hs;have Vc:=fE.irrefl H.W a;rw [hw]at w1 w2⊢;rw [List.nodup_append]at w1;obtain⟨w3,w4,w5⟩:=w1;unfold vS;by_cases ha:fE G.D a h
   ·have KJ:¬nf G.D a h:=fun e=>e.2.1 ha
    rw [if_pos ha,if_neg KJ];refine⟨by simp,fun y=>?_⟩;simp only [List.append_nil,List.not_mem_nil,false_iff];intro e;obtain⟨e1,e2⟩:=eU.1 e;rcases List.mem_append.1 e1 with e1|e1
    ·exact e2.2.1 ((w2 y e1).trans ha)
    ·have:y=a:=by simpa using e1
     subst this;exact KJ e2
   ·rw [if_neg ha]
    have hr:∀y∈vS G h r,y∈wb:=fun y e=>(eU.1 ((hy y).1 e)).1;refine⟨?_,fun y=>?_⟩
    ·refine List.nodup_append.2 ⟨by split<;>simp,List.nodup_append.2 ⟨w4.filter _,hn,?_⟩,?_⟩
     ·intro x hx z hz e
      subst e;exact w5 x (hr x hz) x (eU.1 hx).1 rfl
     ·intro x hx z hz e
      subst e;split at hx
      ·have:x=a:=by simpa using hx
       subst this;refine Vc (w2 x ?_);rcases List.mem_append.1 hz with hz|hz
       ·exact List.mem_append_right _ (eU.1 hz).1
       ·exact List.mem_append_left _ (hr x hz)
      ·simp at hx
    ·rw [fw,fw]
     simp only [List.mem_append,hy];have e1:y∈(if nf G.D a h then [a]else [])↔y∈bY G.D [a] h:=by
      unfold bY;by_cases hp:nf G.D a h
      ·rw [if_pos hp,List.filter_cons_of_pos (by simpa using hp)];rfl
      ·rw [if_neg hp,List.filter_cons_of_neg (by simpa using hp)];rfl
     rw [e1];constructor
     ·rintro(e|e|e)
      ·exact .inr e
      ·exact .inl (.inr e)
      ·exact .inl (.inl e)
     ·rintro((e|e)|e)
      ·exact .inr (.inr e)
      ·exact .inr (.inl e)
      ·exact .inl e
  rcases c.inv H.W H.mf hs with⟨e,nd,h0,rfl⟩|⟨t,r',e,oo,ht,hc⟩
  ·obtain⟨r1,r2⟩:=H.root nd h0
   cases e;exact key [] (by rw [r2,r1];simp [dL]) (by simp [vS]) (fun y=>by simp [vS,bY]) rfl
  ·cases e
   obtain⟨_,u2,_⟩:=H.up t a oo;obtain⟨i1,i2⟩:=ih t ht hc;exact key (G.world t++ [t]) u2 i1 i2 rfl
noncomputable def mI(G:GS)(h:HT)(bl l:List HT):List HT:=bY G.D bl h++vS G h l
theorem HO{k:Nat}{G:GS}(H:lA k G){h s:HT}{l bl:List HT}(hs:s∈ids G.D)(hl:cN G.D G.P s l)(hn:(G.world s++ [s]++bl).Nodup):
 (mI G h bl l).Nodup/\(mI G h bl l).length=(bY G.D (G.world s++ [s]++bl) h).length/\∀y,y∈mI G h bl l↔y∈bY G.D (G.world s++ [s]++bl) h:=by
 obtain⟨h1,h2⟩:=Lw H h l s hs hl;have h0:=hn;rw [List.nodup_append]at hn;obtain⟨n1,n2,n3⟩:=hn;have hm:∀y,y∈mI G h bl l↔y∈bY G.D (G.world s++ [s]++bl) h:=fun y=>by
  unfold mI;rw [fw,List.mem_append,List.mem_append,h2];exact Or.comm
 have gJ:(mI G h bl l).Nodup:=by
  refine List.nodup_append.2 ⟨n2.filter _,h1,?_⟩;intro x hx z hz e;subst e;exact n3 x (eU.1 ((h2 x).1 hz)).1 x (eU.1 hx).1 rfl
 exact⟨gJ,((List.perm_ext_iff_of_nodup gJ (h0.filter _)).2 hm).length_eq,hm⟩
def pz(k:Nat)(kn:HT->Nat)(done:List HT)(b:HT):Bool:=decide (done.length+1<=k/\kn b<k)
def dN(k:Nat)(kn:HT->Nat):List HT->List HT->Bool
 |_,[]=>true
 |done,b::l=>pz k kn done b&&dN k kn (done++ [b]) l
theorem nS{k:Nat}{kn:HT->Nat}:∀ {l done:List HT},dN k kn done l=true↔(l≠ []->done.length+l.length<=k)/\∀b∈l,kn b<k
 | [],done=>by simp [dN]
 |b::l,done=>by
  unfold dN pz;rw [Bool.and_eq_true,decide_eq_true_eq,nS];simp only [List.length_append,List.length_cons,List.length_nil,List.mem_cons,forall_eq_or_imp,ne_eq,reduceCtorEq,not_false_eq_true,forall_const];constructor
  ·rintro⟨⟨h1,h2⟩,h3,h4⟩
   refine⟨?_,h2,h4⟩;by_cases e:l= []
   ·subst e;simpa using h1
   ·have:=h3 e;omega
  ·rintro⟨h1,h2,h3⟩
   refine⟨⟨by omega,h2⟩,fun _=>by omega,h3⟩
theorem kW{k:Nat}{kn:HT->Nat}:∀ {l m done:List HT},dN k kn done (l++m)=(dN k kn done l&&dN k kn (done++l) m)
 | [],m,done=>by simp [dN]
 |b::l,m,done=>by
  simp only [List.cons_append,dN,kW (l:=l),Bool.and_assoc,List.append_assoc,List.nil_append]
theorem Fg{k:Nat}{D:DG}{wd:List HT}{kn:HT->Nat}{h:HT}{c:List HT}(hk:∀b∈wd,kn b=(bY D wd b).length)(hl:c.length=(bY D wd h).length)(hm:∀y,y∈c↔y∈bY D wd h):
 dN k kn [] c=th k D wd h:=by
 rw [Bool.eq_iff_iff,nS];unfold th;rw [decide_eq_true_eq];simp only [List.length_nil,Nat.zero_add,<-hl];constructor
 ·rintro⟨h1,h2⟩
  refine⟨?_,fun y hy=>?_⟩
  ·by_cases e:c= []
   ·subst e;simp
   ·exact h1 e
  ·have:=h2 y ((hm y).2 hy)
   rw [hk y (eU.1 hy).1]at this;omega
 ·rintro⟨h1,h2⟩
  refine⟨fun _=>h1,fun y hy=>?_⟩;have hy:=(hm y).1 hy;rw [hk y (eU.1 hy).1];have:=h2 y hy;omega
open Go.RowKit
theorem DO:uo dK dO (.pointer none):=⟨by kernel_rfl,rC (by kernel_rfl)⟩
theorem pD:uo b0 iN (.int .i64 0):=⟨by kernel_rfl,rC (by kernel_rfl)⟩
structure Bo(w:World)(A:Option Addr)(n:Nat)(l:List Bool):Prop where
 len:l.length=n
 at_:∀(i:Nat) (b:Bool),l[i]? =some b->∃a,A=some a/\a.block<w.heap.size/\w.cell? (a.add i)=some (.bool b)
theorem Bo.aK{S:Nat->Prop}{w w':World}{A:Option Addr}{n:Nat}{l:List Bool}(h:Bo w A n l)(hk:Kept S w w')(hn:∀a,A=some a->¬S a.block):Bo w' A n l:=⟨h.len,fun i x hi=>by
 obtain⟨a,h1,h2,h3⟩:=h.at_ i x hi;exact⟨a,h1,Nat.lt_of_lt_of_le h2 hk.size,hk.cell h3 (by rw [iu];exact hn a h1)⟩⟩
theorem Bo.same{w w':World}{A:Option Addr}{n:Nat}{l:List Bool}(h:Bo w A n l)(hk:Kept Nil w w'):Bo w' A n l:=h.aK hk fun _ _ h=>h
def Gs(ov:HT->Option Nat)(b:HT):Option Value:=(ov b).map fun n:Nat=>.int .i64 (n:Int)
def CJ(w:World)(F:Nat->Prop)(sm:Option Nat)(sz:HT->Option Nat):Prop:=
 (sm=none/\∀b,sz b=none)\/∃s,sm=some s/\F s/\dY w s (Gs sz)
def dS(c:q7)(A:Option Addr)(n cp:Nat)(B:Option Addr)(m cq:Nat):Array Value:=c.mf.1++ #[.int .u64 (c.score:Int),.slice A n cp,.slice B m cq]
structure oK(w:World)(F:Nat->Prop)(q:Nat)(c:q7)(sz:HT->Option Nat)(A:Option Addr)(n cp:Nat)(B:Option Addr)(m cq:Nat)(sm:Option Nat):Prop where
 top:w.heap[q]? =some (.cells (dS c A n cp B m cq++ #[.map sm]) dh (0,0))
 mg:HS w A n c.merge
 bl:Bo w B m c.iH
 fA:∀a,A=some a->F a.block
 fB:∀a,B=some a->F a.block
 sz:CJ w F sm sz
 fq:F q
def Seen(w:World)(F:Nat->Prop)(q:Nat)(c:q7)(sz:HT->Option Nat):Prop:=∃A n cp B m cq sm,oK w F q c sz A n cp B m cq sm
section
variable{w w':World}{F S:Nat->Prop}{q:Nat}{c:q7}{sz:HT->Option Nat}{A B:Option Addr}{n cp m cq:Nat}{sm:Option Nat}
theorem CJ.aK(h:CJ w F sm sz)(hk:Kept S w w')(hF:∀j,F j->¬S j):CJ w' F sm sz:=by
 rcases h with h|⟨s,h1,h2,h3⟩
 ·exact .inl h
 ·exact .inr ⟨s,h1,h2,h3.aK hk (hF _ h2)⟩
theorem oK.aK(h:oK w F q c sz A n cp B m cq sm)(hk:Kept S w w')(hF:∀j,F j->¬S j):oK w' F q c sz A n cp B m cq sm:=
 ⟨hk.heap h.top (hF _ h.fq),h.mg.aK hk (fun a ha=>hF _ (h.fA a ha)),h.bl.aK hk (fun a ha=>hF _ (h.fB a ha)),h.fA,h.fB,h.sz.aK hk hF,h.fq⟩
theorem Seen.aK(h:Seen w F q c sz)(hk:Kept S w w')(hF:∀j,F j->¬S j):Seen w' F q c sz:=by
 obtain⟨A,n,cp,B,m,cq,sm,h⟩:=h;exact⟨A,n,cp,B,m,cq,sm,h.aK hk hF⟩
theorem bX(c:q7)(A:Option Addr)(n cp:Nat)(B:Option Addr)(m cq:Nat):(dS c A n cp B m cq).size=35:=by
 unfold dS;rw [Array.size_append,c.mf.2.1];rfl
theorem gL(c:q7)(A:Option Addr)(n cp:Nat)(B:Option Addr)(m cq:Nat)(r:Array Value):
 ((dS c A n cp B m cq)++r)[32]? =some (.int .u64 (c.score:Int))/\((dS c A n cp B m cq)++r)[33]? =some (.slice A n cp)/\((dS c A n cp B m cq)++r)[34]? =some (.slice B m cq)/\((dS c A n cp B m cq)++r)[35]? =r[0]? :=by
 have hs:=bX c A n cp B m cq;have h0:c.mf.1.size=32:=c.mf.2.1;refine⟨?_,?_,?_,?_⟩
 ·rw [Array.getElem?_append_left (by omega)];unfold dS;rw [Array.getElem?_append_right (by omega),h0];rfl
 ·rw [Array.getElem?_append_left (by omega)];unfold dS;rw [Array.getElem?_append_right (by omega),h0];rfl
 ·rw [Array.getElem?_append_left (by omega)];unfold dS;rw [Array.getElem?_append_right (by omega),h0];rfl
 ·rw [Array.getElem?_append_right (by omega),hs]
theorem oK.Q3(h:oK w F q c sz A n cp B m cq sm):w.cell? (((⟨q,0,none⟩:Addr).add 0).add 32)=some (.int .u64 (c.score:Int)):=by
 rw [add_zero,bt,aA h.top];exact(gL ..).1
theorem oK.c35(h:oK w F q c sz A n cp B m cq sm):w.cell? ((⟨q,0,none⟩:Addr).add 35)=some (.map sm):=by
 rw [bt,aA h.top];exact(gL ..).2.2.2
theorem oK.iY(h:oK w F q c sz A n cp B m cq sm):Cells w ((⟨q,0,none⟩:Addr).add 0) (dS c A n cp B m cq):=by
 intro j u hj;rw [add_zero,bt,aA h.top,Array.getElem?_append_left (by rw [bX];have:=(Array.getElem?_eq_some_iff.1 hj).1;rw [bX]at this;omega)];rw [Nat.zero_add];exact hj
end
structure CM where
 x:Nat
 mb:Nat
 SX:Nat->Prop
 FX:Nat->Prop
 q:HT->Nat
 sz:HT->HT->Option Nat
def CM.own(m:CM)(c j:Nat):Prop:=m.SX j\/j=c\/j=m.mb
structure CV(w:World)(F:Nat->Prop)(c:Nat)(k:Nat)(G:GS)(m:CM):Prop where
 top:w.heap[c]? =some (.cells #[.int .i64 (k:Int),.pointer (some ⟨m.x,0,none⟩),.map (some m.mb)] dV (0,0))
 X:zL w m.SX m.FX m.x G.D G.P
 all:dY w m.mb fun h=>if h∈ids G.D then some (.pointer (some ⟨m.q h,0,none⟩))else none
 seen:∀h∈ids G.D,Seen w F (m.q h) (G.iY h) (m.sz h)
 iM:lA k G
 Z:SZ G m.sz
 fx:∀j,m.FX j->F j
 fo:∀j,F j->¬m.own c j
 so:∀j,m.SX j->j≠c/\j≠m.mb
 ne:c≠m.mb
 low:∀j,m.own c j\/F j->j<w.heap.size
section
variable{w w':World}{F S:Nat->Prop}{c k:Nat}{G:GS}{m:CM}{K:Value->World->Prop}
theorem CV.aK{S0:Nat->Prop}(h:CV w F c k G m)(hk:Kept S0 w w')(hS:∀j,m.own c j->¬S0 j)(hF:∀j,F j->¬S0 j):CV w' F c k G m where
 top:=hk.heap h.top (hS _ (.inr (.inl rfl)))
 X:=h.X.aK hk (fun j e=>hS j (.inl e)) (fun j e=>hF j (h.fx j e))
 all:=h.all.aK hk (hS _ (.inr (.inr rfl)))
 seen:=fun y hy=>(h.seen y hy).aK hk hF
 iM:=h.iM
 Z:=h.Z
 fx:=h.fx
 fo:=h.fo
 so:=h.so
 ne:=h.ne
 low:=fun j e=>Nat.lt_of_lt_of_le (h.low j e) hk.size
theorem CV.same(h:CV w F c k G m)(hk:Kept Nil w w'):CV w' F c k G m:=h.aK hk (fun _ _ h=>h) (fun _ _ h=>h)
theorem CV.c0(h:CV w F c k G m):w.cell? ((⟨c,0,none⟩:Addr).add 0)=some (.int .i64 (k:Int)):=by rw [bt,aA h.top];rfl
theorem CV.c1(h:CV w F c k G m):w.cell? ((⟨c,0,none⟩:Addr).add 1)=some (.pointer (some ⟨m.x,0,none⟩)):=by rw [bt,aA h.top];rfl
theorem CV.c2(h:CV w F c k G m):w.cell? ((⟨c,0,none⟩:Addr).add 2)=some (.map (some m.mb)):=by rw [bt,aA h.top];rfl
theorem CV.look(h:CV w F c k G m)(y:HT):(Instr.lookup dK (.map (some m.mb)) (.agg y.1) false).run prog w=.ok (.pointer (if y∈ids G.D then some ⟨m.q y,0,none⟩else none)) w:=by
 have:=h.all.look DO y;by_cases hy:y∈ids G.D
 ·rw [if_pos hy]at this;rw [if_pos hy];exact this
 ·rw [if_neg hy]at this;rw [if_neg hy];exact this
theorem CV.oH(h:CV w F c k G m){y:HT}(hy:y∈ids G.D):(Instr.lookup dK (.map (some m.mb)) (.agg y.1) false).run prog w=.ok (.pointer (some ⟨m.q y,0,none⟩)) w:=by
 have:=h.look y;rwa [if_pos hy]at this
theorem qP(h:CV w F c k G m)(hK:K (.bool true) w):bf prog dm.id #[.pointer (some ⟨c,0,none⟩)] w K:=
 dm.of (Split.yes rfl ⟨_,h.c1,hK⟩)
theorem Cw{A:Addr}{x y:Int}{cx:Nat}(h0:w.cell? A=some (.int .i64 x))(h1:w.cell? (A.add 1)=some (.int .i64 y))(hK:K (.int .i64 (if x=0 then y else x)) w):
 bf prog bz.id #[.slice (some A) 2 cx] w K:=by
 refine bz.of ?_;unfold bz.W;refine bz.b9 (I:=fun s w'=>w'=w/\((s=(0,0))\/(s=(0,1)/\x=0)\/(s=(0,2)/\x=0/\y=0))) (μ:=fun s _=>(2-s.2).toNat) (s:=(0,0)) ⟨rfl,.inl rfl⟩ ?_;rintro s w' ⟨rfl,h⟩;rcases h with rfl|⟨rfl,hx⟩|⟨rfl,hx,hy⟩
 ·refine Split.yes rfl ⟨by simp only;omega,x,by rw [show(0:Int).toNat*1=0 from rfl,add_zero];exact h0,?_⟩
  by_cases hx:x=0
  ·refine Split.no (by simp [hx]) ?_
   exact⟨(0,1),rfl,⟨rfl,.inr (.inl ⟨rfl,hx⟩)⟩,by simp only;omega⟩
  ·refine Split.yes (by simpa using hx) ?_
   rw [if_neg hx]at hK;rw [fS];exact hK
 ·refine Split.yes rfl ⟨by simp only;omega,y,h1,?_⟩
  rw [if_pos hx]at hK;by_cases hy:y=0
  ·refine Split.no (by simp [hy]) ?_
   exact⟨(0,2),rfl,⟨rfl,.inr (.inr ⟨rfl,hx,hy⟩)⟩,by simp only;omega⟩
  ·refine Split.yes (by simpa using hy) ?_
   rw [fS];exact hK
 ·refine Split.no rfl ?_
  rw [aY,bz.dw];rw [if_pos hx,hy]at hK;exact hK
theorem zw{x y:Int}(hK:K (.int .i64 (if x<y then-1 else if y<x then 1 else 0)) w):bf prog cY.id #[.int .u64 x,.int .u64 y] w K:=by
 refine cY.of ?_;refine dQ.of ⟨_,rfl,?_⟩;refine dQ.of ⟨_,rfl,?_⟩;refine Split.no (by simp) (Split.no (by simp) (Split.dec (fun h=>?_) (fun h=>Split.dec (fun h'=>?_) (fun h'=>?_))))
 ·rw [if_pos h]at hK;exact hK
 ·rw [if_neg h,if_pos h']at hK;exact hK
 ·rw [if_neg h,if_neg h']at hK;exact hK
theorem qQ(h:CV w F c k G m){a b:HT}(ha:a∈ids G.D)(hb:b∈ids G.D)(hK:∀w',Kept Nil w w'->K (.int .i64 (xH G a b)) w'):
 bf prog cC.id #[.pointer (some ⟨c,0,none⟩),.agg a.1,.agg b.1] w K:=by
 refine cC.of ?_;unfold cC.W;intro w4 w5 w6;have k4:Kept Nil w w4:=(Kept.refl _ _).alloc _;have Qy:w4.heap[w.heap.size]? =some (.cells a.1 ax (0,0)):=aR w _;have k5:Kept Nil w4 w5:=(Kept.refl _ _).alloc _;have vz:w5.heap[w4.heap.size]? =some (.cells b.1 ax (0,0)):=aR w4 _;have k6:Kept Nil w5 w6:=(Kept.refl _ _).drew;clear_value w6;have y8:=(k5.tt k6).heap Qy (fun h=>h);have pN:=k6.heap vz (fun h=>h);have qp:=(k4.tt k5).tt k6;have h6:=h.same qp;obtain⟨A1,n1,c1,B1,m1,d1,s1,sa⟩:=h6.seen a ha;obtain⟨A2,n2,c2,B2,m2,d2,s2,sb⟩:=h6.seen b hb;refine⟨_,h6.c2,a.1,⟨a.2.1,Cells.bW y8⟩,_,h6.oH ha,_,sa.Q3,_,h6.c2,b.1,⟨b.2.1,Cells.bW pN⟩,_,h6.oH hb,_,sb.Q3,a.1,⟨a.2.1,Cells.bW y8⟩,b.1,⟨b.2.1,Cells.bW pN⟩,?_⟩;refine zw ⟨_,rfl,⟨b.1,rfl,b.2.1,Cells.bW pN⟩,⟨a.1,rfl,a.2.1,Cells.bW y8⟩,?_⟩;refine nQ a b ⟨_,rfl,?_⟩;have k7:Kept Nil w6 ((w6.alloc (.cells a.1 ax)).alloc (.cells b.1 ax)).drew:=(((Kept.refl Nil w6).alloc _).alloc _).drew;generalize ((w6.alloc (.cells a.1 ax)).alloc (.cells b.1 ax)).drew=w7 at k7⊢;intro w8;have k8:Kept Nil w7 w8:=(Kept.refl _ _).alloc _;have MA:w8.heap[w7.heap.size]? =some (.cells _ _ (0,0)):=aR w7 _;clear_value w8;refine Cw (A:=⟨w7.heap.size,0,none⟩) (by rw [aA MA];rfl) (by rw [bt,aA MA];rfl) ⟨_,rfl,?_⟩;have e:(if(if((G.iY a).score:Int)<((G.iY b).score:Int)then(-1:Int)else if((G.iY b).score:Int)<((G.iY a).score:Int)then 1 else 0)=0 then mR a b else if((G.iY a).score:Int)<((G.iY b).score:Int)then(-1:Int)else if((G.iY b).score:Int)<((G.iY a).score:Int)then 1 else 0)=xH G a b:=by
  rw [HM];unfold GS.score;by_cases h1:(G.iY a).score<(G.iY b).score
  ·have qO:((G.iY a).score:Int)<((G.iY b).score:Int):=by omega
   rw [if_pos h1,if_pos qO,if_neg (by decide)]
  ·have qO:¬((G.iY a).score:Int)<((G.iY b).score:Int):=by omega
   by_cases h2:(G.iY b).score<(G.iY a).score
   ·have sF:((G.iY b).score:Int)<((G.iY a).score:Int):=by omega
    rw [if_neg h1,if_neg qO,if_pos h2,if_pos sF,if_neg (by decide)]
   ·have sF:¬((G.iY b).score:Int)<((G.iY a).score:Int):=by omega
    rw [if_neg h1,if_neg qO,if_neg h2,if_neg sF,if_pos rfl]
 rw [e];exact hK _ ((qp.tt k7).tt k8)
end
section
variable{w:World}
theorem dY.Ag{mt te:TypeId}{z:Value}(T:uo mt te z){m:Nat}{f:HT->Option Value}(hm:dY w m f)(h:HT):
 (Instr.lookup mt (.map (some m)) (.agg h.1) true).run prog w=.ok (.tuple #[(f h).getD z,.bool (f h).isSome]) w:=by
 obtain⟨es,clock,l,h1,h2,h3,_⟩:=hm.ex;have h4:=kf h w h2;have h5:=lu h l 0;rw [h3]at h5;simp only [Instr.lookup,Sem.run_bind,run_underlying T.mW,nO h1,Result.andThen_ok,Sem.run_pure,gY,h4];cases hp:j0 h l 0 with
 |none=>rw [hp]at h5;simp [<-h5,T.zero]
 |some p=>rw [hp]at h5;simp [<-h5]
theorem yF{mt te:TypeId}{z:Value}(T:uo mt te z)(h:HT):
 (Instr.lookup mt (.map none) (.agg h.1) true).run prog w=.ok (.tuple #[z,.bool false]) w:=by
 have h3:=kf (es:= []) (l:= []) h w trivial;simp only [Instr.lookup,Sem.run_bind,run_underlying T.mW,Result.andThen_ok,Sem.run_pure,gY];simp [h3,j0,T.zero]
theorem CJ.Ag{F:Nat->Prop}{sm:Option Nat}{sz:HT->Option Nat}(h:CJ w F sm sz)(b:HT):
 (Instr.lookup b0 (.map sm) (.agg b.1) true).run prog w=.ok (.tuple #[.int .i64 (((sz b).getD 0:Nat):Int),.bool (sz b).isSome]) w:=by
 rcases h with⟨rfl,h⟩|⟨s,rfl,_,h⟩
 ·rw [h b];exact yF pD b
 ·have:=h.Ag pD b
  unfold Gs at this;cases hb:sz b with
  |none=>rw [hb]at this;exact this
  |some n=>rw [hb]at this;exact this
end
section
variable{w w':World}{F S:Nat->Prop}{c k:Nat}{G:GS}{m:CM}{K:Value->World->Prop}
theorem xy(h:CV w F c k G m)(hD:G.D.length<=5000)(a b:HT)(hK:∀w' (r:Bool),(r=true↔nf G.D a b)->Kept Nil w w'->K (.bool r) w'):
 bf prog cK.id #[.pointer (some ⟨c,0,none⟩),.agg a.1,.agg b.1] w K:=by
 refine cK.of ?_;unfold cK.W;intro w4 w5 w6;have k4:Kept Nil w w4:=(Kept.refl _ _).alloc _;have Qy:w4.heap[w.heap.size]? =some (.cells a.1 ax (0,0)):=aR w _;have k5:Kept Nil w4 w5:=(Kept.refl _ _).alloc _;have vz:w5.heap[w4.heap.size]? =some (.cells b.1 ax (0,0)):=aR w4 _;have k6:Kept Nil w5 w6:=(Kept.refl _ _).drew;clear_value w6;have y8:=(k5.tt k6).heap Qy (fun h=>h);have pN:=k6.heap vz (fun h=>h);have qp:=(k4.tt k5).tt k6;have h6:=h.same qp;refine⟨a.1,⟨a.2.1,Cells.bW y8⟩,b.1,⟨b.2.1,Cells.bW pN⟩,⟨a.2.ints,b.2.ints⟩,?_⟩;rw [gw];by_cases mH:a=b
 ·refine Split.no (by rw [decide_eq_true mH];rfl) (hK w6 false ⟨(fun e=>by cases e),fun e=>absurd mH e.1⟩ qp)
 ·refine Split.yes (by rw [decide_eq_false mH];rfl) ⟨_,h6.c1,a.1,⟨a.2.1,Cells.bW y8⟩,b.1,⟨b.2.1,Cells.bW pN⟩,?_⟩
  obtain⟨mx,X6,_⟩:=h6.X;refine jn X6 hD a b fun w7 r hr k7=>⟨_,rfl,?_⟩;have tB:=qp.tt k7;cases r with
  |true=>exact Split.no rfl (hK w7 false ⟨(fun e=>by cases e),fun e=>absurd (hr.1 rfl) e.2.1⟩ tB)
  |false=>
   have h7:=h.same tB;refine Split.yes rfl ⟨_,h7.c1,b.1,⟨b.2.1,Cells.bW (k7.heap pN (fun h=>h))⟩,a.1,⟨a.2.1,Cells.bW (k7.heap y8 (fun h=>h))⟩,?_⟩;obtain⟨mx',X7,_⟩:=h7.X;refine jn X7 hD b a fun w8 r' YJ k8=>⟨_,rfl,hK w8 _ ?_ (tB.tt k8)⟩;cases r' with
   |true=>exact⟨(fun e=>by cases e),fun e=>absurd (YJ.1 rfl) e.2.2⟩
   |false=>exact⟨fun _=>⟨mH,(fun e=>by have:=hr.2 e;cases this),(fun e=>by have:=YJ.2 e;cases this)⟩,fun _=>rfl⟩
def ki(D:DG)(l:List HT):Int:=if l= []then 9 else if ∃p∈l,p∉ids D then 6 else 0
theorem uT(h:CV w F c k G m){A:Option Addr}{n cx:Nat}{l:List HT}(hl:HS w A n l)(hn:n<=400000)(hK:∀w',Kept Nil w w'->K (.int .i64 (ki G.D l)) w'):
 bf prog dt.id #[.pointer (some ⟨c,0,none⟩),.slice A n cx] w K:=by
 have hlen:=hl.len;refine dt.of ?_;unfold dt.W;intro w4;have k4:Kept Nil w w4:=(Kept.refl _ _).alloc _;have EJ:w4.heap[w.heap.size]? =some (.cells #[.pointer (some ⟨c,0,none⟩)] cg (0,0)):=aR w _;clear_value w4;refine⟨some ⟨c,0,none⟩,by rw [aA EJ];rfl,qP (h.same k4) ⟨_,rfl,Split.no rfl ?_⟩⟩;by_cases h0:n=0
 ·subst h0
  have e:l= []:=List.eq_nil_of_length_eq_zero hlen;refine Split.yes rfl ?_;have:=hK w4 k4;unfold ki at this;rw [if_pos e]at this;exact this
 ·have fG:l≠ []:=fun e=>by subst e;exact h0 hlen.symm
  refine Split.no (by simpa using (by omega:¬(n:Int)=0)) ?_;refine bL.of (an.of ?_);refine an.b9 (I:=fun s w'=>∃i:Nat,s=(0,(i:Int))/\i<=n/\(∀p∈l.take i,p∈ids G.D)/\Kept Nil w4 w') (μ:=fun s _=>((n:Int)-s.2).toNat) (s:=(0,0)) ⟨0,rfl,Nat.zero_le _,by simp,Kept.refl _ _⟩ ?_;rintro s w' ⟨i,rfl,hi,cV,kw⟩;have Yg:=k4.tt kw;refine Split.dec (fun lE=>?_) (fun iG=>?_)
  ·simp only at lE
   have eV:i<n:=by omega
   obtain⟨y,hy⟩:∃y,l[i]? =some y:=⟨_,List.getElem?_eq_getElem (by omega)⟩;refine(hl.same Yg).load (i:=(i:Int)) (by omega) hy ?_;refine dv.of ?_;unfold dv.W;intro w7 w8;have k7:Kept Nil w' w7:=(Kept.refl _ _).alloc _;have hb7:w7.heap[w'.heap.size]? =some (.cells y.1 ax (0,0)):=aR w' _;have k8:Kept Nil w7 w8:=(Kept.refl _ _).drew;clear_value w8;have MA:=k8.heap hb7 (fun h=>h);have Ru:=(kw.tt k7).tt k8;have h8:=h.same (k4.tt Ru);refine⟨some ⟨c,0,none⟩,by rw [aA (Ru.heap EJ (fun h=>h))];rfl,_,h8.c2,y.1,⟨y.2.1,Cells.bW MA⟩,_,h8.look y,_,rfl,?_⟩;by_cases hm:y∈ids G.D
   ·refine Split.no (by rw [if_pos hm];rfl) ?_
    simp only;rw [eF (n:=(i:Int)) (by omega) (by omega)];refine⟨(0,(i:Int)+1),rfl,⟨i+1,rfl,eV,fun p hp=>?_,Ru⟩,by simp only;omega⟩;rcases(bI hy).1 hp with hp|rfl
    ·exact cV p hp
    ·exact hm
   ·refine Split.yes (by rw [if_neg hm];rfl) ?_
    refine⟨(i:Int),rfl,_,rfl,?_⟩;have:=hK w8 (k4.tt Ru);unfold ki at this;rw [if_neg fG,if_pos ⟨y,List.mem_of_getElem? hy,hm⟩]at this;refine Split.yes (decide_eq_true (by omega)) this
  ·simp only at iG
   rw [aY,an.dw];rw [List.take_of_length_le (by omega)]at cV;refine⟨_,rfl,_,rfl,?_⟩;have:=hK w' Yg;unfold ki at this;rw [if_neg fG,if_neg (fun⟨p,hp,hn⟩=>hn (cV p hp))]at this;exact Split.no (by decide) this
end
theorem qT{α β:Type}{f:α->Option β}{y:α}{n:β}:∀ {l:List α} {j:Nat},l[j]? =some y->(∀x∈l.take j,f x=none)->f y=some n->l.findSome? f=some n
 | [],j,h,_,_=>by simp at h
 |x::l,0,h,_,hy=>by
  simp only [List.getElem?_cons_zero,Option.some.injEq]at h;subst h;rw [List.findSome?_cons,hy]
 |x::l,j+1,h,ha,hy=>by
  have hx:=ha x (by simp);rw [List.findSome?_cons,hx];exact qT (l:=l) (j:=j) (by simpa using h) (fun z hz=>ha z (by simp [hz])) hy
section
variable{w w':World}{F S:Nat->Prop}{c k:Nat}{G:GS}{m:CM}{K:Value->World->Prop}
theorem zg(h:CV w F c k G m)(hD:G.D.length<=5000){a b:HT}(ha:a∈ids G.D){l:List HT}(hc:cN G.D G.P a l)(hK:∀w',Kept Nil w w'->K (.int .i64 ((lf m.sz l b:Nat):Int)) w'):
 bf prog aS.id #[.pointer (some ⟨c,0,none⟩),.agg a.1,.agg b.1] w K:=by
 have W:=h.iM.W;have H:=h.iM.mf;have RU:∀y∈l,y∈ids G.D:=fun y hy=>((hc.mem W H).1 hy).mem.1;refine aS.of ?_;unfold aS.W;intro w4 w5 w6 w7 w8;have k4:Kept Nil w w4:=(Kept.refl _ _).alloc _;have EJ:w4.heap[w.heap.size]? =some (.cells #[.pointer (some ⟨c,0,none⟩)] cg (0,0)):=aR w _;have k5:Kept Nil w4 w5:=(Kept.refl _ _).alloc _;have Wd:w5.heap[w4.heap.size]? =some (.cells a.1 ax (0,0)):=aR w4 _;have k6:Kept Nil w5 w6:=(Kept.refl _ _).alloc _;have pN:w6.heap[w5.heap.size]? =some (.cells b.1 ax (0,0)):=aR w5 _;have k7:Kept Nil w6 w7:=(Kept.refl _ _).alloc _;have Iz:w7.heap[w6.heap.size]? =some (.cells #[.int .i64 0] iN (0,0)):=aR w6 _;have k8:Kept Nil w7 w8:=(Kept.refl _ _).drew;clear_value w8;have RM:=k8.heap Iz (fun h=>h);have MA:=k8.heap (k7.heap pN (fun h=>h)) (fun h=>h);have ha8:=k8.heap (k7.heap (k6.heap Wd (fun h=>h)) (fun h=>h)) (fun h=>h);have Zp:=k8.heap (k7.heap (k6.heap (k5.heap EJ (fun h=>h)) (fun h=>h)) (fun h=>h)) (fun h=>h);have Ef:=(((k4.tt k5).tt k6).tt k7).tt k8;have s06:=(((k4.tt k5).tt k6)).size;have l7:=a7 Iz;have l8:=a7 RM;clear_value w7 w6 w5 w4;refine⟨some ⟨c,0,none⟩,by rw [aA Zp];rfl,_,(h.same Ef).c1,a.1,⟨a.2.1,Cells.bW ha8⟩,?_⟩;refine qH a fun gW pb qb lN G8 G5 Ca hqb=>⟨_,rfl,?_⟩;have S5:=lN.size;have Eg:=Ef.tt lN;have KE:=lN.heap RM (fun h=>h)
 let zl:Value:=.func (.func aQ.id) #[] #[.pointer (some ⟨pb,0,none⟩),.pointer (some ⟨qb,0,none⟩)]
 let ρ0:Env:= [(3,.pointer (some ⟨w.heap.size,0,none⟩)),(5,.pointer (some ⟨w5.heap.size,0,none⟩)),(6,.pointer (some ⟨w6.heap.size,0,none⟩)),(15,zl)]
 let J:Nat->World->Prop:=fun j u=>Kept Nil gW u/\j<=l.length/\∀y∈l.take j,m.sz y b=none
 let Jd:Code->World->Prop:=fun e u=>e=.ret/\Kept (fun k=>k=w6.heap.size) gW u/\∃n:Nat,(l.findSome? fun y=>m.sz y b)=some n/\u.heap[w6.heap.size]? =some (.cells #[.int .i64 (n:Int)] iN (0,0))
 have k0J:∀ {u:World},Kept Nil gW u->Kept Nil w u:=fun k=>Eg.tt k;have kS:∀ {v:World},Kept (fun k=>k=w6.heap.size) gW v->Kept Nil w v:=fun k=>Eg.trans k (fun k hk e=>by omega);obtain⟨mx,W2,_⟩:=(h.same Eg).X
 change Holds none [] prog _ _ _ ρ0 gW
 refine mn (n:=33) (ρ:=ρ0) (ρ0:=ρ0) ng mix aS.k (t:=15) (ps:= #[16]) (by kernel_rfl) (by decide) rfl aQ.at_ rfl (.inl rfl) (fun i x hi hx=>hx) rfl pR l (fun _=>rfl) (fun q hq=>by
  have WT:q=16:=by simpa using hq
  subst WT;exact⟨by decide,by decide⟩) (zT (F:=m.FX) (x:=m.x) (m:=mx) (pb:=pb) (qb:=qb) hc (by omega)) J Jd ?_ ?_ (fun j u hJ=>⟨W2.same hJ.1,hJ.1.heap G8 (fun h=>h),hJ.1.heap G5 (fun h=>h)⟩) ?_ ?_ ?_ ?_ ?_
 ·rintro j u1 u2 R oV ⟨h1,h2,h3⟩ mX
  exact⟨h1.trans mX (fun k hk e=>by omega),h2,h3⟩
 ·rintro e u1 u2 R oV ⟨h1,h2,n,h3,h4⟩ mX
  exact⟨h1,h2.trans mX (fun k hk e=>by omega),n,h3,mX.heap h4 (by omega)⟩
 ·intro R
  exact⟨(((Kept.refl _ _).alloc _).alloc _),Nat.zero_le _,by simp⟩
 ·rintro j z u1 R hz ⟨h1,h2,h3⟩ oV
  have e7:jV ρ0 ((#[16]:Array Nat).toList.zip (pR z))= [(3,.pointer (some ⟨w.heap.size,0,none⟩)),(5,.pointer (some ⟨w5.heap.size,0,none⟩)),(6,.pointer (some ⟨w6.heap.size,0,none⟩)),(15,zl),(16,.agg z.1)]:=rfl;rw [e7,aS.a1];have tD:=(lgeS hz).1;unfold aS.A1;intro w43;obtain⟨ri,ju,jc⟩:=fY (w:=u1) (z:=fy.1) (cs:=z.1) (t:=ax) (by rw [z.2.1];rfl);refine⟨⟨z.2.1,z.2.one,fun j hj=>ri j (by rw [z.2.1];exact hj)⟩,?_⟩;intro HX
  replace ju:HX.heap[u1.heap.size]? =some (.cells z.1 ax (0,0)):=ju
  replace jc:Kept Nil u1 HX:=jc
  clear_value HX;have EF:=oV.aK jc (fun h=>h) (fun h=>h);refine⟨EF,fun w2 R2 mN tC=>?_⟩;have o6:=mN.heap ju (jE ju EF.loop);have tO:Kept Nil gW w2:=(h1.tt jc).trans mN (fun k hk e=>by omega);rw [aS.y1];unfold aS.Y1;intro MV;have TA:Kept Nil w2 MV:=(Kept.refl _ _).drew;clear_value MV;have Pv:=tC.aK TA (fun h=>h) (fun h=>h);have wZ:=tO.tt TA;have JQ:=lN.tt wZ;have WC:=h.same (Ef.tt JQ);obtain⟨A1,n1,c1,B1,m1,d1,s1,sa⟩:=WC.seen z (RU z (List.mem_of_getElem? hz));refine⟨some ⟨c,0,none⟩,by rw [aA (JQ.heap Zp (fun h=>h))];rfl,_,WC.c2,z.1,⟨z.2.1,Cells.bW (TA.heap o6 (fun h=>h))⟩,_,WC.oH (RU z (List.mem_of_getElem? hz)),_,sa.c35,b.1,⟨b.2.1,Cells.bW (JQ.heap MA (fun h=>h))⟩,_,_,sa.sz.Ag b,?_⟩;cases TK:m.sz z b with
  |some n=>
   refine Split.yes rfl ⟨dz (wZ.heap KE (fun h=>h)) (by simp),?_⟩;intro oL;have KC:oL.heap[w6.heap.size]? =some (.cells #[.int .i64 (n:Int)] iN (0,0)):=by
    show(MV.setCell ⟨w6.heap.size,0,none⟩ (.int .i64 (n:Int))).heap[w6.heap.size]? =_;rw [cR (wZ.heap KE (fun h=>h)) 0];rfl
   have BV:Kept (· =w6.heap.size) MV oL:=Kept.setCell (S:=fun k=>k=w6.heap.size) (Kept.refl _ MV) (p:=⟨w6.heap.size,0,none⟩) (fun _=>rfl) _;clear_value oL;exact⟨Pv.aK BV (fun e=>by omega) (fun e=>by omega),rfl,(wZ.mono fun _ _ h=>h.elim).tt BV,n,qT hz h3 TK,KC⟩
  |none=>
   refine Split.no rfl ⟨Pv,wZ,tD,fun y hy=>?_⟩;rcases(bI hz).1 hy with hy|rfl
   ·exact h3 y hy
   ·exact TK
 ·rintro u1 R ⟨h1,h2,h3⟩ oV
  rw [List.take_of_length_le (Nat.le_refl _)]at h3;have e7:fZ ρ0 gW.heap.size= [(3,.pointer (some ⟨w.heap.size,0,none⟩)),(5,.pointer (some ⟨w5.heap.size,0,none⟩)),(6,.pointer (some ⟨w6.heap.size,0,none⟩)),(15,zl),(4294967296,.agg (oQ [gW.heap.size]))]:=rfl;rw [e7,aS.jw];unfold aS.iC;have pJ:=h1.heap KE (fun h=>h);refine⟨dz pJ (by simp),?_⟩;intro oL;have KC:oL.heap[w6.heap.size]? =some (.cells #[.int .i64 0] iN (0,0)):=by
   show(u1.setCell ⟨w6.heap.size,0,none⟩ (.int .i64 0)).heap[w6.heap.size]? =_;rw [cR pJ 0];rfl
  have BV:Kept (· =w6.heap.size) u1 oL:=Kept.setCell (S:=fun k=>k=w6.heap.size) (Kept.refl _ u1) (p:=⟨w6.heap.size,0,none⟩) (fun _=>rfl) _;clear_value oL;have oV:=oV.aK BV (fun e=>by omega) (fun e=>by omega);rw [lM];have kt:=jh [gW.heap.size] oL;have hm:∀E∈ [gW.heap.size],oL.heap[E]? =some (.deferred (some [])):=fun E hE=>by
   rw [List.mem_singleton]at hE;subst hE;exact oV.mark
  refine⟨kM [gW.heap.size] oL (by simp) hm,0,by rw [aA (kt.heap KC (fun hE=>by rw [List.mem_singleton]at hE;omega))];rfl,?_⟩;have e0:lf m.sz l b=0:=by
   unfold lf;have:(l.findSome? fun h=>m.sz h b)=none:=List.findSome?_eq_none_iff.2 h3;rw [this];rfl
  have:=hK (fi [gW.heap.size] oL) ((kS ((h1.mono fun _ _ h=>h.elim).tt BV)).trans kt (fun k hk hE=>by rw [List.mem_singleton]at hE;have:=Eg.size;omega));rw [e0]at this;exact this
 ·rintro u1 R ⟨_,h2,n,h3,h4⟩ oV
  have e7:fZ ρ0 gW.heap.size= [(3,.pointer (some ⟨w.heap.size,0,none⟩)),(5,.pointer (some ⟨w5.heap.size,0,none⟩)),(6,.pointer (some ⟨w6.heap.size,0,none⟩)),(15,zl),(4294967296,.agg (oQ [gW.heap.size]))]:=rfl;rw [e7,aS.x6];unfold aS.tw;rw [lM];have kt:=jh [gW.heap.size] u1;have hm:∀E∈ [gW.heap.size],u1.heap[E]? =some (.deferred (some [])):=fun E hE=>by
   rw [List.mem_singleton]at hE;subst hE;exact oV.mark
  refine⟨kM [gW.heap.size] u1 (by simp) hm,(n:Int),by rw [aA (kt.heap h4 (fun hE=>by rw [List.mem_singleton]at hE;omega))];rfl,?_⟩;have e0:lf m.sz l b=n:=by unfold lf;rw [h3];rfl
  have:=hK (fi [gW.heap.size] u1) ((kS h2).trans kt (fun k hk hE=>by rw [List.mem_singleton]at hE;have:=Eg.size;omega));rw [e0]at this;exact this
 ·rintro id u1 R ⟨e,_⟩ oV
  cases e
end
section
variable{w:World}
theorem xK{x:HT}:∀ {l:List (HT×Value)},assoc x l≠none↔x∈l.map (·.1)
 | []=>by simp [assoc]
 |(y,v)::l=>by
  have:=xK (x:=x) (l:=l);unfold assoc;by_cases e:x=y
  ·subst e;simp
  ·rw [if_neg e,this]
   simp only [List.map_cons,List.mem_cons];exact⟨.inr,fun h=>h.resolve_left e⟩
theorem dY.len{mt te:TypeId}{z:Value}(T:uo mt te z){m:Nat}{f:HT->Option Value}(hm:dY w m f)(ty:TypeId){l:List HT}(hn:l.Nodup)(hl:∀x,f x≠none↔x∈l):
 (Builtin.len_ #[mt] ty #[.map (some m)]).run prog w=.ok (.int .i64 (l.length:Int)) w:=by
 obtain⟨es,clock,l',h1,h2,h3,_,_,h6⟩:=hm.ex;have e1:es.size=l'.length:=by have:=h2.len;simpa using this
 have e2:l'.length=l.length:=by
  have hp:(l'.map (·.1)).Perm l:=(List.perm_ext_iff_of_nodup h6 hn).2 fun x=>by rw [<-xK,h3,hl]
  simpa using hp.length_eq
 simp [Builtin.len_,run_underlying T.mW,nO h1,goInt,Result.andThen,e1,e2]
end
section
variable{w w':World}{F S:Nat->Prop}{c k:Nat}{G:GS}{m:CM}{K:Value->World->Prop}
structure VB(w:World)(c:Nat)(s:HT)(bs bc bh q sm:Nat)(ov:HT->Option Nat):Prop where
 hs:w.heap[bs]? =some (.cells #[.pointer (some ⟨q,0,none⟩)] dO (0,0))
 hc:w.heap[bc]? =some (.cells #[.pointer (some ⟨c,0,none⟩)] cg (0,0))
 hh:w.heap[bh]? =some (.cells s.1 ax (0,0))
 sz:w.cell? ((⟨q,0,none⟩:Addr).add 35)=some (.map (some sm))
 ov:dY w sm (Gs ov)
theorem VB.aK{S:Nat->Prop}{s:HT}{bs bc bh q sm:Nat}{ov:HT->Option Nat}(h:VB w c s bs bc bh q sm ov)(hk:Kept S w w')(h1:¬S bs)(h2:¬S bc)(h3:¬S bh)(h4:¬S q)(h5:¬S sm):VB w' c s bs bc bh q sm ov:=
 ⟨hk.heap h.hs h1,hk.heap h.hc h2,hk.heap h.hh h3,hk.cell h.sz h4,h.ov.aK hk h5⟩
theorem VB.same{s:HT}{bs bc bh q sm:Nat}{ov:HT->Option Nat}(h:VB w c s bs bc bh q sm ov)(hk:Kept Nil w w'):VB w' c s bs bc bh q sm ov:=h.aK hk (fun h=>h) (fun h=>h) (fun h=>h) (fun h=>h) (fun h=>h)
theorem xx(h:CV w F c k G m)(hD:G.D.length<=5000){s b:HT}(hs:s∈ids G.D){l:List HT}(hc:cN G.D G.P s l){bs bc bh q sm:Nat}{ov:HT->Option Nat}(V:VB w c s bs bc bh q sm ov)
 (hK:∀w',Kept Nil w w'->K (.int .i64 ((pF ov (lf m.sz l) b:Nat):Int)) w'):
 bf prog bH.id #[.agg b.1,.pointer (some ⟨bs,0,none⟩),.pointer (some ⟨bc,0,none⟩),.pointer (some ⟨bh,0,none⟩)] w K:=by
 refine bH.of ?_;unfold bH.W;intro w4 w5;have k4:Kept Nil w w4:=(Kept.refl _ _).alloc _;have AI:w4.heap[w.heap.size]? =some (.cells b.1 ax (0,0)):=aR w _;have k5:Kept Nil w4 w5:=(Kept.refl _ _).drew;clear_value w5;have vz:=k5.heap AI (fun h=>h);have o5:=k4.tt k5;have V5:=V.same o5;refine⟨some ⟨q,0,none⟩,by rw [aA V5.hs];rfl,_,V5.sz,b.1,⟨b.2.1,Cells.bW vz⟩,?_⟩;have lk:=V5.ov.Ag pD b;unfold Gs at lk;cases hb:ov b with
 |some n=>
  rw [hb]at lk;refine⟨(n:Int),true,lk,Split.yes rfl ?_⟩;have:=hK w5 o5;unfold pF at this;rw [hb]at this;exact this
 |none=>
  rw [hb]at lk;refine⟨0,false,lk,Split.no rfl ⟨some ⟨c,0,none⟩,by rw [aA V5.hc];rfl,s.1,⟨s.2.1,Cells.bW V5.hh⟩,b.1,⟨b.2.1,Cells.bW vz⟩,?_⟩⟩;refine zg (h.same o5) hD hs hc fun w7 k7=>⟨_,rfl,?_⟩;have:=hK w7 (o5.tt k7);unfold pF at this;rw [hb]at this;exact this
def vN(w:World)(fm:Nat)(kn:HT->Nat)(done:List HT):Prop:=dY w fm fun y=>if y∈done then some (.int .i64 (kn y:Int))else none
theorem xu(h:CV w F c k G m)(hD:G.D.length<=5000)(rH:k<=1000){s b:HT}(hs:s∈ids G.D){l:List HT}(hc:cN G.D G.P s l){bs bc bh q sm kb fb fm:Nat}{ov:HT->Option Nat}(V:VB w c s bs bc bh q sm ov)
 (IL:w.heap[kb]? =some (.cells #[.func (.func bH.id) #[] #[.pointer (some ⟨bs,0,none⟩),.pointer (some ⟨bc,0,none⟩),.pointer (some ⟨bh,0,none⟩)]] dR (0,0)))
 (Mx:w.heap[fb]? =some (.cells #[.map (some fm)] b0 (0,0))) {done:List HT} (hn:done.Nodup) (VO:b∉done) (hF:vN w fm (pF ov (lf m.sz l)) done) (hfo:¬m.own c fm) (Vt:¬F fm) (fG:bc≠fm)
 (hK:∀w' (r:Bool),r=pz k (pF ov (lf m.sz l)) done b->vN w' fm (pF ov (lf m.sz l)) (done++ [b])->Kept (· =fm) w w'->K (.bool r) w'):
 bf prog bZ.id #[.agg b.1,.pointer (some ⟨kb,0,none⟩),.pointer (some ⟨fb,0,none⟩),.pointer (some ⟨bc,0,none⟩)] w K:=by
 have XX:=hF.lt;refine bZ.of ?_;unfold bZ.W;intro w4 w5;have k4:Kept Nil w w4:=(Kept.refl _ _).alloc _;have AI:w4.heap[w.heap.size]? =some (.cells b.1 ax (0,0)):=aR w _;have k5:Kept Nil w4 w5:=(Kept.refl _ _).drew;clear_value w5;have vz:=k5.heap AI (fun h=>h);have o5:=k4.tt k5;have hnf:fb≠fm:=fun e=>by subst e;obtain⟨es,cl,_,h1,_⟩:=hF.ex;rw [Mx]at h1;cases h1
 refine⟨some fm,by rw [aA (o5.heap Mx (fun h=>h))];rfl,b.1,⟨b.2.1,Cells.bW vz⟩,_,by rw [aA (o5.heap IL (fun h=>h))];rfl,b.1,⟨b.2.1,Cells.bW vz⟩,?_⟩;refine⟨_,_,_,_,rfl,bH.at_,rfl,?_⟩;refine xx (h.same o5) hD hs hc (V.same o5) fun w7 k7=>⟨_,rfl,⟨b.1,rfl,b.2.1,Cells.bW (k7.heap vz (fun h=>h))⟩,?_,?_⟩
 ·rw [aA ((o5.tt k7).heap Mx (fun h=>h))];rfl
 have tB:=o5.tt k7;obtain⟨w8,RM,hm8,k8⟩:=(hF.same tB).put pD b (.int .i64 ((pF ov (lf m.sz l) b:Nat):Int));refine⟨w8,RM,?_⟩;intro w9;have k9:Kept Nil w8 w9:=(Kept.refl _ _).drew;clear_value w9;have Yc:Kept (· =fm) w7 w9:=k8.trans k9 (fun _ _ h=>h.elim);have Ee:Kept (· =fm) w w9:=(tB.mono fun _ _ h=>h.elim).tt Yc;have MD:vN w9 fm (pF ov (lf m.sz l)) (done++ [b]):=by
  refine dY.same ?_ k9;have e:(fun y=>if y∈done++ [b]then some (Value.int .i64 ((pF ov (lf m.sz l) y:Nat):Int))else none)=fun x=>if x=b then some (.int .i64 ((pF ov (lf m.sz l) b:Nat):Int))else if x∈done then some (.int .i64 ((pF ov (lf m.sz l) x:Nat):Int))else none:=by
   funext y
   by_cases e:y=b
   ·subst e;rw [if_pos (by simp),if_pos rfl]
   ·rw [if_neg e]
    by_cases hy:y∈done
    ·rw [if_pos (List.mem_append_left _ hy),if_pos hy]
    ·rw [if_neg (by simp [hy,e]),if_neg hy]
  rw [e];exact hm8
 have hb9:w9.heap[w.heap.size]? =some (.cells b.1 ax (0,0)):=((k7.mono fun _ _ h=>h.elim).tt Yc:Kept (· =fm) w5 w9).heap vz (by omega);have PZ:=Ee.heap Mx hnf;have gJ:(done++ [b]).Nodup:=List.nodup_append.2 ⟨hn,by simp,fun x hx y hy e=>by
  have:y=b:=by simpa using hy
  subst this;subst e;exact VO hx⟩
 have h9:CV w9 F c k G m:=h.aK Ee (fun j hj e=>by subst e;exact hfo hj) (fun j hj e=>by subst e;exact Vt hj);have Zo:w9.heap[bc]? =some (.cells #[.pointer (some ⟨c,0,none⟩)] cg (0,0)):=Ee.heap V.hc fG;refine⟨some fm,by rw [aA PZ];rfl,(done++ [b]).length,MD.len pD iN gJ (fun x=>by
  by_cases hx:x∈done++ [b]
  ·rw [if_pos hx];exact⟨fun _=>hx,fun _ e=>by cases e⟩
  ·rw [if_neg hx];exact⟨fun e=>absurd rfl e,fun e=>absurd e hx⟩),some ⟨c,0,none⟩,by rw [aA Zo];rfl,(k:Int),h9.c0,?_⟩
 refine Split.dec (fun h1=>?_) (fun h1=>?_)
 ·have lk:=dY.look pD MD b
  rw [if_pos (by simp)]at lk;refine⟨some fm,by rw [aA PZ];rfl,b.1,⟨b.2.1,Cells.bW hb9⟩,_,lk,some ⟨c,0,none⟩,by rw [aA Zo];rfl,(k:Int),h9.c0,?_⟩;refine hK w9 _ ?_ MD Ee;unfold pz;rw [List.length_append,List.length_cons,List.length_nil]at h1;refine decide_eq_decide.2 ⟨fun h2=>⟨by omega,by omega⟩,fun h2=>by omega⟩
 ·refine hK w9 false ?_ MD Ee
  unfold pz;rw [List.length_append,List.length_cons,List.length_nil]at h1;exact(decide_eq_false (by omega)).symm
end
structure PN where
 bs:Nat
 bc:Nat
 bh:Nat
 q:Nat
 sm:Nat
 kb:Nat
 fb:Nat
 fm:Nat
 yb:Nat
 hb:Nat
def PN.zl(p:PN):Value:=.func (.func bZ.id) #[] #[.pointer (some ⟨p.kb,0,none⟩),.pointer (some ⟨p.fb,0,none⟩),.pointer (some ⟨p.bc,0,none⟩)]
def PN.kQ(p:PN)(j:Nat):Prop:=p.bs≠j/\p.bc≠j/\p.bh≠j/\p.q≠j/\p.sm≠j/\p.kb≠j/\p.fb≠j
structure PG(w:World)(F:Nat->Prop)(c k:Nat)(G:GS)(m:CM)(s h:HT)(p:PN)(ov:HT->Option Nat):Prop where
 C:CV w F c k G m
 V:VB w c s p.bs p.bc p.bh p.q p.sm ov
 kb:w.heap[p.kb]? =some (.cells #[.func (.func bH.id) #[] #[.pointer (some ⟨p.bs,0,none⟩),.pointer (some ⟨p.bc,0,none⟩),.pointer (some ⟨p.bh,0,none⟩)]] dR (0,0))
 fb:w.heap[p.fb]? =some (.cells #[.map (some p.fm)] b0 (0,0))
 yb:w.cell? ⟨p.yb,0,none⟩=some p.zl
 hb:w.heap[p.hb]? =some (.cells h.1 ax (0,0))
 fo:¬m.own c p.fm
 ff:¬F p.fm
 kQ:p.kQ p.fm
 y:p.yb≠p.fm
 h:p.hb≠p.fm
section
variable{w w' u:World}{F:Nat->Prop}{c k:Nat}{G:GS}{m:CM}{s h:HT}{p:PN}{ov:HT->Option Nat}{K:Value->World->Prop}
theorem PG.aK(B:PG w F c k G m s h p ov)(hk:Kept (· =p.fm) w w'):PG w' F c k G m s h p ov:=by
 obtain⟨f1,f2,f3,f4,f5,f6,f7⟩:=B.kQ;exact⟨B.C.aK hk (fun j hj e=>by subst e;exact B.fo hj) (fun j hj e=>by subst e;exact B.ff hj),B.V.aK hk f1 f2 f3 f4 f5,hk.heap B.kb f6,hk.heap B.fb f7,hk.cell B.yb B.y,hk.heap B.hb B.h,B.fo,B.ff,B.kQ,B.y,B.h⟩
theorem PG.same(B:PG w F c k G m s h p ov)(hk:Kept Nil w w'):PG w' F c k G m s h p ov:=B.aK (hk.mono fun _ _ h=>h.elim)
theorem qi(B:PG w F c k G m s h p ov)(hD:G.D.length<=5000)(rH:k<=1000)(hs:s∈ids G.D){l:List HT}(hc:cN G.D G.P s l){done:List HT}(hF:vN w p.fm (pF ov (lf m.sz l)) done){b:HT}{zb:Nat}
 (hz:w.heap[zb]? =some (.cells b.1 ax (0,0))) (hzf:zb≠p.fm) (hn:nf G.D b h->(done++ [b]).Nodup) {A T:World->Prop}
 (hA:∀u,nf G.D b h->pz k (pF ov (lf m.sz l)) done b=false->Kept (· =p.fm) w u->A u)
 (hT:∀u uV,uV=done++(if nf G.D b h then [b]else [])->(nf G.D b h->pz k (pF ov (lf m.sz l)) done b=true)->vN u p.fm (pF ov (lf m.sz l)) uV->Kept (· =p.fm) w u->T u):
 bf prog cK.id #[.pointer (some ⟨c,0,none⟩),.agg b.1,.agg h.1] w fun x y=>∃z:Bool,x=.bool z/\Split z (∃a1:Value,y.cell? ⟨p.yb,0,none⟩=some a1/\∃b1:Array Value,(b1.size=32/\Cells y ⟨zb,0,none⟩ b1)/\
  ∃(c1:Nat) (d1 e1:Array Value) (f1:Func),(a1:Value)=.func (.func c1) d1 e1/\prog.funcs[c1]? =some f1/\f1.body.isSome=true/\
   bf prog c1 (d1.toList++([.agg b1]:List Value)++e1.toList).toArray y fun g1 i1=>∃j1:Bool,g1=.bool j1/\Split (!j1) (A i1) (T i1)) (T y):=by
 refine xy B.C hD b h fun y r hr ky=>⟨r,rfl,?_⟩;have XY:Kept (· =p.fm) w y:=ky.mono fun _ _ h=>h.elim;have By:=B.same ky;cases r with
 |false=>
  have KJ:¬nf G.D b h:=fun e=>by have:=hr.2 e;cases this
  exact Split.no rfl (hT y done (by rw [if_neg KJ,List.append_nil]) (fun e=>absurd e KJ) (hF.same ky) XY)
 |true=>
  have ha:=hr.1 rfl;have gJ:=hn ha;rw [List.nodup_append]at gJ;refine Split.yes rfl ⟨_,By.yb,b.1,⟨b.2.1,Cells.bW (ky.heap hz (fun h=>h))⟩,_,_,_,_,rfl,bZ.at_,rfl,?_⟩;refine xu By.C hD rH hs hc By.V By.kb By.fb gJ.1 (fun e=>gJ.2.2 b e b (by simp) rfl) (hF.same ky) B.fo B.ff B.kQ.2.1 fun v r hr hv kv=>⟨r,rfl,?_⟩;have X0:Kept (· =p.fm) w v:=XY.tt kv;cases r with
  |false=>exact Split.yes rfl (hA v ha hr.symm X0)
  |true=>exact Split.no rfl (hT v (done++ [b]) (by rw [if_pos ha]) (fun _=>hr.symm) hv X0)
end
structure PG0(w:World)(F:Nat->Prop)(c k:Nat)(G:GS)(m:CM)(s:HT)(p:PN)(ov:HT->Option Nat):Prop where
 C:CV w F c k G m
 V:VB w c s p.bs p.bc p.bh p.q p.sm ov
 kb:w.heap[p.kb]? =some (.cells #[.func (.func bH.id) #[] #[.pointer (some ⟨p.bs,0,none⟩),.pointer (some ⟨p.bc,0,none⟩),.pointer (some ⟨p.bh,0,none⟩)]] dR (0,0))
 fb:w.heap[p.fb]? =some (.cells #[.map (some p.fm)] b0 (0,0))
 fo:¬m.own c p.fm
 ff:¬F p.fm
 kQ:p.kQ p.fm
theorem eo:∀ {l m:List HT},l.Nodup->(∀x∈l,x∈m)->l.length<=m.length
 | [],_,_,_=>Nat.zero_le _
 |x::l,m,hn,hm=>by
  rw [List.nodup_cons]at hn;have hx:=hm x List.mem_cons_self;have:=eo (m:=m.erase x) hn.2 fun y hy=>(List.mem_erase_of_ne (fun e=>hn.1 (by rw [<-e];exact hy))).2 (hm y (List.mem_cons_of_mem _ hy));rw [List.length_erase_of_mem hx]at this;have h0:=List.length_pos_of_mem hx;rw [List.length_cons];omega
theorem HS.get_mem{w:World}{A:Option Addr}{n:Nat}{l:List HT}(hl:HS w A n l){i:Nat}(hi:i<n):∃y,l[i]? =some y:=⟨_,List.getElem?_eq_getElem (by have:=hl.len;omega)⟩
theorem wC{D:DG}{l:List HT}{h x:HT}{i:Nat}(hx:l[i]? =some x):bY D (l.take (i+1)) h=bY D (l.take i) h++if nf D x h then [x]else []:=by
 have e:l.take (i+1)=l.take i++ [x]:=by rw [List.take_add_one,hx];rfl
 rw [e,fw]
 congr 1
 unfold bY;by_cases hp:nf D x h
 ·rw [if_pos hp,List.filter_cons_of_pos (by simpa using hp)];rfl
 ·rw [if_neg hp,List.filter_cons_of_neg (by simpa using hp)];rfl
theorem zA{m:List HT}{b:List Bool}{x:HT}{y:Bool}{i:Nat}(hx:m[i]? =some x)(hy:b[i]? =some y):dL (m.drop i) (b.drop i)=(if y then [x]else [])++dL (m.drop (i+1)) (b.drop (i+1)):=by
 obtain⟨hi,ex⟩:=lgeS hx;obtain⟨hj,ey⟩:=lgeS hy;rw [List.drop_eq_getElem_cons hi,List.drop_eq_getElem_cons hj,ex,ey];cases y<;>rfl
theorem kR(c:q7)(A:Option Addr)(n cp:Nat)(B:Option Addr)(m cq:Nat):∀v∈(dS c A n cp B m cq).toList,v.oneCell'=true:=by
 intro v hv;unfold dS at hv;rw [Array.toList_append,List.mem_append]at hv;rcases hv with hv|hv
 ·exact c.mf.2.one v hv
 ·simp only [List.mem_cons,List.not_mem_nil,or_false]at hv
  rcases hv with rfl|rfl|rfl<;>rfl
section
variable{w w':World}{F:Nat->Prop}{c k:Nat}{G:GS}{m:CM}{s:HT}{p:PN}{ov:HT->Option Nat}{K:Value->World->Prop}
theorem zD{kn:HT->Nat}{done rest js:List HT}{b:HT}(e:done++b::rest=js)(h:pz k kn done b=false):dN k kn [] js=false:=by
 rw [<-e,kW,List.nil_append,dN,h,Bool.false_and,Bool.and_false]
theorem vJ{kn:HT->Nat}{done:List HT}{b:HT}(h:dN k kn [] done=true)(hb:pz k kn done b=true):dN k kn [] (done++ [b])=true:=by
 rw [kW,h,List.nil_append,dN,hb,Bool.true_and,Bool.true_and];rfl
theorem xw(B:PG0 w F c k G m s p ov)(hD:G.D.length<=5000)(rH:k<=1000)(hs:s∈ids G.D){l:List HT}(hc:cN G.D G.P s l){h:HT}{bb:Nat}{A:Option Addr}{n cx:Nat}{bl:List HT}
 (Cl:w.heap[bb]? =some (.cells #[.slice A n cx] aV (0,0))) (hbf:bb≠p.fm) (Ck:HS w A n bl) (ZD:∀a,A=some a->a.block≠p.fm) (hn:n<=10000) (hF:vN w p.fm (pF ov (lf m.sz l)) []) (uQ:(mI G h bl l).Nodup)
 (hK:∀w' (r:Bool),r=dN k (pF ov (lf m.sz l)) [] (mI G h bl l)->(r=true->vN w' p.fm (pF ov (lf m.sz l)) (mI G h bl l))->Kept (· =p.fm) w w'->K (.bool r) w'):
 bf prog af.id #[.agg h.1,p.zl,.pointer (some ⟨bb,0,none⟩),.pointer (some ⟨p.bc,0,none⟩),.pointer (some ⟨p.bh,0,none⟩)] w K:=by
 have W:=B.C.iM.W;have H:=B.C.iM.mf;have RU:∀y∈l,y∈ids G.D:=fun y hy=>((hc.mem W H).1 hy).mem.1;have hlen:=Ck.len;have XX:=hF.lt;refine af.of ?_;unfold af.W;intro w4 w5 w6;have k4:Kept Nil w w4:=(Kept.refl _ _).alloc _;have PL:w4.heap[w.heap.size]? =some (.cells h.1 ax (0,0)):=aR w _;have k5:Kept Nil w4 w5:=(Kept.refl _ _).alloc _;obtain⟨ty,Yn⟩:∃ty:TypeId,w5.heap[w4.heap.size]? =some (.cells #[p.zl] ty (0,0)):=⟨_,aR w4 _⟩;have k6:Kept Nil w5 w6:=(Kept.refl _ _).alloc _;have RN:w6.heap[w5.heap.size]? =some (.cells #[.bool false] iV (0,0)):=aR w5 _;clear_value w6;have hy6:=k6.heap Yn (fun h=>h);have hh6:=k6.heap (k5.heap PL (fun h=>h)) (fun h=>h);have qp:=(k4.tt k5).tt k6;have s4:=k4.size;have s5:=k5.size;have s6:=k6.size;have l4:=a7 PL;have l5:=a7 Yn;have l6:=a7 RN;clear_value w5 w4;obtain⟨p',G9,tY,Cf,VT,VQ⟩:∃p':PN,p'= {p with yb:=w4.heap.size,hb:=w.heap.size}/\p'.zl=p.zl/\p'.fm=p.fm/\p'.bc=p.bc/\p'.bh=p.bh:=⟨_,rfl,rfl,rfl,rfl,rfl⟩;have ZM:p'.yb=w4.heap.size:=by rw [G9]
 have Sk:p'.hb=w.heap.size:=by rw [G9]
 have B6:PG w6 F c k G m s h p' ov:=by
  rw [G9];exact⟨B.C.same qp,B.V.same qp,qp.heap B.kb (fun h=>h),qp.heap B.fb (fun h=>h),by show w6.cell? ⟨w4.heap.size,0,none⟩=_;rw [aA hy6];rfl,hh6,B.fo,B.ff,B.kQ,(by show w4.heap.size≠p.fm;omega),(by show w.heap.size≠p.fm;omega)⟩
 generalize tX:pF ov (lf m.sz l)=kn at*;have hF6:vN w6 p'.fm kn []:=by rw [Cf];exact hF.same qp
 generalize iO:mI G h bl l=js at*;have oW:bY G.D bl h++vS G h l=js:=iO;rw [<-Cf]at hbf ZD XX;have Wn:∀w' (r:Bool),r=dN k kn [] js->(r=true->vN w' p'.fm kn js)->Kept (· =p'.fm) w w'->K (.bool r) w':=by rw [Cf];exact hK
 have kA:∀ {v:World},Kept (· =p'.fm) w6 v->Kept (· =p'.fm) w v:=fun k=>(qp.mono fun _ _ h=>h.elim).tt k;have fin:∀ {v:World} (r:Bool),Kept (· =p'.fm) w6 v->∃u:World,u=v.setCell ⟨w5.heap.size,0,none⟩ (.bool r)/\Wr v ⟨w5.heap.size,0,none⟩/\u.heap[w5.heap.size]? =some (.cells #[.bool r] iV (0,0))/\Kept (· =w5.heap.size) v u:=fun {v} r kv=>by
  have hr:=kv.heap RN (by omega);refine⟨_,rfl,dz hr (by simp),?_,Kept.setCell (S:=fun k=>k=w5.heap.size) (Kept.refl _ v) (p:=⟨w5.heap.size,0,none⟩) (fun _=>rfl) _⟩;rw [cR hr 0];rfl
 have Ts:∀ {v u:World},Kept (· =p'.fm) w6 v->Kept (· =w5.heap.size) v u->Kept (· =p'.fm) w u:=fun kv ku=>⟨ku.os.trans (kA kv).os,ku.tape.trans (kA kv).tape,ku.output.trans (kA kv).output,Nat.le_trans (kA kv).size ku.size,fun j hj hn=>by rw [ku.block j (Nat.lt_of_lt_of_le hj (kA kv).size) (by omega),(kA kv).block j hj hn]⟩;refine⟨A,n,cx,by rw [aA (qp.heap Cl (fun h=>h))];rfl,?_⟩;rw [<-VT,<-VQ];refine af.b9 (I:=fun s0 v=>∃i:Nat,s0=(i:Int)/\i<=n/\vN v p'.fm kn (bY G.D (bl.take i) h)/\dN k kn [] (bY G.D (bl.take i) h)=true/\Kept (· =p'.fm) w6 v) (μ:=fun s0 _=>((n:Int)-s0).toNat) (s:=0) ⟨0,rfl,Nat.zero_le _,hF6,rfl,Kept.refl _ _⟩ ?_;rintro s0 v ⟨i,rfl,hi,Wq,cV,kv⟩;have Bv:=B6.aK kv;refine Split.dec (fun lE=>?_) (fun iG=>?_)
 ·have eV:i<n:=by omega
  obtain⟨b,hb⟩:=Ck.get_mem eV;have VP:HS v A n bl:=Ck.aK (kA kv) ZD;refine VP.load (i:=(i:Int)) (by omega) hb ?_;intro pY;obtain⟨ri,ju,jc⟩:=fY (w:=v) (z:=fy.1) (cs:=b.1) (t:=ax) (by rw [b.2.1];rfl);refine⟨⟨b.2.1,b.2.one,fun j hj=>ri j (by rw [b.2.1];exact hj)⟩,?_⟩;intro ln
  replace ju:ln.heap[v.heap.size]? =some (.cells b.1 ax (0,0)):=ju
  replace jc:Kept Nil v ln:=jc
  clear_value ln;have sv:=(kA kv).size;have LV:=Bv.same jc;have e1:=wC (D:=G.D) (h:=h) hb;have e2:∃rest,bY G.D (bl.take i) h++(if nf G.D b h then [b]else [])++rest=js:=by
   refine⟨bY G.D (bl.drop (i+1)) h++vS G h l,?_⟩;rw [<-e1,<-oW,<-List.append_assoc,<-fw,List.take_append_drop]
  obtain⟨rest,e2⟩:=e2;refine⟨some ⟨c,0,none⟩,by rw [aA LV.V.hc];rfl,b.1,⟨b.2.1,Cells.bW ju⟩,h.1,⟨h.2.1,by have:=LV.hb;rw [Sk]at this;exact Cells.bW this⟩,?_⟩;rw [<-ZM];refine qi LV hD rH hs hc (done:=bY G.D (bl.take i) h) (by rw [tX];exact Wq.same jc) ju (by omega) (fun ha=>by
   rw [if_pos ha]at e2;rw [<-e2]at uQ;exact(List.nodup_append.1 uQ).1) ?_ ?_
  ·intro u ha hp ku
   rw [tX]at hp;have Rt:Kept (· =p'.fm) w6 u:=(kv.trans jc (fun _ _ h=>h.elim)).tt ku;obtain⟨u',eu,hw,OF,kuu⟩:=fin false Rt;refine⟨hw,?_⟩;intro L4;have e30:L4=u':=eu.symm;rw [fS,af.u7,e30];rw [if_pos ha,List.append_assoc]at e2;exact⟨false,by rw [aA OF];rfl,Wn u' false (zD e2 hp).symm (fun e=>by cases e) (Ts Rt kuu)⟩
  ·intro u uV ed hp I8 ku
   rw [tX]at hp I8;have Rt:Kept (· =p'.fm) w6 u:=(kv.trans jc (fun _ _ h=>h.elim)).tt ku;rw [eF (n:=(i:Int)) (by omega) (by omega)];refine⟨(i:Int)+1,rfl,⟨i+1,rfl,eV,?_,?_,Rt⟩,by simp only;omega⟩
   ·rw [e1,<-ed];exact I8
   ·rw [e1]
    by_cases ha:nf G.D b h
    ·rw [if_pos ha];exact vJ cV (hp ha)
    ·rw [if_neg ha,List.append_nil];exact cV
 ·rw [aY,af.dw]
  rw [List.take_of_length_le (by omega)]at cV Wq;unfold af.cU;intro p5;have Al:Kept Nil v p5:=(Kept.refl _ _).drew;clear_value p5;have Xm:=Bv.same Al;refine⟨some ⟨c,0,none⟩,by rw [aA Xm.V.hc];rfl,_,Xm.C.c1,s.1,⟨s.2.1,Cells.bW Xm.V.hh⟩,?_⟩;refine qH s fun gW pb qb lN G8 G5 Ca hqb=>⟨_,rfl,?_⟩;have JN:Kept Nil v gW:=Al.tt lN;have GH:Kept (· =p'.fm) w6 gW:=kv.trans JN (fun _ _ h=>h.elim);have B35:=Bv.same JN;have aam:=GH.size;have Wu:vN gW p'.fm kn (bY G.D bl h):=Wq.same JN
  let zl:Value:=.func (.func aQ.id) #[] #[.pointer (some ⟨pb,0,none⟩),.pointer (some ⟨qb,0,none⟩)]
  let ρ0:Env:= [(3,.pointer (some ⟨p'.bc,0,none⟩)),(5,.pointer (some ⟨w.heap.size,0,none⟩)),(6,.pointer (some ⟨w4.heap.size,0,none⟩)),(7,.pointer (some ⟨w5.heap.size,0,none⟩)),(36,zl)]
  let J:Nat->World->Prop:=fun j u=>∃done:List HT,done++vS G h (l.drop j)=js/\vN u p'.fm kn done/\dN k kn [] done=true/\Kept (· =p'.fm) gW u/\j<=l.length
  let Jd:Code->World->Prop:=fun e u=>e=.ret/\∃r:Bool,u.heap[w5.heap.size]? =some (.cells #[.bool r] iV (0,0))/\r=dN k kn [] js/\(r=true->vN u p'.fm kn js)/\Kept (fun j=>j=p'.fm\/j=w5.heap.size) gW u
  have lpb:=a7 G8;have lqb:=a7 G5;have aal:=Al.size;have svw:=(kA kv).size;obtain⟨mx,W2,YD⟩:=B35.C.X;have XJ:∀ {u:World},Kept (· =p'.fm) gW u->XV u m.FX m.x G.D G.P mx:=fun k=>W2.aK k (fun j hj e=>by subst e;rw [Cf]at hj;exact B.fo (.inl (YD _ hj))) (fun j hj e=>by subst e;rw [Cf]at hj;exact B.ff (B.C.fx _ hj))
  change Holds none [] prog _ _ _ ρ0 gW
  have out:∀ {u:World} {R:Loop} (r:Bool),Kept (· =p'.fm) gW u->Live (gW.heap.size+1) gW.heap.size R u->r=dN k kn [] js->(r=true->vN u p'.fm kn js)->Wr u ⟨w5.heap.size,0,none⟩/\∀u',u'=u.setCell ⟨w5.heap.size,0,none⟩ (.bool r)->Live (gW.heap.size+1) gW.heap.size R u'/\Jd .ret u':=fun {u R} r ku hl hr hf=>by
   obtain⟨u0,e0,t1,t2,t3⟩:=fin r (GH.tt ku);refine⟨t1,fun u' eu=>?_⟩;rw [eu,<-e0];refine⟨hl.aK t3 (by omega) (by omega),rfl,r,t2,hr,fun e=>(hf e).aK t3 (by omega),(ku.mono fun _ _ h=>.inl h).trans t3 (fun _ _ h=>.inr h)⟩
  refine mn (n:=90) (ρ:=ρ0) (ρ0:=ρ0) ng mix af.k (t:=36) (ps:= #[37]) (by kernel_rfl) (by decide) rfl aQ.at_ rfl (.inl rfl) (fun i x hi hx=>hx) rfl pR l (fun _=>rfl) (fun q hq=>by
   have WT:q=37:=by simpa using hq
   subst WT;exact⟨by decide,by decide⟩) (zT (F:=m.FX) (x:=m.x) (m:=mx) (pb:=pb) (qb:=qb) hc (by omega)) J Jd ?_ ?_ (fun j u ⟨done,_,_,_,kJ,_⟩=>⟨XJ kJ,kJ.heap G8 (by omega),kJ.heap G5 (by omega)⟩) ?_ ?_ ?_ ?_ ?_
  ·rintro j u1 u2 R oV ⟨done,h1,h2,h3,h4,h5⟩ mX
   exact⟨done,h1,h2.aK mX (by omega),h3,h4.trans mX (fun k hk e=>by omega),h5⟩
  ·rintro e u1 u2 R oV ⟨h1,r,h2,h3,h4,h5⟩ mX
   exact⟨h1,r,mX.heap h2 (by omega),h3,fun e=>(h4 e).aK mX (by omega),h5.trans mX (fun k hk e=>by omega)⟩
  ·intro R
   have ka:Kept Nil gW ((gW.alloc (.deferred (some []))).alloc (.loop R)):=(((Kept.refl _ _).alloc _).alloc _);exact⟨bY G.D bl h,oW,Wu.same ka,cV,ka.mono fun _ _ h=>h.elim,Nat.zero_le _⟩
  ·rintro j z u1 R hz ⟨done,h1,h2,h3,h4,h5⟩ oV
   have e7:jV ρ0 ((#[37]:Array Nat).toList.zip (pR z))= [(3,.pointer (some ⟨p'.bc,0,none⟩)),(5,.pointer (some ⟨w.heap.size,0,none⟩)),(6,.pointer (some ⟨w4.heap.size,0,none⟩)),(7,.pointer (some ⟨w5.heap.size,0,none⟩)),(36,zl),(37,.agg z.1)]:=rfl;rw [e7,af.a1];have tD:=(lgeS hz).1;have Oj:=RU z (List.mem_of_getElem? hz);have QX:l.drop j=z::l.drop (j+1):=by
    obtain⟨hi,e⟩:=lgeS hz;rw [List.drop_eq_getElem_cons hi,e]
   rw [QX,vS]at h1;unfold af.A1;intro w43;obtain⟨ri,ju,jc⟩:=fY (w:=u1) (z:=fy.1) (cs:=z.1) (t:=ax) (by rw [z.2.1];rfl);refine⟨⟨z.2.1,z.2.one,fun j hj=>ri j (by rw [z.2.1];exact hj)⟩,?_⟩;intro HX
   replace ju:HX.heap[u1.heap.size]? =some (.cells z.1 ax (0,0)):=ju
   replace jc:Kept Nil u1 HX:=jc
   clear_value HX;have EF:=oV.aK jc (fun h=>h) (fun h=>h);refine⟨EF,fun w2 R2 mN tC=>?_⟩;have o6:=mN.heap ju (jE ju EF.loop);have aao:=h4.size;have tO:Kept (· =p'.fm) gW w2:=(h4.trans jc (fun _ _ h=>h.elim)).trans mN (fun k hk e=>by omega);have R9:vN w2 p'.fm kn done:=(h2.same jc).aK mN (by omega);have B2:=B35.aK tO;rw [af.y1];unfold af.Y1;have e2:∃rest,done++(if nf G.D z h then [z]else [])++rest=js:=⟨_,(List.append_assoc _ _ _).trans h1⟩;obtain⟨rest,e2⟩:=e2;refine⟨some ⟨c,0,none⟩,by rw [aA B2.V.hc];rfl,z.1,⟨z.2.1,Cells.bW o6⟩,h.1,⟨h.2.1,by have:=B2.hb;rw [Sk]at this;exact Cells.bW this⟩,?_⟩;rw [<-ZM];refine qi B2 hD rH hs hc (done:=done) (by rw [tX];exact R9) o6 (by omega) (fun ha=>by
    rw [if_pos ha]at e2;rw [<-e2]at uQ;exact(List.nodup_append.1 uQ).1) ?_ ?_
   ·intro u ha hp ku
    rw [tX]at hp;rw [if_pos ha,List.append_assoc]at e2;obtain⟨o1,o2⟩:=out (u:=u) false (tO.tt ku) (tC.aK ku (by omega) (by omega)) (zD e2 hp).symm (fun e=>by cases e);refine⟨o1,?_⟩;intro SH;exact o2 SH rfl
   ·intro u uV ed hp I8 ku
    rw [tX]at hp I8;have TB:=tO.tt ku;have Y4:=tC.aK ku (by omega) (by omega);have I6:dN k kn [] uV=true:=by
     rw [ed];by_cases ha:nf G.D z h
     ·rw [if_pos ha];exact vJ h3 (hp ha)
     ·rw [if_neg ha,List.append_nil];exact h3
    rw [<-List.append_assoc,<-ed]at h1;intro SF;have Ye:Kept Nil u SF:=(Kept.refl _ _).drew;clear_value SF;have JS:Kept (· =p'.fm) w2 SF:=ku.trans Ye (fun _ _ h=>h.elim);have Sx:=B2.aK JS;have TL:=JS.heap o6 (by omega);obtain⟨mx1,X61,_⟩:=Sx.C.X;refine⟨some ⟨c,0,none⟩,by rw [aA Sx.V.hc];rfl,_,Sx.C.c1,z.1,⟨z.2.1,Cells.bW TL⟩,h.1,⟨h.2.1,by have:=Sx.hb;rw [Sk]at this;exact Cells.bW this⟩,?_⟩;refine jn X61 hD z h fun CO r hr BU=>⟨r,rfl,?_⟩;have GC:Kept Nil u CO:=Ye.tt BU;have Pp:=Y4.aK GC (fun h=>h) (fun h=>h);have NS:=TB.trans GC (fun _ _ h=>h.elim);have Ws:=I8.same GC;cases r with
    |true=>
     have ET:=hr.1 rfl;rw [if_pos ET,List.append_nil]at h1;obtain⟨o1,o2⟩:=out (u:=CO) true NS Pp (by rw [<-h1,I6]) (fun _=>by rw [<-h1];exact Ws);refine Split.yes rfl ⟨o1,?_⟩;intro Jp;exact o2 Jp rfl
    |false=>
     have Pb:¬fE G.D z h:=fun e=>by have:=hr.2 e;cases this
     rw [if_neg Pb]at h1;refine Split.no rfl ?_;intro Db;have Ig:Kept Nil CO Db:=(Kept.refl _ _).drew;clear_value Db;have GQ:Kept (· =p'.fm) w2 Db:=JS.trans (BU.tt Ig) (fun _ _ h=>h.elim);have Rl:=B2.aK GQ;have Ol:=GQ.heap o6 (by omega);obtain⟨A1,n1,c1,B1,m1,d1,s1,sa⟩:=Rl.C.seen z Oj;refine⟨some ⟨c,0,none⟩,by rw [aA Rl.V.hc];rfl,_,Rl.C.c2,z.1,⟨z.2.1,Cells.bW Ol⟩,_,Rl.C.oH Oj,_,⟨bX ..,sa.iY⟩,?_⟩;intro Xq;have Tu:Kept Nil Db Xq:=(Kept.refl _ _).alloc _;obtain⟨Kn,xr,vw⟩:=fY (w:=Db) (z:=zC) (cs:=dS (G.iY z) A1 n1 c1 B1 m1 d1) (t:=cB) (by rw [bX];rfl);have Xl:=Rl.same Tu;refine⟨⟨_,rfl,bX ..,(sa.aK Tu (fun _ _ h=>h)).iY⟩,Xl.C.oH Oj,⟨z.1,rfl,z.2.1,Cells.bW (Tu.heap Ol (fun h=>h))⟩,Xl.C.c2,by rw [aA Xl.V.hc];rfl,⟨bX ..,kR _ _ _ _ _ _ _,fun j hj=>Kn j (by rw [bX];exact hj)⟩,?_⟩;intro LX
     replace xr:LX.heap[Db.heap.size]? =some (.cells (dS (G.iY z) A1 n1 c1 B1 m1 d1) cB (0,0)):=xr
     replace vw:Kept Nil Db LX:=vw
     clear_value LX Xq;have NH:Kept Nil u LX:=GC.tt (Ig.tt vw);have NV:Kept (· =p'.fm) w2 LX:=GQ.trans vw (fun _ _ h=>h.elim);have aaq:=NV.size;have aar:=GQ.size;have s2:=tO.size;have acx:=Y4.aK NH (fun h=>h) (fun h=>h);have SV:=sa.aK vw (fun _ _ h=>h);have YX:=sa.mg.len;have Qj:=sa.bl.len;have Vt:∀j,F j->j≠p'.fm:=fun j hj e=>by rw [Cf]at e;subst e;exact B.ff hj
     have VH:=gL (G.iY z) A1 n1 c1 B1 m1 d1 #[];rw [Array.append_empty]at VH;refine⟨A1,n1,c1,by rw [bt,aA xr];exact VH.2.1,?_⟩;have Y6:(G.iY z).iH.length=(G.iY z).merge.length:=by
      rcases(cN.ex H z)with⟨lz,cz⟩;rcases cz.inv W H Oj with⟨_,nd,h0,rfl⟩|⟨t,r',_,oo,_,_⟩
      ·obtain⟨r1,_⟩:=B.C.iM.root nd h0
       rw [r1];rfl
      ·exact(B.C.iM.up t z oo).2.2.1
     have FQ:(G.iY z).merge.length<=G.D.length:=by
      have gJ:(G.iY z).merge.Nodup/\∀y∈(G.iY z).merge,y∈ids G.D:=by
       rcases(cN.ex H z)with⟨lz,cz⟩;rcases cz.inv W H Oj with⟨_,nd,h0,rfl⟩|⟨t,r',_,oo,_,_⟩
       ·obtain⟨r1,_⟩:=B.C.iM.root nd h0
        rw [r1];exact⟨List.nodup_nil,fun y hy=>by cases hy⟩
       ·obtain⟨_,_,_,g1,g2⟩:=B.C.iM.up t z oo
        exact⟨g1,fun y hy=>(((g2 y).1 hy).1.mem W).1⟩
      have:=eo gJ.1 gJ.2
      rwa [jF]at this
     refine af.iK (I:=fun s0 v=>∃i:Nat,s0=(i:Int)/\i<=n1/\∃dn:List HT,dn++(bY G.D (dL ((G.iY z).merge.drop i) ((G.iY z).iH.drop i)) h++vS G h (l.drop (j+1)))=js/\vN v p'.fm kn dn/\dN k kn [] dn=true/\Kept (· =p'.fm) LX v) (μ:=fun s0 _=>((n1:Int)-s0).toNat) (s:=0) ⟨0,rfl,Nat.zero_le _,uV,by rw [List.drop_zero,List.drop_zero];exact h1,I8.same NH,I6,Kept.refl _ _⟩ ?_;rintro s0 v2 ⟨i2,rfl,Ce,dn,g1,g2,g3,g4⟩;have D4:Kept (· =p'.fm) w2 v2:=NV.tt g4;have Bv2:=B2.aK D4;have SU:=SV.aK g4 (fun j hj e=>Vt j hj e);have NR:=tO.tt D4;have Po:=tC.aK D4 (by omega) (by omega);have sv2:=D4.size;refine Split.dec (fun lE=>?_) (fun iG=>?_)
     ·have eV:i2<n1:=by omega
      obtain⟨b,hb⟩:=SU.mg.get_mem eV;obtain⟨WY,Qq⟩:∃y,(G.iY z).iH[i2]? =some y:=⟨_,List.getElem?_eq_getElem (by omega)⟩;refine SU.mg.load (i:=(i2:Int)) (by omega) hb ?_;intro pY;obtain⟨TU,Cj,tW⟩:=fY (w:=v2) (z:=fy.1) (cs:=b.1) (t:=ax) (by rw [b.2.1];rfl);refine⟨⟨b.2.1,b.2.one,fun j hj=>TU j (by rw [b.2.1];exact hj)⟩,?_⟩;intro ln
      replace Cj:ln.heap[v2.heap.size]? =some (.cells b.1 ax (0,0)):=Cj
      replace tW:Kept Nil v2 ln:=tW
      clear_value ln;have LV:=Bv2.same tW;have Qh:=tW.heap (g4.heap xr (by omega)) (fun h=>h);have SY:=SU.aK tW (fun _ _ h=>h);obtain⟨aB,EX,_,Lg⟩:=SY.bl.at_ i2 WY Qq;subst EX;refine⟨some aB,m1,d1,by rw [bt,aA Qh];exact VH.2.2.1,⟨by omega,by omega⟩,WY,by rw [Int.toNat_natCast,Nat.mul_one];exact Lg,?_⟩;rw [zA hb Qq]at g1;cases WY with
      |false=>
       refine Split.no rfl ?_;rw [eF (n:=(i2:Int)) (by omega) (by omega)];exact⟨(i2:Int)+1,rfl,⟨i2+1,rfl,eV,dn,g1,g2.same tW,g3,g4.trans tW (fun _ _ h=>h.elim)⟩,by simp only;omega⟩
      |true=>
       rw [if_pos rfl,fw,List.append_assoc]at g1;have WN:bY G.D [b] h=if nf G.D b h then [b]else []:=by
        unfold bY;by_cases hp:nf G.D b h
        ·rw [if_pos hp,List.filter_cons_of_pos (by simpa using hp)];rfl
        ·rw [if_neg hp,List.filter_cons_of_neg (by simpa using hp)];rfl
       rw [WN,<-List.append_assoc]at g1;refine Split.yes rfl ⟨some ⟨c,0,none⟩,by rw [aA LV.V.hc];rfl,b.1,⟨b.2.1,Cells.bW Cj⟩,h.1,⟨h.2.1,by have:=LV.hb;rw [Sk]at this;exact Cells.bW this⟩,?_⟩;refine qi LV hD rH hs hc (done:=dn) (by rw [tX];exact g2.same tW) Cj (by omega) (fun ha=>by
        rw [if_pos ha]at g1;rw [<-g1]at uQ;exact(List.nodup_append.1 uQ).1) ?_ ?_
       ·intro u2 ha hp Tq
        rw [tX]at hp;rw [if_pos ha,List.append_assoc]at g1;have kk:Kept (· =p'.fm) v2 u2:=(tW.mono fun _ _ h=>h.elim).tt Tq;obtain⟨o1,o2⟩:=out (u:=u2) false (NR.tt kk) (Po.aK kk (by omega) (by omega)) (zD g1 hp).symm (fun e=>by cases e);refine⟨o1,?_⟩;intro SH;rw [fS];exact o2 SH rfl
       ·intro u2 dn' ZN Mq QL Tq
        rw [tX]at Mq QL;have kk:Kept (· =p'.fm) v2 u2:=(tW.mono fun _ _ h=>h.elim).tt Tq;rw [eF (n:=(i2:Int)) (by omega) (by omega)];refine⟨(i2:Int)+1,rfl,⟨i2+1,rfl,eV,dn',by rw [ZN];exact g1,QL,?_,g4.tt kk⟩,by simp only;omega⟩;rw [ZN];by_cases ha:nf G.D b h
        ·rw [if_pos ha];exact vJ g3 (Mq ha)
        ·rw [if_neg ha,List.append_nil];exact g3
     ·rw [aY,af.Sz]
      unfold af.Ra;have en:(G.iY z).merge.drop i2= []:=List.drop_eq_nil_of_le (by omega);rw [en]at g1;exact⟨Po,dn,by simpa [dL,bY]using g1,g2,g3,NR,tD⟩
  ·rintro u1 R ⟨done,h1,h2,h3,h4,h5⟩ oV
   have e7:fZ ρ0 gW.heap.size= [(3,.pointer (some ⟨p'.bc,0,none⟩)),(5,.pointer (some ⟨w.heap.size,0,none⟩)),(6,.pointer (some ⟨w4.heap.size,0,none⟩)),(7,.pointer (some ⟨w5.heap.size,0,none⟩)),(36,zl),(4294967296,.agg (oQ [gW.heap.size]))]:=rfl;rw [e7,af.jw];unfold af.iC;have ec:done=js:=by rw [<-h1,List.drop_of_length_le (Nat.le_refl _),vS,List.append_nil]
   obtain⟨o1,o2⟩:=out (u:=u1) true h4 oV (by rw [<-ec,h3]) (fun _=>by rw [<-ec];exact h2);refine⟨o1,?_⟩;intro oL;obtain⟨U3,_,r,t1,t2,t3,t4⟩:=o2 oL rfl;clear_value oL;rw [lM];have kt:=jh [gW.heap.size] oL;have hm:∀E∈ [gW.heap.size],oL.heap[E]? =some (.deferred (some [])):=fun E hE=>by
    rw [List.mem_singleton]at hE;subst hE;exact U3.mark
   refine⟨kM [gW.heap.size] oL (by simp) hm,r,by rw [aA (kt.heap t1 (fun hE=>by rw [List.mem_singleton]at hE;omega))];rfl,?_⟩;exact Wn _ r t2 (fun e=>(t3 e).aK kt (fun hE=>by rw [List.mem_singleton]at hE;omega)) (((kA GH).trans t4 (fun j hj e=>by rcases e with e|e;exact e;omega)).trans kt (fun j hj hE=>by rw [List.mem_singleton]at hE;omega))
  ·rintro u1 R ⟨_,r,t1,t2,t3,t4⟩ oV
   have e7:fZ ρ0 gW.heap.size= [(3,.pointer (some ⟨p'.bc,0,none⟩)),(5,.pointer (some ⟨w.heap.size,0,none⟩)),(6,.pointer (some ⟨w4.heap.size,0,none⟩)),(7,.pointer (some ⟨w5.heap.size,0,none⟩)),(36,zl),(4294967296,.agg (oQ [gW.heap.size]))]:=rfl;rw [e7,af.x6];unfold af.tw;rw [lM];have kt:=jh [gW.heap.size] u1;have hm:∀E∈ [gW.heap.size],u1.heap[E]? =some (.deferred (some [])):=fun E hE=>by
    rw [List.mem_singleton]at hE;subst hE;exact oV.mark
   refine⟨kM [gW.heap.size] u1 (by simp) hm,r,by rw [aA (kt.heap t1 (fun hE=>by rw [List.mem_singleton]at hE;omega))];rfl,?_⟩;exact Wn _ r t2 (fun e=>(t3 e).aK kt (fun hE=>by rw [List.mem_singleton]at hE;omega)) (((kA GH).trans t4 (fun j hj e=>by rcases e with e|e;exact e;omega)).trans kt (fun j hj hE=>by rw [List.mem_singleton]at hE;omega))
  ·rintro id u1 R ⟨e,_⟩ oV
   cases e
end
end Go.Proofs.YtfleamccglihoaaGreatDoor
