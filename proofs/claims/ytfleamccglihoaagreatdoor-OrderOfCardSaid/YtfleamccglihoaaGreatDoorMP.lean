import Derived.Test.YtfleamccglihoaaGreatDoorMI
import Derived.Test.YtfleamccglihoaaGreatDoorMJ
import Derived.Test.YtfleamccglihoaaGreatDoorMN
import Derived.Test.YtfleamccglihoaaGreatDoorMG
open Go.IntKind (i64 u64)
set_option linter.unusedVariables false
namespace Go.Proofs.YtfleamccglihoaaGreatDoor
open Go.Proofs.Tryz
open Go Go.bW
structure ou where
 iA:HT
 score:Nat
 merge:List HT
 fK:List Bool
structure GS where
 D:DG
 P:List Int
 qF:List ou
 kV:List (List HT)
def GS.at_(G:GS)(h:HT):Option Nat:=pos h (ids G.D) 0
def GS.fZ(G:GS)(h:HT):ou:=((G.at_ h).bind (G.qF[·]?)).getD ⟨eN,0,[],[]⟩
def GS.world(G:GS)(h:HT):List HT:=((G.at_ h).bind (G.kV[·]?)).getD []
def GS.score(G:GS)(h:HT):Nat:=(G.fZ h).score
def gl(G:GS)(a b:HT):Bool:=decide (G.score a<G.score b)||(decide (G.score a=G.score b)&&cY a b)
def BC(G:GS)(a b:HT):Int:=if gl G a b then-1 else if gl G b a then 1 else 0
def cF(G:GS):List HT->HT
 | []=>eN
 |x::l=>l.foldl (fun b y=>if gl G b y then y else b) x
def oq(D:DG)(a b:HT):Prop:=a≠b/\¬fz D a b/\¬fz D b a
noncomputable instance(D:DG)(a b:HT):Decidable (oq D a b):=Classical.propDecidable _
noncomputable instance(D:DG)(a b:HT):Decidable (fz D a b):=Classical.propDecidable _
noncomputable def bZ(D:DG)(l:List HT)(h:HT):List HT:=l.filter fun b=>decide (oq D b h)
def SO(G:GS)(l:List HT):Prop:=l.Pairwise fun a b=>gl G a b=true
noncomputable def sT(D:DG)(s:HT)(l:List HT):List HT:=(dD (eF D l++l)).filter fun h=>decide (h≠s/\¬fz D h s)
def wX(G:GS)(x:HT):List HT->List HT
 | []=> [x]
 |y::l=>if gl G x y then x::y::l else y::wX G x l
noncomputable def cR(G:GS)(s:HT)(l:List HT):List HT:=(sT G.D s l).foldr (wX G) []
noncomputable def oV(k:Nat)(D:DG)(wd:List HT)(h:HT):Bool:=decide ((bZ D wd h).length<=k/\∀y∈bZ D wd h,(bZ D wd y).length+1<=k)
structure VS where
 wd:List HT
 bl:List Bool
noncomputable def oO(k:Nat)(D:DG)(s:VS)(h:HT):VS:=⟨if oV k D s.wd h then s.wd++ [h]else s.wd,s.bl++ [oV k D s.wd h]⟩
noncomputable def fU(k:Nat)(G:GS)(s:HT)(l:List HT):VS:=(cR G s l).foldl (oO k G.D) ⟨G.world s++ [s],[]⟩
noncomputable def dg(k:Nat)(G:GS)(s:HT)(l:List HT):ou:=⟨s,G.score s+1+(fU k G s l).bl.count true,cR G s l,(fU k G s l).bl⟩
noncomputable def dE(k:Nat)(G:GS)(h:HT)(ps:List HT):GS:=
 if dL G.D h ps=0 then⟨G.D++ [⟨h,dD ps⟩],G.P++ [(((pos (cF G ps) (ids G.D) 0).getD 0:Nat):Int)],G.qF++ [dg k G (cF G ps) ps],G.kV++ [(fU k G (cF G ps) ps).wd]⟩else G
def du(r:HT):GS:=⟨[⟨r,[]⟩],[-1],[⟨eN,0,[],[]⟩],[[]]⟩
def eA:List HT->List Bool->List HT
 |h::l,b::m=>if b then h::eA l m else eA l m
 |_,_=> []
theorem nS(G:GS)(a:HT):gl G a a=false:=by simp [gl,iD]
theorem pS{G:GS}{a b c:HT}(h:gl G a b=true)(h':gl G b c=true):gl G a c=true:=by
 simp only [gl,Bool.or_eq_true,Bool.and_eq_true,decide_eq_true_eq]at*;rcases h with h|⟨h,h1⟩
 ·rcases h' with h'|⟨h',h2⟩
  ·exact .inl (by omega)
  ·exact .inl (by omega)
 ·rcases h' with h'|⟨h',h2⟩
  ·exact .inl (by omega)
  ·exact .inr ⟨by omega,kM h1 h2⟩
theorem pT{G:GS}{a b:HT}(h:gl G a b=false)(h':gl G b a=false):a=b:=by
 simp only [gl,Bool.or_eq_false_iff,Bool.and_eq_false_iff,decide_eq_false_iff_not]at*;have e:G.score a=G.score b:=by omega
 obtain⟨_,h2⟩:=h;obtain⟨_,h3⟩:=h';exact qq (by rcases h2 with h2|h2;exact absurd e h2;exact h2) (by rcases h3 with h3|h3;exact absurd e.symm h3;exact h3)
theorem Bk{G:GS}{a b:HT}(h:gl G a b=true):gl G b a=false:=by
 cases hb:gl G b a
 ·rfl
 ·have:=pS h hb
  rw [nS]at this;cases this
theorem zj{G:GS}{a b:HT}:BC G a b<0↔gl G a b=true:=by
 unfold BC;split
 ·simp_all
 ·split<;>simp_all
theorem MA(G:GS)(a b:HT):BC G a b=if G.score a<G.score b then-1 else if G.score b<G.score a then 1 else lT a b:=by
 unfold BC lT gl;by_cases h1:G.score a<G.score b
 ·simp [h1]
 ·by_cases h2:G.score b<G.score a
  ·have:¬G.score a=G.score b:=by omega
   simp [h1,h2,this]
  ·have:G.score a=G.score b:=by omega
   simp [this]
theorem SO.cons{G:GS}{x:HT}{l:List HT}:SO G (x::l)↔(∀y∈l,gl G x y=true)/\SO G l:=List.pairwise_cons
theorem SO.nodup{G:GS}{l:List HT}(h:SO G l):l.Nodup:=List.Pairwise.imp (fun {a b} jT e=>by subst e;rw [nS]at jT;cases jT) h
theorem Kk{G:GS}:∀ {l m:List HT},SO G l->SO G m->(∀x,x∈l↔x∈m)->l=m
 | [],[],_,_,_=>rfl
 | [],y::m,_,_,h=>by have:=(h y).2 (by simp);simp at this
 |x::l,[],_,_,h=>by have:=(h x).1 (by simp);simp at this
 |x::l,y::m,hl,hm,h=>by
  rw [SO.cons]at hl hm;have oY:x=y:=by
   rcases List.mem_cons.1 ((h x).1 List.mem_cons_self)with e|e
   ·exact e
   ·rcases List.mem_cons.1 ((h y).2 List.mem_cons_self)with e'|e'
    ·exact e'.symm
    ·have h1:=hm.1 _ e
     have h2:=hl.1 _ e';rw [Bk h1]at h2;cases h2
  subst oY;have:l=m:=Kk hl.2 hm.2 fun z=>by
   have hz:=h z;simp only [List.mem_cons]at hz;constructor
   ·intro nA
    rcases hz.1 (.inr nA)with e|e
    ·subst e;have:=hl.1 _ nA;rw [nS]at this;cases this
    ·exact e
   ·intro nA
    rcases hz.2 (.inr nA)with e|e
    ·subst e;have:=hm.1 _ nA;rw [nS]at this;cases this
    ·exact e
  rw [this]
theorem vH{G:GS}{x z:HT}:∀ {l:List HT},z∈wX G x l↔z=x\/z∈l
 | []=>by simp [wX]
 |y::l=>by
  unfold wX;split
  ·simp
  ·simp only [List.mem_cons,vH (l:=l)]
   constructor
   ·rintro(h|h|h)<;>simp [h]
   ·rintro(h|h|h)<;>simp [h]
theorem EU{G:GS}{x:HT}:∀ {l:List HT},SO G l->x∉l->SO G (wX G x l)
 | [],_,_=>by simp [wX,SO]
 |y::l,h,hx=>by
  have h':=SO.cons.1 h;simp only [List.mem_cons,not_or]at hx;unfold wX;split
  ·rename_i oY
   refine SO.cons.2 ⟨fun z hz=>?_,h⟩;rcases List.mem_cons.1 hz with rfl|hz
   ·exact oY
   ·exact pS oY (h'.1 _ hz)
  ·rename_i oY
   refine SO.cons.2 ⟨fun z hz=>?_,EU h'.2 hx.2⟩;rcases vH.1 hz with rfl|hz
   ·cases RX:gl G y z
    ·exact absurd (pT RX (by simpa using oY)).symm hx.1
    ·rfl
   ·exact h'.1 _ hz
theorem qp{G:GS}{z:HT}:∀ {l:List HT},z∈l.foldr (wX G) []↔z∈l
 | []=>by simp
 |x::l=>by rw [List.foldr_cons,vH,qp,List.mem_cons]
theorem BN{G:GS}:∀ {l:List HT},l.Nodup->SO G (l.foldr (wX G) [])
 | [],_=>List.Pairwise.nil
 |x::l,h=>by
  rw [List.nodup_cons]at h;exact EU (BN h.2) fun e=>h.1 (qp.1 e)
theorem qV(D:DG)(s:HT)(l:List HT):(sT D s l).Nodup:=(jl _).nodup.filter _
theorem vG{D:DG}{s:HT}{l:List HT}{h:HT}:h∈sT D s l↔((h∈ids D/\∃p∈l,fz D h p)\/h∈l)/\h≠s/\¬fz D h s:=by
 unfold sT eF;rw [List.mem_filter,dV,List.mem_append,jQ,decide_eq_true_eq]
theorem ko{G:GS}{s:HT}{l:List HT}{h:HT}:h∈cR G s l↔((h∈ids G.D/\∃p∈l,fz G.D h p)\/h∈l)/\h≠s/\¬fz G.D h s:=by
 unfold cR;rw [qp,vG]
theorem mr(G:GS)(s:HT)(l:List HT):SO G (cR G s l):=BN (qV _ _ _)
theorem sU{G:GS}{s:HT}{l m:List HT}(hs:SO G m)(h:∀x,x∈m↔x∈sT G.D s l):m=cR G s l:=
 Kk hs (mr G s l) fun x=>by unfold cR;rw [h,qp]
theorem lL{G:GS}:∀ {l:List HT},l≠ []->cF G l∈l
 |x::l,_=>by
  have key:∀(l:List HT) (b:HT),l.foldl (fun b y=>if gl G b y then y else b) b=b\/l.foldl (fun b y=>if gl G b y then y else b) b∈l:=by
   intro l
   induction l with
   |nil=>intro b;exact .inl rfl
   |cons y l ih=>
    intro b;simp only [List.foldl_cons];rcases ih (if gl G b y then y else b)with e|e
    ·rw [e]
     split
     ·exact .inr List.mem_cons_self
     ·exact .inl rfl
    ·exact .inr (List.mem_cons_of_mem _ e)
  rcases key l x with e|e
  ·rw [cF,e];exact List.mem_cons_self
  ·exact List.mem_cons_of_mem _ e
theorem fX(D:DG)(l m:List HT)(h:HT):bZ D (l++m) h=bZ D l h++bZ D m h:=List.filter_append ..
theorem fO{D:DG}{l:List HT}{h b:HT}:b∈bZ D l h↔b∈l/\oq D b h:=by unfold bZ;rw [List.mem_filter,decide_eq_true_eq]
theorem oq.symm{D:DG}{a b:HT}(h:oq D a b):oq D b a:=⟨h.1.symm,h.2.2,h.2.1⟩
theorem mN{x:HT}:∀ {m:List HT} {b:List Bool},x∈eA m b->x∈m
 |h::l,b::m,hx=>by
  unfold eA at hx;split at hx
  ·rcases List.mem_cons.1 hx with e|e
   ·rw [e];exact List.mem_cons_self
   ·exact List.mem_cons_of_mem _ (mN e)
  ·exact List.mem_cons_of_mem _ (mN hx)
 | [],_,hx=>by simp [eA]at hx
 |_::_,[],hx=>by simp [eA]at hx
theorem oK:∀ {m:List HT} {b:List Bool},m.Nodup->(eA m b).Nodup
 |h::l,b::m,hn=>by
  rw [List.nodup_cons]at hn;unfold eA;split
  ·exact List.nodup_cons.2 ⟨fun e=>hn.1 (mN e),oK hn.2⟩
  ·exact oK hn.2
 | [],_,_=>by simp [eA]
 |_::_,[],_=>by simp [eA]
theorem wE:∀ {m:List HT} {b:List Bool},b.length=m.length->(eA m b).length=b.count true
 |h::l,b::m,hn=>by
  have:=wE (m:=l) (b:=m) (by simpa using hn);unfold eA;cases b<;>simp [this]
 | [],[],_=>rfl
 | [],_::_,h=>by simp at h
 |_::_,[],h=>by simp at h
theorem uc{x:HT}{c:Bool}:∀ {m:List HT} {b:List Bool},b.length=m.length->eA (m++ [x]) (b++ [c])=eA m b++if c then [x]else []
 |h::l,b::m,hn=>by
  have:=uc (x:=x) (c:=c) (m:=l) (b:=m) (by simpa using hn);simp only [List.cons_append,eA,this];cases b<;>simp
 | [],[],_=>by cases c<;>simp [eA]
 | [],_::_,h=>by simp at h
 |_::_,[],h=>by simp at h
theorem Hs(k:Nat)(D:DG)(wd:List HT):∀(m:List HT),∃b:List Bool,b.length=m.length/\m.foldl (oO k D) ⟨wd,[]⟩=⟨wd++eA m b,b⟩:=by
 intro m
 induction h:m.length generalizing m with
 |zero=>exact⟨[],by simp,by rw [List.length_eq_zero_iff.1 h];simp [eA]⟩
 |succ n ih=>
  have fM:m≠ []:=fun e=>by rw [e]at h;simp at h
  obtain⟨m',x,rfl⟩:∃m' x,m=m'++ [x]:=⟨m.dropLast,m.getLast fM,(List.dropLast_concat_getLast fM).symm⟩;obtain⟨b,h1,h2⟩:=ih m' (by simpa using h);have h1:b.length=m'.length:=by rw [List.length_append,List.length_cons,List.length_nil]at h;omega
  refine⟨b++ [oV k D (wd++eA m' b) x],by simp only [List.length_append,List.length_cons,List.length_nil]at h⊢;omega,?_⟩;rw [List.foldl_append,h2,List.foldl_cons,List.foldl_nil,uc h1];unfold oO;cases oV k D (wd++eA m' b) x<;>simp
theorem uT(k:Nat)(G:GS)(s:HT)(l:List HT):(fU k G s l).bl.length=(cR G s l).length/\(fU k G s l).wd=G.world s++ [s]++eA (cR G s l) (fU k G s l).bl:=by
 obtain⟨b,h1,h2⟩:=Hs k G.D (G.world s++ [s]) (cR G s l);unfold fU;rw [h2];exact⟨h1,rfl⟩
structure iH(k:Nat)(G:GS):Prop where
 W:jY G.D
 iA:rF G.D G.P
 lc:G.qF.length=G.D.length
 lw:G.kV.length=G.D.length
 root:∀nd,G.D[0]? =some nd->G.fZ nd.id=⟨eN,0,[],[]⟩/\G.world nd.id= []
 up:∀s h,lu G.D G.P s h->(G.fZ h).iA=s/\G.world h=G.world s++ [s]++eA (G.fZ h).merge (G.fZ h).fK/\(G.fZ h).fK.length=(G.fZ h).merge.length/\(G.fZ h).merge.Nodup/\∀y,y∈(G.fZ h).merge↔fz G.D y h/\y≠s/\¬fz G.D y s
 wd:∀h∈ids G.D,(G.world h).Nodup/\(∀b∈G.world h,fz G.D b h)/\G.score h=(G.world h).length
theorem GS.tq{G:GS}(W:jY G.D){i:Nat}{nd:DN}(h:G.D[i]? =some nd):G.at_ nd.id=some i:=W.pos_eq h
theorem GS.JQ{G:GS}(W:jY G.D){i:Nat}{nd:DN}{c:ou}(h:G.D[i]? =some nd)(hc:G.qF[i]? =some c):G.fZ nd.id=c:=by
 unfold GS.fZ;rw [GS.tq W h];simp [hc]
theorem GS.Hm{G:GS}(W:jY G.D){i:Nat}{nd:DN}{c:List HT}(h:G.D[i]? =some nd)(hc:G.kV[i]? =some c):G.world nd.id=c:=by
 unfold GS.world;rw [GS.tq W h];simp [hc]
section
variable{k:Nat}{G:GS}{h:HT}{ps:List HT}
theorem uQ(hc:dL G.D h ps≠0):dE k G h ps=G:=by unfold dE;rw [if_neg hc]
theorem p8:(dE k G h ps).D=mY G.D h ps:=by
 unfold dE mY;split<;>rfl
theorem Kf:(dE k G h ps).D=nY G.D h (cF G ps) ps:=by
 rw [p8];unfold nY;by_cases hc:dL G.D h ps=0
 ·have fM:=(lI hc).2.1
  have:ik G.D h (cF G ps) ps=0:=by unfold ik;rw [if_pos hc,if_pos (lL fM)]
  rw [if_pos this,p9 hc]
 ·have:ik G.D h (cF G ps) ps≠0:=by unfold ik;rw [if_neg hc];exact hc
  rw [if_neg this];unfold mY;rw [if_neg hc]
theorem GW:ik G.D h (cF G ps) ps=dL G.D h ps:=by
 unfold ik;split
 ·rename_i hc
  rw [if_pos (lL (lI hc).2.1),hc]
 ·rfl
theorem Kg:(dE k G h ps).P=nX G.D G.P h (cF G ps) ps:=by
 unfold nX dE;rw [GW];by_cases hc:dL G.D h ps=0
 ·rw [if_pos hc,if_pos hc]
 ·rw [if_neg hc,if_neg hc]
theorem mP(hc:dL G.D h ps=0):dE k G h ps=⟨G.D++ [⟨h,dD ps⟩],G.P++ [(((pos (cF G ps) (ids G.D) 0).getD 0:Nat):Int)],G.qF++ [dg k G (cF G ps) ps],G.kV++ [(fU k G (cF G ps) ps).wd]⟩:=by
 unfold dE;rw [if_pos hc]
theorem DM(H:iH k G){s:HT}(hs:s∈ids G.D)(l:List HT)(hl:∀p∈l,p∈ids G.D):
 (fU k G s l).wd.Nodup/\(fU k G s l).wd.length=(dg k G s l).score/\∀y∈(fU k G s l).wd,y∈ids G.D/\(y=s\/fz G.D y s\/y∈cR G s l):=by
 obtain⟨h1,h2⟩:=uT k G s l;obtain⟨w1,w2,w3⟩:=H.wd s hs;have hm:∀y∈eA (cR G s l) (fU k G s l).bl,y∈ids G.D/\y≠s/\¬fz G.D y s:=fun y hy=>by
  obtain⟨e,h3,h4⟩:=ko.1 (mN hy);refine⟨?_,h3,h4⟩;rcases e with e|e
  ·exact e.1
  ·exact hl _ e
 rw [h2];refine⟨?_,?_,?_⟩
 ·refine List.nodup_append.2 ⟨List.nodup_append.2 ⟨w1,by simp,?_⟩,oK (mr G s l).nodup,?_⟩
  ·intro a ha b hb e
   have hb:b=s:=by simpa using hb
   subst hb;subst e;exact fz.irrefl H.W _ (w2 _ ha)
  ·intro a ha b hb e
   subst e;obtain⟨_,h3,h4⟩:=hm _ hb;rcases List.mem_append.1 ha with e|e
   ·exact h4 (w2 _ e)
   ·exact h3 (by simpa using e)
 ·unfold dg
  simp only [List.length_append,List.length_cons,List.length_nil,wE h1,w3]
 ·intro y hy
  rcases List.mem_append.1 hy with hy|hy
  ·rcases List.mem_append.1 hy with hy|hy
   ·exact⟨((w2 _ hy).mem H.W).1,.inr (.inl (w2 _ hy))⟩
   ·have:y=s:=by simpa using hy
    subst this;exact⟨hs,.inl rfl⟩
  ·exact⟨(hm _ hy).1,.inr (.inr (mN hy))⟩
theorem og(H:iH k G){y:HT}(hy:y∈ids G.D):(dE k G h ps).fZ y=G.fZ y/\(dE k G h ps).world y=G.world y:=by
 by_cases hc:dL G.D h ps=0
 ·obtain⟨hn,fM,gu,qN⟩:=lI hc
  obtain⟨nd,uu,rfl⟩:=dr.1 hy;obtain⟨i,hi⟩:=List.getElem?_of_mem uu;have dS:=(lgeS hi).1;have CY:(G.D++ [(⟨h,dD ps⟩:DN)])[i]? =some nd:=by rw [List.getElem?_append_left dS];exact hi
  have W':jY (dE k G h ps).D:=by rw [p8];exact H.W.add h ps
  rw [mP hc]at W'⊢;have e1:(⟨G.D++ [⟨h,dD ps⟩],G.P++ [(((pos (cF G ps) (ids G.D) 0).getD 0:Nat):Int)],G.qF++ [dg k G (cF G ps) ps],G.kV++ [(fU k G (cF G ps) ps).wd]⟩:GS).at_ nd.id=some i:=GS.tq W' CY;have e2:=GS.tq H.W hi;unfold GS.fZ GS.world;rw [e1,e2];simp only [Option.bind_some];rw [List.getElem?_append_left (by rw [H.lc];exact dS),List.getElem?_append_left (by rw [H.lw];exact dS)];exact⟨rfl,rfl⟩
 ·rw [uQ hc];exact⟨rfl,rfl⟩
theorem oh(H:iH k G)(hc:dL G.D h ps=0):(dE k G h ps).fZ h=dg k G (cF G ps) ps/\(dE k G h ps).world h=(fU k G (cF G ps) ps).wd:=by
 have W':jY (dE k G h ps).D:=by rw [p8];exact H.W.add h ps
 rw [mP hc]at W'⊢;have CY:(G.D++ [(⟨h,dD ps⟩:DN)])[G.D.length]? =some ⟨h,dD ps⟩:=by rw [List.getElem?_append_right (Nat.le_refl _),Nat.sub_self];rfl
 have e1:(⟨G.D++ [⟨h,dD ps⟩],G.P++ [(((pos (cF G ps) (ids G.D) 0).getD 0:Nat):Int)],G.qF++ [dg k G (cF G ps) ps],G.kV++ [(fU k G (cF G ps) ps).wd]⟩:GS).at_ h=some G.D.length:=GS.tq W' CY;unfold GS.fZ GS.world;rw [e1];simp only [Option.bind_some];rw [List.getElem?_append_right (by rw [H.lc];exact Nat.le_refl _),H.lc,Nat.sub_self,List.getElem?_append_right (by rw [H.lw];exact Nat.le_refl _),H.lw,Nat.sub_self];exact⟨rfl,rfl⟩
end
section
variable{k:Nat}{G:GS}{h:HT}{ps:List HT}
theorem mC(k:Nat)(r:HT):iH k (du r):=by
 have e0:(du r).at_ r=some 0:=GS.tq (G:=du r) (jY.root r) (nd:=⟨r,[]⟩) rfl;have ec:(du r).fZ r=⟨eN,0,[],[]⟩:=by unfold GS.fZ;rw [e0];rfl
 have ew:(du r).world r= []:=by unfold GS.world;rw [e0];rfl
 refine⟨jY.root r,rF.one r,rfl,rfl,?_,?_,?_⟩
 ·intro nd gu
  have:nd=⟨r,[]⟩:=by simpa [du]using gu.symm
  subst this;exact⟨ec,ew⟩
 ·rintro s h ⟨i,j,ni,m,h1,_,h3,_,_⟩
  exfalso;cases i with
  |zero=>simp [du]at h3
  |succ i=>simp [du]at h1
 ·intro h hm
  have:h=r:=by simpa [du,ids]using hm
  subst this;refine⟨by rw [ew];simp,by rw [ew];simp,?_⟩;unfold GS.score;rw [ec,ew];rfl
theorem HH(H:iH k G)(hc:dL G.D h ps=0):∃(j:Nat) (m:DN),G.D[j]? =some m/\m.id=cF G ps/\(pos (cF G ps) (ids G.D) 0).getD 0=j/\cF G ps∈ps/\cF G ps∈ids G.D:=by
 obtain⟨hn,fM,gu,qN⟩:=lI hc;have h1:=lL (G:=G) fM;have h2:=qN _ (dV.2 h1);obtain⟨m,hm,e⟩:=dr.1 h2;obtain⟨j,hj⟩:=List.getElem?_of_mem hm;have h3:=H.W.pos_eq hj;rw [e]at h3;exact⟨j,m,hj,e,by rw [h3];rfl,h1,h2⟩
theorem BL(H:iH k G)(hc:dL G.D h ps=0):(∀y,fz (G.D++ [⟨h,dD ps⟩]) y h↔∃p∈ps,y=p\/fz G.D y p)/\∀a b,b∈ids G.D->(fz (G.D++ [⟨h,dD ps⟩]) a b↔fz G.D a b):=by
 obtain⟨hn,fM,gu,qN⟩:=lI hc;have W':jY (G.D++ [⟨h,dD ps⟩]):=by have:=H.W.add h ps;rwa [p9 hc]at this
 have CY:(G.D++ [(⟨h,dD ps⟩:DN)])[G.D.length]? =some ⟨h,dD ps⟩:=by rw [List.getElem?_append_right (Nat.le_refl _),Nat.sub_self];rfl
 have FM:∀a b,b∈ids G.D->(fz (G.D++ [⟨h,dD ps⟩]) a b↔fz G.D a b):=fun a b hb=>jy H.W hn hb;refine⟨fun y=>?_,FM⟩;rw [sn W' CY y];constructor
 ·rintro⟨p,hp,e⟩
  exact⟨p,dV.1 hp,e.imp_right fun e=>(FM _ _ (qN _ hp)).1 e⟩
 ·rintro⟨p,hp,e⟩
  exact⟨p,dV.2 hp,e.imp_right fun e=>(FM _ _ (qN _ (dV.2 hp))).2 e⟩
theorem iH.add(H:iH k G)(h:HT)(ps:List HT):iH k (dE k G h ps):=by
 by_cases hc:dL G.D h ps=0
 ·obtain⟨hn,fM,gu,qN⟩:=lI hc
  obtain⟨j,m,hj,hm,jF,AZ,IY⟩:=HH H hc;obtain⟨GP,FM⟩:=BL H hc;have hk:=fun y (hy:y∈ids G.D)=>og (h:=h) (ps:=ps) H hy;obtain⟨nc,nw⟩:=oh H hc;obtain⟨v1,v2⟩:=uT k G (cF G ps) ps;obtain⟨u1,u2,u3⟩:=DM H IY ps (fun p hp=>qN _ (dV.2 hp));have W':jY (G.D++ [⟨h,dD ps⟩]):=by have:=H.W.add h ps;rwa [p9 hc]at this
  have nv:rF (G.D++ [(⟨h,dD ps⟩:DN)]) (G.P++ [(j:Int)]):=H.iA.snoc hj (by rw [hm];exact dV.2 AZ) H.W.pos;generalize hs:cF G ps=s at*;have eG:=mP (k:=k) hc;rw [hs,jF]at eG;have eD:(dE k G h ps).D=G.D++ [⟨h,dD ps⟩]:=by rw [eG]
  have eP:(dE k G h ps).P=G.P++ [(j:Int)]:=by rw [eG]
  refine⟨by rw [eD];exact W',by rw [eD,eP];exact nv,by rw [eG];simp [H.lc],by rw [eG];simp [H.lw],?_,?_,?_⟩
  ·intro nd uu
   rw [eD,List.getElem?_append_left H.W.pos]at uu;obtain⟨e1,e2⟩:=hk nd.id (dr.2 ⟨nd,List.mem_of_getElem? uu,rfl⟩);rw [e1,e2];exact H.root nd uu
  ·intro t y hy
   rw [eD,eP,oy H.W H.iA hn hj]at hy;rcases hy with hy|⟨rfl,rfl⟩
   ·have hp:=hy.par H.iA
    have Yq:y∈ids G.D:=((fz.one hp).mem H.W).2;have UF:t∈ids G.D:=((fz.one hp).mem H.W).1;obtain⟨e1,e2⟩:=hk y Yq;obtain⟨_,e3⟩:=hk t UF;obtain⟨g1,g2,g3,g4,g5⟩:=H.up t y hy;rw [e1,e2,e3,eD];refine⟨g1,g2,g3,g4,fun z=>?_⟩;rw [g5,FM _ _ Yq,FM _ _ UF]
   ·show _/\_
    rw [nc,nw,hm,(hk s IY).2,eD];refine⟨rfl,v2,v1,(mr _ _ _).nodup,fun z=>?_⟩;show z∈cR G s ps↔_
    rw [ko,GP,FM _ _ IY];constructor
    ·rintro⟨e,h3,h4⟩
     refine⟨?_,h3,h4⟩;rcases e with⟨_,p,hp,e⟩|e
     ·exact⟨p,hp,.inr e⟩
     ·exact⟨z,e,.inl rfl⟩
    ·rintro⟨⟨p,hp,e⟩,h3,h4⟩
     refine⟨?_,h3,h4⟩;rcases e with rfl|e
     ·exact .inr hp
     ·exact .inl ⟨(e.mem H.W).1,p,hp,e⟩
  ·intro y hy
   rw [eD,lQ]at hy;rcases List.mem_append.1 hy with hy|hy
   ·obtain⟨e1,e2⟩:=hk y hy
    obtain⟨g1,g2,g3⟩:=H.wd y hy;unfold GS.score;rw [e1,e2,eD];exact⟨g1,fun b hb=>(FM _ _ hy).2 (g2 b hb),g3⟩
   ·have:y=h:=by simpa using hy
    subst this;unfold GS.score;rw [nc,nw,eD];refine⟨u1,fun b hb=>?_,u2.symm⟩;obtain⟨_,e⟩:=u3 b hb;rw [GP];rcases e with rfl|e|e
    ·exact⟨b,AZ,.inl rfl⟩
    ·exact⟨s,AZ,.inr e⟩
    ·obtain⟨e,_,_⟩:=ko.1 e
     rcases e with⟨_,p,hp,e⟩|e
     ·exact⟨p,hp,.inr e⟩
     ·exact⟨b,e,.inl rfl⟩
 ·rw [uQ hc];exact H
end
def mV(sz:HT->HT->Option Nat)(l:List HT)(b:HT):Nat:=(l.findSome? fun h=>sz h b).getD 0
def r6(ov:HT->Option Nat)(base:HT->Nat)(b:HT):Nat:=(ov b).getD (base b)
structure OV(D:DG)(wd:List HT)(ov:HT->Option Nat)(base:HT->Nat):Prop where
 kn:∀b∈wd,r6 ov base b=(bZ D wd b).length
 Su:∀b n,ov b=some n->b∈wd
noncomputable def Aj(D:DG)(wd:List HT)(ov:HT->Option Nat)(base:HT->Nat)(h:HT):HT->Option Nat:=
 fun b=>if b∈bZ D wd h then some (r6 ov base b+1)else if b=h then some (bZ D wd h).length else ov b
theorem OV.step{D:DG}{wd:List HT}{ov:HT->Option Nat}{base:HT->Nat}(H:OV D wd ov base){h:HT}(hn:h∉wd):OV D (wd++ [h]) (Aj D wd ov base h) base:=by
 refine⟨fun b hb=>?_,fun b n e=>?_⟩
 ·rw [fX,List.length_append]
  unfold r6 Aj;by_cases hp:b∈bZ D wd h
  ·rw [if_pos hp]
   obtain⟨h1,h2⟩:=fO.1 hp;rw [Option.getD_some,H.kn b h1];have:bZ D [h] b= [h]:=by unfold bZ;rw [List.filter_cons_of_pos (by simpa using h2.symm)];rfl
   rw [this];rfl
  ·rw [if_neg hp]
   by_cases e:b=h
   ·subst e
    rw [if_pos rfl,Option.getD_some];have:bZ D [b] b= []:=by unfold bZ;rw [List.filter_cons_of_neg (by simpa using fun e:oq D b b=>e.1 rfl)];rfl
    rw [this];rfl
   ·rw [if_neg e]
    have hw:b∈wd:=by
     rcases List.mem_append.1 hb with hb|hb
     ·exact hb
     ·exact absurd (by simpa using hb) e
    have:bZ D [h] b= []:=by unfold bZ;rw [List.filter_cons_of_neg (by simpa using fun e':oq D h b=>hp (fO.2 ⟨hw,e'.symm⟩))];rfl
    rw [this];exact H.kn b hw
 ·unfold Aj at e
  split at e
  ·rename_i hp
   exact List.mem_append_left _ (fO.1 hp).1
  ·split at e
   ·rename_i hb;subst hb;exact List.mem_append_right _ (by simp)
   ·exact List.mem_append_left _ (H.Su b n e)
structure SZ(G:GS)(sz:HT->HT->Option Nat):Prop where
 kn:∀h l,h∈ids G.D->cI G.D G.P h l->∀b∈G.world h++ [h],mV sz l b=(bZ G.D (G.world h++ [h]) b).length
 Su:∀h b n,sz h b=some n->b∈ids G.D
theorem SZ.ov{G:GS}{sz:HT->HT->Option Nat}(Z:SZ G sz){s:HT}(hs:s∈ids G.D){l:List HT}(hl:cI G.D G.P s l):OV G.D (G.world s++ [s]) (fun _=>none) (mV sz l):=
 ⟨fun b hb=>Z.kn s l hs hl b hb,fun b n e=>by cases e⟩
theorem Up.snoc{P:List Int}{p:Int}:∀ {i:Nat} {l:List Nat},Up P i l->Up (P++ [p]) i l:=by
 intro i l h
 induction h with
 |root=>exact .root
 |step h _ ih=>exact .step (by rw [List.getElem?_append_left (lgeS h).1];exact h) ih
theorem xW{D:DG}{nd:DN}{i:Nat}(h:i<D.length):mH (D++ [nd]) i=mH D i:=by unfold mH;rw [List.getElem?_append_left h]
theorem cI.snoc{D:DG}{P:List Int}(H:rF D P){nd:DN}{p:Int}{h:HT}{l:List HT}(hm:h∈ids D)(c:cI D P h l):cI (D++ [nd]) (P++ [p]) h l:=by
 rcases c with⟨hn,_⟩|⟨i,m,ks,h1,h2,h3,h4⟩
 ·exact absurd hm hn
 ·have dS:=(lgeS h1).1
  refine .inr ⟨i,m,ks,by rw [List.getElem?_append_left dS];exact h1,h2,h3.snoc,?_⟩;rw [h4];refine List.map_congr_left fun k hk=>(xW ?_).symm;have:=h3.lt H.par (by rw [H.len];exact dS) k hk
  rwa [H.len]at this
theorem cI.new{D:DG}{P:List Int}(W:jY D)(H:rF D P){nd m:DN}{j:Nat}(hj:D[j]? =some m){l:List HT}(c:cI D P m.id l):cI (D++ [nd]) (P++ [(j:Int)]) nd.id (nd.id::l):=by
 have hm:m.id∈ids D:=dr.2 ⟨m,List.mem_of_getElem? hj,rfl⟩;have c':=cI.snoc (nd:=nd) (p:=(j:Int)) H hm c;rcases c with⟨hn,_⟩|⟨i,m',ks,h1,h2,h3,h4⟩
 ·exact absurd hm hn
 ·have rC:=W.inj h1 hj h2
  subst rC;have e0:(D++ [nd])[D.length]? =some nd:=by rw [List.getElem?_append_right (Nat.le_refl _),Nat.sub_self];rfl
  refine .inr ⟨D.length,nd,D.length::ks,e0,rfl,.step (by rw [<-H.len,List.getElem?_append_right (Nat.le_refl _),Nat.sub_self];rfl) h3.snoc,?_⟩;rw [List.map_cons,mG e0,h4]
  congr 1
  refine List.map_congr_left fun k hk=>(xW ?_).symm;have:=h3.lt H.par (by rw [H.len];exact(lgeS h1).1) k hk
  rwa [H.len]at this
theorem rQ{D D':DG}{l:List HT}{b:HT}(h:∀a∈l,oq D' a b↔oq D a b):bZ D' l b=bZ D l b:=by
 unfold bZ;exact List.filter_congr fun a ha=>by simp only [h a ha]
theorem SZ.root(r:HT):SZ (du r) (fun _ _=>none):=by
 refine⟨fun h l hm _ b hb=>?_,fun h b n e=>by cases e⟩;have hh:h=r:=by simpa [du,ids]using hm
 subst hh;have ew:(du h).world h= []:=((mC 0 h).root ⟨h,[]⟩ rfl).2;rw [ew]at hb⊢;have:b=h:=by simpa using hb
 subst this;have:bZ (du b).D ([]++ [b]) b= []:=by unfold bZ;rw [List.nil_append,List.filter_cons_of_neg (by simpa using fun e:oq (du b).D b b=>e.1 rfl)];rfl
 rw [this];unfold mV;have:(l.findSome? fun _=>(none:Option Nat))=none:=by simp
 rw [this];rfl
theorem SZ.add{k:Nat}{G:GS}{sz:HT->HT->Option Nat}(Z:SZ G sz)(H:iH k G){h:HT}{ps:List HT}(hc:dL G.D h ps=0){l:List HT}(hl:cI G.D G.P (cF G ps) l){ov:HT->Option Nat}
 (O:OV G.D (fU k G (cF G ps) ps).wd ov (mV sz l)):SZ (dE k G h ps) (fun y=>if y=h then ov else sz y):=by
 obtain⟨hn,fM,gu,qN⟩:=lI hc;obtain⟨j,m,hj,hm,jF,AZ,IY⟩:=HH H hc;obtain⟨GP,FM⟩:=BL H hc;have H':=H.add h ps;obtain⟨nc,nw⟩:=oh H hc;obtain⟨u1,u2,u3⟩:=DM H IY ps (fun p hp=>qN _ (dV.2 hp));have eD:(dE k G h ps).D=G.D++ [⟨h,dD ps⟩]:=by rw [mP hc]
 have eP:(dE k G h ps).P=G.P++ [(j:Int)]:=by rw [mP hc,jF]
 have apt:∀a b,a∈ids G.D->b∈ids G.D->(oq (G.D++ [⟨h,dD ps⟩]) a b↔oq G.D a b):=fun a b ha hb=>by unfold oq;rw [FM _ _ hb,FM _ _ ha]
 have lno:∀(y:HT) (l':List HT),y∈ids G.D->cI G.D G.P y l'->∀b,mV (fun y=>if y=h then ov else sz y) l' b=mV sz l' b:=fun y l' hy c b=>by
  unfold mV;have YE:h∉l':=fun e=>hn ((c.mem H.W H.iA).1 e).mem.1;have key:∀l':List HT,h∉l'->(l'.findSome? fun y=>(if y=h then ov else sz y) b)=l'.findSome? fun y=>sz y b:=by
   intro l'
   induction l' with
   |nil=>intro _;rfl
   |cons y l' ih=>
    intro hq;simp only [List.mem_cons,not_or]at hq;rw [List.findSome?_cons,List.findSome?_cons,if_neg (fun e=>hq.1 e.symm),ih hq.2]
  rw [key l' YE]
 refine⟨fun y l' hy c b hb=>?_,fun y b n e=>?_⟩
 ·rw [eD,eP]at c
  rw [eD]at hy⊢;rw [lQ]at hy;have W':jY (G.D++ [⟨h,dD ps⟩]):=by have:=H'.W;rwa [eD]at this
  have S':rF (G.D++ [⟨h,dD ps⟩]) (G.P++ [(j:Int)]):=by have:=H'.iA;rwa [eD,eP]at this
  rcases List.mem_append.1 hy with hy|hy
  ·obtain⟨l0,c0⟩:=cI.ex H.iA y
   have:l'=l0:=c.one W' S' (c0.snoc H.iA hy);subst this;obtain⟨_,e2⟩:=og (k:=k) (h:=h) (ps:=ps) H hy;rw [e2]at hb⊢;rw [lno y l' hy c0,Z.kn y l' hy c0 b hb];have gK:∀a∈G.world y++ [y],a∈ids G.D:=fun a ha=>by
    rcases List.mem_append.1 ha with ha|ha
    ·exact(((H.wd y hy).2.1 a ha).mem H.W).1
    ·have:a=y:=by simpa using ha
     subst this;exact hy
   rw [rQ fun a ha=>apt a b (gK a ha) (gK b hb)]
  ·have:y=h:=by simpa using hy
   subst this;have cn:=cI.new (nd:=⟨y,dD ps⟩) H.W H.iA hj (by rw [hm];exact hl);have:l'=y::l:=c.one W' S' cn;subst this;rw [nw]at hb⊢;have e1:mV (fun z=>if z=y then ov else sz z) (y::l) b=r6 ov (mV sz l) b:=by
    have:=lno _ l IY hl b;unfold mV at this⊢;unfold r6;rw [List.findSome?_cons];cases Gk:ov b with
    |none=>simp only [if_true,Gk,Option.getD_none];exact this
    |some n=>simp only [if_true,Gk,Option.getD_some]
   rw [e1,fX,List.length_append];have TA:∀a∈(fU k G (cF G ps) ps).wd,¬oq (G.D++ [⟨y,dD ps⟩]) a y:=fun a ha e=>by
    obtain⟨_,e'⟩:=u3 a ha;refine e.2.1 ((GP a).2 ?_);rcases e' with rfl|e'|e'
    ·exact⟨_,AZ,.inl rfl⟩
    ·exact⟨_,AZ,.inr e'⟩
    ·obtain⟨e',_,_⟩:=ko.1 e'
     rcases e' with⟨_,p,hp,e'⟩|e'
     ·exact⟨p,hp,.inr e'⟩
     ·exact⟨a,e',.inl rfl⟩
   rcases List.mem_append.1 hb with hb|hb
   ·have hbi:=(u3 b hb).1
    have:bZ (G.D++ [⟨y,dD ps⟩]) [y] b= []:=by unfold bZ;rw [List.filter_cons_of_neg (by simpa using fun e:oq _ y b=>TA b hb e.symm)];rfl
    rw [this,O.kn b hb,rQ fun a ha=>apt a b (u3 a ha).1 hbi];rfl
   ·have:b=y:=by simpa using hb
    subst this;have e2:bZ (G.D++ [⟨b,dD ps⟩]) (fU k G (cF G ps) ps).wd b= []:=by
     unfold bZ;rw [List.filter_eq_nil_iff];intro a ha;simpa using TA a ha
    have e3:bZ (G.D++ [⟨b,dD ps⟩]) [b] b= []:=by unfold bZ;rw [List.filter_cons_of_neg (by simpa using fun e:oq _ b b=>e.1 rfl)];rfl
    rw [e2,e3];have e4:ov b=none:=by
     cases Gk:ov b with
     |none=>rfl
     |some n=>exact absurd (u3 b (O.Su b n Gk)).1 hn
    have e5:mV sz l b=0:=by
     unfold mV;have:(l.findSome? fun h=>sz h b)=none:=by
      rw [List.findSome?_eq_none_iff];intro y hy;cases Es:sz y b with
      |none=>rfl
      |some n=>exact absurd (Z.Su y b n Es) hn
     rw [this];rfl
    unfold r6;rw [e4,e5];rfl
 ·rw [eD,lQ]
  refine List.mem_append_left _ ?_;split at e
  ·exact(u3 b (O.Su b n e)).1
  ·exact Z.Su y b n e
noncomputable def zA(G:GS)(h:HT):List HT->List HT
 | []=> []
 |a::r=>(if oq G.D a h then [a]else [])++if fz G.D a h then []else bZ G.D (eA (G.fZ a).merge (G.fZ a).fK) h++zA G h r
theorem Up.inv{P:List Int}{i:Nat}{l:List Nat}(h:Up P i l):(i=0/\l= [0])\/∃(j:Nat) (r:List Nat),l=i::r/\P[i]? =some (j:Int)/\Up P j r:=by
 cases h with
 |root=>exact .inl ⟨rfl,rfl⟩
 |step h1 h2=>exact .inr ⟨_,_,rfl,h1,h2⟩
theorem cI.inv{D:DG}{P:List Int}(W:jY D)(H:rF D P){h:HT}{l:List HT}(hm:h∈ids D)(c:cI D P h l):
 (l= [h]/\∃nd,D[0]? =some nd/\nd.id=h)\/∃(s:HT) (r:List HT),l=h::r/\lu D P s h/\s∈ids D/\cI D P s r:=by
 rcases c with⟨hn,_⟩|⟨i,m,ks,h1,h2,h3,h4⟩
 ·exact absurd hm hn
 ·rcases h3.inv with⟨rfl,rfl⟩|⟨j,r,rfl,h5,h6⟩
  ·refine .inl ⟨?_,m,h1,h2⟩
   rw [h4,List.map_cons,List.map_nil,mG h1,h2]
  ·have hj:j<D.length:=by
    cases i with
    |zero=>rw [H.root]at h5;simp only [Option.some.injEq]at h5;omega
    |succ i=>
     obtain⟨j',m',e,_,h7,_⟩:=H.up (i+1) _ m (by omega) h5 h1;have:=(lgeS h7).1;omega
   obtain⟨mj,Qr⟩:∃mj,D[j]? =some mj:=⟨_,List.getElem?_eq_getElem hj⟩;refine .inr ⟨mj.id,r.map (mH D),?_,⟨i,j,m,mj,h1,h2,h5,Qr,rfl⟩,dr.2 ⟨mj,List.mem_of_getElem? Qr,rfl⟩,.inr ⟨j,mj,r,Qr,rfl,h6,rfl⟩⟩;rw [h4,List.map_cons,mG h1,h2]
theorem Rm{k:Nat}{G:GS}(H:iH k G)(h:HT):∀(l:List HT) (s:HT),s∈ids G.D->cI G.D G.P s l->(zA G h l).Nodup/\∀y,y∈zA G h l↔y∈bZ G.D (G.world s++ [s]) h:=by
 intro l
 induction l with
 |nil=>
  intro s hs c;rcases c.inv H.W H.iA hs with⟨e,_⟩|⟨_,_,e,_⟩<;>cases e
 |cons a r ih=>
  intro s hs c;have key:∀(wb:List HT),G.world s=wb++eA (G.fZ s).merge (G.fZ s).fK->(zA G h r).Nodup->(∀y,y∈zA G h r↔y∈bZ G.D wb h)->a=s->(zA G h (a::r)).Nodup/\∀y,y∈zA G h (a::r)↔y∈bZ G.D (G.world s++ [s]) h:=by
   rintro wb hw hn hy rfl;obtain⟨w1,w2,_⟩:=H.wd a hs;have ab9:=fz.irrefl H.W a;rw [hw]at w1 w2⊢;rw [List.nodup_append]at w1;obtain⟨w3,w4,w5⟩:=w1;unfold zA;by_cases ha:fz G.D a h
   ·have LV:¬oq G.D a h:=fun e=>e.2.1 ha
    rw [if_pos ha,if_neg LV];refine⟨by simp,fun y=>?_⟩;simp only [List.append_nil,List.not_mem_nil,false_iff];intro e;obtain⟨e1,e2⟩:=fO.1 e;rcases List.mem_append.1 e1 with e1|e1
    ·exact e2.2.1 ((w2 y e1).trans ha)
    ·have:y=a:=by simpa using e1
     subst this;exact LV e2
   ·rw [if_neg ha]
    have hr:∀y∈zA G h r,y∈wb:=fun y e=>(fO.1 ((hy y).1 e)).1;refine⟨?_,fun y=>?_⟩
    ·refine List.nodup_append.2 ⟨by split<;>simp,List.nodup_append.2 ⟨w4.filter _,hn,?_⟩,?_⟩
     ·intro x hx z hz e
      subst e;exact w5 x (hr x hz) x (fO.1 hx).1 rfl
     ·intro x hx z hz e
      subst e;split at hx
      ·have:x=a:=by simpa using hx
       subst this;refine ab9 (w2 x ?_);rcases List.mem_append.1 hz with hz|hz
       ·exact List.mem_append_right _ (fO.1 hz).1
       ·exact List.mem_append_left _ (hr x hz)
      ·simp at hx
    ·rw [fX,fX]
     simp only [List.mem_append,hy];have e1:y∈(if oq G.D a h then [a]else [])↔y∈bZ G.D [a] h:=by
      unfold bZ;by_cases hp:oq G.D a h
      ·rw [if_pos hp,List.filter_cons_of_pos (by simpa using hp)];rfl
      ·rw [if_neg hp,List.filter_cons_of_neg (by simpa using hp)];rfl
     rw [e1];constructor
     ·rintro(e|e|e)
      ·exact .inr e
      ·exact .inl (.inr e)
      ·exact .inl (.inl e)
     ·rintro((e|e)|e)
      ·exact .inr (.inr e)
      ·exact .inr (.inl e)
      ·exact .inl e
  rcases c.inv H.W H.iA hs with⟨e,nd,h0,rfl⟩|⟨t,r',e,qy,ht,hc⟩
  ·obtain⟨r1,r2⟩:=H.root nd h0
   cases e;exact key [] (by rw [r2,r1];simp [eA]) (by simp [zA]) (fun y=>by simp [zA,bZ]) rfl
  ·cases e
   obtain⟨_,u2,_⟩:=H.up t a qy;obtain⟨i1,i2⟩:=ih t ht hc;exact key (G.world t++ [t]) u2 i1 i2 rfl
noncomputable def oU(G:GS)(h:HT)(bl l:List HT):List HT:=bZ G.D bl h++zA G h l
theorem MB{k:Nat}{G:GS}(H:iH k G){h s:HT}{l bl:List HT}(hs:s∈ids G.D)(hl:cI G.D G.P s l)(hn:(G.world s++ [s]++bl).Nodup):
 (oU G h bl l).Nodup/\(oU G h bl l).length=(bZ G.D (G.world s++ [s]++bl) h).length/\∀y,y∈oU G h bl l↔y∈bZ G.D (G.world s++ [s]++bl) h:=by
 obtain⟨h1,h2⟩:=Rm H h l s hs hl;have h0:=hn;rw [List.nodup_append]at hn;obtain⟨n1,n2,n3⟩:=hn;have hm:∀y,y∈oU G h bl l↔y∈bZ G.D (G.world s++ [s]++bl) h:=fun y=>by
  unfold oU;rw [fX,List.mem_append,List.mem_append,h2];exact Or.comm
 have gu:(oU G h bl l).Nodup:=by
  refine List.nodup_append.2 ⟨n2.filter _,h1,?_⟩;intro x hx z hz e;subst e;exact n3 x (fO.1 ((h2 x).1 hz)).1 x (fO.1 hx).1 rfl
 exact⟨gu,((List.perm_ext_iff_of_nodup gu (h0.filter _)).2 hm).length_eq,hm⟩
def rR(k:Nat)(kn:HT->Nat)(done:List HT)(b:HT):Bool:=decide (done.length+1<=k/\kn b<k)
def fu(k:Nat)(kn:HT->Nat):List HT->List HT->Bool
 |_,[]=>true
 |done,b::l=>rR k kn done b&&fu k kn (done++ [b]) l
theorem p7{k:Nat}{kn:HT->Nat}:∀ {l done:List HT},fu k kn done l=true↔(l≠ []->done.length+l.length<=k)/\∀b∈l,kn b<k
 | [],done=>by simp [fu]
 |b::l,done=>by
  unfold fu rR;rw [Bool.and_eq_true,decide_eq_true_eq,p7];simp only [List.length_append,List.length_cons,List.length_nil,List.mem_cons,forall_eq_or_imp,ne_eq,reduceCtorEq,not_false_eq_true,forall_const];constructor
  ·rintro⟨⟨h1,h2⟩,h3,h4⟩
   refine⟨?_,h2,h4⟩;by_cases e:l= []
   ·subst e;simpa using h1
   ·have:=h3 e;omega
  ·rintro⟨h1,h2,h3⟩
   refine⟨⟨by omega,h2⟩,fun _=>by omega,h3⟩
theorem mO{k:Nat}{kn:HT->Nat}:∀ {l m done:List HT},fu k kn done (l++m)=(fu k kn done l&&fu k kn (done++l) m)
 | [],m,done=>by simp [fu]
 |b::l,m,done=>by
  simp only [List.cons_append,fu,mO (l:=l),Bool.and_assoc,List.append_assoc,List.nil_append]
theorem JU{k:Nat}{D:DG}{wd:List HT}{kn:HT->Nat}{h:HT}{c:List HT}(hk:∀b∈wd,kn b=(bZ D wd b).length)(hl:c.length=(bZ D wd h).length)(hm:∀y,y∈c↔y∈bZ D wd h):
 fu k kn [] c=oV k D wd h:=by
 rw [Bool.eq_iff_iff,p7];unfold oV;rw [decide_eq_true_eq];simp only [List.length_nil,Nat.zero_add,<-hl];constructor
 ·rintro⟨h1,h2⟩
  refine⟨?_,fun y hy=>?_⟩
  ·by_cases e:c= []
   ·subst e;simp
   ·exact h1 e
  ·have:=h2 y ((hm y).2 hy)
   rw [hk y (fO.1 hy).1]at this;omega
 ·rintro⟨h1,h2⟩
  refine⟨fun _=>h1,fun y hy=>?_⟩;have hy:=(hm y).1 hy;rw [hk y (fO.1 hy).1];have:=h2 y hy;omega
open Go.RowKit
theorem H7:xx dR fw (.pointer none):=⟨by kernel_rfl,uD (by kernel_rfl)⟩
theorem rW:xx cO eW (.int .i64 0):=⟨by kernel_rfl,uD (by kernel_rfl)⟩
structure Bo(w:World)(A:Option Addr)(n:Nat)(l:List Bool):Prop where
 len:l.length=n
 at_:∀(i:Nat) (b:Bool),l[i]? =some b->∃a,A=some a/\a.block<w.heap.size/\w.cell? (a.add i)=some (.bool b)
theorem Bo.aF{S:Nat->Prop}{w w':World}{A:Option Addr}{n:Nat}{l:List Bool}(h:Bo w A n l)(hk:Kept S w w')(hn:∀a,A=some a->¬S a.block):Bo w' A n l:=⟨h.len,fun i x hi=>by
 obtain⟨a,h1,h2,h3⟩:=h.at_ i x hi;exact⟨a,h1,Nat.lt_of_lt_of_le h2 hk.size,hk.cell h3 (by rw [fg];exact hn a h1)⟩⟩
theorem Bo.same{w w':World}{A:Option Addr}{n:Nat}{l:List Bool}(h:Bo w A n l)(hk:Kept Nil w w'):Bo w' A n l:=h.aF hk fun _ _ h=>h
def K4(ov:HT->Option Nat)(b:HT):Option Value:=(ov b).map fun n:Nat=>.int .i64 (n:Int)
def GY(w:World)(F:Nat->Prop)(sm:Option Nat)(sz:HT->Option Nat):Prop:=
 (sm=none/\∀b,sz b=none)\/∃s,sm=some s/\F s/\fR w s (K4 sz)
def cS(c:ou)(A:Option Addr)(n cp:Nat)(B:Option Addr)(m cq:Nat):Array Value:=c.iA.1++ #[.int .u64 (c.score:Int),.slice A n cp,.slice B m cq]
structure qP(w:World)(F:Nat->Prop)(q:Nat)(c:ou)(sz:HT->Option Nat)(A:Option Addr)(n cp:Nat)(B:Option Addr)(m cq:Nat)(sm:Option Nat):Prop where
 top:w.heap[q]? =some (.cells (cS c A n cp B m cq++ #[.map sm]) eB (0,0))
 mg:HS w A n c.merge
 bl:Bo w B m c.fK
 fA:∀a,A=some a->F a.block
 fB:∀a,B=some a->F a.block
 sz:GY w F sm sz
 fq:F q
def Seen(w:World)(F:Nat->Prop)(q:Nat)(c:ou)(sz:HT->Option Nat):Prop:=∃A n cp B m cq sm,qP w F q c sz A n cp B m cq sm
section
variable{w w':World}{F S:Nat->Prop}{q:Nat}{c:ou}{sz:HT->Option Nat}{A B:Option Addr}{n cp m cq:Nat}{sm:Option Nat}
theorem GY.aF(h:GY w F sm sz)(hk:Kept S w w')(hF:∀j,F j->¬S j):GY w' F sm sz:=by
 rcases h with h|⟨s,h1,h2,h3⟩
 ·exact .inl h
 ·exact .inr ⟨s,h1,h2,h3.aF hk (hF _ h2)⟩
theorem qP.aF(h:qP w F q c sz A n cp B m cq sm)(hk:Kept S w w')(hF:∀j,F j->¬S j):qP w' F q c sz A n cp B m cq sm:=
 ⟨hk.heap h.top (hF _ h.fq),h.mg.aF hk (fun a ha=>hF _ (h.fA a ha)),h.bl.aF hk (fun a ha=>hF _ (h.fB a ha)),h.fA,h.fB,h.sz.aF hk hF,h.fq⟩
theorem Seen.aF(h:Seen w F q c sz)(hk:Kept S w w')(hF:∀j,F j->¬S j):Seen w' F q c sz:=by
 obtain⟨A,n,cp,B,m,cq,sm,h⟩:=h;exact⟨A,n,cp,B,m,cq,sm,h.aF hk hF⟩
theorem a8(c:ou)(A:Option Addr)(n cp:Nat)(B:Option Addr)(m cq:Nat):(cS c A n cp B m cq).size=35:=by
 unfold cS;rw [Array.size_append,c.iA.2.1];rfl
theorem gJ(c:ou)(A:Option Addr)(n cp:Nat)(B:Option Addr)(m cq:Nat)(r:Array Value):
 ((cS c A n cp B m cq)++r)[32]? =some (.int .u64 (c.score:Int))/\((cS c A n cp B m cq)++r)[33]? =some (.slice A n cp)/\((cS c A n cp B m cq)++r)[34]? =some (.slice B m cq)/\((cS c A n cp B m cq)++r)[35]? =r[0]? :=by
 have hs:=a8 c A n cp B m cq;have h0:c.iA.1.size=32:=c.iA.2.1;refine⟨?_,?_,?_,?_⟩
 ·rw [Array.getElem?_append_left (by omega)];unfold cS;rw [Array.getElem?_append_right (by omega),h0];rfl
 ·rw [Array.getElem?_append_left (by omega)];unfold cS;rw [Array.getElem?_append_right (by omega),h0];rfl
 ·rw [Array.getElem?_append_left (by omega)];unfold cS;rw [Array.getElem?_append_right (by omega),h0];rfl
 ·rw [Array.getElem?_append_right (by omega),hs]
theorem qP.XG(h:qP w F q c sz A n cp B m cq sm):w.cell? (((⟨q,0,none⟩:Addr).add 0).add 32)=some (.int .u64 (c.score:Int)):=by
 rw [add_zero,bt,aD h.top];exact(gJ ..).1
theorem qP.c35(h:qP w F q c sz A n cp B m cq sm):w.cell? ((⟨q,0,none⟩:Addr).add 35)=some (.map sm):=by
 rw [bt,aD h.top];exact(gJ ..).2.2.2
theorem qP.fZ(h:qP w F q c sz A n cp B m cq sm):Cells w ((⟨q,0,none⟩:Addr).add 0) (cS c A n cp B m cq):=by
 intro j u hj;rw [add_zero,bt,aD h.top,Array.getElem?_append_left (by rw [a8];have:=(Array.getElem?_eq_some_iff.1 hj).1;rw [a8]at this;omega)];rw [Nat.zero_add];exact hj
end
structure CM where
 x:Nat
 mb:Nat
 SX:Nat->Prop
 FX:Nat->Prop
 q:HT->Nat
 sz:HT->HT->Option Nat
def CM.own(m:CM)(c j:Nat):Prop:=m.SX j\/j=c\/j=m.mb
structure CV(w:World)(F:Nat->Prop)(c:Nat)(k:Nat)(G:GS)(m:CM):Prop where
 top:w.heap[c]? =some (.cells #[.int .i64 (k:Int),.pointer (some ⟨m.x,0,none⟩),.map (some m.mb)] iq (0,0))
 X:DD w m.SX m.FX m.x G.D G.P
 all:fR w m.mb fun h=>if h∈ids G.D then some (.pointer (some ⟨m.q h,0,none⟩))else none
 seen:∀h∈ids G.D,Seen w F (m.q h) (G.fZ h) (m.sz h)
 fc:iH k G
 Z:SZ G m.sz
 fx:∀j,m.FX j->F j
 fo:∀j,F j->¬m.own c j
 so:∀j,m.SX j->j≠c/\j≠m.mb
 ne:c≠m.mb
 low:∀j,m.own c j\/F j->j<w.heap.size
section
variable{w w':World}{F S:Nat->Prop}{c k:Nat}{G:GS}{m:CM}{K:Value->World->Prop}
theorem CV.aF{S0:Nat->Prop}(h:CV w F c k G m)(hk:Kept S0 w w')(hS:∀j,m.own c j->¬S0 j)(hF:∀j,F j->¬S0 j):CV w' F c k G m where
 top:=hk.heap h.top (hS _ (.inr (.inl rfl)))
 X:=h.X.aF hk (fun j e=>hS j (.inl e)) (fun j e=>hF j (h.fx j e))
 all:=h.all.aF hk (hS _ (.inr (.inr rfl)))
 seen:=fun y hy=>(h.seen y hy).aF hk hF
 fc:=h.fc
 Z:=h.Z
 fx:=h.fx
 fo:=h.fo
 so:=h.so
 ne:=h.ne
 low:=fun j e=>Nat.lt_of_lt_of_le (h.low j e) hk.size
theorem CV.same(h:CV w F c k G m)(hk:Kept Nil w w'):CV w' F c k G m:=h.aF hk (fun _ _ h=>h) (fun _ _ h=>h)
theorem CV.c0(h:CV w F c k G m):w.cell? ((⟨c,0,none⟩:Addr).add 0)=some (.int .i64 (k:Int)):=by rw [bt,aD h.top];rfl
theorem CV.c1(h:CV w F c k G m):w.cell? ((⟨c,0,none⟩:Addr).add 1)=some (.pointer (some ⟨m.x,0,none⟩)):=by rw [bt,aD h.top];rfl
theorem CV.c2(h:CV w F c k G m):w.cell? ((⟨c,0,none⟩:Addr).add 2)=some (.map (some m.mb)):=by rw [bt,aD h.top];rfl
theorem CV.look(h:CV w F c k G m)(y:HT):(Instr.lookup dR (.map (some m.mb)) (.agg y.1) false).run prog w=.ok (.pointer (if y∈ids G.D then some ⟨m.q y,0,none⟩else none)) w:=by
 have:=h.all.look H7 y;by_cases hy:y∈ids G.D
 ·rw [if_pos hy]at this;rw [if_pos hy];exact this
 ·rw [if_neg hy]at this;rw [if_neg hy];exact this
theorem CV.oQ(h:CV w F c k G m){y:HT}(hy:y∈ids G.D):(Instr.lookup dR (.map (some m.mb)) (.agg y.1) false).run prog w=.ok (.pointer (some ⟨m.q y,0,none⟩)) w:=by
 have:=h.look y;rwa [if_pos hy]at this
theorem nh(h:CV w F c k G m)(hK:K (.bool true) w):bC prog eI.id #[.pointer (some ⟨c,0,none⟩)] w K:=
 eI.of (Split.yes rfl ⟨_,h.c1,hK⟩)
theorem GD{A:Addr}{x y:Int}{cx:Nat}(h0:w.cell? A=some (.int .i64 x))(h1:w.cell? (A.add 1)=some (.int .i64 y))(hK:K (.int .i64 (if x=0 then y else x)) w):
 bC prog bO.id #[.slice (some A) 2 cx] w K:=by
 refine bO.of ?_;unfold bO.W;refine bO.cC (I:=fun s w'=>w'=w/\((s=(0,0))\/(s=(0,1)/\x=0)\/(s=(0,2)/\x=0/\y=0))) (μ:=fun s _=>(2-s.2).toNat) (s:=(0,0)) ⟨rfl,.inl rfl⟩ ?_;rintro s w' ⟨rfl,h⟩;rcases h with rfl|⟨rfl,hx⟩|⟨rfl,hx,hy⟩
 ·refine Split.yes rfl ⟨by simp only;omega,x,by rw [show(0:Int).toNat*1=0 from rfl,add_zero];exact h0,?_⟩
  by_cases hx:x=0
  ·refine Split.no (by simp [hx]) ?_
   exact⟨(0,1),rfl,⟨rfl,.inr (.inl ⟨rfl,hx⟩)⟩,by simp only;omega⟩
  ·refine Split.yes (by simpa using hx) ?_
   rw [if_neg hx]at hK;rw [iW];exact hK
 ·refine Split.yes rfl ⟨by simp only;omega,y,h1,?_⟩
  rw [if_pos hx]at hK;by_cases hy:y=0
  ·refine Split.no (by simp [hy]) ?_
   exact⟨(0,2),rfl,⟨rfl,.inr (.inr ⟨rfl,hx,hy⟩)⟩,by simp only;omega⟩
  ·refine Split.yes (by simpa using hy) ?_
   rw [iW];exact hK
 ·refine Split.no rfl ?_
  rw [aR,bO.df];rw [if_pos hx,hy]at hK;exact hK
theorem Dj{x y:Int}(hK:K (.int .i64 (if x<y then-1 else if y<x then 1 else 0)) w):bC prog dK.id #[.int .u64 x,.int .u64 y] w K:=by
 refine dK.of ?_;refine fC.of ⟨_,rfl,?_⟩;refine fC.of ⟨_,rfl,?_⟩;refine Split.no (by simp) (Split.no (by simp) (Split.dec (fun h=>?_) (fun h=>Split.dec (fun h'=>?_) (fun h'=>?_))))
 ·rw [if_pos h]at hK;exact hK
 ·rw [if_neg h,if_pos h']at hK;exact hK
 ·rw [if_neg h,if_neg h']at hK;exact hK
theorem pU(h:CV w F c k G m){a b:HT}(ha:a∈ids G.D)(hb:b∈ids G.D)(hK:∀w',Kept Nil w w'->K (.int .i64 (BC G a b)) w'):
 bC prog bE.id #[.pointer (some ⟨c,0,none⟩),.agg a.1,.agg b.1] w K:=by
 refine bE.of ?_;unfold bE.W;intro w4 w5 w6;have k4:Kept Nil w w4:=(Kept.refl _ _).alloc _;have Bj:w4.heap[w.heap.size]? =some (.cells a.1 ag (0,0)):=aH w _;have k5:Kept Nil w4 w5:=(Kept.refl _ _).alloc _;have oS:w5.heap[w4.heap.size]? =some (.cells b.1 ag (0,0)):=aH w4 _;have k6:Kept Nil w5 w6:=(Kept.refl _ _).drew;clear_value w6;have xi:=(k5.tt k6).heap Bj (fun h=>h);have qE:=k6.heap oS (fun h=>h);have qZ:=(k4.tt k5).tt k6;have h6:=h.same qZ;obtain⟨A1,n1,c1,B1,m1,d1,s1,sa⟩:=h6.seen a ha;obtain⟨A2,n2,c2,B2,m2,d2,s2,sb⟩:=h6.seen b hb;refine⟨_,h6.c2,a.1,⟨a.2.1,Cells.bL xi⟩,_,h6.oQ ha,_,sa.XG,_,h6.c2,b.1,⟨b.2.1,Cells.bL qE⟩,_,h6.oQ hb,_,sb.XG,a.1,⟨a.2.1,Cells.bL xi⟩,b.1,⟨b.2.1,Cells.bL qE⟩,?_⟩;refine Dj ⟨_,rfl,⟨b.1,rfl,b.2.1,Cells.bL qE⟩,⟨a.1,rfl,a.2.1,Cells.bL xi⟩,?_⟩;refine pX a b ⟨_,rfl,?_⟩;have k7:Kept Nil w6 ((w6.alloc (.cells a.1 ag)).alloc (.cells b.1 ag)).drew:=(((Kept.refl Nil w6).alloc _).alloc _).drew;generalize ((w6.alloc (.cells a.1 ag)).alloc (.cells b.1 ag)).drew=w7 at k7⊢;intro w8;have k8:Kept Nil w7 w8:=(Kept.refl _ _).alloc _;have Ju:w8.heap[w7.heap.size]? =some (.cells _ _ (0,0)):=aH w7 _;clear_value w8;refine GD (A:=⟨w7.heap.size,0,none⟩) (by rw [aD Ju];rfl) (by rw [bt,aD Ju];rfl) ⟨_,rfl,?_⟩;have e:(if(if((G.fZ a).score:Int)<((G.fZ b).score:Int)then(-1:Int)else if((G.fZ b).score:Int)<((G.fZ a).score:Int)then 1 else 0)=0 then lT a b else if((G.fZ a).score:Int)<((G.fZ b).score:Int)then(-1:Int)else if((G.fZ b).score:Int)<((G.fZ a).score:Int)then 1 else 0)=BC G a b:=by
  rw [MA];unfold GS.score;by_cases h1:(G.fZ a).score<(G.fZ b).score
  ·have rD:((G.fZ a).score:Int)<((G.fZ b).score:Int):=by omega
   rw [if_pos h1,if_pos rD,if_neg (by decide)]
  ·have rD:¬((G.fZ a).score:Int)<((G.fZ b).score:Int):=by omega
   by_cases h2:(G.fZ b).score<(G.fZ a).score
   ·have uv:((G.fZ b).score:Int)<((G.fZ a).score:Int):=by omega
    rw [if_neg h1,if_neg rD,if_pos h2,if_pos uv,if_neg (by decide)]
   ·have uv:¬((G.fZ b).score:Int)<((G.fZ a).score:Int):=by omega
    rw [if_neg h1,if_neg rD,if_neg h2,if_neg uv,if_pos rfl]
 rw [e];exact hK _ ((qZ.tt k7).tt k8)
end
section
variable{w:World}
theorem fR.D8{mt te:TypeId}{z:Value}(T:xx mt te z){m:Nat}{f:HT->Option Value}(hm:fR w m f)(h:HT):
 (Instr.lookup mt (.map (some m)) (.agg h.1) true).run prog w=.ok (.tuple #[(f h).getD z,.bool (f h).isSome]) w:=by
 obtain⟨es,clock,l,h1,h2,h3,_⟩:=hm.ex;have h4:=mf h w h2;have h5:=nn h l 0;rw [h3]at h5;simp only [Instr.lookup,Sem.run_bind,run_underlying T.pg,pV h1,Result.andThen_ok,Sem.run_pure,jt,h4];cases hp:mc h l 0 with
 |none=>rw [hp]at h5;simp [<-h5,T.zero]
 |some p=>rw [hp]at h5;simp [<-h5]
theorem Cv{mt te:TypeId}{z:Value}(T:xx mt te z)(h:HT):
 (Instr.lookup mt (.map none) (.agg h.1) true).run prog w=.ok (.tuple #[z,.bool false]) w:=by
 have h3:=mf (es:= []) (l:= []) h w trivial;simp only [Instr.lookup,Sem.run_bind,run_underlying T.pg,Result.andThen_ok,Sem.run_pure,jt];simp [h3,mc,T.zero]
theorem GY.D8{F:Nat->Prop}{sm:Option Nat}{sz:HT->Option Nat}(h:GY w F sm sz)(b:HT):
 (Instr.lookup cO (.map sm) (.agg b.1) true).run prog w=.ok (.tuple #[.int .i64 (((sz b).getD 0:Nat):Int),.bool (sz b).isSome]) w:=by
 rcases h with⟨rfl,h⟩|⟨s,rfl,_,h⟩
 ·rw [h b];exact Cv rW b
 ·have:=h.D8 rW b
  unfold K4 at this;cases hb:sz b with
  |none=>rw [hb]at this;exact this
  |some n=>rw [hb]at this;exact this
end
section
variable{w w':World}{F S:Nat->Prop}{c k:Nat}{G:GS}{m:CM}{K:Value->World->Prop}
theorem Bp(h:CV w F c k G m)(hD:G.D.length<=5000)(a b:HT)(hK:∀w' (r:Bool),(r=true↔oq G.D a b)->Kept Nil w w'->K (.bool r) w'):
 bC prog dv.id #[.pointer (some ⟨c,0,none⟩),.agg a.1,.agg b.1] w K:=by
 refine dv.of ?_;unfold dv.W;intro w4 w5 w6;have k4:Kept Nil w w4:=(Kept.refl _ _).alloc _;have Bj:w4.heap[w.heap.size]? =some (.cells a.1 ag (0,0)):=aH w _;have k5:Kept Nil w4 w5:=(Kept.refl _ _).alloc _;have oS:w5.heap[w4.heap.size]? =some (.cells b.1 ag (0,0)):=aH w4 _;have k6:Kept Nil w5 w6:=(Kept.refl _ _).drew;clear_value w6;have xi:=(k5.tt k6).heap Bj (fun h=>h);have qE:=k6.heap oS (fun h=>h);have qZ:=(k4.tt k5).tt k6;have h6:=h.same qZ;refine⟨a.1,⟨a.2.1,Cells.bL xi⟩,b.1,⟨b.2.1,Cells.bL qE⟩,⟨a.2.ints,b.2.ints⟩,?_⟩;rw [dF];by_cases jT:a=b
 ·refine Split.no (by rw [decide_eq_true jT];rfl) (hK w6 false ⟨(fun e=>by cases e),fun e=>absurd jT e.1⟩ qZ)
 ·refine Split.yes (by rw [decide_eq_false jT];rfl) ⟨_,h6.c1,a.1,⟨a.2.1,Cells.bL xi⟩,b.1,⟨b.2.1,Cells.bL qE⟩,?_⟩
  obtain⟨mx,X6,_⟩:=h6.X;refine mh X6 hD a b fun w7 r hr k7=>⟨_,rfl,?_⟩;have zv:=qZ.tt k7;cases r with
  |true=>exact Split.no rfl (hK w7 false ⟨(fun e=>by cases e),fun e=>absurd (hr.1 rfl) e.2.1⟩ zv)
  |false=>
   have h7:=h.same zv;refine Split.yes rfl ⟨_,h7.c1,b.1,⟨b.2.1,Cells.bL (k7.heap qE (fun h=>h))⟩,a.1,⟨a.2.1,Cells.bL (k7.heap xi (fun h=>h))⟩,?_⟩;obtain⟨mx',X7,_⟩:=h7.X;refine mh X7 hD b a fun w8 r' Sc k8=>⟨_,rfl,hK w8 _ ?_ (zv.tt k8)⟩;cases r' with
   |true=>exact⟨(fun e=>by cases e),fun e=>absurd (Sc.1 rfl) e.2.2⟩
   |false=>exact⟨fun _=>⟨jT,(fun e=>by have:=hr.2 e;cases this),(fun e=>by have:=Sc.2 e;cases this)⟩,fun _=>rfl⟩
def nQ(D:DG)(l:List HT):Int:=if l= []then 9 else if ∃p∈l,p∉ids D then 6 else 0
theorem Gx(h:CV w F c k G m){A:Option Addr}{n cx:Nat}{l:List HT}(hl:HS w A n l)(hn:n<=400000)(hK:∀w',Kept Nil w w'->K (.int .i64 (nQ G.D l)) w'):
 bC prog eQ.id #[.pointer (some ⟨c,0,none⟩),.slice A n cx] w K:=by
 have hlen:=hl.len;refine eQ.of ?_;unfold eQ.W;intro w4;have k4:Kept Nil w w4:=(Kept.refl _ _).alloc _;have QU:w4.heap[w.heap.size]? =some (.cells #[.pointer (some ⟨c,0,none⟩)] dQ (0,0)):=aH w _;clear_value w4;refine⟨some ⟨c,0,none⟩,by rw [aD QU];rfl,nh (h.same k4) ⟨_,rfl,Split.no rfl ?_⟩⟩;by_cases h0:n=0
 ·subst h0
  have e:l= []:=List.eq_nil_of_length_eq_zero hlen;refine Split.yes rfl ?_;have:=hK w4 k4;unfold nQ at this;rw [if_pos e]at this;exact this
 ·have fM:l≠ []:=fun e=>by subst e;exact h0 hlen.symm
  refine Split.no (by simpa using (by omega:¬(n:Int)=0)) ?_;refine cg.of (an.of ?_);refine an.cC (I:=fun s w'=>∃i:Nat,s=(0,(i:Int))/\i<=n/\(∀p∈l.take i,p∈ids G.D)/\Kept Nil w4 w') (μ:=fun s _=>((n:Int)-s.2).toNat) (s:=(0,0)) ⟨0,rfl,Nat.zero_le _,by simp,Kept.refl _ _⟩ ?_;rintro s w' ⟨i,rfl,hi,dt,kw⟩;have k0w:=k4.tt kw;refine Split.dec (fun jK=>?_) (fun gA=>?_)
  ·simp only at jK
   have dS:i<n:=by omega
   obtain⟨y,hy⟩:∃y,l[i]? =some y:=⟨_,List.getElem?_eq_getElem (by omega)⟩;refine(hl.same k0w).load (i:=(i:Int)) (by omega) hy ?_;refine eT.of ?_;unfold eT.W;intro w7 w8;have k7:Kept Nil w' w7:=(Kept.refl _ _).alloc _;have Og:w7.heap[w'.heap.size]? =some (.cells y.1 ag (0,0)):=aH w' _;have k8:Kept Nil w7 w8:=(Kept.refl _ _).drew;clear_value w8;have Ju:=k8.heap Og (fun h=>h);have RN:=(kw.tt k7).tt k8;have h8:=h.same (k4.tt RN);refine⟨some ⟨c,0,none⟩,by rw [aD (RN.heap QU (fun h=>h))];rfl,_,h8.c2,y.1,⟨y.2.1,Cells.bL Ju⟩,_,h8.look y,_,rfl,?_⟩;by_cases hm:y∈ids G.D
   ·refine Split.no (by rw [if_pos hm];rfl) ?_
    simp only;rw [dM (n:=(i:Int)) (by omega) (by omega)];refine⟨(0,(i:Int)+1),rfl,⟨i+1,rfl,dS,fun p hp=>?_,RN⟩,by simp only;omega⟩;rcases(bP hy).1 hp with hp|rfl
    ·exact dt p hp
    ·exact hm
   ·refine Split.yes (by rw [if_neg hm];rfl) ?_
    refine⟨(i:Int),rfl,_,rfl,?_⟩;have:=hK w8 (k4.tt RN);unfold nQ at this;rw [if_neg fM,if_pos ⟨y,List.mem_of_getElem? hy,hm⟩]at this;refine Split.yes (decide_eq_true (by omega)) this
  ·simp only at gA
   rw [aR,an.df];rw [List.take_of_length_le (by omega)]at dt;refine⟨_,rfl,_,rfl,?_⟩;have:=hK w' k0w;unfold nQ at this;rw [if_neg fM,if_neg (fun⟨p,hp,hn⟩=>hn (dt p hp))]at this;exact Split.no (by decide) this
end
theorem tX{α β:Type}{f:α->Option β}{y:α}{n:β}:∀ {l:List α} {j:Nat},l[j]? =some y->(∀x∈l.take j,f x=none)->f y=some n->l.findSome? f=some n
 | [],j,h,_,_=>by simp at h
 |x::l,0,h,_,hy=>by
  simp only [List.getElem?_cons_zero,Option.some.injEq]at h;subst h;rw [List.findSome?_cons,hy]
 |x::l,j+1,h,ha,hy=>by
  have hx:=ha x (by simp);rw [List.findSome?_cons,hx];exact tX (l:=l) (j:=j) (by simpa using h) (fun z hz=>ha z (by simp [hz])) hy
section
variable{w w':World}{F S:Nat->Prop}{c k:Nat}{G:GS}{m:CM}{K:Value->World->Prop}
theorem Da(h:CV w F c k G m)(hD:G.D.length<=5000){a b:HT}(ha:a∈ids G.D){l:List HT}(hc:cI G.D G.P a l)(hK:∀w',Kept Nil w w'->K (.int .i64 ((mV m.sz l b:Nat):Int)) w'):
 bC prog bg.id #[.pointer (some ⟨c,0,none⟩),.agg a.1,.agg b.1] w K:=by
 have W:=h.fc.W;have H:=h.fc.iA;have Sj:∀y∈l,y∈ids G.D:=fun y hy=>((hc.mem W H).1 hy).mem.1;refine bg.of ?_;unfold bg.W;intro w4 w5 w6 w7 w8;have k4:Kept Nil w w4:=(Kept.refl _ _).alloc _;have QU:w4.heap[w.heap.size]? =some (.cells #[.pointer (some ⟨c,0,none⟩)] dQ (0,0)):=aH w _;have k5:Kept Nil w4 w5:=(Kept.refl _ _).alloc _;have Mk:w5.heap[w4.heap.size]? =some (.cells a.1 ag (0,0)):=aH w4 _;have k6:Kept Nil w5 w6:=(Kept.refl _ _).alloc _;have qE:w6.heap[w5.heap.size]? =some (.cells b.1 ag (0,0)):=aH w5 _;have k7:Kept Nil w6 w7:=(Kept.refl _ _).alloc _;have Nw:w7.heap[w6.heap.size]? =some (.cells #[.int .i64 0] eW (0,0)):=aH w6 _;have k8:Kept Nil w7 w8:=(Kept.refl _ _).drew;clear_value w8;have Sb:=k8.heap Nw (fun h=>h);have Ju:=k8.heap (k7.heap qE (fun h=>h)) (fun h=>h);have ha8:=k8.heap (k7.heap (k6.heap Mk (fun h=>h)) (fun h=>h)) (fun h=>h);have hc8:=k8.heap (k7.heap (k6.heap (k5.heap QU (fun h=>h)) (fun h=>h)) (fun h=>h)) (fun h=>h);have uL:=(((k4.tt k5).tt k6).tt k7).tt k8;have s06:=(((k4.tt k5).tt k6)).size;have l7:=aU Nw;have l8:=aU Sb;clear_value w7 w6 w5 w4;refine⟨some ⟨c,0,none⟩,by rw [aD hc8];rfl,_,(h.same uL).c1,a.1,⟨a.2.1,Cells.bL ha8⟩,?_⟩;refine pH a fun kc pb qb mW LP LM Bc U1=>⟨_,rfl,?_⟩;have Yb:=mW.size;have IF:=uL.tt mW;have Qj:=mW.heap Sb (fun h=>h)
 let uw:Value:=.func (.func aZ.id) #[] #[.pointer (some ⟨pb,0,none⟩),.pointer (some ⟨qb,0,none⟩)]
 let ρ0:Env:= [(3,.pointer (some ⟨w.heap.size,0,none⟩)),(5,.pointer (some ⟨w5.heap.size,0,none⟩)),(6,.pointer (some ⟨w6.heap.size,0,none⟩)),(15,uw)]
 let J:Nat->World->Prop:=fun j u=>Kept Nil kc u/\j<=l.length/\∀y∈l.take j,m.sz y b=none
 let Jd:Code->World->Prop:=fun e u=>e=.ret/\Kept (fun k=>k=w6.heap.size) kc u/\∃n:Nat,(l.findSome? fun y=>m.sz y b)=some n/\u.heap[w6.heap.size]? =some (.cells #[.int .i64 (n:Int)] eW (0,0))
 have k0J:∀ {u:World},Kept Nil kc u->Kept Nil w u:=fun k=>IF.tt k;have kS:∀ {v:World},Kept (fun k=>k=w6.heap.size) kc v->Kept Nil w v:=fun k=>IF.trans k (fun k hk e=>by omega);obtain⟨mx,X35,_⟩:=(h.same IF).X
 change Holds none [] prog _ _ _ ρ0 kc
 refine oB (n:=33) (ρ:=ρ0) (ρ0:=ρ0) ng mix bg.k (t:=15) (ps:= #[16]) (by kernel_rfl) (by decide) rfl aZ.at_ rfl (.inl rfl) (fun i x hi hx=>hx) rfl se l (fun _=>rfl) (fun q hq=>by
  have Rp:q=16:=by simpa using hq
  subst Rp;exact⟨by decide,by decide⟩) (yr (F:=m.FX) (x:=m.x) (m:=mx) (pb:=pb) (qb:=qb) hc (by omega)) J Jd ?_ ?_ (fun j u hJ=>⟨X35.same hJ.1,hJ.1.heap LP (fun h=>h),hJ.1.heap LM (fun h=>h)⟩) ?_ ?_ ?_ ?_ ?_
 ·rintro j u1 u2 R nC ⟨h1,h2,h3⟩ oR
  exact⟨h1.trans oR (fun k hk e=>by omega),h2,h3⟩
 ·rintro e u1 u2 R nC ⟨h1,h2,n,h3,h4⟩ oR
  exact⟨h1,h2.trans oR (fun k hk e=>by omega),n,h3,oR.heap h4 (by omega)⟩
 ·intro R
  exact⟨(((Kept.refl _ _).alloc _).alloc _),Nat.zero_le _,by simp⟩
 ·rintro j z u1 R hz ⟨h1,h2,h3⟩ nC
  have e7:kl ρ0 ((#[16]:Array Nat).toList.zip (se z))= [(3,.pointer (some ⟨w.heap.size,0,none⟩)),(5,.pointer (some ⟨w5.heap.size,0,none⟩)),(6,.pointer (some ⟨w6.heap.size,0,none⟩)),(15,uw),(16,.agg z.1)]:=rfl;rw [e7,bg.a1];have tU:=(lgeS hz).1;unfold bg.A1;intro Kp;obtain⟨tf,jM,kz⟩:=iy (w:=u1) (z:=eN.1) (cs:=z.1) (t:=ag) (by rw [z.2.1];rfl);refine⟨⟨z.2.1,z.2.one,fun j hj=>tf j (by rw [z.2.1];exact hj)⟩,?_⟩;intro MM
  replace jM:MM.heap[u1.heap.size]? =some (.cells z.1 ag (0,0)):=jM
  replace kz:Kept Nil u1 MM:=kz
  clear_value MM;have Jk:=nC.aF kz (fun h=>h) (fun h=>h);refine⟨Jk,fun w2 R2 l9 qz=>?_⟩;have lE:=l9.heap jM (jW jM Jk.loop);have wU:Kept Nil kc w2:=(h1.tt kz).trans l9 (fun k hk e=>by omega);rw [bg.y1];unfold bg.Y1;intro SP;have k48:Kept Nil w2 SP:=(Kept.refl _ _).drew;clear_value SP;have VT:=qz.aF k48 (fun h=>h) (fun h=>h);have AP:=wU.tt k48;have Ps:=mW.tt AP;have h48:=h.same (uL.tt Ps);obtain⟨A1,n1,c1,B1,m1,d1,s1,sa⟩:=h48.seen z (Sj z (List.mem_of_getElem? hz));refine⟨some ⟨c,0,none⟩,by rw [aD (Ps.heap hc8 (fun h=>h))];rfl,_,h48.c2,z.1,⟨z.2.1,Cells.bL (k48.heap lE (fun h=>h))⟩,_,h48.oQ (Sj z (List.mem_of_getElem? hz)),_,sa.c35,b.1,⟨b.2.1,Cells.bL (Ps.heap Ju (fun h=>h))⟩,_,_,sa.sz.D8 b,?_⟩;cases hzb:m.sz z b with
  |some n=>
   refine Split.yes rfl ⟨dm (AP.heap Qj (fun h=>h)) (by simp),?_⟩;intro qQ;have Qh:qQ.heap[w6.heap.size]? =some (.cells #[.int .i64 (n:Int)] eW (0,0)):=by
    show(SP.setCell ⟨w6.heap.size,0,none⟩ (.int .i64 (n:Int))).heap[w6.heap.size]? =_;rw [cV (AP.heap Qj (fun h=>h)) 0];rfl
   have F9:Kept (· =w6.heap.size) SP qQ:=Kept.setCell (S:=fun k=>k=w6.heap.size) (Kept.refl _ SP) (p:=⟨w6.heap.size,0,none⟩) (fun _=>rfl) _;clear_value qQ;exact⟨VT.aF F9 (fun e=>by omega) (fun e=>by omega),rfl,(AP.mono fun _ _ h=>h.elim).tt F9,n,tX hz h3 hzb,Qh⟩
  |none=>
   refine Split.no rfl ⟨VT,AP,tU,fun y hy=>?_⟩;rcases(bP hz).1 hy with hy|rfl
   ·exact h3 y hy
   ·exact hzb
 ·rintro u1 R ⟨h1,h2,h3⟩ nC
  rw [List.take_of_length_le (Nat.le_refl _)]at h3;have e7:fY ρ0 kc.heap.size= [(3,.pointer (some ⟨w.heap.size,0,none⟩)),(5,.pointer (some ⟨w5.heap.size,0,none⟩)),(6,.pointer (some ⟨w6.heap.size,0,none⟩)),(15,uw),(4294967296,.agg (gS [kc.heap.size]))]:=rfl;rw [e7,bg.iL];unfold bg.fD;have mU:=h1.heap Qj (fun h=>h);refine⟨dm mU (by simp),?_⟩;intro qQ;have Qh:qQ.heap[w6.heap.size]? =some (.cells #[.int .i64 0] eW (0,0)):=by
   show(u1.setCell ⟨w6.heap.size,0,none⟩ (.int .i64 0)).heap[w6.heap.size]? =_;rw [cV mU 0];rfl
  have F9:Kept (· =w6.heap.size) u1 qQ:=Kept.setCell (S:=fun k=>k=w6.heap.size) (Kept.refl _ u1) (p:=⟨w6.heap.size,0,none⟩) (fun _=>rfl) _;clear_value qQ;have nC:=nC.aF F9 (fun e=>by omega) (fun e=>by omega);rw [lA];have kt:=iT [kc.heap.size] qQ;have hm:∀E∈ [kc.heap.size],qQ.heap[E]? =some (.deferred (some [])):=fun E hE=>by
   rw [List.mem_singleton]at hE;subst hE;exact nC.mark
  refine⟨kr [kc.heap.size] qQ (by simp) hm,0,by rw [aD (kt.heap Qh (fun hE=>by rw [List.mem_singleton]at hE;omega))];rfl,?_⟩;have e0:mV m.sz l b=0:=by
   unfold mV;have:(l.findSome? fun h=>m.sz h b)=none:=List.findSome?_eq_none_iff.2 h3;rw [this];rfl
  have:=hK (fL [kc.heap.size] qQ) ((kS ((h1.mono fun _ _ h=>h.elim).tt F9)).trans kt (fun k hk hE=>by rw [List.mem_singleton]at hE;have:=IF.size;omega));rw [e0]at this;exact this
 ·rintro u1 R ⟨_,h2,n,h3,h4⟩ nC
  have e7:fY ρ0 kc.heap.size= [(3,.pointer (some ⟨w.heap.size,0,none⟩)),(5,.pointer (some ⟨w5.heap.size,0,none⟩)),(6,.pointer (some ⟨w6.heap.size,0,none⟩)),(15,uw),(4294967296,.agg (gS [kc.heap.size]))]:=rfl;rw [e7,bg.B8];unfold bg.wI;rw [lA];have kt:=iT [kc.heap.size] u1;have hm:∀E∈ [kc.heap.size],u1.heap[E]? =some (.deferred (some [])):=fun E hE=>by
   rw [List.mem_singleton]at hE;subst hE;exact nC.mark
  refine⟨kr [kc.heap.size] u1 (by simp) hm,(n:Int),by rw [aD (kt.heap h4 (fun hE=>by rw [List.mem_singleton]at hE;omega))];rfl,?_⟩;have e0:mV m.sz l b=n:=by unfold mV;rw [h3];rfl
  have:=hK (fL [kc.heap.size] u1) ((kS h2).trans kt (fun k hk hE=>by rw [List.mem_singleton]at hE;have:=IF.size;omega));rw [e0]at this;exact this
 ·rintro id u1 R ⟨e,_⟩ nC
  cases e
end
section
variable{w:World}
theorem BF{x:HT}:∀ {l:List (HT×Value)},assoc x l≠none↔x∈l.map (·.1)
 | []=>by simp [assoc]
 |(y,v)::l=>by
  have:=BF (x:=x) (l:=l);unfold assoc;by_cases e:x=y
  ·subst e;simp
  ·rw [if_neg e,this]
   simp only [List.map_cons,List.mem_cons];exact⟨.inr,fun h=>h.resolve_left e⟩
theorem fR.len{mt te:TypeId}{z:Value}(T:xx mt te z){m:Nat}{f:HT->Option Value}(hm:fR w m f)(ty:TypeId){l:List HT}(hn:l.Nodup)(hl:∀x,f x≠none↔x∈l):
 (Builtin.len_ #[mt] ty #[.map (some m)]).run prog w=.ok (.int .i64 (l.length:Int)) w:=by
 obtain⟨es,clock,l',h1,h2,h3,_,_,h6⟩:=hm.ex;have e1:es.size=l'.length:=by have:=h2.len;simpa using this
 have e2:l'.length=l.length:=by
  have hp:(l'.map (·.1)).Perm l:=(List.perm_ext_iff_of_nodup h6 hn).2 fun x=>by rw [<-BF,h3,hl]
  simpa using hp.length_eq
 simp [Builtin.len_,run_underlying T.pg,pV h1,goInt,Result.andThen,e1,e2]
end
section
variable{w w':World}{F S:Nat->Prop}{c k:Nat}{G:GS}{m:CM}{K:Value->World->Prop}
structure VB(w:World)(c:Nat)(s:HT)(bs bc bh q sm:Nat)(ov:HT->Option Nat):Prop where
 hs:w.heap[bs]? =some (.cells #[.pointer (some ⟨q,0,none⟩)] fw (0,0))
 hc:w.heap[bc]? =some (.cells #[.pointer (some ⟨c,0,none⟩)] dQ (0,0))
 hh:w.heap[bh]? =some (.cells s.1 ag (0,0))
 sz:w.cell? ((⟨q,0,none⟩:Addr).add 35)=some (.map (some sm))
 ov:fR w sm (K4 ov)
theorem VB.aF{S:Nat->Prop}{s:HT}{bs bc bh q sm:Nat}{ov:HT->Option Nat}(h:VB w c s bs bc bh q sm ov)(hk:Kept S w w')(h1:¬S bs)(h2:¬S bc)(h3:¬S bh)(h4:¬S q)(h5:¬S sm):VB w' c s bs bc bh q sm ov:=
 ⟨hk.heap h.hs h1,hk.heap h.hc h2,hk.heap h.hh h3,hk.cell h.sz h4,h.ov.aF hk h5⟩
theorem VB.same{s:HT}{bs bc bh q sm:Nat}{ov:HT->Option Nat}(h:VB w c s bs bc bh q sm ov)(hk:Kept Nil w w'):VB w' c s bs bc bh q sm ov:=h.aF hk (fun h=>h) (fun h=>h) (fun h=>h) (fun h=>h) (fun h=>h)
theorem Bn(h:CV w F c k G m)(hD:G.D.length<=5000){s b:HT}(hs:s∈ids G.D){l:List HT}(hc:cI G.D G.P s l){bs bc bh q sm:Nat}{ov:HT->Option Nat}(V:VB w c s bs bc bh q sm ov)
 (hK:∀w',Kept Nil w w'->K (.int .i64 ((r6 ov (mV m.sz l) b:Nat):Int)) w'):
 bC prog b7.id #[.agg b.1,.pointer (some ⟨bs,0,none⟩),.pointer (some ⟨bc,0,none⟩),.pointer (some ⟨bh,0,none⟩)] w K:=by
 refine b7.of ?_;unfold b7.W;intro w4 w5;have k4:Kept Nil w w4:=(Kept.refl _ _).alloc _;have ph:w4.heap[w.heap.size]? =some (.cells b.1 ag (0,0)):=aH w _;have k5:Kept Nil w4 w5:=(Kept.refl _ _).drew;clear_value w5;have oS:=k5.heap ph (fun h=>h);have q9:=k4.tt k5;have V5:=V.same q9;refine⟨some ⟨q,0,none⟩,by rw [aD V5.hs];rfl,_,V5.sz,b.1,⟨b.2.1,Cells.bL oS⟩,?_⟩;have lk:=V5.ov.D8 rW b;unfold K4 at lk;cases hb:ov b with
 |some n=>
  rw [hb]at lk;refine⟨(n:Int),true,lk,Split.yes rfl ?_⟩;have:=hK w5 q9;unfold r6 at this;rw [hb]at this;exact this
 |none=>
  rw [hb]at lk;refine⟨0,false,lk,Split.no rfl ⟨some ⟨c,0,none⟩,by rw [aD V5.hc];rfl,s.1,⟨s.2.1,Cells.bL V5.hh⟩,b.1,⟨b.2.1,Cells.bL oS⟩,?_⟩⟩;refine Da (h.same q9) hD hs hc fun w7 k7=>⟨_,rfl,?_⟩;have:=hK w7 (q9.tt k7);unfold r6 at this;rw [hb]at this;exact this
def zt(w:World)(fm:Nat)(kn:HT->Nat)(done:List HT):Prop:=fR w fm fun y=>if y∈done then some (.int .i64 (kn y:Int))else none
theorem Bl(h:CV w F c k G m)(hD:G.D.length<=5000)(rz:k<=1000){s b:HT}(hs:s∈ids G.D){l:List HT}(hc:cI G.D G.P s l){bs bc bh q sm kb fb fm:Nat}{ov:HT->Option Nat}(V:VB w c s bs bc bh q sm ov)
 (NN:w.heap[kb]? =some (.cells #[.func (.func b7.id) #[] #[.pointer (some ⟨bs,0,none⟩),.pointer (some ⟨bc,0,none⟩),.pointer (some ⟨bh,0,none⟩)]] fE (0,0)))
 (Sm:w.heap[fb]? =some (.cells #[.map (some fm)] cO (0,0))) {done:List HT} (hn:done.Nodup) (YT:b∉done) (hF:zt w fm (r6 ov (mV m.sz l)) done) (hfo:¬m.own c fm) (hff:¬F fm) (fM:bc≠fm)
 (hK:∀w' (r:Bool),r=rR k (r6 ov (mV m.sz l)) done b->zt w' fm (r6 ov (mV m.sz l)) (done++ [b])->Kept (· =fm) w w'->K (.bool r) w'):
 bC prog cM.id #[.agg b.1,.pointer (some ⟨kb,0,none⟩),.pointer (some ⟨fb,0,none⟩),.pointer (some ⟨bc,0,none⟩)] w K:=by
 have lfm:=hF.lt;refine cM.of ?_;unfold cM.W;intro w4 w5;have k4:Kept Nil w w4:=(Kept.refl _ _).alloc _;have ph:w4.heap[w.heap.size]? =some (.cells b.1 ag (0,0)):=aH w _;have k5:Kept Nil w4 w5:=(Kept.refl _ _).drew;clear_value w5;have oS:=k5.heap ph (fun h=>h);have q9:=k4.tt k5;have hnf:fb≠fm:=fun e=>by subst e;obtain⟨es,cl,_,h1,_⟩:=hF.ex;rw [Sm]at h1;cases h1
 refine⟨some fm,by rw [aD (q9.heap Sm (fun h=>h))];rfl,b.1,⟨b.2.1,Cells.bL oS⟩,_,by rw [aD (q9.heap NN (fun h=>h))];rfl,b.1,⟨b.2.1,Cells.bL oS⟩,?_⟩;refine⟨_,_,_,_,rfl,b7.at_,rfl,?_⟩;refine Bn (h.same q9) hD hs hc (V.same q9) fun w7 k7=>⟨_,rfl,⟨b.1,rfl,b.2.1,Cells.bL (k7.heap oS (fun h=>h))⟩,?_,?_⟩
 ·rw [aD ((q9.tt k7).heap Sm (fun h=>h))];rfl
 have zv:=q9.tt k7;obtain⟨w8,Sb,hm8,k8⟩:=(hF.same zv).put rW b (.int .i64 ((r6 ov (mV m.sz l) b:Nat):Int));refine⟨w8,Sb,?_⟩;intro w9;have k9:Kept Nil w8 w9:=(Kept.refl _ _).drew;clear_value w9;have k89:Kept (· =fm) w7 w9:=k8.trans k9 (fun _ _ h=>h.elim);have Ge:Kept (· =fm) w w9:=(zv.mono fun _ _ h=>h.elim).tt k89;have Ss:zt w9 fm (r6 ov (mV m.sz l)) (done++ [b]):=by
  refine fR.same ?_ k9;have e:(fun y=>if y∈done++ [b]then some (Value.int .i64 ((r6 ov (mV m.sz l) y:Nat):Int))else none)=fun x=>if x=b then some (.int .i64 ((r6 ov (mV m.sz l) b:Nat):Int))else if x∈done then some (.int .i64 ((r6 ov (mV m.sz l) x:Nat):Int))else none:=by
   funext y
   by_cases e:y=b
   ·subst e;rw [if_pos (by simp),if_pos rfl]
   ·rw [if_neg e]
    by_cases hy:y∈done
    ·rw [if_pos (List.mem_append_left _ hy),if_pos hy]
    ·rw [if_neg (by simp [hy,e]),if_neg hy]
  rw [e];exact hm8
 have hb9:w9.heap[w.heap.size]? =some (.cells b.1 ag (0,0)):=((k7.mono fun _ _ h=>h.elim).tt k89:Kept (· =fm) w5 w9).heap oS (by omega);have Wn:=Ge.heap Sm hnf;have gu:(done++ [b]).Nodup:=List.nodup_append.2 ⟨hn,by simp,fun x hx y hy e=>by
  have:y=b:=by simpa using hy
  subst this;subst e;exact YT hx⟩
 have h9:CV w9 F c k G m:=h.aF Ge (fun j hj e=>by subst e;exact hfo hj) (fun j hj e=>by subst e;exact hff hj);have hc9:w9.heap[bc]? =some (.cells #[.pointer (some ⟨c,0,none⟩)] dQ (0,0)):=Ge.heap V.hc fM;refine⟨some fm,by rw [aD Wn];rfl,(done++ [b]).length,Ss.len rW eW gu (fun x=>by
  by_cases hx:x∈done++ [b]
  ·rw [if_pos hx];exact⟨fun _=>hx,fun _ e=>by cases e⟩
  ·rw [if_neg hx];exact⟨fun e=>absurd rfl e,fun e=>absurd e hx⟩),some ⟨c,0,none⟩,by rw [aD hc9];rfl,(k:Int),h9.c0,?_⟩
 refine Split.dec (fun h1=>?_) (fun h1=>?_)
 ·have lk:=fR.look rW Ss b
  rw [if_pos (by simp)]at lk;refine⟨some fm,by rw [aD Wn];rfl,b.1,⟨b.2.1,Cells.bL hb9⟩,_,lk,some ⟨c,0,none⟩,by rw [aD hc9];rfl,(k:Int),h9.c0,?_⟩;refine hK w9 _ ?_ Ss Ge;unfold rR;rw [List.length_append,List.length_cons,List.length_nil]at h1;refine decide_eq_decide.2 ⟨fun h2=>⟨by omega,by omega⟩,fun h2=>by omega⟩
 ·refine hK w9 false ?_ Ss Ge
  unfold rR;rw [List.length_append,List.length_cons,List.length_nil]at h1;exact(decide_eq_false (by omega)).symm
end
structure PN where
 bs:Nat
 bc:Nat
 bh:Nat
 q:Nat
 sm:Nat
 kb:Nat
 fb:Nat
 fm:Nat
 yb:Nat
 hb:Nat
def PN.uw(p:PN):Value:=.func (.func cM.id) #[] #[.pointer (some ⟨p.kb,0,none⟩),.pointer (some ⟨p.fb,0,none⟩),.pointer (some ⟨p.bc,0,none⟩)]
def PN.iG(p:PN)(j:Nat):Prop:=p.bs≠j/\p.bc≠j/\p.bh≠j/\p.q≠j/\p.sm≠j/\p.kb≠j/\p.fb≠j
structure PG(w:World)(F:Nat->Prop)(c k:Nat)(G:GS)(m:CM)(s h:HT)(p:PN)(ov:HT->Option Nat):Prop where
 C:CV w F c k G m
 V:VB w c s p.bs p.bc p.bh p.q p.sm ov
 kb:w.heap[p.kb]? =some (.cells #[.func (.func b7.id) #[] #[.pointer (some ⟨p.bs,0,none⟩),.pointer (some ⟨p.bc,0,none⟩),.pointer (some ⟨p.bh,0,none⟩)]] fE (0,0))
 fb:w.heap[p.fb]? =some (.cells #[.map (some p.fm)] cO (0,0))
 yb:w.cell? ⟨p.yb,0,none⟩=some p.uw
 hb:w.heap[p.hb]? =some (.cells h.1 ag (0,0))
 fo:¬m.own c p.fm
 ff:¬F p.fm
 iG:p.iG p.fm
 y:p.yb≠p.fm
 h:p.hb≠p.fm
section
variable{w w' u:World}{F:Nat->Prop}{c k:Nat}{G:GS}{m:CM}{s h:HT}{p:PN}{ov:HT->Option Nat}{K:Value->World->Prop}
theorem PG.aF(B:PG w F c k G m s h p ov)(hk:Kept (· =p.fm) w w'):PG w' F c k G m s h p ov:=by
 obtain⟨f1,f2,f3,f4,f5,f6,f7⟩:=B.iG;exact⟨B.C.aF hk (fun j hj e=>by subst e;exact B.fo hj) (fun j hj e=>by subst e;exact B.ff hj),B.V.aF hk f1 f2 f3 f4 f5,hk.heap B.kb f6,hk.heap B.fb f7,hk.cell B.yb B.y,hk.heap B.hb B.h,B.fo,B.ff,B.iG,B.y,B.h⟩
theorem PG.same(B:PG w F c k G m s h p ov)(hk:Kept Nil w w'):PG w' F c k G m s h p ov:=B.aF (hk.mono fun _ _ h=>h.elim)
theorem sQ(B:PG w F c k G m s h p ov)(hD:G.D.length<=5000)(rz:k<=1000)(hs:s∈ids G.D){l:List HT}(hc:cI G.D G.P s l){done:List HT}(hF:zt w p.fm (r6 ov (mV m.sz l)) done){b:HT}{zb:Nat}
 (hz:w.heap[zb]? =some (.cells b.1 ag (0,0))) (hzf:zb≠p.fm) (hn:oq G.D b h->(done++ [b]).Nodup) {A T:World->Prop}
 (hA:∀u,oq G.D b h->rR k (r6 ov (mV m.sz l)) done b=false->Kept (· =p.fm) w u->A u)
 (hT:∀u yg,yg=done++(if oq G.D b h then [b]else [])->(oq G.D b h->rR k (r6 ov (mV m.sz l)) done b=true)->zt u p.fm (r6 ov (mV m.sz l)) yg->Kept (· =p.fm) w u->T u):
 bC prog dv.id #[.pointer (some ⟨c,0,none⟩),.agg b.1,.agg h.1] w fun x y=>∃z:Bool,x=.bool z/\Split z (∃a1:Value,y.cell? ⟨p.yb,0,none⟩=some a1/\∃b1:Array Value,(b1.size=32/\Cells y ⟨zb,0,none⟩ b1)/\
  ∃(c1:Nat) (d1 e1:Array Value) (f1:Func),(a1:Value)=.func (.func c1) d1 e1/\prog.funcs[c1]? =some f1/\f1.body.isSome=true/\
   bC prog c1 (d1.toList++([.agg b1]:List Value)++e1.toList).toArray y fun g1 i1=>∃j1:Bool,g1=.bool j1/\Split (!j1) (A i1) (T i1)) (T y):=by
 refine Bp B.C hD b h fun y r hr ky=>⟨r,rfl,?_⟩;have kyf:Kept (· =p.fm) w y:=ky.mono fun _ _ h=>h.elim;have By:=B.same ky;cases r with
 |false=>
  have LV:¬oq G.D b h:=fun e=>by have:=hr.2 e;cases this
  exact Split.no rfl (hT y done (by rw [if_neg LV,List.append_nil]) (fun e=>absurd e LV) (hF.same ky) kyf)
 |true=>
  have ha:=hr.1 rfl;have gu:=hn ha;rw [List.nodup_append]at gu;refine Split.yes rfl ⟨_,By.yb,b.1,⟨b.2.1,Cells.bL (ky.heap hz (fun h=>h))⟩,_,_,_,_,rfl,cM.at_,rfl,?_⟩;refine Bl By.C hD rz hs hc By.V By.kb By.fb gu.1 (fun e=>gu.2.2 b e b (by simp) rfl) (hF.same ky) B.fo B.ff B.iG.2.1 fun v r hr hv kv=>⟨r,rfl,?_⟩;have Pf:Kept (· =p.fm) w v:=kyf.tt kv;cases r with
  |false=>exact Split.yes rfl (hA v ha hr.symm Pf)
  |true=>exact Split.no rfl (hT v (done++ [b]) (by rw [if_pos ha]) (fun _=>hr.symm) hv Pf)
end
structure PG0(w:World)(F:Nat->Prop)(c k:Nat)(G:GS)(m:CM)(s:HT)(p:PN)(ov:HT->Option Nat):Prop where
 C:CV w F c k G m
 V:VB w c s p.bs p.bc p.bh p.q p.sm ov
 kb:w.heap[p.kb]? =some (.cells #[.func (.func b7.id) #[] #[.pointer (some ⟨p.bs,0,none⟩),.pointer (some ⟨p.bc,0,none⟩),.pointer (some ⟨p.bh,0,none⟩)]] fE (0,0))
 fb:w.heap[p.fb]? =some (.cells #[.map (some p.fm)] cO (0,0))
 fo:¬m.own c p.fm
 ff:¬F p.fm
 iG:p.iG p.fm
theorem dq:∀ {l m:List HT},l.Nodup->(∀x∈l,x∈m)->l.length<=m.length
 | [],_,_,_=>Nat.zero_le _
 |x::l,m,hn,hm=>by
  rw [List.nodup_cons]at hn;have hx:=hm x List.mem_cons_self;have:=dq (m:=m.erase x) hn.2 fun y hy=>(List.mem_erase_of_ne (fun e=>hn.1 (by rw [<-e];exact hy))).2 (hm y (List.mem_cons_of_mem _ hy));rw [List.length_erase_of_mem hx]at this;have h0:=List.length_pos_of_mem hx;rw [List.length_cons];omega
theorem HS.get_mem{w:World}{A:Option Addr}{n:Nat}{l:List HT}(hl:HS w A n l){i:Nat}(hi:i<n):∃y,l[i]? =some y:=⟨_,List.getElem?_eq_getElem (by have:=hl.len;omega)⟩
theorem Ai{D:DG}{l:List HT}{h x:HT}{i:Nat}(hx:l[i]? =some x):bZ D (l.take (i+1)) h=bZ D (l.take i) h++if oq D x h then [x]else []:=by
 have e:l.take (i+1)=l.take i++ [x]:=by rw [List.take_add_one,hx];rfl
 rw [e,fX]
 congr 1
 unfold bZ;by_cases hp:oq D x h
 ·rw [if_pos hp,List.filter_cons_of_pos (by simpa using hp)];rfl
 ·rw [if_neg hp,List.filter_cons_of_neg (by simpa using hp)];rfl
theorem Ds{m:List HT}{b:List Bool}{x:HT}{y:Bool}{i:Nat}(hx:m[i]? =some x)(hy:b[i]? =some y):eA (m.drop i) (b.drop i)=(if y then [x]else [])++eA (m.drop (i+1)) (b.drop (i+1)):=by
 obtain⟨hi,ex⟩:=lgeS hx;obtain⟨hj,ey⟩:=lgeS hy;rw [List.drop_eq_getElem_cons hi,List.drop_eq_getElem_cons hj,ex,ey];cases y<;>rfl
theorem eh(c:ou)(A:Option Addr)(n cp:Nat)(B:Option Addr)(m cq:Nat):∀v∈(cS c A n cp B m cq).toList,v.oneCell'=true:=by
 intro v hv;unfold cS at hv;rw [Array.toList_append,List.mem_append]at hv;rcases hv with hv|hv
 ·exact c.iA.2.one v hv
 ·simp only [List.mem_cons,List.not_mem_nil,or_false]at hv
  rcases hv with rfl|rfl|rfl<;>rfl
section
variable{w w':World}{F:Nat->Prop}{c k:Nat}{G:GS}{m:CM}{s:HT}{p:PN}{ov:HT->Option Nat}{K:Value->World->Prop}
theorem Dw{kn:HT->Nat}{done rest lh:List HT}{b:HT}(e:done++b::rest=lh)(h:rR k kn done b=false):fu k kn [] lh=false:=by
 rw [<-e,mO,List.nil_append,fu,h,Bool.false_and,Bool.and_false]
theorem zp{kn:HT->Nat}{done:List HT}{b:HT}(h:fu k kn [] done=true)(hb:rR k kn done b=true):fu k kn [] (done++ [b])=true:=by
 rw [mO,h,List.nil_append,fu,hb,Bool.true_and,Bool.true_and];rfl
theorem Bm(B:PG0 w F c k G m s p ov)(hD:G.D.length<=5000)(rz:k<=1000)(hs:s∈ids G.D){l:List HT}(hc:cI G.D G.P s l){h:HT}{bb:Nat}{A:Option Addr}{n cx:Nat}{bl:List HT}
 (xg:w.heap[bb]? =some (.cells #[.slice A n cx] ay (0,0))) (YU:bb≠p.fm) (C6:HS w A n bl) (hAf:∀a,A=some a->a.block≠p.fm) (hn:n<=10000) (hF:zt w p.fm (r6 ov (mV m.sz l)) []) (x5:(oU G h bl l).Nodup)
 (hK:∀w' (r:Bool),r=fu k (r6 ov (mV m.sz l)) [] (oU G h bl l)->(r=true->zt w' p.fm (r6 ov (mV m.sz l)) (oU G h bl l))->Kept (· =p.fm) w w'->K (.bool r) w'):
 bC prog ah.id #[.agg h.1,p.uw,.pointer (some ⟨bb,0,none⟩),.pointer (some ⟨p.bc,0,none⟩),.pointer (some ⟨p.bh,0,none⟩)] w K:=by
 have W:=B.C.fc.W;have H:=B.C.fc.iA;have Sj:∀y∈l,y∈ids G.D:=fun y hy=>((hc.mem W H).1 hy).mem.1;have hlen:=C6.len;have lfm:=hF.lt;refine ah.of ?_;unfold ah.W;intro w4 w5 w6;have k4:Kept Nil w w4:=(Kept.refl _ _).alloc _;have Sl:w4.heap[w.heap.size]? =some (.cells h.1 ag (0,0)):=aH w _;have k5:Kept Nil w4 w5:=(Kept.refl _ _).alloc _;obtain⟨ty,hy5⟩:∃ty:TypeId,w5.heap[w4.heap.size]? =some (.cells #[p.uw] ty (0,0)):=⟨_,aH w4 _⟩;have k6:Kept Nil w5 w6:=(Kept.refl _ _).alloc _;have YA:w6.heap[w5.heap.size]? =some (.cells #[.bool false] gZ (0,0)):=aH w5 _;clear_value w6;have hy6:=k6.heap hy5 (fun h=>h);have hh6:=k6.heap (k5.heap Sl (fun h=>h)) (fun h=>h);have qZ:=(k4.tt k5).tt k6;have s4:=k4.size;have s5:=k5.size;have s6:=k6.size;have l4:=aU Sl;have l5:=aU hy5;have l6:=aU YA;clear_value w5 w4;obtain⟨p',Ja,xh,Gq,acW,acU⟩:∃p':PN,p'= {p with yb:=w4.heap.size,hb:=w.heap.size}/\p'.uw=p.uw/\p'.fm=p.fm/\p'.bc=p.bc/\p'.bh=p.bh:=⟨_,rfl,rfl,rfl,rfl,rfl⟩;have eyb:p'.yb=w4.heap.size:=by rw [Ja]
 have Zc:p'.hb=w.heap.size:=by rw [Ja]
 have B6:PG w6 F c k G m s h p' ov:=by
  rw [Ja];exact⟨B.C.same qZ,B.V.same qZ,qZ.heap B.kb (fun h=>h),qZ.heap B.fb (fun h=>h),by show w6.cell? ⟨w4.heap.size,0,none⟩=_;rw [aD hy6];rfl,hh6,B.fo,B.ff,B.iG,(by show w4.heap.size≠p.fm;omega),(by show w.heap.size≠p.fm;omega)⟩
 generalize xc:r6 ov (mV m.sz l)=kn at*;have hF6:zt w6 p'.fm kn []:=by rw [Gq];exact hF.same qZ
 generalize jX:oU G h bl l=lh at*;have rh:bZ G.D bl h++zA G h l=lh:=jX;rw [<-Gq]at YU hAf lfm;have hK':∀w' (r:Bool),r=fu k kn [] lh->(r=true->zt w' p'.fm kn lh)->Kept (· =p'.fm) w w'->K (.bool r) w':=by rw [Gq];exact hK
 have kA:∀ {v:World},Kept (· =p'.fm) w6 v->Kept (· =p'.fm) w v:=fun k=>(qZ.mono fun _ _ h=>h.elim).tt k;have fin:∀ {v:World} (r:Bool),Kept (· =p'.fm) w6 v->∃u:World,u=v.setCell ⟨w5.heap.size,0,none⟩ (.bool r)/\Wr v ⟨w5.heap.size,0,none⟩/\u.heap[w5.heap.size]? =some (.cells #[.bool r] gZ (0,0))/\Kept (· =w5.heap.size) v u:=fun {v} r kv=>by
  have hr:=kv.heap YA (by omega);refine⟨_,rfl,dm hr (by simp),?_,Kept.setCell (S:=fun k=>k=w5.heap.size) (Kept.refl _ v) (p:=⟨w5.heap.size,0,none⟩) (fun _=>rfl) _⟩;rw [cV hr 0];rfl
 have aag:∀ {v u:World},Kept (· =p'.fm) w6 v->Kept (· =w5.heap.size) v u->Kept (· =p'.fm) w u:=fun kv ku=>⟨ku.os.trans (kA kv).os,ku.tape.trans (kA kv).tape,ku.output.trans (kA kv).output,Nat.le_trans (kA kv).size ku.size,fun j hj hn=>by rw [ku.block j (Nat.lt_of_lt_of_le hj (kA kv).size) (by omega),(kA kv).block j hj hn]⟩;refine⟨A,n,cx,by rw [aD (qZ.heap xg (fun h=>h))];rfl,?_⟩;rw [<-acW,<-acU];refine ah.cC (I:=fun s0 v=>∃i:Nat,s0=(i:Int)/\i<=n/\zt v p'.fm kn (bZ G.D (bl.take i) h)/\fu k kn [] (bZ G.D (bl.take i) h)=true/\Kept (· =p'.fm) w6 v) (μ:=fun s0 _=>((n:Int)-s0).toNat) (s:=0) ⟨0,rfl,Nat.zero_le _,hF6,rfl,Kept.refl _ _⟩ ?_;rintro s0 v ⟨i,rfl,hi,hFv,dt,kv⟩;have Bv:=B6.aF kv;refine Split.dec (fun jK=>?_) (fun gA=>?_)
 ·have dS:i<n:=by omega
  obtain⟨b,hb⟩:=C6.get_mem dS;have acS:HS v A n bl:=C6.aF (kA kv) hAf;refine acS.load (i:=(i:Int)) (by omega) hb ?_;intro mT;obtain⟨tf,jM,kz⟩:=iy (w:=v) (z:=eN.1) (cs:=b.1) (t:=ag) (by rw [b.2.1];rfl);refine⟨⟨b.2.1,b.2.one,fun j hj=>tf j (by rw [b.2.1];exact hj)⟩,?_⟩;intro jH
  replace jM:jH.heap[v.heap.size]? =some (.cells b.1 ag (0,0)):=jM
  replace kz:Kept Nil v jH:=kz
  clear_value jH;have sv:=(kA kv).size;have RE:=Bv.same kz;have e1:=Ai (D:=G.D) (h:=h) hb;have e2:∃rest,bZ G.D (bl.take i) h++(if oq G.D b h then [b]else [])++rest=lh:=by
   refine⟨bZ G.D (bl.drop (i+1)) h++zA G h l,?_⟩;rw [<-e1,<-rh,<-List.append_assoc,<-fX,List.take_append_drop]
  obtain⟨rest,e2⟩:=e2;refine⟨some ⟨c,0,none⟩,by rw [aD RE.V.hc];rfl,b.1,⟨b.2.1,Cells.bL jM⟩,h.1,⟨h.2.1,by have:=RE.hb;rw [Zc]at this;exact Cells.bL this⟩,?_⟩;rw [<-eyb];refine sQ RE hD rz hs hc (done:=bZ G.D (bl.take i) h) (by rw [xc];exact hFv.same kz) jM (by omega) (fun ha=>by
   rw [if_pos ha]at e2;rw [<-e2]at x5;exact(List.nodup_append.1 x5).1) ?_ ?_
  ·intro u ha hp ku
   rw [xc]at hp;have RM:Kept (· =p'.fm) w6 u:=(kv.trans kz (fun _ _ h=>h.elim)).tt ku;obtain⟨u',eu,hw,UO,kuu⟩:=fin false RM;refine⟨hw,?_⟩;intro OL;have e30:OL=u':=eu.symm;rw [iW,ah.OD,e30];rw [if_pos ha,List.append_assoc]at e2;exact⟨false,by rw [aD UO];rfl,hK' u' false (Dw e2 hp).symm (fun e=>by cases e) (aag RM kuu)⟩
  ·intro u yg ed hp Oi ku
   rw [xc]at hp Oi;have RM:Kept (· =p'.fm) w6 u:=(kv.trans kz (fun _ _ h=>h.elim)).tt ku;rw [dM (n:=(i:Int)) (by omega) (by omega)];refine⟨(i:Int)+1,rfl,⟨i+1,rfl,dS,?_,?_,RM⟩,by simp only;omega⟩
   ·rw [e1,<-ed];exact Oi
   ·rw [e1]
    by_cases ha:oq G.D b h
    ·rw [if_pos ha];exact zp dt (hp ha)
    ·rw [if_neg ha,List.append_nil];exact dt
 ·rw [aR,ah.df]
  rw [List.take_of_length_le (by omega)]at dt hFv;unfold ah.cU;intro sx;have Cy:Kept Nil v sx:=(Kept.refl _ _).drew;clear_value sx;have B33:=Bv.same Cy;refine⟨some ⟨c,0,none⟩,by rw [aD B33.V.hc];rfl,_,B33.C.c1,s.1,⟨s.2.1,Cells.bL B33.V.hh⟩,?_⟩;refine pH s fun kc pb qb mW LP LM Bc U1=>⟨_,rfl,?_⟩;have Pk:Kept Nil v kc:=Cy.tt mW;have Ln:Kept (· =p'.fm) w6 kc:=kv.trans Pk (fun _ _ h=>h.elim);have B35:=Bv.same Pk;have ahi:=Ln.size;have adA:zt kc p'.fm kn (bZ G.D bl h):=hFv.same Pk
  let uw:Value:=.func (.func aZ.id) #[] #[.pointer (some ⟨pb,0,none⟩),.pointer (some ⟨qb,0,none⟩)]
  let ρ0:Env:= [(3,.pointer (some ⟨p'.bc,0,none⟩)),(5,.pointer (some ⟨w.heap.size,0,none⟩)),(6,.pointer (some ⟨w4.heap.size,0,none⟩)),(7,.pointer (some ⟨w5.heap.size,0,none⟩)),(36,uw)]
  let J:Nat->World->Prop:=fun j u=>∃done:List HT,done++zA G h (l.drop j)=lh/\zt u p'.fm kn done/\fu k kn [] done=true/\Kept (· =p'.fm) kc u/\j<=l.length
  let Jd:Code->World->Prop:=fun e u=>e=.ret/\∃r:Bool,u.heap[w5.heap.size]? =some (.cells #[.bool r] gZ (0,0))/\r=fu k kn [] lh/\(r=true->zt u p'.fm kn lh)/\Kept (fun j=>j=p'.fm\/j=w5.heap.size) kc u
  have lpb:=aU LP;have lqb:=aU LM;have ahd:=Cy.size;have svw:=(kA kv).size;obtain⟨mx,X35,R8⟩:=B35.C.X;have XJ:∀ {u:World},Kept (· =p'.fm) kc u->XV u m.FX m.x G.D G.P mx:=fun k=>X35.aF k (fun j hj e=>by subst e;rw [Gq]at hj;exact B.fo (.inl (R8 _ hj))) (fun j hj e=>by subst e;rw [Gq]at hj;exact B.ff (B.C.fx _ hj))
  change Holds none [] prog _ _ _ ρ0 kc
  have out:∀ {u:World} {R:Loop} (r:Bool),Kept (· =p'.fm) kc u->Live (kc.heap.size+1) kc.heap.size R u->r=fu k kn [] lh->(r=true->zt u p'.fm kn lh)->Wr u ⟨w5.heap.size,0,none⟩/\∀u',u'=u.setCell ⟨w5.heap.size,0,none⟩ (.bool r)->Live (kc.heap.size+1) kc.heap.size R u'/\Jd .ret u':=fun {u R} r ku hl hr hf=>by
   obtain⟨u0,e0,t1,t2,t3⟩:=fin r (Ln.tt ku);refine⟨t1,fun u' eu=>?_⟩;rw [eu,<-e0];refine⟨hl.aF t3 (by omega) (by omega),rfl,r,t2,hr,fun e=>(hf e).aF t3 (by omega),(ku.mono fun _ _ h=>.inl h).trans t3 (fun _ _ h=>.inr h)⟩
  refine oB (n:=90) (ρ:=ρ0) (ρ0:=ρ0) ng mix ah.k (t:=36) (ps:= #[37]) (by kernel_rfl) (by decide) rfl aZ.at_ rfl (.inl rfl) (fun i x hi hx=>hx) rfl se l (fun _=>rfl) (fun q hq=>by
   have Rp:q=37:=by simpa using hq
   subst Rp;exact⟨by decide,by decide⟩) (yr (F:=m.FX) (x:=m.x) (m:=mx) (pb:=pb) (qb:=qb) hc (by omega)) J Jd ?_ ?_ (fun j u ⟨done,_,_,_,kJ,_⟩=>⟨XJ kJ,kJ.heap LP (by omega),kJ.heap LM (by omega)⟩) ?_ ?_ ?_ ?_ ?_
  ·rintro j u1 u2 R nC ⟨done,h1,h2,h3,h4,h5⟩ oR
   exact⟨done,h1,h2.aF oR (by omega),h3,h4.trans oR (fun k hk e=>by omega),h5⟩
  ·rintro e u1 u2 R nC ⟨h1,r,h2,h3,h4,h5⟩ oR
   exact⟨h1,r,oR.heap h2 (by omega),h3,fun e=>(h4 e).aF oR (by omega),h5.trans oR (fun k hk e=>by omega)⟩
  ·intro R
   have ka:Kept Nil kc ((kc.alloc (.deferred (some []))).alloc (.loop R)):=(((Kept.refl _ _).alloc _).alloc _);exact⟨bZ G.D bl h,rh,adA.same ka,dt,ka.mono fun _ _ h=>h.elim,Nat.zero_le _⟩
  ·rintro j z u1 R hz ⟨done,h1,h2,h3,h4,h5⟩ nC
   have e7:kl ρ0 ((#[37]:Array Nat).toList.zip (se z))= [(3,.pointer (some ⟨p'.bc,0,none⟩)),(5,.pointer (some ⟨w.heap.size,0,none⟩)),(6,.pointer (some ⟨w4.heap.size,0,none⟩)),(7,.pointer (some ⟨w5.heap.size,0,none⟩)),(36,uw),(37,.agg z.1)]:=rfl;rw [e7,ah.a1];have tU:=(lgeS hz).1;have PW:=Sj z (List.mem_of_getElem? hz);have XA:l.drop j=z::l.drop (j+1):=by
    obtain⟨hi,e⟩:=lgeS hz;rw [List.drop_eq_getElem_cons hi,e]
   rw [XA,zA]at h1;unfold ah.A1;intro Kp;obtain⟨tf,jM,kz⟩:=iy (w:=u1) (z:=eN.1) (cs:=z.1) (t:=ag) (by rw [z.2.1];rfl);refine⟨⟨z.2.1,z.2.one,fun j hj=>tf j (by rw [z.2.1];exact hj)⟩,?_⟩;intro MM
   replace jM:MM.heap[u1.heap.size]? =some (.cells z.1 ag (0,0)):=jM
   replace kz:Kept Nil u1 MM:=kz
   clear_value MM;have Jk:=nC.aF kz (fun h=>h) (fun h=>h);refine⟨Jk,fun w2 R2 l9 qz=>?_⟩;have lE:=l9.heap jM (jW jM Jk.loop);have ahk:=h4.size;have wU:Kept (· =p'.fm) kc w2:=(h4.trans kz (fun _ _ h=>h.elim)).trans l9 (fun k hk e=>by omega);have Rg:zt w2 p'.fm kn done:=(h2.same kz).aF l9 (by omega);have B2:=B35.aF wU;rw [ah.y1];unfold ah.Y1;have e2:∃rest,done++(if oq G.D z h then [z]else [])++rest=lh:=⟨_,(List.append_assoc _ _ _).trans h1⟩;obtain⟨rest,e2⟩:=e2;refine⟨some ⟨c,0,none⟩,by rw [aD B2.V.hc];rfl,z.1,⟨z.2.1,Cells.bL lE⟩,h.1,⟨h.2.1,by have:=B2.hb;rw [Zc]at this;exact Cells.bL this⟩,?_⟩;rw [<-eyb];refine sQ B2 hD rz hs hc (done:=done) (by rw [xc];exact Rg) lE (by omega) (fun ha=>by
    rw [if_pos ha]at e2;rw [<-e2]at x5;exact(List.nodup_append.1 x5).1) ?_ ?_
   ·intro u ha hp ku
    rw [xc]at hp;rw [if_pos ha,List.append_assoc]at e2;obtain⟨o1,o2⟩:=out (u:=u) false (wU.tt ku) (qz.aF ku (by omega) (by omega)) (Dw e2 hp).symm (fun e=>by cases e);refine⟨o1,?_⟩;intro ZB;exact o2 ZB rfl
   ·intro u yg ed hp Oi ku
    rw [xc]at hp Oi;have aau:=wU.tt ku;have hlu:=qz.aF ku (by omega) (by omega);have Oh:fu k kn [] yg=true:=by
     rw [ed];by_cases ha:oq G.D z h
     ·rw [if_pos ha];exact zp h3 (hp ha)
     ·rw [if_neg ha,List.append_nil];exact h3
    rw [<-List.append_assoc,<-ed]at h1;intro ZA;have k61:Kept Nil u ZA:=(Kept.refl _ _).drew;clear_value ZA;have Px:Kept (· =p'.fm) w2 ZA:=ku.trans k61 (fun _ _ h=>h.elim);have Zr:=B2.aF Px;have aaD:=Px.heap lE (by omega);obtain⟨mx1,X61,_⟩:=Zr.C.X;refine⟨some ⟨c,0,none⟩,by rw [aD Zr.V.hc];rfl,_,Zr.C.c1,z.1,⟨z.2.1,Cells.bL aaD⟩,h.1,⟨h.2.1,by have:=Zr.hb;rw [Zc]at this;exact Cells.bL this⟩,?_⟩;refine mh X61 hD z h fun G0 r hr F8=>⟨r,rfl,?_⟩;have Lj:Kept Nil u G0:=k61.tt F8;have VL:=hlu.aF Lj (fun h=>h) (fun h=>h);have Uh:=aau.trans Lj (fun _ _ h=>h.elim);have ady:=Oi.same Lj;cases r with
    |true=>
     have C7:=hr.1 rfl;rw [if_pos C7,List.append_nil]at h1;obtain⟨o1,o2⟩:=out (u:=G0) true Uh VL (by rw [<-h1,Oh]) (fun _=>by rw [<-h1];exact ady);refine Split.yes rfl ⟨o1,?_⟩;intro OI;exact o2 OI rfl
    |false=>
     have Vw:¬fz G.D z h:=fun e=>by have:=hr.2 e;cases this
     rw [if_neg Vw]at h1;refine Split.no rfl ?_;intro Hn;have M1:Kept Nil G0 Hn:=(Kept.refl _ _).drew;clear_value Hn;have Lv:Kept (· =p'.fm) w2 Hn:=Px.trans (F8.tt M1) (fun _ _ h=>h.elim);have X3:=B2.aF Lv;have Uz:=Lv.heap lE (by omega);obtain⟨A1,n1,c1,B1,m1,d1,s1,sa⟩:=X3.C.seen z PW;refine⟨some ⟨c,0,none⟩,by rw [aD X3.V.hc];rfl,_,X3.C.c2,z.1,⟨z.2.1,Cells.bL Uz⟩,_,X3.C.oQ PW,_,⟨a8 ..,sa.fZ⟩,?_⟩;intro w73;have k73:Kept Nil Hn w73:=(Kept.refl _ _).alloc _;obtain⟨P0,Bh,yZ⟩:=iy (w:=Hn) (z:=zC) (cs:=cS (G.fZ z) A1 n1 c1 B1 m1 d1) (t:=br) (by rw [a8];rfl);have B73:=X3.same k73;refine⟨⟨_,rfl,a8 ..,(sa.aF k73 (fun _ _ h=>h)).fZ⟩,B73.C.oQ PW,⟨z.1,rfl,z.2.1,Cells.bL (k73.heap Uz (fun h=>h))⟩,B73.C.c2,by rw [aD B73.V.hc];rfl,⟨a8 ..,eh _ _ _ _ _ _ _,fun j hj=>P0 j (by rw [a8];exact hj)⟩,?_⟩;intro RG
     replace Bh:RG.heap[Hn.heap.size]? =some (.cells (cS (G.fZ z) A1 n1 c1 B1 m1 d1) br (0,0)):=Bh
     replace yZ:Kept Nil Hn RG:=yZ
     clear_value RG w73;have T4:Kept Nil u RG:=Lj.tt (M1.tt yZ);have Uk:Kept (· =p'.fm) w2 RG:=Lv.trans yZ (fun _ _ h=>h.elim);have ahn:=Uk.size;have aho:=Lv.size;have s2:=wU.size;have ajO:=hlu.aF T4 (fun h=>h) (fun h=>h);have ZM:=sa.aF yZ (fun _ _ h=>h);have afS:=sa.mg.len;have WJ:=sa.bl.len;have hff:∀j,F j->j≠p'.fm:=fun j hj e=>by rw [Gq]at e;subst e;exact B.ff hj
     have hcg:=gJ (G.fZ z) A1 n1 c1 B1 m1 d1 #[];rw [Array.append_empty]at hcg;refine⟨A1,n1,c1,by rw [bt,aD Bh];exact hcg.2.1,?_⟩;have afW:(G.fZ z).fK.length=(G.fZ z).merge.length:=by
      rcases(cI.ex H z)with⟨lz,cz⟩;rcases cz.inv W H PW with⟨_,nd,h0,rfl⟩|⟨t,r',_,qy,_,_⟩
      ·obtain⟨r1,_⟩:=B.C.fc.root nd h0
       rw [r1];rfl
      ·exact(B.C.fc.up t z qy).2.2.1
     have LY:(G.fZ z).merge.length<=G.D.length:=by
      have gu:(G.fZ z).merge.Nodup/\∀y∈(G.fZ z).merge,y∈ids G.D:=by
       rcases(cI.ex H z)with⟨lz,cz⟩;rcases cz.inv W H PW with⟨_,nd,h0,rfl⟩|⟨t,r',_,qy,_,_⟩
       ·obtain⟨r1,_⟩:=B.C.fc.root nd h0
        rw [r1];exact⟨List.nodup_nil,fun y hy=>by cases hy⟩
       ·obtain⟨_,_,_,g1,g2⟩:=B.C.fc.up t z qy
        exact⟨g1,fun y hy=>(((g2 y).1 hy).1.mem W).1⟩
      have:=dq gu.1 gu.2
      rwa [gz]at this
     refine ah.gU (I:=fun s0 v=>∃i:Nat,s0=(i:Int)/\i<=n1/\∃dn:List HT,dn++(bZ G.D (eA ((G.fZ z).merge.drop i) ((G.fZ z).fK.drop i)) h++zA G h (l.drop (j+1)))=lh/\zt v p'.fm kn dn/\fu k kn [] dn=true/\Kept (· =p'.fm) RG v) (μ:=fun s0 _=>((n1:Int)-s0).toNat) (s:=0) ⟨0,rfl,Nat.zero_le _,yg,by rw [List.drop_zero,List.drop_zero];exact h1,Oi.same T4,Oh,Kept.refl _ _⟩ ?_;rintro s0 v2 ⟨i2,rfl,CX,dn,g1,g2,g3,g4⟩;have Ir:Kept (· =p'.fm) w2 v2:=Uk.tt g4;have Bv2:=B2.aF Ir;have ZL:=ZM.aF g4 (fun j hj e=>hff j hj e);have Ug:=wU.tt Ir;have VK:=qz.aF Ir (by omega) (by omega);have sv2:=Ir.size;refine Split.dec (fun jK=>?_) (fun gA=>?_)
     ·have dS:i2<n1:=by omega
      obtain⟨b,hb⟩:=ZL.mg.get_mem dS;obtain⟨bb2,WQ⟩:∃y,(G.fZ z).fK[i2]? =some y:=⟨_,List.getElem?_eq_getElem (by omega)⟩;refine ZL.mg.load (i:=(i2:Int)) (by omega) hb ?_;intro mT;obtain⟨aaO,Gu,wZ⟩:=iy (w:=v2) (z:=eN.1) (cs:=b.1) (t:=ag) (by rw [b.2.1];rfl);refine⟨⟨b.2.1,b.2.one,fun j hj=>aaO j (by rw [b.2.1];exact hj)⟩,?_⟩;intro jH
      replace Gu:jH.heap[v2.heap.size]? =some (.cells b.1 ag (0,0)):=Gu
      replace wZ:Kept Nil v2 jH:=wZ
      clear_value jH;have RE:=Bv2.same wZ;have WH:=wZ.heap (g4.heap Bh (by omega)) (fun h=>h);have ZN:=ZL.aF wZ (fun _ _ h=>h);obtain⟨aB,JB,_,BX⟩:=ZN.bl.at_ i2 bb2 WQ;subst JB;refine⟨some aB,m1,d1,by rw [bt,aD WH];exact hcg.2.2.1,⟨by omega,by omega⟩,bb2,by rw [Int.toNat_natCast,Nat.mul_one];exact BX,?_⟩;rw [Ds hb WQ]at g1;cases bb2 with
      |false=>
       refine Split.no rfl ?_;rw [dM (n:=(i2:Int)) (by omega) (by omega)];exact⟨(i2:Int)+1,rfl,⟨i2+1,rfl,dS,dn,g1,g2.same wZ,g3,g4.trans wZ (fun _ _ h=>h.elim)⟩,by simp only;omega⟩
      |true=>
       rw [if_pos rfl,fX,List.append_assoc]at g1;have adT:bZ G.D [b] h=if oq G.D b h then [b]else []:=by
        unfold bZ;by_cases hp:oq G.D b h
        ·rw [if_pos hp,List.filter_cons_of_pos (by simpa using hp)];rfl
        ·rw [if_neg hp,List.filter_cons_of_neg (by simpa using hp)];rfl
       rw [adT,<-List.append_assoc]at g1;refine Split.yes rfl ⟨some ⟨c,0,none⟩,by rw [aD RE.V.hc];rfl,b.1,⟨b.2.1,Cells.bL Gu⟩,h.1,⟨h.2.1,by have:=RE.hb;rw [Zc]at this;exact Cells.bL this⟩,?_⟩;refine sQ RE hD rz hs hc (done:=dn) (by rw [xc];exact g2.same wZ) Gu (by omega) (fun ha=>by
        rw [if_pos ha]at g1;rw [<-g1]at x5;exact(List.nodup_append.1 x5).1) ?_ ?_
       ·intro u2 ha hp Ks
        rw [xc]at hp;rw [if_pos ha,List.append_assoc]at g1;have kk:Kept (· =p'.fm) v2 u2:=(wZ.mono fun _ _ h=>h.elim).tt Ks;obtain⟨o1,o2⟩:=out (u:=u2) false (Ug.tt kk) (VK.aF kk (by omega) (by omega)) (Dw g1 hp).symm (fun e=>by cases e);refine⟨o1,?_⟩;intro ZB;rw [iW];exact o2 ZB rfl
       ·intro u2 dn' ed2 Se Xl Ks
        rw [xc]at Se Xl;have kk:Kept (· =p'.fm) v2 u2:=(wZ.mono fun _ _ h=>h.elim).tt Ks;rw [dM (n:=(i2:Int)) (by omega) (by omega)];refine⟨(i2:Int)+1,rfl,⟨i2+1,rfl,dS,dn',by rw [ed2];exact g1,Xl,?_,g4.tt kk⟩,by simp only;omega⟩;rw [ed2];by_cases ha:oq G.D b h
        ·rw [if_pos ha];exact zp g3 (Se ha)
        ·rw [if_neg ha,List.append_nil];exact g3
     ·rw [aR,ah.Zt]
      unfold ah.XQ;have en:(G.fZ z).merge.drop i2= []:=List.drop_eq_nil_of_le (by omega);rw [en]at g1;exact⟨VK,dn,by simpa [eA,bZ]using g1,g2,g3,Ug,tU⟩
  ·rintro u1 R ⟨done,h1,h2,h3,h4,h5⟩ nC
   have e7:fY ρ0 kc.heap.size= [(3,.pointer (some ⟨p'.bc,0,none⟩)),(5,.pointer (some ⟨w.heap.size,0,none⟩)),(6,.pointer (some ⟨w4.heap.size,0,none⟩)),(7,.pointer (some ⟨w5.heap.size,0,none⟩)),(36,uw),(4294967296,.agg (gS [kc.heap.size]))]:=rfl;rw [e7,ah.iL];unfold ah.fD;have ec:done=lh:=by rw [<-h1,List.drop_of_length_le (Nat.le_refl _),zA,List.append_nil]
   obtain⟨o1,o2⟩:=out (u:=u1) true h4 nC (by rw [<-ec,h3]) (fun _=>by rw [<-ec];exact h2);refine⟨o1,?_⟩;intro qQ;obtain⟨abX,_,r,t1,t2,t3,t4⟩:=o2 qQ rfl;clear_value qQ;rw [lA];have kt:=iT [kc.heap.size] qQ;have hm:∀E∈ [kc.heap.size],qQ.heap[E]? =some (.deferred (some [])):=fun E hE=>by
    rw [List.mem_singleton]at hE;subst hE;exact abX.mark
   refine⟨kr [kc.heap.size] qQ (by simp) hm,r,by rw [aD (kt.heap t1 (fun hE=>by rw [List.mem_singleton]at hE;omega))];rfl,?_⟩;exact hK' _ r t2 (fun e=>(t3 e).aF kt (fun hE=>by rw [List.mem_singleton]at hE;omega)) (((kA Ln).trans t4 (fun j hj e=>by rcases e with e|e;exact e;omega)).trans kt (fun j hj hE=>by rw [List.mem_singleton]at hE;omega))
  ·rintro u1 R ⟨_,r,t1,t2,t3,t4⟩ nC
   have e7:fY ρ0 kc.heap.size= [(3,.pointer (some ⟨p'.bc,0,none⟩)),(5,.pointer (some ⟨w.heap.size,0,none⟩)),(6,.pointer (some ⟨w4.heap.size,0,none⟩)),(7,.pointer (some ⟨w5.heap.size,0,none⟩)),(36,uw),(4294967296,.agg (gS [kc.heap.size]))]:=rfl;rw [e7,ah.B8];unfold ah.wI;rw [lA];have kt:=iT [kc.heap.size] u1;have hm:∀E∈ [kc.heap.size],u1.heap[E]? =some (.deferred (some [])):=fun E hE=>by
    rw [List.mem_singleton]at hE;subst hE;exact nC.mark
   refine⟨kr [kc.heap.size] u1 (by simp) hm,r,by rw [aD (kt.heap t1 (fun hE=>by rw [List.mem_singleton]at hE;omega))];rfl,?_⟩;exact hK' _ r t2 (fun e=>(t3 e).aF kt (fun hE=>by rw [List.mem_singleton]at hE;omega)) (((kA Ln).trans t4 (fun j hj e=>by rcases e with e|e;exact e;omega)).trans kt (fun j hj hE=>by rw [List.mem_singleton]at hE;omega))
  ·rintro id u1 R ⟨e,_⟩ nC
   cases e
end
end Go.Proofs.YtfleamccglihoaaGreatDoor
