import Derived.Test.YtnboahlopghcjaaGreatDoorMI
import Derived.Test.YtnboahlopghcjaaGreatDoorMJ
import Derived.Test.YtnboahlopghcjaaGreatDoorMN
import Derived.Test.YtnboahlopghcjaaGreatDoorMG
open Go.IntKind (i64 u64)
set_option linter.unusedVariables false
namespace Go.Proofs.YtnboahlopghcjaaGreatDoor
open Go.Proofs.Tryz
open Go Go.bT
structure oC where
 jX:HT
 score:Nat
 merge:List HT
 dR:List Bool
structure GS where
 D:DG
 P:List Int
 p8:List oC
 jh:List (List HT)
def GS.at_(G:GS)(h:HT):Option Nat:=pos h (ids G.D) 0
def GS.gR(G:GS)(h:HT):oC:=((G.at_ h).bind (G.p8[·]?)).getD ⟨dG,0,[],[]⟩
def GS.world(G:GS)(h:HT):List HT:=((G.at_ h).bind (G.jh[·]?)).getD []
def GS.score(G:GS)(h:HT):Nat:=(G.gR h).score
def gl(G:GS)(a b:HT):Bool:=decide (G.score a<G.score b)||(decide (G.score a=G.score b)&&cH a b)
def AH(G:GS)(a b:HT):Int:=if gl G a b then-1 else if gl G b a then 1 else 0
def b9(G:GS):List HT->HT
 | []=>dG
 |x::l=>l.foldl (fun b y=>if gl G b y then y else b) x
def nH(D:DG)(a b:HT):Prop:=a≠b/\¬fC D a b/\¬fC D b a
noncomputable instance(D:DG)(a b:HT):Decidable (nH D a b):=Classical.propDecidable _
noncomputable instance(D:DG)(a b:HT):Decidable (fC D a b):=Classical.propDecidable _
noncomputable def bO(D:DG)(l:List HT)(h:HT):List HT:=l.filter fun b=>decide (nH D b h)
def SO(G:GS)(l:List HT):Prop:=l.Pairwise fun a b=>gl G a b=true
noncomputable def sA(D:DG)(s:HT)(l:List HT):List HT:=(dv (dY D l++l)).filter fun h=>decide (h≠s/\¬fC D h s)
def vU(G:GS)(x:HT):List HT->List HT
 | []=> [x]
 |y::l=>if gl G x y then x::y::l else y::vU G x l
noncomputable def cD(G:GS)(s:HT)(l:List HT):List HT:=(sA G.D s l).foldr (vU G) []
noncomputable def oA(k:Nat)(D:DG)(wd:List HT)(h:HT):Bool:=decide ((bO D wd h).length<=k/\∀y∈bO D wd h,(bO D wd y).length+1<=k)
structure VS where
 wd:List HT
 bl:List Bool
noncomputable def om(k:Nat)(D:DG)(s:VS)(h:HT):VS:=⟨if oA k D s.wd h then s.wd++ [h]else s.wd,s.bl++ [oA k D s.wd h]⟩
noncomputable def fF(k:Nat)(G:GS)(s:HT)(l:List HT):VS:=(cD G s l).foldl (om k G.D) ⟨G.world s++ [s],[]⟩
noncomputable def cR(k:Nat)(G:GS)(s:HT)(l:List HT):oC:=⟨s,G.score s+1+(fF k G s l).bl.count true,cD G s l,(fF k G s l).bl⟩
noncomputable def cU(k:Nat)(G:GS)(h:HT)(ps:List HT):GS:=
 if du G.D h ps=0 then⟨G.D++ [⟨h,dv ps⟩],G.P++ [(((pos (b9 G ps) (ids G.D) 0).getD 0:Nat):Int)],G.p8++ [cR k G (b9 G ps) ps],G.jh++ [(fF k G (b9 G ps) ps).wd]⟩else G
def de(r:HT):GS:=⟨[⟨r,[]⟩],[-1],[⟨dG,0,[],[]⟩],[[]]⟩
def dU:List HT->List Bool->List HT
 |h::l,b::m=>if b then h::dU l m else dU l m
 |_,_=> []
theorem nf(G:GS)(a:HT):gl G a a=false:=by simp [gl,gV]
theorem pe{G:GS}{a b c:HT}(h:gl G a b=true)(h':gl G b c=true):gl G a c=true:=by
 simp only [gl,Bool.or_eq_true,Bool.and_eq_true,decide_eq_true_eq]at*;rcases h with h|⟨h,h1⟩
 ·rcases h' with h'|⟨h',h2⟩
  ·exact .inl (by omega)
  ·exact .inl (by omega)
 ·rcases h' with h'|⟨h',h2⟩
  ·exact .inl (by omega)
  ·exact .inr ⟨by omega,jG h1 h2⟩
theorem pf{G:GS}{a b:HT}(h:gl G a b=false)(h':gl G b a=false):a=b:=by
 simp only [gl,Bool.or_eq_false_iff,Bool.and_eq_false_iff,decide_eq_false_iff_not]at*;have e:G.score a=G.score b:=by omega
 obtain⟨_,h2⟩:=h;obtain⟨_,h3⟩:=h';exact pL (by rcases h2 with h2|h2;exact absurd e h2;exact h2) (by rcases h3 with h3|h3;exact absurd e.symm h3;exact h3)
theorem Aj{G:GS}{a b:HT}(h:gl G a b=true):gl G b a=false:=by
 cases hb:gl G b a
 ·rfl
 ·have:=pe h hb
  rw [nf]at this;cases this
theorem yq{G:GS}{a b:HT}:AH G a b<0↔gl G a b=true:=by
 unfold AH;split
 ·simp_all
 ·split<;>simp_all
theorem MT(G:GS)(a b:HT):AH G a b=if G.score a<G.score b then-1 else if G.score b<G.score a then 1 else kV a b:=by
 unfold AH kV gl;by_cases h1:G.score a<G.score b
 ·simp [h1]
 ·by_cases h2:G.score b<G.score a
  ·have:¬G.score a=G.score b:=by omega
   simp [h1,h2,this]
  ·have:G.score a=G.score b:=by omega
   simp [this]
theorem SO.cons{G:GS}{x:HT}{l:List HT}:SO G (x::l)↔(∀y∈l,gl G x y=true)/\SO G l:=List.pairwise_cons
theorem SO.nodup{G:GS}{l:List HT}(h:SO G l):l.Nodup:=List.Pairwise.imp (fun {a b} lG e=>by subst e;rw [nf]at lG;cases lG) h
theorem Ks{G:GS}:∀ {l m:List HT},SO G l->SO G m->(∀x,x∈l↔x∈m)->l=m
 | [],[],_,_,_=>rfl
 | [],y::m,_,_,h=>by have:=(h y).2 (by simp);simp at this
 |x::l,[],_,_,h=>by have:=(h x).1 (by simp);simp at this
 |x::l,y::m,hl,hm,h=>by
  rw [SO.cons]at hl hm;have oF:x=y:=by
   rcases List.mem_cons.1 ((h x).1 List.mem_cons_self)with e|e
   ·exact e
   ·rcases List.mem_cons.1 ((h y).2 List.mem_cons_self)with e'|e'
    ·exact e'.symm
    ·have h1:=hm.1 _ e
     have h2:=hl.1 _ e';rw [Aj h1]at h2;cases h2
  subst oF;have:l=m:=Ks hl.2 hm.2 fun z=>by
   have hz:=h z;simp only [List.mem_cons]at hz;constructor
   ·intro lM
    rcases hz.1 (.inr lM)with e|e
    ·subst e;have:=hl.1 _ lM;rw [nf]at this;cases this
    ·exact e
   ·intro lM
    rcases hz.2 (.inr lM)with e|e
    ·subst e;have:=hm.1 _ lM;rw [nf]at this;cases this
    ·exact e
  rw [this]
theorem uM{G:GS}{x z:HT}:∀ {l:List HT},z∈vU G x l↔z=x\/z∈l
 | []=>by simp [vU]
 |y::l=>by
  unfold vU;split
  ·simp
  ·simp only [List.mem_cons,uM (l:=l)]
   constructor
   ·rintro(h|h|h)<;>simp [h]
   ·rintro(h|h|h)<;>simp [h]
theorem Ep{G:GS}{x:HT}:∀ {l:List HT},SO G l->x∉l->SO G (vU G x l)
 | [],_,_=>by simp [vU,SO]
 |y::l,h,hx=>by
  have h':=SO.cons.1 h;simp only [List.mem_cons,not_or]at hx;unfold vU;split
  ·rename_i oF
   refine SO.cons.2 ⟨fun z hz=>?_,h⟩;rcases List.mem_cons.1 hz with rfl|hz
   ·exact oF
   ·exact pe oF (h'.1 _ hz)
  ·rename_i oF
   refine SO.cons.2 ⟨fun z hz=>?_,Ep h'.2 hx.2⟩;rcases uM.1 hz with rfl|hz
   ·cases SL:gl G y z
    ·exact absurd (pf SL (by simpa using oF)).symm hx.1
    ·rfl
   ·exact h'.1 _ hz
theorem pJ{G:GS}{z:HT}:∀ {l:List HT},z∈l.foldr (vU G) []↔z∈l
 | []=>by simp
 |x::l=>by rw [List.foldr_cons,uM,pJ,List.mem_cons]
theorem A9{G:GS}:∀ {l:List HT},l.Nodup->SO G (l.foldr (vU G) [])
 | [],_=>List.Pairwise.nil
 |x::l,h=>by
  rw [List.nodup_cons]at h;exact Ep (A9 h.2) fun e=>h.1 (pJ.1 e)
theorem qx(D:DG)(s:HT)(l:List HT):(sA D s l).Nodup:=(iK _).nodup.filter _
theorem uL{D:DG}{s:HT}{l:List HT}{h:HT}:h∈sA D s l↔((h∈ids D/\∃p∈l,fC D h p)\/h∈l)/\h≠s/\¬fC D h s:=by
 unfold sA dY;rw [List.mem_filter,dF,List.mem_append,jn,decide_eq_true_eq]
theorem iV{G:GS}{s:HT}{l:List HT}{h:HT}:h∈cD G s l↔((h∈ids G.D/\∃p∈l,fC G.D h p)\/h∈l)/\h≠s/\¬fC G.D h s:=by
 unfold cD;rw [pJ,uL]
theorem kr(G:GS)(s:HT)(l:List HT):SO G (cD G s l):=A9 (qx _ _ _)
theorem sC{G:GS}{s:HT}{l m:List HT}(hs:SO G m)(h:∀x,x∈m↔x∈sA G.D s l):m=cD G s l:=
 Ks hs (kr G s l) fun x=>by unfold cD;rw [h,pJ]
theorem kM{G:GS}:∀ {l:List HT},l≠ []->b9 G l∈l
 |x::l,_=>by
  have key:∀(l:List HT) (b:HT),l.foldl (fun b y=>if gl G b y then y else b) b=b\/l.foldl (fun b y=>if gl G b y then y else b) b∈l:=by
   intro l
   induction l with
   |nil=>intro b;exact .inl rfl
   |cons y l ih=>
    intro b;simp only [List.foldl_cons];rcases ih (if gl G b y then y else b)with e|e
    ·rw [e]
     split
     ·exact .inr List.mem_cons_self
     ·exact .inl rfl
    ·exact .inr (List.mem_cons_of_mem _ e)
  rcases key l x with e|e
  ·rw [b9,e];exact List.mem_cons_self
  ·exact List.mem_cons_of_mem _ e
theorem fM(D:DG)(l m:List HT)(h:HT):bO D (l++m) h=bO D l h++bO D m h:=List.filter_append ..
theorem fI{D:DG}{l:List HT}{h b:HT}:b∈bO D l h↔b∈l/\nH D b h:=by unfold bO;rw [List.mem_filter,decide_eq_true_eq]
theorem nH.symm{D:DG}{a b:HT}(h:nH D a b):nH D b a:=⟨h.1.symm,h.2.2,h.2.1⟩
theorem lZ{x:HT}:∀ {m:List HT} {b:List Bool},x∈dU m b->x∈m
 |h::l,b::m,hx=>by
  unfold dU at hx;split at hx
  ·rcases List.mem_cons.1 hx with e|e
   ·rw [e];exact List.mem_cons_self
   ·exact List.mem_cons_of_mem _ (lZ e)
  ·exact List.mem_cons_of_mem _ (lZ hx)
 | [],_,hx=>by simp [dU]at hx
 |_::_,[],hx=>by simp [dU]at hx
theorem oe:∀ {m:List HT} {b:List Bool},m.Nodup->(dU m b).Nodup
 |h::l,b::m,hn=>by
  rw [List.nodup_cons]at hn;unfold dU;split
  ·exact List.nodup_cons.2 ⟨fun e=>hn.1 (lZ e),oe hn.2⟩
  ·exact oe hn.2
 | [],_,_=>by simp [dU]
 |_::_,[],_=>by simp [dU]
theorem vy:∀ {m:List HT} {b:List Bool},b.length=m.length->(dU m b).length=b.count true
 |h::l,b::m,hn=>by
  have:=vy (m:=l) (b:=m) (by simpa using hn);unfold dU;cases b<;>simp [this]
 | [],[],_=>rfl
 | [],_::_,h=>by simp at h
 |_::_,[],h=>by simp at h
theorem tF{x:HT}{c:Bool}:∀ {m:List HT} {b:List Bool},b.length=m.length->dU (m++ [x]) (b++ [c])=dU m b++if c then [x]else []
 |h::l,b::m,hn=>by
  have:=tF (x:=x) (c:=c) (m:=l) (b:=m) (by simpa using hn);simp only [List.cons_append,dU,this];cases b<;>simp
 | [],[],_=>by cases c<;>simp [dU]
 | [],_::_,h=>by simp at h
 |_::_,[],h=>by simp at h
theorem Hn(k:Nat)(D:DG)(wd:List HT):∀(m:List HT),∃b:List Bool,b.length=m.length/\m.foldl (om k D) ⟨wd,[]⟩=⟨wd++dU m b,b⟩:=by
 intro m
 induction h:m.length generalizing m with
 |zero=>exact⟨[],by simp,by rw [List.length_eq_zero_iff.1 h];simp [dU]⟩
 |succ n ih=>
  have fD:m≠ []:=fun e=>by rw [e]at h;simp at h
  obtain⟨m',x,rfl⟩:∃m' x,m=m'++ [x]:=⟨m.dropLast,m.getLast fD,(List.dropLast_concat_getLast fD).symm⟩;obtain⟨b,h1,h2⟩:=ih m' (by simpa using h);have h1:b.length=m'.length:=by rw [List.length_append,List.length_cons,List.length_nil]at h;omega
  refine⟨b++ [oA k D (wd++dU m' b) x],by simp only [List.length_append,List.length_cons,List.length_nil]at h⊢;omega,?_⟩;rw [List.foldl_append,h2,List.foldl_cons,List.foldl_nil,tF h1];unfold om;cases oA k D (wd++dU m' b) x<;>simp
theorem oJ(k:Nat)(G:GS)(s:HT)(l:List HT):(fF k G s l).bl.length=(cD G s l).length/\(fF k G s l).wd=G.world s++ [s]++dU (cD G s l) (fF k G s l).bl:=by
 obtain⟨b,h1,h2⟩:=Hn k G.D (G.world s++ [s]) (cD G s l);unfold fF;rw [h2];exact⟨h1,rfl⟩
structure jr(k:Nat)(G:GS):Prop where
 W:jC G.D
 jX:r7 G.D G.P
 lc:G.p8.length=G.D.length
 lw:G.jh.length=G.D.length
 root:∀nd,G.D[0]? =some nd->G.gR nd.id=⟨dG,0,[],[]⟩/\G.world nd.id= []
 up:∀s h,kZ G.D G.P s h->(G.gR h).jX=s/\G.world h=G.world s++ [s]++dU (G.gR h).merge (G.gR h).dR/\(G.gR h).dR.length=(G.gR h).merge.length/\(G.gR h).merge.Nodup/\∀y,y∈(G.gR h).merge↔fC G.D y h/\y≠s/\¬fC G.D y s
 wd:∀h∈ids G.D,(G.world h).Nodup/\(∀b∈G.world h,fC G.D b h)/\G.score h=(G.world h).length
theorem GS.sS{G:GS}(W:jC G.D){i:Nat}{nd:DN}(h:G.D[i]? =some nd):G.at_ nd.id=some i:=W.pos_eq h
theorem GS.JW{G:GS}(W:jC G.D){i:Nat}{nd:DN}{c:oC}(h:G.D[i]? =some nd)(hc:G.p8[i]? =some c):G.gR nd.id=c:=by
 unfold GS.gR;rw [GS.sS W h];simp [hc]
theorem GS.yQ{G:GS}(W:jC G.D){i:Nat}{nd:DN}{c:List HT}(h:G.D[i]? =some nd)(hc:G.jh[i]? =some c):G.world nd.id=c:=by
 unfold GS.world;rw [GS.sS W h];simp [hc]
section
variable{k:Nat}{G:GS}{h:HT}{ps:List HT}
theorem ue(hc:du G.D h ps≠0):cU k G h ps=G:=by unfold cU;rw [if_neg hc]
theorem sX:(cU k G h ps).D=mn G.D h ps:=by
 unfold cU mn;split<;>rfl
theorem Km:(cU k G h ps).D=nu G.D h (b9 G ps) ps:=by
 rw [sX];unfold nu;by_cases hc:du G.D h ps=0
 ·have fD:=(jV hc).2.1
  have:gF G.D h (b9 G ps) ps=0:=by unfold gF;rw [if_pos hc,if_pos (kM fD)]
  rw [if_pos this,pw hc]
 ·have:gF G.D h (b9 G ps) ps≠0:=by unfold gF;rw [if_neg hc];exact hc
  rw [if_neg this];unfold mn;rw [if_neg hc]
theorem GF:gF G.D h (b9 G ps) ps=du G.D h ps:=by
 unfold gF;split
 ·rename_i hc
  rw [if_pos (kM (jV hc).2.1),hc]
 ·rfl
theorem Kn:(cU k G h ps).P=nt G.D G.P h (b9 G ps) ps:=by
 unfold nt cU;rw [GF];by_cases hc:du G.D h ps=0
 ·rw [if_pos hc,if_pos hc]
 ·rw [if_neg hc,if_neg hc]
theorem kW(hc:du G.D h ps=0):cU k G h ps=⟨G.D++ [⟨h,dv ps⟩],G.P++ [(((pos (b9 G ps) (ids G.D) 0).getD 0:Nat):Int)],G.p8++ [cR k G (b9 G ps) ps],G.jh++ [(fF k G (b9 G ps) ps).wd]⟩:=by
 unfold cU;rw [if_pos hc]
theorem Dk(H:jr k G){s:HT}(hs:s∈ids G.D)(l:List HT)(hl:∀p∈l,p∈ids G.D):
 (fF k G s l).wd.Nodup/\(fF k G s l).wd.length=(cR k G s l).score/\∀y∈(fF k G s l).wd,y∈ids G.D/\(y=s\/fC G.D y s\/y∈cD G s l):=by
 obtain⟨h1,h2⟩:=oJ k G s l;obtain⟨w1,w2,w3⟩:=H.wd s hs;have hm:∀y∈dU (cD G s l) (fF k G s l).bl,y∈ids G.D/\y≠s/\¬fC G.D y s:=fun y hy=>by
  obtain⟨e,h3,h4⟩:=iV.1 (lZ hy);refine⟨?_,h3,h4⟩;rcases e with e|e
  ·exact e.1
  ·exact hl _ e
 rw [h2];refine⟨?_,?_,?_⟩
 ·refine List.nodup_append.2 ⟨List.nodup_append.2 ⟨w1,by simp,?_⟩,oe (kr G s l).nodup,?_⟩
  ·intro a ha b hb e
   have hb:b=s:=by simpa using hb
   subst hb;subst e;exact fC.irrefl H.W _ (w2 _ ha)
  ·intro a ha b hb e
   subst e;obtain⟨_,h3,h4⟩:=hm _ hb;rcases List.mem_append.1 ha with e|e
   ·exact h4 (w2 _ e)
   ·exact h3 (by simpa using e)
 ·unfold cR
  simp only [List.length_append,List.length_cons,List.length_nil,vy h1,w3]
 ·intro y hy
  rcases List.mem_append.1 hy with hy|hy
  ·rcases List.mem_append.1 hy with hy|hy
   ·exact⟨((w2 _ hy).mem H.W).1,.inr (.inl (w2 _ hy))⟩
   ·have:y=s:=by simpa using hy
    subst this;exact⟨hs,.inl rfl⟩
  ·exact⟨(hm _ hy).1,.inr (.inr (lZ hy))⟩
theorem nv(H:jr k G){y:HT}(hy:y∈ids G.D):(cU k G h ps).gR y=G.gR y/\(cU k G h ps).world y=G.world y:=by
 by_cases hc:du G.D h ps=0
 ·obtain⟨hn,fD,dW,o8⟩:=jV hc
  obtain⟨nd,tL,rfl⟩:=dI.1 hy;obtain⟨i,hi⟩:=List.getElem?_of_mem tL;have dQ:=(lgeS hi).1;have F7:(G.D++ [(⟨h,dv ps⟩:DN)])[i]? =some nd:=by rw [List.getElem?_append_left dQ];exact hi
  have W':jC (cU k G h ps).D:=by rw [sX];exact H.W.add h ps
  rw [kW hc]at W'⊢;have e1:(⟨G.D++ [⟨h,dv ps⟩],G.P++ [(((pos (b9 G ps) (ids G.D) 0).getD 0:Nat):Int)],G.p8++ [cR k G (b9 G ps) ps],G.jh++ [(fF k G (b9 G ps) ps).wd]⟩:GS).at_ nd.id=some i:=GS.sS W' F7;have e2:=GS.sS H.W hi;unfold GS.gR GS.world;rw [e1,e2];simp only [Option.bind_some];rw [List.getElem?_append_left (by rw [H.lc];exact dQ),List.getElem?_append_left (by rw [H.lw];exact dQ)];exact⟨rfl,rfl⟩
 ·rw [ue hc];exact⟨rfl,rfl⟩
theorem nx(H:jr k G)(hc:du G.D h ps=0):(cU k G h ps).gR h=cR k G (b9 G ps) ps/\(cU k G h ps).world h=(fF k G (b9 G ps) ps).wd:=by
 have W':jC (cU k G h ps).D:=by rw [sX];exact H.W.add h ps
 rw [kW hc]at W'⊢;have F7:(G.D++ [(⟨h,dv ps⟩:DN)])[G.D.length]? =some ⟨h,dv ps⟩:=by rw [List.getElem?_append_right (Nat.le_refl _),Nat.sub_self];rfl
 have e1:(⟨G.D++ [⟨h,dv ps⟩],G.P++ [(((pos (b9 G ps) (ids G.D) 0).getD 0:Nat):Int)],G.p8++ [cR k G (b9 G ps) ps],G.jh++ [(fF k G (b9 G ps) ps).wd]⟩:GS).at_ h=some G.D.length:=GS.sS W' F7;unfold GS.gR GS.world;rw [e1];simp only [Option.bind_some];rw [List.getElem?_append_right (by rw [H.lc];exact Nat.le_refl _),H.lc,Nat.sub_self,List.getElem?_append_right (by rw [H.lw];exact Nat.le_refl _),H.lw,Nat.sub_self];exact⟨rfl,rfl⟩
end
section
variable{k:Nat}{G:GS}{h:HT}{ps:List HT}
theorem lS(k:Nat)(r:HT):jr k (de r):=by
 have e0:(de r).at_ r=some 0:=GS.sS (G:=de r) (jC.root r) (nd:=⟨r,[]⟩) rfl;have ec:(de r).gR r=⟨dG,0,[],[]⟩:=by unfold GS.gR;rw [e0];rfl
 have ew:(de r).world r= []:=by unfold GS.world;rw [e0];rfl
 refine⟨jC.root r,r7.one r,rfl,rfl,?_,?_,?_⟩
 ·intro nd dW
  have:nd=⟨r,[]⟩:=by simpa [de]using dW.symm
  subst this;exact⟨ec,ew⟩
 ·rintro s h ⟨i,j,ni,m,h1,_,h3,_,_⟩
  exfalso;cases i with
  |zero=>simp [de]at h3
  |succ i=>simp [de]at h1
 ·intro h hm
  have:h=r:=by simpa [de,ids]using hm
  subst this;refine⟨by rw [ew];simp,by rw [ew];simp,?_⟩;unfold GS.score;rw [ec,ew];rfl
theorem HC(H:jr k G)(hc:du G.D h ps=0):∃(j:Nat) (m:DN),G.D[j]? =some m/\m.id=b9 G ps/\(pos (b9 G ps) (ids G.D) 0).getD 0=j/\b9 G ps∈ps/\b9 G ps∈ids G.D:=by
 obtain⟨hn,fD,dW,o8⟩:=jV hc;have h1:=kM (G:=G) fD;have h2:=o8 _ (dF.2 h1);obtain⟨m,hm,e⟩:=dI.1 h2;obtain⟨j,hj⟩:=List.getElem?_of_mem hm;have h3:=H.W.pos_eq hj;rw [e]at h3;exact⟨j,m,hj,e,by rw [h3];rfl,h1,h2⟩
theorem AX(H:jr k G)(hc:du G.D h ps=0):(∀y,fC (G.D++ [⟨h,dv ps⟩]) y h↔∃p∈ps,y=p\/fC G.D y p)/\∀a b,b∈ids G.D->(fC (G.D++ [⟨h,dv ps⟩]) a b↔fC G.D a b):=by
 obtain⟨hn,fD,dW,o8⟩:=jV hc;have W':jC (G.D++ [⟨h,dv ps⟩]):=by have:=H.W.add h ps;rwa [pw hc]at this
 have F7:(G.D++ [(⟨h,dv ps⟩:DN)])[G.D.length]? =some ⟨h,dv ps⟩:=by rw [List.getElem?_append_right (Nat.le_refl _),Nat.sub_self];rfl
 have zq:∀a b,b∈ids G.D->(fC (G.D++ [⟨h,dv ps⟩]) a b↔fC G.D a b):=fun a b hb=>iZ H.W hn hb;refine⟨fun y=>?_,zq⟩;rw [ud W' F7 y];constructor
 ·rintro⟨p,hp,e⟩
  exact⟨p,dF.1 hp,e.imp_right fun e=>(zq _ _ (o8 _ hp)).1 e⟩
 ·rintro⟨p,hp,e⟩
  exact⟨p,dF.2 hp,e.imp_right fun e=>(zq _ _ (o8 _ (dF.2 hp))).2 e⟩
theorem jr.add(H:jr k G)(h:HT)(ps:List HT):jr k (cU k G h ps):=by
 by_cases hc:du G.D h ps=0
 ·obtain⟨hn,fD,dW,o8⟩:=jV hc
  obtain⟨j,m,hj,hm,iq,GR,Og⟩:=HC H hc;obtain⟨GA,zq⟩:=AX H hc;have hk:=fun y (hy:y∈ids G.D)=>nv (h:=h) (ps:=ps) H hy;obtain⟨nc,nw⟩:=nx H hc;obtain⟨v1,v2⟩:=oJ k G (b9 G ps) ps;obtain⟨u1,u2,u3⟩:=Dk H Og ps (fun p hp=>o8 _ (dF.2 hp));have W':jC (G.D++ [⟨h,dv ps⟩]):=by have:=H.W.add h ps;rwa [pw hc]at this
  have mG:r7 (G.D++ [(⟨h,dv ps⟩:DN)]) (G.P++ [(j:Int)]):=H.jX.snoc hj (by rw [hm];exact dF.2 GR) H.W.pos;generalize hs:b9 G ps=s at*;have eG:=kW (k:=k) hc;rw [hs,iq]at eG;have eD:(cU k G h ps).D=G.D++ [⟨h,dv ps⟩]:=by rw [eG]
  have eP:(cU k G h ps).P=G.P++ [(j:Int)]:=by rw [eG]
  refine⟨by rw [eD];exact W',by rw [eD,eP];exact mG,by rw [eG];simp [H.lc],by rw [eG];simp [H.lw],?_,?_,?_⟩
  ·intro nd tL
   rw [eD,List.getElem?_append_left H.W.pos]at tL;obtain⟨e1,e2⟩:=hk nd.id (dI.2 ⟨nd,List.mem_of_getElem? tL,rfl⟩);rw [e1,e2];exact H.root nd tL
  ·intro t y hy
   rw [eD,eP,nP H.W H.jX hn hj]at hy;rcases hy with hy|⟨rfl,rfl⟩
   ·have hp:=hy.par H.jX
    have Zn:y∈ids G.D:=((fC.one hp).mem H.W).2;have Vk:t∈ids G.D:=((fC.one hp).mem H.W).1;obtain⟨e1,e2⟩:=hk y Zn;obtain⟨_,e3⟩:=hk t Vk;obtain⟨g1,g2,g3,g4,g5⟩:=H.up t y hy;rw [e1,e2,e3,eD];refine⟨g1,g2,g3,g4,fun z=>?_⟩;rw [g5,zq _ _ Zn,zq _ _ Vk]
   ·show _/\_
    rw [nc,nw,hm,(hk s Og).2,eD];refine⟨rfl,v2,v1,(kr _ _ _).nodup,fun z=>?_⟩;show z∈cD G s ps↔_
    rw [iV,GA,zq _ _ Og];constructor
    ·rintro⟨e,h3,h4⟩
     refine⟨?_,h3,h4⟩;rcases e with⟨_,p,hp,e⟩|e
     ·exact⟨p,hp,.inr e⟩
     ·exact⟨z,e,.inl rfl⟩
    ·rintro⟨⟨p,hp,e⟩,h3,h4⟩
     refine⟨?_,h3,h4⟩;rcases e with rfl|e
     ·exact .inr hp
     ·exact .inl ⟨(e.mem H.W).1,p,hp,e⟩
  ·intro y hy
   rw [eD,kP]at hy;rcases List.mem_append.1 hy with hy|hy
   ·obtain⟨e1,e2⟩:=hk y hy
    obtain⟨g1,g2,g3⟩:=H.wd y hy;unfold GS.score;rw [e1,e2,eD];exact⟨g1,fun b hb=>(zq _ _ hy).2 (g2 b hb),g3⟩
   ·have:y=h:=by simpa using hy
    subst this;unfold GS.score;rw [nc,nw,eD];refine⟨u1,fun b hb=>?_,u2.symm⟩;obtain⟨_,e⟩:=u3 b hb;rw [GA];rcases e with rfl|e|e
    ·exact⟨b,GR,.inl rfl⟩
    ·exact⟨s,GR,.inr e⟩
    ·obtain⟨e,_,_⟩:=iV.1 e
     rcases e with⟨_,p,hp,e⟩|e
     ·exact⟨p,hp,.inr e⟩
     ·exact⟨b,e,.inl rfl⟩
 ·rw [ue hc];exact H
end
def mh(sz:HT->HT->Option Nat)(l:List HT)(b:HT):Nat:=(l.findSome? fun h=>sz h b).getD 0
def rz(ov:HT->Option Nat)(base:HT->Nat)(b:HT):Nat:=(ov b).getD (base b)
structure OV(D:DG)(wd:List HT)(ov:HT->Option Nat)(base:HT->Nat):Prop where
 kn:∀b∈wd,rz ov base b=(bO D wd b).length
 Tl:∀b n,ov b=some n->b∈wd
noncomputable def zo(D:DG)(wd:List HT)(ov:HT->Option Nat)(base:HT->Nat)(h:HT):HT->Option Nat:=
 fun b=>if b∈bO D wd h then some (rz ov base b+1)else if b=h then some (bO D wd h).length else ov b
theorem OV.step{D:DG}{wd:List HT}{ov:HT->Option Nat}{base:HT->Nat}(H:OV D wd ov base){h:HT}(hn:h∉wd):OV D (wd++ [h]) (zo D wd ov base h) base:=by
 refine⟨fun b hb=>?_,fun b n e=>?_⟩
 ·rw [fM,List.length_append]
  unfold rz zo;by_cases hp:b∈bO D wd h
  ·rw [if_pos hp]
   obtain⟨h1,h2⟩:=fI.1 hp;rw [Option.getD_some,H.kn b h1];have:bO D [h] b= [h]:=by unfold bO;rw [List.filter_cons_of_pos (by simpa using h2.symm)];rfl
   rw [this];rfl
  ·rw [if_neg hp]
   by_cases e:b=h
   ·subst e
    rw [if_pos rfl,Option.getD_some];have:bO D [b] b= []:=by unfold bO;rw [List.filter_cons_of_neg (by simpa using fun e:nH D b b=>e.1 rfl)];rfl
    rw [this];rfl
   ·rw [if_neg e]
    have hw:b∈wd:=by
     rcases List.mem_append.1 hb with hb|hb
     ·exact hb
     ·exact absurd (by simpa using hb) e
    have:bO D [h] b= []:=by unfold bO;rw [List.filter_cons_of_neg (by simpa using fun e':nH D h b=>hp (fI.2 ⟨hw,e'.symm⟩))];rfl
    rw [this];exact H.kn b hw
 ·unfold zo at e
  split at e
  ·rename_i hp
   exact List.mem_append_left _ (fI.1 hp).1
  ·split at e
   ·rename_i hb;subst hb;exact List.mem_append_right _ (by simp)
   ·exact List.mem_append_left _ (H.Tl b n e)
structure SZ(G:GS)(sz:HT->HT->Option Nat):Prop where
 kn:∀h l,h∈ids G.D->dh G.D G.P h l->∀b∈G.world h++ [h],mh sz l b=(bO G.D (G.world h++ [h]) b).length
 Tl:∀h b n,sz h b=some n->b∈ids G.D
theorem SZ.ov{G:GS}{sz:HT->HT->Option Nat}(Z:SZ G sz){s:HT}(hs:s∈ids G.D){l:List HT}(hl:dh G.D G.P s l):OV G.D (G.world s++ [s]) (fun _=>none) (mh sz l):=
 ⟨fun b hb=>Z.kn s l hs hl b hb,fun b n e=>by cases e⟩
theorem Up.snoc{P:List Int}{p:Int}:∀ {i:Nat} {l:List Nat},Up P i l->Up (P++ [p]) i l:=by
 intro i l h
 induction h with
 |root=>exact .root
 |step h _ ih=>exact .step (by rw [List.getElem?_append_left (lgeS h).1];exact h) ih
theorem wY{D:DG}{nd:DN}{i:Nat}(h:i<D.length):oE (D++ [nd]) i=oE D i:=by unfold oE;rw [List.getElem?_append_left h]
theorem dh.snoc{D:DG}{P:List Int}(H:r7 D P){nd:DN}{p:Int}{h:HT}{l:List HT}(hm:h∈ids D)(c:dh D P h l):dh (D++ [nd]) (P++ [p]) h l:=by
 rcases c with⟨hn,_⟩|⟨i,m,ks,h1,h2,h3,h4⟩
 ·exact absurd hm hn
 ·have dQ:=(lgeS h1).1
  refine .inr ⟨i,m,ks,by rw [List.getElem?_append_left dQ];exact h1,h2,h3.snoc,?_⟩;rw [h4];refine List.map_congr_left fun k hk=>(wY ?_).symm;have:=h3.lt H.par (by rw [H.len];exact dQ) k hk
  rwa [H.len]at this
theorem dh.new{D:DG}{P:List Int}(W:jC D)(H:r7 D P){nd m:DN}{j:Nat}(hj:D[j]? =some m){l:List HT}(c:dh D P m.id l):dh (D++ [nd]) (P++ [(j:Int)]) nd.id (nd.id::l):=by
 have hm:m.id∈ids D:=dI.2 ⟨m,List.mem_of_getElem? hj,rfl⟩;have c':=dh.snoc (nd:=nd) (p:=(j:Int)) H hm c;rcases c with⟨hn,_⟩|⟨i,m',ks,h1,h2,h3,h4⟩
 ·exact absurd hm hn
 ·have rI:=W.inj h1 hj h2
  subst rI;have e0:(D++ [nd])[D.length]? =some nd:=by rw [List.getElem?_append_right (Nat.le_refl _),Nat.sub_self];rfl
  refine .inr ⟨D.length,nd,D.length::ks,e0,rfl,.step (by rw [<-H.len,List.getElem?_append_right (Nat.le_refl _),Nat.sub_self];rfl) h3.snoc,?_⟩;rw [List.map_cons,mX e0,h4]
  congr 1
  refine List.map_congr_left fun k hk=>(wY ?_).symm;have:=h3.lt H.par (by rw [H.len];exact(lgeS h1).1) k hk
  rwa [H.len]at this
theorem rf{D D':DG}{l:List HT}{b:HT}(h:∀a∈l,nH D' a b↔nH D a b):bO D' l b=bO D l b:=by
 unfold bO;exact List.filter_congr fun a ha=>by simp only [h a ha]
theorem SZ.root(r:HT):SZ (de r) (fun _ _=>none):=by
 refine⟨fun h l hm _ b hb=>?_,fun h b n e=>by cases e⟩;have hh:h=r:=by simpa [de,ids]using hm
 subst hh;have ew:(de h).world h= []:=((lS 0 h).root ⟨h,[]⟩ rfl).2;rw [ew]at hb⊢;have:b=h:=by simpa using hb
 subst this;have:bO (de b).D ([]++ [b]) b= []:=by unfold bO;rw [List.nil_append,List.filter_cons_of_neg (by simpa using fun e:nH (de b).D b b=>e.1 rfl)];rfl
 rw [this];unfold mh;have:(l.findSome? fun _=>(none:Option Nat))=none:=by simp
 rw [this];rfl
theorem SZ.add{k:Nat}{G:GS}{sz:HT->HT->Option Nat}(Z:SZ G sz)(H:jr k G){h:HT}{ps:List HT}(hc:du G.D h ps=0){l:List HT}(hl:dh G.D G.P (b9 G ps) l){ov:HT->Option Nat}
 (O:OV G.D (fF k G (b9 G ps) ps).wd ov (mh sz l)):SZ (cU k G h ps) (fun y=>if y=h then ov else sz y):=by
 obtain⟨hn,fD,dW,o8⟩:=jV hc;obtain⟨j,m,hj,hm,iq,GR,Og⟩:=HC H hc;obtain⟨GA,zq⟩:=AX H hc;have H':=H.add h ps;obtain⟨nc,nw⟩:=nx H hc;obtain⟨u1,u2,u3⟩:=Dk H Og ps (fun p hp=>o8 _ (dF.2 hp));have eD:(cU k G h ps).D=G.D++ [⟨h,dv ps⟩]:=by rw [kW hc]
 have eP:(cU k G h ps).P=G.P++ [(j:Int)]:=by rw [kW hc,iq]
 have apt:∀a b,a∈ids G.D->b∈ids G.D->(nH (G.D++ [⟨h,dv ps⟩]) a b↔nH G.D a b):=fun a b ha hb=>by unfold nH;rw [zq _ _ hb,zq _ _ ha]
 have lno:∀(y:HT) (l':List HT),y∈ids G.D->dh G.D G.P y l'->∀b,mh (fun y=>if y=h then ov else sz y) l' b=mh sz l' b:=fun y l' hy c b=>by
  unfold mh;have Zy:h∉l':=fun e=>hn ((c.mem H.W H.jX).1 e).mem.1;have key:∀l':List HT,h∉l'->(l'.findSome? fun y=>(if y=h then ov else sz y) b)=l'.findSome? fun y=>sz y b:=by
   intro l'
   induction l' with
   |nil=>intro _;rfl
   |cons y l' ih=>
    intro hq;simp only [List.mem_cons,not_or]at hq;rw [List.findSome?_cons,List.findSome?_cons,if_neg (fun e=>hq.1 e.symm),ih hq.2]
  rw [key l' Zy]
 refine⟨fun y l' hy c b hb=>?_,fun y b n e=>?_⟩
 ·rw [eD,eP]at c
  rw [eD]at hy⊢;rw [kP]at hy;have W':jC (G.D++ [⟨h,dv ps⟩]):=by have:=H'.W;rwa [eD]at this
  have S':r7 (G.D++ [⟨h,dv ps⟩]) (G.P++ [(j:Int)]):=by have:=H'.jX;rwa [eD,eP]at this
  rcases List.mem_append.1 hy with hy|hy
  ·obtain⟨l0,c0⟩:=dh.ex H.jX y
   have:l'=l0:=c.one W' S' (c0.snoc H.jX hy);subst this;obtain⟨_,e2⟩:=nv (k:=k) (h:=h) (ps:=ps) H hy;rw [e2]at hb⊢;rw [lno y l' hy c0,Z.kn y l' hy c0 b hb];have fN:∀a∈G.world y++ [y],a∈ids G.D:=fun a ha=>by
    rcases List.mem_append.1 ha with ha|ha
    ·exact(((H.wd y hy).2.1 a ha).mem H.W).1
    ·have:a=y:=by simpa using ha
     subst this;exact hy
   rw [rf fun a ha=>apt a b (fN a ha) (fN b hb)]
  ·have:y=h:=by simpa using hy
   subst this;have cn:=dh.new (nd:=⟨y,dv ps⟩) H.W H.jX hj (by rw [hm];exact hl);have:l'=y::l:=c.one W' S' cn;subst this;rw [nw]at hb⊢;have e1:mh (fun z=>if z=y then ov else sz z) (y::l) b=rz ov (mh sz l) b:=by
    have:=lno _ l Og hl b;unfold mh at this⊢;unfold rz;rw [List.findSome?_cons];cases GU:ov b with
    |none=>simp only [if_true,GU,Option.getD_none];exact this
    |some n=>simp only [if_true,GU,Option.getD_some]
   rw [e1,fM,List.length_append];have Uh:∀a∈(fF k G (b9 G ps) ps).wd,¬nH (G.D++ [⟨y,dv ps⟩]) a y:=fun a ha e=>by
    obtain⟨_,e'⟩:=u3 a ha;refine e.2.1 ((GA a).2 ?_);rcases e' with rfl|e'|e'
    ·exact⟨_,GR,.inl rfl⟩
    ·exact⟨_,GR,.inr e'⟩
    ·obtain⟨e',_,_⟩:=iV.1 e'
     rcases e' with⟨_,p,hp,e'⟩|e'
     ·exact⟨p,hp,.inr e'⟩
     ·exact⟨a,e',.inl rfl⟩
   rcases List.mem_append.1 hb with hb|hb
   ·have hbi:=(u3 b hb).1
    have:bO (G.D++ [⟨y,dv ps⟩]) [y] b= []:=by unfold bO;rw [List.filter_cons_of_neg (by simpa using fun e:nH _ y b=>Uh b hb e.symm)];rfl
    rw [this,O.kn b hb,rf fun a ha=>apt a b (u3 a ha).1 hbi];rfl
   ·have:b=y:=by simpa using hb
    subst this;have e2:bO (G.D++ [⟨b,dv ps⟩]) (fF k G (b9 G ps) ps).wd b= []:=by
     unfold bO;rw [List.filter_eq_nil_iff];intro a ha;simpa using Uh a ha
    have e3:bO (G.D++ [⟨b,dv ps⟩]) [b] b= []:=by unfold bO;rw [List.filter_cons_of_neg (by simpa using fun e:nH _ b b=>e.1 rfl)];rfl
    rw [e2,e3];have e4:ov b=none:=by
     cases GU:ov b with
     |none=>rfl
     |some n=>exact absurd (u3 b (O.Tl b n GU)).1 hn
    have e5:mh sz l b=0:=by
     unfold mh;have:(l.findSome? fun h=>sz h b)=none:=by
      rw [List.findSome?_eq_none_iff];intro y hy;cases IX:sz y b with
      |none=>rfl
      |some n=>exact absurd (Z.Tl y b n IX) hn
     rw [this];rfl
    unfold rz;rw [e4,e5];rfl
 ·rw [eD,kP]
  refine List.mem_append_left _ ?_;split at e
  ·exact(u3 b (O.Tl b n e)).1
  ·exact Z.Tl y b n e
noncomputable def yJ(G:GS)(h:HT):List HT->List HT
 | []=> []
 |a::r=>(if nH G.D a h then [a]else [])++if fC G.D a h then []else bO G.D (dU (G.gR a).merge (G.gR a).dR) h++yJ G h r
theorem Up.inv{P:List Int}{i:Nat}{l:List Nat}(h:Up P i l):(i=0/\l= [0])\/∃(j:Nat) (r:List Nat),l=i::r/\P[i]? =some (j:Int)/\Up P j r:=by
 cases h with
 |root=>exact .inl ⟨rfl,rfl⟩
 |step h1 h2=>exact .inr ⟨_,_,rfl,h1,h2⟩
theorem dh.inv{D:DG}{P:List Int}(W:jC D)(H:r7 D P){h:HT}{l:List HT}(hm:h∈ids D)(c:dh D P h l):
 (l= [h]/\∃nd,D[0]? =some nd/\nd.id=h)\/∃(s:HT) (r:List HT),l=h::r/\kZ D P s h/\s∈ids D/\dh D P s r:=by
 rcases c with⟨hn,_⟩|⟨i,m,ks,h1,h2,h3,h4⟩
 ·exact absurd hm hn
 ·rcases h3.inv with⟨rfl,rfl⟩|⟨j,r,rfl,h5,h6⟩
  ·refine .inl ⟨?_,m,h1,h2⟩
   rw [h4,List.map_cons,List.map_nil,mX h1,h2]
  ·have hj:j<D.length:=by
    cases i with
    |zero=>rw [H.root]at h5;simp only [Option.some.injEq]at h5;omega
    |succ i=>
     obtain⟨j',m',e,_,h7,_⟩:=H.up (i+1) _ m (by omega) h5 h1;have:=(lgeS h7).1;omega
   obtain⟨mj,QY⟩:∃mj,D[j]? =some mj:=⟨_,List.getElem?_eq_getElem hj⟩;refine .inr ⟨mj.id,r.map (oE D),?_,⟨i,j,m,mj,h1,h2,h5,QY,rfl⟩,dI.2 ⟨mj,List.mem_of_getElem? QY,rfl⟩,.inr ⟨j,mj,r,QY,rfl,h6,rfl⟩⟩;rw [h4,List.map_cons,mX h1,h2]
theorem RY{k:Nat}{G:GS}(H:jr k G)(h:HT):∀(l:List HT) (s:HT),s∈ids G.D->dh G.D G.P s l->(yJ G h l).Nodup/\∀y,y∈yJ G h l↔y∈bO G.D (G.world s++ [s]) h:=by
 intro l
 induction l with
 |nil=>
  intro s hs c;rcases c.inv H.W H.jX hs with⟨e,_⟩|⟨_,_,e,_⟩<;>cases e
 |cons a r ih=>
  intro s hs c;have key:∀(wb:List HT),G.world s=wb++dU (G.gR s).merge (G.gR s).dR->(yJ G h r).Nodup->(∀y,y∈yJ G h r↔y∈bO G.D wb h)->a=s->(yJ G h (a::r)).Nodup/\∀y,y∈yJ G h (a::r)↔y∈bO G.D (G.world s++ [s]) h:=by
   rintro wb hw hn hy rfl;obtain⟨w1,w2,_⟩:=H.wd a hs;have ac9:=fC.irrefl H.W a;rw [hw]at w1 w2⊢;rw [List.nodup_append]at w1;obtain⟨w3,w4,w5⟩:=w1;unfold yJ;by_cases ha:fC G.D a h
   ·have Mj:¬nH G.D a h:=fun e=>e.2.1 ha
    rw [if_pos ha,if_neg Mj];refine⟨by simp,fun y=>?_⟩;simp only [List.append_nil,List.not_mem_nil,false_iff];intro e;obtain⟨e1,e2⟩:=fI.1 e;rcases List.mem_append.1 e1 with e1|e1
    ·exact e2.2.1 ((w2 y e1).trans ha)
    ·have:y=a:=by simpa using e1
     subst this;exact Mj e2
   ·rw [if_neg ha]
    have hr:∀y∈yJ G h r,y∈wb:=fun y e=>(fI.1 ((hy y).1 e)).1;refine⟨?_,fun y=>?_⟩
    ·refine List.nodup_append.2 ⟨by split<;>simp,List.nodup_append.2 ⟨w4.filter _,hn,?_⟩,?_⟩
     ·intro x hx z hz e
      subst e;exact w5 x (hr x hz) x (fI.1 hx).1 rfl
     ·intro x hx z hz e
      subst e;split at hx
      ·have:x=a:=by simpa using hx
       subst this;refine ac9 (w2 x ?_);rcases List.mem_append.1 hz with hz|hz
       ·exact List.mem_append_right _ (fI.1 hz).1
       ·exact List.mem_append_left _ (hr x hz)
      ·simp at hx
    ·rw [fM,fM]
     simp only [List.mem_append,hy];have e1:y∈(if nH G.D a h then [a]else [])↔y∈bO G.D [a] h:=by
      unfold bO;by_cases hp:nH G.D a h
      ·rw [if_pos hp,List.filter_cons_of_pos (by simpa using hp)];rfl
      ·rw [if_neg hp,List.filter_cons_of_neg (by simpa using hp)];rfl
     rw [e1];constructor
     ·rintro(e|e|e)
      ·exact .inr e
      ·exact .inl (.inr e)
      ·exact .inl (.inl e)
     ·rintro((e|e)|e)
      ·exact .inr (.inr e)
      ·exact .inr (.inl e)
      ·exact .inl e
  rcases c.inv H.W H.jX hs with⟨e,nd,h0,rfl⟩|⟨t,r',e,pX,ht,hc⟩
  ·obtain⟨r1,r2⟩:=H.root nd h0
   cases e;exact key [] (by rw [r2,r1];simp [dU]) (by simp [yJ]) (fun y=>by simp [yJ,bO]) rfl
  ·cases e
   obtain⟨_,u2,_⟩:=H.up t a pX;obtain⟨i1,i2⟩:=ih t ht hc;exact key (G.world t++ [t]) u2 i1 i2 rfl
noncomputable def oz(G:GS)(h:HT)(bl l:List HT):List HT:=bO G.D bl h++yJ G h l
theorem MU{k:Nat}{G:GS}(H:jr k G){h s:HT}{l bl:List HT}(hs:s∈ids G.D)(hl:dh G.D G.P s l)(hn:(G.world s++ [s]++bl).Nodup):
 (oz G h bl l).Nodup/\(oz G h bl l).length=(bO G.D (G.world s++ [s]++bl) h).length/\∀y,y∈oz G h bl l↔y∈bO G.D (G.world s++ [s]++bl) h:=by
 obtain⟨h1,h2⟩:=RY H h l s hs hl;have h0:=hn;rw [List.nodup_append]at hn;obtain⟨n1,n2,n3⟩:=hn;have hm:∀y,y∈oz G h bl l↔y∈bO G.D (G.world s++ [s]++bl) h:=fun y=>by
  unfold oz;rw [fM,List.mem_append,List.mem_append,h2];exact Or.comm
 have dW:(oz G h bl l).Nodup:=by
  refine List.nodup_append.2 ⟨n2.filter _,h1,?_⟩;intro x hx z hz e;subst e;exact n3 x (fI.1 ((h2 x).1 hz)).1 x (fI.1 hx).1 rfl
 exact⟨dW,((List.perm_ext_iff_of_nodup dW (h0.filter _)).2 hm).length_eq,hm⟩
def rh(k:Nat)(kn:HT->Nat)(done:List HT)(b:HT):Bool:=decide (done.length+1<=k/\kn b<k)
def fi(k:Nat)(kn:HT->Nat):List HT->List HT->Bool
 |_,[]=>true
 |done,b::l=>rh k kn done b&&fi k kn (done++ [b]) l
theorem pr{k:Nat}{kn:HT->Nat}:∀ {l done:List HT},fi k kn done l=true↔(l≠ []->done.length+l.length<=k)/\∀b∈l,kn b<k
 | [],done=>by simp [fi]
 |b::l,done=>by
  unfold fi rh;rw [Bool.and_eq_true,decide_eq_true_eq,pr];simp only [List.length_append,List.length_cons,List.length_nil,List.mem_cons,forall_eq_or_imp,ne_eq,reduceCtorEq,not_false_eq_true,forall_const];constructor
  ·rintro⟨⟨h1,h2⟩,h3,h4⟩
   refine⟨?_,h2,h4⟩;by_cases e:l= []
   ·subst e;simpa using h1
   ·have:=h3 e;omega
  ·rintro⟨h1,h2,h3⟩
   refine⟨⟨by omega,h2⟩,fun _=>by omega,h3⟩
theorem l9{k:Nat}{kn:HT->Nat}:∀ {l m done:List HT},fi k kn done (l++m)=(fi k kn done l&&fi k kn (done++l) m)
 | [],m,done=>by simp [fi]
 |b::l,m,done=>by
  simp only [List.cons_append,fi,l9 (l:=l),Bool.and_assoc,List.append_assoc,List.nil_append]
theorem JZ{k:Nat}{D:DG}{wd:List HT}{kn:HT->Nat}{h:HT}{c:List HT}(hk:∀b∈wd,kn b=(bO D wd b).length)(hl:c.length=(bO D wd h).length)(hm:∀y,y∈c↔y∈bO D wd h):
 fi k kn [] c=oA k D wd h:=by
 rw [Bool.eq_iff_iff,pr];unfold oA;rw [decide_eq_true_eq];simp only [List.length_nil,Nat.zero_add,<-hl];constructor
 ·rintro⟨h1,h2⟩
  refine⟨?_,fun y hy=>?_⟩
  ·by_cases e:c= []
   ·subst e;simp
   ·exact h1 e
  ·have:=h2 y ((hm y).2 hy)
   rw [hk y (fI.1 hy).1]at this;omega
 ·rintro⟨h1,h2⟩
  refine⟨fun _=>h1,fun y hy=>?_⟩;have hy:=(hm y).1 hy;rw [hk y (fI.1 hy).1];have:=h2 y hy;omega
open Go.RowKit
theorem HZ:wu e9 fj (.pointer none):=⟨by kernel_rfl,tU (by kernel_rfl)⟩
theorem rk:wu cr iO (.int .i64 0):=⟨by kernel_rfl,tU (by kernel_rfl)⟩
structure Bo(w:World)(A:Option Addr)(n:Nat)(l:List Bool):Prop where
 len:l.length=n
 at_:∀(i:Nat) (b:Bool),l[i]? =some b->∃a,A=some a/\a.block<w.heap.size/\w.cell? (a.add i)=some (.bool b)
theorem Bo.az{S:Nat->Prop}{w w':World}{A:Option Addr}{n:Nat}{l:List Bool}(h:Bo w A n l)(hk:Kept S w w')(hn:∀a,A=some a->¬S a.block):Bo w' A n l:=⟨h.len,fun i x hi=>by
 obtain⟨a,h1,h2,h3⟩:=h.at_ i x hi;exact⟨a,h1,Nat.lt_of_lt_of_le h2 hk.size,hk.cell h3 (by rw [dT];exact hn a h1)⟩⟩
theorem Bo.same{w w':World}{A:Option Addr}{n:Nat}{l:List Bool}(h:Bo w A n l)(hk:Kept Nil w w'):Bo w' A n l:=h.az hk fun _ _ h=>h
def Lm(ov:HT->Option Nat)(b:HT):Option Value:=(ov b).map fun n:Nat=>.int .i64 (n:Int)
def GI(w:World)(F:Nat->Prop)(sm:Option Nat)(sz:HT->Option Nat):Prop:=
 (sm=none/\∀b,sz b=none)\/∃s,sm=some s/\F s/\fp w s (Lm sz)
def cF(c:oC)(A:Option Addr)(n cp:Nat)(B:Option Addr)(m cq:Nat):Array Value:=c.jX.1++ #[.int .u64 (c.score:Int),.slice A n cp,.slice B m cq]
structure qm(w:World)(F:Nat->Prop)(q:Nat)(c:oC)(sz:HT->Option Nat)(A:Option Addr)(n cp:Nat)(B:Option Addr)(m cq:Nat)(sm:Option Nat):Prop where
 top:w.heap[q]? =some (.cells (cF c A n cp B m cq++ #[.map sm]) dV (0,0))
 mg:HS w A n c.merge
 bl:Bo w B m c.dR
 fA:∀a,A=some a->F a.block
 fB:∀a,B=some a->F a.block
 sz:GI w F sm sz
 fq:F q
def Seen(w:World)(F:Nat->Prop)(q:Nat)(c:oC)(sz:HT->Option Nat):Prop:=∃A n cp B m cq sm,qm w F q c sz A n cp B m cq sm
section
variable{w w':World}{F S:Nat->Prop}{q:Nat}{c:oC}{sz:HT->Option Nat}{A B:Option Addr}{n cp m cq:Nat}{sm:Option Nat}
theorem GI.az(h:GI w F sm sz)(hk:Kept S w w')(hF:∀j,F j->¬S j):GI w' F sm sz:=by
 rcases h with h|⟨s,h1,h2,h3⟩
 ·exact .inl h
 ·exact .inr ⟨s,h1,h2,h3.az hk (hF _ h2)⟩
theorem qm.az(h:qm w F q c sz A n cp B m cq sm)(hk:Kept S w w')(hF:∀j,F j->¬S j):qm w' F q c sz A n cp B m cq sm:=
 ⟨hk.heap h.top (hF _ h.fq),h.mg.az hk (fun a ha=>hF _ (h.fA a ha)),h.bl.az hk (fun a ha=>hF _ (h.fB a ha)),h.fA,h.fB,h.sz.az hk hF,h.fq⟩
theorem Seen.az(h:Seen w F q c sz)(hk:Kept S w w')(hF:∀j,F j->¬S j):Seen w' F q c sz:=by
 obtain⟨A,n,cp,B,m,cq,sm,h⟩:=h;exact⟨A,n,cp,B,m,cq,sm,h.az hk hF⟩
theorem aS(c:oC)(A:Option Addr)(n cp:Nat)(B:Option Addr)(m cq:Nat):(cF c A n cp B m cq).size=35:=by
 unfold cF;rw [Array.size_append,c.jX.2.1];rfl
theorem eW(c:oC)(A:Option Addr)(n cp:Nat)(B:Option Addr)(m cq:Nat)(r:Array Value):
 ((cF c A n cp B m cq)++r)[32]? =some (.int .u64 (c.score:Int))/\((cF c A n cp B m cq)++r)[33]? =some (.slice A n cp)/\((cF c A n cp B m cq)++r)[34]? =some (.slice B m cq)/\((cF c A n cp B m cq)++r)[35]? =r[0]? :=by
 have hs:=aS c A n cp B m cq;have h0:c.jX.1.size=32:=c.jX.2.1;refine⟨?_,?_,?_,?_⟩
 ·rw [Array.getElem?_append_left (by omega)];unfold cF;rw [Array.getElem?_append_right (by omega),h0];rfl
 ·rw [Array.getElem?_append_left (by omega)];unfold cF;rw [Array.getElem?_append_right (by omega),h0];rfl
 ·rw [Array.getElem?_append_left (by omega)];unfold cF;rw [Array.getElem?_append_right (by omega),h0];rfl
 ·rw [Array.getElem?_append_right (by omega),hs]
theorem qm.YD(h:qm w F q c sz A n cp B m cq sm):w.cell? (((⟨q,0,none⟩:Addr).add 0).add 32)=some (.int .u64 (c.score:Int)):=by
 rw [add_zero,a8,ay h.top];exact(eW ..).1
theorem qm.c35(h:qm w F q c sz A n cp B m cq sm):w.cell? ((⟨q,0,none⟩:Addr).add 35)=some (.map sm):=by
 rw [a8,ay h.top];exact(eW ..).2.2.2
theorem qm.gR(h:qm w F q c sz A n cp B m cq sm):Cells w ((⟨q,0,none⟩:Addr).add 0) (cF c A n cp B m cq):=by
 intro j u hj;rw [add_zero,a8,ay h.top,Array.getElem?_append_left (by rw [aS];have:=(Array.getElem?_eq_some_iff.1 hj).1;rw [aS]at this;omega)];rw [Nat.zero_add];exact hj
end
structure CM where
 x:Nat
 mb:Nat
 SX:Nat->Prop
 FX:Nat->Prop
 q:HT->Nat
 sz:HT->HT->Option Nat
def CM.own(m:CM)(c j:Nat):Prop:=m.SX j\/j=c\/j=m.mb
structure CV(w:World)(F:Nat->Prop)(c:Nat)(k:Nat)(G:GS)(m:CM):Prop where
 top:w.heap[c]? =some (.cells #[.int .i64 (k:Int),.pointer (some ⟨m.x,0,none⟩),.map (some m.mb)] gg (0,0))
 X:Bc w m.SX m.FX m.x G.D G.P
 all:fp w m.mb fun h=>if h∈ids G.D then some (.pointer (some ⟨m.q h,0,none⟩))else none
 seen:∀h∈ids G.D,Seen w F (m.q h) (G.gR h) (m.sz h)
 fG:jr k G
 Z:SZ G m.sz
 fx:∀j,m.FX j->F j
 fo:∀j,F j->¬m.own c j
 so:∀j,m.SX j->j≠c/\j≠m.mb
 ne:c≠m.mb
 low:∀j,m.own c j\/F j->j<w.heap.size
section
variable{w w':World}{F S:Nat->Prop}{c k:Nat}{G:GS}{m:CM}{K:Value->World->Prop}
theorem CV.az{S0:Nat->Prop}(h:CV w F c k G m)(hk:Kept S0 w w')(hS:∀j,m.own c j->¬S0 j)(hF:∀j,F j->¬S0 j):CV w' F c k G m where
 top:=hk.heap h.top (hS _ (.inr (.inl rfl)))
 X:=h.X.az hk (fun j e=>hS j (.inl e)) (fun j e=>hF j (h.fx j e))
 all:=h.all.az hk (hS _ (.inr (.inr rfl)))
 seen:=fun y hy=>(h.seen y hy).az hk hF
 fG:=h.fG
 Z:=h.Z
 fx:=h.fx
 fo:=h.fo
 so:=h.so
 ne:=h.ne
 low:=fun j e=>Nat.lt_of_lt_of_le (h.low j e) hk.size
theorem CV.same(h:CV w F c k G m)(hk:Kept Nil w w'):CV w' F c k G m:=h.az hk (fun _ _ h=>h) (fun _ _ h=>h)
theorem CV.c0(h:CV w F c k G m):w.cell? ((⟨c,0,none⟩:Addr).add 0)=some (.int .i64 (k:Int)):=by rw [a8,ay h.top];rfl
theorem CV.c1(h:CV w F c k G m):w.cell? ((⟨c,0,none⟩:Addr).add 1)=some (.pointer (some ⟨m.x,0,none⟩)):=by rw [a8,ay h.top];rfl
theorem CV.c2(h:CV w F c k G m):w.cell? ((⟨c,0,none⟩:Addr).add 2)=some (.map (some m.mb)):=by rw [a8,ay h.top];rfl
theorem CV.look(h:CV w F c k G m)(y:HT):(Instr.lookup e9 (.map (some m.mb)) (.agg y.1) false).run prog w=.ok (.pointer (if y∈ids G.D then some ⟨m.q y,0,none⟩else none)) w:=by
 have:=h.all.look HZ y;by_cases hy:y∈ids G.D
 ·rw [if_pos hy]at this;rw [if_pos hy];exact this
 ·rw [if_neg hy]at this;rw [if_neg hy];exact this
theorem CV.ot(h:CV w F c k G m){y:HT}(hy:y∈ids G.D):(Instr.lookup e9 (.map (some m.mb)) (.agg y.1) false).run prog w=.ok (.pointer (some ⟨m.q y,0,none⟩)) w:=by
 have:=h.look y;rwa [if_pos hy]at this
theorem mv(h:CV w F c k G m)(hK:K (.bool true) w):bj prog dZ.id #[.pointer (some ⟨c,0,none⟩)] w K:=
 dZ.of (Split.yes rfl ⟨_,h.c1,hK⟩)
theorem Gq{A:Addr}{x y:Int}{cx:Nat}(h0:w.cell? A=some (.int .i64 x))(h1:w.cell? (A.add 1)=some (.int .i64 y))(hK:K (.int .i64 (if x=0 then y else x)) w):
 bj prog bG.id #[.slice (some A) 2 cx] w K:=by
 refine bG.of ?_;unfold bG.W;refine bG.b6 (I:=fun s w'=>w'=w/\((s=(0,0))\/(s=(0,1)/\x=0)\/(s=(0,2)/\x=0/\y=0))) (μ:=fun s _=>(2-s.2).toNat) (s:=(0,0)) ⟨rfl,.inl rfl⟩ ?_;rintro s w' ⟨rfl,h⟩;rcases h with rfl|⟨rfl,hx⟩|⟨rfl,hx,hy⟩
 ·refine Split.yes rfl ⟨by simp only;omega,x,by rw [show(0:Int).toNat*1=0 from rfl,add_zero];exact h0,?_⟩
  by_cases hx:x=0
  ·refine Split.no (by simp [hx]) ?_
   exact⟨(0,1),rfl,⟨rfl,.inr (.inl ⟨rfl,hx⟩)⟩,by simp only;omega⟩
  ·refine Split.yes (by simpa using hx) ?_
   rw [if_neg hx]at hK;rw [iz];exact hK
 ·refine Split.yes rfl ⟨by simp only;omega,y,h1,?_⟩
  rw [if_pos hx]at hK;by_cases hy:y=0
  ·refine Split.no (by simp [hy]) ?_
   exact⟨(0,2),rfl,⟨rfl,.inr (.inr ⟨rfl,hx,hy⟩)⟩,by simp only;omega⟩
  ·refine Split.yes (by simpa using hy) ?_
   rw [iz];exact hK
 ·refine Split.no rfl ?_
  rw [aP,bG.cX];rw [if_pos hx,hy]at hK;exact hK
theorem CO{x y:Int}(hK:K (.int .i64 (if x<y then-1 else if y<x then 1 else 0)) w):bj prog dC.id #[.int .u64 x,.int .u64 y] w K:=by
 refine dC.of ?_;refine ft.of ⟨_,rfl,?_⟩;refine ft.of ⟨_,rfl,?_⟩;refine Split.no (by simp) (Split.no (by simp) (Split.dec (fun h=>?_) (fun h=>Split.dec (fun h'=>?_) (fun h'=>?_))))
 ·rw [if_pos h]at hK;exact hK
 ·rw [if_neg h,if_pos h']at hK;exact hK
 ·rw [if_neg h,if_neg h']at hK;exact hK
theorem pg(h:CV w F c k G m){a b:HT}(ha:a∈ids G.D)(hb:b∈ids G.D)(hK:∀w',Kept Nil w w'->K (.int .i64 (AH G a b)) w'):
 bj prog bp.id #[.pointer (some ⟨c,0,none⟩),.agg a.1,.agg b.1] w K:=by
 refine bp.of ?_;unfold bp.W;intro w4 w5 w6;have k4:Kept Nil w w4:=(Kept.refl _ _).alloc _;have yj:w4.heap[w.heap.size]? =some (.cells a.1 aj (0,0)):=aH w _;have k5:Kept Nil w4 w5:=(Kept.refl _ _).alloc _;have nY:w5.heap[w4.heap.size]? =some (.cells b.1 aj (0,0)):=aH w4 _;have k6:Kept Nil w5 w6:=(Kept.refl _ _).drew;clear_value w6;have v8:=(k5.tt k6).heap yj (fun h=>h);have p7:=k6.heap nY (fun h=>h);have nK:=(k4.tt k5).tt k6;have h6:=h.same nK;obtain⟨A1,n1,c1,B1,m1,d1,s1,sa⟩:=h6.seen a ha;obtain⟨A2,n2,c2,B2,m2,d2,s2,sb⟩:=h6.seen b hb;refine⟨_,h6.c2,a.1,⟨a.2.1,Cells.bz v8⟩,_,h6.ot ha,_,sa.YD,_,h6.c2,b.1,⟨b.2.1,Cells.bz p7⟩,_,h6.ot hb,_,sb.YD,a.1,⟨a.2.1,Cells.bz v8⟩,b.1,⟨b.2.1,Cells.bz p7⟩,?_⟩;refine CO ⟨_,rfl,⟨b.1,rfl,b.2.1,Cells.bz p7⟩,⟨a.1,rfl,a.2.1,Cells.bz v8⟩,?_⟩;refine po a b ⟨_,rfl,?_⟩;have k7:Kept Nil w6 ((w6.alloc (.cells a.1 aj)).alloc (.cells b.1 aj)).drew:=(((Kept.refl Nil w6).alloc _).alloc _).drew;generalize ((w6.alloc (.cells a.1 aj)).alloc (.cells b.1 aj)).drew=w7 at k7⊢;intro w8;have k8:Kept Nil w7 w8:=(Kept.refl _ _).alloc _;have Tg:w8.heap[w7.heap.size]? =some (.cells _ _ (0,0)):=aH w7 _;clear_value w8;refine Gq (A:=⟨w7.heap.size,0,none⟩) (by rw [ay Tg];rfl) (by rw [a8,ay Tg];rfl) ⟨_,rfl,?_⟩;have e:(if(if((G.gR a).score:Int)<((G.gR b).score:Int)then(-1:Int)else if((G.gR b).score:Int)<((G.gR a).score:Int)then 1 else 0)=0 then kV a b else if((G.gR a).score:Int)<((G.gR b).score:Int)then(-1:Int)else if((G.gR b).score:Int)<((G.gR a).score:Int)then 1 else 0)=AH G a b:=by
  rw [MT];unfold GS.score;by_cases h1:(G.gR a).score<(G.gR b).score
  ·have rK:((G.gR a).score:Int)<((G.gR b).score:Int):=by omega
   rw [if_pos h1,if_pos rK,if_neg (by decide)]
  ·have rK:¬((G.gR a).score:Int)<((G.gR b).score:Int):=by omega
   by_cases h2:(G.gR b).score<(G.gR a).score
   ·have rJ:((G.gR b).score:Int)<((G.gR a).score:Int):=by omega
    rw [if_neg h1,if_neg rK,if_pos h2,if_pos rJ,if_neg (by decide)]
   ·have rJ:¬((G.gR b).score:Int)<((G.gR a).score:Int):=by omega
    rw [if_neg h1,if_neg rK,if_neg h2,if_neg rJ,if_pos rfl]
 rw [e];exact hK _ ((nK.tt k7).tt k8)
end
section
variable{w:World}
theorem fp.DH{mt te:TypeId}{z:Value}(T:wu mt te z){m:Nat}{f:HT->Option Value}(hm:fp w m f)(h:HT):
 (Instr.lookup mt (.map (some m)) (.agg h.1) true).run prog w=.ok (.tuple #[(f h).getD z,.bool (f h).isSome]) w:=by
 obtain⟨es,clock,l,h1,h2,h3,_⟩:=hm.ex;have h4:=lC h w h2;have h5:=mw h l 0;rw [h3]at h5;simp only [Instr.lookup,Sem.run_bind,run_underlying T.oD,ph h1,Result.andThen_ok,Sem.run_pure,iU,h4];cases hp:lA h l 0 with
 |none=>rw [hp]at h5;simp [<-h5,T.zero]
 |some p=>rw [hp]at h5;simp [<-h5]
theorem BR{mt te:TypeId}{z:Value}(T:wu mt te z)(h:HT):
 (Instr.lookup mt (.map none) (.agg h.1) true).run prog w=.ok (.tuple #[z,.bool false]) w:=by
 have h3:=lC (es:= []) (l:= []) h w trivial;simp only [Instr.lookup,Sem.run_bind,run_underlying T.oD,Result.andThen_ok,Sem.run_pure,iU];simp [h3,lA,T.zero]
theorem GI.DH{F:Nat->Prop}{sm:Option Nat}{sz:HT->Option Nat}(h:GI w F sm sz)(b:HT):
 (Instr.lookup cr (.map sm) (.agg b.1) true).run prog w=.ok (.tuple #[.int .i64 (((sz b).getD 0:Nat):Int),.bool (sz b).isSome]) w:=by
 rcases h with⟨rfl,h⟩|⟨s,rfl,_,h⟩
 ·rw [h b];exact BR rk b
 ·have:=h.DH rk b
  unfold Lm at this;cases hb:sz b with
  |none=>rw [hb]at this;exact this
  |some n=>rw [hb]at this;exact this
end
section
variable{w w':World}{F S:Nat->Prop}{c k:Nat}{G:GS}{m:CM}{K:Value->World->Prop}
theorem Ao(h:CV w F c k G m)(hD:G.D.length<=5000)(a b:HT)(hK:∀w' (r:Bool),(r=true↔nH G.D a b)->Kept Nil w w'->K (.bool r) w'):
 bj prog c9.id #[.pointer (some ⟨c,0,none⟩),.agg a.1,.agg b.1] w K:=by
 refine c9.of ?_;unfold c9.W;intro w4 w5 w6;have k4:Kept Nil w w4:=(Kept.refl _ _).alloc _;have yj:w4.heap[w.heap.size]? =some (.cells a.1 aj (0,0)):=aH w _;have k5:Kept Nil w4 w5:=(Kept.refl _ _).alloc _;have nY:w5.heap[w4.heap.size]? =some (.cells b.1 aj (0,0)):=aH w4 _;have k6:Kept Nil w5 w6:=(Kept.refl _ _).drew;clear_value w6;have v8:=(k5.tt k6).heap yj (fun h=>h);have p7:=k6.heap nY (fun h=>h);have nK:=(k4.tt k5).tt k6;have h6:=h.same nK;refine⟨a.1,⟨a.2.1,Cells.bz v8⟩,b.1,⟨b.2.1,Cells.bz p7⟩,⟨a.2.ints,b.2.ints⟩,?_⟩;rw [dL];by_cases lG:a=b
 ·refine Split.no (by rw [decide_eq_true lG];rfl) (hK w6 false ⟨(fun e=>by cases e),fun e=>absurd lG e.1⟩ nK)
 ·refine Split.yes (by rw [decide_eq_false lG];rfl) ⟨_,h6.c1,a.1,⟨a.2.1,Cells.bz v8⟩,b.1,⟨b.2.1,Cells.bz p7⟩,?_⟩
  obtain⟨mx,X6,_⟩:=h6.X;refine lD X6 hD a b fun w7 r hr k7=>⟨_,rfl,?_⟩;have sG:=nK.tt k7;cases r with
  |true=>exact Split.no rfl (hK w7 false ⟨(fun e=>by cases e),fun e=>absurd (hr.1 rfl) e.2.1⟩ sG)
  |false=>
   have h7:=h.same sG;refine Split.yes rfl ⟨_,h7.c1,b.1,⟨b.2.1,Cells.bz (k7.heap p7 (fun h=>h))⟩,a.1,⟨a.2.1,Cells.bz (k7.heap v8 (fun h=>h))⟩,?_⟩;obtain⟨mx',X7,_⟩:=h7.X;refine lD X7 hD b a fun w8 r' Om k8=>⟨_,rfl,hK w8 _ ?_ (sG.tt k8)⟩;cases r' with
   |true=>exact⟨(fun e=>by cases e),fun e=>absurd (Om.1 rfl) e.2.2⟩
   |false=>exact⟨fun _=>⟨lG,(fun e=>by have:=hr.2 e;cases this),(fun e=>by have:=Om.2 e;cases this)⟩,fun _=>rfl⟩
def mV(D:DG)(l:List HT):Int:=if l= []then 9 else if ∃p∈l,p∉ids D then 6 else 0
theorem Gh(h:CV w F c k G m){A:Option Addr}{n cx:Nat}{l:List HT}(hl:HS w A n l)(hn:n<=400000)(hK:∀w',Kept Nil w w'->K (.int .i64 (mV G.D l)) w'):
 bj prog eB.id #[.pointer (some ⟨c,0,none⟩),.slice A n cx] w K:=by
 have hlen:=hl.len;refine eB.of ?_;unfold eB.W;intro w4;have k4:Kept Nil w w4:=(Kept.refl _ _).alloc _;have Rv:w4.heap[w.heap.size]? =some (.cells #[.pointer (some ⟨c,0,none⟩)] gQ (0,0)):=aH w _;clear_value w4;refine⟨some ⟨c,0,none⟩,by rw [ay Rv];rfl,mv (h.same k4) ⟨_,rfl,Split.no rfl ?_⟩⟩;by_cases h0:n=0
 ·subst h0
  have e:l= []:=List.eq_nil_of_length_eq_zero hlen;refine Split.yes rfl ?_;have:=hK w4 k4;unfold mV at this;rw [if_pos e]at this;exact this
 ·have fD:l≠ []:=fun e=>by subst e;exact h0 hlen.symm
  refine Split.no (by simpa using (by omega:¬(n:Int)=0)) ?_;refine bU.of (al.of ?_);refine al.b6 (I:=fun s w'=>∃i:Nat,s=(0,(i:Int))/\i<=n/\(∀p∈l.take i,p∈ids G.D)/\Kept Nil w4 w') (μ:=fun s _=>((n:Int)-s.2).toNat) (s:=(0,0)) ⟨0,rfl,Nat.zero_le _,by simp,Kept.refl _ _⟩ ?_;rintro s w' ⟨i,rfl,hi,cZ,kw⟩;have k0w:=k4.tt kw;refine Split.dec (fun jc=>?_) (fun gq=>?_)
  ·simp only at jc
   have dQ:i<n:=by omega
   obtain⟨y,hy⟩:∃y,l[i]? =some y:=⟨_,List.getElem?_eq_getElem (by omega)⟩;refine(hl.same k0w).load (i:=(i:Int)) (by omega) hy ?_;refine eJ.of ?_;unfold eJ.W;intro w7 w8;have k7:Kept Nil w' w7:=(Kept.refl _ _).alloc _;have hb7:w7.heap[w'.heap.size]? =some (.cells y.1 aj (0,0)):=aH w' _;have k8:Kept Nil w7 w8:=(Kept.refl _ _).drew;clear_value w8;have Tg:=k8.heap hb7 (fun h=>h);have Sx:=(kw.tt k7).tt k8;have h8:=h.same (k4.tt Sx);refine⟨some ⟨c,0,none⟩,by rw [ay (Sx.heap Rv (fun h=>h))];rfl,_,h8.c2,y.1,⟨y.2.1,Cells.bz Tg⟩,_,h8.look y,_,rfl,?_⟩;by_cases hm:y∈ids G.D
   ·refine Split.no (by rw [if_pos hm];rfl) ?_
    simp only;rw [dw (n:=(i:Int)) (by omega) (by omega)];refine⟨(0,(i:Int)+1),rfl,⟨i+1,rfl,dQ,fun p hp=>?_,Sx⟩,by simp only;omega⟩;rcases(bJ hy).1 hp with hp|rfl
    ·exact cZ p hp
    ·exact hm
   ·refine Split.yes (by rw [if_neg hm];rfl) ?_
    refine⟨(i:Int),rfl,_,rfl,?_⟩;have:=hK w8 (k4.tt Sx);unfold mV at this;rw [if_neg fD,if_pos ⟨y,List.mem_of_getElem? hy,hm⟩]at this;refine Split.yes (decide_eq_true (by omega)) this
  ·simp only at gq
   rw [aP,al.cX];rw [List.take_of_length_le (by omega)]at cZ;refine⟨_,rfl,_,rfl,?_⟩;have:=hK w' k0w;unfold mV at this;rw [if_neg fD,if_neg (fun⟨p,hp,hn⟩=>hn (cZ p hp))]at this;exact Split.no (by decide) this
end
theorem tC{α β:Type}{f:α->Option β}{y:α}{n:β}:∀ {l:List α} {j:Nat},l[j]? =some y->(∀x∈l.take j,f x=none)->f y=some n->l.findSome? f=some n
 | [],j,h,_,_=>by simp at h
 |x::l,0,h,_,hy=>by
  simp only [List.getElem?_cons_zero,Option.some.injEq]at h;subst h;rw [List.findSome?_cons,hy]
 |x::l,j+1,h,ha,hy=>by
  have hx:=ha x (by simp);rw [List.findSome?_cons,hx];exact tC (l:=l) (j:=j) (by simpa using h) (fun z hz=>ha z (by simp [hz])) hy
section
variable{w w':World}{F S:Nat->Prop}{c k:Nat}{G:GS}{m:CM}{K:Value->World->Prop}
theorem CC(h:CV w F c k G m)(hD:G.D.length<=5000){a b:HT}(ha:a∈ids G.D){l:List HT}(hc:dh G.D G.P a l)(hK:∀w',Kept Nil w w'->K (.int .i64 ((mh m.sz l b:Nat):Int)) w'):
 bj prog aZ.id #[.pointer (some ⟨c,0,none⟩),.agg a.1,.agg b.1] w K:=by
 have W:=h.fG.W;have H:=h.fG.jX;have ZC:∀y∈l,y∈ids G.D:=fun y hy=>((hc.mem W H).1 hy).mem.1;refine aZ.of ?_;unfold aZ.W;intro w4 w5 w6 w7 w8;have k4:Kept Nil w w4:=(Kept.refl _ _).alloc _;have Rv:w4.heap[w.heap.size]? =some (.cells #[.pointer (some ⟨c,0,none⟩)] gQ (0,0)):=aH w _;have k5:Kept Nil w4 w5:=(Kept.refl _ _).alloc _;have G3:w5.heap[w4.heap.size]? =some (.cells a.1 aj (0,0)):=aH w4 _;have k6:Kept Nil w5 w6:=(Kept.refl _ _).alloc _;have p7:w6.heap[w5.heap.size]? =some (.cells b.1 aj (0,0)):=aH w5 _;have k7:Kept Nil w6 w7:=(Kept.refl _ _).alloc _;have Oj:w7.heap[w6.heap.size]? =some (.cells #[.int .i64 0] iO (0,0)):=aH w6 _;have k8:Kept Nil w7 w8:=(Kept.refl _ _).drew;clear_value w8;have Zw:=k8.heap Oj (fun h=>h);have Tg:=k8.heap (k7.heap p7 (fun h=>h)) (fun h=>h);have ha8:=k8.heap (k7.heap (k6.heap G3 (fun h=>h)) (fun h=>h)) (fun h=>h);have hc8:=k8.heap (k7.heap (k6.heap (k5.heap Rv (fun h=>h)) (fun h=>h)) (fun h=>h)) (fun h=>h);have wX:=(((k4.tt k5).tt k6).tt k7).tt k8;have s06:=(((k4.tt k5).tt k6)).size;have l7:=aO Oj;have l8:=aO Zw;clear_value w7 w6 w5 w4;refine⟨some ⟨c,0,none⟩,by rw [ay hc8];rfl,_,(h.same wX).c1,a.1,⟨a.2.1,Cells.bz ha8⟩,?_⟩;refine tj a fun iS pb qb mF Me Md Cp hqb=>⟨_,rfl,?_⟩;have s35:=mF.size;have II:=wX.tt mF;have I6:=mF.heap Zw (fun h=>h)
 let CF:Value:=.func (.func aX.id) #[] #[.pointer (some ⟨pb,0,none⟩),.pointer (some ⟨qb,0,none⟩)]
 let ρ0:Env:= [(3,.pointer (some ⟨w.heap.size,0,none⟩)),(5,.pointer (some ⟨w5.heap.size,0,none⟩)),(6,.pointer (some ⟨w6.heap.size,0,none⟩)),(15,CF)]
 let J:Nat->World->Prop:=fun j u=>Kept Nil iS u/\j<=l.length/\∀y∈l.take j,m.sz y b=none
 let Jd:Code->World->Prop:=fun e u=>e=.ret/\Kept (fun k=>k=w6.heap.size) iS u/\∃n:Nat,(l.findSome? fun y=>m.sz y b)=some n/\u.heap[w6.heap.size]? =some (.cells #[.int .i64 (n:Int)] iO (0,0))
 have k0J:∀ {u:World},Kept Nil iS u->Kept Nil w u:=fun k=>II.tt k;have kS:∀ {v:World},Kept (fun k=>k=w6.heap.size) iS v->Kept Nil w v:=fun k=>II.trans k (fun k hk e=>by omega);obtain⟨mx,X35,_⟩:=(h.same II).X
 change Holds none [] prog _ _ _ ρ0 iS
 refine nR (n:=33) (ρ:=ρ0) (ρ0:=ρ0) ng mix aZ.k (t:=15) (ps:= #[16]) (by kernel_rfl) (by decide) rfl aX.at_ rfl (.inl rfl) (fun i x hi hx=>hx) rfl rM l (fun _=>rfl) (fun q hq=>by
  have e49:q=16:=by simpa using hq
  subst e49;exact⟨by decide,by decide⟩) (Dm (F:=m.FX) (x:=m.x) (m:=mx) (pb:=pb) (qb:=qb) hc (by omega)) J Jd ?_ ?_ (fun j u hJ=>⟨X35.same hJ.1,hJ.1.heap Me (fun h=>h),hJ.1.heap Md (fun h=>h)⟩) ?_ ?_ ?_ ?_ ?_
 ·rintro j u1 u2 R rH ⟨h1,h2,h3⟩ ml
  exact⟨h1.trans ml (fun k hk e=>by omega),h2,h3⟩
 ·rintro e u1 u2 R rH ⟨h1,h2,n,h3,h4⟩ ml
  exact⟨h1,h2.trans ml (fun k hk e=>by omega),n,h3,ml.heap h4 (by omega)⟩
 ·intro R
  exact⟨(((Kept.refl _ _).alloc _).alloc _),Nat.zero_le _,by simp⟩
 ·rintro j z u1 R hz ⟨h1,h2,h3⟩ rH
  have e7:ln ρ0 ((#[16]:Array Nat).toList.zip (rM z))= [(3,.pointer (some ⟨w.heap.size,0,none⟩)),(5,.pointer (some ⟨w5.heap.size,0,none⟩)),(6,.pointer (some ⟨w6.heap.size,0,none⟩)),(15,CF),(16,.agg z.1)]:=rfl;rw [e7,aZ.a1];have rW:=(lgeS hz).1;unfold aZ.A1;intro Hl;obtain⟨sM,jg,jk⟩:=gP (w:=u1) (z:=dG.1) (cs:=z.1) (t:=aj) (by rw [z.2.1];rfl);refine⟨⟨z.2.1,z.2.one,fun j hj=>sM j (by rw [z.2.1];exact hj)⟩,?_⟩;intro Nj
  replace jg:Nj.heap[u1.heap.size]? =some (.cells z.1 aj (0,0)):=jg
  replace jk:Kept Nil u1 Nj:=jk
  clear_value Nj;have Jl:=rH.az jk (fun h=>h) (fun h=>h);refine⟨Jl,fun w2 R2 lg tM=>?_⟩;have mu:=lg.heap jg (kH jg Jl.loop);have vR:Kept Nil iS w2:=(h1.tt jk).trans lg (fun k hk e=>by omega);rw [aZ.y1];unfold aZ.Y1;intro TI;have k48:Kept Nil w2 TI:=(Kept.refl _ _).drew;clear_value TI;have WD:=tM.az k48 (fun h=>h) (fun h=>h);have zM:=vR.tt k48;have P4:=mF.tt zM;have h48:=h.same (wX.tt P4);obtain⟨A1,n1,c1,B1,m1,d1,s1,sa⟩:=h48.seen z (ZC z (List.mem_of_getElem? hz));refine⟨some ⟨c,0,none⟩,by rw [ay (P4.heap hc8 (fun h=>h))];rfl,_,h48.c2,z.1,⟨z.2.1,Cells.bz (k48.heap mu (fun h=>h))⟩,_,h48.ot (ZC z (List.mem_of_getElem? hz)),_,sa.c35,b.1,⟨b.2.1,Cells.bz (P4.heap Tg (fun h=>h))⟩,_,_,sa.sz.DH b,?_⟩;cases hzb:m.sz z b with
  |some n=>
   refine Split.yes rfl ⟨dJ (zM.heap I6 (fun h=>h)) (by simp),?_⟩;intro qo;have QP:qo.heap[w6.heap.size]? =some (.cells #[.int .i64 (n:Int)] iO (0,0)):=by
    show(TI.setCell ⟨w6.heap.size,0,none⟩ (.int .i64 (n:Int))).heap[w6.heap.size]? =_;rw [cV (zM.heap I6 (fun h=>h)) 0];rfl
   have FH:Kept (· =w6.heap.size) TI qo:=Kept.setCell (S:=fun k=>k=w6.heap.size) (Kept.refl _ TI) (p:=⟨w6.heap.size,0,none⟩) (fun _=>rfl) _;clear_value qo;exact⟨WD.az FH (fun e=>by omega) (fun e=>by omega),rfl,(zM.mono fun _ _ h=>h.elim).tt FH,n,tC hz h3 hzb,QP⟩
  |none=>
   refine Split.no rfl ⟨WD,zM,rW,fun y hy=>?_⟩;rcases(bJ hz).1 hy with hy|rfl
   ·exact h3 y hy
   ·exact hzb
 ·rintro u1 R ⟨h1,h2,h3⟩ rH
  rw [List.take_of_length_le (Nat.le_refl _)]at h3;have e7:hZ ρ0 iS.heap.size= [(3,.pointer (some ⟨w.heap.size,0,none⟩)),(5,.pointer (some ⟨w5.heap.size,0,none⟩)),(6,.pointer (some ⟨w6.heap.size,0,none⟩)),(15,CF),(4294967296,.agg (qz [iS.heap.size]))]:=rfl;rw [e7,aZ.jZ];unfold aZ.jf;have lf:=h1.heap I6 (fun h=>h);refine⟨dJ lf (by simp),?_⟩;intro qo;have QP:qo.heap[w6.heap.size]? =some (.cells #[.int .i64 0] iO (0,0)):=by
   show(u1.setCell ⟨w6.heap.size,0,none⟩ (.int .i64 0)).heap[w6.heap.size]? =_;rw [cV lf 0];rfl
  have FH:Kept (· =w6.heap.size) u1 qo:=Kept.setCell (S:=fun k=>k=w6.heap.size) (Kept.refl _ u1) (p:=⟨w6.heap.size,0,none⟩) (fun _=>rfl) _;clear_value qo;have rH:=rH.az FH (fun e=>by omega) (fun e=>by omega);rw [mW];have kt:=jM [iS.heap.size] qo;have hm:∀E∈ [iS.heap.size],qo.heap[E]? =some (.deferred (some [])):=fun E hE=>by
   rw [List.mem_singleton]at hE;subst hE;exact rH.mark
  refine⟨lW [iS.heap.size] qo (by simp) hm,0,by rw [ay (kt.heap QP (fun hE=>by rw [List.mem_singleton]at hE;omega))];rfl,?_⟩;have e0:mh m.sz l b=0:=by
   unfold mh;have:(l.findSome? fun h=>m.sz h b)=none:=List.findSome?_eq_none_iff.2 h3;rw [this];rfl
  have:=hK (gm [iS.heap.size] qo) ((kS ((h1.mono fun _ _ h=>h.elim).tt FH)).trans kt (fun k hk hE=>by rw [List.mem_singleton]at hE;have:=II.size;omega));rw [e0]at this;exact this
 ·rintro u1 R ⟨_,h2,n,h3,h4⟩ rH
  have e7:hZ ρ0 iS.heap.size= [(3,.pointer (some ⟨w.heap.size,0,none⟩)),(5,.pointer (some ⟨w5.heap.size,0,none⟩)),(6,.pointer (some ⟨w6.heap.size,0,none⟩)),(15,CF),(4294967296,.agg (qz [iS.heap.size]))]:=rfl;rw [e7,aZ.Bq];unfold aZ.vC;rw [mW];have kt:=jM [iS.heap.size] u1;have hm:∀E∈ [iS.heap.size],u1.heap[E]? =some (.deferred (some [])):=fun E hE=>by
   rw [List.mem_singleton]at hE;subst hE;exact rH.mark
  refine⟨lW [iS.heap.size] u1 (by simp) hm,(n:Int),by rw [ay (kt.heap h4 (fun hE=>by rw [List.mem_singleton]at hE;omega))];rfl,?_⟩;have e0:mh m.sz l b=n:=by unfold mh;rw [h3];rfl
  have:=hK (gm [iS.heap.size] u1) ((kS h2).trans kt (fun k hk hE=>by rw [List.mem_singleton]at hE;have:=II.size;omega));rw [e0]at this;exact this
 ·rintro id u1 R ⟨e,_⟩ rH
  cases e
end
section
variable{w:World}
theorem AK{x:HT}:∀ {l:List (HT×Value)},assoc x l≠none↔x∈l.map (·.1)
 | []=>by simp [assoc]
 |(y,v)::l=>by
  have:=AK (x:=x) (l:=l);unfold assoc;by_cases e:x=y
  ·subst e;simp
  ·rw [if_neg e,this]
   simp only [List.map_cons,List.mem_cons];exact⟨.inr,fun h=>h.resolve_left e⟩
theorem fp.len{mt te:TypeId}{z:Value}(T:wu mt te z){m:Nat}{f:HT->Option Value}(hm:fp w m f)(ty:TypeId){l:List HT}(hn:l.Nodup)(hl:∀x,f x≠none↔x∈l):
 (Builtin.len_ #[mt] ty #[.map (some m)]).run prog w=.ok (.int .i64 (l.length:Int)) w:=by
 obtain⟨es,clock,l',h1,h2,h3,_,_,h6⟩:=hm.ex;have e1:es.size=l'.length:=by have:=h2.len;simpa using this
 have e2:l'.length=l.length:=by
  have hp:(l'.map (·.1)).Perm l:=(List.perm_ext_iff_of_nodup h6 hn).2 fun x=>by rw [<-AK,h3,hl]
  simpa using hp.length_eq
 simp [Builtin.len_,run_underlying T.oD,ph h1,goInt,Result.andThen,e1,e2]
end
section
variable{w w':World}{F S:Nat->Prop}{c k:Nat}{G:GS}{m:CM}{K:Value->World->Prop}
structure VB(w:World)(c:Nat)(s:HT)(bs bc bh q sm:Nat)(ov:HT->Option Nat):Prop where
 hs:w.heap[bs]? =some (.cells #[.pointer (some ⟨q,0,none⟩)] fj (0,0))
 hc:w.heap[bc]? =some (.cells #[.pointer (some ⟨c,0,none⟩)] gQ (0,0))
 hh:w.heap[bh]? =some (.cells s.1 aj (0,0))
 sz:w.cell? ((⟨q,0,none⟩:Addr).add 35)=some (.map (some sm))
 ov:fp w sm (Lm ov)
theorem VB.az{S:Nat->Prop}{s:HT}{bs bc bh q sm:Nat}{ov:HT->Option Nat}(h:VB w c s bs bc bh q sm ov)(hk:Kept S w w')(h1:¬S bs)(h2:¬S bc)(h3:¬S bh)(h4:¬S q)(h5:¬S sm):VB w' c s bs bc bh q sm ov:=
 ⟨hk.heap h.hs h1,hk.heap h.hc h2,hk.heap h.hh h3,hk.cell h.sz h4,h.ov.az hk h5⟩
theorem VB.same{s:HT}{bs bc bh q sm:Nat}{ov:HT->Option Nat}(h:VB w c s bs bc bh q sm ov)(hk:Kept Nil w w'):VB w' c s bs bc bh q sm ov:=h.az hk (fun h=>h) (fun h=>h) (fun h=>h) (fun h=>h) (fun h=>h)
theorem An(h:CV w F c k G m)(hD:G.D.length<=5000){s b:HT}(hs:s∈ids G.D){l:List HT}(hc:dh G.D G.P s l){bs bc bh q sm:Nat}{ov:HT->Option Nat}(V:VB w c s bs bc bh q sm ov)
 (hK:∀w',Kept Nil w w'->K (.int .i64 ((rz ov (mh m.sz l) b:Nat):Int)) w'):
 bj prog bR.id #[.agg b.1,.pointer (some ⟨bs,0,none⟩),.pointer (some ⟨bc,0,none⟩),.pointer (some ⟨bh,0,none⟩)] w K:=by
 refine bR.of ?_;unfold bR.W;intro w4 w5;have k4:Kept Nil w w4:=(Kept.refl _ _).alloc _;have rX:w4.heap[w.heap.size]? =some (.cells b.1 aj (0,0)):=aH w _;have k5:Kept Nil w4 w5:=(Kept.refl _ _).drew;clear_value w5;have nY:=k5.heap rX (fun h=>h);have sH:=k4.tt k5;have V5:=V.same sH;refine⟨some ⟨q,0,none⟩,by rw [ay V5.hs];rfl,_,V5.sz,b.1,⟨b.2.1,Cells.bz nY⟩,?_⟩;have lk:=V5.ov.DH rk b;unfold Lm at lk;cases hb:ov b with
 |some n=>
  rw [hb]at lk;refine⟨(n:Int),true,lk,Split.yes rfl ?_⟩;have:=hK w5 sH;unfold rz at this;rw [hb]at this;exact this
 |none=>
  rw [hb]at lk;refine⟨0,false,lk,Split.no rfl ⟨some ⟨c,0,none⟩,by rw [ay V5.hc];rfl,s.1,⟨s.2.1,Cells.bz V5.hh⟩,b.1,⟨b.2.1,Cells.bz nY⟩,?_⟩⟩;refine CC (h.same sH) hD hs hc fun w7 k7=>⟨_,rfl,?_⟩;have:=hK w7 (sH.tt k7);unfold rz at this;rw [hb]at this;exact this
def yD(w:World)(fm:Nat)(kn:HT->Nat)(done:List HT):Prop:=fp w fm fun y=>if y∈done then some (.int .i64 (kn y:Int))else none
theorem Ak(h:CV w F c k G m)(hD:G.D.length<=5000)(nW:k<=1000){s b:HT}(hs:s∈ids G.D){l:List HT}(hc:dh G.D G.P s l){bs bc bh q sm kb fb fm:Nat}{ov:HT->Option Nat}(V:VB w c s bs bc bh q sm ov)
 (OD:w.heap[kb]? =some (.cells #[.func (.func bR.id) #[] #[.pointer (some ⟨bs,0,none⟩),.pointer (some ⟨bc,0,none⟩),.pointer (some ⟨bh,0,none⟩)]] fu (0,0)))
 (Td:w.heap[fb]? =some (.cells #[.map (some fm)] cr (0,0))) {done:List HT} (hn:done.Nodup) (ZP:b∉done) (hF:yD w fm (rz ov (mh m.sz l)) done) (hfo:¬m.own c fm) (hff:¬F fm) (fD:bc≠fm)
 (hK:∀w' (r:Bool),r=rh k (rz ov (mh m.sz l)) done b->yD w' fm (rz ov (mh m.sz l)) (done++ [b])->Kept (· =fm) w w'->K (.bool r) w'):
 bj prog ck.id #[.agg b.1,.pointer (some ⟨kb,0,none⟩),.pointer (some ⟨fb,0,none⟩),.pointer (some ⟨bc,0,none⟩)] w K:=by
 have lfm:=hF.lt;refine ck.of ?_;unfold ck.W;intro w4 w5;have k4:Kept Nil w w4:=(Kept.refl _ _).alloc _;have rX:w4.heap[w.heap.size]? =some (.cells b.1 aj (0,0)):=aH w _;have k5:Kept Nil w4 w5:=(Kept.refl _ _).drew;clear_value w5;have nY:=k5.heap rX (fun h=>h);have sH:=k4.tt k5;have hnf:fb≠fm:=fun e=>by subst e;obtain⟨es,cl,_,h1,_⟩:=hF.ex;rw [Td]at h1;cases h1
 refine⟨some fm,by rw [ay (sH.heap Td (fun h=>h))];rfl,b.1,⟨b.2.1,Cells.bz nY⟩,_,by rw [ay (sH.heap OD (fun h=>h))];rfl,b.1,⟨b.2.1,Cells.bz nY⟩,?_⟩;refine⟨_,_,_,_,rfl,bR.at_,rfl,?_⟩;refine An (h.same sH) hD hs hc (V.same sH) fun w7 k7=>⟨_,rfl,⟨b.1,rfl,b.2.1,Cells.bz (k7.heap nY (fun h=>h))⟩,?_,?_⟩
 ·rw [ay ((sH.tt k7).heap Td (fun h=>h))];rfl
 have sG:=sH.tt k7;obtain⟨w8,Zw,ZA,k8⟩:=(hF.same sG).put rk b (.int .i64 ((rz ov (mh m.sz l) b:Nat):Int));refine⟨w8,Zw,?_⟩;intro w9;have k9:Kept Nil w8 w9:=(Kept.refl _ _).drew;clear_value w9;have k89:Kept (· =fm) w7 w9:=k8.trans k9 (fun _ _ h=>h.elim);have FO:Kept (· =fm) w w9:=(sG.mono fun _ _ h=>h.elim).tt k89;have O0:yD w9 fm (rz ov (mh m.sz l)) (done++ [b]):=by
  refine fp.same ?_ k9;have e:(fun y=>if y∈done++ [b]then some (Value.int .i64 ((rz ov (mh m.sz l) y:Nat):Int))else none)=fun x=>if x=b then some (.int .i64 ((rz ov (mh m.sz l) b:Nat):Int))else if x∈done then some (.int .i64 ((rz ov (mh m.sz l) x:Nat):Int))else none:=by
   funext y
   by_cases e:y=b
   ·subst e;rw [if_pos (by simp),if_pos rfl]
   ·rw [if_neg e]
    by_cases hy:y∈done
    ·rw [if_pos (List.mem_append_left _ hy),if_pos hy]
    ·rw [if_neg (by simp [hy,e]),if_neg hy]
  rw [e];exact ZA
 have hb9:w9.heap[w.heap.size]? =some (.cells b.1 aj (0,0)):=((k7.mono fun _ _ h=>h.elim).tt k89:Kept (· =fm) w5 w9).heap nY (by omega);have W6:=FO.heap Td hnf;have dW:(done++ [b]).Nodup:=List.nodup_append.2 ⟨hn,by simp,fun x hx y hy e=>by
  have:y=b:=by simpa using hy
  subst this;subst e;exact ZP hx⟩
 have h9:CV w9 F c k G m:=h.az FO (fun j hj e=>by subst e;exact hfo hj) (fun j hj e=>by subst e;exact hff hj);have hc9:w9.heap[bc]? =some (.cells #[.pointer (some ⟨c,0,none⟩)] gQ (0,0)):=FO.heap V.hc fD;refine⟨some fm,by rw [ay W6];rfl,(done++ [b]).length,O0.len rk iO dW (fun x=>by
  by_cases hx:x∈done++ [b]
  ·rw [if_pos hx];exact⟨fun _=>hx,fun _ e=>by cases e⟩
  ·rw [if_neg hx];exact⟨fun e=>absurd rfl e,fun e=>absurd e hx⟩),some ⟨c,0,none⟩,by rw [ay hc9];rfl,(k:Int),h9.c0,?_⟩
 refine Split.dec (fun h1=>?_) (fun h1=>?_)
 ·have lk:=fp.look rk O0 b
  rw [if_pos (by simp)]at lk;refine⟨some fm,by rw [ay W6];rfl,b.1,⟨b.2.1,Cells.bz hb9⟩,_,lk,some ⟨c,0,none⟩,by rw [ay hc9];rfl,(k:Int),h9.c0,?_⟩;refine hK w9 _ ?_ O0 FO;unfold rh;rw [List.length_append,List.length_cons,List.length_nil]at h1;refine decide_eq_decide.2 ⟨fun h2=>⟨by omega,by omega⟩,fun h2=>by omega⟩
 ·refine hK w9 false ?_ O0 FO
  unfold rh;rw [List.length_append,List.length_cons,List.length_nil]at h1;exact(decide_eq_false (by omega)).symm
end
structure PN where
 bs:Nat
 bc:Nat
 bh:Nat
 q:Nat
 sm:Nat
 kb:Nat
 fb:Nat
 fm:Nat
 yb:Nat
 hb:Nat
def PN.CF(p:PN):Value:=.func (.func ck.id) #[] #[.pointer (some ⟨p.kb,0,none⟩),.pointer (some ⟨p.fb,0,none⟩),.pointer (some ⟨p.bc,0,none⟩)]
def PN.hU(p:PN)(j:Nat):Prop:=p.bs≠j/\p.bc≠j/\p.bh≠j/\p.q≠j/\p.sm≠j/\p.kb≠j/\p.fb≠j
structure PG(w:World)(F:Nat->Prop)(c k:Nat)(G:GS)(m:CM)(s h:HT)(p:PN)(ov:HT->Option Nat):Prop where
 C:CV w F c k G m
 V:VB w c s p.bs p.bc p.bh p.q p.sm ov
 kb:w.heap[p.kb]? =some (.cells #[.func (.func bR.id) #[] #[.pointer (some ⟨p.bs,0,none⟩),.pointer (some ⟨p.bc,0,none⟩),.pointer (some ⟨p.bh,0,none⟩)]] fu (0,0))
 fb:w.heap[p.fb]? =some (.cells #[.map (some p.fm)] cr (0,0))
 yb:w.cell? ⟨p.yb,0,none⟩=some p.CF
 hb:w.heap[p.hb]? =some (.cells h.1 aj (0,0))
 fo:¬m.own c p.fm
 ff:¬F p.fm
 hU:p.hU p.fm
 y:p.yb≠p.fm
 h:p.hb≠p.fm
section
variable{w w' u:World}{F:Nat->Prop}{c k:Nat}{G:GS}{m:CM}{s h:HT}{p:PN}{ov:HT->Option Nat}{K:Value->World->Prop}
theorem PG.az(B:PG w F c k G m s h p ov)(hk:Kept (· =p.fm) w w'):PG w' F c k G m s h p ov:=by
 obtain⟨f1,f2,f3,f4,f5,f6,f7⟩:=B.hU;exact⟨B.C.az hk (fun j hj e=>by subst e;exact B.fo hj) (fun j hj e=>by subst e;exact B.ff hj),B.V.az hk f1 f2 f3 f4 f5,hk.heap B.kb f6,hk.heap B.fb f7,hk.cell B.yb B.y,hk.heap B.hb B.h,B.fo,B.ff,B.hU,B.y,B.h⟩
theorem PG.same(B:PG w F c k G m s h p ov)(hk:Kept Nil w w'):PG w' F c k G m s h p ov:=B.az (hk.mono fun _ _ h=>h.elim)
theorem sx(B:PG w F c k G m s h p ov)(hD:G.D.length<=5000)(nW:k<=1000)(hs:s∈ids G.D){l:List HT}(hc:dh G.D G.P s l){done:List HT}(hF:yD w p.fm (rz ov (mh m.sz l)) done){b:HT}{zb:Nat}
 (hz:w.heap[zb]? =some (.cells b.1 aj (0,0))) (hzf:zb≠p.fm) (hn:nH G.D b h->(done++ [b]).Nodup) {A T:World->Prop}
 (hA:∀u,nH G.D b h->rh k (rz ov (mh m.sz l)) done b=false->Kept (· =p.fm) w u->A u)
 (hT:∀u xl,xl=done++(if nH G.D b h then [b]else [])->(nH G.D b h->rh k (rz ov (mh m.sz l)) done b=true)->yD u p.fm (rz ov (mh m.sz l)) xl->Kept (· =p.fm) w u->T u):
 bj prog c9.id #[.pointer (some ⟨c,0,none⟩),.agg b.1,.agg h.1] w fun x y=>∃z:Bool,x=.bool z/\Split z (∃a1:Value,y.cell? ⟨p.yb,0,none⟩=some a1/\∃b1:Array Value,(b1.size=32/\Cells y ⟨zb,0,none⟩ b1)/\
  ∃(c1:Nat) (d1 e1:Array Value) (f1:Func),(a1:Value)=.func (.func c1) d1 e1/\prog.funcs[c1]? =some f1/\f1.body.isSome=true/\
   bj prog c1 (d1.toList++([.agg b1]:List Value)++e1.toList).toArray y fun g1 i1=>∃j1:Bool,g1=.bool j1/\Split (!j1) (A i1) (T i1)) (T y):=by
 refine Ao B.C hD b h fun y r hr ky=>⟨r,rfl,?_⟩;have kyf:Kept (· =p.fm) w y:=ky.mono fun _ _ h=>h.elim;have By:=B.same ky;cases r with
 |false=>
  have Mj:¬nH G.D b h:=fun e=>by have:=hr.2 e;cases this
  exact Split.no rfl (hT y done (by rw [if_neg Mj,List.append_nil]) (fun e=>absurd e Mj) (hF.same ky) kyf)
 |true=>
  have ha:=hr.1 rfl;have dW:=hn ha;rw [List.nodup_append]at dW;refine Split.yes rfl ⟨_,By.yb,b.1,⟨b.2.1,Cells.bz (ky.heap hz (fun h=>h))⟩,_,_,_,_,rfl,ck.at_,rfl,?_⟩;refine Ak By.C hD nW hs hc By.V By.kb By.fb dW.1 (fun e=>dW.2.2 b e b (by simp) rfl) (hF.same ky) B.fo B.ff B.hU.2.1 fun v r hr hv kv=>⟨r,rfl,?_⟩;have PV:Kept (· =p.fm) w v:=kyf.tt kv;cases r with
  |false=>exact Split.yes rfl (hA v ha hr.symm PV)
  |true=>exact Split.no rfl (hT v (done++ [b]) (by rw [if_pos ha]) (fun _=>hr.symm) hv PV)
end
structure PG0(w:World)(F:Nat->Prop)(c k:Nat)(G:GS)(m:CM)(s:HT)(p:PN)(ov:HT->Option Nat):Prop where
 C:CV w F c k G m
 V:VB w c s p.bs p.bc p.bh p.q p.sm ov
 kb:w.heap[p.kb]? =some (.cells #[.func (.func bR.id) #[] #[.pointer (some ⟨p.bs,0,none⟩),.pointer (some ⟨p.bc,0,none⟩),.pointer (some ⟨p.bh,0,none⟩)]] fu (0,0))
 fb:w.heap[p.fb]? =some (.cells #[.map (some p.fm)] cr (0,0))
 fo:¬m.own c p.fm
 ff:¬F p.fm
 hU:p.hU p.fm
theorem cQ:∀ {l m:List HT},l.Nodup->(∀x∈l,x∈m)->l.length<=m.length
 | [],_,_,_=>Nat.zero_le _
 |x::l,m,hn,hm=>by
  rw [List.nodup_cons]at hn;have hx:=hm x List.mem_cons_self;have:=cQ (m:=m.erase x) hn.2 fun y hy=>(List.mem_erase_of_ne (fun e=>hn.1 (by rw [<-e];exact hy))).2 (hm y (List.mem_cons_of_mem _ hy));rw [List.length_erase_of_mem hx]at this;have h0:=List.length_pos_of_mem hx;rw [List.length_cons];omega
theorem HS.get_mem{w:World}{A:Option Addr}{n:Nat}{l:List HT}(hl:HS w A n l){i:Nat}(hi:i<n):∃y,l[i]? =some y:=⟨_,List.getElem?_eq_getElem (by have:=hl.len;omega)⟩
theorem zn{D:DG}{l:List HT}{h x:HT}{i:Nat}(hx:l[i]? =some x):bO D (l.take (i+1)) h=bO D (l.take i) h++if nH D x h then [x]else []:=by
 have e:l.take (i+1)=l.take i++ [x]:=by rw [List.take_add_one,hx];rfl
 rw [e,fM]
 congr 1
 unfold bO;by_cases hp:nH D x h
 ·rw [if_pos hp,List.filter_cons_of_pos (by simpa using hp)];rfl
 ·rw [if_neg hp,List.filter_cons_of_neg (by simpa using hp)];rfl
theorem CW{m:List HT}{b:List Bool}{x:HT}{y:Bool}{i:Nat}(hx:m[i]? =some x)(hy:b[i]? =some y):dU (m.drop i) (b.drop i)=(if y then [x]else [])++dU (m.drop (i+1)) (b.drop (i+1)):=by
 obtain⟨hi,ex⟩:=lgeS hx;obtain⟨hj,ey⟩:=lgeS hy;rw [List.drop_eq_getElem_cons hi,List.drop_eq_getElem_cons hj,ex,ey];cases y<;>rfl
theorem dt(c:oC)(A:Option Addr)(n cp:Nat)(B:Option Addr)(m cq:Nat):∀v∈(cF c A n cp B m cq).toList,v.oneCell'=true:=by
 intro v hv;unfold cF at hv;rw [Array.toList_append,List.mem_append]at hv;rcases hv with hv|hv
 ·exact c.jX.2.one v hv
 ·simp only [List.mem_cons,List.not_mem_nil,or_false]at hv
  rcases hv with rfl|rfl|rfl<;>rfl
section
variable{w w':World}{F:Nat->Prop}{c k:Nat}{G:GS}{m:CM}{s:HT}{p:PN}{ov:HT->Option Nat}{K:Value->World->Prop}
theorem CZ{kn:HT->Nat}{done rest jT:List HT}{b:HT}(e:done++b::rest=jT)(h:rh k kn done b=false):fi k kn [] jT=false:=by
 rw [<-e,l9,List.nil_append,fi,h,Bool.false_and,Bool.and_false]
theorem yy{kn:HT->Nat}{done:List HT}{b:HT}(h:fi k kn [] done=true)(hb:rh k kn done b=true):fi k kn [] (done++ [b])=true:=by
 rw [l9,h,List.nil_append,fi,hb,Bool.true_and,Bool.true_and];rfl
theorem Al(B:PG0 w F c k G m s p ov)(hD:G.D.length<=5000)(nW:k<=1000)(hs:s∈ids G.D){l:List HT}(hc:dh G.D G.P s l){h:HT}{bb:Nat}{A:Option Addr}{n cx:Nat}{bl:List HT}
 (vZ:w.heap[bb]? =some (.cells #[.slice A n cx] aA (0,0))) (ZQ:bb≠p.fm) (Ai:HS w A n bl) (hAf:∀a,A=some a->a.block≠p.fm) (hn:n<=10000) (hF:yD w p.fm (rz ov (mh m.sz l)) []) (xh:(oz G h bl l).Nodup)
 (hK:∀w' (r:Bool),r=fi k (rz ov (mh m.sz l)) [] (oz G h bl l)->(r=true->yD w' p.fm (rz ov (mh m.sz l)) (oz G h bl l))->Kept (· =p.fm) w w'->K (.bool r) w'):
 bj prog ag.id #[.agg h.1,p.CF,.pointer (some ⟨bb,0,none⟩),.pointer (some ⟨p.bc,0,none⟩),.pointer (some ⟨p.bh,0,none⟩)] w K:=by
 have W:=B.C.fG.W;have H:=B.C.fG.jX;have ZC:∀y∈l,y∈ids G.D:=fun y hy=>((hc.mem W H).1 hy).mem.1;have hlen:=Ai.len;have lfm:=hF.lt;refine ag.of ?_;unfold ag.W;intro w4 w5 w6;have k4:Kept Nil w w4:=(Kept.refl _ _).alloc _;have hh4:w4.heap[w.heap.size]? =some (.cells h.1 aj (0,0)):=aH w _;have k5:Kept Nil w4 w5:=(Kept.refl _ _).alloc _;obtain⟨ty,hy5⟩:∃ty:TypeId,w5.heap[w4.heap.size]? =some (.cells #[p.CF] ty (0,0)):=⟨_,aH w4 _⟩;have k6:Kept Nil w5 w6:=(Kept.refl _ _).alloc _;have S5:w6.heap[w5.heap.size]? =some (.cells #[.bool false] gh (0,0)):=aH w5 _;clear_value w6;have hy6:=k6.heap hy5 (fun h=>h);have hh6:=k6.heap (k5.heap hh4 (fun h=>h)) (fun h=>h);have nK:=(k4.tt k5).tt k6;have s4:=k4.size;have s5:=k5.size;have s6:=k6.size;have l4:=aO hh4;have l5:=aO hy5;have l6:=aO S5;clear_value w5 w4;obtain⟨p',Mg,v7,F8,ad2,ad0⟩:∃p':PN,p'= {p with yb:=w4.heap.size,hb:=w.heap.size}/\p'.CF=p.CF/\p'.fm=p.fm/\p'.bc=p.bc/\p'.bh=p.bh:=⟨_,rfl,rfl,rfl,rfl,rfl⟩;have eyb:p'.yb=w4.heap.size:=by rw [Mg]
 have Z7:p'.hb=w.heap.size:=by rw [Mg]
 have B6:PG w6 F c k G m s h p' ov:=by
  rw [Mg];exact⟨B.C.same nK,B.V.same nK,nK.heap B.kb (fun h=>h),nK.heap B.fb (fun h=>h),by show w6.cell? ⟨w4.heap.size,0,none⟩=_;rw [ay hy6];rfl,hh6,B.fo,B.ff,B.hU,(by show w4.heap.size≠p.fm;omega),(by show w.heap.size≠p.fm;omega)⟩
 generalize vX:rz ov (mh m.sz l)=kn at*;have hF6:yD w6 p'.fm kn []:=by rw [F8];exact hF.same nK
 generalize jv:oz G h bl l=jT at*;have qI:bO G.D bl h++yJ G h l=jT:=jv;rw [<-F8]at ZQ hAf lfm;have hK':∀w' (r:Bool),r=fi k kn [] jT->(r=true->yD w' p'.fm kn jT)->Kept (· =p'.fm) w w'->K (.bool r) w':=by rw [F8];exact hK
 have kA:∀ {v:World},Kept (· =p'.fm) w6 v->Kept (· =p'.fm) w v:=fun k=>(nK.mono fun _ _ h=>h.elim).tt k;have fin:∀ {v:World} (r:Bool),Kept (· =p'.fm) w6 v->∃u:World,u=v.setCell ⟨w5.heap.size,0,none⟩ (.bool r)/\Wr v ⟨w5.heap.size,0,none⟩/\u.heap[w5.heap.size]? =some (.cells #[.bool r] gh (0,0))/\Kept (· =w5.heap.size) v u:=fun {v} r kv=>by
  have hr:=kv.heap S5 (by omega);refine⟨_,rfl,dJ hr (by simp),?_,Kept.setCell (S:=fun k=>k=w5.heap.size) (Kept.refl _ v) (p:=⟨w5.heap.size,0,none⟩) (fun _=>rfl) _⟩;rw [cV hr 0];rfl
 have abm:∀ {v u:World},Kept (· =p'.fm) w6 v->Kept (· =w5.heap.size) v u->Kept (· =p'.fm) w u:=fun kv ku=>⟨ku.os.trans (kA kv).os,ku.tape.trans (kA kv).tape,ku.output.trans (kA kv).output,Nat.le_trans (kA kv).size ku.size,fun j hj hn=>by rw [ku.block j (Nat.lt_of_lt_of_le hj (kA kv).size) (by omega),(kA kv).block j hj hn]⟩;refine⟨A,n,cx,by rw [ay (nK.heap vZ (fun h=>h))];rfl,?_⟩;rw [<-ad2,<-ad0];refine ag.b6 (I:=fun s0 v=>∃i:Nat,s0=(i:Int)/\i<=n/\yD v p'.fm kn (bO G.D (bl.take i) h)/\fi k kn [] (bO G.D (bl.take i) h)=true/\Kept (· =p'.fm) w6 v) (μ:=fun s0 _=>((n:Int)-s0).toNat) (s:=0) ⟨0,rfl,Nat.zero_le _,hF6,rfl,Kept.refl _ _⟩ ?_;rintro s0 v ⟨i,rfl,hi,hFv,cZ,kv⟩;have Bv:=B6.az kv;refine Split.dec (fun jc=>?_) (fun gq=>?_)
 ·have dQ:i<n:=by omega
  obtain⟨b,hb⟩:=Ai.get_mem dQ;have adY:HS v A n bl:=Ai.az (kA kv) hAf;refine adY.load (i:=(i:Int)) (by omega) hb ?_;intro lh;obtain⟨sM,jg,jk⟩:=gP (w:=v) (z:=dG.1) (cs:=b.1) (t:=aj) (by rw [b.2.1];rfl);refine⟨⟨b.2.1,b.2.one,fun j hj=>sM j (by rw [b.2.1];exact hj)⟩,?_⟩;intro jx
  replace jg:jx.heap[v.heap.size]? =some (.cells b.1 aj (0,0)):=jg
  replace jk:Kept Nil v jx:=jk
  clear_value jx;have sv:=(kA kv).size;have Sm:=Bv.same jk;have e1:=zn (D:=G.D) (h:=h) hb;have e2:∃rest,bO G.D (bl.take i) h++(if nH G.D b h then [b]else [])++rest=jT:=by
   refine⟨bO G.D (bl.drop (i+1)) h++yJ G h l,?_⟩;rw [<-e1,<-qI,<-List.append_assoc,<-fM,List.take_append_drop]
  obtain⟨rest,e2⟩:=e2;refine⟨some ⟨c,0,none⟩,by rw [ay Sm.V.hc];rfl,b.1,⟨b.2.1,Cells.bz jg⟩,h.1,⟨h.2.1,by have:=Sm.hb;rw [Z7]at this;exact Cells.bz this⟩,?_⟩;rw [<-eyb];refine sx Sm hD nW hs hc (done:=bO G.D (bl.take i) h) (by rw [vX];exact hFv.same jk) jg (by omega) (fun ha=>by
   rw [if_pos ha]at e2;rw [<-e2]at xh;exact(List.nodup_append.1 xh).1) ?_ ?_
  ·intro u ha hp ku
   rw [vX]at hp;have Ly:Kept (· =p'.fm) w6 u:=(kv.trans jk (fun _ _ h=>h.elim)).tt ku;obtain⟨u',eu,hw,Vx,kuu⟩:=fin false Ly;refine⟨hw,?_⟩;intro Ss;have e30:Ss=u':=eu.symm;rw [iz,ag.Pf,e30];rw [if_pos ha,List.append_assoc]at e2;exact⟨false,by rw [ay Vx];rfl,hK' u' false (CZ e2 hp).symm (fun e=>by cases e) (abm Ly kuu)⟩
  ·intro u xl ed hp OZ ku
   rw [vX]at hp OZ;have Ly:Kept (· =p'.fm) w6 u:=(kv.trans jk (fun _ _ h=>h.elim)).tt ku;rw [dw (n:=(i:Int)) (by omega) (by omega)];refine⟨(i:Int)+1,rfl,⟨i+1,rfl,dQ,?_,?_,Ly⟩,by simp only;omega⟩
   ·rw [e1,<-ed];exact OZ
   ·rw [e1]
    by_cases ha:nH G.D b h
    ·rw [if_pos ha];exact yy cZ (hp ha)
    ·rw [if_neg ha,List.append_nil];exact cZ
 ·rw [aP,ag.cX]
  rw [List.take_of_length_le (by omega)]at cZ hFv;unfold ag.cI;intro nJ;have wT:Kept Nil v nJ:=(Kept.refl _ _).drew;clear_value nJ;have B33:=Bv.same wT;refine⟨some ⟨c,0,none⟩,by rw [ay B33.V.hc];rfl,_,B33.C.c1,s.1,⟨s.2.1,Cells.bz B33.V.hh⟩,?_⟩;refine tj s fun iS pb qb mF Me Md Cp hqb=>⟨_,rfl,?_⟩;have PY:Kept Nil v iS:=wT.tt mF;have LI:Kept (· =p'.fm) w6 iS:=kv.trans PY (fun _ _ h=>h.elim);have B35:=Bv.same PY;have aiL:=LI.size;have aeD:yD iS p'.fm kn (bO G.D bl h):=hFv.same PY
  let CF:Value:=.func (.func aX.id) #[] #[.pointer (some ⟨pb,0,none⟩),.pointer (some ⟨qb,0,none⟩)]
  let ρ0:Env:= [(3,.pointer (some ⟨p'.bc,0,none⟩)),(5,.pointer (some ⟨w.heap.size,0,none⟩)),(6,.pointer (some ⟨w4.heap.size,0,none⟩)),(7,.pointer (some ⟨w5.heap.size,0,none⟩)),(36,CF)]
  let J:Nat->World->Prop:=fun j u=>∃done:List HT,done++yJ G h (l.drop j)=jT/\yD u p'.fm kn done/\fi k kn [] done=true/\Kept (· =p'.fm) iS u/\j<=l.length
  let Jd:Code->World->Prop:=fun e u=>e=.ret/\∃r:Bool,u.heap[w5.heap.size]? =some (.cells #[.bool r] gh (0,0))/\r=fi k kn [] jT/\(r=true->yD u p'.fm kn jT)/\Kept (fun j=>j=p'.fm\/j=w5.heap.size) iS u
  have lpb:=aO Me;have lqb:=aO Md;have aiI:=wT.size;have svw:=(kA kv).size;obtain⟨mx,X35,SU⟩:=B35.C.X;have XJ:∀ {u:World},Kept (· =p'.fm) iS u->XV u m.FX m.x G.D G.P mx:=fun k=>X35.az k (fun j hj e=>by subst e;rw [F8]at hj;exact B.fo (.inl (SU _ hj))) (fun j hj e=>by subst e;rw [F8]at hj;exact B.ff (B.C.fx _ hj))
  change Holds none [] prog _ _ _ ρ0 iS
  have out:∀ {u:World} {R:Loop} (r:Bool),Kept (· =p'.fm) iS u->Live (iS.heap.size+1) iS.heap.size R u->r=fi k kn [] jT->(r=true->yD u p'.fm kn jT)->Wr u ⟨w5.heap.size,0,none⟩/\∀u',u'=u.setCell ⟨w5.heap.size,0,none⟩ (.bool r)->Live (iS.heap.size+1) iS.heap.size R u'/\Jd .ret u':=fun {u R} r ku hl hr hf=>by
   obtain⟨u0,e0,t1,t2,t3⟩:=fin r (LI.tt ku);refine⟨t1,fun u' eu=>?_⟩;rw [eu,<-e0];refine⟨hl.az t3 (by omega) (by omega),rfl,r,t2,hr,fun e=>(hf e).az t3 (by omega),(ku.mono fun _ _ h=>.inl h).trans t3 (fun _ _ h=>.inr h)⟩
  refine nR (n:=90) (ρ:=ρ0) (ρ0:=ρ0) ng mix ag.k (t:=36) (ps:= #[37]) (by kernel_rfl) (by decide) rfl aX.at_ rfl (.inl rfl) (fun i x hi hx=>hx) rfl rM l (fun _=>rfl) (fun q hq=>by
   have e49:q=37:=by simpa using hq
   subst e49;exact⟨by decide,by decide⟩) (Dm (F:=m.FX) (x:=m.x) (m:=mx) (pb:=pb) (qb:=qb) hc (by omega)) J Jd ?_ ?_ (fun j u ⟨done,_,_,_,kJ,_⟩=>⟨XJ kJ,kJ.heap Me (by omega),kJ.heap Md (by omega)⟩) ?_ ?_ ?_ ?_ ?_
  ·rintro j u1 u2 R rH ⟨done,h1,h2,h3,h4,h5⟩ ml
   exact⟨done,h1,h2.az ml (by omega),h3,h4.trans ml (fun k hk e=>by omega),h5⟩
  ·rintro e u1 u2 R rH ⟨h1,r,h2,h3,h4,h5⟩ ml
   exact⟨h1,r,ml.heap h2 (by omega),h3,fun e=>(h4 e).az ml (by omega),h5.trans ml (fun k hk e=>by omega)⟩
  ·intro R
   have ka:Kept Nil iS ((iS.alloc (.deferred (some []))).alloc (.loop R)):=(((Kept.refl _ _).alloc _).alloc _);exact⟨bO G.D bl h,qI,aeD.same ka,cZ,ka.mono fun _ _ h=>h.elim,Nat.zero_le _⟩
  ·rintro j z u1 R hz ⟨done,h1,h2,h3,h4,h5⟩ rH
   have e7:ln ρ0 ((#[37]:Array Nat).toList.zip (rM z))= [(3,.pointer (some ⟨p'.bc,0,none⟩)),(5,.pointer (some ⟨w.heap.size,0,none⟩)),(6,.pointer (some ⟨w4.heap.size,0,none⟩)),(7,.pointer (some ⟨w5.heap.size,0,none⟩)),(36,CF),(37,.agg z.1)]:=rfl;rw [e7,ag.a1];have rW:=(lgeS hz).1;have Qv:=ZC z (List.mem_of_getElem? hz);have Yv:l.drop j=z::l.drop (j+1):=by
    obtain⟨hi,e⟩:=lgeS hz;rw [List.drop_eq_getElem_cons hi,e]
   rw [Yv,yJ]at h1;unfold ag.A1;intro Hl;obtain⟨sM,jg,jk⟩:=gP (w:=u1) (z:=dG.1) (cs:=z.1) (t:=aj) (by rw [z.2.1];rfl);refine⟨⟨z.2.1,z.2.one,fun j hj=>sM j (by rw [z.2.1];exact hj)⟩,?_⟩;intro Nj
   replace jg:Nj.heap[u1.heap.size]? =some (.cells z.1 aj (0,0)):=jg
   replace jk:Kept Nil u1 Nj:=jk
   clear_value Nj;have Jl:=rH.az jk (fun h=>h) (fun h=>h);refine⟨Jl,fun w2 R2 lg tM=>?_⟩;have mu:=lg.heap jg (kH jg Jl.loop);have aiN:=h4.size;have vR:Kept (· =p'.fm) iS w2:=(h4.trans jk (fun _ _ h=>h.elim)).trans lg (fun k hk e=>by omega);have RS:yD w2 p'.fm kn done:=(h2.same jk).az lg (by omega);have B2:=B35.az vR;rw [ag.y1];unfold ag.Y1;have e2:∃rest,done++(if nH G.D z h then [z]else [])++rest=jT:=⟨_,(List.append_assoc _ _ _).trans h1⟩;obtain⟨rest,e2⟩:=e2;refine⟨some ⟨c,0,none⟩,by rw [ay B2.V.hc];rfl,z.1,⟨z.2.1,Cells.bz mu⟩,h.1,⟨h.2.1,by have:=B2.hb;rw [Z7]at this;exact Cells.bz this⟩,?_⟩;rw [<-eyb];refine sx B2 hD nW hs hc (done:=done) (by rw [vX];exact RS) mu (by omega) (fun ha=>by
    rw [if_pos ha]at e2;rw [<-e2]at xh;exact(List.nodup_append.1 xh).1) ?_ ?_
   ·intro u ha hp ku
    rw [vX]at hp;rw [if_pos ha,List.append_assoc]at e2;obtain⟨o1,o2⟩:=out (u:=u) false (vR.tt ku) (tM.az ku (by omega) (by omega)) (CZ e2 hp).symm (fun e=>by cases e);refine⟨o1,?_⟩;intro w60;exact o2 w60 rfl
   ·intro u xl ed hp OZ ku
    rw [vX]at hp OZ;have aby:=vR.tt ku;have hlu:=tM.az ku (by omega) (by omega);have OW:fi k kn [] xl=true:=by
     rw [ed];by_cases ha:nH G.D z h
     ·rw [if_pos ha];exact yy h3 (hp ha)
     ·rw [if_neg ha,List.append_nil];exact h3
    rw [<-List.append_assoc,<-ed]at h1;intro w61;have k61:Kept Nil u w61:=(Kept.refl _ _).drew;clear_value w61;have P8:Kept (· =p'.fm) w2 w61:=ku.trans k61 (fun _ _ h=>h.elim);have B61:=B2.az P8;have abH:=P8.heap mu (by omega);obtain⟨mx1,X61,_⟩:=B61.C.X;refine⟨some ⟨c,0,none⟩,by rw [ay B61.V.hc];rfl,_,B61.C.c1,z.1,⟨z.2.1,Cells.bz abH⟩,h.1,⟨h.2.1,by have:=B61.hb;rw [Z7]at this;exact Cells.bz this⟩,?_⟩;refine lD X61 hD z h fun GL r hr FF=>⟨r,rfl,?_⟩;have LC:Kept Nil u GL:=k61.tt FF;have Wv:=hlu.az LC (fun h=>h) (fun h=>h);have UP:=aby.trans LC (fun _ _ h=>h.elim);have aeB:=OZ.same LC;cases r with
    |true=>
     have Cy:=hr.1 rfl;rw [if_pos Cy,List.append_nil]at h1;obtain⟨o1,o2⟩:=out (u:=GL) true UP Wv (by rw [<-h1,OW]) (fun _=>by rw [<-h1];exact aeB);refine Split.yes rfl ⟨o1,?_⟩;intro Pm;exact o2 Pm rfl
    |false=>
     have Wf:¬fC G.D z h:=fun e=>by have:=hr.2 e;cases this
     rw [if_neg Wf]at h1;refine Split.no rfl ?_;intro Hg;have NH:Kept Nil GL Hg:=(Kept.refl _ _).drew;clear_value Hg;have LR:Kept (· =p'.fm) w2 Hg:=P8.trans (FF.tt NH) (fun _ _ h=>h.elim);have YY:=B2.az LR;have U9:=LR.heap mu (by omega);obtain⟨A1,n1,c1,B1,m1,d1,s1,sa⟩:=YY.C.seen z Qv;refine⟨some ⟨c,0,none⟩,by rw [ay YY.V.hc];rfl,_,YY.C.c2,z.1,⟨z.2.1,Cells.bz U9⟩,_,YY.C.ot Qv,_,⟨aS ..,sa.gR⟩,?_⟩;intro w73;have k73:Kept Nil Hg w73:=(Kept.refl _ _).alloc _;obtain⟨Qz,Ah,yg⟩:=gP (w:=Hg) (z:=zC) (cs:=cF (G.gR z) A1 n1 c1 B1 m1 d1) (t:=bg) (by rw [aS];rfl);have B73:=YY.same k73;refine⟨⟨_,rfl,aS ..,(sa.az k73 (fun _ _ h=>h)).gR⟩,B73.C.ot Qv,⟨z.1,rfl,z.2.1,Cells.bz (k73.heap U9 (fun h=>h))⟩,B73.C.c2,by rw [ay B73.V.hc];rfl,⟨aS ..,dt _ _ _ _ _ _ _,fun j hj=>Qz j (by rw [aS];exact hj)⟩,?_⟩;intro Sp
     replace Ah:Sp.heap[Hg.heap.size]? =some (.cells (cF (G.gR z) A1 n1 c1 B1 m1 d1) bg (0,0)):=Ah
     replace yg:Kept Nil Hg Sp:=yg
     clear_value Sp w73;have UD:Kept Nil u Sp:=LC.tt (NH.tt yg);have UT:Kept (· =p'.fm) w2 Sp:=LR.trans yg (fun _ _ h=>h.elim);have aiQ:=UT.size;have aiR:=LR.size;have s2:=vR.size;have alp:=hlu.az UD (fun h=>h) (fun h=>h);have aaK:=sa.az yg (fun _ _ h=>h);have ahg:=sa.mg.len;have Xr:=sa.bl.len;have hff:∀j,F j->j≠p'.fm:=fun j hj e=>by rw [F8]at e;subst e;exact B.ff hj
     have hcg:=eW (G.gR z) A1 n1 c1 B1 m1 d1 #[];rw [Array.append_empty]at hcg;refine⟨A1,n1,c1,by rw [a8,ay Ah];exact hcg.2.1,?_⟩;have ahk:(G.gR z).dR.length=(G.gR z).merge.length:=by
      rcases(dh.ex H z)with⟨lz,cz⟩;rcases cz.inv W H Qv with⟨_,nd,h0,rfl⟩|⟨t,r',_,pX,_,_⟩
      ·obtain⟨r1,_⟩:=B.C.fG.root nd h0
       rw [r1];rfl
      ·exact(B.C.fG.up t z pX).2.2.1
     have GW:(G.gR z).merge.length<=G.D.length:=by
      have dW:(G.gR z).merge.Nodup/\∀y∈(G.gR z).merge,y∈ids G.D:=by
       rcases(dh.ex H z)with⟨lz,cz⟩;rcases cz.inv W H Qv with⟨_,nd,h0,rfl⟩|⟨t,r',_,pX,_,_⟩
       ·obtain⟨r1,_⟩:=B.C.fG.root nd h0
        rw [r1];exact⟨List.nodup_nil,fun y hy=>by cases hy⟩
       ·obtain⟨_,_,_,g1,g2⟩:=B.C.fG.up t z pX
        exact⟨g1,fun y hy=>(((g2 y).1 hy).1.mem W).1⟩
      have:=cQ dW.1 dW.2
      rwa [fX]at this
     refine ag.gI (I:=fun s0 v=>∃i:Nat,s0=(i:Int)/\i<=n1/\∃dn:List HT,dn++(bO G.D (dU ((G.gR z).merge.drop i) ((G.gR z).dR.drop i)) h++yJ G h (l.drop (j+1)))=jT/\yD v p'.fm kn dn/\fi k kn [] dn=true/\Kept (· =p'.fm) Sp v) (μ:=fun s0 _=>((n1:Int)-s0).toNat) (s:=0) ⟨0,rfl,Nat.zero_le _,xl,by rw [List.drop_zero,List.drop_zero];exact h1,OZ.same UD,OW,Kept.refl _ _⟩ ?_;rintro s0 v2 ⟨i2,rfl,Ad,dn,g1,g2,g3,g4⟩;have Iu:Kept (· =p'.fm) w2 v2:=UT.tt g4;have Bv2:=B2.az Iu;have sav:=aaK.az g4 (fun j hj e=>hff j hj e);have UO:=vR.tt Iu;have Wu:=tM.az Iu (by omega) (by omega);have sv2:=Iu.size;refine Split.dec (fun jc=>?_) (fun gq=>?_)
     ·have dQ:i2<n1:=by omega
      obtain⟨b,hb⟩:=sav.mg.get_mem dQ;obtain⟨bb2,Xx⟩:∃y,(G.gR z).dR[i2]? =some y:=⟨_,List.getElem?_eq_getElem (by omega)⟩;refine sav.mg.load (i:=(i2:Int)) (by omega) hb ?_;intro lh;obtain⟨abS,Gd,vW⟩:=gP (w:=v2) (z:=dG.1) (cs:=b.1) (t:=aj) (by rw [b.2.1];rfl);refine⟨⟨b.2.1,b.2.one,fun j hj=>abS j (by rw [b.2.1];exact hj)⟩,?_⟩;intro jx
      replace Gd:jx.heap[v2.heap.size]? =some (.cells b.1 aj (0,0)):=Gd
      replace vW:Kept Nil v2 jx:=vW
      clear_value jx;have Sm:=Bv2.same vW;have Xo:=vW.heap (g4.heap Ah (by omega)) (fun h=>h);have aaL:=sav.az vW (fun _ _ h=>h);obtain⟨aB,JI,_,JA⟩:=aaL.bl.at_ i2 bb2 Xx;subst JI;refine⟨some aB,m1,d1,by rw [a8,ay Xo];exact hcg.2.2.1,⟨by omega,by omega⟩,bb2,by rw [Int.toNat_natCast,Nat.mul_one];exact JA,?_⟩;rw [CW hb Xx]at g1;cases bb2 with
      |false=>
       refine Split.no rfl ?_;rw [dw (n:=(i2:Int)) (by omega) (by omega)];exact⟨(i2:Int)+1,rfl,⟨i2+1,rfl,dQ,dn,g1,g2.same vW,g3,g4.trans vW (fun _ _ h=>h.elim)⟩,by simp only;omega⟩
      |true=>
       rw [if_pos rfl,fM,List.append_assoc]at g1;have aeU:bO G.D [b] h=if nH G.D b h then [b]else []:=by
        unfold bO;by_cases hp:nH G.D b h
        ·rw [if_pos hp,List.filter_cons_of_pos (by simpa using hp)];rfl
        ·rw [if_neg hp,List.filter_cons_of_neg (by simpa using hp)];rfl
       rw [aeU,<-List.append_assoc]at g1;refine Split.yes rfl ⟨some ⟨c,0,none⟩,by rw [ay Sm.V.hc];rfl,b.1,⟨b.2.1,Cells.bz Gd⟩,h.1,⟨h.2.1,by have:=Sm.hb;rw [Z7]at this;exact Cells.bz this⟩,?_⟩;refine sx Sm hD nW hs hc (done:=dn) (by rw [vX];exact g2.same vW) Gd (by omega) (fun ha=>by
        rw [if_pos ha]at g1;rw [<-g1]at xh;exact(List.nodup_append.1 xh).1) ?_ ?_
       ·intro u2 ha hp GO
        rw [vX]at hp;rw [if_pos ha,List.append_assoc]at g1;have kk:Kept (· =p'.fm) v2 u2:=(vW.mono fun _ _ h=>h.elim).tt GO;obtain⟨o1,o2⟩:=out (u:=u2) false (UO.tt kk) (Wu.az kk (by omega) (by omega)) (CZ g1 hp).symm (fun e=>by cases e);refine⟨o1,?_⟩;intro w60;rw [iz];exact o2 w60 rfl
       ·intro u2 dn' ed2 Mf Yd GO
        rw [vX]at Mf Yd;have kk:Kept (· =p'.fm) v2 u2:=(vW.mono fun _ _ h=>h.elim).tt GO;rw [dw (n:=(i2:Int)) (by omega) (by omega)];refine⟨(i2:Int)+1,rfl,⟨i2+1,rfl,dQ,dn',by rw [ed2];exact g1,Yd,?_,g4.tt kk⟩,by simp only;omega⟩;rw [ed2];by_cases ha:nH G.D b h
        ·rw [if_pos ha];exact yy g3 (Mf ha)
        ·rw [if_neg ha,List.append_nil];exact g3
     ·rw [aP,ag.aam]
      unfold ag.YL;have en:(G.gR z).merge.drop i2= []:=List.drop_eq_nil_of_le (by omega);rw [en]at g1;exact⟨Wu,dn,by simpa [dU,bO]using g1,g2,g3,UO,rW⟩
  ·rintro u1 R ⟨done,h1,h2,h3,h4,h5⟩ rH
   have e7:hZ ρ0 iS.heap.size= [(3,.pointer (some ⟨p'.bc,0,none⟩)),(5,.pointer (some ⟨w.heap.size,0,none⟩)),(6,.pointer (some ⟨w4.heap.size,0,none⟩)),(7,.pointer (some ⟨w5.heap.size,0,none⟩)),(36,CF),(4294967296,.agg (qz [iS.heap.size]))]:=rfl;rw [e7,ag.jZ];unfold ag.jf;have ec:done=jT:=by rw [<-h1,List.drop_of_length_le (Nat.le_refl _),yJ,List.append_nil]
   obtain⟨o1,o2⟩:=out (u:=u1) true h4 rH (by rw [<-ec,h3]) (fun _=>by rw [<-ec];exact h2);refine⟨o1,?_⟩;intro qo;obtain⟨ac0,_,r,t1,t2,t3,t4⟩:=o2 qo rfl;clear_value qo;rw [mW];have kt:=jM [iS.heap.size] qo;have hm:∀E∈ [iS.heap.size],qo.heap[E]? =some (.deferred (some [])):=fun E hE=>by
    rw [List.mem_singleton]at hE;subst hE;exact ac0.mark
   refine⟨lW [iS.heap.size] qo (by simp) hm,r,by rw [ay (kt.heap t1 (fun hE=>by rw [List.mem_singleton]at hE;omega))];rfl,?_⟩;exact hK' _ r t2 (fun e=>(t3 e).az kt (fun hE=>by rw [List.mem_singleton]at hE;omega)) (((kA LI).trans t4 (fun j hj e=>by rcases e with e|e;exact e;omega)).trans kt (fun j hj hE=>by rw [List.mem_singleton]at hE;omega))
  ·rintro u1 R ⟨_,r,t1,t2,t3,t4⟩ rH
   have e7:hZ ρ0 iS.heap.size= [(3,.pointer (some ⟨p'.bc,0,none⟩)),(5,.pointer (some ⟨w.heap.size,0,none⟩)),(6,.pointer (some ⟨w4.heap.size,0,none⟩)),(7,.pointer (some ⟨w5.heap.size,0,none⟩)),(36,CF),(4294967296,.agg (qz [iS.heap.size]))]:=rfl;rw [e7,ag.Bq];unfold ag.vC;rw [mW];have kt:=jM [iS.heap.size] u1;have hm:∀E∈ [iS.heap.size],u1.heap[E]? =some (.deferred (some [])):=fun E hE=>by
    rw [List.mem_singleton]at hE;subst hE;exact rH.mark
   refine⟨lW [iS.heap.size] u1 (by simp) hm,r,by rw [ay (kt.heap t1 (fun hE=>by rw [List.mem_singleton]at hE;omega))];rfl,?_⟩;exact hK' _ r t2 (fun e=>(t3 e).az kt (fun hE=>by rw [List.mem_singleton]at hE;omega)) (((kA LI).trans t4 (fun j hj e=>by rcases e with e|e;exact e;omega)).trans kt (fun j hj hE=>by rw [List.mem_singleton]at hE;omega))
  ·rintro id u1 R ⟨e,_⟩ rH
   cases e
end
end Go.Proofs.YtnboahlopghcjaaGreatDoor
