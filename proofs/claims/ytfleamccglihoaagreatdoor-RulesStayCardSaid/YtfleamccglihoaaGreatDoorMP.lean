import Derived.Test.YtfleamccglihoaaGreatDoorMI
import Derived.Test.YtfleamccglihoaaGreatDoorMJ
import Derived.Test.YtfleamccglihoaaGreatDoorMN
import Derived.Test.YtfleamccglihoaaGreatDoorMG
open Go.IntKind (i64 u64)
set_option linter.unusedVariables false
namespace Go.Proofs.YtfleamccglihoaaGreatDoor
open Go.Proofs.Tryz
open Go Go.b0
structure pr where
 np:HT
 score:Nat
 merge:List HT
 fX:List Bool
structure GS where
 D:DG
 P:List Int
 sI:List pr
 kZ:List (List HT)
def GS.at_(G:GS)(h:HT):Option Nat:=pos h (ids G.D) 0
def GS.jW(G:GS)(h:HT):pr:=((G.at_ h).bind (G.sI[·]?)).getD ⟨fz,0,[],[]⟩
def GS.world(G:GS)(h:HT):List HT:=((G.at_ h).bind (G.kZ[·]?)).getD []
def GS.score(G:GS)(h:HT):Nat:=(G.jW h).score
def gl(G:GS)(a b:HT):Bool:=decide (G.score a<G.score b)||(decide (G.score a=G.score b)&&dg a b)
def Bu(G:GS)(a b:HT):Int:=if gl G a b then-1 else if gl G b a then 1 else 0
def bQ(G:GS):List HT->HT
 | []=>fz
 |x::l=>l.foldl (fun b y=>if gl G b y then y else b) x
def oC(D:DG)(a b:HT):Prop:=a≠b/\¬fw D a b/\¬fw D b a
noncomputable instance(D:DG)(a b:HT):Decidable (oC D a b):=Classical.propDecidable _
noncomputable instance(D:DG)(a b:HT):Decidable (fw D a b):=Classical.propDecidable _
noncomputable def cg(D:DG)(l:List HT)(h:HT):List HT:=l.filter fun b=>decide (oC D b h)
def SO(G:GS)(l:List HT):Prop:=l.Pairwise fun a b=>gl G a b=true
noncomputable def pX(D:DG)(s:HT)(l:List HT):List HT:=(dB (eF D l++l)).filter fun h=>decide (h≠s/\¬fw D h s)
def wV(G:GS)(x:HT):List HT->List HT
 | []=> [x]
 |y::l=>if gl G x y then x::y::l else y::wV G x l
noncomputable def cI(G:GS)(s:HT)(l:List HT):List HT:=(pX G.D s l).foldr (wV G) []
noncomputable def qX(k:Nat)(D:DG)(wd:List HT)(h:HT):Bool:=decide ((cg D wd h).length<=k/\∀y∈cg D wd h,(cg D wd y).length+1<=k)
structure VS where
 wd:List HT
 bl:List Bool
noncomputable def rV(k:Nat)(D:DG)(s:VS)(h:HT):VS:=⟨if qX k D s.wd h then s.wd++ [h]else s.wd,s.bl++ [qX k D s.wd h]⟩
noncomputable def im(k:Nat)(G:GS)(s:HT)(l:List HT):VS:=(cI G s l).foldl (rV k G.D) ⟨G.world s++ [s],[]⟩
noncomputable def dr(k:Nat)(G:GS)(s:HT)(l:List HT):pr:=⟨s,G.score s+1+(im k G s l).bl.count true,cI G s l,(im k G s l).bl⟩
noncomputable def eo(k:Nat)(G:GS)(h:HT)(ps:List HT):GS:=
 if dR G.D h ps=0 then⟨G.D++ [⟨h,dB ps⟩],G.P++ [(((pos (bQ G ps) (ids G.D) 0).getD 0:Nat):Int)],G.sI++ [dr k G (bQ G ps) ps],G.kZ++ [(im k G (bQ G ps) ps).wd]⟩else G
def eV(r:HT):GS:=⟨[⟨r,[]⟩],[-1],[⟨fz,0,[],[]⟩],[[]]⟩
def eB:List HT->List Bool->List HT
 |h::l,b::m=>if b then h::eB l m else eB l m
 |_,_=> []
theorem mH(G:GS)(a:HT):gl G a a=false:=by simp [gl,jl]
theorem mU{G:GS}{a b c:HT}(h:gl G a b=true)(h':gl G b c=true):gl G a c=true:=by
 simp only [gl,Bool.or_eq_true,Bool.and_eq_true,decide_eq_true_eq]at*;rcases h with h|⟨h,h1⟩
 ·rcases h' with h'|⟨h',h2⟩
  ·exact .inl (by omega)
  ·exact .inl (by omega)
 ·rcases h' with h'|⟨h',h2⟩
  ·exact .inl (by omega)
  ·exact .inr ⟨by omega,lJ h1 h2⟩
theorem mV{G:GS}{a b:HT}(h:gl G a b=false)(h':gl G b a=false):a=b:=by
 simp only [gl,Bool.or_eq_false_iff,Bool.and_eq_false_iff,decide_eq_false_iff_not]at*;have e:G.score a=G.score b:=by omega
 obtain⟨_,h2⟩:=h;obtain⟨_,h3⟩:=h';exact qF (by rcases h2 with h2|h2;exact absurd e h2;exact h2) (by rcases h3 with h3|h3;exact absurd e.symm h3;exact h3)
theorem Bf{G:GS}{a b:HT}(h:gl G a b=true):gl G b a=false:=by
 cases hb:gl G b a
 ·rfl
 ·have:=mU h hb
  rw [mH]at this;cases this
theorem zc{G:GS}{a b:HT}:Bu G a b<0↔gl G a b=true:=by
 unfold Bu;split
 ·simp_all
 ·split<;>simp_all
theorem Mk(G:GS)(a b:HT):Bu G a b=if G.score a<G.score b then-1 else if G.score b<G.score a then 1 else lW a b:=by
 unfold Bu lW gl;by_cases h1:G.score a<G.score b
 ·simp [h1]
 ·by_cases h2:G.score b<G.score a
  ·have:¬G.score a=G.score b:=by omega
   simp [h1,h2,this]
  ·have:G.score a=G.score b:=by omega
   simp [this]
theorem SO.cons{G:GS}{x:HT}{l:List HT}:SO G (x::l)↔(∀y∈l,gl G x y=true)/\SO G l:=List.pairwise_cons
theorem SO.nodup{G:GS}{l:List HT}(h:SO G l):l.Nodup:=List.Pairwise.imp (fun {a b} mB e=>by subst e;rw [mH]at mB;cases mB) h
theorem JL{G:GS}:∀ {l m:List HT},SO G l->SO G m->(∀x,x∈l↔x∈m)->l=m
 | [],[],_,_,_=>rfl
 | [],y::m,_,_,h=>by have:=(h y).2 (by simp);simp at this
 |x::l,[],_,_,h=>by have:=(h x).1 (by simp);simp at this
 |x::l,y::m,hl,hm,h=>by
  rw [SO.cons]at hl hm;have ny:x=y:=by
   rcases List.mem_cons.1 ((h x).1 List.mem_cons_self)with e|e
   ·exact e
   ·rcases List.mem_cons.1 ((h y).2 List.mem_cons_self)with e'|e'
    ·exact e'.symm
    ·have h1:=hm.1 _ e
     have h2:=hl.1 _ e';rw [Bf h1]at h2;cases h2
  subst ny;have:l=m:=JL hl.2 hm.2 fun z=>by
   have hz:=h z;simp only [List.mem_cons]at hz;constructor
   ·intro nN
    rcases hz.1 (.inr nN)with e|e
    ·subst e;have:=hl.1 _ nN;rw [mH]at this;cases this
    ·exact e
   ·intro nN
    rcases hz.2 (.inr nN)with e|e
    ·subst e;have:=hm.1 _ nN;rw [mH]at this;cases this
    ·exact e
  rw [this]
theorem vx{G:GS}{x z:HT}:∀ {l:List HT},z∈wV G x l↔z=x\/z∈l
 | []=>by simp [wV]
 |y::l=>by
  unfold wV;split
  ·simp
  ·simp only [List.mem_cons,vx (l:=l)]
   constructor
   ·rintro(h|h|h)<;>simp [h]
   ·rintro(h|h|h)<;>simp [h]
theorem EU{G:GS}{x:HT}:∀ {l:List HT},SO G l->x∉l->SO G (wV G x l)
 | [],_,_=>by simp [wV,SO]
 |y::l,h,hx=>by
  have h':=SO.cons.1 h;simp only [List.mem_cons,not_or]at hx;unfold wV;split
  ·rename_i ny
   refine SO.cons.2 ⟨fun z hz=>?_,h⟩;rcases List.mem_cons.1 hz with rfl|hz
   ·exact ny
   ·exact mU ny (h'.1 _ hz)
  ·rename_i ny
   refine SO.cons.2 ⟨fun z hz=>?_,EU h'.2 hx.2⟩;rcases vx.1 hz with rfl|hz
   ·cases RA:gl G y z
    ·exact absurd (mV RA (by simpa using ny)).symm hx.1
    ·rfl
   ·exact h'.1 _ hz
theorem oh{G:GS}{z:HT}:∀ {l:List HT},z∈l.foldr (wV G) []↔z∈l
 | []=>by simp
 |x::l=>by rw [List.foldr_cons,vx,oh,List.mem_cons]
theorem BH{G:GS}:∀ {l:List HT},l.Nodup->SO G (l.foldr (wV G) [])
 | [],_=>List.Pairwise.nil
 |x::l,h=>by
  rw [List.nodup_cons]at h;exact EU (BH h.2) fun e=>h.1 (oh.1 e)
theorem rp(D:DG)(s:HT)(l:List HT):(pX D s l).Nodup:=(ju _).nodup.filter _
theorem sk{D:DG}{s:HT}{l:List HT}{h:HT}:h∈pX D s l↔((h∈ids D/\∃p∈l,fw D h p)\/h∈l)/\h≠s/\¬fw D h s:=by
 unfold pX eF;rw [List.mem_filter,dT,List.mem_append,ki,decide_eq_true_eq]
theorem jD{G:GS}{s:HT}{l:List HT}{h:HT}:h∈cI G s l↔((h∈ids G.D/\∃p∈l,fw G.D h p)\/h∈l)/\h≠s/\¬fw G.D h s:=by
 unfold cI;rw [oh,sk]
theorem lM(G:GS)(s:HT)(l:List HT):SO G (cI G s l):=BH (rp _ _ _)
theorem ti{G:GS}{s:HT}{l m:List HT}(hs:SO G m)(h:∀x,x∈m↔x∈pX G.D s l):m=cI G s l:=
 JL hs (lM G s l) fun x=>by unfold cI;rw [h,oh]
theorem iE{G:GS}:∀ {l:List HT},l≠ []->bQ G l∈l
 |x::l,_=>by
  have key:∀(l:List HT) (b:HT),l.foldl (fun b y=>if gl G b y then y else b) b=b\/l.foldl (fun b y=>if gl G b y then y else b) b∈l:=by
   intro l
   induction l with
   |nil=>intro b;exact .inl rfl
   |cons y l ih=>
    intro b;simp only [List.foldl_cons];rcases ih (if gl G b y then y else b)with e|e
    ·rw [e]
     split
     ·exact .inr List.mem_cons_self
     ·exact .inl rfl
    ·exact .inr (List.mem_cons_of_mem _ e)
  rcases key l x with e|e
  ·rw [bQ,e];exact List.mem_cons_self
  ·exact List.mem_cons_of_mem _ e
theorem gg(D:DG)(l m:List HT)(h:HT):cg D (l++m) h=cg D l h++cg D m h:=List.filter_append ..
theorem gF{D:DG}{l:List HT}{h b:HT}:b∈cg D l h↔b∈l/\oC D b h:=by unfold cg;rw [List.mem_filter,decide_eq_true_eq]
theorem oC.symm{D:DG}{a b:HT}(h:oC D a b):oC D b a:=⟨h.1.symm,h.2.2,h.2.1⟩
theorem mX{x:HT}:∀ {m:List HT} {b:List Bool},x∈eB m b->x∈m
 |h::l,b::m,hx=>by
  unfold eB at hx;split at hx
  ·rcases List.mem_cons.1 hx with e|e
   ·rw [e];exact List.mem_cons_self
   ·exact List.mem_cons_of_mem _ (mX e)
  ·exact List.mem_cons_of_mem _ (mX hx)
 | [],_,hx=>by simp [eB]at hx
 |_::_,[],hx=>by simp [eB]at hx
theorem oP:∀ {m:List HT} {b:List Bool},m.Nodup->(eB m b).Nodup
 |h::l,b::m,hn=>by
  rw [List.nodup_cons]at hn;unfold eB;split
  ·exact List.nodup_cons.2 ⟨fun e=>hn.1 (mX e),oP hn.2⟩
  ·exact oP hn.2
 | [],_,_=>by simp [eB]
 |_::_,[],_=>by simp [eB]
theorem wv:∀ {m:List HT} {b:List Bool},b.length=m.length->(eB m b).length=b.count true
 |h::l,b::m,hn=>by
  have:=wv (m:=l) (b:=m) (by simpa using hn);unfold eB;cases b<;>simp [this]
 | [],[],_=>rfl
 | [],_::_,h=>by simp at h
 |_::_,[],h=>by simp at h
theorem ur{x:HT}{c:Bool}:∀ {m:List HT} {b:List Bool},b.length=m.length->eB (m++ [x]) (b++ [c])=eB m b++if c then [x]else []
 |h::l,b::m,hn=>by
  have:=ur (x:=x) (c:=c) (m:=l) (b:=m) (by simpa using hn);simp only [List.cons_append,eB,this];cases b<;>simp
 | [],[],_=>by cases c<;>simp [eB]
 | [],_::_,h=>by simp at h
 |_::_,[],h=>by simp at h
theorem Hp(k:Nat)(D:DG)(wd:List HT):∀(m:List HT),∃b:List Bool,b.length=m.length/\m.foldl (rV k D) ⟨wd,[]⟩=⟨wd++eB m b,b⟩:=by
 intro m
 induction h:m.length generalizing m with
 |zero=>exact⟨[],by simp,by rw [List.length_eq_zero_iff.1 h];simp [eB]⟩
 |succ n ih=>
  have fP:m≠ []:=fun e=>by rw [e]at h;simp at h
  obtain⟨m',x,rfl⟩:∃m' x,m=m'++ [x]:=⟨m.dropLast,m.getLast fP,(List.dropLast_concat_getLast fP).symm⟩;obtain⟨b,h1,h2⟩:=ih m' (by simpa using h);have h1:b.length=m'.length:=by rw [List.length_append,List.length_cons,List.length_nil]at h;omega
  refine⟨b++ [qX k D (wd++eB m' b) x],by simp only [List.length_append,List.length_cons,List.length_nil]at h⊢;omega,?_⟩;rw [List.foldl_append,h2,List.foldl_cons,List.foldl_nil,ur h1];unfold rV;cases qX k D (wd++eB m' b) x<;>simp
theorem uR(k:Nat)(G:GS)(s:HT)(l:List HT):(im k G s l).bl.length=(cI G s l).length/\(im k G s l).wd=G.world s++ [s]++eB (cI G s l) (im k G s l).bl:=by
 obtain⟨b,h1,h2⟩:=Hp k G.D (G.world s++ [s]) (cI G s l);unfold im;rw [h2];exact⟨h1,rfl⟩
structure jT(k:Nat)(G:GS):Prop where
 W:jX G.D
 np:sS G.D G.P
 lc:G.sI.length=G.D.length
 lw:G.kZ.length=G.D.length
 root:∀nd,G.D[0]? =some nd->G.jW nd.id=⟨fz,0,[],[]⟩/\G.world nd.id= []
 up:∀s h,mf G.D G.P s h->(G.jW h).np=s/\G.world h=G.world s++ [s]++eB (G.jW h).merge (G.jW h).fX/\(G.jW h).fX.length=(G.jW h).merge.length/\(G.jW h).merge.Nodup/\∀y,y∈(G.jW h).merge↔fw G.D y h/\y≠s/\¬fw G.D y s
 wd:∀h∈ids G.D,(G.world h).Nodup/\(∀b∈G.world h,fw G.D b h)/\G.score h=(G.world h).length
theorem GS.tD{G:GS}(W:jX G.D){i:Nat}{nd:DN}(h:G.D[i]? =some nd):G.at_ nd.id=some i:=W.pos_eq h
theorem GS.QY{G:GS}(W:jX G.D){i:Nat}{nd:DN}{c:pr}(h:G.D[i]? =some nd)(hc:G.sI[i]? =some c):G.jW nd.id=c:=by
 unfold GS.jW;rw [GS.tD W h];simp [hc]
theorem GS.Hi{G:GS}(W:jX G.D){i:Nat}{nd:DN}{c:List HT}(h:G.D[i]? =some nd)(hc:G.kZ[i]? =some c):G.world nd.id=c:=by
 unfold GS.world;rw [GS.tD W h];simp [hc]
section
variable{k:Nat}{G:GS}{h:HT}{ps:List HT}
theorem sO(hc:dR G.D h ps≠0):eo k G h ps=G:=by unfold eo;rw [if_neg hc]
theorem rL:(eo k G h ps).D=mo G.D h ps:=by
 unfold eo mo;split<;>rfl
theorem JG:(eo k G h ps).D=oy G.D h (bQ G ps) ps:=by
 rw [rL];unfold oy;by_cases hc:dR G.D h ps=0
 ·have fP:=(lO hc).2.1
  have:iB G.D h (bQ G ps) ps=0:=by unfold iB;rw [if_pos hc,if_pos (iE fP)]
  rw [if_pos this,qt hc]
 ·have:iB G.D h (bQ G ps) ps≠0:=by unfold iB;rw [if_neg hc];exact hc
  rw [if_neg this];unfold mo;rw [if_neg hc]
theorem GQ:iB G.D h (bQ G ps) ps=dR G.D h ps:=by
 unfold iB;split
 ·rename_i hc
  rw [if_pos (iE (lO hc).2.1),hc]
 ·rfl
theorem JH:(eo k G h ps).P=ox G.D G.P h (bQ G ps) ps:=by
 unfold ox eo;rw [GQ];by_cases hc:dR G.D h ps=0
 ·rw [if_pos hc,if_pos hc]
 ·rw [if_neg hc,if_neg hc]
theorem lZ(hc:dR G.D h ps=0):eo k G h ps=⟨G.D++ [⟨h,dB ps⟩],G.P++ [(((pos (bQ G ps) (ids G.D) 0).getD 0:Nat):Int)],G.sI++ [dr k G (bQ G ps) ps],G.kZ++ [(im k G (bQ G ps) ps).wd]⟩:=by
 unfold eo;rw [if_pos hc]
theorem DT(H:jT k G){s:HT}(hs:s∈ids G.D)(l:List HT)(hl:∀p∈l,p∈ids G.D):
 (im k G s l).wd.Nodup/\(im k G s l).wd.length=(dr k G s l).score/\∀y∈(im k G s l).wd,y∈ids G.D/\(y=s\/fw G.D y s\/y∈cI G s l):=by
 obtain⟨h1,h2⟩:=uR k G s l;obtain⟨w1,w2,w3⟩:=H.wd s hs;have hm:∀y∈eB (cI G s l) (im k G s l).bl,y∈ids G.D/\y≠s/\¬fw G.D y s:=fun y hy=>by
  obtain⟨e,h3,h4⟩:=jD.1 (mX hy);refine⟨?_,h3,h4⟩;rcases e with e|e
  ·exact e.1
  ·exact hl _ e
 rw [h2];refine⟨?_,?_,?_⟩
 ·refine List.nodup_append.2 ⟨List.nodup_append.2 ⟨w1,by simp,?_⟩,oP (lM G s l).nodup,?_⟩
  ·intro a ha b hb e
   have hb:b=s:=by simpa using hb
   subst hb;subst e;exact fw.irrefl H.W _ (w2 _ ha)
  ·intro a ha b hb e
   subst e;obtain⟨_,h3,h4⟩:=hm _ hb;rcases List.mem_append.1 ha with e|e
   ·exact h4 (w2 _ e)
   ·exact h3 (by simpa using e)
 ·unfold dr
  simp only [List.length_append,List.length_cons,List.length_nil,wv h1,w3]
 ·intro y hy
  rcases List.mem_append.1 hy with hy|hy
  ·rcases List.mem_append.1 hy with hy|hy
   ·exact⟨((w2 _ hy).mem H.W).1,.inr (.inl (w2 _ hy))⟩
   ·have:y=s:=by simpa using hy
    subst this;exact⟨hs,.inl rfl⟩
  ·exact⟨(hm _ hy).1,.inr (.inr (mX hy))⟩
theorem qq(H:jT k G){y:HT}(hy:y∈ids G.D):(eo k G h ps).jW y=G.jW y/\(eo k G h ps).world y=G.world y:=by
 by_cases hc:dR G.D h ps=0
 ·obtain⟨hn,fP,gA,qV⟩:=lO hc
  obtain⟨nd,uz,rfl⟩:=dI.1 hy;obtain⟨i,hi⟩:=List.getElem?_of_mem uz;have eh:=(lgeS hi).1;have Gm:(G.D++ [(⟨h,dB ps⟩:DN)])[i]? =some nd:=by rw [List.getElem?_append_left eh];exact hi
  have W':jX (eo k G h ps).D:=by rw [rL];exact H.W.add h ps
  rw [lZ hc]at W'⊢;have e1:(⟨G.D++ [⟨h,dB ps⟩],G.P++ [(((pos (bQ G ps) (ids G.D) 0).getD 0:Nat):Int)],G.sI++ [dr k G (bQ G ps) ps],G.kZ++ [(im k G (bQ G ps) ps).wd]⟩:GS).at_ nd.id=some i:=GS.tD W' Gm;have e2:=GS.tD H.W hi;unfold GS.jW GS.world;rw [e1,e2];simp only [Option.bind_some];rw [List.getElem?_append_left (by rw [H.lc];exact eh),List.getElem?_append_left (by rw [H.lw];exact eh)];exact⟨rfl,rfl⟩
 ·rw [sO hc];exact⟨rfl,rfl⟩
theorem wA(H:jT k G)(hc:dR G.D h ps=0):(eo k G h ps).jW h=dr k G (bQ G ps) ps/\(eo k G h ps).world h=(im k G (bQ G ps) ps).wd:=by
 have W':jX (eo k G h ps).D:=by rw [rL];exact H.W.add h ps
 rw [lZ hc]at W'⊢;have Gm:(G.D++ [(⟨h,dB ps⟩:DN)])[G.D.length]? =some ⟨h,dB ps⟩:=by rw [List.getElem?_append_right (Nat.le_refl _),Nat.sub_self];rfl
 have e1:(⟨G.D++ [⟨h,dB ps⟩],G.P++ [(((pos (bQ G ps) (ids G.D) 0).getD 0:Nat):Int)],G.sI++ [dr k G (bQ G ps) ps],G.kZ++ [(im k G (bQ G ps) ps).wd]⟩:GS).at_ h=some G.D.length:=GS.tD W' Gm;unfold GS.jW GS.world;rw [e1];simp only [Option.bind_some];rw [List.getElem?_append_right (by rw [H.lc];exact Nat.le_refl _),H.lc,Nat.sub_self,List.getElem?_append_right (by rw [H.lw];exact Nat.le_refl _),H.lw,Nat.sub_self];exact⟨rfl,rfl⟩
end
section
variable{k:Nat}{G:GS}{h:HT}{ps:List HT}
theorem mN(k:Nat)(r:HT):jT k (eV r):=by
 have e0:(eV r).at_ r=some 0:=GS.tD (G:=eV r) (jX.root r) (nd:=⟨r,[]⟩) rfl;have ec:(eV r).jW r=⟨fz,0,[],[]⟩:=by unfold GS.jW;rw [e0];rfl
 have ew:(eV r).world r= []:=by unfold GS.world;rw [e0];rfl
 refine⟨jX.root r,sS.one r,rfl,rfl,?_,?_,?_⟩
 ·intro nd gA
  have:nd=⟨r,[]⟩:=by simpa [eV]using gA.symm
  subst this;exact⟨ec,ew⟩
 ·rintro s h ⟨i,j,ni,m,h1,_,h3,_,_⟩
  exfalso;cases i with
  |zero=>simp [eV]at h3
  |succ i=>simp [eV]at h1
 ·intro h hm
  have:h=r:=by simpa [eV,ids]using hm
  subst this;refine⟨by rw [ew];simp,by rw [ew];simp,?_⟩;unfold GS.score;rw [ec,ew];rfl
theorem HC(H:jT k G)(hc:dR G.D h ps=0):∃(j:Nat) (m:DN),G.D[j]? =some m/\m.id=bQ G ps/\(pos (bQ G ps) (ids G.D) 0).getD 0=j/\bQ G ps∈ps/\bQ G ps∈ids G.D:=by
 obtain⟨hn,fP,gA,qV⟩:=lO hc;have h1:=iE (G:=G) fP;have h2:=qV _ (dT.2 h1);obtain⟨m,hm,e⟩:=dI.1 h2;obtain⟨j,hj⟩:=List.getElem?_of_mem hm;have h3:=H.W.pos_eq hj;rw [e]at h3;exact⟨j,m,hj,e,by rw [h3];rfl,h1,h2⟩
theorem BF(H:jT k G)(hc:dR G.D h ps=0):(∀y,fw (G.D++ [⟨h,dB ps⟩]) y h↔∃p∈ps,y=p\/fw G.D y p)/\∀a b,b∈ids G.D->(fw (G.D++ [⟨h,dB ps⟩]) a b↔fw G.D a b):=by
 obtain⟨hn,fP,gA,qV⟩:=lO hc;have W':jX (G.D++ [⟨h,dB ps⟩]):=by have:=H.W.add h ps;rwa [qt hc]at this
 have Gm:(G.D++ [(⟨h,dB ps⟩:DN)])[G.D.length]? =some ⟨h,dB ps⟩:=by rw [List.getElem?_append_right (Nat.le_refl _),Nat.sub_self];rfl
 have FI:∀a b,b∈ids G.D->(fw (G.D++ [⟨h,dB ps⟩]) a b↔fw G.D a b):=fun a b hb=>jI H.W hn hb;refine⟨fun y=>?_,FI⟩;rw [EP W' Gm y];constructor
 ·rintro⟨p,hp,e⟩
  exact⟨p,dT.1 hp,e.imp_right fun e=>(FI _ _ (qV _ hp)).1 e⟩
 ·rintro⟨p,hp,e⟩
  exact⟨p,dT.2 hp,e.imp_right fun e=>(FI _ _ (qV _ (dT.2 hp))).2 e⟩
theorem jT.add(H:jT k G)(h:HT)(ps:List HT):jT k (eo k G h ps):=by
 by_cases hc:dR G.D h ps=0
 ·obtain⟨hn,fP,gA,qV⟩:=lO hc
  obtain⟨j,m,hj,hm,jO,G3,G4⟩:=HC H hc;obtain⟨zB,FI⟩:=BF H hc;have hk:=fun y (hy:y∈ids G.D)=>qq (h:=h) (ps:=ps) H hy;obtain⟨nc,nw⟩:=wA H hc;obtain⟨v1,v2⟩:=uR k G (bQ G ps) ps;obtain⟨u1,u2,u3⟩:=DT H G4 ps (fun p hp=>qV _ (dT.2 hp));have W':jX (G.D++ [⟨h,dB ps⟩]):=by have:=H.W.add h ps;rwa [qt hc]at this
  have oL:sS (G.D++ [(⟨h,dB ps⟩:DN)]) (G.P++ [(j:Int)]):=H.np.snoc hj (by rw [hm];exact dT.2 G3) H.W.pos;generalize hs:bQ G ps=s at*;have eG:=lZ (k:=k) hc;rw [hs,jO]at eG;have eD:(eo k G h ps).D=G.D++ [⟨h,dB ps⟩]:=by rw [eG]
  have eP:(eo k G h ps).P=G.P++ [(j:Int)]:=by rw [eG]
  refine⟨by rw [eD];exact W',by rw [eD,eP];exact oL,by rw [eG];simp [H.lc],by rw [eG];simp [H.lw],?_,?_,?_⟩
  ·intro nd uz
   rw [eD,List.getElem?_append_left H.W.pos]at uz;obtain⟨e1,e2⟩:=hk nd.id (dI.2 ⟨nd,List.mem_of_getElem? uz,rfl⟩);rw [e1,e2];exact H.root nd uz
  ·intro t y hy
   rw [eD,eP,oH H.W H.np hn hj]at hy;rcases hy with hy|⟨rfl,rfl⟩
   ·have hp:=hy.par H.np
    have XR:y∈ids G.D:=((fw.one hp).mem H.W).2;have Kb:t∈ids G.D:=((fw.one hp).mem H.W).1;obtain⟨e1,e2⟩:=hk y XR;obtain⟨_,e3⟩:=hk t Kb;obtain⟨g1,g2,g3,g4,g5⟩:=H.up t y hy;rw [e1,e2,e3,eD];refine⟨g1,g2,g3,g4,fun z=>?_⟩;rw [g5,FI _ _ XR,FI _ _ Kb]
   ·show _/\_
    rw [nc,nw,hm,(hk s G4).2,eD];refine⟨rfl,v2,v1,(lM _ _ _).nodup,fun z=>?_⟩;show z∈cI G s ps↔_
    rw [jD,zB,FI _ _ G4];constructor
    ·rintro⟨e,h3,h4⟩
     refine⟨?_,h3,h4⟩;rcases e with⟨_,p,hp,e⟩|e
     ·exact⟨p,hp,.inr e⟩
     ·exact⟨z,e,.inl rfl⟩
    ·rintro⟨⟨p,hp,e⟩,h3,h4⟩
     refine⟨?_,h3,h4⟩;rcases e with rfl|e
     ·exact .inr hp
     ·exact .inl ⟨(e.mem H.W).1,p,hp,e⟩
  ·intro y hy
   rw [eD,lT]at hy;rcases List.mem_append.1 hy with hy|hy
   ·obtain⟨e1,e2⟩:=hk y hy
    obtain⟨g1,g2,g3⟩:=H.wd y hy;unfold GS.score;rw [e1,e2,eD];exact⟨g1,fun b hb=>(FI _ _ hy).2 (g2 b hb),g3⟩
   ·have:y=h:=by simpa using hy
    subst this;unfold GS.score;rw [nc,nw,eD];refine⟨u1,fun b hb=>?_,u2.symm⟩;obtain⟨_,e⟩:=u3 b hb;rw [zB];rcases e with rfl|e|e
    ·exact⟨b,G3,.inl rfl⟩
    ·exact⟨s,G3,.inr e⟩
    ·obtain⟨e,_,_⟩:=jD.1 e
     rcases e with⟨_,p,hp,e⟩|e
     ·exact⟨p,hp,.inr e⟩
     ·exact⟨b,e,.inl rfl⟩
 ·rw [sO hc];exact H
end
def nu(sz:HT->HT->Option Nat)(l:List HT)(b:HT):Nat:=(l.findSome? fun h=>sz h b).getD 0
def sr(ov:HT->Option Nat)(base:HT->Nat)(b:HT):Nat:=(ov b).getD (base b)
structure OV(D:DG)(wd:List HT)(ov:HT->Option Nat)(base:HT->Nat):Prop where
 kn:∀b∈wd,sr ov base b=(cg D wd b).length
 RY:∀b n,ov b=some n->b∈wd
noncomputable def Al(D:DG)(wd:List HT)(ov:HT->Option Nat)(base:HT->Nat)(h:HT):HT->Option Nat:=
 fun b=>if b∈cg D wd h then some (sr ov base b+1)else if b=h then some (cg D wd h).length else ov b
theorem OV.step{D:DG}{wd:List HT}{ov:HT->Option Nat}{base:HT->Nat}(H:OV D wd ov base){h:HT}(hn:h∉wd):OV D (wd++ [h]) (Al D wd ov base h) base:=by
 refine⟨fun b hb=>?_,fun b n e=>?_⟩
 ·rw [gg,List.length_append]
  unfold sr Al;by_cases hp:b∈cg D wd h
  ·rw [if_pos hp]
   obtain⟨h1,h2⟩:=gF.1 hp;rw [Option.getD_some,H.kn b h1];have:cg D [h] b= [h]:=by unfold cg;rw [List.filter_cons_of_pos (by simpa using h2.symm)];rfl
   rw [this];rfl
  ·rw [if_neg hp]
   by_cases e:b=h
   ·subst e
    rw [if_pos rfl,Option.getD_some];have:cg D [b] b= []:=by unfold cg;rw [List.filter_cons_of_neg (by simpa using fun e:oC D b b=>e.1 rfl)];rfl
    rw [this];rfl
   ·rw [if_neg e]
    have hw:b∈wd:=by
     rcases List.mem_append.1 hb with hb|hb
     ·exact hb
     ·exact absurd (by simpa using hb) e
    have:cg D [h] b= []:=by unfold cg;rw [List.filter_cons_of_neg (by simpa using fun e':oC D h b=>hp (gF.2 ⟨hw,e'.symm⟩))];rfl
    rw [this];exact H.kn b hw
 ·unfold Al at e
  split at e
  ·rename_i hp
   exact List.mem_append_left _ (gF.1 hp).1
  ·split at e
   ·rename_i hb;subst hb;exact List.mem_append_right _ (by simp)
   ·exact List.mem_append_left _ (H.RY b n e)
structure SZ(G:GS)(sz:HT->HT->Option Nat):Prop where
 kn:∀h l,h∈ids G.D->dD G.D G.P h l->∀b∈G.world h++ [h],nu sz l b=(cg G.D (G.world h++ [h]) b).length
 RY:∀h b n,sz h b=some n->b∈ids G.D
theorem SZ.ov{G:GS}{sz:HT->HT->Option Nat}(Z:SZ G sz){s:HT}(hs:s∈ids G.D){l:List HT}(hl:dD G.D G.P s l):OV G.D (G.world s++ [s]) (fun _=>none) (nu sz l):=
 ⟨fun b hb=>Z.kn s l hs hl b hb,fun b n e=>by cases e⟩
theorem Up.snoc{P:List Int}{p:Int}:∀ {i:Nat} {l:List Nat},Up P i l->Up (P++ [p]) i l:=by
 intro i l h
 induction h with
 |root=>exact .root
 |step h _ ih=>exact .step (by rw [List.getElem?_append_left (lgeS h).1];exact h) ih
theorem x6{D:DG}{nd:DN}{i:Nat}(h:i<D.length):o8 (D++ [nd]) i=o8 D i:=by unfold o8;rw [List.getElem?_append_left h]
theorem dD.snoc{D:DG}{P:List Int}(H:sS D P){nd:DN}{p:Int}{h:HT}{l:List HT}(hm:h∈ids D)(c:dD D P h l):dD (D++ [nd]) (P++ [p]) h l:=by
 rcases c with⟨hn,_⟩|⟨i,m,ks,h1,h2,h3,h4⟩
 ·exact absurd hm hn
 ·have eh:=(lgeS h1).1
  refine .inr ⟨i,m,ks,by rw [List.getElem?_append_left eh];exact h1,h2,h3.snoc,?_⟩;rw [h4];refine List.map_congr_left fun k hk=>(x6 ?_).symm;have:=h3.lt H.par (by rw [H.len];exact eh) k hk
  rwa [H.len]at this
theorem dD.new{D:DG}{P:List Int}(W:jX D)(H:sS D P){nd m:DN}{j:Nat}(hj:D[j]? =some m){l:List HT}(c:dD D P m.id l):dD (D++ [nd]) (P++ [(j:Int)]) nd.id (nd.id::l):=by
 have hm:m.id∈ids D:=dI.2 ⟨m,List.mem_of_getElem? hj,rfl⟩;have c':=dD.snoc (nd:=nd) (p:=(j:Int)) H hm c;rcases c with⟨hn,_⟩|⟨i,m',ks,h1,h2,h3,h4⟩
 ·exact absurd hm hn
 ·have sD:=W.inj h1 hj h2
  subst sD;have e0:(D++ [nd])[D.length]? =some nd:=by rw [List.getElem?_append_right (Nat.le_refl _),Nat.sub_self];rfl
  refine .inr ⟨D.length,nd,D.length::ks,e0,rfl,.step (by rw [<-H.len,List.getElem?_append_right (Nat.le_refl _),Nat.sub_self];rfl) h3.snoc,?_⟩;rw [List.map_cons,oo e0,h4]
  congr 1
  refine List.map_congr_left fun k hk=>(x6 ?_).symm;have:=h3.lt H.par (by rw [H.len];exact(lgeS h1).1) k hk
  rwa [H.len]at this
theorem se{D D':DG}{l:List HT}{b:HT}(h:∀a∈l,oC D' a b↔oC D a b):cg D' l b=cg D l b:=by
 unfold cg;exact List.filter_congr fun a ha=>by simp only [h a ha]
theorem SZ.root(r:HT):SZ (eV r) (fun _ _=>none):=by
 refine⟨fun h l hm _ b hb=>?_,fun h b n e=>by cases e⟩;have hh:h=r:=by simpa [eV,ids]using hm
 subst hh;have ew:(eV h).world h= []:=((mN 0 h).root ⟨h,[]⟩ rfl).2;rw [ew]at hb⊢;have:b=h:=by simpa using hb
 subst this;have:cg (eV b).D ([]++ [b]) b= []:=by unfold cg;rw [List.nil_append,List.filter_cons_of_neg (by simpa using fun e:oC (eV b).D b b=>e.1 rfl)];rfl
 rw [this];unfold nu;have:(l.findSome? fun _=>(none:Option Nat))=none:=by simp
 rw [this];rfl
theorem SZ.add{k:Nat}{G:GS}{sz:HT->HT->Option Nat}(Z:SZ G sz)(H:jT k G){h:HT}{ps:List HT}(hc:dR G.D h ps=0){l:List HT}(hl:dD G.D G.P (bQ G ps) l){ov:HT->Option Nat}
 (O:OV G.D (im k G (bQ G ps) ps).wd ov (nu sz l)):SZ (eo k G h ps) (fun y=>if y=h then ov else sz y):=by
 obtain⟨hn,fP,gA,qV⟩:=lO hc;obtain⟨j,m,hj,hm,jO,G3,G4⟩:=HC H hc;obtain⟨zB,FI⟩:=BF H hc;have H':=H.add h ps;obtain⟨nc,nw⟩:=wA H hc;obtain⟨u1,u2,u3⟩:=DT H G4 ps (fun p hp=>qV _ (dT.2 hp));have eD:(eo k G h ps).D=G.D++ [⟨h,dB ps⟩]:=by rw [lZ hc]
 have eP:(eo k G h ps).P=G.P++ [(j:Int)]:=by rw [lZ hc,jO]
 have apt:∀a b,a∈ids G.D->b∈ids G.D->(oC (G.D++ [⟨h,dB ps⟩]) a b↔oC G.D a b):=fun a b ha hb=>by unfold oC;rw [FI _ _ hb,FI _ _ ha]
 have lno:∀(y:HT) (l':List HT),y∈ids G.D->dD G.D G.P y l'->∀b,nu (fun y=>if y=h then ov else sz y) l' b=nu sz l' b:=fun y l' hy c b=>by
  unfold nu;have Yb:h∉l':=fun e=>hn ((c.mem H.W H.np).1 e).mem.1;have key:∀l':List HT,h∉l'->(l'.findSome? fun y=>(if y=h then ov else sz y) b)=l'.findSome? fun y=>sz y b:=by
   intro l'
   induction l' with
   |nil=>intro _;rfl
   |cons y l' ih=>
    intro hq;simp only [List.mem_cons,not_or]at hq;rw [List.findSome?_cons,List.findSome?_cons,if_neg (fun e=>hq.1 e.symm),ih hq.2]
  rw [key l' Yb]
 refine⟨fun y l' hy c b hb=>?_,fun y b n e=>?_⟩
 ·rw [eD,eP]at c
  rw [eD]at hy⊢;rw [lT]at hy;have W':jX (G.D++ [⟨h,dB ps⟩]):=by have:=H'.W;rwa [eD]at this
  have S':sS (G.D++ [⟨h,dB ps⟩]) (G.P++ [(j:Int)]):=by have:=H'.np;rwa [eD,eP]at this
  rcases List.mem_append.1 hy with hy|hy
  ·obtain⟨l0,c0⟩:=dD.ex H.np y
   have:l'=l0:=c.one W' S' (c0.snoc H.np hy);subst this;obtain⟨_,e2⟩:=qq (k:=k) (h:=h) (ps:=ps) H hy;rw [e2]at hb⊢;rw [lno y l' hy c0,Z.kn y l' hy c0 b hb];have gB:∀a∈G.world y++ [y],a∈ids G.D:=fun a ha=>by
    rcases List.mem_append.1 ha with ha|ha
    ·exact(((H.wd y hy).2.1 a ha).mem H.W).1
    ·have:a=y:=by simpa using ha
     subst this;exact hy
   rw [se fun a ha=>apt a b (gB a ha) (gB b hb)]
  ·have:y=h:=by simpa using hy
   subst this;have cn:=dD.new (nd:=⟨y,dB ps⟩) H.W H.np hj (by rw [hm];exact hl);have:l'=y::l:=c.one W' S' cn;subst this;rw [nw]at hb⊢;have e1:nu (fun z=>if z=y then ov else sz z) (y::l) b=sr ov (nu sz l) b:=by
    have:=lno _ l G4 hl b;unfold nu at this⊢;unfold sr;rw [List.findSome?_cons];cases BP:ov b with
    |none=>simp only [if_true,BP,Option.getD_none];exact this
    |some n=>simp only [if_true,BP,Option.getD_some]
   rw [e1,gg,List.length_append];have SM:∀a∈(im k G (bQ G ps) ps).wd,¬oC (G.D++ [⟨y,dB ps⟩]) a y:=fun a ha e=>by
    obtain⟨_,e'⟩:=u3 a ha;refine e.2.1 ((zB a).2 ?_);rcases e' with rfl|e'|e'
    ·exact⟨_,G3,.inl rfl⟩
    ·exact⟨_,G3,.inr e'⟩
    ·obtain⟨e',_,_⟩:=jD.1 e'
     rcases e' with⟨_,p,hp,e'⟩|e'
     ·exact⟨p,hp,.inr e'⟩
     ·exact⟨a,e',.inl rfl⟩
   rcases List.mem_append.1 hb with hb|hb
   ·have hbi:=(u3 b hb).1
    have:cg (G.D++ [⟨y,dB ps⟩]) [y] b= []:=by unfold cg;rw [List.filter_cons_of_neg (by simpa using fun e:oC _ y b=>SM b hb e.symm)];rfl
    rw [this,O.kn b hb,se fun a ha=>apt a b (u3 a ha).1 hbi];rfl
   ·have:b=y:=by simpa using hb
    subst this;have e2:cg (G.D++ [⟨b,dB ps⟩]) (im k G (bQ G ps) ps).wd b= []:=by
     unfold cg;rw [List.filter_eq_nil_iff];intro a ha;simpa using SM a ha
    have e3:cg (G.D++ [⟨b,dB ps⟩]) [b] b= []:=by unfold cg;rw [List.filter_cons_of_neg (by simpa using fun e:oC _ b b=>e.1 rfl)];rfl
    rw [e2,e3];have e4:ov b=none:=by
     cases BP:ov b with
     |none=>rfl
     |some n=>exact absurd (u3 b (O.RY b n BP)).1 hn
    have e5:nu sz l b=0:=by
     unfold nu;have:(l.findSome? fun h=>sz h b)=none:=by
      rw [List.findSome?_eq_none_iff];intro y hy;cases IB:sz y b with
      |none=>rfl
      |some n=>exact absurd (Z.RY y b n IB) hn
     rw [this];rfl
    unfold sr;rw [e4,e5];rfl
 ·rw [eD,lT]
  refine List.mem_append_left _ ?_;split at e
  ·exact(u3 b (O.RY b n e)).1
  ·exact Z.RY y b n e
noncomputable def zA(G:GS)(h:HT):List HT->List HT
 | []=> []
 |a::r=>(if oC G.D a h then [a]else [])++if fw G.D a h then []else cg G.D (eB (G.jW a).merge (G.jW a).fX) h++zA G h r
theorem Up.inv{P:List Int}{i:Nat}{l:List Nat}(h:Up P i l):(i=0/\l= [0])\/∃(j:Nat) (r:List Nat),l=i::r/\P[i]? =some (j:Int)/\Up P j r:=by
 cases h with
 |root=>exact .inl ⟨rfl,rfl⟩
 |step h1 h2=>exact .inr ⟨_,_,rfl,h1,h2⟩
theorem dD.inv{D:DG}{P:List Int}(W:jX D)(H:sS D P){h:HT}{l:List HT}(hm:h∈ids D)(c:dD D P h l):
 (l= [h]/\∃nd,D[0]? =some nd/\nd.id=h)\/∃(s:HT) (r:List HT),l=h::r/\mf D P s h/\s∈ids D/\dD D P s r:=by
 rcases c with⟨hn,_⟩|⟨i,m,ks,h1,h2,h3,h4⟩
 ·exact absurd hm hn
 ·rcases h3.inv with⟨rfl,rfl⟩|⟨j,r,rfl,h5,h6⟩
  ·refine .inl ⟨?_,m,h1,h2⟩
   rw [h4,List.map_cons,List.map_nil,oo h1,h2]
  ·have hj:j<D.length:=by
    cases i with
    |zero=>rw [H.root]at h5;simp only [Option.some.injEq]at h5;omega
    |succ i=>
     obtain⟨j',m',e,_,h7,_⟩:=H.up (i+1) _ m (by omega) h5 h1;have:=(lgeS h7).1;omega
   obtain⟨mj,P4⟩:∃mj,D[j]? =some mj:=⟨_,List.getElem?_eq_getElem hj⟩;refine .inr ⟨mj.id,r.map (o8 D),?_,⟨i,j,m,mj,h1,h2,h5,P4,rfl⟩,dI.2 ⟨mj,List.mem_of_getElem? P4,rfl⟩,.inr ⟨j,mj,r,P4,rfl,h6,rfl⟩⟩;rw [h4,List.map_cons,oo h1,h2]
theorem QT{k:Nat}{G:GS}(H:jT k G)(h:HT):∀(l:List HT) (s:HT),s∈ids G.D->dD G.D G.P s l->(zA G h l).Nodup/\∀y,y∈zA G h l↔y∈cg G.D (G.world s++ [s]) h:=by
 intro l
 induction l with
 |nil=>
  intro s hs c;rcases c.inv H.W H.np hs with⟨e,_⟩|⟨_,_,e,_⟩<;>cases e
 |cons a r ih=>
  intro s hs c;have key:∀(wb:List HT),G.world s=wb++eB (G.jW s).merge (G.jW s).fX->(zA G h r).Nodup->(∀y,y∈zA G h r↔y∈cg G.D wb h)->a=s->(zA G h (a::r)).Nodup/\∀y,y∈zA G h (a::r)↔y∈cg G.D (G.world s++ [s]) h:=by
   rintro wb hw hn hy rfl;obtain⟨w1,w2,_⟩:=H.wd a hs;have abv:=fw.irrefl H.W a;rw [hw]at w1 w2⊢;rw [List.nodup_append]at w1;obtain⟨w3,w4,w5⟩:=w1;unfold zA;by_cases ha:fw G.D a h
   ·have Lx:¬oC G.D a h:=fun e=>e.2.1 ha
    rw [if_pos ha,if_neg Lx];refine⟨by simp,fun y=>?_⟩;simp only [List.append_nil,List.not_mem_nil,false_iff];intro e;obtain⟨e1,e2⟩:=gF.1 e;rcases List.mem_append.1 e1 with e1|e1
    ·exact e2.2.1 ((w2 y e1).trans ha)
    ·have:y=a:=by simpa using e1
     subst this;exact Lx e2
   ·rw [if_neg ha]
    have hr:∀y∈zA G h r,y∈wb:=fun y e=>(gF.1 ((hy y).1 e)).1;refine⟨?_,fun y=>?_⟩
    ·refine List.nodup_append.2 ⟨by split<;>simp,List.nodup_append.2 ⟨w4.filter _,hn,?_⟩,?_⟩
     ·intro x hx z hz e
      subst e;exact w5 x (hr x hz) x (gF.1 hx).1 rfl
     ·intro x hx z hz e
      subst e;split at hx
      ·have:x=a:=by simpa using hx
       subst this;refine abv (w2 x ?_);rcases List.mem_append.1 hz with hz|hz
       ·exact List.mem_append_right _ (gF.1 hz).1
       ·exact List.mem_append_left _ (hr x hz)
      ·simp at hx
    ·rw [gg,gg]
     simp only [List.mem_append,hy];have e1:y∈(if oC G.D a h then [a]else [])↔y∈cg G.D [a] h:=by
      unfold cg;by_cases hp:oC G.D a h
      ·rw [if_pos hp,List.filter_cons_of_pos (by simpa using hp)];rfl
      ·rw [if_neg hp,List.filter_cons_of_neg (by simpa using hp)];rfl
     rw [e1];constructor
     ·rintro(e|e|e)
      ·exact .inr e
      ·exact .inl (.inr e)
      ·exact .inl (.inl e)
     ·rintro((e|e)|e)
      ·exact .inr (.inr e)
      ·exact .inr (.inl e)
      ·exact .inl e
  rcases c.inv H.W H.np hs with⟨e,nd,h0,rfl⟩|⟨t,r',e,oU,ht,hc⟩
  ·obtain⟨r1,r2⟩:=H.root nd h0
   cases e;exact key [] (by rw [r2,r1];simp [eB]) (by simp [zA]) (fun y=>by simp [zA,cg]) rfl
  ·cases e
   obtain⟨_,u2,_⟩:=H.up t a oU;obtain⟨i1,i2⟩:=ih t ht hc;exact key (G.world t++ [t]) u2 i1 i2 rfl
noncomputable def oY(G:GS)(h:HT)(bl l:List HT):List HT:=cg G.D bl h++zA G h l
theorem Ml{k:Nat}{G:GS}(H:jT k G){h s:HT}{l bl:List HT}(hs:s∈ids G.D)(hl:dD G.D G.P s l)(hn:(G.world s++ [s]++bl).Nodup):
 (oY G h bl l).Nodup/\(oY G h bl l).length=(cg G.D (G.world s++ [s]++bl) h).length/\∀y,y∈oY G h bl l↔y∈cg G.D (G.world s++ [s]++bl) h:=by
 obtain⟨h1,h2⟩:=QT H h l s hs hl;have h0:=hn;rw [List.nodup_append]at hn;obtain⟨n1,n2,n3⟩:=hn;have hm:∀y,y∈oY G h bl l↔y∈cg G.D (G.world s++ [s]++bl) h:=fun y=>by
  unfold oY;rw [gg,List.mem_append,List.mem_append,h2];exact Or.comm
 have gA:(oY G h bl l).Nodup:=by
  refine List.nodup_append.2 ⟨n2.filter _,h1,?_⟩;intro x hx z hz e;subst e;exact n3 x (gF.1 ((h2 x).1 hz)).1 x (gF.1 hx).1 rfl
 exact⟨gA,((List.perm_ext_iff_of_nodup gA (h0.filter _)).2 hm).length_eq,hm⟩
def sg(k:Nat)(kn:HT->Nat)(done:List HT)(b:HT):Bool:=decide (done.length+1<=k/\kn b<k)
def fE(k:Nat)(kn:HT->Nat):List HT->List HT->Bool
 |_,[]=>true
 |done,b::l=>sg k kn done b&&fE k kn (done++ [b]) l
theorem qo{k:Nat}{kn:HT->Nat}:∀ {l done:List HT},fE k kn done l=true↔(l≠ []->done.length+l.length<=k)/\∀b∈l,kn b<k
 | [],done=>by simp [fE]
 |b::l,done=>by
  unfold fE sg;rw [Bool.and_eq_true,decide_eq_true_eq,qo];simp only [List.length_append,List.length_cons,List.length_nil,List.mem_cons,forall_eq_or_imp,ne_eq,reduceCtorEq,not_false_eq_true,forall_const];constructor
  ·rintro⟨⟨h1,h2⟩,h3,h4⟩
   refine⟨?_,h2,h4⟩;by_cases e:l= []
   ·subst e;simpa using h1
   ·have:=h3 e;omega
  ·rintro⟨h1,h2,h3⟩
   refine⟨⟨by omega,h2⟩,fun _=>by omega,h3⟩
theorem mY{k:Nat}{kn:HT->Nat}:∀ {l m done:List HT},fE k kn done (l++m)=(fE k kn done l&&fE k kn (done++l) m)
 | [],m,done=>by simp [fE]
 |b::l,m,done=>by
  simp only [List.cons_append,fE,mY (l:=l),Bool.and_assoc,List.append_assoc,List.nil_append]
theorem Ju{k:Nat}{D:DG}{wd:List HT}{kn:HT->Nat}{h:HT}{c:List HT}(hk:∀b∈wd,kn b=(cg D wd b).length)(hl:c.length=(cg D wd h).length)(hm:∀y,y∈c↔y∈cg D wd h):
 fE k kn [] c=qX k D wd h:=by
 rw [Bool.eq_iff_iff,qo];unfold qX;rw [decide_eq_true_eq];simp only [List.length_nil,Nat.zero_add,<-hl];constructor
 ·rintro⟨h1,h2⟩
  refine⟨?_,fun y hy=>?_⟩
  ·by_cases e:c= []
   ·subst e;simp
   ·exact h1 e
  ·have:=h2 y ((hm y).2 hy)
   rw [hk y (gF.1 hy).1]at this;omega
 ·rintro⟨h1,h2⟩
  refine⟨fun _=>h1,fun y hy=>?_⟩;have hy:=(hm y).1 hy;rw [hk y (gF.1 hy).1];have:=h2 y hy;omega
open Go.RowKit
theorem HU:xx fy fF (.pointer none):=⟨by kernel_rfl,uH (by kernel_rfl)⟩
theorem sj:xx cU gZ (.int .i64 0):=⟨by kernel_rfl,uH (by kernel_rfl)⟩
structure Bo(w:World)(A:Option Addr)(n:Nat)(l:List Bool):Prop where
 len:l.length=n
 at_:∀(i:Nat) (b:Bool),l[i]? =some b->∃a,A=some a/\a.block<w.heap.size/\w.cell? (a.add i)=some (.bool b)
theorem Bo.aJ{S:Nat->Prop}{w w':World}{A:Option Addr}{n:Nat}{l:List Bool}(h:Bo w A n l)(hk:Kept S w w')(hn:∀a,A=some a->¬S a.block):Bo w' A n l:=⟨h.len,fun i x hi=>by
 obtain⟨a,h1,h2,h3⟩:=h.at_ i x hi;exact⟨a,h1,Nat.lt_of_lt_of_le h2 hk.size,hk.cell h3 (by rw [fg];exact hn a h1)⟩⟩
theorem Bo.same{w w':World}{A:Option Addr}{n:Nat}{l:List Bool}(h:Bo w A n l)(hk:Kept Nil w w'):Bo w' A n l:=h.aJ hk fun _ _ h=>h
def KK(ov:HT->Option Nat)(b:HT):Option Value:=(ov b).map fun n:Nat=>.int .i64 (n:Int)
def GU(w:World)(F:Nat->Prop)(sm:Option Nat)(sz:HT->Option Nat):Prop:=
 (sm=none/\∀b,sz b=none)\/∃s,sm=some s/\F s/\fU w s (KK sz)
def di(c:pr)(A:Option Addr)(n cp:Nat)(B:Option Addr)(m cq:Nat):Array Value:=c.np.1++ #[.int .u64 (c.score:Int),.slice A n cp,.slice B m cq]
structure qY(w:World)(F:Nat->Prop)(q:Nat)(c:pr)(sz:HT->Option Nat)(A:Option Addr)(n cp:Nat)(B:Option Addr)(m cq:Nat)(sm:Option Nat):Prop where
 top:w.heap[q]? =some (.cells (di c A n cp B m cq++ #[.map sm]) eE (0,0))
 mg:HS w A n c.merge
 bl:Bo w B m c.fX
 fA:∀a,A=some a->F a.block
 fB:∀a,B=some a->F a.block
 sz:GU w F sm sz
 fq:F q
def Seen(w:World)(F:Nat->Prop)(q:Nat)(c:pr)(sz:HT->Option Nat):Prop:=∃A n cp B m cq sm,qY w F q c sz A n cp B m cq sm
section
variable{w w':World}{F S:Nat->Prop}{q:Nat}{c:pr}{sz:HT->Option Nat}{A B:Option Addr}{n cp m cq:Nat}{sm:Option Nat}
theorem GU.aJ(h:GU w F sm sz)(hk:Kept S w w')(hF:∀j,F j->¬S j):GU w' F sm sz:=by
 rcases h with h|⟨s,h1,h2,h3⟩
 ·exact .inl h
 ·exact .inr ⟨s,h1,h2,h3.aJ hk (hF _ h2)⟩
theorem qY.aJ(h:qY w F q c sz A n cp B m cq sm)(hk:Kept S w w')(hF:∀j,F j->¬S j):qY w' F q c sz A n cp B m cq sm:=
 ⟨hk.heap h.top (hF _ h.fq),h.mg.aJ hk (fun a ha=>hF _ (h.fA a ha)),h.bl.aJ hk (fun a ha=>hF _ (h.fB a ha)),h.fA,h.fB,h.sz.aJ hk hF,h.fq⟩
theorem Seen.aJ(h:Seen w F q c sz)(hk:Kept S w w')(hF:∀j,F j->¬S j):Seen w' F q c sz:=by
 obtain⟨A,n,cp,B,m,cq,sm,h⟩:=h;exact⟨A,n,cp,B,m,cq,sm,h.aJ hk hF⟩
theorem bH(c:pr)(A:Option Addr)(n cp:Nat)(B:Option Addr)(m cq:Nat):(di c A n cp B m cq).size=35:=by
 unfold di;rw [Array.size_append,c.np.2.1];rfl
theorem gN(c:pr)(A:Option Addr)(n cp:Nat)(B:Option Addr)(m cq:Nat)(r:Array Value):
 ((di c A n cp B m cq)++r)[32]? =some (.int .u64 (c.score:Int))/\((di c A n cp B m cq)++r)[33]? =some (.slice A n cp)/\((di c A n cp B m cq)++r)[34]? =some (.slice B m cq)/\((di c A n cp B m cq)++r)[35]? =r[0]? :=by
 have hs:=bH c A n cp B m cq;have h0:c.np.1.size=32:=c.np.2.1;refine⟨?_,?_,?_,?_⟩
 ·rw [Array.getElem?_append_left (by omega)];unfold di;rw [Array.getElem?_append_right (by omega),h0];rfl
 ·rw [Array.getElem?_append_left (by omega)];unfold di;rw [Array.getElem?_append_right (by omega),h0];rfl
 ·rw [Array.getElem?_append_left (by omega)];unfold di;rw [Array.getElem?_append_right (by omega),h0];rfl
 ·rw [Array.getElem?_append_right (by omega),hs]
theorem qY.W9(h:qY w F q c sz A n cp B m cq sm):w.cell? (((⟨q,0,none⟩:Addr).add 0).add 32)=some (.int .u64 (c.score:Int)):=by
 rw [add_zero,bC,aE h.top];exact(gN ..).1
theorem qY.c35(h:qY w F q c sz A n cp B m cq sm):w.cell? ((⟨q,0,none⟩:Addr).add 35)=some (.map sm):=by
 rw [bC,aE h.top];exact(gN ..).2.2.2
theorem qY.jW(h:qY w F q c sz A n cp B m cq sm):Cells w ((⟨q,0,none⟩:Addr).add 0) (di c A n cp B m cq):=by
 intro j u hj;rw [add_zero,bC,aE h.top,Array.getElem?_append_left (by rw [bH];have:=(Array.getElem?_eq_some_iff.1 hj).1;rw [bH]at this;omega)];rw [Nat.zero_add];exact hj
end
structure CM where
 x:Nat
 mb:Nat
 SX:Nat->Prop
 FX:Nat->Prop
 q:HT->Nat
 sz:HT->HT->Option Nat
def CM.own(m:CM)(c j:Nat):Prop:=m.SX j\/j=c\/j=m.mb
structure CV(w:World)(F:Nat->Prop)(c:Nat)(k:Nat)(G:GS)(m:CM):Prop where
 top:w.heap[c]? =some (.cells #[.int .i64 (k:Int),.pointer (some ⟨m.x,0,none⟩),.map (some m.mb)] iD (0,0))
 X:DJ w m.SX m.FX m.x G.D G.P
 all:fU w m.mb fun h=>if h∈ids G.D then some (.pointer (some ⟨m.q h,0,none⟩))else none
 seen:∀h∈ids G.D,Seen w F (m.q h) (G.jW h) (m.sz h)
 hZ:jT k G
 Z:SZ G m.sz
 fx:∀j,m.FX j->F j
 fo:∀j,F j->¬m.own c j
 so:∀j,m.SX j->j≠c/\j≠m.mb
 ne:c≠m.mb
 low:∀j,m.own c j\/F j->j<w.heap.size
section
variable{w w':World}{F S:Nat->Prop}{c k:Nat}{G:GS}{m:CM}{K:Value->World->Prop}
theorem CV.aJ{S0:Nat->Prop}(h:CV w F c k G m)(hk:Kept S0 w w')(hS:∀j,m.own c j->¬S0 j)(hF:∀j,F j->¬S0 j):CV w' F c k G m where
 top:=hk.heap h.top (hS _ (.inr (.inl rfl)))
 X:=h.X.aJ hk (fun j e=>hS j (.inl e)) (fun j e=>hF j (h.fx j e))
 all:=h.all.aJ hk (hS _ (.inr (.inr rfl)))
 seen:=fun y hy=>(h.seen y hy).aJ hk hF
 hZ:=h.hZ
 Z:=h.Z
 fx:=h.fx
 fo:=h.fo
 so:=h.so
 ne:=h.ne
 low:=fun j e=>Nat.lt_of_lt_of_le (h.low j e) hk.size
theorem CV.same(h:CV w F c k G m)(hk:Kept Nil w w'):CV w' F c k G m:=h.aJ hk (fun _ _ h=>h) (fun _ _ h=>h)
theorem CV.c0(h:CV w F c k G m):w.cell? ((⟨c,0,none⟩:Addr).add 0)=some (.int .i64 (k:Int)):=by rw [bC,aE h.top];rfl
theorem CV.c1(h:CV w F c k G m):w.cell? ((⟨c,0,none⟩:Addr).add 1)=some (.pointer (some ⟨m.x,0,none⟩)):=by rw [bC,aE h.top];rfl
theorem CV.c2(h:CV w F c k G m):w.cell? ((⟨c,0,none⟩:Addr).add 2)=some (.map (some m.mb)):=by rw [bC,aE h.top];rfl
theorem CV.look(h:CV w F c k G m)(y:HT):(Instr.lookup fy (.map (some m.mb)) (.agg y.1) false).run prog w=.ok (.pointer (if y∈ids G.D then some ⟨m.q y,0,none⟩else none)) w:=by
 have:=h.all.look HU y;by_cases hy:y∈ids G.D
 ·rw [if_pos hy]at this;rw [if_pos hy];exact this
 ·rw [if_neg hy]at this;rw [if_neg hy];exact this
theorem CV.qR(h:CV w F c k G m){y:HT}(hy:y∈ids G.D):(Instr.lookup fy (.map (some m.mb)) (.agg y.1) false).run prog w=.ok (.pointer (some ⟨m.q y,0,none⟩)) w:=by
 have:=h.look y;rwa [if_pos hy]at this
theorem ug(h:CV w F c k G m)(hK:K (.bool true) w):bD prog eI.id #[.pointer (some ⟨c,0,none⟩)] w K:=
 eI.of (Split.yes rfl ⟨_,h.c1,hK⟩)
theorem GD{A:Addr}{x y:Int}{cx:Nat}(h0:w.cell? A=some (.int .i64 x))(h1:w.cell? (A.add 1)=some (.int .i64 y))(hK:K (.int .i64 (if x=0 then y else x)) w):
 bD prog bU.id #[.slice (some A) 2 cx] w K:=by
 refine bU.of ?_;unfold bU.W;refine bU.cJ (I:=fun s w'=>w'=w/\((s=(0,0))\/(s=(0,1)/\x=0)\/(s=(0,2)/\x=0/\y=0))) (μ:=fun s _=>(2-s.2).toNat) (s:=(0,0)) ⟨rfl,.inl rfl⟩ ?_;rintro s w' ⟨rfl,h⟩;rcases h with rfl|⟨rfl,hx⟩|⟨rfl,hx,hy⟩
 ·refine Split.yes rfl ⟨by simp only;omega,x,by rw [show(0:Int).toNat*1=0 from rfl,add_zero];exact h0,?_⟩
  by_cases hx:x=0
  ·refine Split.no (by simp [hx]) ?_
   exact⟨(0,1),rfl,⟨rfl,.inr (.inl ⟨rfl,hx⟩)⟩,by simp only;omega⟩
  ·refine Split.yes (by simpa using hx) ?_
   rw [if_neg hx]at hK;rw [iO];exact hK
 ·refine Split.yes rfl ⟨by simp only;omega,y,h1,?_⟩
  rw [if_pos hx]at hK;by_cases hy:y=0
  ·refine Split.no (by simp [hy]) ?_
   exact⟨(0,2),rfl,⟨rfl,.inr (.inr ⟨rfl,hx,hy⟩)⟩,by simp only;omega⟩
  ·refine Split.yes (by simpa using hy) ?_
   rw [iO];exact hK
 ·refine Split.no rfl ?_
  rw [aX,bU.dv];rw [if_pos hx,hy]at hK;exact hK
theorem Dp{x y:Int}(hK:K (.int .i64 (if x<y then-1 else if y<x then 1 else 0)) w):bD prog dO.id #[.int .u64 x,.int .u64 y] w K:=by
 refine dO.of ?_;refine fH.of ⟨_,rfl,?_⟩;refine fH.of ⟨_,rfl,?_⟩;refine Split.no (by simp) (Split.no (by simp) (Split.dec (fun h=>?_) (fun h=>Split.dec (fun h'=>?_) (fun h'=>?_))))
 ·rw [if_pos h]at hK;exact hK
 ·rw [if_neg h,if_pos h']at hK;exact hK
 ·rw [if_neg h,if_neg h']at hK;exact hK
theorem qg(h:CV w F c k G m){a b:HT}(ha:a∈ids G.D)(hb:b∈ids G.D)(hK:∀w',Kept Nil w w'->K (.int .i64 (Bu G a b)) w'):
 bD prog bK.id #[.pointer (some ⟨c,0,none⟩),.agg a.1,.agg b.1] w K:=by
 refine bK.of ?_;unfold bK.W;intro w4 w5 w6;have k4:Kept Nil w w4:=(Kept.refl _ _).alloc _;have C1:w4.heap[w.heap.size]? =some (.cells a.1 al (0,0)):=aM w _;have k5:Kept Nil w4 w5:=(Kept.refl _ _).alloc _;have pC:w5.heap[w4.heap.size]? =some (.cells b.1 al (0,0)):=aM w4 _;have k6:Kept Nil w5 w6:=(Kept.refl _ _).drew;clear_value w6;have xg:=(k5.tt k6).heap C1 (fun h=>h);have qd:=k6.heap pC (fun h=>h);have p7:=(k4.tt k5).tt k6;have h6:=h.same p7;obtain⟨A1,n1,c1,B1,m1,d1,s1,sa⟩:=h6.seen a ha;obtain⟨A2,n2,c2,B2,m2,d2,s2,sb⟩:=h6.seen b hb;refine⟨_,h6.c2,a.1,⟨a.2.1,Cells.bV xg⟩,_,h6.qR ha,_,sa.W9,_,h6.c2,b.1,⟨b.2.1,Cells.bV qd⟩,_,h6.qR hb,_,sb.W9,a.1,⟨a.2.1,Cells.bV xg⟩,b.1,⟨b.2.1,Cells.bV qd⟩,?_⟩;refine Dp ⟨_,rfl,⟨b.1,rfl,b.2.1,Cells.bV qd⟩,⟨a.1,rfl,a.2.1,Cells.bV xg⟩,?_⟩;refine ql a b ⟨_,rfl,?_⟩;have k7:Kept Nil w6 ((w6.alloc (.cells a.1 al)).alloc (.cells b.1 al)).drew:=(((Kept.refl Nil w6).alloc _).alloc _).drew;generalize ((w6.alloc (.cells a.1 al)).alloc (.cells b.1 al)).drew=w7 at k7⊢;intro w8;have k8:Kept Nil w7 w8:=(Kept.refl _ _).alloc _;have RT:w8.heap[w7.heap.size]? =some (.cells _ _ (0,0)):=aM w7 _;clear_value w8;refine GD (A:=⟨w7.heap.size,0,none⟩) (by rw [aE RT];rfl) (by rw [bC,aE RT];rfl) ⟨_,rfl,?_⟩;have e:(if(if((G.jW a).score:Int)<((G.jW b).score:Int)then(-1:Int)else if((G.jW b).score:Int)<((G.jW a).score:Int)then 1 else 0)=0 then lW a b else if((G.jW a).score:Int)<((G.jW b).score:Int)then(-1:Int)else if((G.jW b).score:Int)<((G.jW a).score:Int)then 1 else 0)=Bu G a b:=by
  rw [Mk];unfold GS.score;by_cases h1:(G.jW a).score<(G.jW b).score
  ·have uf:((G.jW a).score:Int)<((G.jW b).score:Int):=by omega
   rw [if_pos h1,if_pos uf,if_neg (by decide)]
  ·have uf:¬((G.jW a).score:Int)<((G.jW b).score:Int):=by omega
   by_cases h2:(G.jW b).score<(G.jW a).score
   ·have vU:((G.jW b).score:Int)<((G.jW a).score:Int):=by omega
    rw [if_neg h1,if_neg uf,if_pos h2,if_pos vU,if_neg (by decide)]
   ·have vU:¬((G.jW b).score:Int)<((G.jW a).score:Int):=by omega
    rw [if_neg h1,if_neg uf,if_neg h2,if_neg vU,if_pos rfl]
 rw [e];exact hK _ ((p7.tt k7).tt k8)
end
section
variable{w:World}
theorem fU.Eh{mt te:TypeId}{z:Value}(T:xx mt te z){m:Nat}{f:HT->Option Value}(hm:fU w m f)(h:HT):
 (Instr.lookup mt (.map (some m)) (.agg h.1) true).run prog w=.ok (.tuple #[(f h).getD z,.bool (f h).isSome]) w:=by
 obtain⟨es,clock,l,h1,h2,h3,_⟩:=hm.ex;have h4:=mv h w h2;have h5:=nC h l 0;rw [h3]at h5;simp only [Instr.lookup,Sem.run_bind,run_underlying T.pz,qh h1,Result.andThen_ok,Sem.run_pure,jC,h4];cases hp:mu h l 0 with
 |none=>rw [hp]at h5;simp [<-h5,T.zero]
 |some p=>rw [hp]at h5;simp [<-h5]
theorem Cw{mt te:TypeId}{z:Value}(T:xx mt te z)(h:HT):
 (Instr.lookup mt (.map none) (.agg h.1) true).run prog w=.ok (.tuple #[z,.bool false]) w:=by
 have h3:=mv (es:= []) (l:= []) h w trivial;simp only [Instr.lookup,Sem.run_bind,run_underlying T.pz,Result.andThen_ok,Sem.run_pure,jC];simp [h3,mu,T.zero]
theorem GU.Eh{F:Nat->Prop}{sm:Option Nat}{sz:HT->Option Nat}(h:GU w F sm sz)(b:HT):
 (Instr.lookup cU (.map sm) (.agg b.1) true).run prog w=.ok (.tuple #[.int .i64 (((sz b).getD 0:Nat):Int),.bool (sz b).isSome]) w:=by
 rcases h with⟨rfl,h⟩|⟨s,rfl,_,h⟩
 ·rw [h b];exact Cw sj b
 ·have:=h.Eh sj b
  unfold KK at this;cases hb:sz b with
  |none=>rw [hb]at this;exact this
  |some n=>rw [hb]at this;exact this
end
section
variable{w w':World}{F S:Nat->Prop}{c k:Nat}{G:GS}{m:CM}{K:Value->World->Prop}
theorem Bj(h:CV w F c k G m)(hD:G.D.length<=5000)(a b:HT)(hK:∀w' (r:Bool),(r=true↔oC G.D a b)->Kept Nil w w'->K (.bool r) w'):
 bD prog dz.id #[.pointer (some ⟨c,0,none⟩),.agg a.1,.agg b.1] w K:=by
 refine dz.of ?_;unfold dz.W;intro w4 w5 w6;have k4:Kept Nil w w4:=(Kept.refl _ _).alloc _;have C1:w4.heap[w.heap.size]? =some (.cells a.1 al (0,0)):=aM w _;have k5:Kept Nil w4 w5:=(Kept.refl _ _).alloc _;have pC:w5.heap[w4.heap.size]? =some (.cells b.1 al (0,0)):=aM w4 _;have k6:Kept Nil w5 w6:=(Kept.refl _ _).drew;clear_value w6;have xg:=(k5.tt k6).heap C1 (fun h=>h);have qd:=k6.heap pC (fun h=>h);have p7:=(k4.tt k5).tt k6;have h6:=h.same p7;refine⟨a.1,⟨a.2.1,Cells.bV xg⟩,b.1,⟨b.2.1,Cells.bV qd⟩,⟨a.2.ints,b.2.ints⟩,?_⟩;rw [fL];by_cases mB:a=b
 ·refine Split.no (by rw [decide_eq_true mB];rfl) (hK w6 false ⟨(fun e=>by cases e),fun e=>absurd mB e.1⟩ p7)
 ·refine Split.yes (by rw [decide_eq_false mB];rfl) ⟨_,h6.c1,a.1,⟨a.2.1,Cells.bV xg⟩,b.1,⟨b.2.1,Cells.bV qd⟩,?_⟩
  obtain⟨mx,X6,_⟩:=h6.X;refine lr X6 hD a b fun w7 r hr k7=>⟨_,rfl,?_⟩;have vJ:=p7.tt k7;cases r with
  |true=>exact Split.no rfl (hK w7 false ⟨(fun e=>by cases e),fun e=>absurd (hr.1 rfl) e.2.1⟩ vJ)
  |false=>
   have h7:=h.same vJ;refine Split.yes rfl ⟨_,h7.c1,b.1,⟨b.2.1,Cells.bV (k7.heap qd (fun h=>h))⟩,a.1,⟨a.2.1,Cells.bV (k7.heap xg (fun h=>h))⟩,?_⟩;obtain⟨mx',X7,_⟩:=h7.X;refine lr X7 hD b a fun w8 r' RG k8=>⟨_,rfl,hK w8 _ ?_ (vJ.tt k8)⟩;cases r' with
   |true=>exact⟨(fun e=>by cases e),fun e=>absurd (RG.1 rfl) e.2.2⟩
   |false=>exact⟨fun _=>⟨mB,(fun e=>by have:=hr.2 e;cases this),(fun e=>by have:=RG.2 e;cases this)⟩,fun _=>rfl⟩
def lD(D:DG)(l:List HT):Int:=if l= []then 9 else if ∃p∈l,p∉ids D then 6 else 0
theorem yh(h:CV w F c k G m){A:Option Addr}{n cx:Nat}{l:List HT}(hl:HS w A n l)(hn:n<=400000)(hK:∀w',Kept Nil w w'->K (.int .i64 (lD G.D l)) w'):
 bD prog eN.id #[.pointer (some ⟨c,0,none⟩),.slice A n cx] w K:=by
 have hlen:=hl.len;refine eN.of ?_;unfold eN.W;intro w4;have k4:Kept Nil w w4:=(Kept.refl _ _).alloc _;have NF:w4.heap[w.heap.size]? =some (.cells #[.pointer (some ⟨c,0,none⟩)] dC (0,0)):=aM w _;clear_value w4;refine⟨some ⟨c,0,none⟩,by rw [aE NF];rfl,ug (h.same k4) ⟨_,rfl,Split.no rfl ?_⟩⟩;by_cases h0:n=0
 ·subst h0
  have e:l= []:=List.eq_nil_of_length_eq_zero hlen;refine Split.yes rfl ?_;have:=hK w4 k4;unfold lD at this;rw [if_pos e]at this;exact this
 ·have fP:l≠ []:=fun e=>by subst e;exact h0 hlen.symm
  refine Split.no (by simpa using (by omega:¬(n:Int)=0)) ?_;refine cy.of (au.of ?_);refine au.cJ (I:=fun s w'=>∃i:Nat,s=(0,(i:Int))/\i<=n/\(∀p∈l.take i,p∈ids G.D)/\Kept Nil w4 w') (μ:=fun s _=>((n:Int)-s.2).toNat) (s:=(0,0)) ⟨0,rfl,Nat.zero_le _,by simp,Kept.refl _ _⟩ ?_;rintro s w' ⟨i,rfl,hi,cZ,kw⟩;have k0w:=k4.tt kw;refine Split.dec (fun jV=>?_) (fun gK=>?_)
  ·simp only at jV
   have eh:i<n:=by omega
   obtain⟨y,hy⟩:∃y,l[i]? =some y:=⟨_,List.getElem?_eq_getElem (by omega)⟩;refine(hl.same k0w).load (i:=(i:Int)) (by omega) hy ?_;refine eR.of ?_;unfold eR.W;intro w7 w8;have k7:Kept Nil w' w7:=(Kept.refl _ _).alloc _;have hb7:w7.heap[w'.heap.size]? =some (.cells y.1 al (0,0)):=aM w' _;have k8:Kept Nil w7 w8:=(Kept.refl _ _).drew;clear_value w8;have RT:=k8.heap hb7 (fun h=>h);have Rq:=(kw.tt k7).tt k8;have h8:=h.same (k4.tt Rq);refine⟨some ⟨c,0,none⟩,by rw [aE (Rq.heap NF (fun h=>h))];rfl,_,h8.c2,y.1,⟨y.2.1,Cells.bV RT⟩,_,h8.look y,_,rfl,?_⟩;by_cases hm:y∈ids G.D
   ·refine Split.no (by rw [if_pos hm];rfl) ?_
    simp only;rw [dH (n:=(i:Int)) (by omega) (by omega)];refine⟨(0,(i:Int)+1),rfl,⟨i+1,rfl,eh,fun p hp=>?_,Rq⟩,by simp only;omega⟩;rcases(bT hy).1 hp with hp|rfl
    ·exact cZ p hp
    ·exact hm
   ·refine Split.yes (by rw [if_neg hm];rfl) ?_
    refine⟨(i:Int),rfl,_,rfl,?_⟩;have:=hK w8 (k4.tt Rq);unfold lD at this;rw [if_neg fP,if_pos ⟨y,List.mem_of_getElem? hy,hm⟩]at this;refine Split.yes (decide_eq_true (by omega)) this
  ·simp only at gK
   rw [aX,au.dv];rw [List.take_of_length_le (by omega)]at cZ;refine⟨_,rfl,_,rfl,?_⟩;have:=hK w' k0w;unfold lD at this;rw [if_neg fP,if_neg (fun⟨p,hp,hn⟩=>hn (cZ p hp))]at this;exact Split.no (by decide) this
end
theorem um{α β:Type}{f:α->Option β}{y:α}{n:β}:∀ {l:List α} {j:Nat},l[j]? =some y->(∀x∈l.take j,f x=none)->f y=some n->l.findSome? f=some n
 | [],j,h,_,_=>by simp at h
 |x::l,0,h,_,hy=>by
  simp only [List.getElem?_cons_zero,Option.some.injEq]at h;subst h;rw [List.findSome?_cons,hy]
 |x::l,j+1,h,ha,hy=>by
  have hx:=ha x (by simp);rw [List.findSome?_cons,hx];exact um (l:=l) (j:=j) (by simpa using h) (fun z hz=>ha z (by simp [hz])) hy
section
variable{w w':World}{F S:Nat->Prop}{c k:Nat}{G:GS}{m:CM}{K:Value->World->Prop}
theorem C9(h:CV w F c k G m)(hD:G.D.length<=5000){a b:HT}(ha:a∈ids G.D){l:List HT}(hc:dD G.D G.P a l)(hK:∀w',Kept Nil w w'->K (.int .i64 ((nu m.sz l b:Nat):Int)) w'):
 bD prog bu.id #[.pointer (some ⟨c,0,none⟩),.agg a.1,.agg b.1] w K:=by
 have W:=h.hZ.W;have H:=h.hZ.np;have Yf:∀y∈l,y∈ids G.D:=fun y hy=>((hc.mem W H).1 hy).mem.1;refine bu.of ?_;unfold bu.W;intro w4 w5 w6 w7 w8;have k4:Kept Nil w w4:=(Kept.refl _ _).alloc _;have NF:w4.heap[w.heap.size]? =some (.cells #[.pointer (some ⟨c,0,none⟩)] dC (0,0)):=aM w _;have k5:Kept Nil w4 w5:=(Kept.refl _ _).alloc _;have LX:w5.heap[w4.heap.size]? =some (.cells a.1 al (0,0)):=aM w4 _;have k6:Kept Nil w5 w6:=(Kept.refl _ _).alloc _;have qd:w6.heap[w5.heap.size]? =some (.cells b.1 al (0,0)):=aM w5 _;have k7:Kept Nil w6 w7:=(Kept.refl _ _).alloc _;have Ng:w7.heap[w6.heap.size]? =some (.cells #[.int .i64 0] gZ (0,0)):=aM w6 _;have k8:Kept Nil w7 w8:=(Kept.refl _ _).drew;clear_value w8;have X1:=k8.heap Ng (fun h=>h);have RT:=k8.heap (k7.heap qd (fun h=>h)) (fun h=>h);have ha8:=k8.heap (k7.heap (k6.heap LX (fun h=>h)) (fun h=>h)) (fun h=>h);have hc8:=k8.heap (k7.heap (k6.heap (k5.heap NF (fun h=>h)) (fun h=>h)) (fun h=>h)) (fun h=>h);have zu:=(((k4.tt k5).tt k6).tt k7).tt k8;have s06:=(((k4.tt k5).tt k6)).size;have l7:=aY Ng;have l8:=aY X1;clear_value w7 w6 w5 w4;refine⟨some ⟨c,0,none⟩,by rw [aE hc8];rfl,_,(h.same zu).c1,a.1,⟨a.2.1,Cells.bV ha8⟩,?_⟩;refine tR a fun jA pb qb ns Lu Lt vL hqb=>⟨_,rfl,?_⟩;have Zl:=ns.size;have Im:=zu.tt ns;have PT:=ns.heap X1 (fun h=>h)
 let De:Value:=.func (.func br.id) #[] #[.pointer (some ⟨pb,0,none⟩),.pointer (some ⟨qb,0,none⟩)]
 let ρ0:Env:= [(3,.pointer (some ⟨w.heap.size,0,none⟩)),(5,.pointer (some ⟨w5.heap.size,0,none⟩)),(6,.pointer (some ⟨w6.heap.size,0,none⟩)),(15,De)]
 let J:Nat->World->Prop:=fun j u=>Kept Nil jA u/\j<=l.length/\∀y∈l.take j,m.sz y b=none
 let Jd:Code->World->Prop:=fun e u=>e=.ret/\Kept (fun k=>k=w6.heap.size) jA u/\∃n:Nat,(l.findSome? fun y=>m.sz y b)=some n/\u.heap[w6.heap.size]? =some (.cells #[.int .i64 (n:Int)] gZ (0,0))
 have k0J:∀ {u:World},Kept Nil jA u->Kept Nil w u:=fun k=>Im.tt k;have kS:∀ {v:World},Kept (fun k=>k=w6.heap.size) jA v->Kept Nil w v:=fun k=>Im.trans k (fun k hk e=>by omega);obtain⟨mx,X35,_⟩:=(h.same Im).X
 change Holds none [] prog _ _ _ ρ0 jA
 refine oK (n:=33) (ρ:=ρ0) (ρ0:=ρ0) ng mix bu.k (t:=15) (ps:= #[16]) (by kernel_rfl) (by decide) rfl br.at_ rfl (.inl rfl) (fun i x hi hx=>hx) rfl sF l (fun _=>rfl) (fun q hq=>by
  have e49:q=16:=by simpa using hq
  subst e49;exact⟨by decide,by decide⟩) (DU (F:=m.FX) (x:=m.x) (m:=mx) (pb:=pb) (qb:=qb) hc (by omega)) J Jd ?_ ?_ (fun j u hJ=>⟨X35.same hJ.1,hJ.1.heap Lu (fun h=>h),hJ.1.heap Lt (fun h=>h)⟩) ?_ ?_ ?_ ?_ ?_
 ·rintro j u1 u2 R rG ⟨h1,h2,h3⟩ oW
  exact⟨h1.trans oW (fun k hk e=>by omega),h2,h3⟩
 ·rintro e u1 u2 R rG ⟨h1,h2,n,h3,h4⟩ oW
  exact⟨h1,h2.trans oW (fun k hk e=>by omega),n,h3,oW.heap h4 (by omega)⟩
 ·intro R
  exact⟨(((Kept.refl _ _).alloc _).alloc _),Nat.zero_le _,by simp⟩
 ·rintro j z u1 R hz ⟨h1,h2,h3⟩ rG
  have e7:ml ρ0 ((#[16]:Array Nat).toList.zip (sF z))= [(3,.pointer (some ⟨w.heap.size,0,none⟩)),(5,.pointer (some ⟨w5.heap.size,0,none⟩)),(6,.pointer (some ⟨w6.heap.size,0,none⟩)),(15,De),(16,.agg z.1)]:=rfl;rw [e7,bu.a1];have uN:=(lgeS hz).1;unfold bu.A1;intro Rk;obtain⟨tq,j0,kz⟩:=iL (w:=u1) (z:=fz.1) (cs:=z.1) (t:=al) (by rw [z.2.1];rfl);refine⟨⟨z.2.1,z.2.one,fun j hj=>tq j (by rw [z.2.1];exact hj)⟩,?_⟩;intro Mv
  replace j0:Mv.heap[u1.heap.size]? =some (.cells z.1 al (0,0)):=j0
  replace kz:Kept Nil u1 Mv:=kz
  clear_value Mv;have IW:=rG.aJ kz (fun h=>h) (fun h=>h);refine⟨IW,fun w2 R2 oV uA=>?_⟩;have nA:=oV.heap j0 (lN j0 IW.loop);have wR:Kept Nil jA w2:=(h1.tt kz).trans oV (fun k hk e=>by omega);rw [bu.y1];unfold bu.Y1;intro Sh;have ZU:Kept Nil w2 Sh:=(Kept.refl _ _).drew;clear_value Sh;have U6:=uA.aJ ZU (fun h=>h) (fun h=>h);have AM:=wR.tt ZU;have O5:=ns.tt AM;have h48:=h.same (zu.tt O5);obtain⟨A1,n1,c1,B1,m1,d1,s1,sa⟩:=h48.seen z (Yf z (List.mem_of_getElem? hz));refine⟨some ⟨c,0,none⟩,by rw [aE (O5.heap hc8 (fun h=>h))];rfl,_,h48.c2,z.1,⟨z.2.1,Cells.bV (ZU.heap nA (fun h=>h))⟩,_,h48.qR (Yf z (List.mem_of_getElem? hz)),_,sa.c35,b.1,⟨b.2.1,Cells.bV (O5.heap RT (fun h=>h))⟩,_,_,sa.sz.Eh b,?_⟩;cases hzb:m.sz z b with
  |some n=>
   refine Split.yes rfl ⟨dN (AM.heap PT (fun h=>h)) (by simp),?_⟩;intro qZ;have PR:qZ.heap[w6.heap.size]? =some (.cells #[.int .i64 (n:Int)] gZ (0,0)):=by
    show(Sh.setCell ⟨w6.heap.size,0,none⟩ (.int .i64 (n:Int))).heap[w6.heap.size]? =_;rw [dp (AM.heap PT (fun h=>h)) 0];rfl
   have F7:Kept (· =w6.heap.size) Sh qZ:=Kept.setCell (S:=fun k=>k=w6.heap.size) (Kept.refl _ Sh) (p:=⟨w6.heap.size,0,none⟩) (fun _=>rfl) _;clear_value qZ;exact⟨U6.aJ F7 (fun e=>by omega) (fun e=>by omega),rfl,(AM.mono fun _ _ h=>h.elim).tt F7,n,um hz h3 hzb,PR⟩
  |none=>
   refine Split.no rfl ⟨U6,AM,uN,fun y hy=>?_⟩;rcases(bT hz).1 hy with hy|rfl
   ·exact h3 y hy
   ·exact hzb
 ·rintro u1 R ⟨h1,h2,h3⟩ rG
  rw [List.take_of_length_le (Nat.le_refl _)]at h3;have e7:iU ρ0 jA.heap.size= [(3,.pointer (some ⟨w.heap.size,0,none⟩)),(5,.pointer (some ⟨w5.heap.size,0,none⟩)),(6,.pointer (some ⟨w6.heap.size,0,none⟩)),(15,De),(4294967296,.agg (ru [jA.heap.size]))]:=rfl;rw [e7,bu.lG];unfold bu.jR;have nz:=h1.heap PT (fun h=>h);refine⟨dN nz (by simp),?_⟩;intro qZ;have PR:qZ.heap[w6.heap.size]? =some (.cells #[.int .i64 0] gZ (0,0)):=by
   show(u1.setCell ⟨w6.heap.size,0,none⟩ (.int .i64 0)).heap[w6.heap.size]? =_;rw [dp nz 0];rfl
  have F7:Kept (· =w6.heap.size) u1 qZ:=Kept.setCell (S:=fun k=>k=w6.heap.size) (Kept.refl _ u1) (p:=⟨w6.heap.size,0,none⟩) (fun _=>rfl) _;clear_value qZ;have rG:=rG.aJ F7 (fun e=>by omega) (fun e=>by omega);rw [om];have kt:=lf [jA.heap.size] qZ;have hm:∀E∈ [jA.heap.size],qZ.heap[E]? =some (.deferred (some [])):=fun E hE=>by
   rw [List.mem_singleton]at hE;subst hE;exact rG.mark
  refine⟨mQ [jA.heap.size] qZ (by simp) hm,0,by rw [aE (kt.heap PR (fun hE=>by rw [List.mem_singleton]at hE;omega))];rfl,?_⟩;have e0:nu m.sz l b=0:=by
   unfold nu;have:(l.findSome? fun h=>m.sz h b)=none:=List.findSome?_eq_none_iff.2 h3;rw [this];rfl
  have:=hK (gQ [jA.heap.size] qZ) ((kS ((h1.mono fun _ _ h=>h.elim).tt F7)).trans kt (fun k hk hE=>by rw [List.mem_singleton]at hE;have:=Im.size;omega));rw [e0]at this;exact this
 ·rintro u1 R ⟨_,h2,n,h3,h4⟩ rG
  have e7:iU ρ0 jA.heap.size= [(3,.pointer (some ⟨w.heap.size,0,none⟩)),(5,.pointer (some ⟨w5.heap.size,0,none⟩)),(6,.pointer (some ⟨w6.heap.size,0,none⟩)),(15,De),(4294967296,.agg (ru [jA.heap.size]))]:=rfl;rw [e7,bu.BU];unfold bu.wB;rw [om];have kt:=lf [jA.heap.size] u1;have hm:∀E∈ [jA.heap.size],u1.heap[E]? =some (.deferred (some [])):=fun E hE=>by
   rw [List.mem_singleton]at hE;subst hE;exact rG.mark
  refine⟨mQ [jA.heap.size] u1 (by simp) hm,(n:Int),by rw [aE (kt.heap h4 (fun hE=>by rw [List.mem_singleton]at hE;omega))];rfl,?_⟩;have e0:nu m.sz l b=n:=by unfold nu;rw [h3];rfl
  have:=hK (gQ [jA.heap.size] u1) ((kS h2).trans kt (fun k hk hE=>by rw [List.mem_singleton]at hE;have:=Im.size;omega));rw [e0]at this;exact this
 ·rintro id u1 R ⟨e,_⟩ rG
  cases e
end
section
variable{w:World}
theorem BA{x:HT}:∀ {l:List (HT×Value)},assoc x l≠none↔x∈l.map (·.1)
 | []=>by simp [assoc]
 |(y,v)::l=>by
  have:=BA (x:=x) (l:=l);unfold assoc;by_cases e:x=y
  ·subst e;simp
  ·rw [if_neg e,this]
   simp only [List.map_cons,List.mem_cons];exact⟨.inr,fun h=>h.resolve_left e⟩
theorem fU.len{mt te:TypeId}{z:Value}(T:xx mt te z){m:Nat}{f:HT->Option Value}(hm:fU w m f)(ty:TypeId){l:List HT}(hn:l.Nodup)(hl:∀x,f x≠none↔x∈l):
 (Builtin.len_ #[mt] ty #[.map (some m)]).run prog w=.ok (.int .i64 (l.length:Int)) w:=by
 obtain⟨es,clock,l',h1,h2,h3,_,_,h6⟩:=hm.ex;have e1:es.size=l'.length:=by have:=h2.len;simpa using this
 have e2:l'.length=l.length:=by
  have hp:(l'.map (·.1)).Perm l:=(List.perm_ext_iff_of_nodup h6 hn).2 fun x=>by rw [<-BA,h3,hl]
  simpa using hp.length_eq
 simp [Builtin.len_,run_underlying T.pz,qh h1,goInt,Result.andThen,e1,e2]
end
section
variable{w w':World}{F S:Nat->Prop}{c k:Nat}{G:GS}{m:CM}{K:Value->World->Prop}
structure VB(w:World)(c:Nat)(s:HT)(bs bc bh q sm:Nat)(ov:HT->Option Nat):Prop where
 hs:w.heap[bs]? =some (.cells #[.pointer (some ⟨q,0,none⟩)] fF (0,0))
 hc:w.heap[bc]? =some (.cells #[.pointer (some ⟨c,0,none⟩)] dC (0,0))
 hh:w.heap[bh]? =some (.cells s.1 al (0,0))
 sz:w.cell? ((⟨q,0,none⟩:Addr).add 35)=some (.map (some sm))
 ov:fU w sm (KK ov)
theorem VB.aJ{S:Nat->Prop}{s:HT}{bs bc bh q sm:Nat}{ov:HT->Option Nat}(h:VB w c s bs bc bh q sm ov)(hk:Kept S w w')(h1:¬S bs)(h2:¬S bc)(h3:¬S bh)(h4:¬S q)(h5:¬S sm):VB w' c s bs bc bh q sm ov:=
 ⟨hk.heap h.hs h1,hk.heap h.hc h2,hk.heap h.hh h3,hk.cell h.sz h4,h.ov.aJ hk h5⟩
theorem VB.same{s:HT}{bs bc bh q sm:Nat}{ov:HT->Option Nat}(h:VB w c s bs bc bh q sm ov)(hk:Kept Nil w w'):VB w' c s bs bc bh q sm ov:=h.aJ hk (fun h=>h) (fun h=>h) (fun h=>h) (fun h=>h) (fun h=>h)
theorem Bi(h:CV w F c k G m)(hD:G.D.length<=5000){s b:HT}(hs:s∈ids G.D){l:List HT}(hc:dD G.D G.P s l){bs bc bh q sm:Nat}{ov:HT->Option Nat}(V:VB w c s bs bc bh q sm ov)
 (hK:∀w',Kept Nil w w'->K (.int .i64 ((sr ov (nu m.sz l) b:Nat):Int)) w'):
 bD prog cr.id #[.agg b.1,.pointer (some ⟨bs,0,none⟩),.pointer (some ⟨bc,0,none⟩),.pointer (some ⟨bh,0,none⟩)] w K:=by
 refine cr.of ?_;unfold cr.W;intro w4 w5;have k4:Kept Nil w w4:=(Kept.refl _ _).alloc _;have ud:w4.heap[w.heap.size]? =some (.cells b.1 al (0,0)):=aM w _;have k5:Kept Nil w4 w5:=(Kept.refl _ _).drew;clear_value w5;have pC:=k5.heap ud (fun h=>h);have o7:=k4.tt k5;have V5:=V.same o7;refine⟨some ⟨q,0,none⟩,by rw [aE V5.hs];rfl,_,V5.sz,b.1,⟨b.2.1,Cells.bV pC⟩,?_⟩;have lk:=V5.ov.Eh sj b;unfold KK at lk;cases hb:ov b with
 |some n=>
  rw [hb]at lk;refine⟨(n:Int),true,lk,Split.yes rfl ?_⟩;have:=hK w5 o7;unfold sr at this;rw [hb]at this;exact this
 |none=>
  rw [hb]at lk;refine⟨0,false,lk,Split.no rfl ⟨some ⟨c,0,none⟩,by rw [aE V5.hc];rfl,s.1,⟨s.2.1,Cells.bV V5.hh⟩,b.1,⟨b.2.1,Cells.bV pC⟩,?_⟩⟩;refine C9 (h.same o7) hD hs hc fun w7 k7=>⟨_,rfl,?_⟩;have:=hK w7 (o7.tt k7);unfold sr at this;rw [hb]at this;exact this
def zp(w:World)(fm:Nat)(kn:HT->Nat)(done:List HT):Prop:=fU w fm fun y=>if y∈done then some (.int .i64 (kn y:Int))else none
theorem Bg(h:CV w F c k G m)(hD:G.D.length<=5000)(pB:k<=1000){s b:HT}(hs:s∈ids G.D){l:List HT}(hc:dD G.D G.P s l){bs bc bh q sm kb fb fm:Nat}{ov:HT->Option Nat}(V:VB w c s bs bc bh q sm ov)
 (Nw:w.heap[kb]? =some (.cells #[.func (.func cr.id) #[] #[.pointer (some ⟨bs,0,none⟩),.pointer (some ⟨bc,0,none⟩),.pointer (some ⟨bh,0,none⟩)]] fI (0,0)))
 (RQ:w.heap[fb]? =some (.cells #[.map (some fm)] cU (0,0))) {done:List HT} (hn:done.Nodup) (Yr:b∉done) (hF:zp w fm (sr ov (nu m.sz l)) done) (hfo:¬m.own c fm) (hff:¬F fm) (fP:bc≠fm)
 (hK:∀w' (r:Bool),r=sg k (sr ov (nu m.sz l)) done b->zp w' fm (sr ov (nu m.sz l)) (done++ [b])->Kept (· =fm) w w'->K (.bool r) w'):
 bD prog cS.id #[.agg b.1,.pointer (some ⟨kb,0,none⟩),.pointer (some ⟨fb,0,none⟩),.pointer (some ⟨bc,0,none⟩)] w K:=by
 have lfm:=hF.lt;refine cS.of ?_;unfold cS.W;intro w4 w5;have k4:Kept Nil w w4:=(Kept.refl _ _).alloc _;have ud:w4.heap[w.heap.size]? =some (.cells b.1 al (0,0)):=aM w _;have k5:Kept Nil w4 w5:=(Kept.refl _ _).drew;clear_value w5;have pC:=k5.heap ud (fun h=>h);have o7:=k4.tt k5;have hnf:fb≠fm:=fun e=>by subst e;obtain⟨es,cl,_,h1,_⟩:=hF.ex;rw [RQ]at h1;cases h1
 refine⟨some fm,by rw [aE (o7.heap RQ (fun h=>h))];rfl,b.1,⟨b.2.1,Cells.bV pC⟩,_,by rw [aE (o7.heap Nw (fun h=>h))];rfl,b.1,⟨b.2.1,Cells.bV pC⟩,?_⟩;refine⟨_,_,_,_,rfl,cr.at_,rfl,?_⟩;refine Bi (h.same o7) hD hs hc (V.same o7) fun w7 k7=>⟨_,rfl,⟨b.1,rfl,b.2.1,Cells.bV (k7.heap pC (fun h=>h))⟩,?_,?_⟩
 ·rw [aE ((o7.tt k7).heap RQ (fun h=>h))];rfl
 have vJ:=o7.tt k7;obtain⟨w8,X1,hm8,k8⟩:=(hF.same vJ).put sj b (.int .i64 ((sr ov (nu m.sz l) b:Nat):Int));refine⟨w8,X1,?_⟩;intro w9;have k9:Kept Nil w8 w9:=(Kept.refl _ _).drew;clear_value w9;have k89:Kept (· =fm) w7 w9:=k8.trans k9 (fun _ _ h=>h.elim);have Gb:Kept (· =fm) w w9:=(vJ.mono fun _ _ h=>h.elim).tt k89;have RV:zp w9 fm (sr ov (nu m.sz l)) (done++ [b]):=by
  refine fU.same ?_ k9;have e:(fun y=>if y∈done++ [b]then some (Value.int .i64 ((sr ov (nu m.sz l) y:Nat):Int))else none)=fun x=>if x=b then some (.int .i64 ((sr ov (nu m.sz l) b:Nat):Int))else if x∈done then some (.int .i64 ((sr ov (nu m.sz l) x:Nat):Int))else none:=by
   funext y
   by_cases e:y=b
   ·subst e;rw [if_pos (by simp),if_pos rfl]
   ·rw [if_neg e]
    by_cases hy:y∈done
    ·rw [if_pos (List.mem_append_left _ hy),if_pos hy]
    ·rw [if_neg (by simp [hy,e]),if_neg hy]
  rw [e];exact hm8
 have hb9:w9.heap[w.heap.size]? =some (.cells b.1 al (0,0)):=((k7.mono fun _ _ h=>h.elim).tt k89:Kept (· =fm) w5 w9).heap pC (by omega);have VD:=Gb.heap RQ hnf;have gA:(done++ [b]).Nodup:=List.nodup_append.2 ⟨hn,by simp,fun x hx y hy e=>by
  have:y=b:=by simpa using hy
  subst this;subst e;exact Yr hx⟩
 have h9:CV w9 F c k G m:=h.aJ Gb (fun j hj e=>by subst e;exact hfo hj) (fun j hj e=>by subst e;exact hff hj);have hc9:w9.heap[bc]? =some (.cells #[.pointer (some ⟨c,0,none⟩)] dC (0,0)):=Gb.heap V.hc fP;refine⟨some fm,by rw [aE VD];rfl,(done++ [b]).length,RV.len sj gZ gA (fun x=>by
  by_cases hx:x∈done++ [b]
  ·rw [if_pos hx];exact⟨fun _=>hx,fun _ e=>by cases e⟩
  ·rw [if_neg hx];exact⟨fun e=>absurd rfl e,fun e=>absurd e hx⟩),some ⟨c,0,none⟩,by rw [aE hc9];rfl,(k:Int),h9.c0,?_⟩
 refine Split.dec (fun h1=>?_) (fun h1=>?_)
 ·have lk:=fU.look sj RV b
  rw [if_pos (by simp)]at lk;refine⟨some fm,by rw [aE VD];rfl,b.1,⟨b.2.1,Cells.bV hb9⟩,_,lk,some ⟨c,0,none⟩,by rw [aE hc9];rfl,(k:Int),h9.c0,?_⟩;refine hK w9 _ ?_ RV Gb;unfold sg;rw [List.length_append,List.length_cons,List.length_nil]at h1;refine decide_eq_decide.2 ⟨fun h2=>⟨by omega,by omega⟩,fun h2=>by omega⟩
 ·refine hK w9 false ?_ RV Gb
  unfold sg;rw [List.length_append,List.length_cons,List.length_nil]at h1;exact(decide_eq_false (by omega)).symm
end
structure PN where
 bs:Nat
 bc:Nat
 bh:Nat
 q:Nat
 sm:Nat
 kb:Nat
 fb:Nat
 fm:Nat
 yb:Nat
 hb:Nat
def PN.De(p:PN):Value:=.func (.func cS.id) #[] #[.pointer (some ⟨p.kb,0,none⟩),.pointer (some ⟨p.fb,0,none⟩),.pointer (some ⟨p.bc,0,none⟩)]
def PN.iT(p:PN)(j:Nat):Prop:=p.bs≠j/\p.bc≠j/\p.bh≠j/\p.q≠j/\p.sm≠j/\p.kb≠j/\p.fb≠j
structure PG(w:World)(F:Nat->Prop)(c k:Nat)(G:GS)(m:CM)(s h:HT)(p:PN)(ov:HT->Option Nat):Prop where
 C:CV w F c k G m
 V:VB w c s p.bs p.bc p.bh p.q p.sm ov
 kb:w.heap[p.kb]? =some (.cells #[.func (.func cr.id) #[] #[.pointer (some ⟨p.bs,0,none⟩),.pointer (some ⟨p.bc,0,none⟩),.pointer (some ⟨p.bh,0,none⟩)]] fI (0,0))
 fb:w.heap[p.fb]? =some (.cells #[.map (some p.fm)] cU (0,0))
 yb:w.cell? ⟨p.yb,0,none⟩=some p.De
 hb:w.heap[p.hb]? =some (.cells h.1 al (0,0))
 fo:¬m.own c p.fm
 ff:¬F p.fm
 iT:p.iT p.fm
 y:p.yb≠p.fm
 h:p.hb≠p.fm
section
variable{w w' u:World}{F:Nat->Prop}{c k:Nat}{G:GS}{m:CM}{s h:HT}{p:PN}{ov:HT->Option Nat}{K:Value->World->Prop}
theorem PG.aJ(B:PG w F c k G m s h p ov)(hk:Kept (· =p.fm) w w'):PG w' F c k G m s h p ov:=by
 obtain⟨f1,f2,f3,f4,f5,f6,f7⟩:=B.iT;exact⟨B.C.aJ hk (fun j hj e=>by subst e;exact B.fo hj) (fun j hj e=>by subst e;exact B.ff hj),B.V.aJ hk f1 f2 f3 f4 f5,hk.heap B.kb f6,hk.heap B.fb f7,hk.cell B.yb B.y,hk.heap B.hb B.h,B.fo,B.ff,B.iT,B.y,B.h⟩
theorem PG.same(B:PG w F c k G m s h p ov)(hk:Kept Nil w w'):PG w' F c k G m s h p ov:=B.aJ (hk.mono fun _ _ h=>h.elim)
theorem tg(B:PG w F c k G m s h p ov)(hD:G.D.length<=5000)(pB:k<=1000)(hs:s∈ids G.D){l:List HT}(hc:dD G.D G.P s l){done:List HT}(hF:zp w p.fm (sr ov (nu m.sz l)) done){b:HT}{zb:Nat}
 (hz:w.heap[zb]? =some (.cells b.1 al (0,0))) (hzf:zb≠p.fm) (hn:oC G.D b h->(done++ [b]).Nodup) {A T:World->Prop}
 (hA:∀u,oC G.D b h->sg k (sr ov (nu m.sz l)) done b=false->Kept (· =p.fm) w u->A u)
 (hT:∀u yl,yl=done++(if oC G.D b h then [b]else [])->(oC G.D b h->sg k (sr ov (nu m.sz l)) done b=true)->zp u p.fm (sr ov (nu m.sz l)) yl->Kept (· =p.fm) w u->T u):
 bD prog dz.id #[.pointer (some ⟨c,0,none⟩),.agg b.1,.agg h.1] w fun x y=>∃z:Bool,x=.bool z/\Split z (∃a1:Value,y.cell? ⟨p.yb,0,none⟩=some a1/\∃b1:Array Value,(b1.size=32/\Cells y ⟨zb,0,none⟩ b1)/\
  ∃(c1:Nat) (d1 e1:Array Value) (f1:Func),(a1:Value)=.func (.func c1) d1 e1/\prog.funcs[c1]? =some f1/\f1.body.isSome=true/\
   bD prog c1 (d1.toList++([.agg b1]:List Value)++e1.toList).toArray y fun g1 i1=>∃j1:Bool,g1=.bool j1/\Split (!j1) (A i1) (T i1)) (T y):=by
 refine Bj B.C hD b h fun y r hr ky=>⟨r,rfl,?_⟩;have kyf:Kept (· =p.fm) w y:=ky.mono fun _ _ h=>h.elim;have By:=B.same ky;cases r with
 |false=>
  have Lx:¬oC G.D b h:=fun e=>by have:=hr.2 e;cases this
  exact Split.no rfl (hT y done (by rw [if_neg Lx,List.append_nil]) (fun e=>absurd e Lx) (hF.same ky) kyf)
 |true=>
  have ha:=hr.1 rfl;have gA:=hn ha;rw [List.nodup_append]at gA;refine Split.yes rfl ⟨_,By.yb,b.1,⟨b.2.1,Cells.bV (ky.heap hz (fun h=>h))⟩,_,_,_,_,rfl,cS.at_,rfl,?_⟩;refine Bg By.C hD pB hs hc By.V By.kb By.fb gA.1 (fun e=>gA.2.2 b e b (by simp) rfl) (hF.same ky) B.fo B.ff B.iT.2.1 fun v r hr hv kv=>⟨r,rfl,?_⟩;have FV:Kept (· =p.fm) w v:=kyf.tt kv;cases r with
  |false=>exact Split.yes rfl (hA v ha hr.symm FV)
  |true=>exact Split.no rfl (hT v (done++ [b]) (by rw [if_pos ha]) (fun _=>hr.symm) hv FV)
end
structure PG0(w:World)(F:Nat->Prop)(c k:Nat)(G:GS)(m:CM)(s:HT)(p:PN)(ov:HT->Option Nat):Prop where
 C:CV w F c k G m
 V:VB w c s p.bs p.bc p.bh p.q p.sm ov
 kb:w.heap[p.kb]? =some (.cells #[.func (.func cr.id) #[] #[.pointer (some ⟨p.bs,0,none⟩),.pointer (some ⟨p.bc,0,none⟩),.pointer (some ⟨p.bh,0,none⟩)]] fI (0,0))
 fb:w.heap[p.fb]? =some (.cells #[.map (some p.fm)] cU (0,0))
 fo:¬m.own c p.fm
 ff:¬F p.fm
 iT:p.iT p.fm
theorem dJ:∀ {l m:List HT},l.Nodup->(∀x∈l,x∈m)->l.length<=m.length
 | [],_,_,_=>Nat.zero_le _
 |x::l,m,hn,hm=>by
  rw [List.nodup_cons]at hn;have hx:=hm x List.mem_cons_self;have:=dJ (m:=m.erase x) hn.2 fun y hy=>(List.mem_erase_of_ne (fun e=>hn.1 (by rw [<-e];exact hy))).2 (hm y (List.mem_cons_of_mem _ hy));rw [List.length_erase_of_mem hx]at this;have h0:=List.length_pos_of_mem hx;rw [List.length_cons];omega
theorem HS.get_mem{w:World}{A:Option Addr}{n:Nat}{l:List HT}(hl:HS w A n l){i:Nat}(hi:i<n):∃y,l[i]? =some y:=⟨_,List.getElem?_eq_getElem (by have:=hl.len;omega)⟩
theorem Ak{D:DG}{l:List HT}{h x:HT}{i:Nat}(hx:l[i]? =some x):cg D (l.take (i+1)) h=cg D (l.take i) h++if oC D x h then [x]else []:=by
 have e:l.take (i+1)=l.take i++ [x]:=by rw [List.take_add_one,hx];rfl
 rw [e,gg]
 congr 1
 unfold cg;by_cases hp:oC D x h
 ·rw [if_pos hp,List.filter_cons_of_pos (by simpa using hp)];rfl
 ·rw [if_neg hp,List.filter_cons_of_neg (by simpa using hp)];rfl
theorem Dw{m:List HT}{b:List Bool}{x:HT}{y:Bool}{i:Nat}(hx:m[i]? =some x)(hy:b[i]? =some y):eB (m.drop i) (b.drop i)=(if y then [x]else [])++eB (m.drop (i+1)) (b.drop (i+1)):=by
 obtain⟨hi,ex⟩:=lgeS hx;obtain⟨hj,ey⟩:=lgeS hy;rw [List.drop_eq_getElem_cons hi,List.drop_eq_getElem_cons hj,ex,ey];cases y<;>rfl
theorem fu(c:pr)(A:Option Addr)(n cp:Nat)(B:Option Addr)(m cq:Nat):∀v∈(di c A n cp B m cq).toList,v.oneCell'=true:=by
 intro v hv;unfold di at hv;rw [Array.toList_append,List.mem_append]at hv;rcases hv with hv|hv
 ·exact c.np.2.one v hv
 ·simp only [List.mem_cons,List.not_mem_nil,or_false]at hv
  rcases hv with rfl|rfl|rfl<;>rfl
section
variable{w w':World}{F:Nat->Prop}{c k:Nat}{G:GS}{m:CM}{s:HT}{p:PN}{ov:HT->Option Nat}{K:Value->World->Prop}
theorem DB{kn:HT->Nat}{done rest ly:List HT}{b:HT}(e:done++b::rest=ly)(h:sg k kn done b=false):fE k kn [] ly=false:=by
 rw [<-e,mY,List.nil_append,fE,h,Bool.false_and,Bool.and_false]
theorem zm{kn:HT->Nat}{done:List HT}{b:HT}(h:fE k kn [] done=true)(hb:sg k kn done b=true):fE k kn [] (done++ [b])=true:=by
 rw [mY,h,List.nil_append,fE,hb,Bool.true_and,Bool.true_and];rfl
theorem Bh(B:PG0 w F c k G m s p ov)(hD:G.D.length<=5000)(pB:k<=1000)(hs:s∈ids G.D){l:List HT}(hc:dD G.D G.P s l){h:HT}{bb:Nat}{A:Option Addr}{n cx:Nat}{bl:List HT}
 (xc:w.heap[bb]? =some (.cells #[.slice A n cx] aF (0,0))) (Ys:bb≠p.fm) (CZ:HS w A n bl) (hAf:∀a,A=some a->a.block≠p.fm) (hn:n<=10000) (hF:zp w p.fm (sr ov (nu m.sz l)) []) (yc:(oY G h bl l).Nodup)
 (hK:∀w' (r:Bool),r=fE k (sr ov (nu m.sz l)) [] (oY G h bl l)->(r=true->zp w' p.fm (sr ov (nu m.sz l)) (oY G h bl l))->Kept (· =p.fm) w w'->K (.bool r) w'):
 bD prog ag.id #[.agg h.1,p.De,.pointer (some ⟨bb,0,none⟩),.pointer (some ⟨p.bc,0,none⟩),.pointer (some ⟨p.bh,0,none⟩)] w K:=by
 have W:=B.C.hZ.W;have H:=B.C.hZ.np;have Yf:∀y∈l,y∈ids G.D:=fun y hy=>((hc.mem W H).1 hy).mem.1;have hlen:=CZ.len;have lfm:=hF.lt;refine ag.of ?_;unfold ag.W;intro w4 w5 w6;have k4:Kept Nil w w4:=(Kept.refl _ _).alloc _;have Vk:w4.heap[w.heap.size]? =some (.cells h.1 al (0,0)):=aM w _;have k5:Kept Nil w4 w5:=(Kept.refl _ _).alloc _;obtain⟨ty,hy5⟩:∃ty:TypeId,w5.heap[w4.heap.size]? =some (.cells #[p.De] ty (0,0)):=⟨_,aM w4 _⟩;have k6:Kept Nil w5 w6:=(Kept.refl _ _).alloc _;have X3:w6.heap[w5.heap.size]? =some (.cells #[.bool false] jo (0,0)):=aM w5 _;clear_value w6;have hy6:=k6.heap hy5 (fun h=>h);have hh6:=k6.heap (k5.heap Vk (fun h=>h)) (fun h=>h);have p7:=(k4.tt k5).tt k6;have s4:=k4.size;have s5:=k5.size;have s6:=k6.size;have l4:=aY Vk;have l5:=aY hy5;have l6:=aY X3;clear_value w5 w4;obtain⟨p',G5,xf,Gn,acj,ach⟩:∃p':PN,p'= {p with yb:=w4.heap.size,hb:=w.heap.size}/\p'.De=p.De/\p'.fm=p.fm/\p'.bc=p.bc/\p'.bh=p.bh:=⟨_,rfl,rfl,rfl,rfl,rfl⟩;have eyb:p'.yb=w4.heap.size:=by rw [G5]
 have YK:p'.hb=w.heap.size:=by rw [G5]
 have B6:PG w6 F c k G m s h p' ov:=by
  rw [G5];exact⟨B.C.same p7,B.V.same p7,p7.heap B.kb (fun h=>h),p7.heap B.fb (fun h=>h),by show w6.cell? ⟨w4.heap.size,0,none⟩=_;rw [aE hy6];rfl,hh6,B.fo,B.ff,B.iT,(by show w4.heap.size≠p.fm;omega),(by show w.heap.size≠p.fm;omega)⟩
 generalize wY:sr ov (nu m.sz l)=kn at*;have hF6:zp w6 p'.fm kn []:=by rw [Gn];exact hF.same p7
 generalize kF:oY G h bl l=ly at*;have rH:cg G.D bl h++zA G h l=ly:=kF;rw [<-Gn]at Ys hAf lfm;have hK':∀w' (r:Bool),r=fE k kn [] ly->(r=true->zp w' p'.fm kn ly)->Kept (· =p'.fm) w w'->K (.bool r) w':=by rw [Gn];exact hK
 have kA:∀ {v:World},Kept (· =p'.fm) w6 v->Kept (· =p'.fm) w v:=fun k=>(p7.mono fun _ _ h=>h.elim).tt k;have fin:∀ {v:World} (r:Bool),Kept (· =p'.fm) w6 v->∃u:World,u=v.setCell ⟨w5.heap.size,0,none⟩ (.bool r)/\Wr v ⟨w5.heap.size,0,none⟩/\u.heap[w5.heap.size]? =some (.cells #[.bool r] jo (0,0))/\Kept (· =w5.heap.size) v u:=fun {v} r kv=>by
  have hr:=kv.heap X3 (by omega);refine⟨_,rfl,dN hr (by simp),?_,Kept.setCell (S:=fun k=>k=w5.heap.size) (Kept.refl _ v) (p:=⟨w5.heap.size,0,none⟩) (fun _=>rfl) _⟩;rw [dp hr 0];rfl
 have ZM:∀ {v u:World},Kept (· =p'.fm) w6 v->Kept (· =w5.heap.size) v u->Kept (· =p'.fm) w u:=fun kv ku=>⟨ku.os.trans (kA kv).os,ku.tape.trans (kA kv).tape,ku.output.trans (kA kv).output,Nat.le_trans (kA kv).size ku.size,fun j hj hn=>by rw [ku.block j (Nat.lt_of_lt_of_le hj (kA kv).size) (by omega),(kA kv).block j hj hn]⟩;refine⟨A,n,cx,by rw [aE (p7.heap xc (fun h=>h))];rfl,?_⟩;rw [<-acj,<-ach];refine ag.cJ (I:=fun s0 v=>∃i:Nat,s0=(i:Int)/\i<=n/\zp v p'.fm kn (cg G.D (bl.take i) h)/\fE k kn [] (cg G.D (bl.take i) h)=true/\Kept (· =p'.fm) w6 v) (μ:=fun s0 _=>((n:Int)-s0).toNat) (s:=0) ⟨0,rfl,Nat.zero_le _,hF6,rfl,Kept.refl _ _⟩ ?_;rintro s0 v ⟨i,rfl,hi,hFv,cZ,kv⟩;have Bv:=B6.aJ kv;refine Split.dec (fun jV=>?_) (fun gK=>?_)
 ·have eh:i<n:=by omega
  obtain⟨b,hb⟩:=CZ.get_mem eh;have acf:HS v A n bl:=CZ.aJ (kA kv) hAf;refine acf.load (i:=(i:Int)) (by omega) hb ?_;intro pw;obtain⟨tq,j0,kz⟩:=iL (w:=v) (z:=fz.1) (cs:=b.1) (t:=al) (by rw [b.2.1];rfl);refine⟨⟨b.2.1,b.2.one,fun j hj=>tq j (by rw [b.2.1];exact hj)⟩,?_⟩;intro nn
  replace j0:nn.heap[v.heap.size]? =some (.cells b.1 al (0,0)):=j0
  replace kz:Kept Nil v nn:=kz
  clear_value nn;have sv:=(kA kv).size;have Rf:=Bv.same kz;have e1:=Ak (D:=G.D) (h:=h) hb;have e2:∃rest,cg G.D (bl.take i) h++(if oC G.D b h then [b]else [])++rest=ly:=by
   refine⟨cg G.D (bl.drop (i+1)) h++zA G h l,?_⟩;rw [<-e1,<-rH,<-List.append_assoc,<-gg,List.take_append_drop]
  obtain⟨rest,e2⟩:=e2;refine⟨some ⟨c,0,none⟩,by rw [aE Rf.V.hc];rfl,b.1,⟨b.2.1,Cells.bV j0⟩,h.1,⟨h.2.1,by have:=Rf.hb;rw [YK]at this;exact Cells.bV this⟩,?_⟩;rw [<-eyb];refine tg Rf hD pB hs hc (done:=cg G.D (bl.take i) h) (by rw [wY];exact hFv.same kz) j0 (by omega) (fun ha=>by
   rw [if_pos ha]at e2;rw [<-e2]at yc;exact(List.nodup_append.1 yc).1) ?_ ?_
  ·intro u ha hp ku
   rw [wY]at hp;have Rp:Kept (· =p'.fm) w6 u:=(kv.trans kz (fun _ _ h=>h.elim)).tt ku;obtain⟨u',eu,hw,T8,kuu⟩:=fin false Rp;refine⟨hw,?_⟩;intro Rl;have e30:Rl=u':=eu.symm;rw [iO,ag.BW,e30];rw [if_pos ha,List.append_assoc]at e2;exact⟨false,by rw [aE T8];rfl,hK' u' false (DB e2 hp).symm (fun e=>by cases e) (ZM Rp kuu)⟩
  ·intro u yl ed hp NV ku
   rw [wY]at hp NV;have Rp:Kept (· =p'.fm) w6 u:=(kv.trans kz (fun _ _ h=>h.elim)).tt ku;rw [dH (n:=(i:Int)) (by omega) (by omega)];refine⟨(i:Int)+1,rfl,⟨i+1,rfl,eh,?_,?_,Rp⟩,by simp only;omega⟩
   ·rw [e1,<-ed];exact NV
   ·rw [e1]
    by_cases ha:oC G.D b h
    ·rw [if_pos ha];exact zm cZ (hp ha)
    ·rw [if_neg ha,List.append_nil];exact cZ
 ·rw [aX,ag.dv]
  rw [List.take_of_length_le (by omega)]at cZ hFv;unfold ag.dd;intro qx;have zr:Kept Nil v qx:=(Kept.refl _ _).drew;clear_value qx;have B33:=Bv.same zr;refine⟨some ⟨c,0,none⟩,by rw [aE B33.V.hc];rfl,_,B33.C.c1,s.1,⟨s.2.1,Cells.bV B33.V.hh⟩,?_⟩;refine tR s fun jA pb qb ns Lu Lt vL hqb=>⟨_,rfl,?_⟩;have O1:Kept Nil v jA:=zr.tt ns;have K2:Kept (· =p'.fm) w6 jA:=kv.trans O1 (fun _ _ h=>h.elim);have B35:=Bv.same O1;have agP:=K2.size;have acX:zp jA p'.fm kn (cg G.D bl h):=hFv.same O1
  let De:Value:=.func (.func br.id) #[] #[.pointer (some ⟨pb,0,none⟩),.pointer (some ⟨qb,0,none⟩)]
  let ρ0:Env:= [(3,.pointer (some ⟨p'.bc,0,none⟩)),(5,.pointer (some ⟨w.heap.size,0,none⟩)),(6,.pointer (some ⟨w4.heap.size,0,none⟩)),(7,.pointer (some ⟨w5.heap.size,0,none⟩)),(36,De)]
  let J:Nat->World->Prop:=fun j u=>∃done:List HT,done++zA G h (l.drop j)=ly/\zp u p'.fm kn done/\fE k kn [] done=true/\Kept (· =p'.fm) jA u/\j<=l.length
  let Jd:Code->World->Prop:=fun e u=>e=.ret/\∃r:Bool,u.heap[w5.heap.size]? =some (.cells #[.bool r] jo (0,0))/\r=fE k kn [] ly/\(r=true->zp u p'.fm kn ly)/\Kept (fun j=>j=p'.fm\/j=w5.heap.size) jA u
  have lpb:=aY Lu;have lqb:=aY Lt;have agM:=zr.size;have svw:=(kA kv).size;obtain⟨mx,X35,RE⟩:=B35.C.X;have XJ:∀ {u:World},Kept (· =p'.fm) jA u->XV u m.FX m.x G.D G.P mx:=fun k=>X35.aJ k (fun j hj e=>by subst e;rw [Gn]at hj;exact B.fo (.inl (RE _ hj))) (fun j hj e=>by subst e;rw [Gn]at hj;exact B.ff (B.C.fx _ hj))
  change Holds none [] prog _ _ _ ρ0 jA
  have out:∀ {u:World} {R:Loop} (r:Bool),Kept (· =p'.fm) jA u->Live (jA.heap.size+1) jA.heap.size R u->r=fE k kn [] ly->(r=true->zp u p'.fm kn ly)->Wr u ⟨w5.heap.size,0,none⟩/\∀u',u'=u.setCell ⟨w5.heap.size,0,none⟩ (.bool r)->Live (jA.heap.size+1) jA.heap.size R u'/\Jd .ret u':=fun {u R} r ku hl hr hf=>by
   obtain⟨u0,e0,t1,t2,t3⟩:=fin r (K2.tt ku);refine⟨t1,fun u' eu=>?_⟩;rw [eu,<-e0];refine⟨hl.aJ t3 (by omega) (by omega),rfl,r,t2,hr,fun e=>(hf e).aJ t3 (by omega),(ku.mono fun _ _ h=>.inl h).trans t3 (fun _ _ h=>.inr h)⟩
  refine oK (n:=90) (ρ:=ρ0) (ρ0:=ρ0) ng mix ag.k (t:=36) (ps:= #[37]) (by kernel_rfl) (by decide) rfl br.at_ rfl (.inl rfl) (fun i x hi hx=>hx) rfl sF l (fun _=>rfl) (fun q hq=>by
   have e49:q=37:=by simpa using hq
   subst e49;exact⟨by decide,by decide⟩) (DU (F:=m.FX) (x:=m.x) (m:=mx) (pb:=pb) (qb:=qb) hc (by omega)) J Jd ?_ ?_ (fun j u ⟨done,_,_,_,kJ,_⟩=>⟨XJ kJ,kJ.heap Lu (by omega),kJ.heap Lt (by omega)⟩) ?_ ?_ ?_ ?_ ?_
  ·rintro j u1 u2 R rG ⟨done,h1,h2,h3,h4,h5⟩ oW
   exact⟨done,h1,h2.aJ oW (by omega),h3,h4.trans oW (fun k hk e=>by omega),h5⟩
  ·rintro e u1 u2 R rG ⟨h1,r,h2,h3,h4,h5⟩ oW
   exact⟨h1,r,oW.heap h2 (by omega),h3,fun e=>(h4 e).aJ oW (by omega),h5.trans oW (fun k hk e=>by omega)⟩
  ·intro R
   have ka:Kept Nil jA ((jA.alloc (.deferred (some []))).alloc (.loop R)):=(((Kept.refl _ _).alloc _).alloc _);exact⟨cg G.D bl h,rH,acX.same ka,cZ,ka.mono fun _ _ h=>h.elim,Nat.zero_le _⟩
  ·rintro j z u1 R hz ⟨done,h1,h2,h3,h4,h5⟩ rG
   have e7:ml ρ0 ((#[37]:Array Nat).toList.zip (sF z))= [(3,.pointer (some ⟨p'.bc,0,none⟩)),(5,.pointer (some ⟨w.heap.size,0,none⟩)),(6,.pointer (some ⟨w4.heap.size,0,none⟩)),(7,.pointer (some ⟨w5.heap.size,0,none⟩)),(36,De),(37,.agg z.1)]:=rfl;rw [e7,ag.a1];have uN:=(lgeS hz).1;have Pu:=Yf z (List.mem_of_getElem? hz);have W4:l.drop j=z::l.drop (j+1):=by
    obtain⟨hi,e⟩:=lgeS hz;rw [List.drop_eq_getElem_cons hi,e]
   rw [W4,zA]at h1;unfold ag.A1;intro Rk;obtain⟨tq,j0,kz⟩:=iL (w:=u1) (z:=fz.1) (cs:=z.1) (t:=al) (by rw [z.2.1];rfl);refine⟨⟨z.2.1,z.2.one,fun j hj=>tq j (by rw [z.2.1];exact hj)⟩,?_⟩;intro Mv
   replace j0:Mv.heap[u1.heap.size]? =some (.cells z.1 al (0,0)):=j0
   replace kz:Kept Nil u1 Mv:=kz
   clear_value Mv;have IW:=rG.aJ kz (fun h=>h) (fun h=>h);refine⟨IW,fun w2 R2 oV uA=>?_⟩;have nA:=oV.heap j0 (lN j0 IW.loop);have agR:=h4.size;have wR:Kept (· =p'.fm) jA w2:=(h4.trans kz (fun _ _ h=>h.elim)).trans oV (fun k hk e=>by omega);have QN:zp w2 p'.fm kn done:=(h2.same kz).aJ oV (by omega);have B2:=B35.aJ wR;rw [ag.y1];unfold ag.Y1;have e2:∃rest,done++(if oC G.D z h then [z]else [])++rest=ly:=⟨_,(List.append_assoc _ _ _).trans h1⟩;obtain⟨rest,e2⟩:=e2;refine⟨some ⟨c,0,none⟩,by rw [aE B2.V.hc];rfl,z.1,⟨z.2.1,Cells.bV nA⟩,h.1,⟨h.2.1,by have:=B2.hb;rw [YK]at this;exact Cells.bV this⟩,?_⟩;rw [<-eyb];refine tg B2 hD pB hs hc (done:=done) (by rw [wY];exact QN) nA (by omega) (fun ha=>by
    rw [if_pos ha]at e2;rw [<-e2]at yc;exact(List.nodup_append.1 yc).1) ?_ ?_
   ·intro u ha hp ku
    rw [wY]at hp;rw [if_pos ha,List.append_assoc]at e2;obtain⟨o1,o2⟩:=out (u:=u) false (wR.tt ku) (uA.aJ ku (by omega) (by omega)) (DB e2 hp).symm (fun e=>by cases e);refine⟨o1,?_⟩;intro Y9;exact o2 Y9 rfl
   ·intro u yl ed hp NV ku
    rw [wY]at hp NV;have ZV:=wR.tt ku;have hlu:=uA.aJ ku (by omega) (by omega);have NT:fE k kn [] yl=true:=by
     rw [ed];by_cases ha:oC G.D z h
     ·rw [if_pos ha];exact zm h3 (hp ha)
     ·rw [if_neg ha,List.append_nil];exact h3
    rw [<-List.append_assoc,<-ed]at h1;intro Y8;have k61:Kept Nil u Y8:=(Kept.refl _ _).drew;clear_value Y8;have O7:Kept (· =p'.fm) w2 Y8:=ku.trans k61 (fun _ _ h=>h.elim);have YY:=B2.aJ O7;have Z3:=O7.heap nA (by omega);obtain⟨mx1,X61,_⟩:=YY.C.X;refine⟨some ⟨c,0,none⟩,by rw [aE YY.V.hc];rfl,_,YY.C.c1,z.1,⟨z.2.1,Cells.bV Z3⟩,h.1,⟨h.2.1,by have:=YY.hb;rw [YK]at this;exact Cells.bV this⟩,?_⟩;refine lr X61 hD z h fun GX r hr F5=>⟨r,rfl,?_⟩;have KY:Kept Nil u GX:=k61.tt F5;have UZ:=hlu.aJ KY (fun h=>h) (fun h=>h);have Tx:=ZV.trans KY (fun _ _ h=>h.elim);have acV:=NV.same KY;cases r with
    |true=>
     have C0:=hr.1 rfl;rw [if_pos C0,List.append_nil]at h1;obtain⟨o1,o2⟩:=out (u:=GX) true Tx UZ (by rw [<-h1,NT]) (fun _=>by rw [<-h1];exact acV);refine Split.yes rfl ⟨o1,?_⟩;intro Oq;exact o2 Oq rfl
    |false=>
     have UJ:¬fw G.D z h:=fun e=>by have:=hr.2 e;cases this
     rw [if_neg UJ]at h1;refine Split.no rfl ?_;intro Hj;have MO:Kept Nil GX Hj:=(Kept.refl _ _).drew;clear_value Hj;have Lb:Kept (· =p'.fm) w2 Hj:=O7.trans (F5.tt MO) (fun _ _ h=>h.elim);have Xq:=B2.aJ Lb;have TN:=Lb.heap nA (by omega);obtain⟨A1,n1,c1,B1,m1,d1,s1,sa⟩:=Xq.C.seen z Pu;refine⟨some ⟨c,0,none⟩,by rw [aE Xq.V.hc];rfl,_,Xq.C.c2,z.1,⟨z.2.1,Cells.bV TN⟩,_,Xq.C.qR Pu,_,⟨bH ..,sa.jW⟩,?_⟩;intro w73;have ZO:Kept Nil Hj w73:=(Kept.refl _ _).alloc _;obtain⟨Px,Bd,yY⟩:=iL (w:=Hj) (z:=zC) (cs:=di (G.jW z) A1 n1 c1 B1 m1 d1) (t:=bL) (by rw [bH];rfl);have B73:=Xq.same ZO;refine⟨⟨_,rfl,bH ..,(sa.aJ ZO (fun _ _ h=>h)).jW⟩,B73.C.qR Pu,⟨z.1,rfl,z.2.1,Cells.bV (ZO.heap TN (fun h=>h))⟩,B73.C.c2,by rw [aE B73.V.hc];rfl,⟨bH ..,fu _ _ _ _ _ _ _,fun j hj=>Px j (by rw [bH];exact hj)⟩,?_⟩;intro Rh
     replace Bd:Rh.heap[Hj.heap.size]? =some (.cells (di (G.jW z) A1 n1 c1 B1 m1 d1) bL (0,0)):=Bd
     replace yY:Kept Nil Hj Rh:=yY
     clear_value Rh w73;have Tk:Kept Nil u Rh:=KY.tt (MO.tt yY);have TA:Kept (· =p'.fm) w2 Rh:=Lb.trans yY (fun _ _ h=>h.elim);have agU:=TA.size;have agV:=Lb.size;have s2:=wR.size;have ajs:=hlu.aJ Tk (fun h=>h) (fun h=>h);have Zj:=sa.aJ yY (fun _ _ h=>h);have afl:=sa.mg.len;have V1:=sa.bl.len;have hff:∀j,F j->j≠p'.fm:=fun j hj e=>by rw [Gn]at e;subst e;exact B.ff hj
     have hcg:=gN (G.jW z) A1 n1 c1 B1 m1 d1 #[];rw [Array.append_empty]at hcg;refine⟨A1,n1,c1,by rw [bC,aE Bd];exact hcg.2.1,?_⟩;have afq:(G.jW z).fX.length=(G.jW z).merge.length:=by
      rcases(dD.ex H z)with⟨lz,cz⟩;rcases cz.inv W H Pu with⟨_,nd,h0,rfl⟩|⟨t,r',_,oU,_,_⟩
      ·obtain⟨r1,_⟩:=B.C.hZ.root nd h0
       rw [r1];rfl
      ·exact(B.C.hZ.up t z oU).2.2.1
     have IQ:(G.jW z).merge.length<=G.D.length:=by
      have gA:(G.jW z).merge.Nodup/\∀y∈(G.jW z).merge,y∈ids G.D:=by
       rcases(dD.ex H z)with⟨lz,cz⟩;rcases cz.inv W H Pu with⟨_,nd,h0,rfl⟩|⟨t,r',_,oU,_,_⟩
       ·obtain⟨r1,_⟩:=B.C.hZ.root nd h0
        rw [r1];exact⟨List.nodup_nil,fun y hy=>by cases hy⟩
       ·obtain⟨_,_,_,g1,g2⟩:=B.C.hZ.up t z oU
        exact⟨g1,fun y hy=>(((g2 y).1 hy).1.mem W).1⟩
      have:=dJ gA.1 gA.2
      rwa [iI]at this
     refine ag.iG (I:=fun s0 v=>∃i:Nat,s0=(i:Int)/\i<=n1/\∃dn:List HT,dn++(cg G.D (eB ((G.jW z).merge.drop i) ((G.jW z).fX.drop i)) h++zA G h (l.drop (j+1)))=ly/\zp v p'.fm kn dn/\fE k kn [] dn=true/\Kept (· =p'.fm) Rh v) (μ:=fun s0 _=>((n1:Int)-s0).toNat) (s:=0) ⟨0,rfl,Nat.zero_le _,yl,by rw [List.drop_zero,List.drop_zero];exact h1,NV.same Tk,NT,Kept.refl _ _⟩ ?_;rintro s0 v2 ⟨i2,rfl,CU,dn,g1,g2,g3,g4⟩;have H9:Kept (· =p'.fm) w2 v2:=TA.tt g4;have Bv2:=B2.aJ H9;have Zi:=Zj.aJ g4 (fun j hj e=>hff j hj e);have Tw:=wR.tt H9;have UY:=uA.aJ H9 (by omega) (by omega);have sv2:=H9.size;refine Split.dec (fun jV=>?_) (fun gK=>?_)
     ·have eh:i2<n1:=by omega
      obtain⟨b,hb⟩:=Zi.mg.get_mem eh;obtain⟨bb2,Wc⟩:∃y,(G.jW z).fX[i2]? =some y:=⟨_,List.getElem?_eq_getElem (by omega)⟩;refine Zi.mg.load (i:=(i2:Int)) (by omega) hb ?_;intro pw;obtain⟨aaf,Gr,wX⟩:=iL (w:=v2) (z:=fz.1) (cs:=b.1) (t:=al) (by rw [b.2.1];rfl);refine⟨⟨b.2.1,b.2.one,fun j hj=>aaf j (by rw [b.2.1];exact hj)⟩,?_⟩;intro nn
      replace Gr:nn.heap[v2.heap.size]? =some (.cells b.1 al (0,0)):=Gr
      replace wX:Kept Nil v2 nn:=wX
      clear_value nn;have Rf:=Bv2.same wX;have VY:=wX.heap (g4.heap Bd (by omega)) (fun h=>h);have Zk:=Zi.aJ wX (fun _ _ h=>h);obtain⟨aB,Jf,_,QC⟩:=Zk.bl.at_ i2 bb2 Wc;subst Jf;refine⟨some aB,m1,d1,by rw [bC,aE VY];exact hcg.2.2.1,⟨by omega,by omega⟩,bb2,by rw [Int.toNat_natCast,Nat.mul_one];exact QC,?_⟩;rw [Dw hb Wc]at g1;cases bb2 with
      |false=>
       refine Split.no rfl ?_;rw [dH (n:=(i2:Int)) (by omega) (by omega)];exact⟨(i2:Int)+1,rfl,⟨i2+1,rfl,eh,dn,g1,g2.same wX,g3,g4.trans wX (fun _ _ h=>h.elim)⟩,by simp only;omega⟩
      |true=>
       rw [if_pos rfl,gg,List.append_assoc]at g1;have adj:cg G.D [b] h=if oC G.D b h then [b]else []:=by
        unfold cg;by_cases hp:oC G.D b h
        ·rw [if_pos hp,List.filter_cons_of_pos (by simpa using hp)];rfl
        ·rw [if_neg hp,List.filter_cons_of_neg (by simpa using hp)];rfl
       rw [adj,<-List.append_assoc]at g1;refine Split.yes rfl ⟨some ⟨c,0,none⟩,by rw [aE Rf.V.hc];rfl,b.1,⟨b.2.1,Cells.bV Gr⟩,h.1,⟨h.2.1,by have:=Rf.hb;rw [YK]at this;exact Cells.bV this⟩,?_⟩;refine tg Rf hD pB hs hc (done:=dn) (by rw [wY];exact g2.same wX) Gr (by omega) (fun ha=>by
        rw [if_pos ha]at g1;rw [<-g1]at yc;exact(List.nodup_append.1 yc).1) ?_ ?_
       ·intro u2 ha hp JT
        rw [wY]at hp;rw [if_pos ha,List.append_assoc]at g1;have kk:Kept (· =p'.fm) v2 u2:=(wX.mono fun _ _ h=>h.elim).tt JT;obtain⟨o1,o2⟩:=out (u:=u2) false (Tw.tt kk) (UY.aJ kk (by omega) (by omega)) (DB g1 hp).symm (fun e=>by cases e);refine⟨o1,?_⟩;intro Y9;rw [iO];exact o2 Y9 rfl
       ·intro u2 dn' ed2 IM WH JT
        rw [wY]at IM WH;have kk:Kept (· =p'.fm) v2 u2:=(wX.mono fun _ _ h=>h.elim).tt JT;rw [dH (n:=(i2:Int)) (by omega) (by omega)];refine⟨(i2:Int)+1,rfl,⟨i2+1,rfl,eh,dn',by rw [ed2];exact g1,WH,?_,g4.tt kk⟩,by simp only;omega⟩;rw [ed2];by_cases ha:oC G.D b h
        ·rw [if_pos ha];exact zm g3 (IM ha)
        ·rw [if_neg ha,List.append_nil];exact g3
     ·rw [aX,ag.Y0]
      unfold ag.Xg;have en:(G.jW z).merge.drop i2= []:=List.drop_eq_nil_of_le (by omega);rw [en]at g1;exact⟨UY,dn,by simpa [eB,cg]using g1,g2,g3,Tw,uN⟩
  ·rintro u1 R ⟨done,h1,h2,h3,h4,h5⟩ rG
   have e7:iU ρ0 jA.heap.size= [(3,.pointer (some ⟨p'.bc,0,none⟩)),(5,.pointer (some ⟨w.heap.size,0,none⟩)),(6,.pointer (some ⟨w4.heap.size,0,none⟩)),(7,.pointer (some ⟨w5.heap.size,0,none⟩)),(36,De),(4294967296,.agg (ru [jA.heap.size]))]:=rfl;rw [e7,ag.lG];unfold ag.jR;have ec:done=ly:=by rw [<-h1,List.drop_of_length_le (Nat.le_refl _),zA,List.append_nil]
   obtain⟨o1,o2⟩:=out (u:=u1) true h4 rG (by rw [<-ec,h3]) (fun _=>by rw [<-ec];exact h2);refine⟨o1,?_⟩;intro qZ;obtain⟨abl,_,r,t1,t2,t3,t4⟩:=o2 qZ rfl;clear_value qZ;rw [om];have kt:=lf [jA.heap.size] qZ;have hm:∀E∈ [jA.heap.size],qZ.heap[E]? =some (.deferred (some [])):=fun E hE=>by
    rw [List.mem_singleton]at hE;subst hE;exact abl.mark
   refine⟨mQ [jA.heap.size] qZ (by simp) hm,r,by rw [aE (kt.heap t1 (fun hE=>by rw [List.mem_singleton]at hE;omega))];rfl,?_⟩;exact hK' _ r t2 (fun e=>(t3 e).aJ kt (fun hE=>by rw [List.mem_singleton]at hE;omega)) (((kA K2).trans t4 (fun j hj e=>by rcases e with e|e;exact e;omega)).trans kt (fun j hj hE=>by rw [List.mem_singleton]at hE;omega))
  ·rintro u1 R ⟨_,r,t1,t2,t3,t4⟩ rG
   have e7:iU ρ0 jA.heap.size= [(3,.pointer (some ⟨p'.bc,0,none⟩)),(5,.pointer (some ⟨w.heap.size,0,none⟩)),(6,.pointer (some ⟨w4.heap.size,0,none⟩)),(7,.pointer (some ⟨w5.heap.size,0,none⟩)),(36,De),(4294967296,.agg (ru [jA.heap.size]))]:=rfl;rw [e7,ag.BU];unfold ag.wB;rw [om];have kt:=lf [jA.heap.size] u1;have hm:∀E∈ [jA.heap.size],u1.heap[E]? =some (.deferred (some [])):=fun E hE=>by
    rw [List.mem_singleton]at hE;subst hE;exact rG.mark
   refine⟨mQ [jA.heap.size] u1 (by simp) hm,r,by rw [aE (kt.heap t1 (fun hE=>by rw [List.mem_singleton]at hE;omega))];rfl,?_⟩;exact hK' _ r t2 (fun e=>(t3 e).aJ kt (fun hE=>by rw [List.mem_singleton]at hE;omega)) (((kA K2).trans t4 (fun j hj e=>by rcases e with e|e;exact e;omega)).trans kt (fun j hj hE=>by rw [List.mem_singleton]at hE;omega))
  ·rintro id u1 R ⟨e,_⟩ rG
   cases e
end
end Go.Proofs.YtfleamccglihoaaGreatDoor
