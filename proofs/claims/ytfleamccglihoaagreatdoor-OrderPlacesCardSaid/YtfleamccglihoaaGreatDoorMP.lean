import Derived.Test.YtfleamccglihoaaGreatDoorMI
import Derived.Test.YtfleamccglihoaaGreatDoorMJ
import Derived.Test.YtfleamccglihoaaGreatDoorMN
import Derived.Test.YtfleamccglihoaaGreatDoorMG
open Go.IntKind (i64 u64)
set_option linter.unusedVariables false
namespace Go.Proofs.YtfleamccglihoaaGreatDoor
open Go.Proofs.Tryz
open Go Go.bV
structure oE where
 gQ:HT
 score:Nat
 merge:List HT
 fL:List Bool
structure GS where
 D:DG
 P:List Int
 qS:List oE
 kZ:List (List HT)
def GS.at_(G:GS)(h:HT):Option Nat:=pos h (ids G.D) 0
def GS.fM(G:GS)(h:HT):oE:=((G.at_ h).bind (G.qS[·]?)).getD ⟨dz,0,[],[]⟩
def GS.world(G:GS)(h:HT):List HT:=((G.at_ h).bind (G.kZ[·]?)).getD []
def GS.score(G:GS)(h:HT):Nat:=(G.fM h).score
def gl(G:GS)(a b:HT):Bool:=decide (G.score a<G.score b)||(decide (G.score a=G.score b)&&cU a b)
def BG(G:GS)(a b:HT):Int:=if gl G a b then-1 else if gl G b a then 1 else 0
def bU(G:GS):List HT->HT
 | []=>dz
 |x::l=>l.foldl (fun b y=>if gl G b y then y else b) x
def mi(D:DG)(a b:HT):Prop:=a≠b/\¬eB D a b/\¬eB D b a
noncomputable instance(D:DG)(a b:HT):Decidable (mi D a b):=Classical.propDecidable _
noncomputable instance(D:DG)(a b:HT):Decidable (eB D a b):=Classical.propDecidable _
noncomputable def bS(D:DG)(l:List HT)(h:HT):List HT:=l.filter fun b=>decide (mi D b h)
def SO(G:GS)(l:List HT):Prop:=l.Pairwise fun a b=>gl G a b=true
noncomputable def pZ(D:DG)(s:HT)(l:List HT):List HT:=(dA (dG D l++l)).filter fun h=>decide (h≠s/\¬eB D h s)
def xk(G:GS)(x:HT):List HT->List HT
 | []=> [x]
 |y::l=>if gl G x y then x::y::l else y::xk G x l
noncomputable def cG(G:GS)(s:HT)(l:List HT):List HT:=(pZ G.D s l).foldr (xk G) []
noncomputable def mf(k:Nat)(D:DG)(wd:List HT)(h:HT):Bool:=decide ((bS D wd h).length<=k/\∀y∈bS D wd h,(bS D wd y).length+1<=k)
structure VS where
 wd:List HT
 bl:List Bool
noncomputable def jV(k:Nat)(D:DG)(s:VS)(h:HT):VS:=⟨if mf k D s.wd h then s.wd++ [h]else s.wd,s.bl++ [mf k D s.wd h]⟩
noncomputable def dP(k:Nat)(G:GS)(s:HT)(l:List HT):VS:=(cG G s l).foldl (jV k G.D) ⟨G.world s++ [s],[]⟩
noncomputable def cX(k:Nat)(G:GS)(s:HT)(l:List HT):oE:=⟨s,G.score s+1+(dP k G s l).bl.count true,cG G s l,(dP k G s l).bl⟩
noncomputable def dh(k:Nat)(G:GS)(h:HT)(ps:List HT):GS:=
 if dF G.D h ps=0 then⟨G.D++ [⟨h,dA ps⟩],G.P++ [(((pos (bU G ps) (ids G.D) 0).getD 0:Nat):Int)],G.qS++ [cX k G (bU G ps) ps],G.kZ++ [(dP k G (bU G ps) ps).wd]⟩else G
def dg(r:HT):GS:=⟨[⟨r,[]⟩],[-1],[⟨dz,0,[],[]⟩],[[]]⟩
def ek:List HT->List Bool->List HT
 |h::l,b::m=>if b then h::ek l m else ek l m
 |_,_=> []
theorem mF(G:GS)(a:HT):gl G a a=false:=by simp [gl,iz]
theorem mT{G:GS}{a b c:HT}(h:gl G a b=true)(h':gl G b c=true):gl G a c=true:=by
 simp only [gl,Bool.or_eq_true,Bool.and_eq_true,decide_eq_true_eq]at*;rcases h with h|⟨h,h1⟩
 ·rcases h' with h'|⟨h',h2⟩
  ·exact .inl (by omega)
  ·exact .inl (by omega)
 ·rcases h' with h'|⟨h',h2⟩
  ·exact .inl (by omega)
  ·exact .inr ⟨by omega,kR h1 h2⟩
theorem mU{G:GS}{a b:HT}(h:gl G a b=false)(h':gl G b a=false):a=b:=by
 simp only [gl,Bool.or_eq_false_iff,Bool.and_eq_false_iff,decide_eq_false_iff_not]at*;have e:G.score a=G.score b:=by omega
 obtain⟨_,h2⟩:=h;obtain⟨_,h3⟩:=h';exact qF (by rcases h2 with h2|h2;exact absurd e h2;exact h2) (by rcases h3 with h3|h3;exact absurd e.symm h3;exact h3)
theorem Bn{G:GS}{a b:HT}(h:gl G a b=true):gl G b a=false:=by
 cases hb:gl G b a
 ·rfl
 ·have:=mT h hb
  rw [mF]at this;cases this
theorem zl{G:GS}{a b:HT}:BG G a b<0↔gl G a b=true:=by
 unfold BG;split
 ·simp_all
 ·split<;>simp_all
theorem MG(G:GS)(a b:HT):BG G a b=if G.score a<G.score b then-1 else if G.score b<G.score a then 1 else lT a b:=by
 unfold BG lT gl;by_cases h1:G.score a<G.score b
 ·simp [h1]
 ·by_cases h2:G.score b<G.score a
  ·have:¬G.score a=G.score b:=by omega
   simp [h1,h2,this]
  ·have:G.score a=G.score b:=by omega
   simp [this]
theorem SO.cons{G:GS}{x:HT}{l:List HT}:SO G (x::l)↔(∀y∈l,gl G x y=true)/\SO G l:=List.pairwise_cons
theorem SO.nodup{G:GS}{l:List HT}(h:SO G l):l.Nodup:=List.Pairwise.imp (fun {a b} lE e=>by subst e;rw [mF]at lE;cases lE) h
theorem Kh{G:GS}:∀ {l m:List HT},SO G l->SO G m->(∀x,x∈l↔x∈m)->l=m
 | [],[],_,_,_=>rfl
 | [],y::m,_,_,h=>by have:=(h y).2 (by simp);simp at this
 |x::l,[],_,_,h=>by have:=(h x).1 (by simp);simp at this
 |x::l,y::m,hl,hm,h=>by
  rw [SO.cons]at hl hm;have o9:x=y:=by
   rcases List.mem_cons.1 ((h x).1 List.mem_cons_self)with e|e
   ·exact e
   ·rcases List.mem_cons.1 ((h y).2 List.mem_cons_self)with e'|e'
    ·exact e'.symm
    ·have h1:=hm.1 _ e
     have h2:=hl.1 _ e';rw [Bn h1]at h2;cases h2
  subst o9;have:l=m:=Kh hl.2 hm.2 fun z=>by
   have hz:=h z;simp only [List.mem_cons]at hz;constructor
   ·intro ny
    rcases hz.1 (.inr ny)with e|e
    ·subst e;have:=hl.1 _ ny;rw [mF]at this;cases this
    ·exact e
   ·intro ny
    rcases hz.2 (.inr ny)with e|e
    ·subst e;have:=hm.1 _ ny;rw [mF]at this;cases this
    ·exact e
  rw [this]
theorem vN{G:GS}{x z:HT}:∀ {l:List HT},z∈xk G x l↔z=x\/z∈l
 | []=>by simp [xk]
 |y::l=>by
  unfold xk;split
  ·simp
  ·simp only [List.mem_cons,vN (l:=l)]
   constructor
   ·rintro(h|h|h)<;>simp [h]
   ·rintro(h|h|h)<;>simp [h]
theorem EV{G:GS}{x:HT}:∀ {l:List HT},SO G l->x∉l->SO G (xk G x l)
 | [],_,_=>by simp [xk,SO]
 |y::l,h,hx=>by
  have h':=SO.cons.1 h;simp only [List.mem_cons,not_or]at hx;unfold xk;split
  ·rename_i o9
   refine SO.cons.2 ⟨fun z hz=>?_,h⟩;rcases List.mem_cons.1 hz with rfl|hz
   ·exact o9
   ·exact mT o9 (h'.1 _ hz)
  ·rename_i o9
   refine SO.cons.2 ⟨fun z hz=>?_,EV h'.2 hx.2⟩;rcases vN.1 hz with rfl|hz
   ·cases RX:gl G y z
    ·exact absurd (mU RX (by simpa using o9)).symm hx.1
    ·rfl
   ·exact h'.1 _ hz
theorem nY{G:GS}{z:HT}:∀ {l:List HT},z∈l.foldr (xk G) []↔z∈l
 | []=>by simp
 |x::l=>by rw [List.foldr_cons,vN,nY,List.mem_cons]
theorem BQ{G:GS}:∀ {l:List HT},l.Nodup->SO G (l.foldr (xk G) [])
 | [],_=>List.Pairwise.nil
 |x::l,h=>by
  rw [List.nodup_cons]at h;exact EV (BQ h.2) fun e=>h.1 (nY.1 e)
theorem ry(D:DG)(s:HT)(l:List HT):(pZ D s l).Nodup:=(iL _).nodup.filter _
theorem nX{D:DG}{s:HT}{l:List HT}{h:HT}:h∈pZ D s l↔((h∈ids D/\∃p∈l,eB D h p)\/h∈l)/\h≠s/\¬eB D h s:=by
 unfold pZ dG;rw [List.mem_filter,dt,List.mem_append,jv,decide_eq_true_eq]
theorem iX{G:GS}{s:HT}{l:List HT}{h:HT}:h∈cG G s l↔((h∈ids G.D/\∃p∈l,eB G.D h p)\/h∈l)/\h≠s/\¬eB G.D h s:=by
 unfold cG;rw [nY,nX]
theorem jM(G:GS)(s:HT)(l:List HT):SO G (cG G s l):=BQ (ry _ _ _)
theorem nW{G:GS}{s:HT}{l m:List HT}(hs:SO G m)(h:∀x,x∈m↔x∈pZ G.D s l):m=cG G s l:=
 Kh hs (jM G s l) fun x=>by unfold cG;rw [h,nY]
theorem gK{G:GS}:∀ {l:List HT},l≠ []->bU G l∈l
 |x::l,_=>by
  have key:∀(l:List HT) (b:HT),l.foldl (fun b y=>if gl G b y then y else b) b=b\/l.foldl (fun b y=>if gl G b y then y else b) b∈l:=by
   intro l
   induction l with
   |nil=>intro b;exact .inl rfl
   |cons y l ih=>
    intro b;simp only [List.foldl_cons];rcases ih (if gl G b y then y else b)with e|e
    ·rw [e]
     split
     ·exact .inr List.mem_cons_self
     ·exact .inl rfl
    ·exact .inr (List.mem_cons_of_mem _ e)
  rcases key l x with e|e
  ·rw [bU,e];exact List.mem_cons_self
  ·exact List.mem_cons_of_mem _ e
theorem eW(D:DG)(l m:List HT)(h:HT):bS D (l++m) h=bS D l h++bS D m h:=List.filter_append ..
theorem eF{D:DG}{l:List HT}{h b:HT}:b∈bS D l h↔b∈l/\mi D b h:=by unfold bS;rw [List.mem_filter,decide_eq_true_eq]
theorem mi.symm{D:DG}{a b:HT}(h:mi D a b):mi D b a:=⟨h.1.symm,h.2.2,h.2.1⟩
theorem mX{x:HT}:∀ {m:List HT} {b:List Bool},x∈ek m b->x∈m
 |h::l,b::m,hx=>by
  unfold ek at hx;split at hx
  ·rcases List.mem_cons.1 hx with e|e
   ·rw [e];exact List.mem_cons_self
   ·exact List.mem_cons_of_mem _ (mX e)
  ·exact List.mem_cons_of_mem _ (mX hx)
 | [],_,hx=>by simp [ek]at hx
 |_::_,[],hx=>by simp [ek]at hx
theorem oR:∀ {m:List HT} {b:List Bool},m.Nodup->(ek m b).Nodup
 |h::l,b::m,hn=>by
  rw [List.nodup_cons]at hn;unfold ek;split
  ·exact List.nodup_cons.2 ⟨fun e=>hn.1 (mX e),oR hn.2⟩
  ·exact oR hn.2
 | [],_,_=>by simp [ek]
 |_::_,[],_=>by simp [ek]
theorem wJ:∀ {m:List HT} {b:List Bool},b.length=m.length->(ek m b).length=b.count true
 |h::l,b::m,hn=>by
  have:=wJ (m:=l) (b:=m) (by simpa using hn);unfold ek;cases b<;>simp [this]
 | [],[],_=>rfl
 | [],_::_,h=>by simp at h
 |_::_,[],h=>by simp at h
theorem uw{x:HT}{c:Bool}:∀ {m:List HT} {b:List Bool},b.length=m.length->ek (m++ [x]) (b++ [c])=ek m b++if c then [x]else []
 |h::l,b::m,hn=>by
  have:=uw (x:=x) (c:=c) (m:=l) (b:=m) (by simpa using hn);simp only [List.cons_append,ek,this];cases b<;>simp
 | [],[],_=>by cases c<;>simp [ek]
 | [],_::_,h=>by simp at h
 |_::_,[],h=>by simp at h
theorem Hy(k:Nat)(D:DG)(wd:List HT):∀(m:List HT),∃b:List Bool,b.length=m.length/\m.foldl (jV k D) ⟨wd,[]⟩=⟨wd++ek m b,b⟩:=by
 intro m
 induction h:m.length generalizing m with
 |zero=>exact⟨[],by simp,by rw [List.length_eq_zero_iff.1 h];simp [ek]⟩
 |succ n ih=>
  have fD:m≠ []:=fun e=>by rw [e]at h;simp at h
  obtain⟨m',x,rfl⟩:∃m' x,m=m'++ [x]:=⟨m.dropLast,m.getLast fD,(List.dropLast_concat_getLast fD).symm⟩;obtain⟨b,h1,h2⟩:=ih m' (by simpa using h);have h1:b.length=m'.length:=by rw [List.length_append,List.length_cons,List.length_nil]at h;omega
  refine⟨b++ [mf k D (wd++ek m' b) x],by simp only [List.length_append,List.length_cons,List.length_nil]at h⊢;omega,?_⟩;rw [List.foldl_append,h2,List.foldl_cons,List.foldl_nil,uw h1];unfold jV;cases mf k D (wd++ek m' b) x<;>simp
theorem u9(k:Nat)(G:GS)(s:HT)(l:List HT):(dP k G s l).bl.length=(cG G s l).length/\(dP k G s l).wd=G.world s++ [s]++ek (cG G s l) (dP k G s l).bl:=by
 obtain⟨b,h1,h2⟩:=Hy k G.D (G.world s++ [s]) (cG G s l);unfold dP;rw [h2];exact⟨h1,rfl⟩
structure fp(k:Nat)(G:GS):Prop where
 W:jG G.D
 gQ:rR G.D G.P
 lc:G.qS.length=G.D.length
 lw:G.kZ.length=G.D.length
 root:∀nd,G.D[0]? =some nd->G.fM nd.id=⟨dz,0,[],[]⟩/\G.world nd.id= []
 up:∀s h,jF G.D G.P s h->(G.fM h).gQ=s/\G.world h=G.world s++ [s]++ek (G.fM h).merge (G.fM h).fL/\(G.fM h).fL.length=(G.fM h).merge.length/\(G.fM h).merge.Nodup/\∀y,y∈(G.fM h).merge↔eB G.D y h/\y≠s/\¬eB G.D y s
 wd:∀h∈ids G.D,(G.world h).Nodup/\(∀b∈G.world h,eB G.D b h)/\G.score h=(G.world h).length
theorem GS.tI{G:GS}(W:jG G.D){i:Nat}{nd:DN}(h:G.D[i]? =some nd):G.at_ nd.id=some i:=W.pos_eq h
theorem GS.JN{G:GS}(W:jG G.D){i:Nat}{nd:DN}{c:oE}(h:G.D[i]? =some nd)(hc:G.qS[i]? =some c):G.fM nd.id=c:=by
 unfold GS.fM;rw [GS.tI W h];simp [hc]
theorem GS.Hr{G:GS}(W:jG G.D){i:Nat}{nd:DN}{c:List HT}(h:G.D[i]? =some nd)(hc:G.kZ[i]? =some c):G.world nd.id=c:=by
 unfold GS.world;rw [GS.tI W h];simp [hc]
section
variable{k:Nat}{G:GS}{h:HT}{ps:List HT}
theorem oU(hc:dF G.D h ps≠0):dh k G h ps=G:=by unfold dh;rw [if_neg hc]
theorem qk:(dh k G h ps).D=nz G.D h ps:=by
 unfold dh nz;split<;>rfl
theorem Kb:(dh k G h ps).D=ox G.D h (bU G ps) ps:=by
 rw [qk];unfold ox;by_cases hc:dF G.D h ps=0
 ·have fD:=(km hc).2.1
  have:hU G.D h (bU G ps) ps=0:=by unfold hU;rw [if_pos hc,if_pos (gK fD)]
  rw [if_pos this,ql hc]
 ·have:hU G.D h (bU G ps) ps≠0:=by unfold hU;rw [if_neg hc];exact hc
  rw [if_neg this];unfold nz;rw [if_neg hc]
theorem GZ:hU G.D h (bU G ps) ps=dF G.D h ps:=by
 unfold hU;split
 ·rename_i hc
  rw [if_pos (gK (km hc).2.1),hc]
 ·rfl
theorem Kc:(dh k G h ps).P=ow G.D G.P h (bU G ps) ps:=by
 unfold ow dh;rw [GZ];by_cases hc:dF G.D h ps=0
 ·rw [if_pos hc,if_pos hc]
 ·rw [if_neg hc,if_neg hc]
theorem jZ(hc:dF G.D h ps=0):dh k G h ps=⟨G.D++ [⟨h,dA ps⟩],G.P++ [(((pos (bU G ps) (ids G.D) 0).getD 0:Nat):Int)],G.qS++ [cX k G (bU G ps) ps],G.kZ++ [(dP k G (bU G ps) ps).wd]⟩:=by
 unfold dh;rw [if_pos hc]
theorem yA(H:fp k G){s:HT}(hs:s∈ids G.D)(l:List HT)(hl:∀p∈l,p∈ids G.D):
 (dP k G s l).wd.Nodup/\(dP k G s l).wd.length=(cX k G s l).score/\∀y∈(dP k G s l).wd,y∈ids G.D/\(y=s\/eB G.D y s\/y∈cG G s l):=by
 obtain⟨h1,h2⟩:=u9 k G s l;obtain⟨w1,w2,w3⟩:=H.wd s hs;have hm:∀y∈ek (cG G s l) (dP k G s l).bl,y∈ids G.D/\y≠s/\¬eB G.D y s:=fun y hy=>by
  obtain⟨e,h3,h4⟩:=iX.1 (mX hy);refine⟨?_,h3,h4⟩;rcases e with e|e
  ·exact e.1
  ·exact hl _ e
 rw [h2];refine⟨?_,?_,?_⟩
 ·refine List.nodup_append.2 ⟨List.nodup_append.2 ⟨w1,by simp,?_⟩,oR (jM G s l).nodup,?_⟩
  ·intro a ha b hb e
   have hb:b=s:=by simpa using hb
   subst hb;subst e;exact eB.irrefl H.W _ (w2 _ ha)
  ·intro a ha b hb e
   subst e;obtain⟨_,h3,h4⟩:=hm _ hb;rcases List.mem_append.1 ha with e|e
   ·exact h4 (w2 _ e)
   ·exact h3 (by simpa using e)
 ·unfold cX
  simp only [List.length_append,List.length_cons,List.length_nil,wJ h1,w3]
 ·intro y hy
  rcases List.mem_append.1 hy with hy|hy
  ·rcases List.mem_append.1 hy with hy|hy
   ·exact⟨((w2 _ hy).mem H.W).1,.inr (.inl (w2 _ hy))⟩
   ·have:y=s:=by simpa using hy
    subst this;exact⟨hs,.inl rfl⟩
  ·exact⟨(hm _ hy).1,.inr (.inr (mX hy))⟩
theorem iH(H:fp k G){y:HT}(hy:y∈ids G.D):(dh k G h ps).fM y=G.fM y/\(dh k G h ps).world y=G.world y:=by
 by_cases hc:dF G.D h ps=0
 ·obtain⟨hn,fD,ft,oY⟩:=km hc
  obtain⟨nd,om,rfl⟩:=cS.1 hy;obtain⟨i,hi⟩:=List.getElem?_of_mem om;have dY:=(lgeS hi).1;have C8:(G.D++ [(⟨h,dA ps⟩:DN)])[i]? =some nd:=by rw [List.getElem?_append_left dY];exact hi
  have W':jG (dh k G h ps).D:=by rw [qk];exact H.W.add h ps
  rw [jZ hc]at W'⊢;have e1:(⟨G.D++ [⟨h,dA ps⟩],G.P++ [(((pos (bU G ps) (ids G.D) 0).getD 0:Nat):Int)],G.qS++ [cX k G (bU G ps) ps],G.kZ++ [(dP k G (bU G ps) ps).wd]⟩:GS).at_ nd.id=some i:=GS.tI W' C8;have e2:=GS.tI H.W hi;unfold GS.fM GS.world;rw [e1,e2];simp only [Option.bind_some];rw [List.getElem?_append_left (by rw [H.lc];exact dY),List.getElem?_append_left (by rw [H.lw];exact dY)];exact⟨rfl,rfl⟩
 ·rw [oU hc];exact⟨rfl,rfl⟩
theorem lV(H:fp k G)(hc:dF G.D h ps=0):(dh k G h ps).fM h=cX k G (bU G ps) ps/\(dh k G h ps).world h=(dP k G (bU G ps) ps).wd:=by
 have W':jG (dh k G h ps).D:=by rw [qk];exact H.W.add h ps
 rw [jZ hc]at W'⊢;have C8:(G.D++ [(⟨h,dA ps⟩:DN)])[G.D.length]? =some ⟨h,dA ps⟩:=by rw [List.getElem?_append_right (Nat.le_refl _),Nat.sub_self];rfl
 have e1:(⟨G.D++ [⟨h,dA ps⟩],G.P++ [(((pos (bU G ps) (ids G.D) 0).getD 0:Nat):Int)],G.qS++ [cX k G (bU G ps) ps],G.kZ++ [(dP k G (bU G ps) ps).wd]⟩:GS).at_ h=some G.D.length:=GS.tI W' C8;unfold GS.fM GS.world;rw [e1];simp only [Option.bind_some];rw [List.getElem?_append_right (by rw [H.lc];exact Nat.le_refl _),H.lc,Nat.sub_self,List.getElem?_append_right (by rw [H.lw];exact Nat.le_refl _),H.lw,Nat.sub_self];exact⟨rfl,rfl⟩
end
section
variable{k:Nat}{G:GS}{h:HT}{ps:List HT}
theorem ju(k:Nat)(r:HT):fp k (dg r):=by
 have e0:(dg r).at_ r=some 0:=GS.tI (G:=dg r) (jG.root r) (nd:=⟨r,[]⟩) rfl;have ec:(dg r).fM r=⟨dz,0,[],[]⟩:=by unfold GS.fM;rw [e0];rfl
 have ew:(dg r).world r= []:=by unfold GS.world;rw [e0];rfl
 refine⟨jG.root r,rR.one r,rfl,rfl,?_,?_,?_⟩
 ·intro nd ft
  have:nd=⟨r,[]⟩:=by simpa [dg]using ft.symm
  subst this;exact⟨ec,ew⟩
 ·rintro s h ⟨i,j,ni,m,h1,_,h3,_,_⟩
  exfalso;cases i with
  |zero=>simp [dg]at h3
  |succ i=>simp [dg]at h1
 ·intro h hm
  have:h=r:=by simpa [dg,ids]using hm
  subst this;refine⟨by rw [ew];simp,by rw [ew];simp,?_⟩;unfold GS.score;rw [ec,ew];rfl
theorem Cp(H:fp k G)(hc:dF G.D h ps=0):∃(j:Nat) (m:DN),G.D[j]? =some m/\m.id=bU G ps/\(pos (bU G ps) (ids G.D) 0).getD 0=j/\bU G ps∈ps/\bU G ps∈ids G.D:=by
 obtain⟨hn,fD,ft,oY⟩:=km hc;have h1:=gK (G:=G) fD;have h2:=oY _ (dt.2 h1);obtain⟨m,hm,e⟩:=cS.1 h2;obtain⟨j,hj⟩:=List.getElem?_of_mem hm;have h3:=H.W.pos_eq hj;rw [e]at h3;exact⟨j,m,hj,e,by rw [h3];rfl,h1,h2⟩
theorem wO(H:fp k G)(hc:dF G.D h ps=0):(∀y,eB (G.D++ [⟨h,dA ps⟩]) y h↔∃p∈ps,y=p\/eB G.D y p)/\∀a b,b∈ids G.D->(eB (G.D++ [⟨h,dA ps⟩]) a b↔eB G.D a b):=by
 obtain⟨hn,fD,ft,oY⟩:=km hc;have W':jG (G.D++ [⟨h,dA ps⟩]):=by have:=H.W.add h ps;rwa [ql hc]at this
 have C8:(G.D++ [(⟨h,dA ps⟩:DN)])[G.D.length]? =some ⟨h,dA ps⟩:=by rw [List.getElem?_append_right (Nat.le_refl _),Nat.sub_self];rfl
 have BT:∀a b,b∈ids G.D->(eB (G.D++ [⟨h,dA ps⟩]) a b↔eB G.D a b):=fun a b hb=>jB H.W hn hb;refine⟨fun y=>?_,BT⟩;rw [sI W' C8 y];constructor
 ·rintro⟨p,hp,e⟩
  exact⟨p,dt.1 hp,e.imp_right fun e=>(BT _ _ (oY _ hp)).1 e⟩
 ·rintro⟨p,hp,e⟩
  exact⟨p,dt.2 hp,e.imp_right fun e=>(BT _ _ (oY _ (dt.2 hp))).2 e⟩
theorem fp.add(H:fp k G)(h:HT)(ps:List HT):fp k (dh k G h ps):=by
 by_cases hc:dF G.D h ps=0
 ·obtain⟨hn,fD,ft,oY⟩:=km hc
  obtain⟨j,m,hj,hm,jK,zA,wP⟩:=Cp H hc;obtain⟨zr,BT⟩:=wO H hc;have hk:=fun y (hy:y∈ids G.D)=>iH (h:=h) (ps:=ps) H hy;obtain⟨nc,nw⟩:=lV H hc;obtain⟨v1,v2⟩:=u9 k G (bU G ps) ps;obtain⟨u1,u2,u3⟩:=yA H wP ps (fun p hp=>oY _ (dt.2 hp));have W':jG (G.D++ [⟨h,dA ps⟩]):=by have:=H.W.add h ps;rwa [ql hc]at this
  have mP:rR (G.D++ [(⟨h,dA ps⟩:DN)]) (G.P++ [(j:Int)]):=H.gQ.snoc hj (by rw [hm];exact dt.2 zA) H.W.pos;generalize hs:bU G ps=s at*;have eG:=jZ (k:=k) hc;rw [hs,jK]at eG;have eD:(dh k G h ps).D=G.D++ [⟨h,dA ps⟩]:=by rw [eG]
  have eP:(dh k G h ps).P=G.P++ [(j:Int)]:=by rw [eG]
  refine⟨by rw [eD];exact W',by rw [eD,eP];exact mP,by rw [eG];simp [H.lc],by rw [eG];simp [H.lw],?_,?_,?_⟩
  ·intro nd om
   rw [eD,List.getElem?_append_left H.W.pos]at om;obtain⟨e1,e2⟩:=hk nd.id (cS.2 ⟨nd,List.mem_of_getElem? om,rfl⟩);rw [e1,e2];exact H.root nd om
  ·intro t y hy
   rw [eD,eP,oH H.W H.gQ hn hj]at hy;rcases hy with hy|⟨rfl,rfl⟩
   ·have hp:=hy.par H.gQ
    have Yi:y∈ids G.D:=((eB.one hp).mem H.W).2;have Ux:t∈ids G.D:=((eB.one hp).mem H.W).1;obtain⟨e1,e2⟩:=hk y Yi;obtain⟨_,e3⟩:=hk t Ux;obtain⟨g1,g2,g3,g4,g5⟩:=H.up t y hy;rw [e1,e2,e3,eD];refine⟨g1,g2,g3,g4,fun z=>?_⟩;rw [g5,BT _ _ Yi,BT _ _ Ux]
   ·show _/\_
    rw [nc,nw,hm,(hk s wP).2,eD];refine⟨rfl,v2,v1,(jM _ _ _).nodup,fun z=>?_⟩;show z∈cG G s ps↔_
    rw [iX,zr,BT _ _ wP];constructor
    ·rintro⟨e,h3,h4⟩
     refine⟨?_,h3,h4⟩;rcases e with⟨_,p,hp,e⟩|e
     ·exact⟨p,hp,.inr e⟩
     ·exact⟨z,e,.inl rfl⟩
    ·rintro⟨⟨p,hp,e⟩,h3,h4⟩
     refine⟨?_,h3,h4⟩;rcases e with rfl|e
     ·exact .inr hp
     ·exact .inl ⟨(e.mem H.W).1,p,hp,e⟩
  ·intro y hy
   rw [eD,lQ]at hy;rcases List.mem_append.1 hy with hy|hy
   ·obtain⟨e1,e2⟩:=hk y hy
    obtain⟨g1,g2,g3⟩:=H.wd y hy;unfold GS.score;rw [e1,e2,eD];exact⟨g1,fun b hb=>(BT _ _ hy).2 (g2 b hb),g3⟩
   ·have:y=h:=by simpa using hy
    subst this;unfold GS.score;rw [nc,nw,eD];refine⟨u1,fun b hb=>?_,u2.symm⟩;obtain⟨_,e⟩:=u3 b hb;rw [zr];rcases e with rfl|e|e
    ·exact⟨b,zA,.inl rfl⟩
    ·exact⟨s,zA,.inr e⟩
    ·obtain⟨e,_,_⟩:=iX.1 e
     rcases e with⟨_,p,hp,e⟩|e
     ·exact⟨p,hp,.inr e⟩
     ·exact⟨b,e,.inl rfl⟩
 ·rw [oU hc];exact H
end
def nx(sz:HT->HT->Option Nat)(l:List HT)(b:HT):Nat:=(l.findSome? fun h=>sz h b).getD 0
def sx(ov:HT->Option Nat)(base:HT->Nat)(b:HT):Nat:=(ov b).getD (base b)
structure OV(D:DG)(wd:List HT)(ov:HT->Option Nat)(base:HT->Nat):Prop where
 kn:∀b∈wd,sx ov base b=(bS D wd b).length
 Sn:∀b n,ov b=some n->b∈wd
noncomputable def Ay(D:DG)(wd:List HT)(ov:HT->Option Nat)(base:HT->Nat)(h:HT):HT->Option Nat:=
 fun b=>if b∈bS D wd h then some (sx ov base b+1)else if b=h then some (bS D wd h).length else ov b
theorem OV.step{D:DG}{wd:List HT}{ov:HT->Option Nat}{base:HT->Nat}(H:OV D wd ov base){h:HT}(hn:h∉wd):OV D (wd++ [h]) (Ay D wd ov base h) base:=by
 refine⟨fun b hb=>?_,fun b n e=>?_⟩
 ·rw [eW,List.length_append]
  unfold sx Ay;by_cases hp:b∈bS D wd h
  ·rw [if_pos hp]
   obtain⟨h1,h2⟩:=eF.1 hp;rw [Option.getD_some,H.kn b h1];have:bS D [h] b= [h]:=by unfold bS;rw [List.filter_cons_of_pos (by simpa using h2.symm)];rfl
   rw [this];rfl
  ·rw [if_neg hp]
   by_cases e:b=h
   ·subst e
    rw [if_pos rfl,Option.getD_some];have:bS D [b] b= []:=by unfold bS;rw [List.filter_cons_of_neg (by simpa using fun e:mi D b b=>e.1 rfl)];rfl
    rw [this];rfl
   ·rw [if_neg e]
    have hw:b∈wd:=by
     rcases List.mem_append.1 hb with hb|hb
     ·exact hb
     ·exact absurd (by simpa using hb) e
    have:bS D [h] b= []:=by unfold bS;rw [List.filter_cons_of_neg (by simpa using fun e':mi D h b=>hp (eF.2 ⟨hw,e'.symm⟩))];rfl
    rw [this];exact H.kn b hw
 ·unfold Ay at e
  split at e
  ·rename_i hp
   exact List.mem_append_left _ (eF.1 hp).1
  ·split at e
   ·rename_i hb;subst hb;exact List.mem_append_right _ (by simp)
   ·exact List.mem_append_left _ (H.Sn b n e)
structure SZ(G:GS)(sz:HT->HT->Option Nat):Prop where
 kn:∀h l,h∈ids G.D->cF G.D G.P h l->∀b∈G.world h++ [h],nx sz l b=(bS G.D (G.world h++ [h]) b).length
 Sn:∀h b n,sz h b=some n->b∈ids G.D
theorem SZ.ov{G:GS}{sz:HT->HT->Option Nat}(Z:SZ G sz){s:HT}(hs:s∈ids G.D){l:List HT}(hl:cF G.D G.P s l):OV G.D (G.world s++ [s]) (fun _=>none) (nx sz l):=
 ⟨fun b hb=>Z.kn s l hs hl b hb,fun b n e=>by cases e⟩
theorem Up.snoc{P:List Int}{p:Int}:∀ {i:Nat} {l:List Nat},Up P i l->Up (P++ [p]) i l:=by
 intro i l h
 induction h with
 |root=>exact .root
 |step h _ ih=>exact .step (by rw [List.getElem?_append_left (lgeS h).1];exact h) ih
theorem yf{D:DG}{nd:DN}{i:Nat}(h:i<D.length):mO (D++ [nd]) i=mO D i:=by unfold mO;rw [List.getElem?_append_left h]
theorem cF.snoc{D:DG}{P:List Int}(H:rR D P){nd:DN}{p:Int}{h:HT}{l:List HT}(hm:h∈ids D)(c:cF D P h l):cF (D++ [nd]) (P++ [p]) h l:=by
 rcases c with⟨hn,_⟩|⟨i,m,ks,h1,h2,h3,h4⟩
 ·exact absurd hm hn
 ·have dY:=(lgeS h1).1
  refine .inr ⟨i,m,ks,by rw [List.getElem?_append_left dY];exact h1,h2,h3.snoc,?_⟩;rw [h4];refine List.map_congr_left fun k hk=>(yf ?_).symm;have:=h3.lt H.par (by rw [H.len];exact dY) k hk
  rwa [H.len]at this
theorem cF.new{D:DG}{P:List Int}(W:jG D)(H:rR D P){nd m:DN}{j:Nat}(hj:D[j]? =some m){l:List HT}(c:cF D P m.id l):cF (D++ [nd]) (P++ [(j:Int)]) nd.id (nd.id::l):=by
 have hm:m.id∈ids D:=cS.2 ⟨m,List.mem_of_getElem? hj,rfl⟩;have c':=cF.snoc (nd:=nd) (p:=(j:Int)) H hm c;rcases c with⟨hn,_⟩|⟨i,m',ks,h1,h2,h3,h4⟩
 ·exact absurd hm hn
 ·have rf:=W.inj h1 hj h2
  subst rf;have e0:(D++ [nd])[D.length]? =some nd:=by rw [List.getElem?_append_right (Nat.le_refl _),Nat.sub_self];rfl
  refine .inr ⟨D.length,nd,D.length::ks,e0,rfl,.step (by rw [<-H.len,List.getElem?_append_right (Nat.le_refl _),Nat.sub_self];rfl) h3.snoc,?_⟩;rw [List.map_cons,mN e0,h4]
  congr 1
  refine List.map_congr_left fun k hk=>(yf ?_).symm;have:=h3.lt H.par (by rw [H.len];exact(lgeS h1).1) k hk
  rwa [H.len]at this
theorem mq{D D':DG}{l:List HT}{b:HT}(h:∀a∈l,mi D' a b↔mi D a b):bS D' l b=bS D l b:=by
 unfold bS;exact List.filter_congr fun a ha=>by simp only [h a ha]
theorem SZ.root(r:HT):SZ (dg r) (fun _ _=>none):=by
 refine⟨fun h l hm _ b hb=>?_,fun h b n e=>by cases e⟩;have hh:h=r:=by simpa [dg,ids]using hm
 subst hh;have ew:(dg h).world h= []:=((ju 0 h).root ⟨h,[]⟩ rfl).2;rw [ew]at hb⊢;have:b=h:=by simpa using hb
 subst this;have:bS (dg b).D ([]++ [b]) b= []:=by unfold bS;rw [List.nil_append,List.filter_cons_of_neg (by simpa using fun e:mi (dg b).D b b=>e.1 rfl)];rfl
 rw [this];unfold nx;have:(l.findSome? fun _=>(none:Option Nat))=none:=by simp
 rw [this];rfl
theorem SZ.add{k:Nat}{G:GS}{sz:HT->HT->Option Nat}(Z:SZ G sz)(H:fp k G){h:HT}{ps:List HT}(hc:dF G.D h ps=0){l:List HT}(hl:cF G.D G.P (bU G ps) l){ov:HT->Option Nat}
 (O:OV G.D (dP k G (bU G ps) ps).wd ov (nx sz l)):SZ (dh k G h ps) (fun y=>if y=h then ov else sz y):=by
 obtain⟨hn,fD,ft,oY⟩:=km hc;obtain⟨j,m,hj,hm,jK,zA,wP⟩:=Cp H hc;obtain⟨zr,BT⟩:=wO H hc;have H':=H.add h ps;obtain⟨nc,nw⟩:=lV H hc;obtain⟨u1,u2,u3⟩:=yA H wP ps (fun p hp=>oY _ (dt.2 hp));have eD:(dh k G h ps).D=G.D++ [⟨h,dA ps⟩]:=by rw [jZ hc]
 have eP:(dh k G h ps).P=G.P++ [(j:Int)]:=by rw [jZ hc,jK]
 have Su:∀a b,a∈ids G.D->b∈ids G.D->(mi (G.D++ [⟨h,dA ps⟩]) a b↔mi G.D a b):=fun a b ha hb=>by unfold mi;rw [BT _ _ hb,BT _ _ ha]
 have lno:∀(y:HT) (l':List HT),y∈ids G.D->cF G.D G.P y l'->∀b,nx (fun y=>if y=h then ov else sz y) l' b=nx sz l' b:=fun y l' hy c b=>by
  unfold nx;have LW:h∉l':=fun e=>hn ((c.mem H.W H.gQ).1 e).mem.1;have key:∀l':List HT,h∉l'->(l'.findSome? fun y=>(if y=h then ov else sz y) b)=l'.findSome? fun y=>sz y b:=by
   intro l'
   induction l' with
   |nil=>intro _;rfl
   |cons y l' ih=>
    intro hq;simp only [List.mem_cons,not_or]at hq;rw [List.findSome?_cons,List.findSome?_cons,if_neg (fun e=>hq.1 e.symm),ih hq.2]
  rw [key l' LW]
 refine⟨fun y l' hy c b hb=>?_,fun y b n e=>?_⟩
 ·rw [eD,eP]at c
  rw [eD]at hy⊢;rw [lQ]at hy;have W':jG (G.D++ [⟨h,dA ps⟩]):=by have:=H'.W;rwa [eD]at this
  have S':rR (G.D++ [⟨h,dA ps⟩]) (G.P++ [(j:Int)]):=by have:=H'.gQ;rwa [eD,eP]at this
  rcases List.mem_append.1 hy with hy|hy
  ·obtain⟨l0,c0⟩:=cF.ex H.gQ y
   have:l'=l0:=c.one W' S' (c0.snoc H.gQ hy);subst this;obtain⟨_,e2⟩:=iH (k:=k) (h:=h) (ps:=ps) H hy;rw [e2]at hb⊢;rw [lno y l' hy c0,Z.kn y l' hy c0 b hb];have fQ:∀a∈G.world y++ [y],a∈ids G.D:=fun a ha=>by
    rcases List.mem_append.1 ha with ha|ha
    ·exact(((H.wd y hy).2.1 a ha).mem H.W).1
    ·have:a=y:=by simpa using ha
     subst this;exact hy
   rw [mq fun a ha=>Su a b (fQ a ha) (fQ b hb)]
  ·have:y=h:=by simpa using hy
   subst this;have cn:=cF.new (nd:=⟨y,dA ps⟩) H.W H.gQ hj (by rw [hm];exact hl);have:l'=y::l:=c.one W' S' cn;subst this;rw [nw]at hb⊢;have e1:nx (fun z=>if z=y then ov else sz z) (y::l) b=sx ov (nx sz l) b:=by
    have:=lno _ l wP hl b;unfold nx at this⊢;unfold sx;rw [List.findSome?_cons];cases B7:ov b with
    |none=>simp only [if_true,B7,Option.getD_none];exact this
    |some n=>simp only [if_true,B7,Option.getD_some]
   rw [e1,eW,List.length_append];have Ts:∀a∈(dP k G (bU G ps) ps).wd,¬mi (G.D++ [⟨y,dA ps⟩]) a y:=fun a ha e=>by
    obtain⟨_,e'⟩:=u3 a ha;refine e.2.1 ((zr a).2 ?_);rcases e' with rfl|e'|e'
    ·exact⟨_,zA,.inl rfl⟩
    ·exact⟨_,zA,.inr e'⟩
    ·obtain⟨e',_,_⟩:=iX.1 e'
     rcases e' with⟨_,p,hp,e'⟩|e'
     ·exact⟨p,hp,.inr e'⟩
     ·exact⟨a,e',.inl rfl⟩
   rcases List.mem_append.1 hb with hb|hb
   ·have hbi:=(u3 b hb).1
    have:bS (G.D++ [⟨y,dA ps⟩]) [y] b= []:=by unfold bS;rw [List.filter_cons_of_neg (by simpa using fun e:mi _ y b=>Ts b hb e.symm)];rfl
    rw [this,O.kn b hb,mq fun a ha=>Su a b (u3 a ha).1 hbi];rfl
   ·have:b=y:=by simpa using hb
    subst this;have e2:bS (G.D++ [⟨b,dA ps⟩]) (dP k G (bU G ps) ps).wd b= []:=by
     unfold bS;rw [List.filter_eq_nil_iff];intro a ha;simpa using Ts a ha
    have e3:bS (G.D++ [⟨b,dA ps⟩]) [b] b= []:=by unfold bS;rw [List.filter_cons_of_neg (by simpa using fun e:mi _ b b=>e.1 rfl)];rfl
    rw [e2,e3];have e4:ov b=none:=by
     cases B7:ov b with
     |none=>rfl
     |some n=>exact absurd (u3 b (O.Sn b n B7)).1 hn
    have e5:nx sz l b=0:=by
     unfold nx;have:(l.findSome? fun h=>sz h b)=none:=by
      rw [List.findSome?_eq_none_iff];intro y hy;cases IZ:sz y b with
      |none=>rfl
      |some n=>exact absurd (Z.Sn y b n IZ) hn
     rw [this];rfl
    unfold sx;rw [e4,e5];rfl
 ·rw [eD,lQ]
  refine List.mem_append_left _ ?_;split at e
  ·exact(u3 b (O.Sn b n e)).1
  ·exact Z.Sn y b n e
noncomputable def zF(G:GS)(h:HT):List HT->List HT
 | []=> []
 |a::r=>(if mi G.D a h then [a]else [])++if eB G.D a h then []else bS G.D (ek (G.fM a).merge (G.fM a).fL) h++zF G h r
theorem Up.inv{P:List Int}{i:Nat}{l:List Nat}(h:Up P i l):(i=0/\l= [0])\/∃(j:Nat) (r:List Nat),l=i::r/\P[i]? =some (j:Int)/\Up P j r:=by
 cases h with
 |root=>exact .inl ⟨rfl,rfl⟩
 |step h1 h2=>exact .inr ⟨_,_,rfl,h1,h2⟩
theorem cF.inv{D:DG}{P:List Int}(W:jG D)(H:rR D P){h:HT}{l:List HT}(hm:h∈ids D)(c:cF D P h l):
 (l= [h]/\∃nd,D[0]? =some nd/\nd.id=h)\/∃(s:HT) (r:List HT),l=h::r/\jF D P s h/\s∈ids D/\cF D P s r:=by
 rcases c with⟨hn,_⟩|⟨i,m,ks,h1,h2,h3,h4⟩
 ·exact absurd hm hn
 ·rcases h3.inv with⟨rfl,rfl⟩|⟨j,r,rfl,h5,h6⟩
  ·refine .inl ⟨?_,m,h1,h2⟩
   rw [h4,List.map_cons,List.map_nil,mN h1,h2]
  ·have hj:j<D.length:=by
    cases i with
    |zero=>rw [H.root]at h5;simp only [Option.some.injEq]at h5;omega
    |succ i=>
     obtain⟨j',m',e,_,h7,_⟩:=H.up (i+1) _ m (by omega) h5 h1;have:=(lgeS h7).1;omega
   obtain⟨mj,Qu⟩:∃mj,D[j]? =some mj:=⟨_,List.getElem?_eq_getElem hj⟩;refine .inr ⟨mj.id,r.map (mO D),?_,⟨i,j,m,mj,h1,h2,h5,Qu,rfl⟩,cS.2 ⟨mj,List.mem_of_getElem? Qu,rfl⟩,.inr ⟨j,mj,r,Qu,rfl,h6,rfl⟩⟩;rw [h4,List.map_cons,mN h1,h2]
theorem Ro{k:Nat}{G:GS}(H:fp k G)(h:HT):∀(l:List HT) (s:HT),s∈ids G.D->cF G.D G.P s l->(zF G h l).Nodup/\∀y,y∈zF G h l↔y∈bS G.D (G.world s++ [s]) h:=by
 intro l
 induction l with
 |nil=>
  intro s hs c;rcases c.inv H.W H.gQ hs with⟨e,_⟩|⟨_,_,e,_⟩<;>cases e
 |cons a r ih=>
  intro s hs c;have key:∀(wb:List HT),G.world s=wb++ek (G.fM s).merge (G.fM s).fL->(zF G h r).Nodup->(∀y,y∈zF G h r↔y∈bS G.D wb h)->a=s->(zF G h (a::r)).Nodup/\∀y,y∈zF G h (a::r)↔y∈bS G.D (G.world s++ [s]) h:=by
   rintro wb hw hn hy rfl;obtain⟨w1,w2,_⟩:=H.wd a hs;have abY:=eB.irrefl H.W a;rw [hw]at w1 w2⊢;rw [List.nodup_append]at w1;obtain⟨w3,w4,w5⟩:=w1;unfold zF;by_cases ha:eB G.D a h
   ·have LY:¬mi G.D a h:=fun e=>e.2.1 ha
    rw [if_pos ha,if_neg LY];refine⟨by simp,fun y=>?_⟩;simp only [List.append_nil,List.not_mem_nil,false_iff];intro e;obtain⟨e1,e2⟩:=eF.1 e;rcases List.mem_append.1 e1 with e1|e1
    ·exact e2.2.1 ((w2 y e1).trans ha)
    ·have:y=a:=by simpa using e1
     subst this;exact LY e2
   ·rw [if_neg ha]
    have hr:∀y∈zF G h r,y∈wb:=fun y e=>(eF.1 ((hy y).1 e)).1;refine⟨?_,fun y=>?_⟩
    ·refine List.nodup_append.2 ⟨by split<;>simp,List.nodup_append.2 ⟨w4.filter _,hn,?_⟩,?_⟩
     ·intro x hx z hz e
      subst e;exact w5 x (hr x hz) x (eF.1 hx).1 rfl
     ·intro x hx z hz e
      subst e;split at hx
      ·have:x=a:=by simpa using hx
       subst this;refine abY (w2 x ?_);rcases List.mem_append.1 hz with hz|hz
       ·exact List.mem_append_right _ (eF.1 hz).1
       ·exact List.mem_append_left _ (hr x hz)
      ·simp at hx
    ·rw [eW,eW]
     simp only [List.mem_append,hy];have e1:y∈(if mi G.D a h then [a]else [])↔y∈bS G.D [a] h:=by
      unfold bS;by_cases hp:mi G.D a h
      ·rw [if_pos hp,List.filter_cons_of_pos (by simpa using hp)];rfl
      ·rw [if_neg hp,List.filter_cons_of_neg (by simpa using hp)];rfl
     rw [e1];constructor
     ·rintro(e|e|e)
      ·exact .inr e
      ·exact .inl (.inr e)
      ·exact .inl (.inl e)
     ·rintro((e|e)|e)
      ·exact .inr (.inr e)
      ·exact .inr (.inl e)
      ·exact .inl e
  rcases c.inv H.W H.gQ hs with⟨e,nd,h0,rfl⟩|⟨t,r',e,qN,ht,hc⟩
  ·obtain⟨r1,r2⟩:=H.root nd h0
   cases e;exact key [] (by rw [r2,r1];simp [ek]) (by simp [zF]) (fun y=>by simp [zF,bS]) rfl
  ·cases e
   obtain⟨_,u2,_⟩:=H.up t a qN;obtain⟨i1,i2⟩:=ih t ht hc;exact key (G.world t++ [t]) u2 i1 i2 rfl
noncomputable def o5(G:GS)(h:HT)(bl l:List HT):List HT:=bS G.D bl h++zF G h l
theorem MH{k:Nat}{G:GS}(H:fp k G){h s:HT}{l bl:List HT}(hs:s∈ids G.D)(hl:cF G.D G.P s l)(hn:(G.world s++ [s]++bl).Nodup):
 (o5 G h bl l).Nodup/\(o5 G h bl l).length=(bS G.D (G.world s++ [s]++bl) h).length/\∀y,y∈o5 G h bl l↔y∈bS G.D (G.world s++ [s]++bl) h:=by
 obtain⟨h1,h2⟩:=Ro H h l s hs hl;have h0:=hn;rw [List.nodup_append]at hn;obtain⟨n1,n2,n3⟩:=hn;have hm:∀y,y∈o5 G h bl l↔y∈bS G.D (G.world s++ [s]++bl) h:=fun y=>by
  unfold o5;rw [eW,List.mem_append,List.mem_append,h2];exact Or.comm
 have ft:(o5 G h bl l).Nodup:=by
  refine List.nodup_append.2 ⟨n2.filter _,h1,?_⟩;intro x hx z hz e;subst e;exact n3 x (eF.1 ((h2 x).1 hz)).1 x (eF.1 hx).1 rfl
 exact⟨ft,((List.perm_ext_iff_of_nodup ft (h0.filter _)).2 hm).length_eq,hm⟩
def r8(k:Nat)(kn:HT->Nat)(done:List HT)(b:HT):Bool:=decide (done.length+1<=k/\kn b<k)
def fy(k:Nat)(kn:HT->Nat):List HT->List HT->Bool
 |_,[]=>true
 |done,b::l=>r8 k kn done b&&fy k kn (done++ [b]) l
theorem qj{k:Nat}{kn:HT->Nat}:∀ {l done:List HT},fy k kn done l=true↔(l≠ []->done.length+l.length<=k)/\∀b∈l,kn b<k
 | [],done=>by simp [fy]
 |b::l,done=>by
  unfold fy r8;rw [Bool.and_eq_true,decide_eq_true_eq,qj];simp only [List.length_append,List.length_cons,List.length_nil,List.mem_cons,forall_eq_or_imp,ne_eq,reduceCtorEq,not_false_eq_true,forall_const];constructor
  ·rintro⟨⟨h1,h2⟩,h3,h4⟩
   refine⟨?_,h2,h4⟩;by_cases e:l= []
   ·subst e;simpa using h1
   ·have:=h3 e;omega
  ·rintro⟨h1,h2,h3⟩
   refine⟨⟨by omega,h2⟩,fun _=>by omega,h3⟩
theorem mY{k:Nat}{kn:HT->Nat}:∀ {l m done:List HT},fy k kn done (l++m)=(fy k kn done l&&fy k kn (done++l) m)
 | [],m,done=>by simp [fy]
 |b::l,m,done=>by
  simp only [List.cons_append,fy,mY (l:=l),Bool.and_assoc,List.append_assoc,List.nil_append]
theorem JQ{k:Nat}{D:DG}{wd:List HT}{kn:HT->Nat}{h:HT}{c:List HT}(hk:∀b∈wd,kn b=(bS D wd b).length)(hl:c.length=(bS D wd h).length)(hm:∀y,y∈c↔y∈bS D wd h):
 fy k kn [] c=mf k D wd h:=by
 rw [Bool.eq_iff_iff,qj];unfold mf;rw [decide_eq_true_eq];simp only [List.length_nil,Nat.zero_add,<-hl];constructor
 ·rintro⟨h1,h2⟩
  refine⟨?_,fun y hy=>?_⟩
  ·by_cases e:c= []
   ·subst e;simp
   ·exact h1 e
  ·have:=h2 y ((hm y).2 hy)
   rw [hk y (eF.1 hy).1]at this;omega
 ·rintro⟨h1,h2⟩
  refine⟨fun _=>h1,fun y hy=>?_⟩;have hy:=(hm y).1 hy;rw [hk y (eF.1 hy).1];have:=h2 y hy;omega
open Go.RowKit
theorem H9:xF dO fz (.pointer none):=⟨by kernel_rfl,uN (by kernel_rfl)⟩
theorem sj:xF cJ j0 (.int .i64 0):=⟨by kernel_rfl,uN (by kernel_rfl)⟩
structure Bo(w:World)(A:Option Addr)(n:Nat)(l:List Bool):Prop where
 len:l.length=n
 at_:∀(i:Nat) (b:Bool),l[i]? =some b->∃a,A=some a/\a.block<w.heap.size/\w.cell? (a.add i)=some (.bool b)
theorem Bo.aF{S:Nat->Prop}{w w':World}{A:Option Addr}{n:Nat}{l:List Bool}(h:Bo w A n l)(hk:Kept S w w')(hn:∀a,A=some a->¬S a.block):Bo w' A n l:=⟨h.len,fun i x hi=>by
 obtain⟨a,h1,h2,h3⟩:=h.at_ i x hi;exact⟨a,h1,Nat.lt_of_lt_of_le h2 hk.size,hk.cell h3 (by rw [fg];exact hn a h1)⟩⟩
theorem Bo.same{w w':World}{A:Option Addr}{n:Nat}{l:List Bool}(h:Bo w A n l)(hk:Kept Nil w w'):Bo w' A n l:=h.aF hk fun _ _ h=>h
def K7(ov:HT->Option Nat)(b:HT):Option Value:=(ov b).map fun n:Nat=>.int .i64 (n:Int)
def G4(w:World)(F:Nat->Prop)(sm:Option Nat)(sz:HT->Option Nat):Prop:=
 (sm=none/\∀b,sz b=none)\/∃s,sm=some s/\F s/\fV w s (K7 sz)
def cQ(c:oE)(A:Option Addr)(n cp:Nat)(B:Option Addr)(m cq:Nat):Array Value:=c.gQ.1++ #[.int .u64 (c.score:Int),.slice A n cp,.slice B m cq]
structure rj(w:World)(F:Nat->Prop)(q:Nat)(c:oE)(sz:HT->Option Nat)(A:Option Addr)(n cp:Nat)(B:Option Addr)(m cq:Nat)(sm:Option Nat):Prop where
 top:w.heap[q]? =some (.cells (cQ c A n cp B m cq++ #[.map sm]) eA (0,0))
 mg:HS w A n c.merge
 bl:Bo w B m c.fL
 fA:∀a,A=some a->F a.block
 fB:∀a,B=some a->F a.block
 sz:G4 w F sm sz
 fq:F q
def Seen(w:World)(F:Nat->Prop)(q:Nat)(c:oE)(sz:HT->Option Nat):Prop:=∃A n cp B m cq sm,rj w F q c sz A n cp B m cq sm
section
variable{w w':World}{F S:Nat->Prop}{q:Nat}{c:oE}{sz:HT->Option Nat}{A B:Option Addr}{n cp m cq:Nat}{sm:Option Nat}
theorem G4.aF(h:G4 w F sm sz)(hk:Kept S w w')(hF:∀j,F j->¬S j):G4 w' F sm sz:=by
 rcases h with h|⟨s,h1,h2,h3⟩
 ·exact .inl h
 ·exact .inr ⟨s,h1,h2,h3.aF hk (hF _ h2)⟩
theorem rj.aF(h:rj w F q c sz A n cp B m cq sm)(hk:Kept S w w')(hF:∀j,F j->¬S j):rj w' F q c sz A n cp B m cq sm:=
 ⟨hk.heap h.top (hF _ h.fq),h.mg.aF hk (fun a ha=>hF _ (h.fA a ha)),h.bl.aF hk (fun a ha=>hF _ (h.fB a ha)),h.fA,h.fB,h.sz.aF hk hF,h.fq⟩
theorem Seen.aF(h:Seen w F q c sz)(hk:Kept S w w')(hF:∀j,F j->¬S j):Seen w' F q c sz:=by
 obtain⟨A,n,cp,B,m,cq,sm,h⟩:=h;exact⟨A,n,cp,B,m,cq,sm,h.aF hk hF⟩
theorem a8(c:oE)(A:Option Addr)(n cp:Nat)(B:Option Addr)(m cq:Nat):(cQ c A n cp B m cq).size=35:=by
 unfold cQ;rw [Array.size_append,c.gQ.2.1];rfl
theorem gD(c:oE)(A:Option Addr)(n cp:Nat)(B:Option Addr)(m cq:Nat)(r:Array Value):
 ((cQ c A n cp B m cq)++r)[32]? =some (.int .u64 (c.score:Int))/\((cQ c A n cp B m cq)++r)[33]? =some (.slice A n cp)/\((cQ c A n cp B m cq)++r)[34]? =some (.slice B m cq)/\((cQ c A n cp B m cq)++r)[35]? =r[0]? :=by
 have hs:=a8 c A n cp B m cq;have h0:c.gQ.1.size=32:=c.gQ.2.1;refine⟨?_,?_,?_,?_⟩
 ·rw [Array.getElem?_append_left (by omega)];unfold cQ;rw [Array.getElem?_append_right (by omega),h0];rfl
 ·rw [Array.getElem?_append_left (by omega)];unfold cQ;rw [Array.getElem?_append_right (by omega),h0];rfl
 ·rw [Array.getElem?_append_left (by omega)];unfold cQ;rw [Array.getElem?_append_right (by omega),h0];rfl
 ·rw [Array.getElem?_append_right (by omega),hs]
theorem rj.Xy(h:rj w F q c sz A n cp B m cq sm):w.cell? (((⟨q,0,none⟩:Addr).add 0).add 32)=some (.int .u64 (c.score:Int)):=by
 rw [add_zero,bt,aD h.top];exact(gD ..).1
theorem rj.c35(h:rj w F q c sz A n cp B m cq sm):w.cell? ((⟨q,0,none⟩:Addr).add 35)=some (.map sm):=by
 rw [bt,aD h.top];exact(gD ..).2.2.2
theorem rj.fM(h:rj w F q c sz A n cp B m cq sm):Cells w ((⟨q,0,none⟩:Addr).add 0) (cQ c A n cp B m cq):=by
 intro j u hj;rw [add_zero,bt,aD h.top,Array.getElem?_append_left (by rw [a8];have:=(Array.getElem?_eq_some_iff.1 hj).1;rw [a8]at this;omega)];rw [Nat.zero_add];exact hj
end
structure CM where
 x:Nat
 mb:Nat
 SX:Nat->Prop
 FX:Nat->Prop
 q:HT->Nat
 sz:HT->HT->Option Nat
def CM.own(m:CM)(c j:Nat):Prop:=m.SX j\/j=c\/j=m.mb
structure CV(w:World)(F:Nat->Prop)(c:Nat)(k:Nat)(G:GS)(m:CM):Prop where
 top:w.heap[c]? =some (.cells #[.int .i64 (k:Int),.pointer (some ⟨m.x,0,none⟩),.map (some m.mb)] ik (0,0))
 X:DK w m.SX m.FX m.x G.D G.P
 all:fV w m.mb fun h=>if h∈ids G.D then some (.pointer (some ⟨m.q h,0,none⟩))else none
 seen:∀h∈ids G.D,Seen w F (m.q h) (G.fM h) (m.sz h)
 fk:fp k G
 Z:SZ G m.sz
 fx:∀j,m.FX j->F j
 fo:∀j,F j->¬m.own c j
 so:∀j,m.SX j->j≠c/\j≠m.mb
 ne:c≠m.mb
 low:∀j,m.own c j\/F j->j<w.heap.size
section
variable{w w':World}{F S:Nat->Prop}{c k:Nat}{G:GS}{m:CM}{K:Value->World->Prop}
theorem CV.aF{S0:Nat->Prop}(h:CV w F c k G m)(hk:Kept S0 w w')(hS:∀j,m.own c j->¬S0 j)(hF:∀j,F j->¬S0 j):CV w' F c k G m where
 top:=hk.heap h.top (hS _ (.inr (.inl rfl)))
 X:=h.X.aF hk (fun j e=>hS j (.inl e)) (fun j e=>hF j (h.fx j e))
 all:=h.all.aF hk (hS _ (.inr (.inr rfl)))
 seen:=fun y hy=>(h.seen y hy).aF hk hF
 fk:=h.fk
 Z:=h.Z
 fx:=h.fx
 fo:=h.fo
 so:=h.so
 ne:=h.ne
 low:=fun j e=>Nat.lt_of_lt_of_le (h.low j e) hk.size
theorem CV.same(h:CV w F c k G m)(hk:Kept Nil w w'):CV w' F c k G m:=h.aF hk (fun _ _ h=>h) (fun _ _ h=>h)
theorem CV.c0(h:CV w F c k G m):w.cell? ((⟨c,0,none⟩:Addr).add 0)=some (.int .i64 (k:Int)):=by rw [bt,aD h.top];rfl
theorem CV.c1(h:CV w F c k G m):w.cell? ((⟨c,0,none⟩:Addr).add 1)=some (.pointer (some ⟨m.x,0,none⟩)):=by rw [bt,aD h.top];rfl
theorem CV.c2(h:CV w F c k G m):w.cell? ((⟨c,0,none⟩:Addr).add 2)=some (.map (some m.mb)):=by rw [bt,aD h.top];rfl
theorem CV.look(h:CV w F c k G m)(y:HT):(Instr.lookup dO (.map (some m.mb)) (.agg y.1) false).run prog w=.ok (.pointer (if y∈ids G.D then some ⟨m.q y,0,none⟩else none)) w:=by
 have:=h.all.look H9 y;by_cases hy:y∈ids G.D
 ·rw [if_pos hy]at this;rw [if_pos hy];exact this
 ·rw [if_neg hy]at this;rw [if_neg hy];exact this
theorem CV.oW(h:CV w F c k G m){y:HT}(hy:y∈ids G.D):(Instr.lookup dO (.map (some m.mb)) (.agg y.1) false).run prog w=.ok (.pointer (some ⟨m.q y,0,none⟩)) w:=by
 have:=h.look y;rwa [if_pos hy]at this
theorem nD(h:CV w F c k G m)(hK:K (.bool true) w):bz prog eI.id #[.pointer (some ⟨c,0,none⟩)] w K:=
 eI.of (Split.yes rfl ⟨_,h.c1,hK⟩)
theorem GI{A:Addr}{x y:Int}{cx:Nat}(h0:w.cell? A=some (.int .i64 x))(h1:w.cell? (A.add 1)=some (.int .i64 y))(hK:K (.int .i64 (if x=0 then y else x)) w):
 bz prog bP.id #[.slice (some A) 2 cx] w K:=by
 refine bP.of ?_;unfold bP.W;refine bP.cy (I:=fun s w'=>w'=w/\((s=(0,0))\/(s=(0,1)/\x=0)\/(s=(0,2)/\x=0/\y=0))) (μ:=fun s _=>(2-s.2).toNat) (s:=(0,0)) ⟨rfl,.inl rfl⟩ ?_;rintro s w' ⟨rfl,h⟩;rcases h with rfl|⟨rfl,hx⟩|⟨rfl,hx,hy⟩
 ·refine Split.yes rfl ⟨by simp only;omega,x,by rw [show(0:Int).toNat*1=0 from rfl,add_zero];exact h0,?_⟩
  by_cases hx:x=0
  ·refine Split.no (by simp [hx]) ?_
   exact⟨(0,1),rfl,⟨rfl,.inr (.inl ⟨rfl,hx⟩)⟩,by simp only;omega⟩
  ·refine Split.yes (by simpa using hx) ?_
   rw [if_neg hx]at hK;rw [iV];exact hK
 ·refine Split.yes rfl ⟨by simp only;omega,y,h1,?_⟩
  rw [if_pos hx]at hK;by_cases hy:y=0
  ·refine Split.no (by simp [hy]) ?_
   exact⟨(0,2),rfl,⟨rfl,.inr (.inr ⟨rfl,hx,hy⟩)⟩,by simp only;omega⟩
  ·refine Split.yes (by simpa using hy) ?_
   rw [iV];exact hK
 ·refine Split.no rfl ?_
  rw [aS,bP.dq];rw [if_pos hx,hy]at hK;exact hK
theorem Dt{x y:Int}(hK:K (.int .i64 (if x<y then-1 else if y<x then 1 else 0)) w):bz prog dL.id #[.int .u64 x,.int .u64 y] w K:=by
 refine dL.of ?_;refine fE.of ⟨_,rfl,?_⟩;refine fE.of ⟨_,rfl,?_⟩;refine Split.no (by simp) (Split.no (by simp) (Split.dec (fun h=>?_) (fun h=>Split.dec (fun h'=>?_) (fun h'=>?_))))
 ·rw [if_pos h]at hK;exact hK
 ·rw [if_neg h,if_pos h']at hK;exact hK
 ·rw [if_neg h,if_neg h']at hK;exact hK
theorem qd(h:CV w F c k G m){a b:HT}(ha:a∈ids G.D)(hb:b∈ids G.D)(hK:∀w',Kept Nil w w'->K (.int .i64 (BG G a b)) w'):
 bz prog bE.id #[.pointer (some ⟨c,0,none⟩),.agg a.1,.agg b.1] w K:=by
 refine bE.of ?_;unfold bE.W;intro w4 w5 w6;have k4:Kept Nil w w4:=(Kept.refl _ _).alloc _;have xq:w4.heap[w.heap.size]? =some (.cells a.1 ag (0,0)):=aI w _;have k5:Kept Nil w4 w5:=(Kept.refl _ _).alloc _;have oD:w5.heap[w4.heap.size]? =some (.cells b.1 ag (0,0)):=aI w4 _;have k6:Kept Nil w5 w6:=(Kept.refl _ _).drew;clear_value w6;have xp:=(k5.tt k6).heap xq (fun h=>h);have qR:=k6.heap oD (fun h=>h);have o8:=(k4.tt k5).tt k6;have h6:=h.same o8;obtain⟨A1,n1,c1,B1,m1,d1,s1,sa⟩:=h6.seen a ha;obtain⟨A2,n2,c2,B2,m2,d2,s2,sb⟩:=h6.seen b hb;refine⟨_,h6.c2,a.1,⟨a.2.1,Cells.bJ xp⟩,_,h6.oW ha,_,sa.Xy,_,h6.c2,b.1,⟨b.2.1,Cells.bJ qR⟩,_,h6.oW hb,_,sb.Xy,a.1,⟨a.2.1,Cells.bJ xp⟩,b.1,⟨b.2.1,Cells.bJ qR⟩,?_⟩;refine Dt ⟨_,rfl,⟨b.1,rfl,b.2.1,Cells.bJ qR⟩,⟨a.1,rfl,a.2.1,Cells.bJ xp⟩,?_⟩;refine qh a b ⟨_,rfl,?_⟩;have k7:Kept Nil w6 ((w6.alloc (.cells a.1 ag)).alloc (.cells b.1 ag)).drew:=(((Kept.refl Nil w6).alloc _).alloc _).drew;generalize ((w6.alloc (.cells a.1 ag)).alloc (.cells b.1 ag)).drew=w7 at k7⊢;intro w8;have k8:Kept Nil w7 w8:=(Kept.refl _ _).alloc _;have Ml:w8.heap[w7.heap.size]? =some (.cells _ _ (0,0)):=aI w7 _;clear_value w8;refine GI (A:=⟨w7.heap.size,0,none⟩) (by rw [aD Ml];rfl) (by rw [bt,aD Ml];rfl) ⟨_,rfl,?_⟩;have e:(if(if((G.fM a).score:Int)<((G.fM b).score:Int)then(-1:Int)else if((G.fM b).score:Int)<((G.fM a).score:Int)then 1 else 0)=0 then lT a b else if((G.fM a).score:Int)<((G.fM b).score:Int)then(-1:Int)else if((G.fM b).score:Int)<((G.fM a).score:Int)then 1 else 0)=BG G a b:=by
  rw [MG];unfold GS.score;by_cases h1:(G.fM a).score<(G.fM b).score
  ·have rQ:((G.fM a).score:Int)<((G.fM b).score:Int):=by omega
   rw [if_pos h1,if_pos rQ,if_neg (by decide)]
  ·have rQ:¬((G.fM a).score:Int)<((G.fM b).score:Int):=by omega
   by_cases h2:(G.fM b).score<(G.fM a).score
   ·have sP:((G.fM b).score:Int)<((G.fM a).score:Int):=by omega
    rw [if_neg h1,if_neg rQ,if_pos h2,if_pos sP,if_neg (by decide)]
   ·have sP:¬((G.fM b).score:Int)<((G.fM a).score:Int):=by omega
    rw [if_neg h1,if_neg rQ,if_neg h2,if_neg sP,if_pos rfl]
 rw [e];exact hK _ ((o8.tt k7).tt k8)
end
section
variable{w:World}
theorem fV.Ee{mt te:TypeId}{z:Value}(T:xF mt te z){m:Nat}{f:HT->Option Value}(hm:fV w m f)(h:HT):
 (Instr.lookup mt (.map (some m)) (.agg h.1) true).run prog w=.ok (.tuple #[(f h).getD z,.bool (f h).isSome]) w:=by
 obtain⟨es,clock,l,h1,h2,h3,_⟩:=hm.ex;have h4:=ml h w h2;have h5:=nE h l 0;rw [h3]at h5;simp only [Instr.lookup,Sem.run_bind,run_underlying T.pB,qf h1,Result.andThen_ok,Sem.run_pure,jt,h4];cases hp:mc h l 0 with
 |none=>rw [hp]at h5;simp [<-h5,T.zero]
 |some p=>rw [hp]at h5;simp [<-h5]
theorem CA{mt te:TypeId}{z:Value}(T:xF mt te z)(h:HT):
 (Instr.lookup mt (.map none) (.agg h.1) true).run prog w=.ok (.tuple #[z,.bool false]) w:=by
 have h3:=ml (es:= []) (l:= []) h w trivial;simp only [Instr.lookup,Sem.run_bind,run_underlying T.pB,Result.andThen_ok,Sem.run_pure,jt];simp [h3,mc,T.zero]
theorem G4.Ee{F:Nat->Prop}{sm:Option Nat}{sz:HT->Option Nat}(h:G4 w F sm sz)(b:HT):
 (Instr.lookup cJ (.map sm) (.agg b.1) true).run prog w=.ok (.tuple #[.int .i64 (((sz b).getD 0:Nat):Int),.bool (sz b).isSome]) w:=by
 rcases h with⟨rfl,h⟩|⟨s,rfl,_,h⟩
 ·rw [h b];exact CA sj b
 ·have:=h.Ee sj b
  unfold K7 at this;cases hb:sz b with
  |none=>rw [hb]at this;exact this
  |some n=>rw [hb]at this;exact this
end
section
variable{w w':World}{F S:Nat->Prop}{c k:Nat}{G:GS}{m:CM}{K:Value->World->Prop}
theorem Bs(h:CV w F c k G m)(hD:G.D.length<=5000)(a b:HT)(hK:∀w' (r:Bool),(r=true↔mi G.D a b)->Kept Nil w w'->K (.bool r) w'):
 bz prog du.id #[.pointer (some ⟨c,0,none⟩),.agg a.1,.agg b.1] w K:=by
 refine du.of ?_;unfold du.W;intro w4 w5 w6;have k4:Kept Nil w w4:=(Kept.refl _ _).alloc _;have xq:w4.heap[w.heap.size]? =some (.cells a.1 ag (0,0)):=aI w _;have k5:Kept Nil w4 w5:=(Kept.refl _ _).alloc _;have oD:w5.heap[w4.heap.size]? =some (.cells b.1 ag (0,0)):=aI w4 _;have k6:Kept Nil w5 w6:=(Kept.refl _ _).drew;clear_value w6;have xp:=(k5.tt k6).heap xq (fun h=>h);have qR:=k6.heap oD (fun h=>h);have o8:=(k4.tt k5).tt k6;have h6:=h.same o8;refine⟨a.1,⟨a.2.1,Cells.bJ xp⟩,b.1,⟨b.2.1,Cells.bJ qR⟩,⟨a.2.ints,b.2.ints⟩,?_⟩;rw [dC];by_cases lE:a=b
 ·refine Split.no (by rw [decide_eq_true lE];rfl) (hK w6 false ⟨(fun e=>by cases e),fun e=>absurd lE e.1⟩ o8)
 ·refine Split.yes (by rw [decide_eq_false lE];rfl) ⟨_,h6.c1,a.1,⟨a.2.1,Cells.bJ xp⟩,b.1,⟨b.2.1,Cells.bJ qR⟩,?_⟩
  obtain⟨mx,X6,_⟩:=h6.X;refine mo X6 hD a b fun w7 r hr k7=>⟨_,rfl,?_⟩;have xi:=o8.tt k7;cases r with
  |true=>exact Split.no rfl (hK w7 false ⟨(fun e=>by cases e),fun e=>absurd (hr.1 rfl) e.2.1⟩ xi)
  |false=>
   have h7:=h.same xi;refine Split.yes rfl ⟨_,h7.c1,b.1,⟨b.2.1,Cells.bJ (k7.heap qR (fun h=>h))⟩,a.1,⟨a.2.1,Cells.bJ (k7.heap xp (fun h=>h))⟩,?_⟩;obtain⟨mx',X7,_⟩:=h7.X;refine mo X7 hD b a fun w8 r' R7 k8=>⟨_,rfl,hK w8 _ ?_ (xi.tt k8)⟩;cases r' with
   |true=>exact⟨(fun e=>by cases e),fun e=>absurd (R7.1 rfl) e.2.2⟩
   |false=>exact⟨fun _=>⟨lE,(fun e=>by have:=hr.2 e;cases this),(fun e=>by have:=R7.2 e;cases this)⟩,fun _=>rfl⟩
def og(D:DG)(l:List HT):Int:=if l= []then 9 else if ∃p∈l,p∉ids D then 6 else 0
theorem GA(h:CV w F c k G m){A:Option Addr}{n cx:Nat}{l:List HT}(hl:HS w A n l)(hn:n<=400000)(hK:∀w',Kept Nil w w'->K (.int .i64 (og G.D l)) w'):
 bz prog eR.id #[.pointer (some ⟨c,0,none⟩),.slice A n cx] w K:=by
 have hlen:=hl.len;refine eR.of ?_;unfold eR.W;intro w4;have k4:Kept Nil w w4:=(Kept.refl _ _).alloc _;have QY:w4.heap[w.heap.size]? =some (.cells #[.pointer (some ⟨c,0,none⟩)] eU (0,0)):=aI w _;clear_value w4;refine⟨some ⟨c,0,none⟩,by rw [aD QY];rfl,nD (h.same k4) ⟨_,rfl,Split.no rfl ?_⟩⟩;by_cases h0:n=0
 ·subst h0
  have e:l= []:=List.eq_nil_of_length_eq_zero hlen;refine Split.yes rfl ?_;have:=hK w4 k4;unfold og at this;rw [if_pos e]at this;exact this
 ·have fD:l≠ []:=fun e=>by subst e;exact h0 hlen.symm
  refine Split.no (by simpa using (by omega:¬(n:Int)=0)) ?_;refine cf.of (ao.of ?_);refine ao.cy (I:=fun s w'=>∃i:Nat,s=(0,(i:Int))/\i<=n/\(∀p∈l.take i,p∈ids G.D)/\Kept Nil w4 w') (μ:=fun s _=>((n:Int)-s.2).toNat) (s:=(0,0)) ⟨0,rfl,Nat.zero_le _,by simp,Kept.refl _ _⟩ ?_;rintro s w' ⟨i,rfl,hi,dm,kw⟩;have k0w:=k4.tt kw;refine Split.dec (fun jQ=>?_) (fun gE=>?_)
  ·simp only at jQ
   have dY:i<n:=by omega
   obtain⟨y,hy⟩:∃y,l[i]? =some y:=⟨_,List.getElem?_eq_getElem (by omega)⟩;refine(hl.same k0w).load (i:=(i:Int)) (by omega) hy ?_;refine eV.of ?_;unfold eV.W;intro w7 w8;have k7:Kept Nil w' w7:=(Kept.refl _ _).alloc _;have hb7:w7.heap[w'.heap.size]? =some (.cells y.1 ag (0,0)):=aI w' _;have k8:Kept Nil w7 w8:=(Kept.refl _ _).drew;clear_value w8;have Ml:=k8.heap hb7 (fun h=>h);have RP:=(kw.tt k7).tt k8;have h8:=h.same (k4.tt RP);refine⟨some ⟨c,0,none⟩,by rw [aD (RP.heap QY (fun h=>h))];rfl,_,h8.c2,y.1,⟨y.2.1,Cells.bJ Ml⟩,_,h8.look y,_,rfl,?_⟩;by_cases hm:y∈ids G.D
   ·refine Split.no (by rw [if_pos hm];rfl) ?_
    simp only;rw [dH (n:=(i:Int)) (by omega) (by omega)];refine⟨(0,(i:Int)+1),rfl,⟨i+1,rfl,dY,fun p hp=>?_,RP⟩,by simp only;omega⟩;rcases(bN hy).1 hp with hp|rfl
    ·exact dm p hp
    ·exact hm
   ·refine Split.yes (by rw [if_neg hm];rfl) ?_
    refine⟨(i:Int),rfl,_,rfl,?_⟩;have:=hK w8 (k4.tt RP);unfold og at this;rw [if_neg fD,if_pos ⟨y,List.mem_of_getElem? hy,hm⟩]at this;refine Split.yes (decide_eq_true (by omega)) this
  ·simp only at gE
   rw [aS,ao.dq];rw [List.take_of_length_le (by omega)]at dm;refine⟨_,rfl,_,rfl,?_⟩;have:=hK w' k0w;unfold og at this;rw [if_neg fD,if_neg (fun⟨p,hp,hn⟩=>hn (dm p hp))]at this;exact Split.no (by decide) this
end
theorem ur{α β:Type}{f:α->Option β}{y:α}{n:β}:∀ {l:List α} {j:Nat},l[j]? =some y->(∀x∈l.take j,f x=none)->f y=some n->l.findSome? f=some n
 | [],j,h,_,_=>by simp at h
 |x::l,0,h,_,hy=>by
  simp only [List.getElem?_cons_zero,Option.some.injEq]at h;subst h;rw [List.findSome?_cons,hy]
 |x::l,j+1,h,ha,hy=>by
  have hx:=ha x (by simp);rw [List.findSome?_cons,hx];exact ur (l:=l) (j:=j) (by simpa using h) (fun z hz=>ha z (by simp [hz])) hy
section
variable{w w':World}{F S:Nat->Prop}{c k:Nat}{G:GS}{m:CM}{K:Value->World->Prop}
theorem Di(h:CV w F c k G m)(hD:G.D.length<=5000){a b:HT}(ha:a∈ids G.D){l:List HT}(hc:cF G.D G.P a l)(hK:∀w',Kept Nil w w'->K (.int .i64 ((nx m.sz l b:Nat):Int)) w'):
 bz prog bg.id #[.pointer (some ⟨c,0,none⟩),.agg a.1,.agg b.1] w K:=by
 have W:=h.fk.W;have H:=h.fk.gQ;have Sd:∀y∈l,y∈ids G.D:=fun y hy=>((hc.mem W H).1 hy).mem.1;refine bg.of ?_;unfold bg.W;intro w4 w5 w6 w7 w8;have k4:Kept Nil w w4:=(Kept.refl _ _).alloc _;have QY:w4.heap[w.heap.size]? =some (.cells #[.pointer (some ⟨c,0,none⟩)] eU (0,0)):=aI w _;have k5:Kept Nil w4 w5:=(Kept.refl _ _).alloc _;have Mq:w5.heap[w4.heap.size]? =some (.cells a.1 ag (0,0)):=aI w4 _;have k6:Kept Nil w5 w6:=(Kept.refl _ _).alloc _;have qR:w6.heap[w5.heap.size]? =some (.cells b.1 ag (0,0)):=aI w5 _;have k7:Kept Nil w6 w7:=(Kept.refl _ _).alloc _;have I7:w7.heap[w6.heap.size]? =some (.cells #[.int .i64 0] j0 (0,0)):=aI w6 _;have k8:Kept Nil w7 w8:=(Kept.refl _ _).drew;clear_value w8;have Yr:=k8.heap I7 (fun h=>h);have Ml:=k8.heap (k7.heap qR (fun h=>h)) (fun h=>h);have ha8:=k8.heap (k7.heap (k6.heap Mq (fun h=>h)) (fun h=>h)) (fun h=>h);have hc8:=k8.heap (k7.heap (k6.heap (k5.heap QY (fun h=>h)) (fun h=>h)) (fun h=>h)) (fun h=>h);have uS:=(((k4.tt k5).tt k6).tt k7).tt k8;have s06:=(((k4.tt k5).tt k6)).size;have l7:=aV I7;have l8:=aV Yr;clear_value w7 w6 w5 w4;refine⟨some ⟨c,0,none⟩,by rw [aD hc8];rfl,_,(h.same uS).c1,a.1,⟨a.2.1,Cells.bJ ha8⟩,?_⟩;refine pP a fun kr pb qb oC LR LO zB Yt=>⟨_,rfl,?_⟩;have ZD:=oC.size;have IH:=uS.tt oC;have Qn:=oC.heap Yr (fun h=>h)
 let uW:Value:=.func (.func aZ.id) #[] #[.pointer (some ⟨pb,0,none⟩),.pointer (some ⟨qb,0,none⟩)]
 let ρ0:Env:= [(3,.pointer (some ⟨w.heap.size,0,none⟩)),(5,.pointer (some ⟨w5.heap.size,0,none⟩)),(6,.pointer (some ⟨w6.heap.size,0,none⟩)),(15,uW)]
 let J:Nat->World->Prop:=fun j u=>Kept Nil kr u/\j<=l.length/\∀y∈l.take j,m.sz y b=none
 let Jd:Code->World->Prop:=fun e u=>e=.ret/\Kept (fun k=>k=w6.heap.size) kr u/\∃n:Nat,(l.findSome? fun y=>m.sz y b)=some n/\u.heap[w6.heap.size]? =some (.cells #[.int .i64 (n:Int)] j0 (0,0))
 have k0J:∀ {u:World},Kept Nil kr u->Kept Nil w u:=fun k=>IH.tt k;have kS:∀ {v:World},Kept (fun k=>k=w6.heap.size) kr v->Kept Nil w v:=fun k=>IH.trans k (fun k hk e=>by omega);obtain⟨mx,X35,_⟩:=(h.same IH).X
 change Holds none [] prog _ _ _ ρ0 kr
 refine oK (n:=33) (ρ:=ρ0) (ρ0:=ρ0) ng mix bg.k (t:=15) (ps:= #[16]) (by kernel_rfl) (by decide) rfl aZ.at_ rfl (.inl rfl) (fun i x hi hx=>hx) rfl sD l (fun _=>rfl) (fun q hq=>by
  have Rr:q=16:=by simpa using hq
  subst Rr;exact⟨by decide,by decide⟩) (yC (F:=m.FX) (x:=m.x) (m:=mx) (pb:=pb) (qb:=qb) hc (by omega)) J Jd ?_ ?_ (fun j u hJ=>⟨X35.same hJ.1,hJ.1.heap LR (fun h=>h),hJ.1.heap LO (fun h=>h)⟩) ?_ ?_ ?_ ?_ ?_
 ·rintro j u1 u2 R nt ⟨h1,h2,h3⟩ oZ
  exact⟨h1.trans oZ (fun k hk e=>by omega),h2,h3⟩
 ·rintro e u1 u2 R nt ⟨h1,h2,n,h3,h4⟩ oZ
  exact⟨h1,h2.trans oZ (fun k hk e=>by omega),n,h3,oZ.heap h4 (by omega)⟩
 ·intro R
  exact⟨(((Kept.refl _ _).alloc _).alloc _),Nat.zero_le _,by simp⟩
 ·rintro j z u1 R hz ⟨h1,h2,h3⟩ nt
  have e7:kH ρ0 ((#[16]:Array Nat).toList.zip (sD z))= [(3,.pointer (some ⟨w.heap.size,0,none⟩)),(5,.pointer (some ⟨w5.heap.size,0,none⟩)),(6,.pointer (some ⟨w6.heap.size,0,none⟩)),(15,uW),(16,.agg z.1)]:=rfl;rw [e7,bg.a1];have tF:=(lgeS hz).1;unfold bg.A1;intro Km;obtain⟨tz,jT,kL⟩:=iu (w:=u1) (z:=dz.1) (cs:=z.1) (t:=ag) (by rw [z.2.1];rfl);refine⟨⟨z.2.1,z.2.one,fun j hj=>tz j (by rw [z.2.1];exact hj)⟩,?_⟩;intro MR
  replace jT:MR.heap[u1.heap.size]? =some (.cells z.1 ag (0,0)):=jT
  replace kL:Kept Nil u1 MR:=kL
  clear_value MR;have Jk:=nt.aF kL (fun h=>h) (fun h=>h);refine⟨Jk,fun w2 R2 mw qO=>?_⟩;have kX:=mw.heap jT (ki jT Jk.loop);have xf:Kept Nil kr w2:=(h1.tt kL).trans mw (fun k hk e=>by omega);rw [bg.y1];unfold bg.Y1;intro SJ;have k48:Kept Nil w2 SJ:=(Kept.refl _ _).drew;clear_value SJ;have VI:=qO.aF k48 (fun h=>h) (fun h=>h);have AX:=xf.tt k48;have Pw:=oC.tt AX;have h48:=h.same (uS.tt Pw);obtain⟨A1,n1,c1,B1,m1,d1,s1,sa⟩:=h48.seen z (Sd z (List.mem_of_getElem? hz));refine⟨some ⟨c,0,none⟩,by rw [aD (Pw.heap hc8 (fun h=>h))];rfl,_,h48.c2,z.1,⟨z.2.1,Cells.bJ (k48.heap kX (fun h=>h))⟩,_,h48.oW (Sd z (List.mem_of_getElem? hz)),_,sa.c35,b.1,⟨b.2.1,Cells.bJ (Pw.heap Ml (fun h=>h))⟩,_,_,sa.sz.Ee b,?_⟩;cases hzb:m.sz z b with
  |some n=>
   refine Split.yes rfl ⟨dS (AX.heap Qn (fun h=>h)) (by simp),?_⟩;intro rk;have Ql:rk.heap[w6.heap.size]? =some (.cells #[.int .i64 (n:Int)] j0 (0,0)):=by
    show(SJ.setCell ⟨w6.heap.size,0,none⟩ (.int .i64 (n:Int))).heap[w6.heap.size]? =_;rw [di (AX.heap Qn (fun h=>h)) 0];rfl
   have Gc:Kept (· =w6.heap.size) SJ rk:=Kept.setCell (S:=fun k=>k=w6.heap.size) (Kept.refl _ SJ) (p:=⟨w6.heap.size,0,none⟩) (fun _=>rfl) _;clear_value rk;exact⟨VI.aF Gc (fun e=>by omega) (fun e=>by omega),rfl,(AX.mono fun _ _ h=>h.elim).tt Gc,n,ur hz h3 hzb,Ql⟩
  |none=>
   refine Split.no rfl ⟨VI,AX,tF,fun y hy=>?_⟩;rcases(bN hz).1 hy with hy|rfl
   ·exact h3 y hy
   ·exact hzb
 ·rintro u1 R ⟨h1,h2,h3⟩ nt
  rw [List.take_of_length_le (Nat.le_refl _)]at h3;have e7:fN ρ0 kr.heap.size= [(3,.pointer (some ⟨w.heap.size,0,none⟩)),(5,.pointer (some ⟨w5.heap.size,0,none⟩)),(6,.pointer (some ⟨w6.heap.size,0,none⟩)),(15,uW),(4294967296,.agg (nK [kr.heap.size]))]:=rfl;rw [e7,bg.iF];unfold bg.fT;have ns:=h1.heap Qn (fun h=>h);refine⟨dS ns (by simp),?_⟩;intro rk;have Ql:rk.heap[w6.heap.size]? =some (.cells #[.int .i64 0] j0 (0,0)):=by
   show(u1.setCell ⟨w6.heap.size,0,none⟩ (.int .i64 0)).heap[w6.heap.size]? =_;rw [di ns 0];rfl
  have Gc:Kept (· =w6.heap.size) u1 rk:=Kept.setCell (S:=fun k=>k=w6.heap.size) (Kept.refl _ u1) (p:=⟨w6.heap.size,0,none⟩) (fun _=>rfl) _;clear_value rk;have nt:=nt.aF Gc (fun e=>by omega) (fun e=>by omega);rw [kQ];have kt:=im [kr.heap.size] rk;have hm:∀E∈ [kr.heap.size],rk.heap[E]? =some (.deferred (some [])):=fun E hE=>by
   rw [List.mem_singleton]at hE;subst hE;exact nt.mark
  refine⟨jw [kr.heap.size] rk (by simp) hm,0,by rw [aD (kt.heap Ql (fun hE=>by rw [List.mem_singleton]at hE;omega))];rfl,?_⟩;have e0:nx m.sz l b=0:=by
   unfold nx;have:(l.findSome? fun h=>m.sz h b)=none:=List.findSome?_eq_none_iff.2 h3;rw [this];rfl
  have:=hK (eK [kr.heap.size] rk) ((kS ((h1.mono fun _ _ h=>h.elim).tt Gc)).trans kt (fun k hk hE=>by rw [List.mem_singleton]at hE;have:=IH.size;omega));rw [e0]at this;exact this
 ·rintro u1 R ⟨_,h2,n,h3,h4⟩ nt
  have e7:fN ρ0 kr.heap.size= [(3,.pointer (some ⟨w.heap.size,0,none⟩)),(5,.pointer (some ⟨w5.heap.size,0,none⟩)),(6,.pointer (some ⟨w6.heap.size,0,none⟩)),(15,uW),(4294967296,.agg (nK [kr.heap.size]))]:=rfl;rw [e7,bg.u7];unfold bg.qm;rw [kQ];have kt:=im [kr.heap.size] u1;have hm:∀E∈ [kr.heap.size],u1.heap[E]? =some (.deferred (some [])):=fun E hE=>by
   rw [List.mem_singleton]at hE;subst hE;exact nt.mark
  refine⟨jw [kr.heap.size] u1 (by simp) hm,(n:Int),by rw [aD (kt.heap h4 (fun hE=>by rw [List.mem_singleton]at hE;omega))];rfl,?_⟩;have e0:nx m.sz l b=n:=by unfold nx;rw [h3];rfl
  have:=hK (eK [kr.heap.size] u1) ((kS h2).trans kt (fun k hk hE=>by rw [List.mem_singleton]at hE;have:=IH.size;omega));rw [e0]at this;exact this
 ·rintro id u1 R ⟨e,_⟩ nt
  cases e
end
section
variable{w:World}
theorem BK{x:HT}:∀ {l:List (HT×Value)},assoc x l≠none↔x∈l.map (·.1)
 | []=>by simp [assoc]
 |(y,v)::l=>by
  have:=BK (x:=x) (l:=l);unfold assoc;by_cases e:x=y
  ·subst e;simp
  ·rw [if_neg e,this]
   simp only [List.map_cons,List.mem_cons];exact⟨.inr,fun h=>h.resolve_left e⟩
theorem fV.len{mt te:TypeId}{z:Value}(T:xF mt te z){m:Nat}{f:HT->Option Value}(hm:fV w m f)(ty:TypeId){l:List HT}(hn:l.Nodup)(hl:∀x,f x≠none↔x∈l):
 (Builtin.len_ #[mt] ty #[.map (some m)]).run prog w=.ok (.int .i64 (l.length:Int)) w:=by
 obtain⟨es,clock,l',h1,h2,h3,_,_,h6⟩:=hm.ex;have e1:es.size=l'.length:=by have:=h2.len;simpa using this
 have e2:l'.length=l.length:=by
  have hp:(l'.map (·.1)).Perm l:=(List.perm_ext_iff_of_nodup h6 hn).2 fun x=>by rw [<-BK,h3,hl]
  simpa using hp.length_eq
 simp [Builtin.len_,run_underlying T.pB,qf h1,goInt,Result.andThen,e1,e2]
end
section
variable{w w':World}{F S:Nat->Prop}{c k:Nat}{G:GS}{m:CM}{K:Value->World->Prop}
structure VB(w:World)(c:Nat)(s:HT)(bs bc bh q sm:Nat)(ov:HT->Option Nat):Prop where
 hs:w.heap[bs]? =some (.cells #[.pointer (some ⟨q,0,none⟩)] fz (0,0))
 hc:w.heap[bc]? =some (.cells #[.pointer (some ⟨c,0,none⟩)] eU (0,0))
 hh:w.heap[bh]? =some (.cells s.1 ag (0,0))
 sz:w.cell? ((⟨q,0,none⟩:Addr).add 35)=some (.map (some sm))
 ov:fV w sm (K7 ov)
theorem VB.aF{S:Nat->Prop}{s:HT}{bs bc bh q sm:Nat}{ov:HT->Option Nat}(h:VB w c s bs bc bh q sm ov)(hk:Kept S w w')(h1:¬S bs)(h2:¬S bc)(h3:¬S bh)(h4:¬S q)(h5:¬S sm):VB w' c s bs bc bh q sm ov:=
 ⟨hk.heap h.hs h1,hk.heap h.hc h2,hk.heap h.hh h3,hk.cell h.sz h4,h.ov.aF hk h5⟩
theorem VB.same{s:HT}{bs bc bh q sm:Nat}{ov:HT->Option Nat}(h:VB w c s bs bc bh q sm ov)(hk:Kept Nil w w'):VB w' c s bs bc bh q sm ov:=h.aF hk (fun h=>h) (fun h=>h) (fun h=>h) (fun h=>h) (fun h=>h)
theorem Br(h:CV w F c k G m)(hD:G.D.length<=5000){s b:HT}(hs:s∈ids G.D){l:List HT}(hc:cF G.D G.P s l){bs bc bh q sm:Nat}{ov:HT->Option Nat}(V:VB w c s bs bc bh q sm ov)
 (hK:∀w',Kept Nil w w'->K (.int .i64 ((sx ov (nx m.sz l) b:Nat):Int)) w'):
 bz prog b0.id #[.agg b.1,.pointer (some ⟨bs,0,none⟩),.pointer (some ⟨bc,0,none⟩),.pointer (some ⟨bh,0,none⟩)] w K:=by
 refine b0.of ?_;unfold b0.W;intro w4 w5;have k4:Kept Nil w w4:=(Kept.refl _ _).alloc _;have pg:w4.heap[w.heap.size]? =some (.cells b.1 ag (0,0)):=aI w _;have k5:Kept Nil w4 w5:=(Kept.refl _ _).drew;clear_value w5;have oD:=k5.heap pg (fun h=>h);have qM:=k4.tt k5;have V5:=V.same qM;refine⟨some ⟨q,0,none⟩,by rw [aD V5.hs];rfl,_,V5.sz,b.1,⟨b.2.1,Cells.bJ oD⟩,?_⟩;have lk:=V5.ov.Ee sj b;unfold K7 at lk;cases hb:ov b with
 |some n=>
  rw [hb]at lk;refine⟨(n:Int),true,lk,Split.yes rfl ?_⟩;have:=hK w5 qM;unfold sx at this;rw [hb]at this;exact this
 |none=>
  rw [hb]at lk;refine⟨0,false,lk,Split.no rfl ⟨some ⟨c,0,none⟩,by rw [aD V5.hc];rfl,s.1,⟨s.2.1,Cells.bJ V5.hh⟩,b.1,⟨b.2.1,Cells.bJ oD⟩,?_⟩⟩;refine Di (h.same qM) hD hs hc fun w7 k7=>⟨_,rfl,?_⟩;have:=hK w7 (qM.tt k7);unfold sx at this;rw [hb]at this;exact this
def zw(w:World)(fm:Nat)(kn:HT->Nat)(done:List HT):Prop:=fV w fm fun y=>if y∈done then some (.int .i64 (kn y:Int))else none
theorem Bp(h:CV w F c k G m)(hD:G.D.length<=5000)(rP:k<=1000){s b:HT}(hs:s∈ids G.D){l:List HT}(hc:cF G.D G.P s l){bs bc bh q sm kb fb fm:Nat}{ov:HT->Option Nat}(V:VB w c s bs bc bh q sm ov)
 (NV:w.heap[kb]? =some (.cells #[.func (.func b0.id) #[] #[.pointer (some ⟨bs,0,none⟩),.pointer (some ⟨bc,0,none⟩),.pointer (some ⟨bh,0,none⟩)]] fF (0,0)))
 (Sf:w.heap[fb]? =some (.cells #[.map (some fm)] cJ (0,0))) {done:List HT} (hn:done.Nodup) (YI:b∉done) (hF:zw w fm (sx ov (nx m.sz l)) done) (hfo:¬m.own c fm) (hff:¬F fm) (fD:bc≠fm)
 (hK:∀w' (r:Bool),r=r8 k (sx ov (nx m.sz l)) done b->zw w' fm (sx ov (nx m.sz l)) (done++ [b])->Kept (· =fm) w w'->K (.bool r) w'):
 bz prog cI.id #[.agg b.1,.pointer (some ⟨kb,0,none⟩),.pointer (some ⟨fb,0,none⟩),.pointer (some ⟨bc,0,none⟩)] w K:=by
 have lfm:=hF.lt;refine cI.of ?_;unfold cI.W;intro w4 w5;have k4:Kept Nil w w4:=(Kept.refl _ _).alloc _;have pg:w4.heap[w.heap.size]? =some (.cells b.1 ag (0,0)):=aI w _;have k5:Kept Nil w4 w5:=(Kept.refl _ _).drew;clear_value w5;have oD:=k5.heap pg (fun h=>h);have qM:=k4.tt k5;have hnf:fb≠fm:=fun e=>by subst e;obtain⟨es,cl,_,h1,_⟩:=hF.ex;rw [Sf]at h1;cases h1
 refine⟨some fm,by rw [aD (qM.heap Sf (fun h=>h))];rfl,b.1,⟨b.2.1,Cells.bJ oD⟩,_,by rw [aD (qM.heap NV (fun h=>h))];rfl,b.1,⟨b.2.1,Cells.bJ oD⟩,?_⟩;refine⟨_,_,_,_,rfl,b0.at_,rfl,?_⟩;refine Br (h.same qM) hD hs hc (V.same qM) fun w7 k7=>⟨_,rfl,⟨b.1,rfl,b.2.1,Cells.bJ (k7.heap oD (fun h=>h))⟩,?_,?_⟩
 ·rw [aD ((qM.tt k7).heap Sf (fun h=>h))];rfl
 have xi:=qM.tt k7;obtain⟨w8,Yr,hm8,k8⟩:=(hF.same xi).put sj b (.int .i64 ((sx ov (nx m.sz l) b:Nat):Int));refine⟨w8,Yr,?_⟩;intro w9;have k9:Kept Nil w8 w9:=(Kept.refl _ _).drew;clear_value w9;have k89:Kept (· =fm) w7 w9:=k8.trans k9 (fun _ _ h=>h.elim);have BW:Kept (· =fm) w w9:=(xi.mono fun _ _ h=>h.elim).tt k89;have Sl:zw w9 fm (sx ov (nx m.sz l)) (done++ [b]):=by
  refine fV.same ?_ k9;have e:(fun y=>if y∈done++ [b]then some (Value.int .i64 ((sx ov (nx m.sz l) y:Nat):Int))else none)=fun x=>if x=b then some (.int .i64 ((sx ov (nx m.sz l) b:Nat):Int))else if x∈done then some (.int .i64 ((sx ov (nx m.sz l) x:Nat):Int))else none:=by
   funext y
   by_cases e:y=b
   ·subst e;rw [if_pos (by simp),if_pos rfl]
   ·rw [if_neg e]
    by_cases hy:y∈done
    ·rw [if_pos (List.mem_append_left _ hy),if_pos hy]
    ·rw [if_neg (by simp [hy,e]),if_neg hy]
  rw [e];exact hm8
 have hb9:w9.heap[w.heap.size]? =some (.cells b.1 ag (0,0)):=((k7.mono fun _ _ h=>h.elim).tt k89:Kept (· =fm) w5 w9).heap oD (by omega);have Wg:=BW.heap Sf hnf;have ft:(done++ [b]).Nodup:=List.nodup_append.2 ⟨hn,by simp,fun x hx y hy e=>by
  have:y=b:=by simpa using hy
  subst this;subst e;exact YI hx⟩
 have h9:CV w9 F c k G m:=h.aF BW (fun j hj e=>by subst e;exact hfo hj) (fun j hj e=>by subst e;exact hff hj);have hc9:w9.heap[bc]? =some (.cells #[.pointer (some ⟨c,0,none⟩)] eU (0,0)):=BW.heap V.hc fD;refine⟨some fm,by rw [aD Wg];rfl,(done++ [b]).length,Sl.len sj j0 ft (fun x=>by
  by_cases hx:x∈done++ [b]
  ·rw [if_pos hx];exact⟨fun _=>hx,fun _ e=>by cases e⟩
  ·rw [if_neg hx];exact⟨fun e=>absurd rfl e,fun e=>absurd e hx⟩),some ⟨c,0,none⟩,by rw [aD hc9];rfl,(k:Int),h9.c0,?_⟩
 refine Split.dec (fun h1=>?_) (fun h1=>?_)
 ·have lk:=fV.look sj Sl b
  rw [if_pos (by simp)]at lk;refine⟨some fm,by rw [aD Wg];rfl,b.1,⟨b.2.1,Cells.bJ hb9⟩,_,lk,some ⟨c,0,none⟩,by rw [aD hc9];rfl,(k:Int),h9.c0,?_⟩;refine hK w9 _ ?_ Sl BW;unfold r8;rw [List.length_append,List.length_cons,List.length_nil]at h1;refine decide_eq_decide.2 ⟨fun h2=>⟨by omega,by omega⟩,fun h2=>by omega⟩
 ·refine hK w9 false ?_ Sl BW
  unfold r8;rw [List.length_append,List.length_cons,List.length_nil]at h1;exact(decide_eq_false (by omega)).symm
end
structure PN where
 bs:Nat
 bc:Nat
 bh:Nat
 q:Nat
 sm:Nat
 kb:Nat
 fb:Nat
 fm:Nat
 yb:Nat
 hb:Nat
def PN.uW(p:PN):Value:=.func (.func cI.id) #[] #[.pointer (some ⟨p.kb,0,none⟩),.pointer (some ⟨p.fb,0,none⟩),.pointer (some ⟨p.bc,0,none⟩)]
def PN.iC(p:PN)(j:Nat):Prop:=p.bs≠j/\p.bc≠j/\p.bh≠j/\p.q≠j/\p.sm≠j/\p.kb≠j/\p.fb≠j
structure PG(w:World)(F:Nat->Prop)(c k:Nat)(G:GS)(m:CM)(s h:HT)(p:PN)(ov:HT->Option Nat):Prop where
 C:CV w F c k G m
 V:VB w c s p.bs p.bc p.bh p.q p.sm ov
 kb:w.heap[p.kb]? =some (.cells #[.func (.func b0.id) #[] #[.pointer (some ⟨p.bs,0,none⟩),.pointer (some ⟨p.bc,0,none⟩),.pointer (some ⟨p.bh,0,none⟩)]] fF (0,0))
 fb:w.heap[p.fb]? =some (.cells #[.map (some p.fm)] cJ (0,0))
 yb:w.cell? ⟨p.yb,0,none⟩=some p.uW
 hb:w.heap[p.hb]? =some (.cells h.1 ag (0,0))
 fo:¬m.own c p.fm
 ff:¬F p.fm
 iC:p.iC p.fm
 y:p.yb≠p.fm
 h:p.hb≠p.fm
section
variable{w w' u:World}{F:Nat->Prop}{c k:Nat}{G:GS}{m:CM}{s h:HT}{p:PN}{ov:HT->Option Nat}{K:Value->World->Prop}
theorem PG.aF(B:PG w F c k G m s h p ov)(hk:Kept (· =p.fm) w w'):PG w' F c k G m s h p ov:=by
 obtain⟨f1,f2,f3,f4,f5,f6,f7⟩:=B.iC;exact⟨B.C.aF hk (fun j hj e=>by subst e;exact B.fo hj) (fun j hj e=>by subst e;exact B.ff hj),B.V.aF hk f1 f2 f3 f4 f5,hk.heap B.kb f6,hk.heap B.fb f7,hk.cell B.yb B.y,hk.heap B.hb B.h,B.fo,B.ff,B.iC,B.y,B.h⟩
theorem PG.same(B:PG w F c k G m s h p ov)(hk:Kept Nil w w'):PG w' F c k G m s h p ov:=B.aF (hk.mono fun _ _ h=>h.elim)
theorem th(B:PG w F c k G m s h p ov)(hD:G.D.length<=5000)(rP:k<=1000)(hs:s∈ids G.D){l:List HT}(hc:cF G.D G.P s l){done:List HT}(hF:zw w p.fm (sx ov (nx m.sz l)) done){b:HT}{zb:Nat}
 (hz:w.heap[zb]? =some (.cells b.1 ag (0,0))) (hzf:zb≠p.fm) (hn:mi G.D b h->(done++ [b]).Nodup) {A T:World->Prop}
 (hA:∀u,mi G.D b h->r8 k (sx ov (nx m.sz l)) done b=false->Kept (· =p.fm) w u->A u)
 (hT:∀u yo,yo=done++(if mi G.D b h then [b]else [])->(mi G.D b h->r8 k (sx ov (nx m.sz l)) done b=true)->zw u p.fm (sx ov (nx m.sz l)) yo->Kept (· =p.fm) w u->T u):
 bz prog du.id #[.pointer (some ⟨c,0,none⟩),.agg b.1,.agg h.1] w fun x y=>∃z:Bool,x=.bool z/\Split z (∃a1:Value,y.cell? ⟨p.yb,0,none⟩=some a1/\∃b1:Array Value,(b1.size=32/\Cells y ⟨zb,0,none⟩ b1)/\
  ∃(c1:Nat) (d1 e1:Array Value) (f1:Func),(a1:Value)=.func (.func c1) d1 e1/\prog.funcs[c1]? =some f1/\f1.body.isSome=true/\
   bz prog c1 (d1.toList++([.agg b1]:List Value)++e1.toList).toArray y fun g1 i1=>∃j1:Bool,g1=.bool j1/\Split (!j1) (A i1) (T i1)) (T y):=by
 refine Bs B.C hD b h fun y r hr ky=>⟨r,rfl,?_⟩;have kyf:Kept (· =p.fm) w y:=ky.mono fun _ _ h=>h.elim;have By:=B.same ky;cases r with
 |false=>
  have LY:¬mi G.D b h:=fun e=>by have:=hr.2 e;cases this
  exact Split.no rfl (hT y done (by rw [if_neg LY,List.append_nil]) (fun e=>absurd e LY) (hF.same ky) kyf)
 |true=>
  have ha:=hr.1 rfl;have ft:=hn ha;rw [List.nodup_append]at ft;refine Split.yes rfl ⟨_,By.yb,b.1,⟨b.2.1,Cells.bJ (ky.heap hz (fun h=>h))⟩,_,_,_,_,rfl,cI.at_,rfl,?_⟩;refine Bp By.C hD rP hs hc By.V By.kb By.fb ft.1 (fun e=>ft.2.2 b e b (by simp) rfl) (hF.same ky) B.fo B.ff B.iC.2.1 fun v r hr hv kv=>⟨r,rfl,?_⟩;have Pm:Kept (· =p.fm) w v:=kyf.tt kv;cases r with
  |false=>exact Split.yes rfl (hA v ha hr.symm Pm)
  |true=>exact Split.no rfl (hT v (done++ [b]) (by rw [if_pos ha]) (fun _=>hr.symm) hv Pm)
end
structure PG0(w:World)(F:Nat->Prop)(c k:Nat)(G:GS)(m:CM)(s:HT)(p:PN)(ov:HT->Option Nat):Prop where
 C:CV w F c k G m
 V:VB w c s p.bs p.bc p.bh p.q p.sm ov
 kb:w.heap[p.kb]? =some (.cells #[.func (.func b0.id) #[] #[.pointer (some ⟨p.bs,0,none⟩),.pointer (some ⟨p.bc,0,none⟩),.pointer (some ⟨p.bh,0,none⟩)]] fF (0,0))
 fb:w.heap[p.fb]? =some (.cells #[.map (some p.fm)] cJ (0,0))
 fo:¬m.own c p.fm
 ff:¬F p.fm
 iC:p.iC p.fm
theorem cZ:∀ {l m:List HT},l.Nodup->(∀x∈l,x∈m)->l.length<=m.length
 | [],_,_,_=>Nat.zero_le _
 |x::l,m,hn,hm=>by
  rw [List.nodup_cons]at hn;have hx:=hm x List.mem_cons_self;have:=cZ (m:=m.erase x) hn.2 fun y hy=>(List.mem_erase_of_ne (fun e=>hn.1 (by rw [<-e];exact hy))).2 (hm y (List.mem_cons_of_mem _ hy));rw [List.length_erase_of_mem hx]at this;have h0:=List.length_pos_of_mem hx;rw [List.length_cons];omega
theorem HS.get_mem{w:World}{A:Option Addr}{n:Nat}{l:List HT}(hl:HS w A n l){i:Nat}(hi:i<n):∃y,l[i]? =some y:=⟨_,List.getElem?_eq_getElem (by have:=hl.len;omega)⟩
theorem Ax{D:DG}{l:List HT}{h x:HT}{i:Nat}(hx:l[i]? =some x):bS D (l.take (i+1)) h=bS D (l.take i) h++if mi D x h then [x]else []:=by
 have e:l.take (i+1)=l.take i++ [x]:=by rw [List.take_add_one,hx];rfl
 rw [e,eW]
 congr 1
 unfold bS;by_cases hp:mi D x h
 ·rw [if_pos hp,List.filter_cons_of_pos (by simpa using hp)];rfl
 ·rw [if_neg hp,List.filter_cons_of_neg (by simpa using hp)];rfl
theorem Dy{m:List HT}{b:List Bool}{x:HT}{y:Bool}{i:Nat}(hx:m[i]? =some x)(hy:b[i]? =some y):ek (m.drop i) (b.drop i)=(if y then [x]else [])++ek (m.drop (i+1)) (b.drop (i+1)):=by
 obtain⟨hi,ex⟩:=lgeS hx;obtain⟨hj,ey⟩:=lgeS hy;rw [List.drop_eq_getElem_cons hi,List.drop_eq_getElem_cons hj,ex,ey];cases y<;>rfl
theorem dZ(c:oE)(A:Option Addr)(n cp:Nat)(B:Option Addr)(m cq:Nat):∀v∈(cQ c A n cp B m cq).toList,v.oneCell'=true:=by
 intro v hv;unfold cQ at hv;rw [Array.toList_append,List.mem_append]at hv;rcases hv with hv|hv
 ·exact c.gQ.2.one v hv
 ·simp only [List.mem_cons,List.not_mem_nil,or_false]at hv
  rcases hv with rfl|rfl|rfl<;>rfl
section
variable{w w':World}{F:Nat->Prop}{c k:Nat}{G:GS}{m:CM}{s:HT}{p:PN}{ov:HT->Option Nat}{K:Value->World->Prop}
theorem DC{kn:HT->Nat}{done rest lA:List HT}{b:HT}(e:done++b::rest=lA)(h:r8 k kn done b=false):fy k kn [] lA=false:=by
 rw [<-e,mY,List.nil_append,fy,h,Bool.false_and,Bool.and_false]
theorem zt{kn:HT->Nat}{done:List HT}{b:HT}(h:fy k kn [] done=true)(hb:r8 k kn done b=true):fy k kn [] (done++ [b])=true:=by
 rw [mY,h,List.nil_append,fy,hb,Bool.true_and,Bool.true_and];rfl
theorem Bq(B:PG0 w F c k G m s p ov)(hD:G.D.length<=5000)(rP:k<=1000)(hs:s∈ids G.D){l:List HT}(hc:cF G.D G.P s l){h:HT}{bb:Nat}{A:Option Addr}{n cx:Nat}{bl:List HT}
 (wR:w.heap[bb]? =some (.cells #[.slice A n cx] ay (0,0))) (YJ:bb≠p.fm) (Dd:HS w A n bl) (hAf:∀a,A=some a->a.block≠p.fm) (hn:n<=10000) (hF:zw w p.fm (sx ov (nx m.sz l)) []) (yi:(o5 G h bl l).Nodup)
 (hK:∀w' (r:Bool),r=fy k (sx ov (nx m.sz l)) [] (o5 G h bl l)->(r=true->zw w' p.fm (sx ov (nx m.sz l)) (o5 G h bl l))->Kept (· =p.fm) w w'->K (.bool r) w'):
 bz prog ah.id #[.agg h.1,p.uW,.pointer (some ⟨bb,0,none⟩),.pointer (some ⟨p.bc,0,none⟩),.pointer (some ⟨p.bh,0,none⟩)] w K:=by
 have W:=B.C.fk.W;have H:=B.C.fk.gQ;have Sd:∀y∈l,y∈ids G.D:=fun y hy=>((hc.mem W H).1 hy).mem.1;have hlen:=Dd.len;have lfm:=hF.lt;refine ah.of ?_;unfold ah.W;intro w4 w5 w6;have k4:Kept Nil w w4:=(Kept.refl _ _).alloc _;have hh4:w4.heap[w.heap.size]? =some (.cells h.1 ag (0,0)):=aI w _;have k5:Kept Nil w4 w5:=(Kept.refl _ _).alloc _;obtain⟨ty,hy5⟩:∃ty:TypeId,w5.heap[w4.heap.size]? =some (.cells #[p.uW] ty (0,0)):=⟨_,aI w4 _⟩;have k6:Kept Nil w5 w6:=(Kept.refl _ _).alloc _;have Ys:w6.heap[w5.heap.size]? =some (.cells #[.bool false] iK (0,0)):=aI w5 _;clear_value w6;have hy6:=k6.heap hy5 (fun h=>h);have hh6:=k6.heap (k5.heap hh4 (fun h=>h)) (fun h=>h);have o8:=(k4.tt k5).tt k6;have s4:=k4.size;have s5:=k5.size;have s6:=k6.size;have l4:=aV hh4;have l5:=aV hy5;have l6:=aV Ys;clear_value w5 w4;obtain⟨p',C0,xo,Gu,acN,acL⟩:∃p':PN,p'= {p with yb:=w4.heap.size,hb:=w.heap.size}/\p'.uW=p.uW/\p'.fm=p.fm/\p'.bc=p.bc/\p'.bh=p.bh:=⟨_,rfl,rfl,rfl,rfl,rfl⟩;have eyb:p'.yb=w4.heap.size:=by rw [C0]
 have Y3:p'.hb=w.heap.size:=by rw [C0]
 have B6:PG w6 F c k G m s h p' ov:=by
  rw [C0];exact⟨B.C.same o8,B.V.same o8,o8.heap B.kb (fun h=>h),o8.heap B.fb (fun h=>h),by show w6.cell? ⟨w4.heap.size,0,none⟩=_;rw [aD hy6];rfl,hh6,B.fo,B.ff,B.iC,(by show w4.heap.size≠p.fm;omega),(by show w.heap.size≠p.fm;omega)⟩
 generalize xm:sx ov (nx m.sz l)=kn at*;have hF6:zw w6 p'.fm kn []:=by rw [Gu];exact hF.same o8
 generalize kl:o5 G h bl l=lA at*;have rH:bS G.D bl h++zF G h l=lA:=kl;rw [<-Gu]at YJ hAf lfm;have hK':∀w' (r:Bool),r=fy k kn [] lA->(r=true->zw w' p'.fm kn lA)->Kept (· =p'.fm) w w'->K (.bool r) w':=by rw [Gu];exact hK
 have kA:∀ {v:World},Kept (· =p'.fm) w6 v->Kept (· =p'.fm) w v:=fun k=>(o8.mono fun _ _ h=>h.elim).tt k;have fin:∀ {v:World} (r:Bool),Kept (· =p'.fm) w6 v->∃u:World,u=v.setCell ⟨w5.heap.size,0,none⟩ (.bool r)/\Wr v ⟨w5.heap.size,0,none⟩/\u.heap[w5.heap.size]? =some (.cells #[.bool r] iK (0,0))/\Kept (· =w5.heap.size) v u:=fun {v} r kv=>by
  have hr:=kv.heap Ys (by omega);refine⟨_,rfl,dS hr (by simp),?_,Kept.setCell (S:=fun k=>k=w5.heap.size) (Kept.refl _ v) (p:=⟨w5.heap.size,0,none⟩) (fun _=>rfl) _⟩;rw [di hr 0];rfl
 have Z7:∀ {v u:World},Kept (· =p'.fm) w6 v->Kept (· =w5.heap.size) v u->Kept (· =p'.fm) w u:=fun kv ku=>⟨ku.os.trans (kA kv).os,ku.tape.trans (kA kv).tape,ku.output.trans (kA kv).output,Nat.le_trans (kA kv).size ku.size,fun j hj hn=>by rw [ku.block j (Nat.lt_of_lt_of_le hj (kA kv).size) (by omega),(kA kv).block j hj hn]⟩;refine⟨A,n,cx,by rw [aD (o8.heap wR (fun h=>h))];rfl,?_⟩;rw [<-acN,<-acL];refine ah.cy (I:=fun s0 v=>∃i:Nat,s0=(i:Int)/\i<=n/\zw v p'.fm kn (bS G.D (bl.take i) h)/\fy k kn [] (bS G.D (bl.take i) h)=true/\Kept (· =p'.fm) w6 v) (μ:=fun s0 _=>((n:Int)-s0).toNat) (s:=0) ⟨0,rfl,Nat.zero_le _,hF6,rfl,Kept.refl _ _⟩ ?_;rintro s0 v ⟨i,rfl,hi,hFv,dm,kv⟩;have Bv:=B6.aF kv;refine Split.dec (fun jQ=>?_) (fun gE=>?_)
 ·have dY:i<n:=by omega
  obtain⟨b,hb⟩:=Dd.get_mem dY;have acJ:HS v A n bl:=Dd.aF (kA kv) hAf;refine acJ.load (i:=(i:Int)) (by omega) hb ?_;intro nn;obtain⟨tz,jT,kL⟩:=iu (w:=v) (z:=dz.1) (cs:=b.1) (t:=ag) (by rw [b.2.1];rfl);refine⟨⟨b.2.1,b.2.one,fun j hj=>tz j (by rw [b.2.1];exact hj)⟩,?_⟩;intro jO
  replace jT:jO.heap[v.heap.size]? =some (.cells b.1 ag (0,0)):=jT
  replace kL:Kept Nil v jO:=kL
  clear_value jO;have sv:=(kA kv).size;have RG:=Bv.same kL;have e1:=Ax (D:=G.D) (h:=h) hb;have e2:∃rest,bS G.D (bl.take i) h++(if mi G.D b h then [b]else [])++rest=lA:=by
   refine⟨bS G.D (bl.drop (i+1)) h++zF G h l,?_⟩;rw [<-e1,<-rH,<-List.append_assoc,<-eW,List.take_append_drop]
  obtain⟨rest,e2⟩:=e2;refine⟨some ⟨c,0,none⟩,by rw [aD RG.V.hc];rfl,b.1,⟨b.2.1,Cells.bJ jT⟩,h.1,⟨h.2.1,by have:=RG.hb;rw [Y3]at this;exact Cells.bJ this⟩,?_⟩;rw [<-eyb];refine th RG hD rP hs hc (done:=bS G.D (bl.take i) h) (by rw [xm];exact hFv.same kL) jT (by omega) (fun ha=>by
   rw [if_pos ha]at e2;rw [<-e2]at yi;exact(List.nodup_append.1 yi).1) ?_ ?_
  ·intro u ha hp ku
   rw [xm]at hp;have RO:Kept (· =p'.fm) w6 u:=(kv.trans kL (fun _ _ h=>h.elim)).tt ku;obtain⟨u',eu,hw,UG,kuu⟩:=fin false RO;refine⟨hw,?_⟩;intro OP;have e30:OP=u':=eu.symm;rw [iV,ah.OH,e30];rw [if_pos ha,List.append_assoc]at e2;exact⟨false,by rw [aD UG];rfl,hK' u' false (DC e2 hp).symm (fun e=>by cases e) (Z7 RO kuu)⟩
  ·intro u yo ed hp On ku
   rw [xm]at hp On;have RO:Kept (· =p'.fm) w6 u:=(kv.trans kL (fun _ _ h=>h.elim)).tt ku;rw [dH (n:=(i:Int)) (by omega) (by omega)];refine⟨(i:Int)+1,rfl,⟨i+1,rfl,dY,?_,?_,RO⟩,by simp only;omega⟩
   ·rw [e1,<-ed];exact On
   ·rw [e1]
    by_cases ha:mi G.D b h
    ·rw [if_pos ha];exact zt dm (hp ha)
    ·rw [if_neg ha,List.append_nil];exact dm
 ·rw [aS,ah.dq]
  rw [List.take_of_length_le (by omega)]at dm hFv;unfold ah.cV;intro sM;have CF:Kept Nil v sM:=(Kept.refl _ _).drew;clear_value sM;have B33:=Bv.same CF;refine⟨some ⟨c,0,none⟩,by rw [aD B33.V.hc];rfl,_,B33.C.c1,s.1,⟨s.2.1,Cells.bJ B33.V.hh⟩,?_⟩;refine pP s fun kr pb qb oC LR LO zB Yt=>⟨_,rfl,?_⟩;have Pq:Kept Nil v kr:=CF.tt oC;have Ls:Kept (· =p'.fm) w6 kr:=kv.trans Pq (fun _ _ h=>h.elim);have B35:=Bv.same Pq;have ahg:=Ls.size;have ads:zw kr p'.fm kn (bS G.D bl h):=hFv.same Pq
  let uW:Value:=.func (.func aZ.id) #[] #[.pointer (some ⟨pb,0,none⟩),.pointer (some ⟨qb,0,none⟩)]
  let ρ0:Env:= [(3,.pointer (some ⟨p'.bc,0,none⟩)),(5,.pointer (some ⟨w.heap.size,0,none⟩)),(6,.pointer (some ⟨w4.heap.size,0,none⟩)),(7,.pointer (some ⟨w5.heap.size,0,none⟩)),(36,uW)]
  let J:Nat->World->Prop:=fun j u=>∃done:List HT,done++zF G h (l.drop j)=lA/\zw u p'.fm kn done/\fy k kn [] done=true/\Kept (· =p'.fm) kr u/\j<=l.length
  let Jd:Code->World->Prop:=fun e u=>e=.ret/\∃r:Bool,u.heap[w5.heap.size]? =some (.cells #[.bool r] iK (0,0))/\r=fy k kn [] lA/\(r=true->zw u p'.fm kn lA)/\Kept (fun j=>j=p'.fm\/j=w5.heap.size) kr u
  have lpb:=aV LR;have lqb:=aV LO;have ahc:=CF.size;have svw:=(kA kv).size;obtain⟨mx,X35,R4⟩:=B35.C.X;have XJ:∀ {u:World},Kept (· =p'.fm) kr u->XV u m.FX m.x G.D G.P mx:=fun k=>X35.aF k (fun j hj e=>by subst e;rw [Gu]at hj;exact B.fo (.inl (R4 _ hj))) (fun j hj e=>by subst e;rw [Gu]at hj;exact B.ff (B.C.fx _ hj))
  change Holds none [] prog _ _ _ ρ0 kr
  have out:∀ {u:World} {R:Loop} (r:Bool),Kept (· =p'.fm) kr u->Live (kr.heap.size+1) kr.heap.size R u->r=fy k kn [] lA->(r=true->zw u p'.fm kn lA)->Wr u ⟨w5.heap.size,0,none⟩/\∀u',u'=u.setCell ⟨w5.heap.size,0,none⟩ (.bool r)->Live (kr.heap.size+1) kr.heap.size R u'/\Jd .ret u':=fun {u R} r ku hl hr hf=>by
   obtain⟨u0,e0,t1,t2,t3⟩:=fin r (Ls.tt ku);refine⟨t1,fun u' eu=>?_⟩;rw [eu,<-e0];refine⟨hl.aF t3 (by omega) (by omega),rfl,r,t2,hr,fun e=>(hf e).aF t3 (by omega),(ku.mono fun _ _ h=>.inl h).trans t3 (fun _ _ h=>.inr h)⟩
  refine oK (n:=90) (ρ:=ρ0) (ρ0:=ρ0) ng mix ah.k (t:=36) (ps:= #[37]) (by kernel_rfl) (by decide) rfl aZ.at_ rfl (.inl rfl) (fun i x hi hx=>hx) rfl sD l (fun _=>rfl) (fun q hq=>by
   have Rr:q=37:=by simpa using hq
   subst Rr;exact⟨by decide,by decide⟩) (yC (F:=m.FX) (x:=m.x) (m:=mx) (pb:=pb) (qb:=qb) hc (by omega)) J Jd ?_ ?_ (fun j u ⟨done,_,_,_,kJ,_⟩=>⟨XJ kJ,kJ.heap LR (by omega),kJ.heap LO (by omega)⟩) ?_ ?_ ?_ ?_ ?_
  ·rintro j u1 u2 R nt ⟨done,h1,h2,h3,h4,h5⟩ oZ
   exact⟨done,h1,h2.aF oZ (by omega),h3,h4.trans oZ (fun k hk e=>by omega),h5⟩
  ·rintro e u1 u2 R nt ⟨h1,r,h2,h3,h4,h5⟩ oZ
   exact⟨h1,r,oZ.heap h2 (by omega),h3,fun e=>(h4 e).aF oZ (by omega),h5.trans oZ (fun k hk e=>by omega)⟩
  ·intro R
   have ka:Kept Nil kr ((kr.alloc (.deferred (some []))).alloc (.loop R)):=(((Kept.refl _ _).alloc _).alloc _);exact⟨bS G.D bl h,rH,ads.same ka,dm,ka.mono fun _ _ h=>h.elim,Nat.zero_le _⟩
  ·rintro j z u1 R hz ⟨done,h1,h2,h3,h4,h5⟩ nt
   have e7:kH ρ0 ((#[37]:Array Nat).toList.zip (sD z))= [(3,.pointer (some ⟨p'.bc,0,none⟩)),(5,.pointer (some ⟨w.heap.size,0,none⟩)),(6,.pointer (some ⟨w4.heap.size,0,none⟩)),(7,.pointer (some ⟨w5.heap.size,0,none⟩)),(36,uW),(37,.agg z.1)]:=rfl;rw [e7,ah.a1];have tF:=(lgeS hz).1;have P2:=Sd z (List.mem_of_getElem? hz);have Xs:l.drop j=z::l.drop (j+1):=by
    obtain⟨hi,e⟩:=lgeS hz;rw [List.drop_eq_getElem_cons hi,e]
   rw [Xs,zF]at h1;unfold ah.A1;intro Km;obtain⟨tz,jT,kL⟩:=iu (w:=u1) (z:=dz.1) (cs:=z.1) (t:=ag) (by rw [z.2.1];rfl);refine⟨⟨z.2.1,z.2.one,fun j hj=>tz j (by rw [z.2.1];exact hj)⟩,?_⟩;intro MR
   replace jT:MR.heap[u1.heap.size]? =some (.cells z.1 ag (0,0)):=jT
   replace kL:Kept Nil u1 MR:=kL
   clear_value MR;have Jk:=nt.aF kL (fun h=>h) (fun h=>h);refine⟨Jk,fun w2 R2 mw qO=>?_⟩;have kX:=mw.heap jT (ki jT Jk.loop);have ahj:=h4.size;have xf:Kept (· =p'.fm) kr w2:=(h4.trans kL (fun _ _ h=>h.elim)).trans mw (fun k hk e=>by omega);have Ri:zw w2 p'.fm kn done:=(h2.same kL).aF mw (by omega);have B2:=B35.aF xf;rw [ah.y1];unfold ah.Y1;have e2:∃rest,done++(if mi G.D z h then [z]else [])++rest=lA:=⟨_,(List.append_assoc _ _ _).trans h1⟩;obtain⟨rest,e2⟩:=e2;refine⟨some ⟨c,0,none⟩,by rw [aD B2.V.hc];rfl,z.1,⟨z.2.1,Cells.bJ kX⟩,h.1,⟨h.2.1,by have:=B2.hb;rw [Y3]at this;exact Cells.bJ this⟩,?_⟩;rw [<-eyb];refine th B2 hD rP hs hc (done:=done) (by rw [xm];exact Ri) kX (by omega) (fun ha=>by
    rw [if_pos ha]at e2;rw [<-e2]at yi;exact(List.nodup_append.1 yi).1) ?_ ?_
   ·intro u ha hp ku
    rw [xm]at hp;rw [if_pos ha,List.append_assoc]at e2;obtain⟨o1,o2⟩:=out (u:=u) false (xf.tt ku) (qO.aF ku (by omega) (by omega)) (DC e2 hp).symm (fun e=>by cases e);refine⟨o1,?_⟩;intro Zq;exact o2 Zq rfl
   ·intro u yo ed hp On ku
    rw [xm]at hp On;have aah:=xf.tt ku;have hlu:=qO.aF ku (by omega) (by omega);have Om:fy k kn [] yo=true:=by
     rw [ed];by_cases ha:mi G.D z h
     ·rw [if_pos ha];exact zt h3 (hp ha)
     ·rw [if_neg ha,List.append_nil];exact h3
    rw [<-List.append_assoc,<-ed]at h1;intro Zp;have k61:Kept Nil u Zp:=(Kept.refl _ _).drew;clear_value Zp;have PE:Kept (· =p'.fm) w2 Zp:=ku.trans k61 (fun _ _ h=>h.elim);have Zg:=B2.aF PE;have aaq:=PE.heap kX (by omega);obtain⟨mx1,X61,_⟩:=Zg.C.X;refine⟨some ⟨c,0,none⟩,by rw [aD Zg.V.hc];rfl,_,Zg.C.c1,z.1,⟨z.2.1,Cells.bJ aaq⟩,h.1,⟨h.2.1,by have:=Zg.hb;rw [Y3]at this;exact Cells.bJ this⟩,?_⟩;refine mo X61 hD z h fun G6 r hr Gb=>⟨r,rfl,?_⟩;have Lm:Kept Nil u G6:=k61.tt Gb;have VA:=hlu.aF Lm (fun h=>h) (fun h=>h);have T6:=aah.trans Lm (fun _ _ h=>h.elim);have adq:=On.same Lm;cases r with
    |true=>
     have De:=hr.1 rfl;rw [if_pos De,List.append_nil]at h1;obtain⟨o1,o2⟩:=out (u:=G6) true T6 VA (by rw [<-h1,Om]) (fun _=>by rw [<-h1];exact adq);refine Split.yes rfl ⟨o1,?_⟩;intro OM;exact o2 OM rfl
    |false=>
     have Vh:¬eB G.D z h:=fun e=>by have:=hr.2 e;cases this
     rw [if_neg Vh]at h1;refine Split.no rfl ?_;intro Hs;have Na:Kept Nil G6 Hs:=(Kept.refl _ _).drew;clear_value Hs;have LA:Kept (· =p'.fm) w2 Hs:=PE.trans (Gb.tt Na) (fun _ _ h=>h.elim);have XW:=B2.aF LA;have Un:=LA.heap kX (by omega);obtain⟨A1,n1,c1,B1,m1,d1,s1,sa⟩:=XW.C.seen z P2;refine⟨some ⟨c,0,none⟩,by rw [aD XW.V.hc];rfl,_,XW.C.c2,z.1,⟨z.2.1,Cells.bJ Un⟩,_,XW.C.oW P2,_,⟨a8 ..,sa.fM⟩,?_⟩;intro w73;have k73:Kept Nil Hs w73:=(Kept.refl _ _).alloc _;obtain⟨P6,Bl,y8⟩:=iu (w:=Hs) (z:=zC) (cs:=cQ (G.fM z) A1 n1 c1 B1 m1 d1) (t:=br) (by rw [a8];rfl);have B73:=XW.same k73;refine⟨⟨_,rfl,a8 ..,(sa.aF k73 (fun _ _ h=>h)).fM⟩,B73.C.oW P2,⟨z.1,rfl,z.2.1,Cells.bJ (k73.heap Un (fun h=>h))⟩,B73.C.c2,by rw [aD B73.V.hc];rfl,⟨a8 ..,dZ _ _ _ _ _ _ _,fun j hj=>P6 j (by rw [a8];exact hj)⟩,?_⟩;intro RI
     replace Bl:RI.heap[Hs.heap.size]? =some (.cells (cQ (G.fM z) A1 n1 c1 B1 m1 d1) br (0,0)):=Bl
     replace y8:Kept Nil Hs RI:=y8
     clear_value RI w73;have TP:Kept Nil u RI:=Lm.tt (Na.tt y8);have T9:Kept (· =p'.fm) w2 RI:=LA.trans y8 (fun _ _ h=>h.elim);have ahm:=T9.size;have ahn:=LA.size;have s2:=xf.size;have ajF:=hlu.aF TP (fun h=>h) (fun h=>h);have ZB:=sa.aF y8 (fun _ _ h=>h);have afR:=sa.mg.len;have WB:=sa.bl.len;have hff:∀j,F j->j≠p'.fm:=fun j hj e=>by rw [Gu]at e;subst e;exact B.ff hj
     have hcg:=gD (G.fM z) A1 n1 c1 B1 m1 d1 #[];rw [Array.append_empty]at hcg;refine⟨A1,n1,c1,by rw [bt,aD Bl];exact hcg.2.1,?_⟩;have afV:(G.fM z).fL.length=(G.fM z).merge.length:=by
      rcases(cF.ex H z)with⟨lz,cz⟩;rcases cz.inv W H P2 with⟨_,nd,h0,rfl⟩|⟨t,r',_,qN,_,_⟩
      ·obtain⟨r1,_⟩:=B.C.fk.root nd h0
       rw [r1];rfl
      ·exact(B.C.fk.up t z qN).2.2.1
     have L5:(G.fM z).merge.length<=G.D.length:=by
      have ft:(G.fM z).merge.Nodup/\∀y∈(G.fM z).merge,y∈ids G.D:=by
       rcases(cF.ex H z)with⟨lz,cz⟩;rcases cz.inv W H P2 with⟨_,nd,h0,rfl⟩|⟨t,r',_,qN,_,_⟩
       ·obtain⟨r1,_⟩:=B.C.fk.root nd h0
        rw [r1];exact⟨List.nodup_nil,fun y hy=>by cases hy⟩
       ·obtain⟨_,_,_,g1,g2⟩:=B.C.fk.up t z qN
        exact⟨g1,fun y hy=>(((g2 y).1 hy).1.mem W).1⟩
      have:=cZ ft.1 ft.2
      rwa [gF]at this
     refine ah.gS (I:=fun s0 v=>∃i:Nat,s0=(i:Int)/\i<=n1/\∃dn:List HT,dn++(bS G.D (ek ((G.fM z).merge.drop i) ((G.fM z).fL.drop i)) h++zF G h (l.drop (j+1)))=lA/\zw v p'.fm kn dn/\fy k kn [] dn=true/\Kept (· =p'.fm) RI v) (μ:=fun s0 _=>((n1:Int)-s0).toNat) (s:=0) ⟨0,rfl,Nat.zero_le _,yo,by rw [List.drop_zero,List.drop_zero];exact h1,On.same TP,Om,Kept.refl _ _⟩ ?_;rintro s0 v2 ⟨i2,rfl,C7,dn,g1,g2,g3,g4⟩;have Iu:Kept (· =p'.fm) w2 v2:=T9.tt g4;have Bv2:=B2.aF Iu;have ZA:=ZB.aF g4 (fun j hj e=>hff j hj e);have T5:=xf.tt Iu;have Vz:=qO.aF Iu (by omega) (by omega);have sv2:=Iu.size;refine Split.dec (fun jQ=>?_) (fun gE=>?_)
     ·have dY:i2<n1:=by omega
      obtain⟨b,hb⟩:=ZA.mg.get_mem dY;obtain⟨bb2,WI⟩:∃y,(G.fM z).fL[i2]? =some y:=⟨_,List.getElem?_eq_getElem (by omega)⟩;refine ZA.mg.load (i:=(i2:Int)) (by omega) hb ?_;intro nn;obtain⟨aaz,Gx,xl⟩:=iu (w:=v2) (z:=dz.1) (cs:=b.1) (t:=ag) (by rw [b.2.1];rfl);refine⟨⟨b.2.1,b.2.one,fun j hj=>aaz j (by rw [b.2.1];exact hj)⟩,?_⟩;intro jO
      replace Gx:jO.heap[v2.heap.size]? =some (.cells b.1 ag (0,0)):=Gx
      replace xl:Kept Nil v2 jO:=xl
      clear_value jO;have RG:=Bv2.same xl;have Wz:=xl.heap (g4.heap Bl (by omega)) (fun h=>h);have ZC:=ZA.aF xl (fun _ _ h=>h);obtain⟨aB,Jy,_,B9⟩:=ZC.bl.at_ i2 bb2 WI;subst Jy;refine⟨some aB,m1,d1,by rw [bt,aD Wz];exact hcg.2.2.1,⟨by omega,by omega⟩,bb2,by rw [Int.toNat_natCast,Nat.mul_one];exact B9,?_⟩;rw [Dy hb WI]at g1;cases bb2 with
      |false=>
       refine Split.no rfl ?_;rw [dH (n:=(i2:Int)) (by omega) (by omega)];exact⟨(i2:Int)+1,rfl,⟨i2+1,rfl,dY,dn,g1,g2.same xl,g3,g4.trans xl (fun _ _ h=>h.elim)⟩,by simp only;omega⟩
      |true=>
       rw [if_pos rfl,eW,List.append_assoc]at g1;have adL:bS G.D [b] h=if mi G.D b h then [b]else []:=by
        unfold bS;by_cases hp:mi G.D b h
        ·rw [if_pos hp,List.filter_cons_of_pos (by simpa using hp)];rfl
        ·rw [if_neg hp,List.filter_cons_of_neg (by simpa using hp)];rfl
       rw [adL,<-List.append_assoc]at g1;refine Split.yes rfl ⟨some ⟨c,0,none⟩,by rw [aD RG.V.hc];rfl,b.1,⟨b.2.1,Cells.bJ Gx⟩,h.1,⟨h.2.1,by have:=RG.hb;rw [Y3]at this;exact Cells.bJ this⟩,?_⟩;refine th RG hD rP hs hc (done:=dn) (by rw [xm];exact g2.same xl) Gx (by omega) (fun ha=>by
        rw [if_pos ha]at g1;rw [<-g1]at yi;exact(List.nodup_append.1 yi).1) ?_ ?_
       ·intro u2 ha hp Kq
        rw [xm]at hp;rw [if_pos ha,List.append_assoc]at g1;have kk:Kept (· =p'.fm) v2 u2:=(xl.mono fun _ _ h=>h.elim).tt Kq;obtain⟨o1,o2⟩:=out (u:=u2) false (T5.tt kk) (Vz.aF kk (by omega) (by omega)) (DC g1 hp).symm (fun e=>by cases e);refine⟨o1,?_⟩;intro Zq;rw [iV];exact o2 Zq rfl
       ·intro u2 dn' ed2 R9 Xd Kq
        rw [xm]at R9 Xd;have kk:Kept (· =p'.fm) v2 u2:=(xl.mono fun _ _ h=>h.elim).tt Kq;rw [dH (n:=(i2:Int)) (by omega) (by omega)];refine⟨(i2:Int)+1,rfl,⟨i2+1,rfl,dY,dn',by rw [ed2];exact g1,Xd,?_,g4.tt kk⟩,by simp only;omega⟩;rw [ed2];by_cases ha:mi G.D b h
        ·rw [if_pos ha];exact zt g3 (R9 ha)
        ·rw [if_neg ha,List.append_nil];exact g3
     ·rw [aS,ah.Zi]
      unfold ah.XH;have en:(G.fM z).merge.drop i2= []:=List.drop_eq_nil_of_le (by omega);rw [en]at g1;exact⟨Vz,dn,by simpa [ek,bS]using g1,g2,g3,T5,tF⟩
  ·rintro u1 R ⟨done,h1,h2,h3,h4,h5⟩ nt
   have e7:fN ρ0 kr.heap.size= [(3,.pointer (some ⟨p'.bc,0,none⟩)),(5,.pointer (some ⟨w.heap.size,0,none⟩)),(6,.pointer (some ⟨w4.heap.size,0,none⟩)),(7,.pointer (some ⟨w5.heap.size,0,none⟩)),(36,uW),(4294967296,.agg (nK [kr.heap.size]))]:=rfl;rw [e7,ah.iF];unfold ah.fT;have ec:done=lA:=by rw [<-h1,List.drop_of_length_le (Nat.le_refl _),zF,List.append_nil]
   obtain⟨o1,o2⟩:=out (u:=u1) true h4 nt (by rw [<-ec,h3]) (fun _=>by rw [<-ec];exact h2);refine⟨o1,?_⟩;intro rk;obtain⟨abL,_,r,t1,t2,t3,t4⟩:=o2 rk rfl;clear_value rk;rw [kQ];have kt:=im [kr.heap.size] rk;have hm:∀E∈ [kr.heap.size],rk.heap[E]? =some (.deferred (some [])):=fun E hE=>by
    rw [List.mem_singleton]at hE;subst hE;exact abL.mark
   refine⟨jw [kr.heap.size] rk (by simp) hm,r,by rw [aD (kt.heap t1 (fun hE=>by rw [List.mem_singleton]at hE;omega))];rfl,?_⟩;exact hK' _ r t2 (fun e=>(t3 e).aF kt (fun hE=>by rw [List.mem_singleton]at hE;omega)) (((kA Ls).trans t4 (fun j hj e=>by rcases e with e|e;exact e;omega)).trans kt (fun j hj hE=>by rw [List.mem_singleton]at hE;omega))
  ·rintro u1 R ⟨_,r,t1,t2,t3,t4⟩ nt
   have e7:fN ρ0 kr.heap.size= [(3,.pointer (some ⟨p'.bc,0,none⟩)),(5,.pointer (some ⟨w.heap.size,0,none⟩)),(6,.pointer (some ⟨w4.heap.size,0,none⟩)),(7,.pointer (some ⟨w5.heap.size,0,none⟩)),(36,uW),(4294967296,.agg (nK [kr.heap.size]))]:=rfl;rw [e7,ah.u7];unfold ah.qm;rw [kQ];have kt:=im [kr.heap.size] u1;have hm:∀E∈ [kr.heap.size],u1.heap[E]? =some (.deferred (some [])):=fun E hE=>by
    rw [List.mem_singleton]at hE;subst hE;exact nt.mark
   refine⟨jw [kr.heap.size] u1 (by simp) hm,r,by rw [aD (kt.heap t1 (fun hE=>by rw [List.mem_singleton]at hE;omega))];rfl,?_⟩;exact hK' _ r t2 (fun e=>(t3 e).aF kt (fun hE=>by rw [List.mem_singleton]at hE;omega)) (((kA Ls).trans t4 (fun j hj e=>by rcases e with e|e;exact e;omega)).trans kt (fun j hj hE=>by rw [List.mem_singleton]at hE;omega))
  ·rintro id u1 R ⟨e,_⟩ nt
   cases e
end
end Go.Proofs.YtfleamccglihoaaGreatDoor
