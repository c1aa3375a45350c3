import Derived.Test.YtfleamccglihoaaGreatDoorMI
import Derived.Test.YtfleamccglihoaaGreatDoorMJ
import Derived.Test.YtfleamccglihoaaGreatDoorMN
import Derived.Test.YtfleamccglihoaaGreatDoorMG
open Go.IntKind (i64 u64)
set_option linter.unusedVariables false
namespace Go.Proofs.YtfleamccglihoaaGreatDoor
open Go.Proofs.Tryz
open Go Go.b0
structure pz where
 ns:HT
 score:Nat
 merge:List HT
 gm:List Bool
structure GS where
 D:DG
 P:List Int
 sN:List pz
 kZ:List (List HT)
def GS.at_(G:GS)(h:HT):Option Nat:=pos h (ids G.D) 0
def GS.jZ(G:GS)(h:HT):pz:=((G.at_ h).bind (G.sN[·]?)).getD ⟨fG,0,[],[]⟩
def GS.world(G:GS)(h:HT):List HT:=((G.at_ h).bind (G.kZ[·]?)).getD []
def GS.score(G:GS)(h:HT):Nat:=(G.jZ h).score
def gl(G:GS)(a b:HT):Bool:=decide (G.score a<G.score b)||(decide (G.score a=G.score b)&&di a b)
def BB(G:GS)(a b:HT):Int:=if gl G a b then-1 else if gl G b a then 1 else 0
def bQ(G:GS):List HT->HT
 | []=>fG
 |x::l=>l.foldl (fun b y=>if gl G b y then y else b) x
def oB(D:DG)(a b:HT):Prop:=a≠b/\¬fH D a b/\¬fH D b a
noncomputable instance(D:DG)(a b:HT):Decidable (oB D a b):=Classical.propDecidable _
noncomputable instance(D:DG)(a b:HT):Decidable (fH D a b):=Classical.propDecidable _
noncomputable def cg(D:DG)(l:List HT)(h:HT):List HT:=l.filter fun b=>decide (oB D b h)
def SO(G:GS)(l:List HT):Prop:=l.Pairwise fun a b=>gl G a b=true
noncomputable def tm(D:DG)(s:HT)(l:List HT):List HT:=(dB (eM D l++l)).filter fun h=>decide (h≠s/\¬fH D h s)
def xf(G:GS)(x:HT):List HT->List HT
 | []=> [x]
 |y::l=>if gl G x y then x::y::l else y::xf G x l
noncomputable def cP(G:GS)(s:HT)(l:List HT):List HT:=(tm G.D s l).foldr (xf G) []
noncomputable def qY(k:Nat)(D:DG)(wd:List HT)(h:HT):Bool:=decide ((cg D wd h).length<=k/\∀y∈cg D wd h,(cg D wd y).length+1<=k)
structure VS where
 wd:List HT
 bl:List Bool
noncomputable def rV(k:Nat)(D:DG)(s:VS)(h:HT):VS:=⟨if qY k D s.wd h then s.wd++ [h]else s.wd,s.bl++ [qY k D s.wd h]⟩
noncomputable def iw(k:Nat)(G:GS)(s:HT)(l:List HT):VS:=(cP G s l).foldl (rV k G.D) ⟨G.world s++ [s],[]⟩
noncomputable def dr(k:Nat)(G:GS)(s:HT)(l:List HT):pz:=⟨s,G.score s+1+(iw k G s l).bl.count true,cP G s l,(iw k G s l).bl⟩
noncomputable def eW(k:Nat)(G:GS)(h:HT)(ps:List HT):GS:=
 if dT G.D h ps=0 then⟨G.D++ [⟨h,dB ps⟩],G.P++ [(((pos (bQ G ps) (ids G.D) 0).getD 0:Nat):Int)],G.sN++ [dr k G (bQ G ps) ps],G.kZ++ [(iw k G (bQ G ps) ps).wd]⟩else G
def fg(r:HT):GS:=⟨[⟨r,[]⟩],[-1],[⟨fG,0,[],[]⟩],[[]]⟩
def eI:List HT->List Bool->List HT
 |h::l,b::m=>if b then h::eI l m else eI l m
 |_,_=> []
theorem ot(G:GS)(a:HT):gl G a a=false:=by simp [gl,jr]
theorem p8{G:GS}{a b c:HT}(h:gl G a b=true)(h':gl G b c=true):gl G a c=true:=by
 simp only [gl,Bool.or_eq_true,Bool.and_eq_true,decide_eq_true_eq]at*;rcases h with h|⟨h,h1⟩
 ·rcases h' with h'|⟨h',h2⟩
  ·exact .inl (by omega)
  ·exact .inl (by omega)
 ·rcases h' with h'|⟨h',h2⟩
  ·exact .inl (by omega)
  ·exact .inr ⟨by omega,lK h1 h2⟩
theorem p9{G:GS}{a b:HT}(h:gl G a b=false)(h':gl G b a=false):a=b:=by
 simp only [gl,Bool.or_eq_false_iff,Bool.and_eq_false_iff,decide_eq_false_iff_not]at*;have e:G.score a=G.score b:=by omega
 obtain⟨_,h2⟩:=h;obtain⟨_,h3⟩:=h';exact qF (by rcases h2 with h2|h2;exact absurd e h2;exact h2) (by rcases h3 with h3|h3;exact absurd e.symm h3;exact h3)
theorem Bk{G:GS}{a b:HT}(h:gl G a b=true):gl G b a=false:=by
 cases hb:gl G b a
 ·rfl
 ·have:=p8 h hb
  rw [ot]at this;cases this
theorem zl{G:GS}{a b:HT}:BB G a b<0↔gl G a b=true:=by
 unfold BB;split
 ·simp_all
 ·split<;>simp_all
theorem Mk(G:GS)(a b:HT):BB G a b=if G.score a<G.score b then-1 else if G.score b<G.score a then 1 else lW a b:=by
 unfold BB lW gl;by_cases h1:G.score a<G.score b
 ·simp [h1]
 ·by_cases h2:G.score b<G.score a
  ·have:¬G.score a=G.score b:=by omega
   simp [h1,h2,this]
  ·have:G.score a=G.score b:=by omega
   simp [this]
theorem SO.cons{G:GS}{x:HT}{l:List HT}:SO G (x::l)↔(∀y∈l,gl G x y=true)/\SO G l:=List.pairwise_cons
theorem SO.nodup{G:GS}{l:List HT}(h:SO G l):l.Nodup:=List.Pairwise.imp (fun {a b} nv e=>by subst e;rw [ot]at nv;cases nv) h
theorem JN{G:GS}:∀ {l m:List HT},SO G l->SO G m->(∀x,x∈l↔x∈m)->l=m
 | [],[],_,_,_=>rfl
 | [],y::m,_,_,h=>by have:=(h y).2 (by simp);simp at this
 |x::l,[],_,_,h=>by have:=(h x).1 (by simp);simp at this
 |x::l,y::m,hl,hm,h=>by
  rw [SO.cons]at hl hm;have nC:x=y:=by
   rcases List.mem_cons.1 ((h x).1 List.mem_cons_self)with e|e
   ·exact e
   ·rcases List.mem_cons.1 ((h y).2 List.mem_cons_self)with e'|e'
    ·exact e'.symm
    ·have h1:=hm.1 _ e
     have h2:=hl.1 _ e';rw [Bk h1]at h2;cases h2
  subst nC;have:l=m:=JN hl.2 hm.2 fun z=>by
   have hz:=h z;simp only [List.mem_cons]at hz;constructor
   ·intro np
    rcases hz.1 (.inr np)with e|e
    ·subst e;have:=hl.1 _ np;rw [ot]at this;cases this
    ·exact e
   ·intro np
    rcases hz.2 (.inr np)with e|e
    ·subst e;have:=hm.1 _ np;rw [ot]at this;cases this
    ·exact e
  rw [this]
theorem vG{G:GS}{x z:HT}:∀ {l:List HT},z∈xf G x l↔z=x\/z∈l
 | []=>by simp [xf]
 |y::l=>by
  unfold xf;split
  ·simp
  ·simp only [List.mem_cons,vG (l:=l)]
   constructor
   ·rintro(h|h|h)<;>simp [h]
   ·rintro(h|h|h)<;>simp [h]
theorem E8{G:GS}{x:HT}:∀ {l:List HT},SO G l->x∉l->SO G (xf G x l)
 | [],_,_=>by simp [xf,SO]
 |y::l,h,hx=>by
  have h':=SO.cons.1 h;simp only [List.mem_cons,not_or]at hx;unfold xf;split
  ·rename_i nC
   refine SO.cons.2 ⟨fun z hz=>?_,h⟩;rcases List.mem_cons.1 hz with rfl|hz
   ·exact nC
   ·exact p8 nC (h'.1 _ hz)
  ·rename_i nC
   refine SO.cons.2 ⟨fun z hz=>?_,E8 h'.2 hx.2⟩;rcases vG.1 hz with rfl|hz
   ·cases RE:gl G y z
    ·exact absurd (p9 RE (by simpa using nC)).symm hx.1
    ·rfl
   ·exact h'.1 _ hz
theorem qD{G:GS}{z:HT}:∀ {l:List HT},z∈l.foldr (xf G) []↔z∈l
 | []=>by simp
 |x::l=>by rw [List.foldr_cons,vG,qD,List.mem_cons]
theorem BM{G:GS}:∀ {l:List HT},l.Nodup->SO G (l.foldr (xf G) [])
 | [],_=>List.Pairwise.nil
 |x::l,h=>by
  rw [List.nodup_cons]at h;exact E8 (BM h.2) fun e=>h.1 (qD.1 e)
theorem rl(D:DG)(s:HT)(l:List HT):(tm D s l).Nodup:=(jy _).nodup.filter _
theorem AG{D:DG}{s:HT}{l:List HT}{h:HT}:h∈tm D s l↔((h∈ids D/\∃p∈l,fH D h p)\/h∈l)/\h≠s/\¬fH D h s:=by
 unfold tm eM;rw [List.mem_filter,dV,List.mem_append,km,decide_eq_true_eq]
theorem kO{G:GS}{s:HT}{l:List HT}{h:HT}:h∈cP G s l↔((h∈ids G.D/\∃p∈l,fH G.D h p)\/h∈l)/\h≠s/\¬fH G.D h s:=by
 unfold cP;rw [qD,AG]
theorem mH(G:GS)(s:HT)(l:List HT):SO G (cP G s l):=BM (rl _ _ _)
theorem xQ{G:GS}{s:HT}{l m:List HT}(hs:SO G m)(h:∀x,x∈m↔x∈tm G.D s l):m=cP G s l:=
 JN hs (mH G s l) fun x=>by unfold cP;rw [h,qD]
theorem jg{G:GS}:∀ {l:List HT},l≠ []->bQ G l∈l
 |x::l,_=>by
  have key:∀(l:List HT) (b:HT),l.foldl (fun b y=>if gl G b y then y else b) b=b\/l.foldl (fun b y=>if gl G b y then y else b) b∈l:=by
   intro l
   induction l with
   |nil=>intro b;exact .inl rfl
   |cons y l ih=>
    intro b;simp only [List.foldl_cons];rcases ih (if gl G b y then y else b)with e|e
    ·rw [e]
     split
     ·exact .inr List.mem_cons_self
     ·exact .inl rfl
    ·exact .inr (List.mem_cons_of_mem _ e)
  rcases key l x with e|e
  ·rw [bQ,e];exact List.mem_cons_self
  ·exact List.mem_cons_of_mem _ e
theorem gw(D:DG)(l m:List HT)(h:HT):cg D (l++m) h=cg D l h++cg D m h:=List.filter_append ..
theorem gK{D:DG}{l:List HT}{h b:HT}:b∈cg D l h↔b∈l/\oB D b h:=by unfold cg;rw [List.mem_filter,decide_eq_true_eq]
theorem oB.symm{D:DG}{a b:HT}(h:oB D a b):oB D b a:=⟨h.1.symm,h.2.2,h.2.1⟩
theorem mT{x:HT}:∀ {m:List HT} {b:List Bool},x∈eI m b->x∈m
 |h::l,b::m,hx=>by
  unfold eI at hx;split at hx
  ·rcases List.mem_cons.1 hx with e|e
   ·rw [e];exact List.mem_cons_self
   ·exact List.mem_cons_of_mem _ (mT e)
  ·exact List.mem_cons_of_mem _ (mT hx)
 | [],_,hx=>by simp [eI]at hx
 |_::_,[],hx=>by simp [eI]at hx
theorem oS:∀ {m:List HT} {b:List Bool},m.Nodup->(eI m b).Nodup
 |h::l,b::m,hn=>by
  rw [List.nodup_cons]at hn;unfold eI;split
  ·exact List.nodup_cons.2 ⟨fun e=>hn.1 (mT e),oS hn.2⟩
  ·exact oS hn.2
 | [],_,_=>by simp [eI]
 |_::_,[],_=>by simp [eI]
theorem wD:∀ {m:List HT} {b:List Bool},b.length=m.length->(eI m b).length=b.count true
 |h::l,b::m,hn=>by
  have:=wD (m:=l) (b:=m) (by simpa using hn);unfold eI;cases b<;>simp [this]
 | [],[],_=>rfl
 | [],_::_,h=>by simp at h
 |_::_,[],h=>by simp at h
theorem ux{x:HT}{c:Bool}:∀ {m:List HT} {b:List Bool},b.length=m.length->eI (m++ [x]) (b++ [c])=eI m b++if c then [x]else []
 |h::l,b::m,hn=>by
  have:=ux (x:=x) (c:=c) (m:=l) (b:=m) (by simpa using hn);simp only [List.cons_append,eI,this];cases b<;>simp
 | [],[],_=>by cases c<;>simp [eI]
 | [],_::_,h=>by simp at h
 |_::_,[],h=>by simp at h
theorem Hr(k:Nat)(D:DG)(wd:List HT):∀(m:List HT),∃b:List Bool,b.length=m.length/\m.foldl (rV k D) ⟨wd,[]⟩=⟨wd++eI m b,b⟩:=by
 intro m
 induction h:m.length generalizing m with
 |zero=>exact⟨[],by simp,by rw [List.length_eq_zero_iff.1 h];simp [eI]⟩
 |succ n ih=>
  have fW:m≠ []:=fun e=>by rw [e]at h;simp at h
  obtain⟨m',x,rfl⟩:∃m' x,m=m'++ [x]:=⟨m.dropLast,m.getLast fW,(List.dropLast_concat_getLast fW).symm⟩;obtain⟨b,h1,h2⟩:=ih m' (by simpa using h);have h1:b.length=m'.length:=by rw [List.length_append,List.length_cons,List.length_nil]at h;omega
  refine⟨b++ [qY k D (wd++eI m' b) x],by simp only [List.length_append,List.length_cons,List.length_nil]at h⊢;omega,?_⟩;rw [List.foldl_append,h2,List.foldl_cons,List.foldl_nil,ux h1];unfold rV;cases qY k D (wd++eI m' b) x<;>simp
theorem u7(k:Nat)(G:GS)(s:HT)(l:List HT):(iw k G s l).bl.length=(cP G s l).length/\(iw k G s l).wd=G.world s++ [s]++eI (cP G s l) (iw k G s l).bl:=by
 obtain⟨b,h1,h2⟩:=Hr k G.D (G.world s++ [s]) (cP G s l);unfold iw;rw [h2];exact⟨h1,rfl⟩
structure lC(k:Nat)(G:GS):Prop where
 W:kr G.D
 ns:sV G.D G.P
 lc:G.sN.length=G.D.length
 lw:G.kZ.length=G.D.length
 root:∀nd,G.D[0]? =some nd->G.jZ nd.id=⟨fG,0,[],[]⟩/\G.world nd.id= []
 up:∀s h,mc G.D G.P s h->(G.jZ h).ns=s/\G.world h=G.world s++ [s]++eI (G.jZ h).merge (G.jZ h).gm/\(G.jZ h).gm.length=(G.jZ h).merge.length/\(G.jZ h).merge.Nodup/\∀y,y∈(G.jZ h).merge↔fH G.D y h/\y≠s/\¬fH G.D y s
 wd:∀h∈ids G.D,(G.world h).Nodup/\(∀b∈G.world h,fH G.D b h)/\G.score h=(G.world h).length
theorem GS.tI{G:GS}(W:kr G.D){i:Nat}{nd:DN}(h:G.D[i]? =some nd):G.at_ nd.id=some i:=W.pos_eq h
theorem GS.Q4{G:GS}(W:kr G.D){i:Nat}{nd:DN}{c:pz}(h:G.D[i]? =some nd)(hc:G.sN[i]? =some c):G.jZ nd.id=c:=by
 unfold GS.jZ;rw [GS.tI W h];simp [hc]
theorem GS.Hk{G:GS}(W:kr G.D){i:Nat}{nd:DN}{c:List HT}(h:G.D[i]? =some nd)(hc:G.kZ[i]? =some c):G.world nd.id=c:=by
 unfold GS.world;rw [GS.tI W h];simp [hc]
section
variable{k:Nat}{G:GS}{h:HT}{ps:List HT}
theorem uY(hc:dT G.D h ps≠0):eW k G h ps=G:=by unfold eW;rw [if_neg hc]
theorem tL:(eW k G h ps).D=mB G.D h ps:=by
 unfold eW mB;split<;>rfl
theorem JI:(eW k G h ps).D=oy G.D h (bQ G ps) ps:=by
 rw [tL];unfold oy;by_cases hc:dT G.D h ps=0
 ·have fW:=(lO hc).2.1
  have:iF G.D h (bQ G ps) ps=0:=by unfold iF;rw [if_pos hc,if_pos (jg fW)]
  rw [if_pos this,qo hc]
 ·have:iF G.D h (bQ G ps) ps≠0:=by unfold iF;rw [if_neg hc];exact hc
  rw [if_neg this];unfold mB;rw [if_neg hc]
theorem GZ:iF G.D h (bQ G ps) ps=dT G.D h ps:=by
 unfold iF;split
 ·rename_i hc
  rw [if_pos (jg (lO hc).2.1),hc]
 ·rfl
theorem JJ:(eW k G h ps).P=ox G.D G.P h (bQ G ps) ps:=by
 unfold ox eW;rw [GZ];by_cases hc:dT G.D h ps=0
 ·rw [if_pos hc,if_pos hc]
 ·rw [if_neg hc,if_neg hc]
theorem mV(hc:dT G.D h ps=0):eW k G h ps=⟨G.D++ [⟨h,dB ps⟩],G.P++ [(((pos (bQ G ps) (ids G.D) 0).getD 0:Nat):Int)],G.sN++ [dr k G (bQ G ps) ps],G.kZ++ [(iw k G (bQ G ps) ps).wd]⟩:=by
 unfold eW;rw [if_pos hc]
theorem DW(H:lC k G){s:HT}(hs:s∈ids G.D)(l:List HT)(hl:∀p∈l,p∈ids G.D):
 (iw k G s l).wd.Nodup/\(iw k G s l).wd.length=(dr k G s l).score/\∀y∈(iw k G s l).wd,y∈ids G.D/\(y=s\/fH G.D y s\/y∈cP G s l):=by
 obtain⟨h1,h2⟩:=u7 k G s l;obtain⟨w1,w2,w3⟩:=H.wd s hs;have hm:∀y∈eI (cP G s l) (iw k G s l).bl,y∈ids G.D/\y≠s/\¬fH G.D y s:=fun y hy=>by
  obtain⟨e,h3,h4⟩:=kO.1 (mT hy);refine⟨?_,h3,h4⟩;rcases e with e|e
  ·exact e.1
  ·exact hl _ e
 rw [h2];refine⟨?_,?_,?_⟩
 ·refine List.nodup_append.2 ⟨List.nodup_append.2 ⟨w1,by simp,?_⟩,oS (mH G s l).nodup,?_⟩
  ·intro a ha b hb e
   have hb:b=s:=by simpa using hb
   subst hb;subst e;exact fH.irrefl H.W _ (w2 _ ha)
  ·intro a ha b hb e
   subst e;obtain⟨_,h3,h4⟩:=hm _ hb;rcases List.mem_append.1 ha with e|e
   ·exact h4 (w2 _ e)
   ·exact h3 (by simpa using e)
 ·unfold dr
  simp only [List.length_append,List.length_cons,List.length_nil,wD h1,w3]
 ·intro y hy
  rcases List.mem_append.1 hy with hy|hy
  ·rcases List.mem_append.1 hy with hy|hy
   ·exact⟨((w2 _ hy).mem H.W).1,.inr (.inl (w2 _ hy))⟩
   ·have:y=s:=by simpa using hy
    subst this;exact⟨hs,.inl rfl⟩
  ·exact⟨(hm _ hy).1,.inr (.inr (mT hy))⟩
theorem wH(H:lC k G){y:HT}(hy:y∈ids G.D):(eW k G h ps).jZ y=G.jZ y/\(eW k G h ps).world y=G.world y:=by
 by_cases hc:dT G.D h ps=0
 ·obtain⟨hn,fW,gU,sF⟩:=lO hc
  obtain⟨nd,uF,rfl⟩:=eF.1 hy;obtain⟨i,hi⟩:=List.getElem?_of_mem uF;have dW:=(lgeS hi).1;have Gt:(G.D++ [(⟨h,dB ps⟩:DN)])[i]? =some nd:=by rw [List.getElem?_append_left dW];exact hi
  have W':kr (eW k G h ps).D:=by rw [tL];exact H.W.add h ps
  rw [mV hc]at W'⊢;have e1:(⟨G.D++ [⟨h,dB ps⟩],G.P++ [(((pos (bQ G ps) (ids G.D) 0).getD 0:Nat):Int)],G.sN++ [dr k G (bQ G ps) ps],G.kZ++ [(iw k G (bQ G ps) ps).wd]⟩:GS).at_ nd.id=some i:=GS.tI W' Gt;have e2:=GS.tI H.W hi;unfold GS.jZ GS.world;rw [e1,e2];simp only [Option.bind_some];rw [List.getElem?_append_left (by rw [H.lc];exact dW),List.getElem?_append_left (by rw [H.lw];exact dW)];exact⟨rfl,rfl⟩
 ·rw [uY hc];exact⟨rfl,rfl⟩
theorem wI(H:lC k G)(hc:dT G.D h ps=0):(eW k G h ps).jZ h=dr k G (bQ G ps) ps/\(eW k G h ps).world h=(iw k G (bQ G ps) ps).wd:=by
 have W':kr (eW k G h ps).D:=by rw [tL];exact H.W.add h ps
 rw [mV hc]at W'⊢;have Gt:(G.D++ [(⟨h,dB ps⟩:DN)])[G.D.length]? =some ⟨h,dB ps⟩:=by rw [List.getElem?_append_right (Nat.le_refl _),Nat.sub_self];rfl
 have e1:(⟨G.D++ [⟨h,dB ps⟩],G.P++ [(((pos (bQ G ps) (ids G.D) 0).getD 0:Nat):Int)],G.sN++ [dr k G (bQ G ps) ps],G.kZ++ [(iw k G (bQ G ps) ps).wd]⟩:GS).at_ h=some G.D.length:=GS.tI W' Gt;unfold GS.jZ GS.world;rw [e1];simp only [Option.bind_some];rw [List.getElem?_append_right (by rw [H.lc];exact Nat.le_refl _),H.lc,Nat.sub_self,List.getElem?_append_right (by rw [H.lw];exact Nat.le_refl _),H.lw,Nat.sub_self];exact⟨rfl,rfl⟩
end
section
variable{k:Nat}{G:GS}{h:HT}{ps:List HT}
theorem mN(k:Nat)(r:HT):lC k (fg r):=by
 have e0:(fg r).at_ r=some 0:=GS.tI (G:=fg r) (kr.root r) (nd:=⟨r,[]⟩) rfl;have ec:(fg r).jZ r=⟨fG,0,[],[]⟩:=by unfold GS.jZ;rw [e0];rfl
 have ew:(fg r).world r= []:=by unfold GS.world;rw [e0];rfl
 refine⟨kr.root r,sV.one r,rfl,rfl,?_,?_,?_⟩
 ·intro nd gU
  have:nd=⟨r,[]⟩:=by simpa [fg]using gU.symm
  subst this;exact⟨ec,ew⟩
 ·rintro s h ⟨i,j,ni,m,h1,_,h3,_,_⟩
  exfalso;cases i with
  |zero=>simp [fg]at h3
  |succ i=>simp [fg]at h1
 ·intro h hm
  have:h=r:=by simpa [fg,ids]using hm
  subst this;refine⟨by rw [ew];simp,by rw [ew];simp,?_⟩;unfold GS.score;rw [ec,ew];rfl
theorem HE(H:lC k G)(hc:dT G.D h ps=0):∃(j:Nat) (m:DN),G.D[j]? =some m/\m.id=bQ G ps/\(pos (bQ G ps) (ids G.D) 0).getD 0=j/\bQ G ps∈ps/\bQ G ps∈ids G.D:=by
 obtain⟨hn,fW,gU,sF⟩:=lO hc;have h1:=jg (G:=G) fW;have h2:=sF _ (dV.2 h1);obtain⟨m,hm,e⟩:=eF.1 h2;obtain⟨j,hj⟩:=List.getElem?_of_mem hm;have h3:=H.W.pos_eq hj;rw [e]at h3;exact⟨j,m,hj,e,by rw [h3];rfl,h1,h2⟩
theorem BK(H:lC k G)(hc:dT G.D h ps=0):(∀y,fH (G.D++ [⟨h,dB ps⟩]) y h↔∃p∈ps,y=p\/fH G.D y p)/\∀a b,b∈ids G.D->(fH (G.D++ [⟨h,dB ps⟩]) a b↔fH G.D a b):=by
 obtain⟨hn,fW,gU,sF⟩:=lO hc;have W':kr (G.D++ [⟨h,dB ps⟩]):=by have:=H.W.add h ps;rwa [qo hc]at this
 have Gt:(G.D++ [(⟨h,dB ps⟩:DN)])[G.D.length]? =some ⟨h,dB ps⟩:=by rw [List.getElem?_append_right (Nat.le_refl _),Nat.sub_self];rfl
 have FQ:∀a b,b∈ids G.D->(fH (G.D++ [⟨h,dB ps⟩]) a b↔fH G.D a b):=fun a b hb=>jM H.W hn hb;refine⟨fun y=>?_,FQ⟩;rw [EY W' Gt y];constructor
 ·rintro⟨p,hp,e⟩
  exact⟨p,dV.1 hp,e.imp_right fun e=>(FQ _ _ (sF _ hp)).1 e⟩
 ·rintro⟨p,hp,e⟩
  exact⟨p,dV.2 hp,e.imp_right fun e=>(FQ _ _ (sF _ (dV.2 hp))).2 e⟩
theorem lC.add(H:lC k G)(h:HT)(ps:List HT):lC k (eW k G h ps):=by
 by_cases hc:dT G.D h ps=0
 ·obtain⟨hn,fW,gU,sF⟩:=lO hc
  obtain⟨j,m,hj,hm,jS,G9,Ez⟩:=HE H hc;obtain⟨EZ,FQ⟩:=BK H hc;have hk:=fun y (hy:y∈ids G.D)=>wH (h:=h) (ps:=ps) H hy;obtain⟨nc,nw⟩:=wI H hc;obtain⟨v1,v2⟩:=u7 k G (bQ G ps) ps;obtain⟨u1,u2,u3⟩:=DW H Ez ps (fun p hp=>sF _ (dV.2 hp));have W':kr (G.D++ [⟨h,dB ps⟩]):=by have:=H.W.add h ps;rwa [qo hc]at this
  have oM:sV (G.D++ [(⟨h,dB ps⟩:DN)]) (G.P++ [(j:Int)]):=H.ns.snoc hj (by rw [hm];exact dV.2 G9) H.W.pos;generalize hs:bQ G ps=s at*;have eG:=mV (k:=k) hc;rw [hs,jS]at eG;have eD:(eW k G h ps).D=G.D++ [⟨h,dB ps⟩]:=by rw [eG]
  have eP:(eW k G h ps).P=G.P++ [(j:Int)]:=by rw [eG]
  refine⟨by rw [eD];exact W',by rw [eD,eP];exact oM,by rw [eG];simp [H.lc],by rw [eG];simp [H.lw],?_,?_,?_⟩
  ·intro nd uF
   rw [eD,List.getElem?_append_left H.W.pos]at uF;obtain⟨e1,e2⟩:=hk nd.id (eF.2 ⟨nd,List.mem_of_getElem? uF,rfl⟩);rw [e1,e2];exact H.root nd uF
  ·intro t y hy
   rw [eD,eP,oF H.W H.ns hn hj]at hy;rcases hy with hy|⟨rfl,rfl⟩
   ·have hp:=hy.par H.ns
    have XQ:y∈ids G.D:=((fH.one hp).mem H.W).2;have Kc:t∈ids G.D:=((fH.one hp).mem H.W).1;obtain⟨e1,e2⟩:=hk y XQ;obtain⟨_,e3⟩:=hk t Kc;obtain⟨g1,g2,g3,g4,g5⟩:=H.up t y hy;rw [e1,e2,e3,eD];refine⟨g1,g2,g3,g4,fun z=>?_⟩;rw [g5,FQ _ _ XQ,FQ _ _ Kc]
   ·show _/\_
    rw [nc,nw,hm,(hk s Ez).2,eD];refine⟨rfl,v2,v1,(mH _ _ _).nodup,fun z=>?_⟩;show z∈cP G s ps↔_
    rw [kO,EZ,FQ _ _ Ez];constructor
    ·rintro⟨e,h3,h4⟩
     refine⟨?_,h3,h4⟩;rcases e with⟨_,p,hp,e⟩|e
     ·exact⟨p,hp,.inr e⟩
     ·exact⟨z,e,.inl rfl⟩
    ·rintro⟨⟨p,hp,e⟩,h3,h4⟩
     refine⟨?_,h3,h4⟩;rcases e with rfl|e
     ·exact .inr hp
     ·exact .inl ⟨(e.mem H.W).1,p,hp,e⟩
  ·intro y hy
   rw [eD,lT]at hy;rcases List.mem_append.1 hy with hy|hy
   ·obtain⟨e1,e2⟩:=hk y hy
    obtain⟨g1,g2,g3⟩:=H.wd y hy;unfold GS.score;rw [e1,e2,eD];exact⟨g1,fun b hb=>(FQ _ _ hy).2 (g2 b hb),g3⟩
   ·have:y=h:=by simpa using hy
    subst this;unfold GS.score;rw [nc,nw,eD];refine⟨u1,fun b hb=>?_,u2.symm⟩;obtain⟨_,e⟩:=u3 b hb;rw [EZ];rcases e with rfl|e|e
    ·exact⟨b,G9,.inl rfl⟩
    ·exact⟨s,G9,.inr e⟩
    ·obtain⟨e,_,_⟩:=kO.1 e
     rcases e with⟨_,p,hp,e⟩|e
     ·exact⟨p,hp,.inr e⟩
     ·exact⟨b,e,.inl rfl⟩
 ·rw [uY hc];exact H
end
def nt(sz:HT->HT->Option Nat)(l:List HT)(b:HT):Nat:=(l.findSome? fun h=>sz h b).getD 0
def sA(ov:HT->Option Nat)(base:HT->Nat)(b:HT):Nat:=(ov b).getD (base b)
structure OV(D:DG)(wd:List HT)(ov:HT->Option Nat)(base:HT->Nat):Prop where
 kn:∀b∈wd,sA ov base b=(cg D wd b).length
 R1:∀b n,ov b=some n->b∈wd
noncomputable def Ap(D:DG)(wd:List HT)(ov:HT->Option Nat)(base:HT->Nat)(h:HT):HT->Option Nat:=
 fun b=>if b∈cg D wd h then some (sA ov base b+1)else if b=h then some (cg D wd h).length else ov b
theorem OV.step{D:DG}{wd:List HT}{ov:HT->Option Nat}{base:HT->Nat}(H:OV D wd ov base){h:HT}(hn:h∉wd):OV D (wd++ [h]) (Ap D wd ov base h) base:=by
 refine⟨fun b hb=>?_,fun b n e=>?_⟩
 ·rw [gw,List.length_append]
  unfold sA Ap;by_cases hp:b∈cg D wd h
  ·rw [if_pos hp]
   obtain⟨h1,h2⟩:=gK.1 hp;rw [Option.getD_some,H.kn b h1];have:cg D [h] b= [h]:=by unfold cg;rw [List.filter_cons_of_pos (by simpa using h2.symm)];rfl
   rw [this];rfl
  ·rw [if_neg hp]
   by_cases e:b=h
   ·subst e
    rw [if_pos rfl,Option.getD_some];have:cg D [b] b= []:=by unfold cg;rw [List.filter_cons_of_neg (by simpa using fun e:oB D b b=>e.1 rfl)];rfl
    rw [this];rfl
   ·rw [if_neg e]
    have hw:b∈wd:=by
     rcases List.mem_append.1 hb with hb|hb
     ·exact hb
     ·exact absurd (by simpa using hb) e
    have:cg D [h] b= []:=by unfold cg;rw [List.filter_cons_of_neg (by simpa using fun e':oB D h b=>hp (gK.2 ⟨hw,e'.symm⟩))];rfl
    rw [this];exact H.kn b hw
 ·unfold Ap at e
  split at e
  ·rename_i hp
   exact List.mem_append_left _ (gK.1 hp).1
  ·split at e
   ·rename_i hb;subst hb;exact List.mem_append_right _ (by simp)
   ·exact List.mem_append_left _ (H.R1 b n e)
structure SZ(G:GS)(sz:HT->HT->Option Nat):Prop where
 kn:∀h l,h∈ids G.D->dG G.D G.P h l->∀b∈G.world h++ [h],nt sz l b=(cg G.D (G.world h++ [h]) b).length
 R1:∀h b n,sz h b=some n->b∈ids G.D
theorem SZ.ov{G:GS}{sz:HT->HT->Option Nat}(Z:SZ G sz){s:HT}(hs:s∈ids G.D){l:List HT}(hl:dG G.D G.P s l):OV G.D (G.world s++ [s]) (fun _=>none) (nt sz l):=
 ⟨fun b hb=>Z.kn s l hs hl b hb,fun b n e=>by cases e⟩
theorem Up.snoc{P:List Int}{p:Int}:∀ {i:Nat} {l:List Nat},Up P i l->Up (P++ [p]) i l:=by
 intro i l h
 induction h with
 |root=>exact .root
 |step h _ ih=>exact .step (by rw [List.getElem?_append_left (lgeS h).1];exact h) ih
theorem yf{D:DG}{nd:DN}{i:Nat}(h:i<D.length):pg (D++ [nd]) i=pg D i:=by unfold pg;rw [List.getElem?_append_left h]
theorem dG.snoc{D:DG}{P:List Int}(H:sV D P){nd:DN}{p:Int}{h:HT}{l:List HT}(hm:h∈ids D)(c:dG D P h l):dG (D++ [nd]) (P++ [p]) h l:=by
 rcases c with⟨hn,_⟩|⟨i,m,ks,h1,h2,h3,h4⟩
 ·exact absurd hm hn
 ·have dW:=(lgeS h1).1
  refine .inr ⟨i,m,ks,by rw [List.getElem?_append_left dW];exact h1,h2,h3.snoc,?_⟩;rw [h4];refine List.map_congr_left fun k hk=>(yf ?_).symm;have:=h3.lt H.par (by rw [H.len];exact dW) k hk
  rwa [H.len]at this
theorem dG.new{D:DG}{P:List Int}(W:kr D)(H:sV D P){nd m:DN}{j:Nat}(hj:D[j]? =some m){l:List HT}(c:dG D P m.id l):dG (D++ [nd]) (P++ [(j:Int)]) nd.id (nd.id::l):=by
 have hm:m.id∈ids D:=eF.2 ⟨m,List.mem_of_getElem? hj,rfl⟩;have c':=dG.snoc (nd:=nd) (p:=(j:Int)) H hm c;rcases c with⟨hn,_⟩|⟨i,m',ks,h1,h2,h3,h4⟩
 ·exact absurd hm hn
 ·have sH:=W.inj h1 hj h2
  subst sH;have e0:(D++ [nd])[D.length]? =some nd:=by rw [List.getElem?_append_right (Nat.le_refl _),Nat.sub_self];rfl
  refine .inr ⟨D.length,nd,D.length::ks,e0,rfl,.step (by rw [<-H.len,List.getElem?_append_right (Nat.le_refl _),Nat.sub_self];rfl) h3.snoc,?_⟩;rw [List.map_cons,oo e0,h4]
  congr 1
  refine List.map_congr_left fun k hk=>(yf ?_).symm;have:=h3.lt H.par (by rw [H.len];exact(lgeS h1).1) k hk
  rwa [H.len]at this
theorem si{D D':DG}{l:List HT}{b:HT}(h:∀a∈l,oB D' a b↔oB D a b):cg D' l b=cg D l b:=by
 unfold cg;exact List.filter_congr fun a ha=>by simp only [h a ha]
theorem SZ.root(r:HT):SZ (fg r) (fun _ _=>none):=by
 refine⟨fun h l hm _ b hb=>?_,fun h b n e=>by cases e⟩;have hh:h=r:=by simpa [fg,ids]using hm
 subst hh;have ew:(fg h).world h= []:=((mN 0 h).root ⟨h,[]⟩ rfl).2;rw [ew]at hb⊢;have:b=h:=by simpa using hb
 subst this;have:cg (fg b).D ([]++ [b]) b= []:=by unfold cg;rw [List.nil_append,List.filter_cons_of_neg (by simpa using fun e:oB (fg b).D b b=>e.1 rfl)];rfl
 rw [this];unfold nt;have:(l.findSome? fun _=>(none:Option Nat))=none:=by simp
 rw [this];rfl
theorem SZ.add{k:Nat}{G:GS}{sz:HT->HT->Option Nat}(Z:SZ G sz)(H:lC k G){h:HT}{ps:List HT}(hc:dT G.D h ps=0){l:List HT}(hl:dG G.D G.P (bQ G ps) l){ov:HT->Option Nat}
 (O:OV G.D (iw k G (bQ G ps) ps).wd ov (nt sz l)):SZ (eW k G h ps) (fun y=>if y=h then ov else sz y):=by
 obtain⟨hn,fW,gU,sF⟩:=lO hc;obtain⟨j,m,hj,hm,jS,G9,Ez⟩:=HE H hc;obtain⟨EZ,FQ⟩:=BK H hc;have H':=H.add h ps;obtain⟨nc,nw⟩:=wI H hc;obtain⟨u1,u2,u3⟩:=DW H Ez ps (fun p hp=>sF _ (dV.2 hp));have eD:(eW k G h ps).D=G.D++ [⟨h,dB ps⟩]:=by rw [mV hc]
 have eP:(eW k G h ps).P=G.P++ [(j:Int)]:=by rw [mV hc,jS]
 have apt:∀a b,a∈ids G.D->b∈ids G.D->(oB (G.D++ [⟨h,dB ps⟩]) a b↔oB G.D a b):=fun a b ha hb=>by unfold oB;rw [FQ _ _ hb,FQ _ _ ha]
 have lno:∀(y:HT) (l':List HT),y∈ids G.D->dG G.D G.P y l'->∀b,nt (fun y=>if y=h then ov else sz y) l' b=nt sz l' b:=fun y l' hy c b=>by
  unfold nt;have Yb:h∉l':=fun e=>hn ((c.mem H.W H.ns).1 e).mem.1;have key:∀l':List HT,h∉l'->(l'.findSome? fun y=>(if y=h then ov else sz y) b)=l'.findSome? fun y=>sz y b:=by
   intro l'
   induction l' with
   |nil=>intro _;rfl
   |cons y l' ih=>
    intro hq;simp only [List.mem_cons,not_or]at hq;rw [List.findSome?_cons,List.findSome?_cons,if_neg (fun e=>hq.1 e.symm),ih hq.2]
  rw [key l' Yb]
 refine⟨fun y l' hy c b hb=>?_,fun y b n e=>?_⟩
 ·rw [eD,eP]at c
  rw [eD]at hy⊢;rw [lT]at hy;have W':kr (G.D++ [⟨h,dB ps⟩]):=by have:=H'.W;rwa [eD]at this
  have S':sV (G.D++ [⟨h,dB ps⟩]) (G.P++ [(j:Int)]):=by have:=H'.ns;rwa [eD,eP]at this
  rcases List.mem_append.1 hy with hy|hy
  ·obtain⟨l0,c0⟩:=dG.ex H.ns y
   have:l'=l0:=c.one W' S' (c0.snoc H.ns hy);subst this;obtain⟨_,e2⟩:=wH (k:=k) (h:=h) (ps:=ps) H hy;rw [e2]at hb⊢;rw [lno y l' hy c0,Z.kn y l' hy c0 b hb];have gC:∀a∈G.world y++ [y],a∈ids G.D:=fun a ha=>by
    rcases List.mem_append.1 ha with ha|ha
    ·exact(((H.wd y hy).2.1 a ha).mem H.W).1
    ·have:a=y:=by simpa using ha
     subst this;exact hy
   rw [si fun a ha=>apt a b (gC a ha) (gC b hb)]
  ·have:y=h:=by simpa using hy
   subst this;have cn:=dG.new (nd:=⟨y,dB ps⟩) H.W H.ns hj (by rw [hm];exact hl);have:l'=y::l:=c.one W' S' cn;subst this;rw [nw]at hb⊢;have e1:nt (fun z=>if z=y then ov else sz z) (y::l) b=sA ov (nt sz l) b:=by
    have:=lno _ l Ez hl b;unfold nt at this⊢;unfold sA;rw [List.findSome?_cons];cases BV:ov b with
    |none=>simp only [if_true,BV,Option.getD_none];exact this
    |some n=>simp only [if_true,BV,Option.getD_some]
   rw [e1,gw,List.length_append];have SP:∀a∈(iw k G (bQ G ps) ps).wd,¬oB (G.D++ [⟨y,dB ps⟩]) a y:=fun a ha e=>by
    obtain⟨_,e'⟩:=u3 a ha;refine e.2.1 ((EZ a).2 ?_);rcases e' with rfl|e'|e'
    ·exact⟨_,G9,.inl rfl⟩
    ·exact⟨_,G9,.inr e'⟩
    ·obtain⟨e',_,_⟩:=kO.1 e'
     rcases e' with⟨_,p,hp,e'⟩|e'
     ·exact⟨p,hp,.inr e'⟩
     ·exact⟨a,e',.inl rfl⟩
   rcases List.mem_append.1 hb with hb|hb
   ·have hbi:=(u3 b hb).1
    have:cg (G.D++ [⟨y,dB ps⟩]) [y] b= []:=by unfold cg;rw [List.filter_cons_of_neg (by simpa using fun e:oB _ y b=>SP b hb e.symm)];rfl
    rw [this,O.kn b hb,si fun a ha=>apt a b (u3 a ha).1 hbi];rfl
   ·have:b=y:=by simpa using hb
    subst this;have e2:cg (G.D++ [⟨b,dB ps⟩]) (iw k G (bQ G ps) ps).wd b= []:=by
     unfold cg;rw [List.filter_eq_nil_iff];intro a ha;simpa using SP a ha
    have e3:cg (G.D++ [⟨b,dB ps⟩]) [b] b= []:=by unfold cg;rw [List.filter_cons_of_neg (by simpa using fun e:oB _ b b=>e.1 rfl)];rfl
    rw [e2,e3];have e4:ov b=none:=by
     cases BV:ov b with
     |none=>rfl
     |some n=>exact absurd (u3 b (O.R1 b n BV)).1 hn
    have e5:nt sz l b=0:=by
     unfold nt;have:(l.findSome? fun h=>sz h b)=none:=by
      rw [List.findSome?_eq_none_iff];intro y hy;cases IC:sz y b with
      |none=>rfl
      |some n=>exact absurd (Z.R1 y b n IC) hn
     rw [this];rfl
    unfold sA;rw [e4,e5];rfl
 ·rw [eD,lT]
  refine List.mem_append_left _ ?_;split at e
  ·exact(u3 b (O.R1 b n e)).1
  ·exact Z.R1 y b n e
noncomputable def zG(G:GS)(h:HT):List HT->List HT
 | []=> []
 |a::r=>(if oB G.D a h then [a]else [])++if fH G.D a h then []else cg G.D (eI (G.jZ a).merge (G.jZ a).gm) h++zG G h r
theorem Up.inv{P:List Int}{i:Nat}{l:List Nat}(h:Up P i l):(i=0/\l= [0])\/∃(j:Nat) (r:List Nat),l=i::r/\P[i]? =some (j:Int)/\Up P j r:=by
 cases h with
 |root=>exact .inl ⟨rfl,rfl⟩
 |step h1 h2=>exact .inr ⟨_,_,rfl,h1,h2⟩
theorem dG.inv{D:DG}{P:List Int}(W:kr D)(H:sV D P){h:HT}{l:List HT}(hm:h∈ids D)(c:dG D P h l):
 (l= [h]/\∃nd,D[0]? =some nd/\nd.id=h)\/∃(s:HT) (r:List HT),l=h::r/\mc D P s h/\s∈ids D/\dG D P s r:=by
 rcases c with⟨hn,_⟩|⟨i,m,ks,h1,h2,h3,h4⟩
 ·exact absurd hm hn
 ·rcases h3.inv with⟨rfl,rfl⟩|⟨j,r,rfl,h5,h6⟩
  ·refine .inl ⟨?_,m,h1,h2⟩
   rw [h4,List.map_cons,List.map_nil,oo h1,h2]
  ·have hj:j<D.length:=by
    cases i with
    |zero=>rw [H.root]at h5;simp only [Option.some.injEq]at h5;omega
    |succ i=>
     obtain⟨j',m',e,_,h7,_⟩:=H.up (i+1) _ m (by omega) h5 h1;have:=(lgeS h7).1;omega
   obtain⟨mj,P8⟩:∃mj,D[j]? =some mj:=⟨_,List.getElem?_eq_getElem hj⟩;refine .inr ⟨mj.id,r.map (pg D),?_,⟨i,j,m,mj,h1,h2,h5,P8,rfl⟩,eF.2 ⟨mj,List.mem_of_getElem? P8,rfl⟩,.inr ⟨j,mj,r,P8,rfl,h6,rfl⟩⟩;rw [h4,List.map_cons,oo h1,h2]
theorem QZ{k:Nat}{G:GS}(H:lC k G)(h:HT):∀(l:List HT) (s:HT),s∈ids G.D->dG G.D G.P s l->(zG G h l).Nodup/\∀y,y∈zG G h l↔y∈cg G.D (G.world s++ [s]) h:=by
 intro l
 induction l with
 |nil=>
  intro s hs c;rcases c.inv H.W H.ns hs with⟨e,_⟩|⟨_,_,e,_⟩<;>cases e
 |cons a r ih=>
  intro s hs c;have key:∀(wb:List HT),G.world s=wb++eI (G.jZ s).merge (G.jZ s).gm->(zG G h r).Nodup->(∀y,y∈zG G h r↔y∈cg G.D wb h)->a=s->(zG G h (a::r)).Nodup/\∀y,y∈zG G h (a::r)↔y∈cg G.D (G.world s++ [s]) h:=by
   rintro wb hw hn hy rfl;obtain⟨w1,w2,_⟩:=H.wd a hs;have abu:=fH.irrefl H.W a;rw [hw]at w1 w2⊢;rw [List.nodup_append]at w1;obtain⟨w3,w4,w5⟩:=w1;unfold zG;by_cases ha:fH G.D a h
   ·have Lx:¬oB G.D a h:=fun e=>e.2.1 ha
    rw [if_pos ha,if_neg Lx];refine⟨by simp,fun y=>?_⟩;simp only [List.append_nil,List.not_mem_nil,false_iff];intro e;obtain⟨e1,e2⟩:=gK.1 e;rcases List.mem_append.1 e1 with e1|e1
    ·exact e2.2.1 ((w2 y e1).trans ha)
    ·have:y=a:=by simpa using e1
     subst this;exact Lx e2
   ·rw [if_neg ha]
    have hr:∀y∈zG G h r,y∈wb:=fun y e=>(gK.1 ((hy y).1 e)).1;refine⟨?_,fun y=>?_⟩
    ·refine List.nodup_append.2 ⟨by split<;>simp,List.nodup_append.2 ⟨w4.filter _,hn,?_⟩,?_⟩
     ·intro x hx z hz e
      subst e;exact w5 x (hr x hz) x (gK.1 hx).1 rfl
     ·intro x hx z hz e
      subst e;split at hx
      ·have:x=a:=by simpa using hx
       subst this;refine abu (w2 x ?_);rcases List.mem_append.1 hz with hz|hz
       ·exact List.mem_append_right _ (gK.1 hz).1
       ·exact List.mem_append_left _ (hr x hz)
      ·simp at hx
    ·rw [gw,gw]
     simp only [List.mem_append,hy];have e1:y∈(if oB G.D a h then [a]else [])↔y∈cg G.D [a] h:=by
      unfold cg;by_cases hp:oB G.D a h
      ·rw [if_pos hp,List.filter_cons_of_pos (by simpa using hp)];rfl
      ·rw [if_neg hp,List.filter_cons_of_neg (by simpa using hp)];rfl
     rw [e1];constructor
     ·rintro(e|e|e)
      ·exact .inr e
      ·exact .inl (.inr e)
      ·exact .inl (.inl e)
     ·rintro((e|e)|e)
      ·exact .inr (.inr e)
      ·exact .inr (.inl e)
      ·exact .inl e
  rcases c.inv H.W H.ns hs with⟨e,nd,h0,rfl⟩|⟨t,r',e,nu,ht,hc⟩
  ·obtain⟨r1,r2⟩:=H.root nd h0
   cases e;exact key [] (by rw [r2,r1];simp [eI]) (by simp [zG]) (fun y=>by simp [zG,cg]) rfl
  ·cases e
   obtain⟨_,u2,_⟩:=H.up t a nu;obtain⟨i1,i2⟩:=ih t ht hc;exact key (G.world t++ [t]) u2 i1 i2 rfl
noncomputable def o8(G:GS)(h:HT)(bl l:List HT):List HT:=cg G.D bl h++zG G h l
theorem Ml{k:Nat}{G:GS}(H:lC k G){h s:HT}{l bl:List HT}(hs:s∈ids G.D)(hl:dG G.D G.P s l)(hn:(G.world s++ [s]++bl).Nodup):
 (o8 G h bl l).Nodup/\(o8 G h bl l).length=(cg G.D (G.world s++ [s]++bl) h).length/\∀y,y∈o8 G h bl l↔y∈cg G.D (G.world s++ [s]++bl) h:=by
 obtain⟨h1,h2⟩:=QZ H h l s hs hl;have h0:=hn;rw [List.nodup_append]at hn;obtain⟨n1,n2,n3⟩:=hn;have hm:∀y,y∈o8 G h bl l↔y∈cg G.D (G.world s++ [s]++bl) h:=fun y=>by
  unfold o8;rw [gw,List.mem_append,List.mem_append,h2];exact Or.comm
 have gU:(o8 G h bl l).Nodup:=by
  refine List.nodup_append.2 ⟨n2.filter _,h1,?_⟩;intro x hx z hz e;subst e;exact n3 x (gK.1 ((h2 x).1 hz)).1 x (gK.1 hx).1 rfl
 exact⟨gU,((List.perm_ext_iff_of_nodup gU (h0.filter _)).2 hm).length_eq,hm⟩
def sj(k:Nat)(kn:HT->Nat)(done:List HT)(b:HT):Bool:=decide (done.length+1<=k/\kn b<k)
def fJ(k:Nat)(kn:HT->Nat):List HT->List HT->Bool
 |_,[]=>true
 |done,b::l=>sj k kn done b&&fJ k kn (done++ [b]) l
theorem ql{k:Nat}{kn:HT->Nat}:∀ {l done:List HT},fJ k kn done l=true↔(l≠ []->done.length+l.length<=k)/\∀b∈l,kn b<k
 | [],done=>by simp [fJ]
 |b::l,done=>by
  unfold fJ sj;rw [Bool.and_eq_true,decide_eq_true_eq,ql];simp only [List.length_append,List.length_cons,List.length_nil,List.mem_cons,forall_eq_or_imp,ne_eq,reduceCtorEq,not_false_eq_true,forall_const];constructor
  ·rintro⟨⟨h1,h2⟩,h3,h4⟩
   refine⟨?_,h2,h4⟩;by_cases e:l= []
   ·subst e;simpa using h1
   ·have:=h3 e;omega
  ·rintro⟨h1,h2,h3⟩
   refine⟨⟨by omega,h2⟩,fun _=>by omega,h3⟩
theorem mU{k:Nat}{kn:HT->Nat}:∀ {l m done:List HT},fJ k kn done (l++m)=(fJ k kn done l&&fJ k kn (done++l) m)
 | [],m,done=>by simp [fJ]
 |b::l,m,done=>by
  simp only [List.cons_append,fJ,mU (l:=l),Bool.and_assoc,List.append_assoc,List.nil_append]
theorem Jw{k:Nat}{D:DG}{wd:List HT}{kn:HT->Nat}{h:HT}{c:List HT}(hk:∀b∈wd,kn b=(cg D wd b).length)(hl:c.length=(cg D wd h).length)(hm:∀y,y∈c↔y∈cg D wd h):
 fJ k kn [] c=qY k D wd h:=by
 rw [Bool.eq_iff_iff,ql];unfold qY;rw [decide_eq_true_eq];simp only [List.length_nil,Nat.zero_add,<-hl];constructor
 ·rintro⟨h1,h2⟩
  refine⟨?_,fun y hy=>?_⟩
  ·by_cases e:c= []
   ·subst e;simp
   ·exact h1 e
  ·have:=h2 y ((hm y).2 hy)
   rw [hk y (gK.1 hy).1]at this;omega
 ·rintro⟨h1,h2⟩
  refine⟨fun _=>h1,fun y hy=>?_⟩;have hy:=(hm y).1 hy;rw [hk y (gK.1 hy).1];have:=h2 y hy;omega
open Go.RowKit
theorem HW:xC fF fK (.pointer none):=⟨by kernel_rfl,uP (by kernel_rfl)⟩
theorem sq:xC cV im (.int .i64 0):=⟨by kernel_rfl,uP (by kernel_rfl)⟩
structure Bo(w:World)(A:Option Addr)(n:Nat)(l:List Bool):Prop where
 len:l.length=n
 at_:∀(i:Nat) (b:Bool),l[i]? =some b->∃a,A=some a/\a.block<w.heap.size/\w.cell? (a.add i)=some (.bool b)
theorem Bo.aK{S:Nat->Prop}{w w':World}{A:Option Addr}{n:Nat}{l:List Bool}(h:Bo w A n l)(hk:Kept S w w')(hn:∀a,A=some a->¬S a.block):Bo w' A n l:=⟨h.len,fun i x hi=>by
 obtain⟨a,h1,h2,h3⟩:=h.at_ i x hi;exact⟨a,h1,Nat.lt_of_lt_of_le h2 hk.size,hk.cell h3 (by rw [fu];exact hn a h1)⟩⟩
theorem Bo.same{w w':World}{A:Option Addr}{n:Nat}{l:List Bool}(h:Bo w A n l)(hk:Kept Nil w w'):Bo w' A n l:=h.aK hk fun _ _ h=>h
def KJ(ov:HT->Option Nat)(b:HT):Option Value:=(ov b).map fun n:Nat=>.int .i64 (n:Int)
def G1(w:World)(F:Nat->Prop)(sm:Option Nat)(sz:HT->Option Nat):Prop:=
 (sm=none/\∀b,sz b=none)\/∃s,sm=some s/\F s/\gg w s (KJ sz)
def dp(c:pz)(A:Option Addr)(n cp:Nat)(B:Option Addr)(m cq:Nat):Array Value:=c.ns.1++ #[.int .u64 (c.score:Int),.slice A n cp,.slice B m cq]
structure qZ(w:World)(F:Nat->Prop)(q:Nat)(c:pz)(sz:HT->Option Nat)(A:Option Addr)(n cp:Nat)(B:Option Addr)(m cq:Nat)(sm:Option Nat):Prop where
 top:w.heap[q]? =some (.cells (dp c A n cp B m cq++ #[.map sm]) eJ (0,0))
 mg:HS w A n c.merge
 bl:Bo w B m c.gm
 fA:∀a,A=some a->F a.block
 fB:∀a,B=some a->F a.block
 sz:G1 w F sm sz
 fq:F q
def Seen(w:World)(F:Nat->Prop)(q:Nat)(c:pz)(sz:HT->Option Nat):Prop:=∃A n cp B m cq sm,qZ w F q c sz A n cp B m cq sm
section
variable{w w':World}{F S:Nat->Prop}{q:Nat}{c:pz}{sz:HT->Option Nat}{A B:Option Addr}{n cp m cq:Nat}{sm:Option Nat}
theorem G1.aK(h:G1 w F sm sz)(hk:Kept S w w')(hF:∀j,F j->¬S j):G1 w' F sm sz:=by
 rcases h with h|⟨s,h1,h2,h3⟩
 ·exact .inl h
 ·exact .inr ⟨s,h1,h2,h3.aK hk (hF _ h2)⟩
theorem qZ.aK(h:qZ w F q c sz A n cp B m cq sm)(hk:Kept S w w')(hF:∀j,F j->¬S j):qZ w' F q c sz A n cp B m cq sm:=
 ⟨hk.heap h.top (hF _ h.fq),h.mg.aK hk (fun a ha=>hF _ (h.fA a ha)),h.bl.aK hk (fun a ha=>hF _ (h.fB a ha)),h.fA,h.fB,h.sz.aK hk hF,h.fq⟩
theorem Seen.aK(h:Seen w F q c sz)(hk:Kept S w w')(hF:∀j,F j->¬S j):Seen w' F q c sz:=by
 obtain⟨A,n,cp,B,m,cq,sm,h⟩:=h;exact⟨A,n,cp,B,m,cq,sm,h.aK hk hF⟩
theorem bI(c:pz)(A:Option Addr)(n cp:Nat)(B:Option Addr)(m cq:Nat):(dp c A n cp B m cq).size=35:=by
 unfold dp;rw [Array.size_append,c.ns.2.1];rfl
theorem gR(c:pz)(A:Option Addr)(n cp:Nat)(B:Option Addr)(m cq:Nat)(r:Array Value):
 ((dp c A n cp B m cq)++r)[32]? =some (.int .u64 (c.score:Int))/\((dp c A n cp B m cq)++r)[33]? =some (.slice A n cp)/\((dp c A n cp B m cq)++r)[34]? =some (.slice B m cq)/\((dp c A n cp B m cq)++r)[35]? =r[0]? :=by
 have hs:=bI c A n cp B m cq;have h0:c.ns.1.size=32:=c.ns.2.1;refine⟨?_,?_,?_,?_⟩
 ·rw [Array.getElem?_append_left (by omega)];unfold dp;rw [Array.getElem?_append_right (by omega),h0];rfl
 ·rw [Array.getElem?_append_left (by omega)];unfold dp;rw [Array.getElem?_append_right (by omega),h0];rfl
 ·rw [Array.getElem?_append_left (by omega)];unfold dp;rw [Array.getElem?_append_right (by omega),h0];rfl
 ·rw [Array.getElem?_append_right (by omega),hs]
theorem qZ.W8(h:qZ w F q c sz A n cp B m cq sm):w.cell? (((⟨q,0,none⟩:Addr).add 0).add 32)=some (.int .u64 (c.score:Int)):=by
 rw [add_zero,bD,aE h.top];exact(gR ..).1
theorem qZ.c35(h:qZ w F q c sz A n cp B m cq sm):w.cell? ((⟨q,0,none⟩:Addr).add 35)=some (.map sm):=by
 rw [bD,aE h.top];exact(gR ..).2.2.2
theorem qZ.jZ(h:qZ w F q c sz A n cp B m cq sm):Cells w ((⟨q,0,none⟩:Addr).add 0) (dp c A n cp B m cq):=by
 intro j u hj;rw [add_zero,bD,aE h.top,Array.getElem?_append_left (by rw [bI];have:=(Array.getElem?_eq_some_iff.1 hj).1;rw [bI]at this;omega)];rw [Nat.zero_add];exact hj
end
structure CM where
 x:Nat
 mb:Nat
 SX:Nat->Prop
 FX:Nat->Prop
 q:HT->Nat
 sz:HT->HT->Option Nat
def CM.own(m:CM)(c j:Nat):Prop:=m.SX j\/j=c\/j=m.mb
structure CV(w:World)(F:Nat->Prop)(c:Nat)(k:Nat)(G:GS)(m:CM):Prop where
 top:w.heap[c]? =some (.cells #[.int .i64 (k:Int),.pointer (some ⟨m.x,0,none⟩),.map (some m.mb)] iH (0,0))
 X:DM w m.SX m.FX m.x G.D G.P
 all:gg w m.mb fun h=>if h∈ids G.D then some (.pointer (some ⟨m.q h,0,none⟩))else none
 seen:∀h∈ids G.D,Seen w F (m.q h) (G.jZ h) (m.sz h)
 iA:lC k G
 Z:SZ G m.sz
 fx:∀j,m.FX j->F j
 fo:∀j,F j->¬m.own c j
 so:∀j,m.SX j->j≠c/\j≠m.mb
 ne:c≠m.mb
 low:∀j,m.own c j\/F j->j<w.heap.size
section
variable{w w':World}{F S:Nat->Prop}{c k:Nat}{G:GS}{m:CM}{K:Value->World->Prop}
theorem CV.aK{S0:Nat->Prop}(h:CV w F c k G m)(hk:Kept S0 w w')(hS:∀j,m.own c j->¬S0 j)(hF:∀j,F j->¬S0 j):CV w' F c k G m where
 top:=hk.heap h.top (hS _ (.inr (.inl rfl)))
 X:=h.X.aK hk (fun j e=>hS j (.inl e)) (fun j e=>hF j (h.fx j e))
 all:=h.all.aK hk (hS _ (.inr (.inr rfl)))
 seen:=fun y hy=>(h.seen y hy).aK hk hF
 iA:=h.iA
 Z:=h.Z
 fx:=h.fx
 fo:=h.fo
 so:=h.so
 ne:=h.ne
 low:=fun j e=>Nat.lt_of_lt_of_le (h.low j e) hk.size
theorem CV.same(h:CV w F c k G m)(hk:Kept Nil w w'):CV w' F c k G m:=h.aK hk (fun _ _ h=>h) (fun _ _ h=>h)
theorem CV.c0(h:CV w F c k G m):w.cell? ((⟨c,0,none⟩:Addr).add 0)=some (.int .i64 (k:Int)):=by rw [bD,aE h.top];rfl
theorem CV.c1(h:CV w F c k G m):w.cell? ((⟨c,0,none⟩:Addr).add 1)=some (.pointer (some ⟨m.x,0,none⟩)):=by rw [bD,aE h.top];rfl
theorem CV.c2(h:CV w F c k G m):w.cell? ((⟨c,0,none⟩:Addr).add 2)=some (.map (some m.mb)):=by rw [bD,aE h.top];rfl
theorem CV.look(h:CV w F c k G m)(y:HT):(Instr.lookup fF (.map (some m.mb)) (.agg y.1) false).run prog w=.ok (.pointer (if y∈ids G.D then some ⟨m.q y,0,none⟩else none)) w:=by
 have:=h.all.look HW y;by_cases hy:y∈ids G.D
 ·rw [if_pos hy]at this;rw [if_pos hy];exact this
 ·rw [if_neg hy]at this;rw [if_neg hy];exact this
theorem CV.qU(h:CV w F c k G m){y:HT}(hy:y∈ids G.D):(Instr.lookup fF (.map (some m.mb)) (.agg y.1) false).run prog w=.ok (.pointer (some ⟨m.q y,0,none⟩)) w:=by
 have:=h.look y;rwa [if_pos hy]at this
theorem uo(h:CV w F c k G m)(hK:K (.bool true) w):bE prog eN.id #[.pointer (some ⟨c,0,none⟩)] w K:=
 eN.of (Split.yes rfl ⟨_,h.c1,hK⟩)
theorem GK{A:Addr}{x y:Int}{cx:Nat}(h0:w.cell? A=some (.int .i64 x))(h1:w.cell? (A.add 1)=some (.int .i64 y))(hK:K (.int .i64 (if x=0 then y else x)) w):
 bE prog bU.id #[.slice (some A) 2 cx] w K:=by
 refine bU.of ?_;unfold bU.W;refine bU.cJ (I:=fun s w'=>w'=w/\((s=(0,0))\/(s=(0,1)/\x=0)\/(s=(0,2)/\x=0/\y=0))) (μ:=fun s _=>(2-s.2).toNat) (s:=(0,0)) ⟨rfl,.inl rfl⟩ ?_;rintro s w' ⟨rfl,h⟩;rcases h with rfl|⟨rfl,hx⟩|⟨rfl,hx,hy⟩
 ·refine Split.yes rfl ⟨by simp only;omega,x,by rw [show(0:Int).toNat*1=0 from rfl,add_zero];exact h0,?_⟩
  by_cases hx:x=0
  ·refine Split.no (by simp [hx]) ?_
   exact⟨(0,1),rfl,⟨rfl,.inr (.inl ⟨rfl,hx⟩)⟩,by simp only;omega⟩
  ·refine Split.yes (by simpa using hx) ?_
   rw [if_neg hx]at hK;rw [iQ];exact hK
 ·refine Split.yes rfl ⟨by simp only;omega,y,h1,?_⟩
  rw [if_pos hx]at hK;by_cases hy:y=0
  ·refine Split.no (by simp [hy]) ?_
   exact⟨(0,2),rfl,⟨rfl,.inr (.inr ⟨rfl,hx,hy⟩)⟩,by simp only;omega⟩
  ·refine Split.yes (by simpa using hy) ?_
   rw [iQ];exact hK
 ·refine Split.no rfl ?_
  rw [aU,bU.dw];rw [if_pos hx,hy]at hK;exact hK
theorem Ds{x y:Int}(hK:K (.int .i64 (if x<y then-1 else if y<x then 1 else 0)) w):bE prog dQ.id #[.int .u64 x,.int .u64 y] w K:=by
 refine dQ.of ?_;refine fM.of ⟨_,rfl,?_⟩;refine fM.of ⟨_,rfl,?_⟩;refine Split.no (by simp) (Split.no (by simp) (Split.dec (fun h=>?_) (fun h=>Split.dec (fun h'=>?_) (fun h'=>?_))))
 ·rw [if_pos h]at hK;exact hK
 ·rw [if_neg h,if_pos h']at hK;exact hK
 ·rw [if_neg h,if_neg h']at hK;exact hK
theorem qd(h:CV w F c k G m){a b:HT}(ha:a∈ids G.D)(hb:b∈ids G.D)(hK:∀w',Kept Nil w w'->K (.int .i64 (BB G a b)) w'):
 bE prog bL.id #[.pointer (some ⟨c,0,none⟩),.agg a.1,.agg b.1] w K:=by
 refine bL.of ?_;unfold bL.W;intro w4 w5 w6;have k4:Kept Nil w w4:=(Kept.refl _ _).alloc _;have C9:w4.heap[w.heap.size]? =some (.cells a.1 al (0,0)):=aM w _;have k5:Kept Nil w4 w5:=(Kept.refl _ _).alloc _;have pE:w5.heap[w4.heap.size]? =some (.cells b.1 al (0,0)):=aM w4 _;have k6:Kept Nil w5 w6:=(Kept.refl _ _).drew;clear_value w6;have xn:=(k5.tt k6).heap C9 (fun h=>h);have pZ:=k6.heap pE (fun h=>h);have nn:=(k4.tt k5).tt k6;have h6:=h.same nn;obtain⟨A1,n1,c1,B1,m1,d1,s1,sa⟩:=h6.seen a ha;obtain⟨A2,n2,c2,B2,m2,d2,s2,sb⟩:=h6.seen b hb;refine⟨_,h6.c2,a.1,⟨a.2.1,Cells.bV xn⟩,_,h6.qU ha,_,sa.W8,_,h6.c2,b.1,⟨b.2.1,Cells.bV pZ⟩,_,h6.qU hb,_,sb.W8,a.1,⟨a.2.1,Cells.bV xn⟩,b.1,⟨b.2.1,Cells.bV pZ⟩,?_⟩;refine Ds ⟨_,rfl,⟨b.1,rfl,b.2.1,Cells.bV pZ⟩,⟨a.1,rfl,a.2.1,Cells.bV xn⟩,?_⟩;refine qh a b ⟨_,rfl,?_⟩;have k7:Kept Nil w6 ((w6.alloc (.cells a.1 al)).alloc (.cells b.1 al)).drew:=(((Kept.refl Nil w6).alloc _).alloc _).drew;generalize ((w6.alloc (.cells a.1 al)).alloc (.cells b.1 al)).drew=w7 at k7⊢;intro w8;have k8:Kept Nil w7 w8:=(Kept.refl _ _).alloc _;have NV:w8.heap[w7.heap.size]? =some (.cells _ _ (0,0)):=aM w7 _;clear_value w8;refine GK (A:=⟨w7.heap.size,0,none⟩) (by rw [aE NV];rfl) (by rw [bD,aE NV];rfl) ⟨_,rfl,?_⟩;have e:(if(if((G.jZ a).score:Int)<((G.jZ b).score:Int)then(-1:Int)else if((G.jZ b).score:Int)<((G.jZ a).score:Int)then 1 else 0)=0 then lW a b else if((G.jZ a).score:Int)<((G.jZ b).score:Int)then(-1:Int)else if((G.jZ b).score:Int)<((G.jZ a).score:Int)then 1 else 0)=BB G a b:=by
  rw [Mk];unfold GS.score;by_cases h1:(G.jZ a).score<(G.jZ b).score
  ·have um:((G.jZ a).score:Int)<((G.jZ b).score:Int):=by omega
   rw [if_pos h1,if_pos um,if_neg (by decide)]
  ·have um:¬((G.jZ a).score:Int)<((G.jZ b).score:Int):=by omega
   by_cases h2:(G.jZ b).score<(G.jZ a).score
   ·have v7:((G.jZ b).score:Int)<((G.jZ a).score:Int):=by omega
    rw [if_neg h1,if_neg um,if_pos h2,if_pos v7,if_neg (by decide)]
   ·have v7:¬((G.jZ b).score:Int)<((G.jZ a).score:Int):=by omega
    rw [if_neg h1,if_neg um,if_neg h2,if_neg v7,if_pos rfl]
 rw [e];exact hK _ ((nn.tt k7).tt k8)
end
section
variable{w:World}
theorem gg.Ek{mt te:TypeId}{z:Value}(T:xC mt te z){m:Nat}{f:HT->Option Value}(hm:gg w m f)(h:HT):
 (Instr.lookup mt (.map (some m)) (.agg h.1) true).run prog w=.ok (.tuple #[(f h).getD z,.bool (f h).isSome]) w:=by
 obtain⟨es,clock,l,h1,h2,h3,_⟩:=hm.ex;have h4:=mv h w h2;have h5:=nH h l 0;rw [h3]at h5;simp only [Instr.lookup,Sem.run_bind,run_underlying T.pD,qf h1,Result.andThen_ok,Sem.run_pure,jI,h4];cases hp:mu h l 0 with
 |none=>rw [hp]at h5;simp [<-h5,T.zero]
 |some p=>rw [hp]at h5;simp [<-h5]
theorem Cz{mt te:TypeId}{z:Value}(T:xC mt te z)(h:HT):
 (Instr.lookup mt (.map none) (.agg h.1) true).run prog w=.ok (.tuple #[z,.bool false]) w:=by
 have h3:=mv (es:= []) (l:= []) h w trivial;simp only [Instr.lookup,Sem.run_bind,run_underlying T.pD,Result.andThen_ok,Sem.run_pure,jI];simp [h3,mu,T.zero]
theorem G1.Ek{F:Nat->Prop}{sm:Option Nat}{sz:HT->Option Nat}(h:G1 w F sm sz)(b:HT):
 (Instr.lookup cV (.map sm) (.agg b.1) true).run prog w=.ok (.tuple #[.int .i64 (((sz b).getD 0:Nat):Int),.bool (sz b).isSome]) w:=by
 rcases h with⟨rfl,h⟩|⟨s,rfl,_,h⟩
 ·rw [h b];exact Cz sq b
 ·have:=h.Ek sq b
  unfold KJ at this;cases hb:sz b with
  |none=>rw [hb]at this;exact this
  |some n=>rw [hb]at this;exact this
end
section
variable{w w':World}{F S:Nat->Prop}{c k:Nat}{G:GS}{m:CM}{K:Value->World->Prop}
theorem Bp(h:CV w F c k G m)(hD:G.D.length<=5000)(a b:HT)(hK:∀w' (r:Bool),(r=true↔oB G.D a b)->Kept Nil w w'->K (.bool r) w'):
 bE prog dC.id #[.pointer (some ⟨c,0,none⟩),.agg a.1,.agg b.1] w K:=by
 refine dC.of ?_;unfold dC.W;intro w4 w5 w6;have k4:Kept Nil w w4:=(Kept.refl _ _).alloc _;have C9:w4.heap[w.heap.size]? =some (.cells a.1 al (0,0)):=aM w _;have k5:Kept Nil w4 w5:=(Kept.refl _ _).alloc _;have pE:w5.heap[w4.heap.size]? =some (.cells b.1 al (0,0)):=aM w4 _;have k6:Kept Nil w5 w6:=(Kept.refl _ _).drew;clear_value w6;have xn:=(k5.tt k6).heap C9 (fun h=>h);have pZ:=k6.heap pE (fun h=>h);have nn:=(k4.tt k5).tt k6;have h6:=h.same nn;refine⟨a.1,⟨a.2.1,Cells.bV xn⟩,b.1,⟨b.2.1,Cells.bV pZ⟩,⟨a.2.ints,b.2.ints⟩,?_⟩;rw [fy];by_cases nv:a=b
 ·refine Split.no (by rw [decide_eq_true nv];rfl) (hK w6 false ⟨(fun e=>by cases e),fun e=>absurd nv e.1⟩ nn)
 ·refine Split.yes (by rw [decide_eq_false nv];rfl) ⟨_,h6.c1,a.1,⟨a.2.1,Cells.bV xn⟩,b.1,⟨b.2.1,Cells.bV pZ⟩,?_⟩
  obtain⟨mx,X6,_⟩:=h6.X;refine lr X6 hD a b fun w7 r hr k7=>⟨_,rfl,?_⟩;have tu:=nn.tt k7;cases r with
  |true=>exact Split.no rfl (hK w7 false ⟨(fun e=>by cases e),fun e=>absurd (hr.1 rfl) e.2.1⟩ tu)
  |false=>
   have h7:=h.same tu;refine Split.yes rfl ⟨_,h7.c1,b.1,⟨b.2.1,Cells.bV (k7.heap pZ (fun h=>h))⟩,a.1,⟨a.2.1,Cells.bV (k7.heap xn (fun h=>h))⟩,?_⟩;obtain⟨mx',X7,_⟩:=h7.X;refine lr X7 hD b a fun w8 r' RK k8=>⟨_,rfl,hK w8 _ ?_ (tu.tt k8)⟩;cases r' with
   |true=>exact⟨(fun e=>by cases e),fun e=>absurd (RK.1 rfl) e.2.2⟩
   |false=>exact⟨fun _=>⟨nv,(fun e=>by have:=hr.2 e;cases this),(fun e=>by have:=RK.2 e;cases this)⟩,fun _=>rfl⟩
def lE(D:DG)(l:List HT):Int:=if l= []then 9 else if ∃p∈l,p∉ids D then 6 else 0
theorem yo(h:CV w F c k G m){A:Option Addr}{n cx:Nat}{l:List HT}(hl:HS w A n l)(hn:n<=400000)(hK:∀w',Kept Nil w w'->K (.int .i64 (lE G.D l)) w'):
 bE prog eU.id #[.pointer (some ⟨c,0,none⟩),.slice A n cx] w K:=by
 have hlen:=hl.len;refine eU.of ?_;unfold eU.W;intro w4;have k4:Kept Nil w w4:=(Kept.refl _ _).alloc _;have NH:w4.heap[w.heap.size]? =some (.cells #[.pointer (some ⟨c,0,none⟩)] dF (0,0)):=aM w _;clear_value w4;refine⟨some ⟨c,0,none⟩,by rw [aE NH];rfl,uo (h.same k4) ⟨_,rfl,Split.no rfl ?_⟩⟩;by_cases h0:n=0
 ·subst h0
  have e:l= []:=List.eq_nil_of_length_eq_zero hlen;refine Split.yes rfl ?_;have:=hK w4 k4;unfold lE at this;rw [if_pos e]at this;exact this
 ·have fW:l≠ []:=fun e=>by subst e;exact h0 hlen.symm
  refine Split.no (by simpa using (by omega:¬(n:Int)=0)) ?_;refine cC.of (au.of ?_);refine au.cJ (I:=fun s w'=>∃i:Nat,s=(0,(i:Int))/\i<=n/\(∀p∈l.take i,p∈ids G.D)/\Kept Nil w4 w') (μ:=fun s _=>((n:Int)-s.2).toNat) (s:=(0,0)) ⟨0,rfl,Nat.zero_le _,by simp,Kept.refl _ _⟩ ?_;rintro s w' ⟨i,rfl,hi,cY,kw⟩;have k0w:=k4.tt kw;refine Split.dec (fun jY=>?_) (fun gF=>?_)
  ·simp only at jY
   have dW:i<n:=by omega
   obtain⟨y,hy⟩:∃y,l[i]? =some y:=⟨_,List.getElem?_eq_getElem (by omega)⟩;refine(hl.same k0w).load (i:=(i:Int)) (by omega) hy ?_;refine eZ.of ?_;unfold eZ.W;intro w7 w8;have k7:Kept Nil w' w7:=(Kept.refl _ _).alloc _;have hb7:w7.heap[w'.heap.size]? =some (.cells y.1 al (0,0)):=aM w' _;have k8:Kept Nil w7 w8:=(Kept.refl _ _).drew;clear_value w8;have NV:=k8.heap hb7 (fun h=>h);have Rw:=(kw.tt k7).tt k8;have h8:=h.same (k4.tt Rw);refine⟨some ⟨c,0,none⟩,by rw [aE (Rw.heap NH (fun h=>h))];rfl,_,h8.c2,y.1,⟨y.2.1,Cells.bV NV⟩,_,h8.look y,_,rfl,?_⟩;by_cases hm:y∈ids G.D
   ·refine Split.no (by rw [if_pos hm];rfl) ?_
    simp only;rw [dE (n:=(i:Int)) (by omega) (by omega)];refine⟨(0,(i:Int)+1),rfl,⟨i+1,rfl,dW,fun p hp=>?_,Rw⟩,by simp only;omega⟩;rcases(bP hy).1 hp with hp|rfl
    ·exact cY p hp
    ·exact hm
   ·refine Split.yes (by rw [if_neg hm];rfl) ?_
    refine⟨(i:Int),rfl,_,rfl,?_⟩;have:=hK w8 (k4.tt Rw);unfold lE at this;rw [if_neg fW,if_pos ⟨y,List.mem_of_getElem? hy,hm⟩]at this;refine Split.yes (decide_eq_true (by omega)) this
  ·simp only at gF
   rw [aU,au.dw];rw [List.take_of_length_le (by omega)]at cY;refine⟨_,rfl,_,rfl,?_⟩;have:=hK w' k0w;unfold lE at this;rw [if_neg fW,if_neg (fun⟨p,hp,hn⟩=>hn (cY p hp))]at this;exact Split.no (by decide) this
end
theorem uu{α β:Type}{f:α->Option β}{y:α}{n:β}:∀ {l:List α} {j:Nat},l[j]? =some y->(∀x∈l.take j,f x=none)->f y=some n->l.findSome? f=some n
 | [],j,h,_,_=>by simp at h
 |x::l,0,h,_,hy=>by
  simp only [List.getElem?_cons_zero,Option.some.injEq]at h;subst h;rw [List.findSome?_cons,hy]
 |x::l,j+1,h,ha,hy=>by
  have hx:=ha x (by simp);rw [List.findSome?_cons,hx];exact uu (l:=l) (j:=j) (by simpa using h) (fun z hz=>ha z (by simp [hz])) hy
section
variable{w w':World}{F S:Nat->Prop}{c k:Nat}{G:GS}{m:CM}{K:Value->World->Prop}
theorem Dc(h:CV w F c k G m)(hD:G.D.length<=5000){a b:HT}(ha:a∈ids G.D){l:List HT}(hc:dG G.D G.P a l)(hK:∀w',Kept Nil w w'->K (.int .i64 ((nt m.sz l b:Nat):Int)) w'):
 bE prog bz.id #[.pointer (some ⟨c,0,none⟩),.agg a.1,.agg b.1] w K:=by
 have W:=h.iA.W;have H:=h.iA.ns;have Yf:∀y∈l,y∈ids G.D:=fun y hy=>((hc.mem W H).1 hy).mem.1;refine bz.of ?_;unfold bz.W;intro w4 w5 w6 w7 w8;have k4:Kept Nil w w4:=(Kept.refl _ _).alloc _;have NH:w4.heap[w.heap.size]? =some (.cells #[.pointer (some ⟨c,0,none⟩)] dF (0,0)):=aM w _;have k5:Kept Nil w4 w5:=(Kept.refl _ _).alloc _;have LZ:w5.heap[w4.heap.size]? =some (.cells a.1 al (0,0)):=aM w4 _;have k6:Kept Nil w5 w6:=(Kept.refl _ _).alloc _;have pZ:w6.heap[w5.heap.size]? =some (.cells b.1 al (0,0)):=aM w5 _;have k7:Kept Nil w6 w7:=(Kept.refl _ _).alloc _;have Nh:w7.heap[w6.heap.size]? =some (.cells #[.int .i64 0] im (0,0)):=aM w6 _;have k8:Kept Nil w7 w8:=(Kept.refl _ _).drew;clear_value w8;have X1:=k8.heap Nh (fun h=>h);have NV:=k8.heap (k7.heap pZ (fun h=>h)) (fun h=>h);have ha8:=k8.heap (k7.heap (k6.heap LZ (fun h=>h)) (fun h=>h)) (fun h=>h);have hc8:=k8.heap (k7.heap (k6.heap (k5.heap NH (fun h=>h)) (fun h=>h)) (fun h=>h)) (fun h=>h);have zz:=(((k4.tt k5).tt k6).tt k7).tt k8;have s06:=(((k4.tt k5).tt k6)).size;have l7:=bf Nh;have l8:=bf X1;clear_value w7 w6 w5 w4;refine⟨some ⟨c,0,none⟩,by rw [aE hc8];rfl,_,(h.same zz).c1,a.1,⟨a.2.1,Cells.bV ha8⟩,?_⟩;refine tW a fun jG pb qb nh Ls Lq vS hqb=>⟨_,rfl,?_⟩;have Zl:=nh.size;have Io:=zz.tt nh;have PY:=nh.heap X1 (fun h=>h)
 let Di:Value:=.func (.func bt.id) #[] #[.pointer (some ⟨pb,0,none⟩),.pointer (some ⟨qb,0,none⟩)]
 let ρ0:Env:= [(3,.pointer (some ⟨w.heap.size,0,none⟩)),(5,.pointer (some ⟨w5.heap.size,0,none⟩)),(6,.pointer (some ⟨w6.heap.size,0,none⟩)),(15,Di)]
 let J:Nat->World->Prop:=fun j u=>Kept Nil jG u/\j<=l.length/\∀y∈l.take j,m.sz y b=none
 let Jd:Code->World->Prop:=fun e u=>e=.ret/\Kept (fun k=>k=w6.heap.size) jG u/\∃n:Nat,(l.findSome? fun y=>m.sz y b)=some n/\u.heap[w6.heap.size]? =some (.cells #[.int .i64 (n:Int)] im (0,0))
 have k0J:∀ {u:World},Kept Nil jG u->Kept Nil w u:=fun k=>Io.tt k;have kS:∀ {v:World},Kept (fun k=>k=w6.heap.size) jG v->Kept Nil w v:=fun k=>Io.trans k (fun k hk e=>by omega);obtain⟨mx,X35,_⟩:=(h.same Io).X
 change Holds none [] prog _ _ _ ρ0 jG
 refine oL (n:=33) (ρ:=ρ0) (ρ0:=ρ0) ng mix bz.k (t:=15) (ps:= #[16]) (by kernel_rfl) (by decide) rfl bt.at_ rfl (.inl rfl) (fun i x hi hx=>hx) rfl sJ l (fun _=>rfl) (fun q hq=>by
  have e49:q=16:=by simpa using hq
  subst e49;exact⟨by decide,by decide⟩) (DX (F:=m.FX) (x:=m.x) (m:=mx) (pb:=pb) (qb:=qb) hc (by omega)) J Jd ?_ ?_ (fun j u hJ=>⟨X35.same hJ.1,hJ.1.heap Ls (fun h=>h),hJ.1.heap Lq (fun h=>h)⟩) ?_ ?_ ?_ ?_ ?_
 ·rintro j u1 u2 R rD ⟨h1,h2,h3⟩ o6
  exact⟨h1.trans o6 (fun k hk e=>by omega),h2,h3⟩
 ·rintro e u1 u2 R rD ⟨h1,h2,n,h3,h4⟩ o6
  exact⟨h1,h2.trans o6 (fun k hk e=>by omega),n,h3,o6.heap h4 (by omega)⟩
 ·intro R
  exact⟨(((Kept.refl _ _).alloc _).alloc _),Nat.zero_le _,by simp⟩
 ·rintro j z u1 R hz ⟨h1,h2,h3⟩ rD
  have e7:mn ρ0 ((#[16]:Array Nat).toList.zip (sJ z))= [(3,.pointer (some ⟨w.heap.size,0,none⟩)),(5,.pointer (some ⟨w5.heap.size,0,none⟩)),(6,.pointer (some ⟨w6.heap.size,0,none⟩)),(15,Di),(16,.agg z.1)]:=rfl;rw [e7,bz.a1];have uV:=(lgeS hz).1;unfold bz.A1;intro Rq;obtain⟨tA,kh,kH⟩:=iN (w:=u1) (z:=fG.1) (cs:=z.1) (t:=al) (by rw [z.2.1];rfl);refine⟨⟨z.2.1,z.2.one,fun j hj=>tA j (by rw [z.2.1];exact hj)⟩,?_⟩;intro Mv
  replace kh:Mv.heap[u1.heap.size]? =some (.cells z.1 al (0,0)):=kh
  replace kH:Kept Nil u1 Mv:=kH
  clear_value Mv;have IW:=rD.aK kH (fun h=>h) (fun h=>h);refine⟨IW,fun w2 R2 oZ uG=>?_⟩;have nE:=oZ.heap kh (lN kh IW.loop);have wY:Kept Nil jG w2:=(h1.tt kH).trans oZ (fun k hk e=>by omega);rw [bz.y1];unfold bz.Y1;intro Sk;have ZT:Kept Nil w2 Sk:=(Kept.refl _ _).drew;clear_value Sk;have U6:=uG.aK ZT (fun h=>h) (fun h=>h);have AR:=wY.tt ZT;have O9:=nh.tt AR;have h48:=h.same (zz.tt O9);obtain⟨A1,n1,c1,B1,m1,d1,s1,sa⟩:=h48.seen z (Yf z (List.mem_of_getElem? hz));refine⟨some ⟨c,0,none⟩,by rw [aE (O9.heap hc8 (fun h=>h))];rfl,_,h48.c2,z.1,⟨z.2.1,Cells.bV (ZT.heap nE (fun h=>h))⟩,_,h48.qU (Yf z (List.mem_of_getElem? hz)),_,sa.c35,b.1,⟨b.2.1,Cells.bV (O9.heap NV (fun h=>h))⟩,_,_,sa.sz.Ek b,?_⟩;cases hzb:m.sz z b with
  |some n=>
   refine Split.yes rfl ⟨dP (AR.heap PY (fun h=>h)) (by simp),?_⟩;intro q9;have PW:q9.heap[w6.heap.size]? =some (.cells #[.int .i64 (n:Int)] im (0,0)):=by
    show(Sk.setCell ⟨w6.heap.size,0,none⟩ (.int .i64 (n:Int))).heap[w6.heap.size]? =_;rw [du (AR.heap PY (fun h=>h)) 0];rfl
   have Gc:Kept (· =w6.heap.size) Sk q9:=Kept.setCell (S:=fun k=>k=w6.heap.size) (Kept.refl _ Sk) (p:=⟨w6.heap.size,0,none⟩) (fun _=>rfl) _;clear_value q9;exact⟨U6.aK Gc (fun e=>by omega) (fun e=>by omega),rfl,(AR.mono fun _ _ h=>h.elim).tt Gc,n,uu hz h3 hzb,PW⟩
  |none=>
   refine Split.no rfl ⟨U6,AR,uV,fun y hy=>?_⟩;rcases(bP hz).1 hy with hy|rfl
   ·exact h3 y hy
   ·exact hzb
 ·rintro u1 R ⟨h1,h2,h3⟩ rD
  rw [List.take_of_length_le (Nat.le_refl _)]at h3;have e7:iW ρ0 jG.heap.size= [(3,.pointer (some ⟨w.heap.size,0,none⟩)),(5,.pointer (some ⟨w5.heap.size,0,none⟩)),(6,.pointer (some ⟨w6.heap.size,0,none⟩)),(15,Di),(4294967296,.agg (rr [jG.heap.size]))]:=rfl;rw [e7,bz.lH];unfold bz.jV;have nD:=h1.heap PY (fun h=>h);refine⟨dP nD (by simp),?_⟩;intro q9;have PW:q9.heap[w6.heap.size]? =some (.cells #[.int .i64 0] im (0,0)):=by
   show(u1.setCell ⟨w6.heap.size,0,none⟩ (.int .i64 0)).heap[w6.heap.size]? =_;rw [du nD 0];rfl
  have Gc:Kept (· =w6.heap.size) u1 q9:=Kept.setCell (S:=fun k=>k=w6.heap.size) (Kept.refl _ u1) (p:=⟨w6.heap.size,0,none⟩) (fun _=>rfl) _;clear_value q9;have rD:=rD.aK Gc (fun e=>by omega) (fun e=>by omega);rw [om];have kt:=lf [jG.heap.size] q9;have hm:∀E∈ [jG.heap.size],q9.heap[E]? =some (.deferred (some [])):=fun E hE=>by
   rw [List.mem_singleton]at hE;subst hE;exact rD.mark
  refine⟨mQ [jG.heap.size] q9 (by simp) hm,0,by rw [aE (kt.heap PW (fun hE=>by rw [List.mem_singleton]at hE;omega))];rfl,?_⟩;have e0:nt m.sz l b=0:=by
   unfold nt;have:(l.findSome? fun h=>m.sz h b)=none:=List.findSome?_eq_none_iff.2 h3;rw [this];rfl
  have:=hK (gV [jG.heap.size] q9) ((kS ((h1.mono fun _ _ h=>h.elim).tt Gc)).trans kt (fun k hk hE=>by rw [List.mem_singleton]at hE;have:=Io.size;omega));rw [e0]at this;exact this
 ·rintro u1 R ⟨_,h2,n,h3,h4⟩ rD
  have e7:iW ρ0 jG.heap.size= [(3,.pointer (some ⟨w.heap.size,0,none⟩)),(5,.pointer (some ⟨w5.heap.size,0,none⟩)),(6,.pointer (some ⟨w6.heap.size,0,none⟩)),(15,Di),(4294967296,.agg (rr [jG.heap.size]))]:=rfl;rw [e7,bz.B7];unfold bz.wJ;rw [om];have kt:=lf [jG.heap.size] u1;have hm:∀E∈ [jG.heap.size],u1.heap[E]? =some (.deferred (some [])):=fun E hE=>by
   rw [List.mem_singleton]at hE;subst hE;exact rD.mark
  refine⟨mQ [jG.heap.size] u1 (by simp) hm,(n:Int),by rw [aE (kt.heap h4 (fun hE=>by rw [List.mem_singleton]at hE;omega))];rfl,?_⟩;have e0:nt m.sz l b=n:=by unfold nt;rw [h3];rfl
  have:=hK (gV [jG.heap.size] u1) ((kS h2).trans kt (fun k hk hE=>by rw [List.mem_singleton]at hE;have:=Io.size;omega));rw [e0]at this;exact this
 ·rintro id u1 R ⟨e,_⟩ rD
  cases e
end
section
variable{w:World}
theorem BF{x:HT}:∀ {l:List (HT×Value)},assoc x l≠none↔x∈l.map (·.1)
 | []=>by simp [assoc]
 |(y,v)::l=>by
  have:=BF (x:=x) (l:=l);unfold assoc;by_cases e:x=y
  ·subst e;simp
  ·rw [if_neg e,this]
   simp only [List.map_cons,List.mem_cons];exact⟨.inr,fun h=>h.resolve_left e⟩
theorem gg.len{mt te:TypeId}{z:Value}(T:xC mt te z){m:Nat}{f:HT->Option Value}(hm:gg w m f)(ty:TypeId){l:List HT}(hn:l.Nodup)(hl:∀x,f x≠none↔x∈l):
 (Builtin.len_ #[mt] ty #[.map (some m)]).run prog w=.ok (.int .i64 (l.length:Int)) w:=by
 obtain⟨es,clock,l',h1,h2,h3,_,_,h6⟩:=hm.ex;have e1:es.size=l'.length:=by have:=h2.len;simpa using this
 have e2:l'.length=l.length:=by
  have hp:(l'.map (·.1)).Perm l:=(List.perm_ext_iff_of_nodup h6 hn).2 fun x=>by rw [<-BF,h3,hl]
  simpa using hp.length_eq
 simp [Builtin.len_,run_underlying T.pD,qf h1,goInt,Result.andThen,e1,e2]
end
section
variable{w w':World}{F S:Nat->Prop}{c k:Nat}{G:GS}{m:CM}{K:Value->World->Prop}
structure VB(w:World)(c:Nat)(s:HT)(bs bc bh q sm:Nat)(ov:HT->Option Nat):Prop where
 hs:w.heap[bs]? =some (.cells #[.pointer (some ⟨q,0,none⟩)] fK (0,0))
 hc:w.heap[bc]? =some (.cells #[.pointer (some ⟨c,0,none⟩)] dF (0,0))
 hh:w.heap[bh]? =some (.cells s.1 al (0,0))
 sz:w.cell? ((⟨q,0,none⟩:Addr).add 35)=some (.map (some sm))
 ov:gg w sm (KJ ov)
theorem VB.aK{S:Nat->Prop}{s:HT}{bs bc bh q sm:Nat}{ov:HT->Option Nat}(h:VB w c s bs bc bh q sm ov)(hk:Kept S w w')(h1:¬S bs)(h2:¬S bc)(h3:¬S bh)(h4:¬S q)(h5:¬S sm):VB w' c s bs bc bh q sm ov:=
 ⟨hk.heap h.hs h1,hk.heap h.hc h2,hk.heap h.hh h3,hk.cell h.sz h4,h.ov.aK hk h5⟩
theorem VB.same{s:HT}{bs bc bh q sm:Nat}{ov:HT->Option Nat}(h:VB w c s bs bc bh q sm ov)(hk:Kept Nil w w'):VB w' c s bs bc bh q sm ov:=h.aK hk (fun h=>h) (fun h=>h) (fun h=>h) (fun h=>h) (fun h=>h)
theorem Bn(h:CV w F c k G m)(hD:G.D.length<=5000){s b:HT}(hs:s∈ids G.D){l:List HT}(hc:dG G.D G.P s l){bs bc bh q sm:Nat}{ov:HT->Option Nat}(V:VB w c s bs bc bh q sm ov)
 (hK:∀w',Kept Nil w w'->K (.int .i64 ((sA ov (nt m.sz l) b:Nat):Int)) w'):
 bE prog ct.id #[.agg b.1,.pointer (some ⟨bs,0,none⟩),.pointer (some ⟨bc,0,none⟩),.pointer (some ⟨bh,0,none⟩)] w K:=by
 refine ct.of ?_;unfold ct.W;intro w4 w5;have k4:Kept Nil w w4:=(Kept.refl _ _).alloc _;have ui:w4.heap[w.heap.size]? =some (.cells b.1 al (0,0)):=aM w _;have k5:Kept Nil w4 w5:=(Kept.refl _ _).drew;clear_value w5;have pE:=k5.heap ui (fun h=>h);have nA:=k4.tt k5;have V5:=V.same nA;refine⟨some ⟨q,0,none⟩,by rw [aE V5.hs];rfl,_,V5.sz,b.1,⟨b.2.1,Cells.bV pE⟩,?_⟩;have lk:=V5.ov.Ek sq b;unfold KJ at lk;cases hb:ov b with
 |some n=>
  rw [hb]at lk;refine⟨(n:Int),true,lk,Split.yes rfl ?_⟩;have:=hK w5 nA;unfold sA at this;rw [hb]at this;exact this
 |none=>
  rw [hb]at lk;refine⟨0,false,lk,Split.no rfl ⟨some ⟨c,0,none⟩,by rw [aE V5.hc];rfl,s.1,⟨s.2.1,Cells.bV V5.hh⟩,b.1,⟨b.2.1,Cells.bV pE⟩,?_⟩⟩;refine Dc (h.same nA) hD hs hc fun w7 k7=>⟨_,rfl,?_⟩;have:=hK w7 (nA.tt k7);unfold sA at this;rw [hb]at this;exact this
def zv(w:World)(fm:Nat)(kn:HT->Nat)(done:List HT):Prop:=gg w fm fun y=>if y∈done then some (.int .i64 (kn y:Int))else none
theorem Bl(h:CV w F c k G m)(hD:G.D.length<=5000)(o5:k<=1000){s b:HT}(hs:s∈ids G.D){l:List HT}(hc:dG G.D G.P s l){bs bc bh q sm kb fb fm:Nat}{ov:HT->Option Nat}(V:VB w c s bs bc bh q sm ov)
 (Ny:w.heap[kb]? =some (.cells #[.func (.func ct.id) #[] #[.pointer (some ⟨bs,0,none⟩),.pointer (some ⟨bc,0,none⟩),.pointer (some ⟨bh,0,none⟩)]] fN (0,0)))
 (RU:w.heap[fb]? =some (.cells #[.map (some fm)] cV (0,0))) {done:List HT} (hn:done.Nodup) (Ys:b∉done) (hF:zv w fm (sA ov (nt m.sz l)) done) (hfo:¬m.own c fm) (hff:¬F fm) (fW:bc≠fm)
 (hK:∀w' (r:Bool),r=sj k (sA ov (nt m.sz l)) done b->zv w' fm (sA ov (nt m.sz l)) (done++ [b])->Kept (· =fm) w w'->K (.bool r) w'):
 bE prog cU.id #[.agg b.1,.pointer (some ⟨kb,0,none⟩),.pointer (some ⟨fb,0,none⟩),.pointer (some ⟨bc,0,none⟩)] w K:=by
 have lfm:=hF.lt;refine cU.of ?_;unfold cU.W;intro w4 w5;have k4:Kept Nil w w4:=(Kept.refl _ _).alloc _;have ui:w4.heap[w.heap.size]? =some (.cells b.1 al (0,0)):=aM w _;have k5:Kept Nil w4 w5:=(Kept.refl _ _).drew;clear_value w5;have pE:=k5.heap ui (fun h=>h);have nA:=k4.tt k5;have hnf:fb≠fm:=fun e=>by subst e;obtain⟨es,cl,_,h1,_⟩:=hF.ex;rw [RU]at h1;cases h1
 refine⟨some fm,by rw [aE (nA.heap RU (fun h=>h))];rfl,b.1,⟨b.2.1,Cells.bV pE⟩,_,by rw [aE (nA.heap Ny (fun h=>h))];rfl,b.1,⟨b.2.1,Cells.bV pE⟩,?_⟩;refine⟨_,_,_,_,rfl,ct.at_,rfl,?_⟩;refine Bn (h.same nA) hD hs hc (V.same nA) fun w7 k7=>⟨_,rfl,⟨b.1,rfl,b.2.1,Cells.bV (k7.heap pE (fun h=>h))⟩,?_,?_⟩
 ·rw [aE ((nA.tt k7).heap RU (fun h=>h))];rfl
 have tu:=nA.tt k7;obtain⟨w8,X1,hm8,k8⟩:=(hF.same tu).put sq b (.int .i64 ((sA ov (nt m.sz l) b:Nat):Int));refine⟨w8,X1,?_⟩;intro w9;have k9:Kept Nil w8 w9:=(Kept.refl _ _).drew;clear_value w9;have k89:Kept (· =fm) w7 w9:=k8.trans k9 (fun _ _ h=>h.elim);have BQ:Kept (· =fm) w w9:=(tu.mono fun _ _ h=>h.elim).tt k89;have RY:zv w9 fm (sA ov (nt m.sz l)) (done++ [b]):=by
  refine gg.same ?_ k9;have e:(fun y=>if y∈done++ [b]then some (Value.int .i64 ((sA ov (nt m.sz l) y:Nat):Int))else none)=fun x=>if x=b then some (.int .i64 ((sA ov (nt m.sz l) b:Nat):Int))else if x∈done then some (.int .i64 ((sA ov (nt m.sz l) x:Nat):Int))else none:=by
   funext y
   by_cases e:y=b
   ·subst e;rw [if_pos (by simp),if_pos rfl]
   ·rw [if_neg e]
    by_cases hy:y∈done
    ·rw [if_pos (List.mem_append_left _ hy),if_pos hy]
    ·rw [if_neg (by simp [hy,e]),if_neg hy]
  rw [e];exact hm8
 have hb9:w9.heap[w.heap.size]? =some (.cells b.1 al (0,0)):=((k7.mono fun _ _ h=>h.elim).tt k89:Kept (· =fm) w5 w9).heap pE (by omega);have VA:=BQ.heap RU hnf;have gU:(done++ [b]).Nodup:=List.nodup_append.2 ⟨hn,by simp,fun x hx y hy e=>by
  have:y=b:=by simpa using hy
  subst this;subst e;exact Ys hx⟩
 have h9:CV w9 F c k G m:=h.aK BQ (fun j hj e=>by subst e;exact hfo hj) (fun j hj e=>by subst e;exact hff hj);have hc9:w9.heap[bc]? =some (.cells #[.pointer (some ⟨c,0,none⟩)] dF (0,0)):=BQ.heap V.hc fW;refine⟨some fm,by rw [aE VA];rfl,(done++ [b]).length,RY.len sq im gU (fun x=>by
  by_cases hx:x∈done++ [b]
  ·rw [if_pos hx];exact⟨fun _=>hx,fun _ e=>by cases e⟩
  ·rw [if_neg hx];exact⟨fun e=>absurd rfl e,fun e=>absurd e hx⟩),some ⟨c,0,none⟩,by rw [aE hc9];rfl,(k:Int),h9.c0,?_⟩
 refine Split.dec (fun h1=>?_) (fun h1=>?_)
 ·have lk:=gg.look sq RY b
  rw [if_pos (by simp)]at lk;refine⟨some fm,by rw [aE VA];rfl,b.1,⟨b.2.1,Cells.bV hb9⟩,_,lk,some ⟨c,0,none⟩,by rw [aE hc9];rfl,(k:Int),h9.c0,?_⟩;refine hK w9 _ ?_ RY BQ;unfold sj;rw [List.length_append,List.length_cons,List.length_nil]at h1;refine decide_eq_decide.2 ⟨fun h2=>⟨by omega,by omega⟩,fun h2=>by omega⟩
 ·refine hK w9 false ?_ RY BQ
  unfold sj;rw [List.length_append,List.length_cons,List.length_nil]at h1;exact(decide_eq_false (by omega)).symm
end
structure PN where
 bs:Nat
 bc:Nat
 bh:Nat
 q:Nat
 sm:Nat
 kb:Nat
 fb:Nat
 fm:Nat
 yb:Nat
 hb:Nat
def PN.Di(p:PN):Value:=.func (.func cU.id) #[] #[.pointer (some ⟨p.kb,0,none⟩),.pointer (some ⟨p.fb,0,none⟩),.pointer (some ⟨p.bc,0,none⟩)]
def PN.iV(p:PN)(j:Nat):Prop:=p.bs≠j/\p.bc≠j/\p.bh≠j/\p.q≠j/\p.sm≠j/\p.kb≠j/\p.fb≠j
structure PG(w:World)(F:Nat->Prop)(c k:Nat)(G:GS)(m:CM)(s h:HT)(p:PN)(ov:HT->Option Nat):Prop where
 C:CV w F c k G m
 V:VB w c s p.bs p.bc p.bh p.q p.sm ov
 kb:w.heap[p.kb]? =some (.cells #[.func (.func ct.id) #[] #[.pointer (some ⟨p.bs,0,none⟩),.pointer (some ⟨p.bc,0,none⟩),.pointer (some ⟨p.bh,0,none⟩)]] fN (0,0))
 fb:w.heap[p.fb]? =some (.cells #[.map (some p.fm)] cV (0,0))
 yb:w.cell? ⟨p.yb,0,none⟩=some p.Di
 hb:w.heap[p.hb]? =some (.cells h.1 al (0,0))
 fo:¬m.own c p.fm
 ff:¬F p.fm
 iV:p.iV p.fm
 y:p.yb≠p.fm
 h:p.hb≠p.fm
section
variable{w w' u:World}{F:Nat->Prop}{c k:Nat}{G:GS}{m:CM}{s h:HT}{p:PN}{ov:HT->Option Nat}{K:Value->World->Prop}
theorem PG.aK(B:PG w F c k G m s h p ov)(hk:Kept (· =p.fm) w w'):PG w' F c k G m s h p ov:=by
 obtain⟨f1,f2,f3,f4,f5,f6,f7⟩:=B.iV;exact⟨B.C.aK hk (fun j hj e=>by subst e;exact B.fo hj) (fun j hj e=>by subst e;exact B.ff hj),B.V.aK hk f1 f2 f3 f4 f5,hk.heap B.kb f6,hk.heap B.fb f7,hk.cell B.yb B.y,hk.heap B.hb B.h,B.fo,B.ff,B.iV,B.y,B.h⟩
theorem PG.same(B:PG w F c k G m s h p ov)(hk:Kept Nil w w'):PG w' F c k G m s h p ov:=B.aK (hk.mono fun _ _ h=>h.elim)
theorem ti(B:PG w F c k G m s h p ov)(hD:G.D.length<=5000)(o5:k<=1000)(hs:s∈ids G.D){l:List HT}(hc:dG G.D G.P s l){done:List HT}(hF:zv w p.fm (sA ov (nt m.sz l)) done){b:HT}{zb:Nat}
 (hz:w.heap[zb]? =some (.cells b.1 al (0,0))) (hzf:zb≠p.fm) (hn:oB G.D b h->(done++ [b]).Nodup) {A T:World->Prop}
 (hA:∀u,oB G.D b h->sj k (sA ov (nt m.sz l)) done b=false->Kept (· =p.fm) w u->A u)
 (hT:∀u yq,yq=done++(if oB G.D b h then [b]else [])->(oB G.D b h->sj k (sA ov (nt m.sz l)) done b=true)->zv u p.fm (sA ov (nt m.sz l)) yq->Kept (· =p.fm) w u->T u):
 bE prog dC.id #[.pointer (some ⟨c,0,none⟩),.agg b.1,.agg h.1] w fun x y=>∃z:Bool,x=.bool z/\Split z (∃a1:Value,y.cell? ⟨p.yb,0,none⟩=some a1/\∃b1:Array Value,(b1.size=32/\Cells y ⟨zb,0,none⟩ b1)/\
  ∃(c1:Nat) (d1 e1:Array Value) (f1:Func),(a1:Value)=.func (.func c1) d1 e1/\prog.funcs[c1]? =some f1/\f1.body.isSome=true/\
   bE prog c1 (d1.toList++([.agg b1]:List Value)++e1.toList).toArray y fun g1 i1=>∃j1:Bool,g1=.bool j1/\Split (!j1) (A i1) (T i1)) (T y):=by
 refine Bp B.C hD b h fun y r hr ky=>⟨r,rfl,?_⟩;have kyf:Kept (· =p.fm) w y:=ky.mono fun _ _ h=>h.elim;have By:=B.same ky;cases r with
 |false=>
  have Lx:¬oB G.D b h:=fun e=>by have:=hr.2 e;cases this
  exact Split.no rfl (hT y done (by rw [if_neg Lx,List.append_nil]) (fun e=>absurd e Lx) (hF.same ky) kyf)
 |true=>
  have ha:=hr.1 rfl;have gU:=hn ha;rw [List.nodup_append]at gU;refine Split.yes rfl ⟨_,By.yb,b.1,⟨b.2.1,Cells.bV (ky.heap hz (fun h=>h))⟩,_,_,_,_,rfl,cU.at_,rfl,?_⟩;refine Bl By.C hD o5 hs hc By.V By.kb By.fb gU.1 (fun e=>gU.2.2 b e b (by simp) rfl) (hF.same ky) B.fo B.ff B.iV.2.1 fun v r hr hv kv=>⟨r,rfl,?_⟩;have O2:Kept (· =p.fm) w v:=kyf.tt kv;cases r with
  |false=>exact Split.yes rfl (hA v ha hr.symm O2)
  |true=>exact Split.no rfl (hT v (done++ [b]) (by rw [if_pos ha]) (fun _=>hr.symm) hv O2)
end
structure PG0(w:World)(F:Nat->Prop)(c k:Nat)(G:GS)(m:CM)(s:HT)(p:PN)(ov:HT->Option Nat):Prop where
 C:CV w F c k G m
 V:VB w c s p.bs p.bc p.bh p.q p.sm ov
 kb:w.heap[p.kb]? =some (.cells #[.func (.func ct.id) #[] #[.pointer (some ⟨p.bs,0,none⟩),.pointer (some ⟨p.bc,0,none⟩),.pointer (some ⟨p.bh,0,none⟩)]] fN (0,0))
 fb:w.heap[p.fb]? =some (.cells #[.map (some p.fm)] cV (0,0))
 fo:¬m.own c p.fm
 ff:¬F p.fm
 iV:p.iV p.fm
theorem dK:∀ {l m:List HT},l.Nodup->(∀x∈l,x∈m)->l.length<=m.length
 | [],_,_,_=>Nat.zero_le _
 |x::l,m,hn,hm=>by
  rw [List.nodup_cons]at hn;have hx:=hm x List.mem_cons_self;have:=dK (m:=m.erase x) hn.2 fun y hy=>(List.mem_erase_of_ne (fun e=>hn.1 (by rw [<-e];exact hy))).2 (hm y (List.mem_cons_of_mem _ hy));rw [List.length_erase_of_mem hx]at this;have h0:=List.length_pos_of_mem hx;rw [List.length_cons];omega
theorem HS.get_mem{w:World}{A:Option Addr}{n:Nat}{l:List HT}(hl:HS w A n l){i:Nat}(hi:i<n):∃y,l[i]? =some y:=⟨_,List.getElem?_eq_getElem (by have:=hl.len;omega)⟩
theorem Ao{D:DG}{l:List HT}{h x:HT}{i:Nat}(hx:l[i]? =some x):cg D (l.take (i+1)) h=cg D (l.take i) h++if oB D x h then [x]else []:=by
 have e:l.take (i+1)=l.take i++ [x]:=by rw [List.take_add_one,hx];rfl
 rw [e,gw]
 congr 1
 unfold cg;by_cases hp:oB D x h
 ·rw [if_pos hp,List.filter_cons_of_pos (by simpa using hp)];rfl
 ·rw [if_neg hp,List.filter_cons_of_neg (by simpa using hp)];rfl
theorem Dz{m:List HT}{b:List Bool}{x:HT}{y:Bool}{i:Nat}(hx:m[i]? =some x)(hy:b[i]? =some y):eI (m.drop i) (b.drop i)=(if y then [x]else [])++eI (m.drop (i+1)) (b.drop (i+1)):=by
 obtain⟨hi,ex⟩:=lgeS hx;obtain⟨hj,ey⟩:=lgeS hy;rw [List.drop_eq_getElem_cons hi,List.drop_eq_getElem_cons hj,ex,ey];cases y<;>rfl
theorem fE(c:pz)(A:Option Addr)(n cp:Nat)(B:Option Addr)(m cq:Nat):∀v∈(dp c A n cp B m cq).toList,v.oneCell'=true:=by
 intro v hv;unfold dp at hv;rw [Array.toList_append,List.mem_append]at hv;rcases hv with hv|hv
 ·exact c.ns.2.one v hv
 ·simp only [List.mem_cons,List.not_mem_nil,or_false]at hv
  rcases hv with rfl|rfl|rfl<;>rfl
section
variable{w w':World}{F:Nat->Prop}{c k:Nat}{G:GS}{m:CM}{s:HT}{p:PN}{ov:HT->Option Nat}{K:Value->World->Prop}
theorem DE{kn:HT->Nat}{done rest ly:List HT}{b:HT}(e:done++b::rest=ly)(h:sj k kn done b=false):fJ k kn [] ly=false:=by
 rw [<-e,mU,List.nil_append,fJ,h,Bool.false_and,Bool.and_false]
theorem zr{kn:HT->Nat}{done:List HT}{b:HT}(h:fJ k kn [] done=true)(hb:sj k kn done b=true):fJ k kn [] (done++ [b])=true:=by
 rw [mU,h,List.nil_append,fJ,hb,Bool.true_and,Bool.true_and];rfl
theorem Bm(B:PG0 w F c k G m s p ov)(hD:G.D.length<=5000)(o5:k<=1000)(hs:s∈ids G.D){l:List HT}(hc:dG G.D G.P s l){h:HT}{bb:Nat}{A:Option Addr}{n cx:Nat}{bl:List HT}
 (xm:w.heap[bb]? =some (.cells #[.slice A n cx] aF (0,0))) (Yt:bb≠p.fm) (C6:HS w A n bl) (hAf:∀a,A=some a->a.block≠p.fm) (hn:n<=10000) (hF:zv w p.fm (sA ov (nt m.sz l)) []) (yl:(o8 G h bl l).Nodup)
 (hK:∀w' (r:Bool),r=fJ k (sA ov (nt m.sz l)) [] (o8 G h bl l)->(r=true->zv w' p.fm (sA ov (nt m.sz l)) (o8 G h bl l))->Kept (· =p.fm) w w'->K (.bool r) w'):
 bE prog ag.id #[.agg h.1,p.Di,.pointer (some ⟨bb,0,none⟩),.pointer (some ⟨p.bc,0,none⟩),.pointer (some ⟨p.bh,0,none⟩)] w K:=by
 have W:=B.C.iA.W;have H:=B.C.iA.ns;have Yf:∀y∈l,y∈ids G.D:=fun y hy=>((hc.mem W H).1 hy).mem.1;have hlen:=C6.len;have lfm:=hF.lt;refine ag.of ?_;unfold ag.W;intro w4 w5 w6;have k4:Kept Nil w w4:=(Kept.refl _ _).alloc _;have Vj:w4.heap[w.heap.size]? =some (.cells h.1 al (0,0)):=aM w _;have k5:Kept Nil w4 w5:=(Kept.refl _ _).alloc _;obtain⟨ty,hy5⟩:∃ty:TypeId,w5.heap[w4.heap.size]? =some (.cells #[p.Di] ty (0,0)):=⟨_,aM w4 _⟩;have k6:Kept Nil w5 w6:=(Kept.refl _ _).alloc _;have X3:w6.heap[w5.heap.size]? =some (.cells #[.bool false] ju (0,0)):=aM w5 _;clear_value w6;have hy6:=k6.heap hy5 (fun h=>h);have hh6:=k6.heap (k5.heap Vj (fun h=>h)) (fun h=>h);have nn:=(k4.tt k5).tt k6;have s4:=k4.size;have s5:=k5.size;have s6:=k6.size;have l4:=bf Vj;have l5:=bf hy5;have l6:=bf X3;clear_value w5 w4;obtain⟨p',Lu,uI,Gu,ach,acf⟩:∃p':PN,p'= {p with yb:=w4.heap.size,hb:=w.heap.size}/\p'.Di=p.Di/\p'.fm=p.fm/\p'.bc=p.bc/\p'.bh=p.bh:=⟨_,rfl,rfl,rfl,rfl,rfl⟩;have eyb:p'.yb=w4.heap.size:=by rw [Lu]
 have YK:p'.hb=w.heap.size:=by rw [Lu]
 have B6:PG w6 F c k G m s h p' ov:=by
  rw [Lu];exact⟨B.C.same nn,B.V.same nn,nn.heap B.kb (fun h=>h),nn.heap B.fb (fun h=>h),by show w6.cell? ⟨w4.heap.size,0,none⟩=_;rw [aE hy6];rfl,hh6,B.fo,B.ff,B.iV,(by show w4.heap.size≠p.fm;omega),(by show w.heap.size≠p.fm;omega)⟩
 generalize xi:sA ov (nt m.sz l)=kn at*;have hF6:zv w6 p'.fm kn []:=by rw [Gu];exact hF.same nn
 generalize kI:o8 G h bl l=ly at*;have rG:cg G.D bl h++zG G h l=ly:=kI;rw [<-Gu]at Yt hAf lfm;have hK':∀w' (r:Bool),r=fJ k kn [] ly->(r=true->zv w' p'.fm kn ly)->Kept (· =p'.fm) w w'->K (.bool r) w':=by rw [Gu];exact hK
 have kA:∀ {v:World},Kept (· =p'.fm) w6 v->Kept (· =p'.fm) w v:=fun k=>(nn.mono fun _ _ h=>h.elim).tt k;have fin:∀ {v:World} (r:Bool),Kept (· =p'.fm) w6 v->∃u:World,u=v.setCell ⟨w5.heap.size,0,none⟩ (.bool r)/\Wr v ⟨w5.heap.size,0,none⟩/\u.heap[w5.heap.size]? =some (.cells #[.bool r] ju (0,0))/\Kept (· =w5.heap.size) v u:=fun {v} r kv=>by
  have hr:=kv.heap X3 (by omega);refine⟨_,rfl,dP hr (by simp),?_,Kept.setCell (S:=fun k=>k=w5.heap.size) (Kept.refl _ v) (p:=⟨w5.heap.size,0,none⟩) (fun _=>rfl) _⟩;rw [du hr 0];rfl
 have ZM:∀ {v u:World},Kept (· =p'.fm) w6 v->Kept (· =w5.heap.size) v u->Kept (· =p'.fm) w u:=fun kv ku=>⟨ku.os.trans (kA kv).os,ku.tape.trans (kA kv).tape,ku.output.trans (kA kv).output,Nat.le_trans (kA kv).size ku.size,fun j hj hn=>by rw [ku.block j (Nat.lt_of_lt_of_le hj (kA kv).size) (by omega),(kA kv).block j hj hn]⟩;refine⟨A,n,cx,by rw [aE (nn.heap xm (fun h=>h))];rfl,?_⟩;rw [<-ach,<-acf];refine ag.cJ (I:=fun s0 v=>∃i:Nat,s0=(i:Int)/\i<=n/\zv v p'.fm kn (cg G.D (bl.take i) h)/\fJ k kn [] (cg G.D (bl.take i) h)=true/\Kept (· =p'.fm) w6 v) (μ:=fun s0 _=>((n:Int)-s0).toNat) (s:=0) ⟨0,rfl,Nat.zero_le _,hF6,rfl,Kept.refl _ _⟩ ?_;rintro s0 v ⟨i,rfl,hi,hFv,cY,kv⟩;have Bv:=B6.aK kv;refine Split.dec (fun jY=>?_) (fun gF=>?_)
 ·have dW:i<n:=by omega
  obtain⟨b,hb⟩:=C6.get_mem dW;have acd:HS v A n bl:=C6.aK (kA kv) hAf;refine acd.load (i:=(i:Int)) (by omega) hb ?_;intro pC;obtain⟨tA,kh,kH⟩:=iN (w:=v) (z:=fG.1) (cs:=b.1) (t:=al) (by rw [b.2.1];rfl);refine⟨⟨b.2.1,b.2.one,fun j hj=>tA j (by rw [b.2.1];exact hj)⟩,?_⟩;intro nf
  replace kh:nf.heap[v.heap.size]? =some (.cells b.1 al (0,0)):=kh
  replace kH:Kept Nil v nf:=kH
  clear_value nf;have sv:=(kA kv).size;have Rl:=Bv.same kH;have e1:=Ao (D:=G.D) (h:=h) hb;have e2:∃rest,cg G.D (bl.take i) h++(if oB G.D b h then [b]else [])++rest=ly:=by
   refine⟨cg G.D (bl.drop (i+1)) h++zG G h l,?_⟩;rw [<-e1,<-rG,<-List.append_assoc,<-gw,List.take_append_drop]
  obtain⟨rest,e2⟩:=e2;refine⟨some ⟨c,0,none⟩,by rw [aE Rl.V.hc];rfl,b.1,⟨b.2.1,Cells.bV kh⟩,h.1,⟨h.2.1,by have:=Rl.hb;rw [YK]at this;exact Cells.bV this⟩,?_⟩;rw [<-eyb];refine ti Rl hD o5 hs hc (done:=cg G.D (bl.take i) h) (by rw [xi];exact hFv.same kH) kh (by omega) (fun ha=>by
   rw [if_pos ha]at e2;rw [<-e2]at yl;exact(List.nodup_append.1 yl).1) ?_ ?_
  ·intro u ha hp ku
   rw [xi]at hp;have Rv:Kept (· =p'.fm) w6 u:=(kv.trans kH (fun _ _ h=>h.elim)).tt ku;obtain⟨u',eu,hw,Ub,kuu⟩:=fin false Rv;refine⟨hw,?_⟩;intro Rr;have e30:Rr=u':=eu.symm;rw [iQ,ag.B8,e30];rw [if_pos ha,List.append_assoc]at e2;exact⟨false,by rw [aE Ub];rfl,hK' u' false (DE e2 hp).symm (fun e=>by cases e) (ZM Rv kuu)⟩
  ·intro u yq ed hp NY ku
   rw [xi]at hp NY;have Rv:Kept (· =p'.fm) w6 u:=(kv.trans kH (fun _ _ h=>h.elim)).tt ku;rw [dE (n:=(i:Int)) (by omega) (by omega)];refine⟨(i:Int)+1,rfl,⟨i+1,rfl,dW,?_,?_,Rv⟩,by simp only;omega⟩
   ·rw [e1,<-ed];exact NY
   ·rw [e1]
    by_cases ha:oB G.D b h
    ·rw [if_pos ha];exact zr cY (hp ha)
    ·rw [if_neg ha,List.append_nil];exact cY
 ·rw [aU,ag.dw]
  rw [List.take_of_length_le (by omega)]at cY hFv;unfold ag.df;intro qu;have zx:Kept Nil v qu:=(Kept.refl _ _).drew;clear_value qu;have B33:=Bv.same zx;refine⟨some ⟨c,0,none⟩,by rw [aE B33.V.hc];rfl,_,B33.C.c1,s.1,⟨s.2.1,Cells.bV B33.V.hh⟩,?_⟩;refine tW s fun jG pb qb nh Ls Lq vS hqb=>⟨_,rfl,?_⟩;have O5:Kept Nil v jG:=zx.tt nh;have K2:Kept (· =p'.fm) w6 jG:=kv.trans O5 (fun _ _ h=>h.elim);have B35:=Bv.same O5;have agO:=K2.size;have acV:zv jG p'.fm kn (cg G.D bl h):=hFv.same O5
  let Di:Value:=.func (.func bt.id) #[] #[.pointer (some ⟨pb,0,none⟩),.pointer (some ⟨qb,0,none⟩)]
  let ρ0:Env:= [(3,.pointer (some ⟨p'.bc,0,none⟩)),(5,.pointer (some ⟨w.heap.size,0,none⟩)),(6,.pointer (some ⟨w4.heap.size,0,none⟩)),(7,.pointer (some ⟨w5.heap.size,0,none⟩)),(36,Di)]
  let J:Nat->World->Prop:=fun j u=>∃done:List HT,done++zG G h (l.drop j)=ly/\zv u p'.fm kn done/\fJ k kn [] done=true/\Kept (· =p'.fm) jG u/\j<=l.length
  let Jd:Code->World->Prop:=fun e u=>e=.ret/\∃r:Bool,u.heap[w5.heap.size]? =some (.cells #[.bool r] ju (0,0))/\r=fJ k kn [] ly/\(r=true->zv u p'.fm kn ly)/\Kept (fun j=>j=p'.fm\/j=w5.heap.size) jG u
  have lpb:=bf Ls;have lqb:=bf Lq;have agL:=zx.size;have svw:=(kA kv).size;obtain⟨mx,X35,RI⟩:=B35.C.X;have XJ:∀ {u:World},Kept (· =p'.fm) jG u->XV u m.FX m.x G.D G.P mx:=fun k=>X35.aK k (fun j hj e=>by subst e;rw [Gu]at hj;exact B.fo (.inl (RI _ hj))) (fun j hj e=>by subst e;rw [Gu]at hj;exact B.ff (B.C.fx _ hj))
  change Holds none [] prog _ _ _ ρ0 jG
  have out:∀ {u:World} {R:Loop} (r:Bool),Kept (· =p'.fm) jG u->Live (jG.heap.size+1) jG.heap.size R u->r=fJ k kn [] ly->(r=true->zv u p'.fm kn ly)->Wr u ⟨w5.heap.size,0,none⟩/\∀u',u'=u.setCell ⟨w5.heap.size,0,none⟩ (.bool r)->Live (jG.heap.size+1) jG.heap.size R u'/\Jd .ret u':=fun {u R} r ku hl hr hf=>by
   obtain⟨u0,e0,t1,t2,t3⟩:=fin r (K2.tt ku);refine⟨t1,fun u' eu=>?_⟩;rw [eu,<-e0];refine⟨hl.aK t3 (by omega) (by omega),rfl,r,t2,hr,fun e=>(hf e).aK t3 (by omega),(ku.mono fun _ _ h=>.inl h).trans t3 (fun _ _ h=>.inr h)⟩
  refine oL (n:=90) (ρ:=ρ0) (ρ0:=ρ0) ng mix ag.k (t:=36) (ps:= #[37]) (by kernel_rfl) (by decide) rfl bt.at_ rfl (.inl rfl) (fun i x hi hx=>hx) rfl sJ l (fun _=>rfl) (fun q hq=>by
   have e49:q=37:=by simpa using hq
   subst e49;exact⟨by decide,by decide⟩) (DX (F:=m.FX) (x:=m.x) (m:=mx) (pb:=pb) (qb:=qb) hc (by omega)) J Jd ?_ ?_ (fun j u ⟨done,_,_,_,kJ,_⟩=>⟨XJ kJ,kJ.heap Ls (by omega),kJ.heap Lq (by omega)⟩) ?_ ?_ ?_ ?_ ?_
  ·rintro j u1 u2 R rD ⟨done,h1,h2,h3,h4,h5⟩ o6
   exact⟨done,h1,h2.aK o6 (by omega),h3,h4.trans o6 (fun k hk e=>by omega),h5⟩
  ·rintro e u1 u2 R rD ⟨h1,r,h2,h3,h4,h5⟩ o6
   exact⟨h1,r,o6.heap h2 (by omega),h3,fun e=>(h4 e).aK o6 (by omega),h5.trans o6 (fun k hk e=>by omega)⟩
  ·intro R
   have ka:Kept Nil jG ((jG.alloc (.deferred (some []))).alloc (.loop R)):=(((Kept.refl _ _).alloc _).alloc _);exact⟨cg G.D bl h,rG,acV.same ka,cY,ka.mono fun _ _ h=>h.elim,Nat.zero_le _⟩
  ·rintro j z u1 R hz ⟨done,h1,h2,h3,h4,h5⟩ rD
   have e7:mn ρ0 ((#[37]:Array Nat).toList.zip (sJ z))= [(3,.pointer (some ⟨p'.bc,0,none⟩)),(5,.pointer (some ⟨w.heap.size,0,none⟩)),(6,.pointer (some ⟨w4.heap.size,0,none⟩)),(7,.pointer (some ⟨w5.heap.size,0,none⟩)),(36,Di),(37,.agg z.1)]:=rfl;rw [e7,ag.a1];have uV:=(lgeS hz).1;have Pz:=Yf z (List.mem_of_getElem? hz);have W2:l.drop j=z::l.drop (j+1):=by
    obtain⟨hi,e⟩:=lgeS hz;rw [List.drop_eq_getElem_cons hi,e]
   rw [W2,zG]at h1;unfold ag.A1;intro Rq;obtain⟨tA,kh,kH⟩:=iN (w:=u1) (z:=fG.1) (cs:=z.1) (t:=al) (by rw [z.2.1];rfl);refine⟨⟨z.2.1,z.2.one,fun j hj=>tA j (by rw [z.2.1];exact hj)⟩,?_⟩;intro Mv
   replace kh:Mv.heap[u1.heap.size]? =some (.cells z.1 al (0,0)):=kh
   replace kH:Kept Nil u1 Mv:=kH
   clear_value Mv;have IW:=rD.aK kH (fun h=>h) (fun h=>h);refine⟨IW,fun w2 R2 oZ uG=>?_⟩;have nE:=oZ.heap kh (lN kh IW.loop);have agQ:=h4.size;have wY:Kept (· =p'.fm) jG w2:=(h4.trans kH (fun _ _ h=>h.elim)).trans oZ (fun k hk e=>by omega);have QT:zv w2 p'.fm kn done:=(h2.same kH).aK oZ (by omega);have B2:=B35.aK wY;rw [ag.y1];unfold ag.Y1;have e2:∃rest,done++(if oB G.D z h then [z]else [])++rest=ly:=⟨_,(List.append_assoc _ _ _).trans h1⟩;obtain⟨rest,e2⟩:=e2;refine⟨some ⟨c,0,none⟩,by rw [aE B2.V.hc];rfl,z.1,⟨z.2.1,Cells.bV nE⟩,h.1,⟨h.2.1,by have:=B2.hb;rw [YK]at this;exact Cells.bV this⟩,?_⟩;rw [<-eyb];refine ti B2 hD o5 hs hc (done:=done) (by rw [xi];exact QT) nE (by omega) (fun ha=>by
    rw [if_pos ha]at e2;rw [<-e2]at yl;exact(List.nodup_append.1 yl).1) ?_ ?_
   ·intro u ha hp ku
    rw [xi]at hp;rw [if_pos ha,List.append_assoc]at e2;obtain⟨o1,o2⟩:=out (u:=u) false (wY.tt ku) (uG.aK ku (by omega) (by omega)) (DE e2 hp).symm (fun e=>by cases e);refine⟨o1,?_⟩;intro Y9;exact o2 Y9 rfl
   ·intro u yq ed hp NY ku
    rw [xi]at hp NY;have ZU:=wY.tt ku;have hlu:=uG.aK ku (by omega) (by omega);have NW:fJ k kn [] yq=true:=by
     rw [ed];by_cases ha:oB G.D z h
     ·rw [if_pos ha];exact zr h3 (hp ha)
     ·rw [if_neg ha,List.append_nil];exact h3
    rw [<-List.append_assoc,<-ed]at h1;intro Y8;have k61:Kept Nil u Y8:=(Kept.refl _ _).drew;clear_value Y8;have Pc:Kept (· =p'.fm) w2 Y8:=ku.trans k61 (fun _ _ h=>h.elim);have YY:=B2.aK Pc;have Z2:=Pc.heap nE (by omega);obtain⟨mx1,X61,_⟩:=YY.C.X;refine⟨some ⟨c,0,none⟩,by rw [aE YY.V.hc];rfl,_,YY.C.c1,z.1,⟨z.2.1,Cells.bV Z2⟩,h.1,⟨h.2.1,by have:=YY.hb;rw [YK]at this;exact Cells.bV this⟩,?_⟩;refine lr X61 hD z h fun G4 r hr Ga=>⟨r,rfl,?_⟩;have KY:Kept Nil u G4:=k61.tt Ga;have U0:=hlu.aK KY (fun h=>h) (fun h=>h);have TA:=ZU.trans KY (fun _ _ h=>h.elim);have acT:=NY.same KY;cases r with
    |true=>
     have C8:=hr.1 rfl;rw [if_pos C8,List.append_nil]at h1;obtain⟨o1,o2⟩:=out (u:=G4) true TA U0 (by rw [<-h1,NW]) (fun _=>by rw [<-h1];exact acT);refine Split.yes rfl ⟨o1,?_⟩;intro Ov;exact o2 Ov rfl
    |false=>
     have UL:¬fH G.D z h:=fun e=>by have:=hr.2 e;cases this
     rw [if_neg UL]at h1;refine Split.no rfl ?_;intro Hl;have MP:Kept Nil G4 Hl:=(Kept.refl _ _).drew;clear_value Hl;have K9:Kept (· =p'.fm) w2 Hl:=Pc.trans (Ga.tt MP) (fun _ _ h=>h.elim);have Xq:=B2.aK K9;have TQ:=K9.heap nE (by omega);obtain⟨A1,n1,c1,B1,m1,d1,s1,sa⟩:=Xq.C.seen z Pz;refine⟨some ⟨c,0,none⟩,by rw [aE Xq.V.hc];rfl,_,Xq.C.c2,z.1,⟨z.2.1,Cells.bV TQ⟩,_,Xq.C.qU Pz,_,⟨bI ..,sa.jZ⟩,?_⟩;intro w73;have ZO:Kept Nil Hl w73:=(Kept.refl _ _).alloc _;obtain⟨PD,Bi,y7⟩:=iN (w:=Hl) (z:=zC) (cs:=dp (G.jZ z) A1 n1 c1 B1 m1 d1) (t:=bK) (by rw [bI];rfl);have B73:=Xq.same ZO;refine⟨⟨_,rfl,bI ..,(sa.aK ZO (fun _ _ h=>h)).jZ⟩,B73.C.qU Pz,⟨z.1,rfl,z.2.1,Cells.bV (ZO.heap TQ (fun h=>h))⟩,B73.C.c2,by rw [aE B73.V.hc];rfl,⟨bI ..,fE _ _ _ _ _ _ _,fun j hj=>PD j (by rw [bI];exact hj)⟩,?_⟩;intro Rn
     replace Bi:Rn.heap[Hl.heap.size]? =some (.cells (dp (G.jZ z) A1 n1 c1 B1 m1 d1) bK (0,0)):=Bi
     replace y7:Kept Nil Hl Rn:=y7
     clear_value Rn w73;have Tm:Kept Nil u Rn:=KY.tt (MP.tt y7);have TD:Kept (· =p'.fm) w2 Rn:=K9.trans y7 (fun _ _ h=>h.elim);have agT:=TD.size;have agU:=K9.size;have s2:=wY.size;have ajr:=hlu.aK Tm (fun h=>h) (fun h=>h);have Zj:=sa.aK y7 (fun _ _ h=>h);have afl:=sa.mg.len;have VZ:=sa.bl.len;have hff:∀j,F j->j≠p'.fm:=fun j hj e=>by rw [Gu]at e;subst e;exact B.ff hj
     have hcg:=gR (G.jZ z) A1 n1 c1 B1 m1 d1 #[];rw [Array.append_empty]at hcg;refine⟨A1,n1,c1,by rw [bD,aE Bi];exact hcg.2.1,?_⟩;have afq:(G.jZ z).gm.length=(G.jZ z).merge.length:=by
      rcases(dG.ex H z)with⟨lz,cz⟩;rcases cz.inv W H Pz with⟨_,nd,h0,rfl⟩|⟨t,r',_,nu,_,_⟩
      ·obtain⟨r1,_⟩:=B.C.iA.root nd h0
       rw [r1];rfl
      ·exact(B.C.iA.up t z nu).2.2.1
     have Gr:(G.jZ z).merge.length<=G.D.length:=by
      have gU:(G.jZ z).merge.Nodup/\∀y∈(G.jZ z).merge,y∈ids G.D:=by
       rcases(dG.ex H z)with⟨lz,cz⟩;rcases cz.inv W H Pz with⟨_,nd,h0,rfl⟩|⟨t,r',_,nu,_,_⟩
       ·obtain⟨r1,_⟩:=B.C.iA.root nd h0
        rw [r1];exact⟨List.nodup_nil,fun y hy=>by cases hy⟩
       ·obtain⟨_,_,_,g1,g2⟩:=B.C.iA.up t z nu
        exact⟨g1,fun y hy=>(((g2 y).1 hy).1.mem W).1⟩
      have:=dK gU.1 gU.2
      rwa [iK]at this
     refine ag.iz (I:=fun s0 v=>∃i:Nat,s0=(i:Int)/\i<=n1/\∃dn:List HT,dn++(cg G.D (eI ((G.jZ z).merge.drop i) ((G.jZ z).gm.drop i)) h++zG G h (l.drop (j+1)))=ly/\zv v p'.fm kn dn/\fJ k kn [] dn=true/\Kept (· =p'.fm) Rn v) (μ:=fun s0 _=>((n1:Int)-s0).toNat) (s:=0) ⟨0,rfl,Nat.zero_le _,yq,by rw [List.drop_zero,List.drop_zero];exact h1,NY.same Tm,NW,Kept.refl _ _⟩ ?_;rintro s0 v2 ⟨i2,rfl,BW,dn,g1,g2,g3,g4⟩;have H9:Kept (· =p'.fm) w2 v2:=TD.tt g4;have Bv2:=B2.aK H9;have Zi:=Zj.aK g4 (fun j hj e=>hff j hj e);have Tz:=wY.tt H9;have UZ:=uG.aK H9 (by omega) (by omega);have sv2:=H9.size;refine Split.dec (fun jY=>?_) (fun gF=>?_)
     ·have dW:i2<n1:=by omega
      obtain⟨b,hb⟩:=Zi.mg.get_mem dW;obtain⟨bb2,Wa⟩:∃y,(G.jZ z).gm[i2]? =some y:=⟨_,List.getElem?_eq_getElem (by omega)⟩;refine Zi.mg.load (i:=(i2:Int)) (by omega) hb ?_;intro pC;obtain⟨aae,Gx,xh⟩:=iN (w:=v2) (z:=fG.1) (cs:=b.1) (t:=al) (by rw [b.2.1];rfl);refine⟨⟨b.2.1,b.2.one,fun j hj=>aae j (by rw [b.2.1];exact hj)⟩,?_⟩;intro nf
      replace Gx:nf.heap[v2.heap.size]? =some (.cells b.1 al (0,0)):=Gx
      replace xh:Kept Nil v2 nf:=xh
      clear_value nf;have Rl:=Bv2.same xh;have VW:=xh.heap (g4.heap Bi (by omega)) (fun h=>h);have Zk:=Zi.aK xh (fun _ _ h=>h);obtain⟨aB,Jg,_,QI⟩:=Zk.bl.at_ i2 bb2 Wa;subst Jg;refine⟨some aB,m1,d1,by rw [bD,aE VW];exact hcg.2.2.1,⟨by omega,by omega⟩,bb2,by rw [Int.toNat_natCast,Nat.mul_one];exact QI,?_⟩;rw [Dz hb Wa]at g1;cases bb2 with
      |false=>
       refine Split.no rfl ?_;rw [dE (n:=(i2:Int)) (by omega) (by omega)];exact⟨(i2:Int)+1,rfl,⟨i2+1,rfl,dW,dn,g1,g2.same xh,g3,g4.trans xh (fun _ _ h=>h.elim)⟩,by simp only;omega⟩
      |true=>
       rw [if_pos rfl,gw,List.append_assoc]at g1;have adi:cg G.D [b] h=if oB G.D b h then [b]else []:=by
        unfold cg;by_cases hp:oB G.D b h
        ·rw [if_pos hp,List.filter_cons_of_pos (by simpa using hp)];rfl
        ·rw [if_neg hp,List.filter_cons_of_neg (by simpa using hp)];rfl
       rw [adi,<-List.append_assoc]at g1;refine Split.yes rfl ⟨some ⟨c,0,none⟩,by rw [aE Rl.V.hc];rfl,b.1,⟨b.2.1,Cells.bV Gx⟩,h.1,⟨h.2.1,by have:=Rl.hb;rw [YK]at this;exact Cells.bV this⟩,?_⟩;refine ti Rl hD o5 hs hc (done:=dn) (by rw [xi];exact g2.same xh) Gx (by omega) (fun ha=>by
        rw [if_pos ha]at g1;rw [<-g1]at yl;exact(List.nodup_append.1 yl).1) ?_ ?_
       ·intro u2 ha hp JU
        rw [xi]at hp;rw [if_pos ha,List.append_assoc]at g1;have kk:Kept (· =p'.fm) v2 u2:=(xh.mono fun _ _ h=>h.elim).tt JU;obtain⟨o1,o2⟩:=out (u:=u2) false (Tz.tt kk) (UZ.aK kk (by omega) (by omega)) (DE g1 hp).symm (fun e=>by cases e);refine⟨o1,?_⟩;intro Y9;rw [iQ];exact o2 Y9 rfl
       ·intro u2 dn' ed2 EC WE JU
        rw [xi]at EC WE;have kk:Kept (· =p'.fm) v2 u2:=(xh.mono fun _ _ h=>h.elim).tt JU;rw [dE (n:=(i2:Int)) (by omega) (by omega)];refine⟨(i2:Int)+1,rfl,⟨i2+1,rfl,dW,dn',by rw [ed2];exact g1,WE,?_,g4.tt kk⟩,by simp only;omega⟩;rw [ed2];by_cases ha:oB G.D b h
        ·rw [if_pos ha];exact zr g3 (EC ha)
        ·rw [if_neg ha,List.append_nil];exact g3
     ·rw [aU,ag.Y0]
      unfold ag.Xg;have en:(G.jZ z).merge.drop i2= []:=List.drop_eq_nil_of_le (by omega);rw [en]at g1;exact⟨UZ,dn,by simpa [eI,cg]using g1,g2,g3,Tz,uV⟩
  ·rintro u1 R ⟨done,h1,h2,h3,h4,h5⟩ rD
   have e7:iW ρ0 jG.heap.size= [(3,.pointer (some ⟨p'.bc,0,none⟩)),(5,.pointer (some ⟨w.heap.size,0,none⟩)),(6,.pointer (some ⟨w4.heap.size,0,none⟩)),(7,.pointer (some ⟨w5.heap.size,0,none⟩)),(36,Di),(4294967296,.agg (rr [jG.heap.size]))]:=rfl;rw [e7,ag.lH];unfold ag.jV;have ec:done=ly:=by rw [<-h1,List.drop_of_length_le (Nat.le_refl _),zG,List.append_nil]
   obtain⟨o1,o2⟩:=out (u:=u1) true h4 rD (by rw [<-ec,h3]) (fun _=>by rw [<-ec];exact h2);refine⟨o1,?_⟩;intro q9;obtain⟨abk,_,r,t1,t2,t3,t4⟩:=o2 q9 rfl;clear_value q9;rw [om];have kt:=lf [jG.heap.size] q9;have hm:∀E∈ [jG.heap.size],q9.heap[E]? =some (.deferred (some [])):=fun E hE=>by
    rw [List.mem_singleton]at hE;subst hE;exact abk.mark
   refine⟨mQ [jG.heap.size] q9 (by simp) hm,r,by rw [aE (kt.heap t1 (fun hE=>by rw [List.mem_singleton]at hE;omega))];rfl,?_⟩;exact hK' _ r t2 (fun e=>(t3 e).aK kt (fun hE=>by rw [List.mem_singleton]at hE;omega)) (((kA K2).trans t4 (fun j hj e=>by rcases e with e|e;exact e;omega)).trans kt (fun j hj hE=>by rw [List.mem_singleton]at hE;omega))
  ·rintro u1 R ⟨_,r,t1,t2,t3,t4⟩ rD
   have e7:iW ρ0 jG.heap.size= [(3,.pointer (some ⟨p'.bc,0,none⟩)),(5,.pointer (some ⟨w.heap.size,0,none⟩)),(6,.pointer (some ⟨w4.heap.size,0,none⟩)),(7,.pointer (some ⟨w5.heap.size,0,none⟩)),(36,Di),(4294967296,.agg (rr [jG.heap.size]))]:=rfl;rw [e7,ag.B7];unfold ag.wJ;rw [om];have kt:=lf [jG.heap.size] u1;have hm:∀E∈ [jG.heap.size],u1.heap[E]? =some (.deferred (some [])):=fun E hE=>by
    rw [List.mem_singleton]at hE;subst hE;exact rD.mark
   refine⟨mQ [jG.heap.size] u1 (by simp) hm,r,by rw [aE (kt.heap t1 (fun hE=>by rw [List.mem_singleton]at hE;omega))];rfl,?_⟩;exact hK' _ r t2 (fun e=>(t3 e).aK kt (fun hE=>by rw [List.mem_singleton]at hE;omega)) (((kA K2).trans t4 (fun j hj e=>by rcases e with e|e;exact e;omega)).trans kt (fun j hj hE=>by rw [List.mem_singleton]at hE;omega))
  ·rintro id u1 R ⟨e,_⟩ rD
   cases e
end
end Go.Proofs.YtfleamccglihoaaGreatDoor
