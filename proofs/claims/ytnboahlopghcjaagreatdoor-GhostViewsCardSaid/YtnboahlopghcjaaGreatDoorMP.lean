import Derived.Test.YtnboahlopghcjaaGreatDoorMI
import Derived.Test.YtnboahlopghcjaaGreatDoorMJ
import Derived.Test.YtnboahlopghcjaaGreatDoorMN
import Derived.Test.YtnboahlopghcjaaGreatDoorMG
set_option linter.unusedVariables false
namespace Go.Proofs.YtnboahlopghcjaaGreatDoor
open Go.Proofs.Tryz
open Go Go.bS
structure nN where
 jJ:HT
 score:Nat
 merge:List HT
 dM:List Bool
structure GS where
 D:DG
 P:List Int
 qD:List nN
 jt:List (List HT)
def GS.at_(G:GS)(h:HT):Option Nat:=pos h (ids G.D) 0
def GS.iw(G:GS)(h:HT):nN:=((G.at_ h).bind (G.qD[·]?)).getD ⟨de,0,[],[]⟩
def GS.world(G:GS)(h:HT):List HT:=((G.at_ h).bind (G.jt[·]?)).getD []
def GS.score(G:GS)(h:HT):Nat:=(G.iw h).score
def gl(G:GS)(a b:HT):Bool:=decide (G.score a<G.score b)||(decide (G.score a=G.score b)&&cH a b)
def y7(G:GS)(a b:HT):Int:=if gl G a b then-1 else if gl G b a then 1 else 0
def bZ(G:GS):List HT->HT
 | []=>de
 |x::l=>l.foldl (fun b y=>if gl G b y then y else b) x
def mF(D:DG)(a b:HT):Prop:=a≠b/\ ¬eT D a b/\ ¬eT D b a
noncomputable instance(D:DG)(a b:HT):Decidable (mF D a b):=Classical.propDecidable _
noncomputable instance(D:DG)(a b:HT):Decidable (eT D a b):=Classical.propDecidable _
noncomputable def bL(D:DG)(l:List HT)(h:HT):List HT:=l.filter fun b=>decide (mF D b h)
def SO(G:GS)(l:List HT):Prop:=l.Pairwise fun a b=>gl G a b=true
noncomputable def q9(D:DG)(s:HT)(l:List HT):List HT:=(df (dP D l++l)).filter fun h=>decide (h≠s/\ ¬eT D h s)
def ve(G:GS)(x:HT):List HT->List HT
 | []=> [x]
 |y::l=>if gl G x y then x::y::l else y::ve G x l
noncomputable def ct(G:GS)(s:HT)(l:List HT):List HT:=(q9 G.D s l).foldr (ve G) []
noncomputable def ns(k:Nat)(D:DG)(wd:List HT)(h:HT):Bool:=decide ((bL D wd h).length<=k/\ ∀y∈bL D wd h,(bL D wd y).length+1<=k)
structure VS where
 wd:List HT
 bl:List Bool
noncomputable def mT(k:Nat)(D:DG)(s:VS)(h:HT):VS:=⟨if ns k D s.wd h then s.wd++ [h]else s.wd,s.bl++ [ns k D s.wd h]⟩
noncomputable def eU(k:Nat)(G:GS)(s:HT)(l:List HT):VS:=(ct G s l).foldl (mT k G.D) ⟨G.world s++ [s],[]⟩
noncomputable def cu(k:Nat)(G:GS)(s:HT)(l:List HT):nN:=⟨s,G.score s+1+(eU k G s l).bl.count true,ct G s l,(eU k G s l).bl⟩
noncomputable def dq(k:Nat)(G:GS)(h:HT)(ps:List HT):GS:=
 if dg G.D h ps=0 then⟨G.D++ [⟨h,df ps⟩],G.P++ [(((pos (bZ G ps) (ids G.D) 0).getD 0:Nat):Int)],G.qD++ [cu k G (bZ G ps) ps],G.jt++ [(eU k G (bZ G ps) ps).wd]⟩else G
def cV(r:HT):GS:=⟨[⟨r,[]⟩],[-1],[⟨de,0,[],[]⟩],[[]]⟩
def dJ:List HT->List Bool->List HT
 |h::l,b::m=>if b then h::dJ l m else dJ l m
 |_,_=> []
theorem mr(G:GS)(a:HT):gl G a a=false:=by simp [gl,gz]
theorem oz{G:GS}{a b c:HT}(h:gl G a b=true)(h':gl G b c=true):gl G a c=true:=by
 simp only [gl,Bool.or_eq_true,Bool.and_eq_true,decide_eq_true_eq]at*;rcases h with h|⟨h,h1⟩
 ·rcases h' with h'|⟨h',h2⟩
  ·exact .inl (by omega)
  ·exact .inl (by omega)
 ·rcases h' with h'|⟨h',h2⟩
  ·exact .inl (by omega)
  ·exact .inr ⟨by omega,jn h1 h2⟩
theorem oA{G:GS}{a b:HT}(h:gl G a b=false)(h':gl G b a=false):a=b:=by
 simp only [gl,Bool.or_eq_false_iff,Bool.and_eq_false_iff,decide_eq_false_iff_not]at*;have e:G.score a=G.score b:=by omega
 obtain⟨_,h2⟩:=h;obtain⟨_,h3⟩:=h';exact oX (by rcases h2 with h2|h2;exact absurd e h2;exact h2) (by rcases h3 with h3|h3;exact absurd e.symm h3;exact h3)
theorem yN{G:GS}{a b:HT}(h:gl G a b=true):gl G b a=false:=by
 cases hb:gl G b a
 ·rfl
 ·have:=oz h hb
  rw [mr]at this;cases this
theorem qE{G:GS}{a b:HT}:y7 G a b<0↔gl G a b=true:=by
 unfold y7;split
 ·simp_all
 ·split<;>simp_all
theorem JK(G:GS)(a b:HT):y7 G a b=if G.score a<G.score b then-1 else if G.score b<G.score a then 1 else j0 a b:=by
 unfold y7 j0 gl;by_cases h1:G.score a<G.score b
 ·simp [h1]
 ·by_cases h2:G.score b<G.score a
  ·have: ¬G.score a=G.score b:=by omega
   simp [h1,h2,this]
  ·have:G.score a=G.score b:=by omega
   simp [this]
theorem SO.cons{G:GS}{x:HT}{l:List HT}:SO G (x::l)↔(∀y∈l,gl G x y=true)/\SO G l:=List.pairwise_cons
theorem SO.nodup{G:GS}{l:List HT}(h:SO G l):l.Nodup:=List.Pairwise.imp (fun {a b} lr e=>by subst e;rw [mr]at lr;cases lr) h
theorem Hz{G:GS}: ∀ {l m:List HT},SO G l->SO G m->(∀x,x∈l↔x∈m)->l=m
 | [],[],_,_,_=>rfl
 | [],y::m,_,_,h=>by have:=(h y).2 (by simp);simp at this
 |x::l,[],_,_,h=>by have:=(h x).1 (by simp);simp at this
 |x::l,y::m,hl,hm,h=>by
  rw [SO.cons]at hl hm;have ny:x=y:=by
   rcases List.mem_cons.1 ((h x).1 List.mem_cons_self)with e|e
   ·exact e
   ·rcases List.mem_cons.1 ((h y).2 List.mem_cons_self)with e'|e'
    ·exact e'.symm
    ·have h1:=hm.1 _ e
     have h2:=hl.1 _ e';rw [yN h1]at h2;cases h2
  subst ny;have:l=m:=Hz hl.2 hm.2 fun z=>by
   have hz:=h z;simp only [List.mem_cons]at hz;constructor
   ·intro lT
    rcases hz.1 (.inr lT)with e|e
    ·subst e;have:=hl.1 _ lT;rw [mr]at this;cases this
    ·exact e
   ·intro lT
    rcases hz.2 (.inr lT)with e|e
    ·subst e;have:=hm.1 _ lT;rw [mr]at this;cases this
    ·exact e
  rw [this]
theorem tP{G:GS}{x z:HT}: ∀ {l:List HT},z∈ve G x l↔z=x\/z∈l
 | []=>by simp [ve]
 |y::l=>by
  unfold ve;split
  ·simp
  ·simp only [List.mem_cons,tP (l:=l)]
   constructor
   ·rintro(h|h|h)<;>simp [h]
   ·rintro(h|h|h)<;>simp [h]
theorem CK{G:GS}{x:HT}: ∀ {l:List HT},SO G l->x∉l->SO G (ve G x l)
 | [],_,_=>by simp [ve,SO]
 |y::l,h,hx=>by
  have h':=SO.cons.1 h;simp only [List.mem_cons,not_or]at hx;unfold ve;split
  ·rename_i ny
   refine SO.cons.2 ⟨fun z hz=>?_,h⟩;rcases List.mem_cons.1 hz with rfl|hz
   ·exact ny
   ·exact oz ny (h'.1 _ hz)
  ·rename_i ny
   refine SO.cons.2 ⟨fun z hz=>?_,CK h'.2 hx.2⟩;rcases tP.1 hz with rfl|hz
   ·cases O9:gl G y z
    ·exact absurd (oA O9 (by simpa using ny)).symm hx.1
    ·rfl
   ·exact h'.1 _ hz
theorem oT{G:GS}{z:HT}: ∀ {l:List HT},z∈l.foldr (ve G) []↔z∈l
 | []=>by simp
 |x::l=>by rw [List.foldr_cons,tP,oT,List.mem_cons]
theorem zl{G:GS}: ∀ {l:List HT},l.Nodup->SO G (l.foldr (ve G) [])
 | [],_=>List.Pairwise.nil
 |x::l,h=>by
  rw [List.nodup_cons]at h;exact CK (zl h.2) fun e=>h.1 (oT.1 e)
theorem pD(D:DG)(s:HT)(l:List HT):(q9 D s l).Nodup:=(ig _).nodup.filter _
theorem tO{D:DG}{s:HT}{l:List HT}{h:HT}:h∈q9 D s l↔((h∈ids D/\ ∃p∈l,eT D h p)\/h∈l)/\h≠s/\ ¬eT D h s:=by
 unfold q9 dP;rw [List.mem_filter,dv,List.mem_append,iS,decide_eq_true_eq]
theorem iA{G:GS}{s:HT}{l:List HT}{h:HT}:h∈ct G s l↔((h∈ids G.D/\ ∃p∈l,eT G.D h p)\/h∈l)/\h≠s/\ ¬eT G.D h s:=by
 unfold ct;rw [oT,tO]
theorem jO(G:GS)(s:HT)(l:List HT):SO G (ct G s l):=zl (pD _ _ _)
theorem ra{G:GS}{s:HT}{l m:List HT}(hs:SO G m)(h: ∀x,x∈m↔x∈q9 G.D s l):m=ct G s l:=
 Hz hs (jO G s l) fun x=>by unfold ct;rw [h,oT]
theorem jT{G:GS}: ∀ {l:List HT},l≠ []->bZ G l∈l
 |x::l,_=>by
  have key: ∀(l:List HT) (b:HT),l.foldl (fun b y=>if gl G b y then y else b) b=b\/l.foldl (fun b y=>if gl G b y then y else b) b∈l:=by
   intro l
   induction l with
   |nil=>intro b;exact .inl rfl
   |cons y l ih=>
    intro b;simp only [List.foldl_cons];rcases ih (if gl G b y then y else b)with e|e
    ·rw [e]
     split
     ·exact .inr List.mem_cons_self
     ·exact .inl rfl
    ·exact .inr (List.mem_cons_of_mem _ e)
  rcases key l x with e|e
  ·rw [bZ,e];exact List.mem_cons_self
  ·exact List.mem_cons_of_mem _ e
theorem fg(D:DG)(l m:List HT)(h:HT):bL D (l++m) h=bL D l h++bL D m h:=List.filter_append ..
theorem eZ{D:DG}{l:List HT}{h b:HT}:b∈bL D l h↔b∈l/\mF D b h:=by unfold bL;rw [List.mem_filter,decide_eq_true_eq]
theorem mF.symm{D:DG}{a b:HT}(h:mF D a b):mF D b a:=⟨h.1.symm,h.2.2,h.2.1⟩
end Go.Proofs.YtnboahlopghcjaaGreatDoor
namespace Go.Proofs.YtnboahlopghcjaaGreatDoor
open Go.Proofs.Tryz
open Go Go.bS
theorem ly{x:HT}: ∀ {m:List HT} {b:List Bool},x∈dJ m b->x∈m
 |h::l,b::m,hx=>by
  unfold dJ at hx;split at hx
  ·rcases List.mem_cons.1 hx with e|e
   ·rw [e];exact List.mem_cons_self
   ·exact List.mem_cons_of_mem _ (ly e)
  ·exact List.mem_cons_of_mem _ (ly hx)
 | [],_,hx=>by simp [dJ]at hx
 |_::_,[],hx=>by simp [dJ]at hx
theorem mQ: ∀ {m:List HT} {b:List Bool},m.Nodup->(dJ m b).Nodup
 |h::l,b::m,hn=>by
  rw [List.nodup_cons]at hn;unfold dJ;split
  ·exact List.nodup_cons.2 ⟨fun e=>hn.1 (ly e),mQ hn.2⟩
  ·exact mQ hn.2
 | [],_,_=>by simp [dJ]
 |_::_,[],_=>by simp [dJ]
theorem uI: ∀ {m:List HT} {b:List Bool},b.length=m.length->(dJ m b).length=b.count true
 |h::l,b::m,hn=>by
  have:=uI (m:=l) (b:=m) (by simpa using hn);unfold dJ;cases b<;>simp [this]
 | [],[],_=>rfl
 | [],_::_,h=>by simp at h
 |_::_,[],h=>by simp at h
theorem si{x:HT}{c:Bool}: ∀ {m:List HT} {b:List Bool},b.length=m.length->dJ (m++ [x]) (b++ [c])=dJ m b++if c then [x]else []
 |h::l,b::m,hn=>by
  have:=si (x:=x) (c:=c) (m:=l) (b:=m) (by simpa using hn);simp only [List.cons_append,dJ,this];cases b<;>simp
 | [],[],_=>by cases c<;>simp [dJ]
 | [],_::_,h=>by simp at h
 |_::_,[],h=>by simp at h
theorem E6(k:Nat)(D:DG)(wd:List HT): ∀(m:List HT),∃b:List Bool,b.length=m.length/\m.foldl (mT k D) ⟨wd,[]⟩=⟨wd++dJ m b,b⟩:=by
 intro m
 induction h:m.length generalizing m with
 |zero=>exact⟨[],by simp,by rw [List.length_eq_zero_iff.1 h];simp [dJ]⟩
 |succ n ih=>
  have fE:m≠ []:=fun e=>by rw [e]at h;simp at h
  obtain⟨m',x,rfl⟩: ∃m' x,m=m'++ [x]:=⟨m.dropLast,m.getLast fE,(List.dropLast_concat_getLast fE).symm⟩;obtain⟨b,h1,h2⟩:=ih m' (by simpa using h);have h1:b.length=m'.length:=by rw [List.length_append,List.length_cons,List.length_nil]at h;omega
  refine⟨b++ [ns k D (wd++dJ m' b) x],by simp only [List.length_append,List.length_cons,List.length_nil]at h⊢;omega,?_⟩;rw [List.foldl_append,h2,List.foldl_cons,List.foldl_nil,si h1];unfold mT;cases ns k D (wd++dJ m' b) x<;>simp
theorem pX(k:Nat)(G:GS)(s:HT)(l:List HT):(eU k G s l).bl.length=(ct G s l).length/\(eU k G s l).wd=G.world s++ [s]++dJ (ct G s l) (eU k G s l).bl:=by
 obtain⟨b,h1,h2⟩:=E6 k G.D (G.world s++ [s]) (ct G s l);unfold eU;rw [h2];exact⟨h1,rfl⟩
structure jE(k:Nat)(G:GS):Prop where
 W:jj G.D
 jJ:qP G.D G.P
 lc:G.qD.length=G.D.length
 lw:G.jt.length=G.D.length
 root: ∀nd,G.D[0]? =some nd->G.iw nd.id=⟨de,0,[],[]⟩/\G.world nd.id= []
 up: ∀s h,kj G.D G.P s h->(G.iw h).jJ=s/\G.world h=G.world s++ [s]++dJ (G.iw h).merge (G.iw h).dM/\(G.iw h).dM.length=(G.iw h).merge.length/\(G.iw h).merge.Nodup/\ ∀y,y∈(G.iw h).merge↔eT G.D y h/\y≠s/\ ¬eT G.D y s
 wd: ∀h∈ids G.D,(G.world h).Nodup/\(∀b∈G.world h,eT G.D b h)/\G.score h=(G.world h).length
theorem GS.rz{G:GS}(W:jj G.D){i:Nat}{nd:DN}(h:G.D[i]? =some nd):G.at_ nd.id=some i:=W.pos_eq h
theorem GS.Ox{G:GS}(W:jj G.D){i:Nat}{nd:DN}{c:nN}(h:G.D[i]? =some nd)(hc:G.qD[i]? =some c):G.iw nd.id=c:=by
 unfold GS.iw;rw [GS.rz W h];simp [hc]
theorem GS.ET{G:GS}(W:jj G.D){i:Nat}{nd:DN}{c:List HT}(h:G.D[i]? =some nd)(hc:G.jt[i]? =some c):G.world nd.id=c:=by
 unfold GS.world;rw [GS.rz W h];simp [hc]
section
variable{k:Nat}{G:GS}{h:HT}{ps:List HT}
theorem tg(hc:dg G.D h ps≠0):dq k G h ps=G:=by unfold dq;rw [if_neg hc]
theorem rH:(dq k G h ps).D=lI G.D h ps:=by
 unfold dq lI;split<;>rfl
theorem Hu:(dq k G h ps).D=mz G.D h (bZ G ps) ps:=by
 rw [rH];unfold mz;by_cases hc:dg G.D h ps=0
 ·have fE:=(jQ hc).2.1
  have:fZ G.D h (bZ G ps) ps=0:=by unfold fZ;rw [if_pos hc,if_pos (jT fE)]
  rw [if_pos this,oI hc]
 ·have:fZ G.D h (bZ G ps) ps≠0:=by unfold fZ;rw [if_neg hc];exact hc
  rw [if_neg this];unfold lI;rw [if_neg hc]
theorem Es:fZ G.D h (bZ G ps) ps=dg G.D h ps:=by
 unfold fZ;split
 ·rename_i hc
  rw [if_pos (jT (jQ hc).2.1),hc]
 ·rfl
theorem Hv:(dq k G h ps).P=mw G.D G.P h (bZ G ps) ps:=by
 unfold mw dq;rw [Es];by_cases hc:dg G.D h ps=0
 ·rw [if_pos hc,if_pos hc]
 ·rw [if_neg hc,if_neg hc]
theorem ke(hc:dg G.D h ps=0):dq k G h ps=⟨G.D++ [⟨h,df ps⟩],G.P++ [(((pos (bZ G ps) (ids G.D) 0).getD 0:Nat):Int)],G.qD++ [cu k G (bZ G ps) ps],G.jt++ [(eU k G (bZ G ps) ps).wd]⟩:=by
 unfold dq;rw [if_pos hc]
theorem BD(H:jE k G){s:HT}(hs:s∈ids G.D)(l:List HT)(hl: ∀p∈l,p∈ids G.D):
 (eU k G s l).wd.Nodup/\(eU k G s l).wd.length=(cu k G s l).score/\ ∀y∈(eU k G s l).wd,y∈ids G.D/\(y=s\/eT G.D y s\/y∈ct G s l):=by
 obtain⟨h1,h2⟩:=pX k G s l;obtain⟨w1,w2,w3⟩:=H.wd s hs;have hm: ∀y∈dJ (ct G s l) (eU k G s l).bl,y∈ids G.D/\y≠s/\ ¬eT G.D y s:=fun y hy=>by
  obtain⟨e,h3,h4⟩:=iA.1 (ly hy);refine⟨?_,h3,h4⟩;rcases e with e|e
  ·exact e.1
  ·exact hl _ e
 rw [h2];refine⟨?_,?_,?_⟩
 ·refine List.nodup_append.2 ⟨List.nodup_append.2 ⟨w1,by simp,?_⟩,mQ (jO G s l).nodup,?_⟩
  ·intro a ha b hb e
   have hb:b=s:=by simpa using hb
   subst hb;subst e;exact eT.irrefl H.W _ (w2 _ ha)
  ·intro a ha b hb e
   subst e;obtain⟨_,h3,h4⟩:=hm _ hb;rcases List.mem_append.1 ha with e|e
   ·exact h4 (w2 _ e)
   ·exact h3 (by simpa using e)
 ·unfold cu
  simp only [List.length_append,List.length_cons,List.length_nil,uI h1,w3]
 ·intro y hy
  rcases List.mem_append.1 hy with hy|hy
  ·rcases List.mem_append.1 hy with hy|hy
   ·exact⟨((w2 _ hy).mem H.W).1,.inr (.inl (w2 _ hy))⟩
   ·have:y=s:=by simpa using hy
    subst this;exact⟨hs,.inl rfl⟩
  ·exact⟨(hm _ hy).1,.inr (.inr (ly hy))⟩
theorem mB(H:jE k G){y:HT}(hy:y∈ids G.D):(dq k G h ps).iw y=G.iw y/\(dq k G h ps).world y=G.world y:=by
 by_cases hc:dg G.D h ps=0
 ·obtain⟨hn,fE,fy,pM⟩:=jQ hc
  obtain⟨nd,sy,rfl⟩:=dI.1 hy;obtain⟨i,hi⟩:=List.getElem?_of_mem sy;have dN:=(List.getElem?_eq_some_iff.1 hi).1;have DZ:(G.D++ [(⟨h,df ps⟩:DN)])[i]? =some nd:=by rw [List.getElem?_append_left dN];exact hi
  have W':jj (dq k G h ps).D:=by rw [rH];exact H.W.add h ps
  rw [ke hc]at W'⊢;have e1:(⟨G.D++ [⟨h,df ps⟩],G.P++ [(((pos (bZ G ps) (ids G.D) 0).getD 0:Nat):Int)],G.qD++ [cu k G (bZ G ps) ps],G.jt++ [(eU k G (bZ G ps) ps).wd]⟩:GS).at_ nd.id=some i:=GS.rz W' DZ;have e2:=GS.rz H.W hi;unfold GS.iw GS.world;rw [e1,e2];simp only [Option.bind_some];rw [List.getElem?_append_left (by rw [H.lc];exact dN),List.getElem?_append_left (by rw [H.lw];exact dN)];exact⟨rfl,rfl⟩
 ·rw [tg hc];exact⟨rfl,rfl⟩
theorem mC(H:jE k G)(hc:dg G.D h ps=0):(dq k G h ps).iw h=cu k G (bZ G ps) ps/\(dq k G h ps).world h=(eU k G (bZ G ps) ps).wd:=by
 have W':jj (dq k G h ps).D:=by rw [rH];exact H.W.add h ps
 rw [ke hc]at W'⊢;have DZ:(G.D++ [(⟨h,df ps⟩:DN)])[G.D.length]? =some ⟨h,df ps⟩:=by rw [List.getElem?_append_right (Nat.le_refl _),Nat.sub_self];rfl
 have e1:(⟨G.D++ [⟨h,df ps⟩],G.P++ [(((pos (bZ G ps) (ids G.D) 0).getD 0:Nat):Int)],G.qD++ [cu k G (bZ G ps) ps],G.jt++ [(eU k G (bZ G ps) ps).wd]⟩:GS).at_ h=some G.D.length:=GS.rz W' DZ;unfold GS.iw GS.world;rw [e1];simp only [Option.bind_some];rw [List.getElem?_append_right (by rw [H.lc];exact Nat.le_refl _),H.lc,Nat.sub_self,List.getElem?_append_right (by rw [H.lw];exact Nat.le_refl _),H.lw,Nat.sub_self];exact⟨rfl,rfl⟩
end
end Go.Proofs.YtnboahlopghcjaaGreatDoor
namespace Go.Proofs.YtnboahlopghcjaaGreatDoor
open Go.Proofs.Tryz
open Go Go.bS
section
variable{k:Nat}{G:GS}{h:HT}{ps:List HT}
theorem lf(k:Nat)(r:HT):jE k (cV r):=by
 have e0:(cV r).at_ r=some 0:=GS.rz (G:=cV r) (jj.root r) (nd:=⟨r,[]⟩) rfl;have ec:(cV r).iw r=⟨de,0,[],[]⟩:=by unfold GS.iw;rw [e0];rfl
 have ew:(cV r).world r= []:=by unfold GS.world;rw [e0];rfl
 refine⟨jj.root r,qP.one r,rfl,rfl,?_,?_,?_⟩
 ·intro nd fy
  have:nd=⟨r,[]⟩:=by simpa [cV]using fy.symm
  subst this;exact⟨ec,ew⟩
 ·rintro s h ⟨i,j,ni,m,h1,_,h3,_,_⟩
  exfalso;cases i with
  |zero=>simp [cV]at h3
  |succ i=>simp [cV]at h1
 ·intro h hm
  have:h=r:=by simpa [cV,ids]using hm
  subst this;refine⟨by rw [ew];simp,by rw [ew];simp,?_⟩;unfold GS.score;rw [ec,ew];rfl
theorem Fk(H:jE k G)(hc:dg G.D h ps=0): ∃(j:Nat) (m:DN),G.D[j]? =some m/\m.id=bZ G ps/\(pos (bZ G ps) (ids G.D) 0).getD 0=j/\bZ G ps∈ps/\bZ G ps∈ids G.D:=by
 obtain⟨hn,fE,fy,pM⟩:=jQ hc;have h1:=jT (G:=G) fE;have h2:=pM _ (dv.2 h1);obtain⟨m,hm,e⟩:=dI.1 h2;obtain⟨j,hj⟩:=List.getElem?_of_mem hm;have h3:=H.W.pos_eq hj;rw [e]at h3;exact⟨j,m,hj,e,by rw [h3];rfl,h1,h2⟩
theorem zj(H:jE k G)(hc:dg G.D h ps=0):(∀y,eT (G.D++ [⟨h,df ps⟩]) y h↔ ∃p∈ps,y=p\/eT G.D y p)/\ ∀a b,b∈ids G.D->(eT (G.D++ [⟨h,df ps⟩]) a b↔eT G.D a b):=by
 obtain⟨hn,fE,fy,pM⟩:=jQ hc;have W':jj (G.D++ [⟨h,df ps⟩]):=by have:=H.W.add h ps;rwa [oI hc]at this
 have DZ:(G.D++ [(⟨h,df ps⟩:DN)])[G.D.length]? =some ⟨h,df ps⟩:=by rw [List.getElem?_append_right (Nat.le_refl _),Nat.sub_self];rfl
 have Dt: ∀a b,b∈ids G.D->(eT (G.D++ [⟨h,df ps⟩]) a b↔eT G.D a b):=fun a b hb=>iE H.W hn hb;refine⟨fun y=>?_,Dt⟩;rw [tf W' DZ y];constructor
 ·rintro⟨p,hp,e⟩
  exact⟨p,dv.1 hp,e.imp_right fun e=>(Dt _ _ (pM _ hp)).1 e⟩
 ·rintro⟨p,hp,e⟩
  exact⟨p,dv.2 hp,e.imp_right fun e=>(Dt _ _ (pM _ (dv.2 hp))).2 e⟩
theorem jE.add(H:jE k G)(h:HT)(ps:List HT):jE k (dq k G h ps):=by
 by_cases hc:dg G.D h ps=0
 ·obtain⟨hn,fE,fy,pM⟩:=jQ hc
  obtain⟨j,m,hj,hm,iK,EB,KK⟩:=Fk H hc;obtain⟨En,Dt⟩:=zj H hc;have hk:=fun y (hy:y∈ids G.D)=>mB (h:=h) (ps:=ps) H hy;obtain⟨nc,nw⟩:=mC H hc;obtain⟨v1,v2⟩:=pX k G (bZ G ps) ps;obtain⟨u1,u2,u3⟩:=BD H KK ps (fun p hp=>pM _ (dv.2 hp));have W':jj (G.D++ [⟨h,df ps⟩]):=by have:=H.W.add h ps;rwa [oI hc]at this
  have kN:qP (G.D++ [(⟨h,df ps⟩:DN)]) (G.P++ [(j:Int)]):=H.jJ.snoc hj (by rw [hm];exact dv.2 EB) H.W.pos;generalize hs:bZ G ps=s at*;have eG:=ke (k:=k) hc;rw [hs,iK]at eG;have eD:(dq k G h ps).D=G.D++ [⟨h,df ps⟩]:=by rw [eG]
  have eP:(dq k G h ps).P=G.P++ [(j:Int)]:=by rw [eG]
  refine⟨by rw [eD];exact W',by rw [eD,eP];exact kN,by rw [eG];simp [H.lc],by rw [eG];simp [H.lw],?_,?_,?_⟩
  ·intro nd sy
   rw [eD,List.getElem?_append_left H.W.pos]at sy;obtain⟨e1,e2⟩:=hk nd.id (dI.2 ⟨nd,List.mem_of_getElem? sy,rfl⟩);rw [e1,e2];exact H.root nd sy
  ·intro t y hy
   rw [eD,eP,mL H.W H.jJ hn hj]at hy;rcases hy with hy|⟨rfl,rfl⟩
   ·have hp:=hy.par H.jJ
    have Kz:y∈ids G.D:=((eT.one hp).mem H.W).2;have Rm:t∈ids G.D:=((eT.one hp).mem H.W).1;obtain⟨e1,e2⟩:=hk y Kz;obtain⟨_,e3⟩:=hk t Rm;obtain⟨g1,g2,g3,g4,g5⟩:=H.up t y hy;rw [e1,e2,e3,eD];refine⟨g1,g2,g3,g4,fun z=>?_⟩;rw [g5,Dt _ _ Kz,Dt _ _ Rm]
   ·show _/\_
    rw [nc,nw,hm,(hk s KK).2,eD];refine⟨rfl,v2,v1,(jO _ _ _).nodup,fun z=>?_⟩;show z∈ct G s ps↔_
    rw [iA,En,Dt _ _ KK];constructor
    ·rintro⟨e,h3,h4⟩
     refine⟨?_,h3,h4⟩;rcases e with⟨_,p,hp,e⟩|e
     ·exact⟨p,hp,.inr e⟩
     ·exact⟨z,e,.inl rfl⟩
    ·rintro⟨⟨p,hp,e⟩,h3,h4⟩
     refine⟨?_,h3,h4⟩;rcases e with rfl|e
     ·exact .inr hp
     ·exact .inl ⟨(e.mem H.W).1,p,hp,e⟩
  ·intro y hy
   rw [eD,jX]at hy;rcases List.mem_append.1 hy with hy|hy
   ·obtain⟨e1,e2⟩:=hk y hy
    obtain⟨g1,g2,g3⟩:=H.wd y hy;unfold GS.score;rw [e1,e2,eD];exact⟨g1,fun b hb=>(Dt _ _ hy).2 (g2 b hb),g3⟩
   ·have:y=h:=by simpa using hy
    subst this;unfold GS.score;rw [nc,nw,eD];refine⟨u1,fun b hb=>?_,u2.symm⟩;obtain⟨_,e⟩:=u3 b hb;rw [En];rcases e with rfl|e|e
    ·exact⟨b,EB,.inl rfl⟩
    ·exact⟨s,EB,.inr e⟩
    ·obtain⟨e,_,_⟩:=iA.1 e
     rcases e with⟨_,p,hp,e⟩|e
     ·exact⟨p,hp,.inr e⟩
     ·exact⟨b,e,.inl rfl⟩
 ·rw [tg hc];exact H
end
end Go.Proofs.YtnboahlopghcjaaGreatDoor
namespace Go.Proofs.YtnboahlopghcjaaGreatDoor
open Go.Proofs.Tryz
open Go Go.bS
def lH(sz:HT->HT->Option Nat)(l:List HT)(b:HT):Nat:=(l.findSome? fun h=>sz h b).getD 0
def qo(ov:HT->Option Nat)(base:HT->Nat)(b:HT):Nat:=(ov b).getD (base b)
structure OV(D:DG)(wd:List HT)(ov:HT->Option Nat)(base:HT->Nat):Prop where
 kn: ∀b∈wd,qo ov base b=(bL D wd b).length
 Pw: ∀b n,ov b=some n->b∈wd
noncomputable def x6(D:DG)(wd:List HT)(ov:HT->Option Nat)(base:HT->Nat)(h:HT):HT->Option Nat:=
 fun b=>if b∈bL D wd h then some (qo ov base b+1)else if b=h then some (bL D wd h).length else ov b
theorem OV.step{D:DG}{wd:List HT}{ov:HT->Option Nat}{base:HT->Nat}(H:OV D wd ov base){h:HT}(hn:h∉wd):OV D (wd++ [h]) (x6 D wd ov base h) base:=by
 refine⟨fun b hb=>?_,fun b n e=>?_⟩
 ·rw [fg,List.length_append]
  unfold qo x6;by_cases hp:b∈bL D wd h
  ·rw [if_pos hp]
   obtain⟨h1,h2⟩:=eZ.1 hp;rw [Option.getD_some,H.kn b h1];have:bL D [h] b= [h]:=by unfold bL;rw [List.filter_cons_of_pos (by simpa using h2.symm)];rfl
   rw [this];rfl
  ·rw [if_neg hp]
   by_cases e:b=h
   ·subst e
    rw [if_pos rfl,Option.getD_some];have:bL D [b] b= []:=by unfold bL;rw [List.filter_cons_of_neg (by simpa using fun e:mF D b b=>e.1 rfl)];rfl
    rw [this];rfl
   ·rw [if_neg e]
    have hw:b∈wd:=by
     rcases List.mem_append.1 hb with hb|hb
     ·exact hb
     ·exact absurd (by simpa using hb) e
    have:bL D [h] b= []:=by unfold bL;rw [List.filter_cons_of_neg (by simpa using fun e':mF D h b=>hp (eZ.2 ⟨hw,e'.symm⟩))];rfl
    rw [this];exact H.kn b hw
 ·unfold x6 at e
  split at e
  ·rename_i hp
   exact List.mem_append_left _ (eZ.1 hp).1
  ·split at e
   ·rename_i hb;subst hb;exact List.mem_append_right _ (by simp)
   ·exact List.mem_append_left _ (H.Pw b n e)
structure SZ(G:GS)(sz:HT->HT->Option Nat):Prop where
 kn: ∀h l,h∈ids G.D->cY G.D G.P h l-> ∀b∈G.world h++ [h],lH sz l b=(bL G.D (G.world h++ [h]) b).length
 Pw: ∀h b n,sz h b=some n->b∈ids G.D
theorem SZ.ov{G:GS}{sz:HT->HT->Option Nat}(Z:SZ G sz){s:HT}(hs:s∈ids G.D){l:List HT}(hl:cY G.D G.P s l):OV G.D (G.world s++ [s]) (fun _=>none) (lH sz l):=
 ⟨fun b hb=>Z.kn s l hs hl b hb,fun b n e=>by cases e⟩
theorem Up.snoc{P:List Int}{p:Int}: ∀ {i:Nat} {l:List Nat},Up P i l->Up (P++ [p]) i l:=by
 intro i l h
 induction h with
 |root=>exact .root
 |step h _ ih=>exact .step (by rw [List.getElem?_append_left (List.getElem?_eq_some_iff.1 h).1];exact h) ih
theorem vY{D:DG}{nd:DN}{i:Nat}(h:i<D.length):nx (D++ [nd]) i=nx D i:=by unfold nx;rw [List.getElem?_append_left h]
theorem cY.snoc{D:DG}{P:List Int}(H:qP D P){nd:DN}{p:Int}{h:HT}{l:List HT}(hm:h∈ids D)(c:cY D P h l):cY (D++ [nd]) (P++ [p]) h l:=by
 rcases c with⟨hn,_⟩|⟨i,m,ks,h1,h2,h3,h4⟩
 ·exact absurd hm hn
 ·have dN:=(List.getElem?_eq_some_iff.1 h1).1
  refine .inr ⟨i,m,ks,by rw [List.getElem?_append_left dN];exact h1,h2,h3.snoc,?_⟩;rw [h4];refine List.map_congr_left fun k hk=>(vY ?_).symm;have:=h3.lt H.par (by rw [H.len];exact dN) k hk
  rwa [H.len]at this
theorem cY.new{D:DG}{P:List Int}(W:jj D)(H:qP D P){nd m:DN}{j:Nat}(hj:D[j]? =some m){l:List HT}(c:cY D P m.id l):cY (D++ [nd]) (P++ [(j:Int)]) nd.id (nd.id::l):=by
 have hm:m.id∈ids D:=dI.2 ⟨m,List.mem_of_getElem? hj,rfl⟩;have c':=cY.snoc (nd:=nd) (p:=(j:Int)) H hm c;rcases c with⟨hn,_⟩|⟨i,m',ks,h1,h2,h3,h4⟩
 ·exact absurd hm hn
 ·have qw:=W.inj h1 hj h2
  subst qw;have e0:(D++ [nd])[D.length]? =some nd:=by rw [List.getElem?_append_right (Nat.le_refl _),Nat.sub_self];rfl
  refine .inr ⟨D.length,nd,D.length::ks,e0,rfl,.step (by rw [<-H.len,List.getElem?_append_right (Nat.le_refl _),Nat.sub_self];rfl) h3.snoc,?_⟩;rw [List.map_cons,ml e0,h4]
  congr 1
  refine List.map_congr_left fun k hk=>(vY ?_).symm;have:=h3.lt H.par (by rw [H.len];exact(List.getElem?_eq_some_iff.1 h1).1) k hk
  rwa [H.len]at this
theorem qg{D D':DG}{l:List HT}{b:HT}(h: ∀a∈l,mF D' a b↔mF D a b):bL D' l b=bL D l b:=by
 unfold bL;exact List.filter_congr fun a ha=>by simp only [h a ha]
theorem SZ.root(r:HT):SZ (cV r) (fun _ _=>none):=by
 refine⟨fun h l hm _ b hb=>?_,fun h b n e=>by cases e⟩;have hh:h=r:=by simpa [cV,ids]using hm
 subst hh;have ew:(cV h).world h= []:=((lf 0 h).root ⟨h,[]⟩ rfl).2;rw [ew]at hb⊢;have:b=h:=by simpa using hb
 subst this;have:bL (cV b).D ([]++ [b]) b= []:=by unfold bL;rw [List.nil_append,List.filter_cons_of_neg (by simpa using fun e:mF (cV b).D b b=>e.1 rfl)];rfl
 rw [this];unfold lH;have:(l.findSome? fun _=>(none:Option Nat))=none:=by simp
 rw [this];rfl
theorem SZ.add{k:Nat}{G:GS}{sz:HT->HT->Option Nat}(Z:SZ G sz)(H:jE k G){h:HT}{ps:List HT}(hc:dg G.D h ps=0){l:List HT}(hl:cY G.D G.P (bZ G ps) l){ov:HT->Option Nat}
 (O:OV G.D (eU k G (bZ G ps) ps).wd ov (lH sz l)):SZ (dq k G h ps) (fun y=>if y=h then ov else sz y):=by
 obtain⟨hn,fE,fy,pM⟩:=jQ hc;obtain⟨j,m,hj,hm,iK,EB,KK⟩:=Fk H hc;obtain⟨En,Dt⟩:=zj H hc;have H':=H.add h ps;obtain⟨nc,nw⟩:=mC H hc;obtain⟨u1,u2,u3⟩:=BD H KK ps (fun p hp=>pM _ (dv.2 hp));have eD:(dq k G h ps).D=G.D++ [⟨h,df ps⟩]:=by rw [ke hc]
 have eP:(dq k G h ps).P=G.P++ [(j:Int)]:=by rw [ke hc,iK]
 have apt: ∀a b,a∈ids G.D->b∈ids G.D->(mF (G.D++ [⟨h,df ps⟩]) a b↔mF G.D a b):=fun a b ha hb=>by unfold mF;rw [Dt _ _ hb,Dt _ _ ha]
 have lno: ∀(y:HT) (l':List HT),y∈ids G.D->cY G.D G.P y l'-> ∀b,lH (fun y=>if y=h then ov else sz y) l' b=lH sz l' b:=fun y l' hy c b=>by
  unfold lH;have Vd:h∉l':=fun e=>hn ((c.mem H.W H.jJ).1 e).mem.1;have key: ∀l':List HT,h∉l'->(l'.findSome? fun y=>(if y=h then ov else sz y) b)=l'.findSome? fun y=>sz y b:=by
   intro l'
   induction l' with
   |nil=>intro _;rfl
   |cons y l' ih=>
    intro hq;simp only [List.mem_cons,not_or]at hq;rw [List.findSome?_cons,List.findSome?_cons,if_neg (fun e=>hq.1 e.symm),ih hq.2]
  rw [key l' Vd]
 refine⟨fun y l' hy c b hb=>?_,fun y b n e=>?_⟩
 ·rw [eD,eP]at c
  rw [eD]at hy⊢;rw [jX]at hy;have W':jj (G.D++ [⟨h,df ps⟩]):=by have:=H'.W;rwa [eD]at this
  have S':qP (G.D++ [⟨h,df ps⟩]) (G.P++ [(j:Int)]):=by have:=H'.jJ;rwa [eD,eP]at this
  rcases List.mem_append.1 hy with hy|hy
  ·obtain⟨l0,c0⟩:=cY.ex H.jJ y
   have:l'=l0:=c.one W' S' (c0.snoc H.jJ hy);subst this;obtain⟨_,e2⟩:=mB (k:=k) (h:=h) (ps:=ps) H hy;rw [e2]at hb⊢;rw [lno y l' hy c0,Z.kn y l' hy c0 b hb];have fh: ∀a∈G.world y++ [y],a∈ids G.D:=fun a ha=>by
    rcases List.mem_append.1 ha with ha|ha
    ·exact(((H.wd y hy).2.1 a ha).mem H.W).1
    ·have:a=y:=by simpa using ha
     subst this;exact hy
   rw [qg fun a ha=>apt a b (fh a ha) (fh b hb)]
  ·have:y=h:=by simpa using hy
   subst this;have cn:=cY.new (nd:=⟨y,df ps⟩) H.W H.jJ hj (by rw [hm];exact hl);have:l'=y::l:=c.one W' S' cn;subst this;rw [nw]at hb⊢;have e1:lH (fun z=>if z=y then ov else sz z) (y::l) b=qo ov (lH sz l) b:=by
    have:=lno _ l KK hl b;unfold lH at this⊢;unfold qo;rw [List.findSome?_cons];cases EE:ov b with
    |none=>simp only [if_true,EE,Option.getD_none];exact this
    |some n=>simp only [if_true,EE,Option.getD_some]
   rw [e1,fg,List.length_append];have Ql: ∀a∈(eU k G (bZ G ps) ps).wd,¬mF (G.D++ [⟨y,df ps⟩]) a y:=fun a ha e=>by
    obtain⟨_,e'⟩:=u3 a ha;refine e.2.1 ((En a).2 ?_);rcases e' with rfl|e'|e'
    ·exact⟨_,EB,.inl rfl⟩
    ·exact⟨_,EB,.inr e'⟩
    ·obtain⟨e',_,_⟩:=iA.1 e'
     rcases e' with⟨_,p,hp,e'⟩|e'
     ·exact⟨p,hp,.inr e'⟩
     ·exact⟨a,e',.inl rfl⟩
   rcases List.mem_append.1 hb with hb|hb
   ·have ZF:=(u3 b hb).1
    have:bL (G.D++ [⟨y,df ps⟩]) [y] b= []:=by unfold bL;rw [List.filter_cons_of_neg (by simpa using fun e:mF _ y b=>Ql b hb e.symm)];rfl
    rw [this,O.kn b hb,qg fun a ha=>apt a b (u3 a ha).1 ZF];rfl
   ·have:b=y:=by simpa using hb
    subst this;have e2:bL (G.D++ [⟨b,df ps⟩]) (eU k G (bZ G ps) ps).wd b= []:=by
     unfold bL;rw [List.filter_eq_nil_iff];intro a ha;simpa using Ql a ha
    have e3:bL (G.D++ [⟨b,df ps⟩]) [b] b= []:=by unfold bL;rw [List.filter_cons_of_neg (by simpa using fun e:mF _ b b=>e.1 rfl)];rfl
    rw [e2,e3];have e4:ov b=none:=by
     cases EE:ov b with
     |none=>rfl
     |some n=>exact absurd (u3 b (O.Pw b n EE)).1 hn
    have e5:lH sz l b=0:=by
     unfold lH;have:(l.findSome? fun h=>sz h b)=none:=by
      rw [List.findSome?_eq_none_iff];intro y hy;cases EC:sz y b with
      |none=>rfl
      |some n=>exact absurd (Z.Pw y b n EC) hn
     rw [this];rfl
    unfold qo;rw [e4,e5];rfl
 ·rw [eD,jX]
  refine List.mem_append_left _ ?_;split at e
  ·exact(u3 b (O.Pw b n e)).1
  ·exact Z.Pw y b n e
end Go.Proofs.YtnboahlopghcjaaGreatDoor
namespace Go.Proofs.YtnboahlopghcjaaGreatDoor
open Go.Proofs.Tryz
open Go Go.bS
noncomputable def xt(G:GS)(h:HT):List HT->List HT
 | []=> []
 |a::r=>(if mF G.D a h then [a]else [])++if eT G.D a h then []else bL G.D (dJ (G.iw a).merge (G.iw a).dM) h++xt G h r
theorem Up.inv{P:List Int}{i:Nat}{l:List Nat}(h:Up P i l):(i=0/\l= [0])\/ ∃(j:Nat) (r:List Nat),l=i::r/\P[i]? =some (j:Int)/\Up P j r:=by
 cases h with
 |root=>exact .inl ⟨rfl,rfl⟩
 |step h1 h2=>exact .inr ⟨_,_,rfl,h1,h2⟩
theorem cY.inv{D:DG}{P:List Int}(W:jj D)(H:qP D P){h:HT}{l:List HT}(hm:h∈ids D)(c:cY D P h l):
 (l= [h]/\ ∃nd,D[0]? =some nd/\nd.id=h)\/ ∃(s:HT) (r:List HT),l=h::r/\kj D P s h/\s∈ids D/\cY D P s r:=by
 rcases c with⟨hn,_⟩|⟨i,m,ks,h1,h2,h3,h4⟩
 ·exact absurd hm hn
 ·rcases h3.inv with⟨rfl,rfl⟩|⟨j,r,rfl,h5,h6⟩
  ·refine .inl ⟨?_,m,h1,h2⟩
   rw [h4,List.map_cons,List.map_nil,ml h1,h2]
  ·have hj:j<D.length:=by
    cases i with
    |zero=>rw [H.root]at h5;simp only [Option.some.injEq]at h5;omega
    |succ i=>
     obtain⟨j',m',e,_,h7,_⟩:=H.up (i+1) _ m (by omega) h5 h1;have:=(List.getElem?_eq_some_iff.1 h7).1;omega
   obtain⟨mj,Nj⟩: ∃mj,D[j]? =some mj:=⟨_,List.getElem?_eq_getElem hj⟩;refine .inr ⟨mj.id,r.map (nx D),?_,⟨i,j,m,mj,h1,h2,h5,Nj,rfl⟩,dI.2 ⟨mj,List.mem_of_getElem? Nj,rfl⟩,.inr ⟨j,mj,r,Nj,rfl,h6,rfl⟩⟩;rw [h4,List.map_cons,ml h1,h2]
theorem Ou{k:Nat}{G:GS}(H:jE k G)(h:HT): ∀(l:List HT) (s:HT),s∈ids G.D->cY G.D G.P s l->(xt G h l).Nodup/\ ∀y,y∈xt G h l↔y∈bL G.D (G.world s++ [s]) h:=by
 intro l
 induction l with
 |nil=>
  intro s hs c;rcases c.inv H.W H.jJ hs with⟨e,_⟩|⟨_,_,e,_⟩<;>cases e
 |cons a r ih=>
  intro s hs c;have key: ∀(wb:List HT),G.world s=wb++dJ (G.iw s).merge (G.iw s).dM->(xt G h r).Nodup->(∀y,y∈xt G h r↔y∈bL G.D wb h)->a=s->(xt G h (a::r)).Nodup/\ ∀y,y∈xt G h (a::r)↔y∈bL G.D (G.world s++ [s]) h:=by
   rintro wb hw hn hy rfl;obtain⟨w1,w2,_⟩:=H.wd a hs;have YV:=eT.irrefl H.W a;rw [hw]at w1 w2⊢;rw [List.nodup_append]at w1;obtain⟨w3,w4,w5⟩:=w1;unfold xt;by_cases ha:eT G.D a h
   ·have Jb: ¬mF G.D a h:=fun e=>e.2.1 ha
    rw [if_pos ha,if_neg Jb];refine⟨by simp,fun y=>?_⟩;simp only [List.append_nil,List.not_mem_nil,false_iff];intro e;obtain⟨e1,e2⟩:=eZ.1 e;rcases List.mem_append.1 e1 with e1|e1
    ·exact e2.2.1 ((w2 y e1).trans ha)
    ·have:y=a:=by simpa using e1
     subst this;exact Jb e2
   ·rw [if_neg ha]
    have hr: ∀y∈xt G h r,y∈wb:=fun y e=>(eZ.1 ((hy y).1 e)).1;refine⟨?_,fun y=>?_⟩
    ·refine List.nodup_append.2 ⟨by split<;>simp,List.nodup_append.2 ⟨w4.filter _,hn,?_⟩,?_⟩
     ·intro x hx z hz e
      subst e;exact w5 x (hr x hz) x (eZ.1 hx).1 rfl
     ·intro x hx z hz e
      subst e;split at hx
      ·have:x=a:=by simpa using hx
       subst this;refine YV (w2 x ?_);rcases List.mem_append.1 hz with hz|hz
       ·exact List.mem_append_right _ (eZ.1 hz).1
       ·exact List.mem_append_left _ (hr x hz)
      ·simp at hx
    ·rw [fg,fg]
     simp only [List.mem_append,hy];have e1:y∈(if mF G.D a h then [a]else [])↔y∈bL G.D [a] h:=by
      unfold bL;by_cases hp:mF G.D a h
      ·rw [if_pos hp,List.filter_cons_of_pos (by simpa using hp)];rfl
      ·rw [if_neg hp,List.filter_cons_of_neg (by simpa using hp)];rfl
     rw [e1];constructor
     ·rintro(e|e|e)
      ·exact .inr e
      ·exact .inl (.inr e)
      ·exact .inl (.inl e)
     ·rintro((e|e)|e)
      ·exact .inr (.inr e)
      ·exact .inr (.inl e)
      ·exact .inl e
  rcases c.inv H.W H.jJ hs with⟨e,nd,h0,rfl⟩|⟨t,r',e,pK,ht,hc⟩
  ·obtain⟨r1,r2⟩:=H.root nd h0
   cases e;exact key [] (by rw [r2,r1];simp [dJ]) (by simp [xt]) (fun y=>by simp [xt,bL]) rfl
  ·cases e
   obtain⟨_,u2,_⟩:=H.up t a pK;obtain⟨i1,i2⟩:=ih t ht hc;exact key (G.world t++ [t]) u2 i1 i2 rfl
noncomputable def np(G:GS)(h:HT)(bl l:List HT):List HT:=bL G.D bl h++xt G h l
theorem JL{k:Nat}{G:GS}(H:jE k G){h s:HT}{l bl:List HT}(hs:s∈ids G.D)(hl:cY G.D G.P s l)(hn:(G.world s++ [s]++bl).Nodup):
 (np G h bl l).Nodup/\(np G h bl l).length=(bL G.D (G.world s++ [s]++bl) h).length/\ ∀y,y∈np G h bl l↔y∈bL G.D (G.world s++ [s]++bl) h:=by
 obtain⟨h1,h2⟩:=Ou H h l s hs hl;have h0:=hn;rw [List.nodup_append]at hn;obtain⟨n1,n2,n3⟩:=hn;have hm: ∀y,y∈np G h bl l↔y∈bL G.D (G.world s++ [s]++bl) h:=fun y=>by
  unfold np;rw [fg,List.mem_append,List.mem_append,h2];exact Or.comm
 have fy:(np G h bl l).Nodup:=by
  refine List.nodup_append.2 ⟨n2.filter _,h1,?_⟩;intro x hx z hz e;subst e;exact n3 x (eZ.1 ((h2 x).1 hz)).1 x (eZ.1 hx).1 rfl
 exact⟨fy,((List.perm_ext_iff_of_nodup fy (h0.filter _)).2 hm).length_eq,hm⟩
def qh(k:Nat)(kn:HT->Nat)(done:List HT)(b:HT):Bool:=decide (done.length+1<=k/\kn b<k)
def eE(k:Nat)(kn:HT->Nat):List HT->List HT->Bool
 |_,[]=>true
 |done,b::l=>qh k kn done b&&eE k kn (done++ [b]) l
theorem oH{k:Nat}{kn:HT->Nat}: ∀ {l done:List HT},eE k kn done l=true↔(l≠ []->done.length+l.length<=k)/\ ∀b∈l,kn b<k
 | [],done=>by simp [eE]
 |b::l,done=>by
  unfold eE qh;rw [Bool.and_eq_true,decide_eq_true_eq,oH];simp only [List.length_append,List.length_cons,List.length_nil,List.mem_cons,forall_eq_or_imp,ne_eq,reduceCtorEq,not_false_eq_true,forall_const];constructor
  ·rintro⟨⟨h1,h2⟩,h3,h4⟩
   refine⟨?_,h2,h4⟩;by_cases e:l= []
   ·subst e;simpa using h1
   ·have:=h3 e;omega
  ·rintro⟨h1,h2,h3⟩
   refine⟨⟨by omega,h2⟩,fun _=>by omega,h3⟩
theorem lA{k:Nat}{kn:HT->Nat}: ∀ {l m done:List HT},eE k kn done (l++m)=(eE k kn done l&&eE k kn (done++l) m)
 | [],m,done=>by simp [eE]
 |b::l,m,done=>by
  simp only [List.cons_append,eE,lA (l:=l),Bool.and_assoc,List.append_assoc,List.nil_append]
theorem Hk{k:Nat}{D:DG}{wd:List HT}{kn:HT->Nat}{h:HT}{c:List HT}(hk: ∀b∈wd,kn b=(bL D wd b).length)(hl:c.length=(bL D wd h).length)(hm: ∀y,y∈c↔y∈bL D wd h):
 eE k kn [] c=ns k D wd h:=by
 rw [Bool.eq_iff_iff,oH];unfold ns;rw [decide_eq_true_eq];simp only [List.length_nil,Nat.zero_add,<-hl];constructor
 ·rintro⟨h1,h2⟩
  refine⟨?_,fun y hy=>?_⟩
  ·by_cases e:c= []
   ·subst e;simp
   ·exact h1 e
  ·have:=h2 y ((hm y).2 hy)
   rw [hk y (eZ.1 hy).1]at this;omega
 ·rintro⟨h1,h2⟩
  refine⟨fun _=>h1,fun y hy=>?_⟩;have hy:=(hm y).1 hy;rw [hk y (eZ.1 hy).1];have:=h2 y hy;omega
end Go.Proofs.YtnboahlopghcjaaGreatDoor
namespace Go.Proofs.YtnboahlopghcjaaGreatDoor
open Go.Proofs.Tryz
open Go Go.bS Go.RowKit
theorem FE:vz eA eF (.pointer none):=⟨by kernel_rfl,sO (by kernel_rfl)⟩
theorem qk:vz cg iX (.int .i64 0):=⟨by kernel_rfl,sO (by kernel_rfl)⟩
structure Bo(w:World)(A:Option Addr)(n:Nat)(l:List Bool):Prop where
 len:l.length=n
 at_: ∀(i:Nat) (b:Bool),l[i]? =some b-> ∃a,A=some a/\a.block<w.heap.size/\w.cell? (a.add i)=some (.bool b)
theorem Bo.aD{S:Nat->Prop}{w w':World}{A:Option Addr}{n:Nat}{l:List Bool}(h:Bo w A n l)(hk:Kept S w w')(hn: ∀a,A=some a-> ¬S a.block):Bo w' A n l:=⟨h.len,fun i x hi=>by
 obtain⟨a,h1,h2,h3⟩:=h.at_ i x hi;exact⟨a,h1,Nat.lt_of_lt_of_le h2 hk.size,hk.cell h3 (by rw [ee];exact hn a h1)⟩⟩
theorem Bo.same{w w':World}{A:Option Addr}{n:Nat}{l:List Bool}(h:Bo w A n l)(hk:Kept Nil w w'):Bo w' A n l:=h.aD hk fun _ _ h=>h
def Io(ov:HT->Option Nat)(b:HT):Option Value:=(ov b).map fun n:Nat=>.int .i64 (n:Int)
def Eu(w:World)(F:Nat->Prop)(sm:Option Nat)(sz:HT->Option Nat):Prop:=
 (sm=none/\ ∀b,sz b=none)\/ ∃s,sm=some s/\F s/\fc w s (Io sz)
def cC(c:nN)(A:Option Addr)(n cp:Nat)(B:Option Addr)(m cq:Nat):Array Value:=c.jJ.1++ #[.int .u64 (c.score:Int),.slice A n cp,.slice B m cq]
structure po(w:World)(F:Nat->Prop)(q:Nat)(c:nN)(sz:HT->Option Nat)(A:Option Addr)(n cp:Nat)(B:Option Addr)(m cq:Nat)(sm:Option Nat):Prop where
 top:w.heap[q]? =some (.cells (cC c A n cp B m cq++ #[.map sm]) dK (0,0))
 mg:HS w A n c.merge
 bl:Bo w B m c.dM
 fA: ∀a,A=some a->F a.block
 fB: ∀a,B=some a->F a.block
 sz:Eu w F sm sz
 fq:F q
def Seen(w:World)(F:Nat->Prop)(q:Nat)(c:nN)(sz:HT->Option Nat):Prop:= ∃A n cp B m cq sm,po w F q c sz A n cp B m cq sm
section
variable{w w':World}{F S:Nat->Prop}{q:Nat}{c:nN}{sz:HT->Option Nat}{A B:Option Addr}{n cp m cq:Nat}{sm:Option Nat}
theorem Eu.aD(h:Eu w F sm sz)(hk:Kept S w w')(hF: ∀j,F j-> ¬S j):Eu w' F sm sz:=by
 rcases h with h|⟨s,h1,h2,h3⟩
 ·exact .inl h
 ·exact .inr ⟨s,h1,h2,h3.aD hk (hF _ h2)⟩
theorem po.aD(h:po w F q c sz A n cp B m cq sm)(hk:Kept S w w')(hF: ∀j,F j-> ¬S j):po w' F q c sz A n cp B m cq sm:=
 ⟨hk.heap h.top (hF _ h.fq),h.mg.aD hk (fun a ha=>hF _ (h.fA a ha)),h.bl.aD hk (fun a ha=>hF _ (h.fB a ha)),h.fA,h.fB,h.sz.aD hk hF,h.fq⟩
theorem Seen.aD(h:Seen w F q c sz)(hk:Kept S w w')(hF: ∀j,F j-> ¬S j):Seen w' F q c sz:=by
 obtain⟨A,n,cp,B,m,cq,sm,h⟩:=h;exact⟨A,n,cp,B,m,cq,sm,h.aD hk hF⟩
theorem a7(c:nN)(A:Option Addr)(n cp:Nat)(B:Option Addr)(m cq:Nat):(cC c A n cp B m cq).size=35:=by
 unfold cC;rw [Array.size_append,c.jJ.2.1];rfl
theorem eV(c:nN)(A:Option Addr)(n cp:Nat)(B:Option Addr)(m cq:Nat)(r:Array Value):
 ((cC c A n cp B m cq)++r)[32]? =some (.int .u64 (c.score:Int))/\((cC c A n cp B m cq)++r)[33]? =some (.slice A n cp)/\((cC c A n cp B m cq)++r)[34]? =some (.slice B m cq)/\((cC c A n cp B m cq)++r)[35]? =r[0]? :=by
 have hs:=a7 c A n cp B m cq;have h0:c.jJ.1.size=32:=c.jJ.2.1;refine⟨?_,?_,?_,?_⟩
 ·rw [Array.getElem?_append_left (by omega)];unfold cC;rw [Array.getElem?_append_right (by omega),h0];rfl
 ·rw [Array.getElem?_append_left (by omega)];unfold cC;rw [Array.getElem?_append_right (by omega),h0];rfl
 ·rw [Array.getElem?_append_left (by omega)];unfold cC;rw [Array.getElem?_append_right (by omega),h0];rfl
 ·rw [Array.getElem?_append_right (by omega),hs]
theorem po.Um(h:po w F q c sz A n cp B m cq sm):w.cell? (((⟨q,0,none⟩:Addr).add 0).add 32)=some (.int .u64 (c.score:Int)):=by
 rw [add_zero,a8,ax h.top];exact(eV ..).1
theorem po.c35(h:po w F q c sz A n cp B m cq sm):w.cell? ((⟨q,0,none⟩:Addr).add 35)=some (.map sm):=by
 rw [a8,ax h.top];exact(eV ..).2.2.2
theorem po.iw(h:po w F q c sz A n cp B m cq sm):Cells w ((⟨q,0,none⟩:Addr).add 0) (cC c A n cp B m cq):=by
 intro j u hj;rw [add_zero,a8,ax h.top,Array.getElem?_append_left (by rw [a7];have:=(Array.getElem?_eq_some_iff.1 hj).1;rw [a7]at this;omega)];rw [Nat.zero_add];exact hj
end
structure CM where
 x:Nat
 mb:Nat
 SX:Nat->Prop
 FX:Nat->Prop
 q:HT->Nat
 sz:HT->HT->Option Nat
def CM.own(m:CM)(c j:Nat):Prop:=m.SX j\/j=c\/j=m.mb
structure CV(w:World)(F:Nat->Prop)(c:Nat)(k:Nat)(G:GS)(m:CM):Prop where
 top:w.heap[c]? =some (.cells #[.int .i64 (k:Int),.pointer (some ⟨m.x,0,none⟩),.map (some m.mb)] gg (0,0))
 X:Br w m.SX m.FX m.x G.D G.P
 all:fc w m.mb fun h=>if h∈ids G.D then some (.pointer (some ⟨m.q h,0,none⟩))else none
 seen: ∀h∈ids G.D,Seen w F (m.q h) (G.iw h) (m.sz h)
 fO:jE k G
 Z:SZ G m.sz
 fx: ∀j,m.FX j->F j
 fo: ∀j,F j-> ¬m.own c j
 so: ∀j,m.SX j->j≠c/\j≠m.mb
 ne:c≠m.mb
 low: ∀j,m.own c j\/F j->j<w.heap.size
section
variable{w w':World}{F S:Nat->Prop}{c k:Nat}{G:GS}{m:CM}{K:Value->World->Prop}
theorem CV.aD{S0:Nat->Prop}(h:CV w F c k G m)(hk:Kept S0 w w')(hS: ∀j,m.own c j-> ¬S0 j)(hF: ∀j,F j-> ¬S0 j):CV w' F c k G m where
 top:=hk.heap h.top (hS _ (.inr (.inl rfl)))
 X:=h.X.aD hk (fun j e=>hS j (.inl e)) (fun j e=>hF j (h.fx j e))
 all:=h.all.aD hk (hS _ (.inr (.inr rfl)))
 seen:=fun y hy=>(h.seen y hy).aD hk hF
 fO:=h.fO
 Z:=h.Z
 fx:=h.fx
 fo:=h.fo
 so:=h.so
 ne:=h.ne
 low:=fun j e=>Nat.lt_of_lt_of_le (h.low j e) hk.size
theorem CV.same(h:CV w F c k G m)(hk:Kept Nil w w'):CV w' F c k G m:=h.aD hk (fun _ _ h=>h) (fun _ _ h=>h)
theorem CV.c0(h:CV w F c k G m):w.cell? ((⟨c,0,none⟩:Addr).add 0)=some (.int .i64 (k:Int)):=by rw [a8,ax h.top];rfl
theorem CV.c1(h:CV w F c k G m):w.cell? ((⟨c,0,none⟩:Addr).add 1)=some (.pointer (some ⟨m.x,0,none⟩)):=by rw [a8,ax h.top];rfl
theorem CV.c2(h:CV w F c k G m):w.cell? ((⟨c,0,none⟩:Addr).add 2)=some (.map (some m.mb)):=by rw [a8,ax h.top];rfl
theorem CV.look(h:CV w F c k G m)(y:HT):(Instr.lookup eA (.map (some m.mb)) (.agg y.1) false).run prog w=.ok (.pointer (if y∈ids G.D then some ⟨m.q y,0,none⟩else none)) w:=by
 have:=h.all.look FE y;by_cases hy:y∈ids G.D
 ·rw [if_pos hy]at this;rw [if_pos hy];exact this
 ·rw [if_neg hy]at this;rw [if_neg hy];exact this
theorem CV.mW(h:CV w F c k G m){y:HT}(hy:y∈ids G.D):(Instr.lookup eA (.map (some m.mb)) (.agg y.1) false).run prog w=.ok (.pointer (some ⟨m.q y,0,none⟩)) w:=by
 have:=h.look y;rwa [if_pos hy]at this
theorem oB(h:CV w F c k G m)(hK:K (.bool true) w):bk prog dQ.id #[.pointer (some ⟨c,0,none⟩)] w K:=
 dQ.of (Split.yes rfl ⟨_,h.c1,hK⟩)
theorem Ef{A:Addr}{x y:Int}{cx:Nat}(h0:w.cell? A=some (.int .i64 x))(h1:w.cell? (A.add 1)=some (.int .i64 y))(hK:K (.int .i64 (if x=0 then y else x)) w):
 bk prog bD.id #[.slice (some A) 2 cx] w K:=by
 refine bD.of ?_;unfold bD.W;refine bD.b9 (I:=fun s w'=>w'=w/\((s=(0,0))\/(s=(0,1)/\x=0)\/(s=(0,2)/\x=0/\y=0))) (μ:=fun s _=>(2-s.2).toNat) (s:=(0,0)) ⟨rfl,.inl rfl⟩ ?_;rintro s w' ⟨rfl,h⟩;rcases h with rfl|⟨rfl,hx⟩|⟨rfl,hx,hy⟩
 ·refine Split.yes rfl ⟨by simp only;omega,x,by rw [show(0:Int).toNat*1=0 from rfl,add_zero];exact h0,?_⟩
  by_cases hx:x=0
  ·refine Split.no (by simp [hx]) ?_
   exact⟨(0,1),rfl,⟨rfl,.inr (.inl ⟨rfl,hx⟩)⟩,by simp only;omega⟩
  ·refine Split.yes (by simpa using hx) ?_
   rw [if_neg hx]at hK;rw [gS];exact hK
 ·refine Split.yes rfl ⟨by simp only;omega,y,h1,?_⟩
  rw [if_pos hx]at hK;by_cases hy:y=0
  ·refine Split.no (by simp [hy]) ?_
   exact⟨(0,2),rfl,⟨rfl,.inr (.inr ⟨rfl,hx,hy⟩)⟩,by simp only;omega⟩
  ·refine Split.yes (by simpa using hy) ?_
   rw [gS];exact hK
 ·refine Split.no rfl ?_
  rw [aS,bD.cZ];rw [if_pos hx,hy]at hK;exact hK
theorem A9{x y:Int}(hK:K (.int .i64 (if x<y then-1 else if y<x then 1 else 0)) w):bk prog dp.id #[.int .u64 x,.int .u64 y] w K:=by
 refine dp.of ?_;refine eJ.of ⟨_,rfl,?_⟩;refine eJ.of ⟨_,rfl,?_⟩;refine Split.no (by simp) (Split.no (by simp) (Split.dec (fun h=>?_) (fun h=>Split.dec (fun h'=>?_) (fun h'=>?_))))
 ·rw [if_pos h]at hK;exact hK
 ·rw [if_neg h,if_pos h']at hK;exact hK
 ·rw [if_neg h,if_neg h']at hK;exact hK
theorem lL(h:CV w F c k G m){a b:HT}(ha:a∈ids G.D)(hb:b∈ids G.D)(hK: ∀w',Kept Nil w w'->K (.int .i64 (y7 G a b)) w'):
 bk prog bp.id #[.pointer (some ⟨c,0,none⟩),.agg a.1,.agg b.1] w K:=by
 refine bp.of ?_;unfold bp.W;intro w4 w5 w6;have k4:Kept Nil w w4:=(Kept.refl _ _).alloc _;have vn:w4.heap[w.heap.size]? =some (.cells a.1 ai (0,0)):=aH w _;have k5:Kept Nil w4 w5:=(Kept.refl _ _).alloc _;have lU:w5.heap[w4.heap.size]? =some (.cells b.1 ai (0,0)):=aH w4 _;have k6:Kept Nil w5 w6:=(Kept.refl _ _).drew;clear_value w6;have vm:=(k5.trans k6 (fun _ _ h=>h)).heap vn (fun h=>h);have nK:=k6.heap lU (fun h=>h);have oV:=(k4.trans k5 (fun _ _ h=>h)).trans k6 (fun _ _ h=>h);have h6:=h.same oV;obtain⟨A1,n1,c1,B1,m1,d1,s1,sa⟩:=h6.seen a ha;obtain⟨A2,n2,c2,B2,m2,d2,s2,sb⟩:=h6.seen b hb;refine⟨_,h6.c2,a.1,⟨a.2.1,Cells.bA vm⟩,_,h6.mW ha,_,sa.Um,_,h6.c2,b.1,⟨b.2.1,Cells.bA nK⟩,_,h6.mW hb,_,sb.Um,a.1,⟨a.2.1,Cells.bA vm⟩,b.1,⟨b.2.1,Cells.bA nK⟩,?_⟩;refine A9 ⟨_,rfl,⟨b.1,rfl,b.2.1,Cells.bA nK⟩,⟨a.1,rfl,a.2.1,Cells.bA vm⟩,?_⟩;refine oE a b ⟨_,rfl,?_⟩;have k7:Kept Nil w6 ((w6.alloc (.cells a.1 ai)).alloc (.cells b.1 ai)).drew:=(((Kept.refl Nil w6).alloc _).alloc _).drew;generalize ((w6.alloc (.cells a.1 ai)).alloc (.cells b.1 ai)).drew=w7 at k7⊢;intro w8;have k8:Kept Nil w7 w8:=(Kept.refl _ _).alloc _;have EH:w8.heap[w7.heap.size]? =some (.cells _ _ (0,0)):=aH w7 _;clear_value w8;refine Ef (A:=⟨w7.heap.size,0,none⟩) (by rw [ax EH];rfl) (by rw [a8,ax EH];rfl) ⟨_,rfl,?_⟩;have e:(if(if((G.iw a).score:Int)<((G.iw b).score:Int)then(-1:Int)else if((G.iw b).score:Int)<((G.iw a).score:Int)then 1 else 0)=0 then j0 a b else if((G.iw a).score:Int)<((G.iw b).score:Int)then(-1:Int)else if((G.iw b).score:Int)<((G.iw a).score:Int)then 1 else 0)=y7 G a b:=by
  rw [JK];unfold GS.score;by_cases h1:(G.iw a).score<(G.iw b).score
  ·have r9:((G.iw a).score:Int)<((G.iw b).score:Int):=by omega
   rw [if_pos h1,if_pos r9,if_neg (by decide)]
  ·have r9: ¬((G.iw a).score:Int)<((G.iw b).score:Int):=by omega
   by_cases h2:(G.iw b).score<(G.iw a).score
   ·have ui:((G.iw b).score:Int)<((G.iw a).score:Int):=by omega
    rw [if_neg h1,if_neg r9,if_pos h2,if_pos ui,if_neg (by decide)]
   ·have ui: ¬((G.iw b).score:Int)<((G.iw a).score:Int):=by omega
    rw [if_neg h1,if_neg r9,if_neg h2,if_neg ui,if_pos rfl]
 rw [e];exact hK _ ((oV.trans k7 (fun _ _ h=>h)).trans k8 (fun _ _ h=>h))
end
end Go.Proofs.YtnboahlopghcjaaGreatDoor
namespace Go.Proofs.YtnboahlopghcjaaGreatDoor
open Go.Proofs.Tryz
open Go Go.bS Go.RowKit
section
variable{w:World}
theorem fc.BY{mt te:TypeId}{z:Value}(T:vz mt te z){m:Nat}{f:HT->Option Value}(hm:fc w m f)(h:HT):
 (Instr.lookup mt (.map (some m)) (.agg h.1) true).run prog w=.ok (.tuple #[(f h).getD z,.bool (f h).isSome]) w:=by
 obtain⟨es,clock,l,h1,h2,h3,_⟩:=hm.ex;have h4:=kI h w h2;have h5:=lM h l 0;rw [h3]at h5;simp only [Instr.lookup,Sem.run_bind,run_underlying T.nJ,oC h1,Result.andThen_ok,Sem.run_pure,iz,h4];cases hp:kH h l 0 with
 |none=>rw [hp]at h5;simp [<-h5,T.zero]
 |some p=>rw [hp]at h5;simp [<-h5]
theorem zZ{mt te:TypeId}{z:Value}(T:vz mt te z)(h:HT):
 (Instr.lookup mt (.map none) (.agg h.1) true).run prog w=.ok (.tuple #[z,.bool false]) w:=by
 have h3:=kI (es:= []) (l:= []) h w trivial;simp only [Instr.lookup,Sem.run_bind,run_underlying T.nJ,Result.andThen_ok,Sem.run_pure,iz];simp [h3,kH,T.zero]
theorem Eu.BY{F:Nat->Prop}{sm:Option Nat}{sz:HT->Option Nat}(h:Eu w F sm sz)(b:HT):
 (Instr.lookup cg (.map sm) (.agg b.1) true).run prog w=.ok (.tuple #[.int .i64 (((sz b).getD 0:Nat):Int),.bool (sz b).isSome]) w:=by
 rcases h with⟨rfl,h⟩|⟨s,rfl,_,h⟩
 ·rw [h b];exact zZ qk b
 ·have:=h.BY qk b
  unfold Io at this;cases hb:sz b with
  |none=>rw [hb]at this;exact this
  |some n=>rw [hb]at this;exact this
end
section
variable{w w':World}{F S:Nat->Prop}{c k:Nat}{G:GS}{m:CM}{K:Value->World->Prop}
theorem yR(h:CV w F c k G m)(hD:G.D.length<=5000)(a b:HT)(hK: ∀w' (r:Bool),(r=true↔mF G.D a b)->Kept Nil w w'->K (.bool r) w'):
 bk prog cS.id #[.pointer (some ⟨c,0,none⟩),.agg a.1,.agg b.1] w K:=by
 refine cS.of ?_;unfold cS.W;intro w4 w5 w6;have k4:Kept Nil w w4:=(Kept.refl _ _).alloc _;have vn:w4.heap[w.heap.size]? =some (.cells a.1 ai (0,0)):=aH w _;have k5:Kept Nil w4 w5:=(Kept.refl _ _).alloc _;have lU:w5.heap[w4.heap.size]? =some (.cells b.1 ai (0,0)):=aH w4 _;have k6:Kept Nil w5 w6:=(Kept.refl _ _).drew;clear_value w6;have vm:=(k5.trans k6 (fun _ _ h=>h)).heap vn (fun h=>h);have nK:=k6.heap lU (fun h=>h);have oV:=(k4.trans k5 (fun _ _ h=>h)).trans k6 (fun _ _ h=>h);have h6:=h.same oV;refine⟨a.1,⟨a.2.1,Cells.bA vm⟩,b.1,⟨b.2.1,Cells.bA nK⟩,⟨a.2.ints,b.2.ints⟩,?_⟩;rw [cQ];by_cases lr:a=b
 ·refine Split.no (by rw [decide_eq_true lr];rfl) (hK w6 false ⟨(fun e=>by cases e),fun e=>absurd lr e.1⟩ oV)
 ·refine Split.yes (by rw [decide_eq_false lr];rfl) ⟨_,h6.c1,a.1,⟨a.2.1,Cells.bA vm⟩,b.1,⟨b.2.1,Cells.bA nK⟩,?_⟩
  obtain⟨mx,X6,_⟩:=h6.X;refine kL X6 hD a b fun w7 r hr k7=>⟨_,rfl,?_⟩;have uN:=oV.trans k7 (fun _ _ h=>h);cases r with
  |true=>exact Split.no rfl (hK w7 false ⟨(fun e=>by cases e),fun e=>absurd (hr.1 rfl) e.2.1⟩ uN)
  |false=>
   have h7:=h.same uN;refine Split.yes rfl ⟨_,h7.c1,b.1,⟨b.2.1,Cells.bA (k7.heap nK (fun h=>h))⟩,a.1,⟨a.2.1,Cells.bA (k7.heap vm (fun h=>h))⟩,?_⟩;obtain⟨mx',X7,_⟩:=h7.X;refine kL X7 hD b a fun w8 r' Pe k8=>⟨_,rfl,hK w8 _ ?_ (uN.trans k8 (fun _ _ h=>h))⟩;cases r' with
   |true=>exact⟨(fun e=>by cases e),fun e=>absurd (Pe.1 rfl) e.2.2⟩
   |false=>exact⟨fun _=>⟨lr,(fun e=>by have:=hr.2 e;cases this),(fun e=>by have:=Pe.2 e;cases this)⟩,fun _=>rfl⟩
def iT(D:DG)(l:List HT):Int:=if l= []then 9 else if ∃p∈l,p∉ids D then 6 else 0
theorem wg(h:CV w F c k G m){A:Option Addr}{n cx:Nat}{l:List HT}(hl:HS w A n l)(hn:n<=400000)(hK: ∀w',Kept Nil w w'->K (.int .i64 (iT G.D l)) w'):
 bk prog dT.id #[.pointer (some ⟨c,0,none⟩),.slice A n cx] w K:=by
 have hlen:=hl.len;refine dT.of ?_;unfold dT.W;intro w4;have k4:Kept Nil w w4:=(Kept.refl _ _).alloc _;have NO:w4.heap[w.heap.size]? =some (.cells #[.pointer (some ⟨c,0,none⟩)] gu (0,0)):=aH w _;clear_value w4;refine⟨some ⟨c,0,none⟩,by rw [ax NO];rfl,oB (h.same k4) ⟨_,rfl,Split.no rfl ?_⟩⟩;by_cases h0:n=0
 ·subst h0
  have e:l= []:=List.eq_nil_of_length_eq_zero hlen;refine Split.yes rfl ?_;have:=hK w4 k4;unfold iT at this;rw [if_pos e]at this;exact this
 ·have fE:l≠ []:=fun e=>by subst e;exact h0 hlen.symm
  refine Split.no (by simpa using (by omega: ¬(n:Int)=0)) ?_;refine bP.of (ak.of ?_);refine ak.b9 (I:=fun s w'=> ∃i:Nat,s=(0,(i:Int))/\i<=n/\(∀p∈l.take i,p∈ids G.D)/\Kept Nil w4 w') (μ:=fun s _=>((n:Int)-s.2).toNat) (s:=(0,0)) ⟨0,rfl,Nat.zero_le _,by simp,Kept.refl _ _⟩ ?_;rintro s w' ⟨i,rfl,hi,cP,kw⟩;have k0w:=k4.trans kw (fun _ _ h=>h);refine Split.dec (fun iP=>?_) (fun fV=>?_)
  ·simp only at iP
   have dN:i<n:=by omega
   obtain⟨y,hy⟩: ∃y,l[i]? =some y:=⟨_,List.getElem?_eq_getElem (by omega)⟩;refine(hl.same k0w).load (i:=(i:Int)) (by omega) hy ?_;refine dV.of ?_;unfold dV.W;intro w7 w8;have k7:Kept Nil w' w7:=(Kept.refl _ _).alloc _;have NX:w7.heap[w'.heap.size]? =some (.cells y.1 ai (0,0)):=aH w' _;have k8:Kept Nil w7 w8:=(Kept.refl _ _).drew;clear_value w8;have EH:=k8.heap NX (fun h=>h);have OZ:=(kw.trans k7 (fun _ _ h=>h)).trans k8 (fun _ _ h=>h);have h8:=h.same (k4.trans OZ (fun _ _ h=>h));refine⟨some ⟨c,0,none⟩,by rw [ax (OZ.heap NO (fun h=>h))];rfl,_,h8.c2,y.1,⟨y.2.1,Cells.bA EH⟩,_,h8.look y,_,rfl,?_⟩;by_cases hm:y∈ids G.D
   ·refine Split.no (by rw [if_pos hm];rfl) ?_
    simp only;rw [dG (n:=(i:Int)) (by omega) (by omega)];refine⟨(0,(i:Int)+1),rfl,⟨i+1,rfl,dN,fun p hp=>?_,OZ⟩,by simp only;omega⟩;rcases(bE hy).1 hp with hp|rfl
    ·exact cP p hp
    ·exact hm
   ·refine Split.yes (by rw [if_neg hm];rfl) ?_
    refine⟨(i:Int),rfl,_,rfl,?_⟩;have:=hK w8 (k4.trans OZ (fun _ _ h=>h));unfold iT at this;rw [if_neg fE,if_pos ⟨y,List.mem_of_getElem? hy,hm⟩]at this;refine Split.yes (decide_eq_true (by omega)) this
  ·simp only at fV
   rw [aS,ak.cZ];rw [List.take_of_length_le (by omega)]at cP;refine⟨_,rfl,_,rfl,?_⟩;have:=hK w' k0w;unfold iT at this;rw [if_neg fE,if_neg (fun⟨p,hp,hn⟩=>hn (cP p hp))]at this;exact Split.no (by decide) this
end
end Go.Proofs.YtnboahlopghcjaaGreatDoor
namespace Go.Proofs.YtnboahlopghcjaaGreatDoor
open Go.Proofs.Tryz
open Go Go.bS Go.RowKit
theorem se{α β:Type}{f:α->Option β}{y:α}{n:β}: ∀ {l:List α} {j:Nat},l[j]? =some y->(∀x∈l.take j,f x=none)->f y=some n->l.findSome? f=some n
 | [],j,h,_,_=>by simp at h
 |x::l,0,h,_,hy=>by
  simp only [List.getElem?_cons_zero,Option.some.injEq]at h;subst h;rw [List.findSome?_cons,hy]
 |x::l,j+1,h,ha,hy=>by
  have hx:=ha x (by simp);rw [List.findSome?_cons,hx];exact se (l:=l) (j:=j) (by simpa using h) (fun z hz=>ha z (by simp [hz])) hy
section
variable{w w':World}{F S:Nat->Prop}{c k:Nat}{G:GS}{m:CM}{K:Value->World->Prop}
theorem AO(h:CV w F c k G m)(hD:G.D.length<=5000){a b:HT}(ha:a∈ids G.D){l:List HT}(hc:cY G.D G.P a l)(hK: ∀w',Kept Nil w w'->K (.int .i64 ((lH m.sz l b:Nat):Int)) w'):
 bk prog aY.id #[.pointer (some ⟨c,0,none⟩),.agg a.1,.agg b.1] w K:=by
 have W:=h.fO.W;have H:=h.fO.jJ;have Vh: ∀y∈l,y∈ids G.D:=fun y hy=>((hc.mem W H).1 hy).mem.1;refine aY.of ?_;unfold aY.W;intro w4 w5 w6 w7 w8;have k4:Kept Nil w w4:=(Kept.refl _ _).alloc _;have NO:w4.heap[w.heap.size]? =some (.cells #[.pointer (some ⟨c,0,none⟩)] gu (0,0)):=aH w _;have k5:Kept Nil w4 w5:=(Kept.refl _ _).alloc _;have EI:w5.heap[w4.heap.size]? =some (.cells a.1 ai (0,0)):=aH w4 _;have k6:Kept Nil w5 w6:=(Kept.refl _ _).alloc _;have nK:w6.heap[w5.heap.size]? =some (.cells b.1 ai (0,0)):=aH w5 _;have k7:Kept Nil w6 w7:=(Kept.refl _ _).alloc _;have ED:w7.heap[w6.heap.size]? =some (.cells #[.int .i64 0] iX (0,0)):=aH w6 _;have k8:Kept Nil w7 w8:=(Kept.refl _ _).drew;clear_value w8;have U8:=k8.heap ED (fun h=>h);have EH:=k8.heap (k7.heap nK (fun h=>h)) (fun h=>h);have ha8:=k8.heap (k7.heap (k6.heap EI (fun h=>h)) (fun h=>h)) (fun h=>h);have hc8:=k8.heap (k7.heap (k6.heap (k5.heap NO (fun h=>h)) (fun h=>h)) (fun h=>h)) (fun h=>h);have rY:=(((k4.trans k5 (fun _ _ h=>h)).trans k6 (fun _ _ h=>h)).trans k7 (fun _ _ h=>h)).trans k8 (fun _ _ h=>h);have s06:=(((k4.trans k5 (fun _ _ h=>h)).trans k6 (fun _ _ h=>h))).size;have l7:=aT ED;have l8:=aT U8;clear_value w7 w6 w5 w4;refine⟨some ⟨c,0,none⟩,by rw [ax hc8];rfl,_,(h.same rY).c1,a.1,⟨a.2.1,Cells.bA ha8⟩,?_⟩;refine rR a fun jc pb qb mH I7 I5 Ax hqb=>⟨_,rfl,?_⟩;have Wv:=mH.size;have Gb:=rY.trans mH (fun _ _ h=>h);have Nc:=mH.heap U8 (fun h=>h)
 let AS:Value:=.func (.func aV.id) #[] #[.pointer (some ⟨pb,0,none⟩),.pointer (some ⟨qb,0,none⟩)]
 let ρ0:Env:= [(3,.pointer (some ⟨w.heap.size,0,none⟩)),(5,.pointer (some ⟨w5.heap.size,0,none⟩)),(6,.pointer (some ⟨w6.heap.size,0,none⟩)),(15,AS)]
 let J:Nat->World->Prop:=fun j u=>Kept Nil jc u/\j<=l.length/\ ∀y∈l.take j,m.sz y b=none
 let Jd:Code->World->Prop:=fun e u=>e=.ret/\Kept (fun k=>k=w6.heap.size) jc u/\ ∃n:Nat,(l.findSome? fun y=>m.sz y b)=some n/\u.heap[w6.heap.size]? =some (.cells #[.int .i64 (n:Int)] iX (0,0))
 have k0J: ∀ {u:World},Kept Nil jc u->Kept Nil w u:=fun k=>Gb.trans k (fun _ _ h=>h);have kS: ∀ {v:World},Kept (fun k=>k=w6.heap.size) jc v->Kept Nil w v:=fun k=>Gb.trans k (fun k hk e=>by omega);obtain⟨mx,X35,_⟩:=(h.same Gb).X
 change Holds none [] prog _ _ _ ρ0 jc
 refine mN (n:=33) (ρ:=ρ0) (ρ0:=ρ0) ng mix aY.k (t:=15) (ps:= #[16]) (by kernel_rfl) (by decide) rfl aV.at_ rfl (.inl rfl) (fun i x hi hx=>hx) rfl qz l (fun _=>rfl) (fun q hq=>by
  have e49:q=16:=by simpa using hq
  subst e49;exact⟨by decide,by decide⟩) (BE (F:=m.FX) (x:=m.x) (m:=mx) (pb:=pb) (qb:=qb) hc (by omega)) J Jd ?_ ?_ (fun j u hJ=>⟨X35.same hJ.1,hJ.1.heap I7 (fun h=>h),hJ.1.heap I5 (fun h=>h)⟩) ?_ ?_ ?_ ?_ ?_
 ·rintro j u1 u2 R qv ⟨h1,h2,h3⟩ nh
  exact⟨h1.trans nh (fun k hk e=>by omega),h2,h3⟩
 ·rintro e u1 u2 R qv ⟨h1,h2,n,h3,h4⟩ nh
  exact⟨h1,h2.trans nh (fun k hk e=>by omega),n,h3,nh.heap h4 (by omega)⟩
 ·intro R
  exact⟨(((Kept.refl _ _).alloc _).alloc _),Nat.zero_le _,by simp⟩
 ·rintro j z u1 R hz ⟨h1,h2,h3⟩ qv
  have e7:km ρ0 ((#[16]:Array Nat).toList.zip (qz z))= [(3,.pointer (some ⟨w.heap.size,0,none⟩)),(5,.pointer (some ⟨w5.heap.size,0,none⟩)),(6,.pointer (some ⟨w6.heap.size,0,none⟩)),(15,AS),(16,.agg z.1)]:=rfl;rw [e7,aY.a1];have sY:=(List.getElem?_eq_some_iff.1 hz).1;unfold aY.A1;intro EY;obtain⟨rk,iN,iU⟩:=gq (w:=u1) (z:=de.1) (cs:=z.1) (t:=ai) (by rw [z.2.1];rfl);refine⟨⟨z.2.1,z.2.one,fun j hj=>rk j (by rw [z.2.1];exact hj)⟩,?_⟩;intro JV
  replace iN:JV.heap[u1.heap.size]? =some (.cells z.1 ai (0,0)):=iN
  replace iU:Kept Nil u1 JV:=iU
  clear_value JV;have GI:=qv.aD iU (fun h=>h) (fun h=>h);refine⟨GI,fun w2 R2 mZ sA=>?_⟩;have lK:=mZ.heap iN (jP iN GI.loop);have u7:Kept Nil jc w2:=(h1.trans iU (fun _ _ h=>h)).trans mZ (fun k hk e=>by omega);rw [aY.y1];unfold aY.Y1;intro PU;have Xa:Kept Nil w2 PU:=(Kept.refl _ _).drew;clear_value PU;have Sp:=sA.aD Xa (fun h=>h) (fun h=>h);have yq:=u7.trans Xa (fun _ _ h=>h);have Mn:=mH.trans yq (fun _ _ h=>h);have h48:=h.same (rY.trans Mn (fun _ _ h=>h));obtain⟨A1,n1,c1,B1,m1,d1,s1,sa⟩:=h48.seen z (Vh z (List.mem_of_getElem? hz));refine⟨some ⟨c,0,none⟩,by rw [ax (Mn.heap hc8 (fun h=>h))];rfl,_,h48.c2,z.1,⟨z.2.1,Cells.bA (Xa.heap lK (fun h=>h))⟩,_,h48.mW (Vh z (List.mem_of_getElem? hz)),_,sa.c35,b.1,⟨b.2.1,Cells.bA (Mn.heap EH (fun h=>h))⟩,_,_,sa.sz.BY b,?_⟩;cases hzb:m.sz z b with
  |some n=>
   refine Split.yes rfl ⟨dO (yq.heap Nc (fun h=>h)) (by simp),?_⟩;intro pq;have Na:pq.heap[w6.heap.size]? =some (.cells #[.int .i64 (n:Int)] iX (0,0)):=by
    show(PU.setCell ⟨w6.heap.size,0,none⟩ (.int .i64 (n:Int))).heap[w6.heap.size]? =_;rw [cR (yq.heap Nc (fun h=>h)) 0];rfl
   have DI:Kept (· =w6.heap.size) PU pq:=Kept.setCell (S:=fun k=>k=w6.heap.size) (Kept.refl _ PU) (p:=⟨w6.heap.size,0,none⟩) (fun _=>rfl) _;clear_value pq;exact⟨Sp.aD DI (fun e=>by omega) (fun e=>by omega),rfl,(yq.mono fun _ _ h=>h.elim).trans DI (fun _ _ h=>h),n,se hz h3 hzb,Na⟩
  |none=>
   refine Split.no rfl ⟨Sp,yq,sY,fun y hy=>?_⟩;rcases(bE hz).1 hy with hy|rfl
   ·exact h3 y hy
   ·exact hzb
 ·rintro u1 R ⟨h1,h2,h3⟩ qv
  rw [List.take_of_length_le (Nat.le_refl _)]at h3;have e7:gE ρ0 jc.heap.size= [(3,.pointer (some ⟨w.heap.size,0,none⟩)),(5,.pointer (some ⟨w5.heap.size,0,none⟩)),(6,.pointer (some ⟨w6.heap.size,0,none⟩)),(15,AS),(4294967296,.agg (pF [jc.heap.size]))]:=rfl;rw [e7,aY.jH];unfold aY.iM;have kF:=h1.heap Nc (fun h=>h);refine⟨dO kF (by simp),?_⟩;intro pq;have Na:pq.heap[w6.heap.size]? =some (.cells #[.int .i64 0] iX (0,0)):=by
   show(u1.setCell ⟨w6.heap.size,0,none⟩ (.int .i64 0)).heap[w6.heap.size]? =_;rw [cR kF 0];rfl
  have DI:Kept (· =w6.heap.size) u1 pq:=Kept.setCell (S:=fun k=>k=w6.heap.size) (Kept.refl _ u1) (p:=⟨w6.heap.size,0,none⟩) (fun _=>rfl) _;clear_value pq;have qv:=qv.aD DI (fun e=>by omega) (fun e=>by omega);rw [mh];have kt:=jv [jc.heap.size] pq;have hm: ∀E∈ [jc.heap.size],pq.heap[E]? =some (.deferred (some [])):=fun E hE=>by
   rw [List.mem_singleton]at hE;subst hE;exact qv.mark
  refine⟨lh [jc.heap.size] pq (by simp) hm,0,by rw [ax (kt.heap Na (fun hE=>by rw [List.mem_singleton]at hE;omega))];rfl,?_⟩;have e0:lH m.sz l b=0:=by
   unfold lH;have:(l.findSome? fun h=>m.sz h b)=none:=List.findSome?_eq_none_iff.2 h3;rw [this];rfl
  have:=hK (fH [jc.heap.size] pq) ((kS ((h1.mono fun _ _ h=>h.elim).trans DI (fun _ _ h=>h))).trans kt (fun k hk hE=>by rw [List.mem_singleton]at hE;have:=Gb.size;omega));rw [e0]at this;exact this
 ·rintro u1 R ⟨_,h2,n,h3,h4⟩ qv
  have e7:gE ρ0 jc.heap.size= [(3,.pointer (some ⟨w.heap.size,0,none⟩)),(5,.pointer (some ⟨w5.heap.size,0,none⟩)),(6,.pointer (some ⟨w6.heap.size,0,none⟩)),(15,AS),(4294967296,.agg (pF [jc.heap.size]))]:=rfl;rw [e7,aY.zy];unfold aY.uM;rw [mh];have kt:=jv [jc.heap.size] u1;have hm: ∀E∈ [jc.heap.size],u1.heap[E]? =some (.deferred (some [])):=fun E hE=>by
   rw [List.mem_singleton]at hE;subst hE;exact qv.mark
  refine⟨lh [jc.heap.size] u1 (by simp) hm,(n:Int),by rw [ax (kt.heap h4 (fun hE=>by rw [List.mem_singleton]at hE;omega))];rfl,?_⟩;have e0:lH m.sz l b=n:=by unfold lH;rw [h3];rfl
  have:=hK (fH [jc.heap.size] u1) ((kS h2).trans kt (fun k hk hE=>by rw [List.mem_singleton]at hE;have:=Gb.size;omega));rw [e0]at this;exact this
 ·rintro id u1 R ⟨e,_⟩ qv
  cases e
end
end Go.Proofs.YtnboahlopghcjaaGreatDoor
namespace Go.Proofs.YtnboahlopghcjaaGreatDoor
open Go.Proofs.Tryz
open Go Go.bS Go.RowKit
section
variable{w:World}
theorem za{x:HT}: ∀ {l:List (HT×Value)},assoc x l≠none↔x∈l.map (·.1)
 | []=>by simp [assoc]
 |(y,v)::l=>by
  have:=za (x:=x) (l:=l);unfold assoc;by_cases e:x=y
  ·subst e;simp
  ·rw [if_neg e,this]
   simp only [List.map_cons,List.mem_cons];exact⟨.inr,fun h=>h.resolve_left e⟩
theorem fc.len{mt te:TypeId}{z:Value}(T:vz mt te z){m:Nat}{f:HT->Option Value}(hm:fc w m f)(ty:TypeId){l:List HT}(hn:l.Nodup)(hl: ∀x,f x≠none↔x∈l):
 (Builtin.len_ #[mt] ty #[.map (some m)]).run prog w=.ok (.int .i64 (l.length:Int)) w:=by
 obtain⟨es,clock,l',h1,h2,h3,_,_,h6⟩:=hm.ex;have e1:es.size=l'.length:=by have:=h2.len;simpa using this
 have e2:l'.length=l.length:=by
  have hp:(l'.map (·.1)).Perm l:=(List.perm_ext_iff_of_nodup h6 hn).2 fun x=>by rw [<-za,h3,hl]
  simpa using hp.length_eq
 simp [Builtin.len_,run_underlying T.nJ,oC h1,goInt,Result.andThen,e1,e2]
end
section
variable{w w':World}{F S:Nat->Prop}{c k:Nat}{G:GS}{m:CM}{K:Value->World->Prop}
structure VB(w:World)(c:Nat)(s:HT)(bs bc bh q sm:Nat)(ov:HT->Option Nat):Prop where
 hs:w.heap[bs]? =some (.cells #[.pointer (some ⟨q,0,none⟩)] eF (0,0))
 hc:w.heap[bc]? =some (.cells #[.pointer (some ⟨c,0,none⟩)] gu (0,0))
 hh:w.heap[bh]? =some (.cells s.1 ai (0,0))
 sz:w.cell? ((⟨q,0,none⟩:Addr).add 35)=some (.map (some sm))
 ov:fc w sm (Io ov)
theorem VB.aD{S:Nat->Prop}{s:HT}{bs bc bh q sm:Nat}{ov:HT->Option Nat}(h:VB w c s bs bc bh q sm ov)(hk:Kept S w w')(h1: ¬S bs)(h2: ¬S bc)(h3: ¬S bh)(h4: ¬S q)(h5: ¬S sm):VB w' c s bs bc bh q sm ov:=
 ⟨hk.heap h.hs h1,hk.heap h.hc h2,hk.heap h.hh h3,hk.cell h.sz h4,h.ov.aD hk h5⟩
theorem VB.same{s:HT}{bs bc bh q sm:Nat}{ov:HT->Option Nat}(h:VB w c s bs bc bh q sm ov)(hk:Kept Nil w w'):VB w' c s bs bc bh q sm ov:=h.aD hk (fun h=>h) (fun h=>h) (fun h=>h) (fun h=>h) (fun h=>h)
theorem yQ(h:CV w F c k G m)(hD:G.D.length<=5000){s b:HT}(hs:s∈ids G.D){l:List HT}(hc:cY G.D G.P s l){bs bc bh q sm:Nat}{ov:HT->Option Nat}(V:VB w c s bs bc bh q sm ov)
 (hK: ∀w',Kept Nil w w'->K (.int .i64 ((qo ov (lH m.sz l) b:Nat):Int)) w'):
 bk prog bN.id #[.agg b.1,.pointer (some ⟨bs,0,none⟩),.pointer (some ⟨bc,0,none⟩),.pointer (some ⟨bh,0,none⟩)] w K:=by
 refine bN.of ?_;unfold bN.W;intro w4 w5;have k4:Kept Nil w w4:=(Kept.refl _ _).alloc _;have qN:w4.heap[w.heap.size]? =some (.cells b.1 ai (0,0)):=aH w _;have k5:Kept Nil w4 w5:=(Kept.refl _ _).drew;clear_value w5;have lU:=k5.heap qN (fun h=>h);have mI:=k4.trans k5 (fun _ _ h=>h);have V5:=V.same mI;refine⟨some ⟨q,0,none⟩,by rw [ax V5.hs];rfl,_,V5.sz,b.1,⟨b.2.1,Cells.bA lU⟩,?_⟩;have lk:=V5.ov.BY qk b;unfold Io at lk;cases hb:ov b with
 |some n=>
  rw [hb]at lk;refine⟨(n:Int),true,lk,Split.yes rfl ?_⟩;have:=hK w5 mI;unfold qo at this;rw [hb]at this;exact this
 |none=>
  rw [hb]at lk;refine⟨0,false,lk,Split.no rfl ⟨some ⟨c,0,none⟩,by rw [ax V5.hc];rfl,s.1,⟨s.2.1,Cells.bA V5.hh⟩,b.1,⟨b.2.1,Cells.bA lU⟩,?_⟩⟩;refine AO (h.same mI) hD hs hc fun w7 k7=>⟨_,rfl,?_⟩;have:=hK w7 (mI.trans k7 (fun _ _ h=>h));unfold qo at this;rw [hb]at this;exact this
def xk(w:World)(fm:Nat)(kn:HT->Nat)(done:List HT):Prop:=fc w fm fun y=>if y∈done then some (.int .i64 (kn y:Int))else none
theorem yO(h:CV w F c k G m)(hD:G.D.length<=5000)(nf:k<=1000){s b:HT}(hs:s∈ids G.D){l:List HT}(hc:cY G.D G.P s l){bs bc bh q sm kb fb fm:Nat}{ov:HT->Option Nat}(V:VB w c s bs bc bh q sm ov)
 (K4:w.heap[kb]? =some (.cells #[.func (.func bN.id) #[] #[.pointer (some ⟨bs,0,none⟩),.pointer (some ⟨bc,0,none⟩),.pointer (some ⟨bh,0,none⟩)]] eK (0,0)))
 (Pq:w.heap[fb]? =some (.cells #[.map (some fm)] cg (0,0))) {done:List HT} (hn:done.Nodup) (Vs:b∉done) (hF:xk w fm (qo ov (lH m.sz l)) done) (hfo: ¬m.own c fm) (Zh: ¬F fm) (fE:bc≠fm)
 (hK: ∀w' (r:Bool),r=qh k (qo ov (lH m.sz l)) done b->xk w' fm (qo ov (lH m.sz l)) (done++ [b])->Kept (· =fm) w w'->K (.bool r) w'):
 bk prog cf.id #[.agg b.1,.pointer (some ⟨kb,0,none⟩),.pointer (some ⟨fb,0,none⟩),.pointer (some ⟨bc,0,none⟩)] w K:=by
 have lfm:=hF.lt;refine cf.of ?_;unfold cf.W;intro w4 w5;have k4:Kept Nil w w4:=(Kept.refl _ _).alloc _;have qN:w4.heap[w.heap.size]? =some (.cells b.1 ai (0,0)):=aH w _;have k5:Kept Nil w4 w5:=(Kept.refl _ _).drew;clear_value w5;have lU:=k5.heap qN (fun h=>h);have mI:=k4.trans k5 (fun _ _ h=>h);have hnf:fb≠fm:=fun e=>by subst e;obtain⟨es,cl,_,h1,_⟩:=hF.ex;rw [Pq]at h1;cases h1
 refine⟨some fm,by rw [ax (mI.heap Pq (fun h=>h))];rfl,b.1,⟨b.2.1,Cells.bA lU⟩,_,by rw [ax (mI.heap K4 (fun h=>h))];rfl,b.1,⟨b.2.1,Cells.bA lU⟩,?_⟩;refine⟨_,_,_,_,rfl,bN.at_,rfl,?_⟩;refine yQ (h.same mI) hD hs hc (V.same mI) fun w7 k7=>⟨_,rfl,⟨b.1,rfl,b.2.1,Cells.bA (k7.heap lU (fun h=>h))⟩,?_,?_⟩
 ·rw [ax ((mI.trans k7 (fun _ _ h=>h)).heap Pq (fun h=>h))];rfl
 have uN:=mI.trans k7 (fun _ _ h=>h);obtain⟨w8,U8,hm8,k8⟩:=(hF.same uN).put qk b (.int .i64 ((qo ov (lH m.sz l) b:Nat):Int));refine⟨w8,U8,?_⟩;intro w9;have k9:Kept Nil w8 w9:=(Kept.refl _ _).drew;clear_value w9;have k89:Kept (· =fm) w7 w9:=k8.trans k9 (fun _ _ h=>h.elim);have vc:Kept (· =fm) w w9:=(uN.mono fun _ _ h=>h.elim).trans k89 (fun _ _ h=>h);have Pu:xk w9 fm (qo ov (lH m.sz l)) (done++ [b]):=by
  refine fc.same ?_ k9;have e:(fun y=>if y∈done++ [b]then some (Value.int .i64 ((qo ov (lH m.sz l) y:Nat):Int))else none)=fun x=>if x=b then some (.int .i64 ((qo ov (lH m.sz l) b:Nat):Int))else if x∈done then some (.int .i64 ((qo ov (lH m.sz l) x:Nat):Int))else none:=by
   funext y
   by_cases e:y=b
   ·subst e;rw [if_pos (by simp),if_pos rfl]
   ·rw [if_neg e]
    by_cases hy:y∈done
    ·rw [if_pos (List.mem_append_left _ hy),if_pos hy]
    ·rw [if_neg (by simp [hy,e]),if_neg hy]
  rw [e];exact hm8
 have hb9:w9.heap[w.heap.size]? =some (.cells b.1 ai (0,0)):=((k7.mono fun _ _ h=>h.elim).trans k89 (fun _ _ h=>h):Kept (· =fm) w5 w9).heap lU (by omega);have SU:=vc.heap Pq hnf;have fy:(done++ [b]).Nodup:=List.nodup_append.2 ⟨hn,by simp,fun x hx y hy e=>by
  have:y=b:=by simpa using hy
  subst this;subst e;exact Vs hx⟩
 have h9:CV w9 F c k G m:=h.aD vc (fun j hj e=>by subst e;exact hfo hj) (fun j hj e=>by subst e;exact Zh hj);have hc9:w9.heap[bc]? =some (.cells #[.pointer (some ⟨c,0,none⟩)] gu (0,0)):=vc.heap V.hc fE;refine⟨some fm,by rw [ax SU];rfl,(done++ [b]).length,Pu.len qk iX fy (fun x=>by
  by_cases hx:x∈done++ [b]
  ·rw [if_pos hx];exact⟨fun _=>hx,fun _ e=>by cases e⟩
  ·rw [if_neg hx];exact⟨fun e=>absurd rfl e,fun e=>absurd e hx⟩),some ⟨c,0,none⟩,by rw [ax hc9];rfl,(k:Int),h9.c0,?_⟩
 refine Split.dec (fun h1=>?_) (fun h1=>?_)
 ·have lk:=fc.look qk Pu b
  rw [if_pos (by simp)]at lk;refine⟨some fm,by rw [ax SU];rfl,b.1,⟨b.2.1,Cells.bA hb9⟩,_,lk,some ⟨c,0,none⟩,by rw [ax hc9];rfl,(k:Int),h9.c0,?_⟩;refine hK w9 _ ?_ Pu vc;unfold qh;rw [List.length_append,List.length_cons,List.length_nil]at h1;refine decide_eq_decide.2 ⟨fun h2=>⟨by omega,by omega⟩,fun h2=>by omega⟩
 ·refine hK w9 false ?_ Pu vc
  unfold qh;rw [List.length_append,List.length_cons,List.length_nil]at h1;exact(decide_eq_false (by omega)).symm
end
end Go.Proofs.YtnboahlopghcjaaGreatDoor
namespace Go.Proofs.YtnboahlopghcjaaGreatDoor
open Go.Proofs.Tryz
open Go Go.bS Go.RowKit
structure PN where
 bs:Nat
 bc:Nat
 bh:Nat
 q:Nat
 sm:Nat
 kb:Nat
 fb:Nat
 fm:Nat
 yb:Nat
 hb:Nat
def PN.AS(p:PN):Value:=.func (.func cf.id) #[] #[.pointer (some ⟨p.kb,0,none⟩),.pointer (some ⟨p.fb,0,none⟩),.pointer (some ⟨p.bc,0,none⟩)]
def PN.gD(p:PN)(j:Nat):Prop:=p.bs≠j/\p.bc≠j/\p.bh≠j/\p.q≠j/\p.sm≠j/\p.kb≠j/\p.fb≠j
structure PG(w:World)(F:Nat->Prop)(c k:Nat)(G:GS)(m:CM)(s h:HT)(p:PN)(ov:HT->Option Nat):Prop where
 C:CV w F c k G m
 V:VB w c s p.bs p.bc p.bh p.q p.sm ov
 kb:w.heap[p.kb]? =some (.cells #[.func (.func bN.id) #[] #[.pointer (some ⟨p.bs,0,none⟩),.pointer (some ⟨p.bc,0,none⟩),.pointer (some ⟨p.bh,0,none⟩)]] eK (0,0))
 fb:w.heap[p.fb]? =some (.cells #[.map (some p.fm)] cg (0,0))
 yb:w.cell? ⟨p.yb,0,none⟩=some p.AS
 hb:w.heap[p.hb]? =some (.cells h.1 ai (0,0))
 fo: ¬m.own c p.fm
 ff: ¬F p.fm
 gD:p.gD p.fm
 y:p.yb≠p.fm
 h:p.hb≠p.fm
section
variable{w w' u:World}{F:Nat->Prop}{c k:Nat}{G:GS}{m:CM}{s h:HT}{p:PN}{ov:HT->Option Nat}{K:Value->World->Prop}
theorem PG.aD(B:PG w F c k G m s h p ov)(hk:Kept (· =p.fm) w w'):PG w' F c k G m s h p ov:=by
 obtain⟨f1,f2,f3,f4,f5,f6,f7⟩:=B.gD;exact⟨B.C.aD hk (fun j hj e=>by subst e;exact B.fo hj) (fun j hj e=>by subst e;exact B.ff hj),B.V.aD hk f1 f2 f3 f4 f5,hk.heap B.kb f6,hk.heap B.fb f7,hk.cell B.yb B.y,hk.heap B.hb B.h,B.fo,B.ff,B.gD,B.y,B.h⟩
theorem PG.same(B:PG w F c k G m s h p ov)(hk:Kept Nil w w'):PG w' F c k G m s h p ov:=B.aD (hk.mono fun _ _ h=>h.elim)
theorem qY(B:PG w F c k G m s h p ov)(hD:G.D.length<=5000)(nf:k<=1000)(hs:s∈ids G.D){l:List HT}(hc:cY G.D G.P s l){done:List HT}(hF:xk w p.fm (qo ov (lH m.sz l)) done){b:HT}{zb:Nat}
 (hz:w.heap[zb]? =some (.cells b.1 ai (0,0))) (hzf:zb≠p.fm) (hn:mF G.D b h->(done++ [b]).Nodup) {A T:World->Prop}
 (hA: ∀u,mF G.D b h->qh k (qo ov (lH m.sz l)) done b=false->Kept (· =p.fm) w u->A u)
 (hT: ∀u wi,wi=done++(if mF G.D b h then [b]else [])->(mF G.D b h->qh k (qo ov (lH m.sz l)) done b=true)->xk u p.fm (qo ov (lH m.sz l)) wi->Kept (· =p.fm) w u->T u):
 bk prog cS.id #[.pointer (some ⟨c,0,none⟩),.agg b.1,.agg h.1] w fun x y=> ∃z:Bool,x=.bool z/\Split z (∃a1:Value,y.cell? ⟨p.yb,0,none⟩=some a1/\ ∃b1:Array Value,(b1.size=32/\Cells y ⟨zb,0,none⟩ b1)/\
  ∃(c1:Nat) (d1 e1:Array Value) (f1:Func),(a1:Value)=.func (.func c1) d1 e1/\prog.funcs[c1]? =some f1/\f1.body.isSome=true/\
   bk prog c1 (d1.toList++([.agg b1]:List Value)++e1.toList).toArray y fun g1 i1=> ∃j1:Bool,g1=.bool j1/\Split (!j1) (A i1) (T i1)) (T y):=by
 refine yR B.C hD b h fun y r hr ky=>⟨r,rfl,?_⟩;have kyf:Kept (· =p.fm) w y:=ky.mono fun _ _ h=>h.elim;have By:=B.same ky;cases r with
 |false=>
  have Jb: ¬mF G.D b h:=fun e=>by have:=hr.2 e;cases this
  exact Split.no rfl (hT y done (by rw [if_neg Jb,List.append_nil]) (fun e=>absurd e Jb) (hF.same ky) kyf)
 |true=>
  have ha:=hr.1 rfl;have fy:=hn ha;rw [List.nodup_append]at fy;refine Split.yes rfl ⟨_,By.yb,b.1,⟨b.2.1,Cells.bA (ky.heap hz (fun h=>h))⟩,_,_,_,_,rfl,cf.at_,rfl,?_⟩;refine yO By.C hD nf hs hc By.V By.kb By.fb fy.1 (fun e=>fy.2.2 b e b (by simp) rfl) (hF.same ky) B.fo B.ff B.gD.2.1 fun v r hr hv kv=>⟨r,rfl,?_⟩;have Mf:Kept (· =p.fm) w v:=kyf.trans kv (fun _ _ h=>h);cases r with
  |false=>exact Split.yes rfl (hA v ha hr.symm Mf)
  |true=>exact Split.no rfl (hT v (done++ [b]) (by rw [if_pos ha]) (fun _=>hr.symm) hv Mf)
end
end Go.Proofs.YtnboahlopghcjaaGreatDoor
namespace Go.Proofs.YtnboahlopghcjaaGreatDoor
open Go.Proofs.Tryz
open Go Go.bS Go.RowKit
structure PG0(w:World)(F:Nat->Prop)(c k:Nat)(G:GS)(m:CM)(s:HT)(p:PN)(ov:HT->Option Nat):Prop where
 C:CV w F c k G m
 V:VB w c s p.bs p.bc p.bh p.q p.sm ov
 kb:w.heap[p.kb]? =some (.cells #[.func (.func bN.id) #[] #[.pointer (some ⟨p.bs,0,none⟩),.pointer (some ⟨p.bc,0,none⟩),.pointer (some ⟨p.bh,0,none⟩)]] eK (0,0))
 fb:w.heap[p.fb]? =some (.cells #[.map (some p.fm)] cg (0,0))
 fo: ¬m.own c p.fm
 ff: ¬F p.fm
 gD:p.gD p.fm
theorem cO: ∀ {l m:List HT},l.Nodup->(∀x∈l,x∈m)->l.length<=m.length
 | [],_,_,_=>Nat.zero_le _
 |x::l,m,hn,hm=>by
  rw [List.nodup_cons]at hn;have hx:=hm x List.mem_cons_self;have:=cO (m:=m.erase x) hn.2 fun y hy=>(List.mem_erase_of_ne (fun e=>hn.1 (by rw [<-e];exact hy))).2 (hm y (List.mem_cons_of_mem _ hy));rw [List.length_erase_of_mem hx]at this;have h0:=List.length_pos_of_mem hx;rw [List.length_cons];omega
theorem HS.get_mem{w:World}{A:Option Addr}{n:Nat}{l:List HT}(hl:HS w A n l){i:Nat}(hi:i<n): ∃y,l[i]? =some y:=⟨_,List.getElem?_eq_getElem (by have:=hl.len;omega)⟩
theorem x5{D:DG}{l:List HT}{h x:HT}{i:Nat}(hx:l[i]? =some x):bL D (l.take (i+1)) h=bL D (l.take i) h++if mF D x h then [x]else []:=by
 have e:l.take (i+1)=l.take i++ [x]:=by rw [List.take_add_one,hx];rfl
 rw [e,fg]
 congr 1
 unfold bL;by_cases hp:mF D x h
 ·rw [if_pos hp,List.filter_cons_of_pos (by simpa using hp)];rfl
 ·rw [if_neg hp,List.filter_cons_of_neg (by simpa using hp)];rfl
theorem Bg{m:List HT}{b:List Bool}{x:HT}{y:Bool}{i:Nat}(hx:m[i]? =some x)(hy:b[i]? =some y):dJ (m.drop i) (b.drop i)=(if y then [x]else [])++dJ (m.drop (i+1)) (b.drop (i+1)):=by
 obtain⟨hi,ex⟩:=List.getElem?_eq_some_iff.1 hx;obtain⟨hj,ey⟩:=List.getElem?_eq_some_iff.1 hy;rw [List.drop_eq_getElem_cons hi,List.drop_eq_getElem_cons hj,ex,ey];cases y<;>rfl
theorem dL(c:nN)(A:Option Addr)(n cp:Nat)(B:Option Addr)(m cq:Nat): ∀v∈(cC c A n cp B m cq).toList,v.oneCell'=true:=by
 intro v hv;unfold cC at hv;rw [Array.toList_append,List.mem_append]at hv;rcases hv with hv|hv
 ·exact c.jJ.2.one v hv
 ·simp only [List.mem_cons,List.not_mem_nil,or_false]at hv
  rcases hv with rfl|rfl|rfl<;>rfl
section
variable{w w':World}{F:Nat->Prop}{c k:Nat}{G:GS}{m:CM}{s:HT}{p:PN}{ov:HT->Option Nat}{K:Value->World->Prop}
theorem Bk{kn:HT->Nat}{done rest jC:List HT}{b:HT}(e:done++b::rest=jC)(h:qh k kn done b=false):eE k kn [] jC=false:=by
 rw [<-e,lA,List.nil_append,eE,h,Bool.false_and,Bool.and_false]
theorem xh{kn:HT->Nat}{done:List HT}{b:HT}(h:eE k kn [] done=true)(hb:qh k kn done b=true):eE k kn [] (done++ [b])=true:=by
 rw [lA,h,List.nil_append,eE,hb,Bool.true_and,Bool.true_and];rfl
theorem yP(B:PG0 w F c k G m s p ov)(hD:G.D.length<=5000)(nf:k<=1000)(hs:s∈ids G.D){l:List HT}(hc:cY G.D G.P s l){h:HT}{bb:Nat}{A:Option Addr}{n cx:Nat}{bl:List HT}
 (vj:w.heap[bb]? =some (.cells #[.slice A n cx] ay (0,0))) (Vw:bb≠p.fm) (AJ:HS w A n bl) (hAf: ∀a,A=some a->a.block≠p.fm) (hn:n<=10000) (hF:xk w p.fm (qo ov (lH m.sz l)) []) (v8:(np G h bl l).Nodup)
 (hK: ∀w' (r:Bool),r=eE k (qo ov (lH m.sz l)) [] (np G h bl l)->(r=true->xk w' p.fm (qo ov (lH m.sz l)) (np G h bl l))->Kept (· =p.fm) w w'->K (.bool r) w'):
 bk prog af.id #[.agg h.1,p.AS,.pointer (some ⟨bb,0,none⟩),.pointer (some ⟨p.bc,0,none⟩),.pointer (some ⟨p.bh,0,none⟩)] w K:=by
 have W:=B.C.fO.W;have H:=B.C.fO.jJ;have Vh: ∀y∈l,y∈ids G.D:=fun y hy=>((hc.mem W H).1 hy).mem.1;have hlen:=AJ.len;have lfm:=hF.lt;refine af.of ?_;unfold af.W;intro w4 w5 w6;have k4:Kept Nil w w4:=(Kept.refl _ _).alloc _;have hh4:w4.heap[w.heap.size]? =some (.cells h.1 ai (0,0)):=aH w _;have k5:Kept Nil w4 w5:=(Kept.refl _ _).alloc _;obtain⟨ty,hy5⟩: ∃ty:TypeId,w5.heap[w4.heap.size]? =some (.cells #[p.AS] ty (0,0)):=⟨_,aH w4 _⟩;have k6:Kept Nil w5 w6:=(Kept.refl _ _).alloc _;have U9:w6.heap[w5.heap.size]? =some (.cells #[.bool false] gM (0,0)):=aH w5 _;clear_value w6;have hy6:=k6.heap hy5 (fun h=>h);have hh6:=k6.heap (k5.heap hh4 (fun h=>h)) (fun h=>h);have oV:=(k4.trans k5 (fun _ _ h=>h)).trans k6 (fun _ _ h=>h);have s4:=k4.size;have s5:=k5.size;have s6:=k6.size;have l4:=aT hh4;have l5:=aT hy5;have l6:=aT U9;clear_value w5 w4;obtain⟨p',I8,vk,D0,ZI,ZG⟩: ∃p':PN,p'= {p with yb:=w4.heap.size,hb:=w.heap.size}/\p'.AS=p.AS/\p'.fm=p.fm/\p'.bc=p.bc/\p'.bh=p.bh:=⟨_,rfl,rfl,rfl,rfl,rfl⟩;have eyb:p'.yb=w4.heap.size:=by rw [I8]
 have VO:p'.hb=w.heap.size:=by rw [I8]
 have B6:PG w6 F c k G m s h p' ov:=by
  rw [I8];exact⟨B.C.same oV,B.V.same oV,oV.heap B.kb (fun h=>h),oV.heap B.fb (fun h=>h),by show w6.cell? ⟨w4.heap.size,0,none⟩=_;rw [ax hy6];rfl,hh6,B.fo,B.ff,B.gD,(by show w4.heap.size≠p.fm;omega),(by show w.heap.size≠p.fm;omega)⟩
 generalize vh:qo ov (lH m.sz l)=kn at*;have hF6:xk w6 p'.fm kn []:=by rw [D0];exact hF.same oV
 generalize ja:np G h bl l=jC at*;have pN:bL G.D bl h++xt G h l=jC:=ja;rw [<-D0]at Vw hAf lfm;have hK': ∀w' (r:Bool),r=eE k kn [] jC->(r=true->xk w' p'.fm kn jC)->Kept (· =p'.fm) w w'->K (.bool r) w':=by rw [D0];exact hK
 have kA: ∀ {v:World},Kept (· =p'.fm) w6 v->Kept (· =p'.fm) w v:=fun k=>(oV.mono fun _ _ h=>h.elim).trans k (fun _ _ h=>h);have fin: ∀ {v:World} (r:Bool),Kept (· =p'.fm) w6 v-> ∃u:World,u=v.setCell ⟨w5.heap.size,0,none⟩ (.bool r)/\Wr v ⟨w5.heap.size,0,none⟩/\u.heap[w5.heap.size]? =some (.cells #[.bool r] gM (0,0))/\Kept (· =w5.heap.size) v u:=fun {v} r kv=>by
  have hr:=kv.heap U9 (by omega);refine⟨_,rfl,dO hr (by simp),?_,Kept.setCell (S:=fun k=>k=w5.heap.size) (Kept.refl _ v) (p:=⟨w5.heap.size,0,none⟩) (fun _=>rfl) _⟩;rw [cR hr 0];rfl
 have W1: ∀ {v u:World},Kept (· =p'.fm) w6 v->Kept (· =w5.heap.size) v u->Kept (· =p'.fm) w u:=fun kv ku=>⟨ku.os.trans (kA kv).os,ku.tape.trans (kA kv).tape,ku.output.trans (kA kv).output,Nat.le_trans (kA kv).size ku.size,fun j hj hn=>by rw [ku.block j (Nat.lt_of_lt_of_le hj (kA kv).size) (by omega),(kA kv).block j hj hn]⟩;refine⟨A,n,cx,by rw [ax (oV.heap vj (fun h=>h))];rfl,?_⟩;rw [<-ZI,<-ZG];refine af.b9 (I:=fun s0 v=> ∃i:Nat,s0=(i:Int)/\i<=n/\xk v p'.fm kn (bL G.D (bl.take i) h)/\eE k kn [] (bL G.D (bl.take i) h)=true/\Kept (· =p'.fm) w6 v) (μ:=fun s0 _=>((n:Int)-s0).toNat) (s:=0) ⟨0,rfl,Nat.zero_le _,hF6,rfl,Kept.refl _ _⟩ ?_;rintro s0 v ⟨i,rfl,hi,hFv,cP,kv⟩;have Bv:=B6.aD kv;refine Split.dec (fun iP=>?_) (fun fV=>?_)
 ·have dN:i<n:=by omega
  obtain⟨b,hb⟩:=AJ.get_mem dN;have ZE:HS v A n bl:=AJ.aD (kA kv) hAf;refine ZE.load (i:=(i:Int)) (by omega) hb ?_;intro kr;obtain⟨rk,iN,iU⟩:=gq (w:=v) (z:=de.1) (cs:=b.1) (t:=ai) (by rw [b.2.1];rfl);refine⟨⟨b.2.1,b.2.one,fun j hj=>rk j (by rw [b.2.1];exact hj)⟩,?_⟩;intro je
  replace iN:je.heap[v.heap.size]? =some (.cells b.1 ai (0,0)):=iN
  replace iU:Kept Nil v je:=iU
  clear_value je;have sv:=(kA kv).size;have OO:=Bv.same iU;have e1:=x5 (D:=G.D) (h:=h) hb;have e2: ∃rest,bL G.D (bl.take i) h++(if mF G.D b h then [b]else [])++rest=jC:=by
   refine⟨bL G.D (bl.drop (i+1)) h++xt G h l,?_⟩;rw [<-e1,<-pN,<-List.append_assoc,<-fg,List.take_append_drop]
  obtain⟨rest,e2⟩:=e2;refine⟨some ⟨c,0,none⟩,by rw [ax OO.V.hc];rfl,b.1,⟨b.2.1,Cells.bA iN⟩,h.1,⟨h.2.1,by have:=OO.hb;rw [VO]at this;exact Cells.bA this⟩,?_⟩;rw [<-eyb];refine qY OO hD nf hs hc (done:=bL G.D (bl.take i) h) (by rw [vh];exact hFv.same iU) iN (by omega) (fun ha=>by
   rw [if_pos ha]at e2;rw [<-e2]at v8;exact(List.nodup_append.1 v8).1) ?_ ?_
  ·intro u ha hp ku
   rw [vh]at hp;have OY:Kept (· =p'.fm) w6 u:=(kv.trans iU (fun _ _ h=>h.elim)).trans ku (fun _ _ h=>h);obtain⟨u',eu,hw,Ru,kuu⟩:=fin false OY;refine⟨hw,?_⟩;intro OT;have e30:OT=u':=eu.symm;rw [gS,af.LB,e30];rw [if_pos ha,List.append_assoc]at e2;exact⟨false,by rw [ax Ru];rfl,hK' u' false (Bk e2 hp).symm (fun e=>by cases e) (W1 OY kuu)⟩
  ·intro u wi ed hp Lo ku
   rw [vh]at hp Lo;have OY:Kept (· =p'.fm) w6 u:=(kv.trans iU (fun _ _ h=>h.elim)).trans ku (fun _ _ h=>h);rw [dG (n:=(i:Int)) (by omega) (by omega)];refine⟨(i:Int)+1,rfl,⟨i+1,rfl,dN,?_,?_,OY⟩,by simp only;omega⟩
   ·rw [e1,<-ed];exact Lo
   ·rw [e1]
    by_cases ha:mF G.D b h
    ·rw [if_pos ha];exact xh cP (hp ha)
    ·rw [if_neg ha,List.append_nil];exact cP
 ·rw [aS,af.cZ]
  rw [List.take_of_length_le (by omega)]at cP hFv;unfold af.cK;intro qM;have Ad:Kept Nil v qM:=(Kept.refl _ _).drew;clear_value qM;have B33:=Bv.same Ad;refine⟨some ⟨c,0,none⟩,by rw [ax B33.V.hc];rfl,_,B33.C.c1,s.1,⟨s.2.1,Cells.bA B33.V.hh⟩,?_⟩;refine rR s fun jc pb qb mH I7 I5 Ax hqb=>⟨_,rfl,?_⟩;have Mi:Kept Nil v jc:=Ad.trans mH (fun _ _ h=>h);have IH:Kept (· =p'.fm) w6 jc:=kv.trans Mi (fun _ _ h=>h.elim);have B35:=Bv.same Mi;have ad5:=IH.size;have aaj:xk jc p'.fm kn (bL G.D bl h):=hFv.same Mi
  let AS:Value:=.func (.func aV.id) #[] #[.pointer (some ⟨pb,0,none⟩),.pointer (some ⟨qb,0,none⟩)]
  let ρ0:Env:= [(3,.pointer (some ⟨p'.bc,0,none⟩)),(5,.pointer (some ⟨w.heap.size,0,none⟩)),(6,.pointer (some ⟨w4.heap.size,0,none⟩)),(7,.pointer (some ⟨w5.heap.size,0,none⟩)),(36,AS)]
  let J:Nat->World->Prop:=fun j u=> ∃done:List HT,done++xt G h (l.drop j)=jC/\xk u p'.fm kn done/\eE k kn [] done=true/\Kept (· =p'.fm) jc u/\j<=l.length
  let Jd:Code->World->Prop:=fun e u=>e=.ret/\ ∃r:Bool,u.heap[w5.heap.size]? =some (.cells #[.bool r] gM (0,0))/\r=eE k kn [] jC/\(r=true->xk u p'.fm kn jC)/\Kept (fun j=>j=p'.fm\/j=w5.heap.size) jc u
  have lpb:=aT I7;have lqb:=aT I5;have ad2:=Ad.size;have svw:=(kA kv).size;obtain⟨mx,X35,Pc⟩:=B35.C.X;have XJ: ∀ {u:World},Kept (· =p'.fm) jc u->XV u m.FX m.x G.D G.P mx:=fun k=>X35.aD k (fun j hj e=>by subst e;rw [D0]at hj;exact B.fo (.inl (Pc _ hj))) (fun j hj e=>by subst e;rw [D0]at hj;exact B.ff (B.C.fx _ hj))
  change Holds none [] prog _ _ _ ρ0 jc
  have out: ∀ {u:World} {R:Loop} (r:Bool),Kept (· =p'.fm) jc u->Live (jc.heap.size+1) jc.heap.size R u->r=eE k kn [] jC->(r=true->xk u p'.fm kn jC)->Wr u ⟨w5.heap.size,0,none⟩/\ ∀u',u'=u.setCell ⟨w5.heap.size,0,none⟩ (.bool r)->Live (jc.heap.size+1) jc.heap.size R u'/\Jd .ret u':=fun {u R} r ku hl hr hf=>by
   obtain⟨u0,e0,t1,t2,t3⟩:=fin r (IH.trans ku (fun _ _ h=>h));refine⟨t1,fun u' eu=>?_⟩;rw [eu,<-e0];refine⟨hl.aD t3 (by omega) (by omega),rfl,r,t2,hr,fun e=>(hf e).aD t3 (by omega),(ku.mono fun _ _ h=>.inl h).trans t3 (fun _ _ h=>.inr h)⟩
  refine mN (n:=90) (ρ:=ρ0) (ρ0:=ρ0) ng mix af.k (t:=36) (ps:= #[37]) (by kernel_rfl) (by decide) rfl aV.at_ rfl (.inl rfl) (fun i x hi hx=>hx) rfl qz l (fun _=>rfl) (fun q hq=>by
   have e49:q=37:=by simpa using hq
   subst e49;exact⟨by decide,by decide⟩) (BE (F:=m.FX) (x:=m.x) (m:=mx) (pb:=pb) (qb:=qb) hc (by omega)) J Jd ?_ ?_ (fun j u ⟨done,_,_,_,kJ,_⟩=>⟨XJ kJ,kJ.heap I7 (by omega),kJ.heap I5 (by omega)⟩) ?_ ?_ ?_ ?_ ?_
  ·rintro j u1 u2 R qv ⟨done,h1,h2,h3,h4,h5⟩ nh
   exact⟨done,h1,h2.aD nh (by omega),h3,h4.trans nh (fun k hk e=>by omega),h5⟩
  ·rintro e u1 u2 R qv ⟨h1,r,h2,h3,h4,h5⟩ nh
   exact⟨h1,r,nh.heap h2 (by omega),h3,fun e=>(h4 e).aD nh (by omega),h5.trans nh (fun k hk e=>by omega)⟩
  ·intro R
   have ka:Kept Nil jc ((jc.alloc (.deferred (some []))).alloc (.loop R)):=(((Kept.refl _ _).alloc _).alloc _);exact⟨bL G.D bl h,pN,aaj.same ka,cP,ka.mono fun _ _ h=>h.elim,Nat.zero_le _⟩
  ·rintro j z u1 R hz ⟨done,h1,h2,h3,h4,h5⟩ qv
   have e7:km ρ0 ((#[37]:Array Nat).toList.zip (qz z))= [(3,.pointer (some ⟨p'.bc,0,none⟩)),(5,.pointer (some ⟨w.heap.size,0,none⟩)),(6,.pointer (some ⟨w4.heap.size,0,none⟩)),(7,.pointer (some ⟨w5.heap.size,0,none⟩)),(36,AS),(37,.agg z.1)]:=rfl;rw [e7,af.a1];have sY:=(List.getElem?_eq_some_iff.1 hz).1;have MO:=Vh z (List.mem_of_getElem? hz);have Ug:l.drop j=z::l.drop (j+1):=by
    obtain⟨hi,e⟩:=List.getElem?_eq_some_iff.1 hz;rw [List.drop_eq_getElem_cons hi,e]
   rw [Ug,xt]at h1;unfold af.A1;intro EY;obtain⟨rk,iN,iU⟩:=gq (w:=u1) (z:=de.1) (cs:=z.1) (t:=ai) (by rw [z.2.1];rfl);refine⟨⟨z.2.1,z.2.one,fun j hj=>rk j (by rw [z.2.1];exact hj)⟩,?_⟩;intro JV
   replace iN:JV.heap[u1.heap.size]? =some (.cells z.1 ai (0,0)):=iN
   replace iU:Kept Nil u1 JV:=iU
   clear_value JV;have GI:=qv.aD iU (fun h=>h) (fun h=>h);refine⟨GI,fun w2 R2 mZ sA=>?_⟩;have lK:=mZ.heap iN (jP iN GI.loop);have ad7:=h4.size;have u7:Kept (· =p'.fm) jc w2:=(h4.trans iU (fun _ _ h=>h.elim)).trans mZ (fun k hk e=>by omega);have Ol:xk w2 p'.fm kn done:=(h2.same iU).aD mZ (by omega);have B2:=B35.aD u7;rw [af.y1];unfold af.Y1;have e2: ∃rest,done++(if mF G.D z h then [z]else [])++rest=jC:=⟨_,(List.append_assoc _ _ _).trans h1⟩;obtain⟨rest,e2⟩:=e2;refine⟨some ⟨c,0,none⟩,by rw [ax B2.V.hc];rfl,z.1,⟨z.2.1,Cells.bA lK⟩,h.1,⟨h.2.1,by have:=B2.hb;rw [VO]at this;exact Cells.bA this⟩,?_⟩;rw [<-eyb];refine qY B2 hD nf hs hc (done:=done) (by rw [vh];exact Ol) lK (by omega) (fun ha=>by
    rw [if_pos ha]at e2;rw [<-e2]at v8;exact(List.nodup_append.1 v8).1) ?_ ?_
   ·intro u ha hp ku
    rw [vh]at hp;rw [if_pos ha,List.append_assoc]at e2;obtain⟨o1,o2⟩:=out (u:=u) false (u7.trans ku (fun _ _ h=>h)) (sA.aD ku (by omega) (by omega)) (Bk e2 hp).symm (fun e=>by cases e);refine⟨o1,?_⟩;intro Wi;exact o2 Wi rfl
   ·intro u wi ed hp Lo ku
    rw [vh]at hp Lo;have Xb:=u7.trans ku (fun _ _ h=>h);have hlu:=sA.aD ku (by omega) (by omega);have Ll:eE k kn [] wi=true:=by
     rw [ed];by_cases ha:mF G.D z h
     ·rw [if_pos ha];exact xh h3 (hp ha)
     ·rw [if_neg ha,List.append_nil];exact h3
    rw [<-List.append_assoc,<-ed]at h1;intro Wh;have k61:Kept Nil u Wh:=(Kept.refl _ _).drew;clear_value Wh;have Ms:Kept (· =p'.fm) w2 Wh:=ku.trans k61 (fun _ _ h=>h.elim);have V7:=B2.aD Ms;have Xl:=Ms.heap lK (by omega);obtain⟨mx1,X61,_⟩:=V7.C.X;refine⟨some ⟨c,0,none⟩,by rw [ax V7.V.hc];rfl,_,V7.C.c1,z.1,⟨z.2.1,Cells.bA Xl⟩,h.1,⟨h.2.1,by have:=V7.hb;rw [VO]at this;exact Cells.bA this⟩,?_⟩;refine kL X61 hD z h fun Ew r hr DE=>⟨r,rfl,?_⟩;have IE:Kept Nil u Ew:=k61.trans DE (fun _ _ h=>h);have Sh:=hlu.aD IE (fun h=>h) (fun h=>h);have QV:=Xb.trans IE (fun _ _ h=>h.elim);have aah:=Lo.same IE;cases r with
    |true=>
     have AK:=hr.1 rfl;rw [if_pos AK,List.append_nil]at h1;obtain⟨o1,o2⟩:=out (u:=Ew) true QV Sh (by rw [<-h1,Ll]) (fun _=>by rw [<-h1];exact aah);refine Split.yes rfl ⟨o1,?_⟩;intro LI;exact o2 LI rfl
    |false=>
     have R5: ¬eT G.D z h:=fun e=>by have:=hr.2 e;cases this
     rw [if_neg R5]at h1;refine Split.no rfl ?_;intro EU;have Km:Kept Nil Ew EU:=(Kept.refl _ _).drew;clear_value EU;have IP:Kept (· =p'.fm) w2 EU:=Ms.trans (DE.trans Km (fun _ _ h=>h)) (fun _ _ h=>h.elim);have UG:=B2.aD IP;have Rb:=IP.heap lK (by omega);obtain⟨A1,n1,c1,B1,m1,d1,s1,sa⟩:=UG.C.seen z MO;refine⟨some ⟨c,0,none⟩,by rw [ax UG.V.hc];rfl,_,UG.C.c2,z.1,⟨z.2.1,Cells.bA Rb⟩,_,UG.C.mW MO,_,⟨a7 ..,sa.iw⟩,?_⟩;intro w73;have W4:Kept Nil EU w73:=(Kept.refl _ _).alloc _;obtain⟨MU,yM,wW⟩:=gq (w:=EU) (z:=zC) (cs:=cC (G.iw z) A1 n1 c1 B1 m1 d1) (t:=bj) (by rw [a7];rfl);have B73:=UG.same W4;refine⟨⟨_,rfl,a7 ..,(sa.aD W4 (fun _ _ h=>h)).iw⟩,B73.C.mW MO,⟨z.1,rfl,z.2.1,Cells.bA (W4.heap Rb (fun h=>h))⟩,B73.C.c2,by rw [ax B73.V.hc];rfl,⟨a7 ..,dL _ _ _ _ _ _ _,fun j hj=>MU j (by rw [a7];exact hj)⟩,?_⟩;intro OQ
     replace yM:OQ.heap[EU.heap.size]? =some (.cells (cC (G.iw z) A1 n1 c1 B1 m1 d1) bj (0,0)):=yM
     replace wW:Kept Nil EU OQ:=wW
     clear_value OQ w73;have QI:Kept Nil u OQ:=IE.trans (Km.trans wW (fun _ _ h=>h)) (fun _ _ h=>h);have QY:Kept (· =p'.fm) w2 OQ:=IP.trans wW (fun _ _ h=>h.elim);have aea:=QY.size;have aeb:=IP.size;have s2:=u7.size;have agu:=hlu.aD QI (fun h=>h) (fun h=>h);have Wt:=sa.aD wW (fun _ _ h=>h);have acH:=sa.mg.len;have Tn:=sa.bl.len;have Zh: ∀j,F j->j≠p'.fm:=fun j hj e=>by rw [D0]at e;subst e;exact B.ff hj
     have Zu:=eV (G.iw z) A1 n1 c1 B1 m1 d1 #[];rw [Array.append_empty]at Zu;refine⟨A1,n1,c1,by rw [a8,ax yM];exact Zu.2.1,?_⟩;have acL:(G.iw z).dM.length=(G.iw z).merge.length:=by
      rcases(cY.ex H z)with⟨lz,cz⟩;rcases cz.inv W H MO with⟨_,nd,h0,rfl⟩|⟨t,r',_,pK,_,_⟩
      ·obtain⟨r1,_⟩:=B.C.fO.root nd h0
       rw [r1];rfl
      ·exact(B.C.fO.up t z pK).2.2.1
     have EF:(G.iw z).merge.length<=G.D.length:=by
      have fy:(G.iw z).merge.Nodup/\ ∀y∈(G.iw z).merge,y∈ids G.D:=by
       rcases(cY.ex H z)with⟨lz,cz⟩;rcases cz.inv W H MO with⟨_,nd,h0,rfl⟩|⟨t,r',_,pK,_,_⟩
       ·obtain⟨r1,_⟩:=B.C.fO.root nd h0
        rw [r1];exact⟨List.nodup_nil,fun y hy=>by cases hy⟩
       ·obtain⟨_,_,_,g1,g2⟩:=B.C.fO.up t z pK
        exact⟨g1,fun y hy=>(((g2 y).1 hy).1.mem W).1⟩
      have:=cO fy.1 fy.2
      rwa [fI]at this
     refine af.gI (I:=fun s0 v=> ∃i:Nat,s0=(i:Int)/\i<=n1/\ ∃dn:List HT,dn++(bL G.D (dJ ((G.iw z).merge.drop i) ((G.iw z).dM.drop i)) h++xt G h (l.drop (j+1)))=jC/\xk v p'.fm kn dn/\eE k kn [] dn=true/\Kept (· =p'.fm) OQ v) (μ:=fun s0 _=>((n1:Int)-s0).toNat) (s:=0) ⟨0,rfl,Nat.zero_le _,wi,by rw [List.drop_zero,List.drop_zero];exact h1,Lo.same QI,Ll,Kept.refl _ _⟩ ?_;rintro s0 v2 ⟨i2,rfl,AF,dn,g1,g2,g3,g4⟩;have FV:Kept (· =p'.fm) w2 v2:=QY.trans g4 (fun _ _ h=>h);have Bv2:=B2.aD FV;have Ws:=Wt.aD g4 (fun j hj e=>Zh j hj e);have QU:=u7.trans FV (fun _ _ h=>h);have Sg:=sA.aD FV (by omega) (by omega);have sv2:=FV.size;refine Split.dec (fun iP=>?_) (fun fV=>?_)
     ·have dN:i2<n1:=by omega
      obtain⟨b,hb⟩:=Ws.mg.get_mem dN;obtain⟨bb2,Tu⟩: ∃y,(G.iw z).dM[i2]? =some y:=⟨_,List.getElem?_eq_getElem (by omega)⟩;refine Ws.mg.load (i:=(i2:Int)) (by omega) hb ?_;intro kr;obtain⟨Xw,D4,vg⟩:=gq (w:=v2) (z:=de.1) (cs:=b.1) (t:=ai) (by rw [b.2.1];rfl);refine⟨⟨b.2.1,b.2.one,fun j hj=>Xw j (by rw [b.2.1];exact hj)⟩,?_⟩;intro je
      replace D4:je.heap[v2.heap.size]? =some (.cells b.1 ai (0,0)):=D4
      replace vg:Kept Nil v2 je:=vg
      clear_value je;have OO:=Bv2.same vg;have Tk:=vg.heap (g4.heap yM (by omega)) (fun h=>h);have Wu:=Ws.aD vg (fun _ _ h=>h);obtain⟨aB,G3,_,GR⟩:=Wu.bl.at_ i2 bb2 Tu;subst G3;refine⟨some aB,m1,d1,by rw [a8,ax Tk];exact Zu.2.2.1,⟨by omega,by omega⟩,bb2,by rw [Int.toNat_natCast,Nat.mul_one];exact GR,?_⟩;rw [Bg hb Tu]at g1;cases bb2 with
      |false=>
       refine Split.no rfl ?_;rw [dG (n:=(i2:Int)) (by omega) (by omega)];exact⟨(i2:Int)+1,rfl,⟨i2+1,rfl,dN,dn,g1,g2.same vg,g3,g4.trans vg (fun _ _ h=>h.elim)⟩,by simp only;omega⟩
      |true=>
       rw [if_pos rfl,fg,List.append_assoc]at g1;have aaA:bL G.D [b] h=if mF G.D b h then [b]else []:=by
        unfold bL;by_cases hp:mF G.D b h
        ·rw [if_pos hp,List.filter_cons_of_pos (by simpa using hp)];rfl
        ·rw [if_neg hp,List.filter_cons_of_neg (by simpa using hp)];rfl
       rw [aaA,<-List.append_assoc]at g1;refine Split.yes rfl ⟨some ⟨c,0,none⟩,by rw [ax OO.V.hc];rfl,b.1,⟨b.2.1,Cells.bA D4⟩,h.1,⟨h.2.1,by have:=OO.hb;rw [VO]at this;exact Cells.bA this⟩,?_⟩;refine qY OO hD nf hs hc (done:=dn) (by rw [vh];exact g2.same vg) D4 (by omega) (fun ha=>by
        rw [if_pos ha]at g1;rw [<-g1]at v8;exact(List.nodup_append.1 v8).1) ?_ ?_
       ·intro u2 ha hp Ez
        rw [vh]at hp;rw [if_pos ha,List.append_assoc]at g1;have kk:Kept (· =p'.fm) v2 u2:=(vg.mono fun _ _ h=>h.elim).trans Ez (fun _ _ h=>h);obtain⟨o1,o2⟩:=out (u:=u2) false (QU.trans kk (fun _ _ h=>h)) (Sg.aD kk (by omega) (by omega)) (Bk g1 hp).symm (fun e=>by cases e);refine⟨o1,?_⟩;intro Wi;rw [gS];exact o2 Wi rfl
       ·intro u2 dn' ed2 Pg TX Ez
        rw [vh]at Pg TX;have kk:Kept (· =p'.fm) v2 u2:=(vg.mono fun _ _ h=>h.elim).trans Ez (fun _ _ h=>h);rw [dG (n:=(i2:Int)) (by omega) (by omega)];refine⟨(i2:Int)+1,rfl,⟨i2+1,rfl,dN,dn',by rw [ed2];exact g1,TX,?_,g4.trans kk (fun _ _ h=>h)⟩,by simp only;omega⟩;rw [ed2];by_cases ha:mF G.D b h
        ·rw [if_pos ha];exact xh g3 (Pg ha)
        ·rw [if_neg ha,List.append_nil];exact g3
     ·rw [aS,af.V9]
      unfold af.Uv;have en:(G.iw z).merge.drop i2= []:=List.drop_eq_nil_of_le (by omega);rw [en]at g1;exact⟨Sg,dn,by simpa [dJ,bL]using g1,g2,g3,QU,sY⟩
  ·rintro u1 R ⟨done,h1,h2,h3,h4,h5⟩ qv
   have e7:gE ρ0 jc.heap.size= [(3,.pointer (some ⟨p'.bc,0,none⟩)),(5,.pointer (some ⟨w.heap.size,0,none⟩)),(6,.pointer (some ⟨w4.heap.size,0,none⟩)),(7,.pointer (some ⟨w5.heap.size,0,none⟩)),(36,AS),(4294967296,.agg (pF [jc.heap.size]))]:=rfl;rw [e7,af.jH];unfold af.iM;have ec:done=jC:=by rw [<-h1,List.drop_of_length_le (Nat.le_refl _),xt,List.append_nil]
   obtain⟨o1,o2⟩:=out (u:=u1) true h4 qv (by rw [<-ec,h3]) (fun _=>by rw [<-ec];exact h2);refine⟨o1,?_⟩;intro pq;obtain⟨YL,_,r,t1,t2,t3,t4⟩:=o2 pq rfl;clear_value pq;rw [mh];have kt:=jv [jc.heap.size] pq;have hm: ∀E∈ [jc.heap.size],pq.heap[E]? =some (.deferred (some [])):=fun E hE=>by
    rw [List.mem_singleton]at hE;subst hE;exact YL.mark
   refine⟨lh [jc.heap.size] pq (by simp) hm,r,by rw [ax (kt.heap t1 (fun hE=>by rw [List.mem_singleton]at hE;omega))];rfl,?_⟩;exact hK' _ r t2 (fun e=>(t3 e).aD kt (fun hE=>by rw [List.mem_singleton]at hE;omega)) (((kA IH).trans t4 (fun j hj e=>by rcases e with e|e;exact e;omega)).trans kt (fun j hj hE=>by rw [List.mem_singleton]at hE;omega))
  ·rintro u1 R ⟨_,r,t1,t2,t3,t4⟩ qv
   have e7:gE ρ0 jc.heap.size= [(3,.pointer (some ⟨p'.bc,0,none⟩)),(5,.pointer (some ⟨w.heap.size,0,none⟩)),(6,.pointer (some ⟨w4.heap.size,0,none⟩)),(7,.pointer (some ⟨w5.heap.size,0,none⟩)),(36,AS),(4294967296,.agg (pF [jc.heap.size]))]:=rfl;rw [e7,af.zy];unfold af.uM;rw [mh];have kt:=jv [jc.heap.size] u1;have hm: ∀E∈ [jc.heap.size],u1.heap[E]? =some (.deferred (some [])):=fun E hE=>by
    rw [List.mem_singleton]at hE;subst hE;exact qv.mark
   refine⟨lh [jc.heap.size] u1 (by simp) hm,r,by rw [ax (kt.heap t1 (fun hE=>by rw [List.mem_singleton]at hE;omega))];rfl,?_⟩;exact hK' _ r t2 (fun e=>(t3 e).aD kt (fun hE=>by rw [List.mem_singleton]at hE;omega)) (((kA IH).trans t4 (fun j hj e=>by rcases e with e|e;exact e;omega)).trans kt (fun j hj hE=>by rw [List.mem_singleton]at hE;omega))
  ·rintro id u1 R ⟨e,_⟩ qv
   cases e
end
end Go.Proofs.YtnboahlopghcjaaGreatDoor
