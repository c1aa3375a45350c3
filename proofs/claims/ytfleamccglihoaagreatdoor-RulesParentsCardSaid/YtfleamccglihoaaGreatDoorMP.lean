import Derived.Test.YtfleamccglihoaaGreatDoorMI
import Derived.Test.YtfleamccglihoaaGreatDoorMJ
import Derived.Test.YtfleamccglihoaaGreatDoorMN
import Derived.Test.YtfleamccglihoaaGreatDoorMG
open Go.IntKind (i64 u64)
set_option linter.unusedVariables false
namespace Go.Proofs.YtfleamccglihoaaGreatDoor
open Go.Proofs.Tryz
open Go Go.cF
structure qF where
 jv:HT
 score:Nat
 merge:List HT
 gZ:List Bool
structure GS where
 D:DG
 P:List Int
 ug:List qF
 lW:List (List HT)
def GS.at_(G:GS)(h:HT):Option Nat:=pos h (ids G.D) 0
def GS.ln(G:GS)(h:HT):qF:=((G.at_ h).bind (G.ug[·]?)).getD ⟨gu,0,[],[]⟩
def GS.world(G:GS)(h:HT):List HT:=((G.at_ h).bind (G.lW[·]?)).getD []
def GS.score(G:GS)(h:HT):Nat:=(G.ln h).score
def gl(G:GS)(a b:HT):Bool:=decide (G.score a<G.score b)||(decide (G.score a=G.score b)&&dD a b)
def Db(G:GS)(a b:HT):Int:=if gl G a b then-1 else if gl G b a then 1 else 0
def cf(G:GS):List HT->HT
 | []=>gu
 |x::l=>l.foldl (λb y=>if gl G b y then y else b) x
def oF(D:DG)(a b:HT):Prop:=a≠b/\¬fU D a b/\¬fU D b a
noncomputable instance(D:DG)(a b:HT):Decidable (oF D a b):=Classical.propDecidable _
noncomputable instance(D:DG)(a b:HT):Decidable (fU D a b):=Classical.propDecidable _
noncomputable def cG(D:DG)(l:List HT)(h:HT):List HT:=l.filter λb=>decide (oF D b h)
def SO(G:GS)(l:List HT):Prop:=l.Pairwise λa b=>gl G a b=true
noncomputable def uJ(D:DG)(s:HT)(l:List HT):List HT:=(dP (fI D l++l)).filter λh=>decide (h≠s/\¬fU D h s)
def yC(G:GS)(x:HT):List HT->List HT
 | []=> [x]
 |y::l=>if gl G x y then x::y::l else y::yC G x l
noncomputable def cZ(G:GS)(s:HT)(l:List HT):List HT:=(uJ G.D s l).foldr (yC G) []
noncomputable def rH(k:Nat)(D:DG)(wd:List HT)(h:HT):Bool:=decide ((cG D wd h).length<=k/\∀y∈cG D wd h,(cG D wd y).length+1<=k)
structure VS where
 wd:List HT
 bl:List Bool
noncomputable def qg(k:Nat)(D:DG)(s:VS)(h:HT):VS:=⟨if rH k D s.wd h then s.wd++ [h]else s.wd,s.bl++ [rH k D s.wd h]⟩
noncomputable def iO(k:Nat)(G:GS)(s:HT)(l:List HT):VS:=(cZ G s l).foldl (qg k G.D) ⟨G.world s++ [s],[]⟩
noncomputable def dE(k:Nat)(G:GS)(s:HT)(l:List HT):qF:=⟨s,G.score s+1+(iO k G s l).bl.count true,cZ G s l,(iO k G s l).bl⟩
noncomputable def eZ(k:Nat)(G:GS)(h:HT)(ps:List HT):GS:=
 if fg G.D h ps=0 then⟨G.D++ [⟨h,dP ps⟩],G.P++ [(((pos (cf G ps) (ids G.D) 0).getD 0:Nat):Int)],G.ug++ [dE k G (cf G ps) ps],G.lW++ [(iO k G (cf G ps) ps).wd]⟩else G
def fH(r:HT):GS:=⟨[⟨r,[]⟩],[-1],[⟨gu,0,[],[]⟩],[[]]⟩
def fF:List HT->List Bool->List HT
 |h::l,b::m=>if b then h::fF l m else fF l m
 |_,_=> []
theorem jZ(G:GS)(a:HT):gl G a a=false:=by simp [gl,jS]
theorem mi{G:GS}{a b c:HT}(h:gl G a b=true)(h':gl G b c=true):gl G a c=true:=by
 simp only [gl,Bool.or_eq_true,Bool.and_eq_true,decide_eq_true_eq]at*;rcases h with h|⟨h,h1⟩
 ·rcases h' with h'|⟨h',h2⟩
  ·exact .inl (by omega)
  ·exact .inl (by omega)
 ·rcases h' with h'|⟨h',h2⟩
  ·exact .inl (by omega)
  ·exact .inr ⟨by omega,mE h1 h2⟩
theorem ml{G:GS}{a b:HT}(h:gl G a b=false)(h':gl G b a=false):a=b:=by
 simp only [gl,Bool.or_eq_false_iff,Bool.and_eq_false_iff,decide_eq_false_iff_not]at*;have e:G.score a=G.score b:=by omega
 obtain⟨_,h2⟩:=h;obtain⟨_,h3⟩:=h';exact r7 (by rcases h2 with h2|h2;exact absurd e h2;exact h2) (by rcases h3 with h3|h3;exact absurd e.symm h3;exact h3)
theorem ry{G:GS}{a b:HT}(h:gl G a b=true):gl G b a=false:=by
 cases hb:gl G b a
 ·rfl
 ·have:=mi h hb
  rw [jZ]at this;cases this
theorem AX{G:GS}{a b:HT}:Db G a b<0↔gl G a b=true:=by
 unfold Db;split
 ·simp_all
 ·split<;>simp_all
theorem OQ(G:GS)(a b:HT):Db G a b=if G.score a<G.score b then-1 else if G.score b<G.score a then 1 else mX a b:=by
 unfold Db mX gl;by_cases h1:G.score a<G.score b
 ·simp [h1]
 ·by_cases h2:G.score b<G.score a
  ·have:¬G.score a=G.score b:=by omega
   simp [h1,h2,this]
  ·have:G.score a=G.score b:=by omega
   simp [this]
theorem SO.cons{G:GS}{x:HT}{l:List HT}:SO G (x::l)↔(∀y∈l,gl G x y=true)/\SO G l:=List.pairwise_cons
theorem SO.nodup{G:GS}{l:List HT}(h:SO G l):l.Nodup:=List.Pairwise.imp (λ{a b} mK e=>by subst e;rw [jZ]at mK;cases mK) h
theorem LY{G:GS}:∀ {l m:List HT},SO G l->SO G m->(∀x,x∈l↔x∈m)->l=m
 | [],[],_,_,_=>rfl
 | [],y::m,_,_,h=>by have:=(h y).2 (by simp);simp at this
 |x::l,[],_,_,h=>by have:=(h x).1 (by simp);simp at this
 |x::l,y::m,hl,hm,h=>by
  rw [SO.cons]at hl hm;have nI:x=y:=by
   rcases List.mem_cons.1 ((h x).1 List.mem_cons_self)with e|e
   ·exact e
   ·rcases List.mem_cons.1 ((h y).2 List.mem_cons_self)with e'|e'
    ·exact e'.symm
    ·have h1:=hm.1 _ e
     have h2:=hl.1 _ e';rw [ry h1]at h2;cases h2
  subst nI;have:l=m:=LY hl.2 hm.2 λz=>by
   have hz:=h z;simp only [List.mem_cons]at hz;constructor
   ·intro nC
    rcases hz.1 (.inr nC)with e|e
    ·subst e;have:=hl.1 _ nC;rw [jZ]at this;cases this
    ·exact e
   ·intro nC
    rcases hz.2 (.inr nC)with e|e
    ·subst e;have:=hm.1 _ nC;rw [jZ]at this;cases this
    ·exact e
  rw [this]
theorem wX{G:GS}{x z:HT}:∀ {l:List HT},z∈yC G x l↔z=x\/z∈l
 | []=>by simp [yC]
 |y::l=>by
  unfold yC;split
  ·simp
  ·simp only [List.mem_cons,wX (l:=l)]
   constructor
   ·rintro(h|h|h)<;>simp [h]
   ·rintro(h|h|h)<;>simp [h]
theorem G3{G:GS}{x:HT}:∀ {l:List HT},SO G l->x∉l->SO G (yC G x l)
 | [],_,_=>by simp [yC,SO]
 |y::l,h,hx=>by
  have h':=SO.cons.1 h;simp only [List.mem_cons,not_or]at hx;unfold yC;split
  ·rename_i nI
   refine SO.cons.2 ⟨λz hz=>?_,h⟩;rcases List.mem_cons.1 hz with rfl|hz
   ·exact nI
   ·exact mi nI (h'.1 _ hz)
  ·rename_i nI
   refine SO.cons.2 ⟨λz hz=>?_,G3 h'.2 hx.2⟩;rcases wX.1 hz with rfl|hz
   ·cases UD:gl G y z
    ·exact absurd (ml UD (by simpa using nI)).symm hx.1
    ·rfl
   ·exact h'.1 _ hz
theorem rY{G:GS}{z:HT}:∀ {l:List HT},z∈l.foldr (yC G) []↔z∈l
 | []=>by simp
 |x::l=>by rw [List.foldr_cons,wX,rY,List.mem_cons]
theorem Dn{G:GS}:∀ {l:List HT},l.Nodup->SO G (l.foldr (yC G) [])
 | [],_=>List.Pairwise.nil
 |x::l,h=>by
  rw [List.nodup_cons]at h;exact G3 (Dn h.2) λe=>h.1 (rY.1 e)
theorem sO(D:DG)(s:HT)(l:List HT):(uJ D s l).Nodup:=(jL _).nodup.filter _
theorem wW{D:DG}{s:HT}{l:List HT}{h:HT}:h∈uJ D s l↔((h∈ids D/\∃p∈l,fU D h p)\/h∈l)/\h≠s/\¬fU D h s:=by
 unfold uJ fI;rw [List.mem_filter,dU,List.mem_append,iX,decide_eq_true_eq]
theorem jR{G:GS}{s:HT}{l:List HT}{h:HT}:h∈cZ G s l↔((h∈ids G.D/\∃p∈l,fU G.D h p)\/h∈l)/\h≠s/\¬fU G.D h s:=by
 unfold cZ;rw [rY,wW]
theorem mH(G:GS)(s:HT)(l:List HT):SO G (cZ G s l):=Dn (sO _ _ _)
theorem uK{G:GS}{s:HT}{l m:List HT}(hs:SO G m)(h:∀x,x∈m↔x∈uJ G.D s l):m=cZ G s l:=
 LY hs (mH G s l) λx=>by unfold cZ;rw [h,rY]
theorem kF{G:GS}:∀ {l:List HT},l≠ []->cf G l∈l
 |x::l,_=>by
  have key:∀(l:List HT) (b:HT),l.foldl (λb y=>if gl G b y then y else b) b=b\/l.foldl (λb y=>if gl G b y then y else b) b∈l:=by
   intro l
   induction l with
   |nil=>intro b;exact .inl rfl
   |cons y l ih=>
    intro b;simp only [List.foldl_cons];rcases ih (if gl G b y then y else b)with e|e
    ·rw [e]
     split
     ·exact .inr List.mem_cons_self
     ·exact .inl rfl
    ·exact .inr (List.mem_cons_of_mem _ e)
  rcases key l x with e|e
  ·rw [cf,e];exact List.mem_cons_self
  ·exact List.mem_cons_of_mem _ e
theorem fQ(D:DG)(l m:List HT)(h:HT):cG D (l++m) h=cG D l h++cG D m h:=List.filter_append ..
theorem gC{D:DG}{l:List HT}{h b:HT}:b∈cG D l h↔b∈l/\oF D b h:=by unfold cG;rw [List.mem_filter,decide_eq_true_eq]
theorem oF.symm{D:DG}{a b:HT}(h:oF D a b):oF D b a:=⟨h.1.symm,h.2.2,h.2.1⟩
theorem ox{x:HT}:∀ {m:List HT} {b:List Bool},x∈fF m b->x∈m
 |h::l,b::m,hx=>by
  unfold fF at hx;split at hx
  ·rcases List.mem_cons.1 hx with e|e
   ·rw [e];exact List.mem_cons_self
   ·exact List.mem_cons_of_mem _ (ox e)
  ·exact List.mem_cons_of_mem _ (ox hx)
 | [],_,hx=>by simp [fF]at hx
 |_::_,[],hx=>by simp [fF]at hx
theorem p8:∀ {m:List HT} {b:List Bool},m.Nodup->(fF m b).Nodup
 |h::l,b::m,hn=>by
  rw [List.nodup_cons]at hn;unfold fF;split
  ·exact List.nodup_cons.2 ⟨λe=>hn.1 (ox e),p8 hn.2⟩
  ·exact p8 hn.2
 | [],_,_=>by simp [fF]
 |_::_,[],_=>by simp [fF]
theorem xW:∀ {m:List HT} {b:List Bool},b.length=m.length->(fF m b).length=b.count true
 |h::l,b::m,hn=>by
  have:=xW (m:=l) (b:=m) (by simpa using hn);unfold fF;cases b<;>simp [this]
 | [],[],_=>rfl
 | [],_::_,h=>by simp at h
 |_::_,[],h=>by simp at h
theorem vH{x:HT}{c:Bool}:∀ {m:List HT} {b:List Bool},b.length=m.length->fF (m++ [x]) (b++ [c])=fF m b++if c then [x]else []
 |h::l,b::m,hn=>by
  have:=vH (x:=x) (c:=c) (m:=l) (b:=m) (by simpa using hn);simp only [List.cons_append,fF,this];cases b<;>simp
 | [],[],_=>by cases c<;>simp [fF]
 | [],_::_,h=>by simp at h
 |_::_,[],h=>by simp at h
theorem Ju(k:Nat)(D:DG)(wd:List HT):∀(m:List HT),∃b:List Bool,b.length=m.length/\m.foldl (qg k D) ⟨wd,[]⟩=⟨wd++fF m b,b⟩:=by
 intro m
 induction h:m.length generalizing m with
 |zero=>exact⟨[],by simp,by rw [List.length_eq_zero_iff.1 h];simp [fF]⟩
 |succ n ih=>
  have gQ:m≠ []:=λe=>by rw [e]at h;simp at h
  obtain⟨m',x,rfl⟩:∃m' x,m=m'++ [x]:=⟨m.dropLast,m.getLast gQ,(List.dropLast_concat_getLast gQ).symm⟩;obtain⟨b,h1,h2⟩:=ih m' (by simpa using h);have h1:b.length=m'.length:=by rw [List.length_append,List.length_cons,List.length_nil]at h;omega
  refine⟨b++ [rH k D (wd++fF m' b) x],by simp only [List.length_append,List.length_cons,List.length_nil]at h⊢;omega,?_⟩;rw [List.foldl_append,h2,List.foldl_cons,List.foldl_nil,vH h1];unfold qg;cases rH k D (wd++fF m' b) x<;>simp
theorem wm(k:Nat)(G:GS)(s:HT)(l:List HT):(iO k G s l).bl.length=(cZ G s l).length/\(iO k G s l).wd=G.world s++ [s]++fF (cZ G s l) (iO k G s l).bl:=by
 obtain⟨b,h1,h2⟩:=Ju k G.D (G.world s++ [s]) (cZ G s l);unfold iO;rw [h2];exact⟨h1,rfl⟩
structure jM(k:Nat)(G:GS):Prop where
 W:lr G.D
 jv:uw G.D G.P
 lc:G.ug.length=G.D.length
 lw:G.lW.length=G.D.length
 root:∀nd,G.D[0]? =some nd->G.ln nd.id=⟨gu,0,[],[]⟩/\G.world nd.id= []
 up:∀s h,lT G.D G.P s h->(G.ln h).jv=s/\G.world h=G.world s++ [s]++fF (G.ln h).merge (G.ln h).gZ/\(G.ln h).gZ.length=(G.ln h).merge.length/\(G.ln h).merge.Nodup/\∀y,y∈(G.ln h).merge↔fU G.D y h/\y≠s/\¬fU G.D y s
 wd:∀h∈ids G.D,(G.world h).Nodup/\(∀b∈G.world h,fU G.D b h)/\G.score h=(G.world h).length
theorem GS.uY{G:GS}(W:lr G.D){i:Nat}{nd:DN}(h:G.D[i]? =some nd):G.at_ nd.id=some i:=W.pos_eq h
theorem GS.TX{G:GS}(W:lr G.D){i:Nat}{nd:DN}{c:qF}(h:G.D[i]? =some nd)(hc:G.ug[i]? =some c):G.ln nd.id=c:=by
 unfold GS.ln;rw [GS.uY W h];simp [hc]
theorem GS.Jn{G:GS}(W:lr G.D){i:Nat}{nd:DN}{c:List HT}(h:G.D[i]? =some nd)(hc:G.lW[i]? =some c):G.world nd.id=c:=by
 unfold GS.world;rw [GS.uY W h];simp [hc]
section
variable{k:Nat}{G:GS}{h:HT}{ps:List HT}
theorem uo(hc:fg G.D h ps≠0):eZ k G h ps=G:=by unfold eZ;rw [if_neg hc]
theorem vc:(eZ k G h ps).D=nP G.D h ps:=by
 unfold eZ nP;split<;>rfl
theorem LS:(eZ k G h ps).D=pE G.D h (cf G ps) ps:=by
 rw [vc];unfold pE;by_cases hc:fg G.D h ps=0
 ·have gQ:=(mo hc).2.1
  have:ji G.D h (cf G ps) ps=0:=by unfold ji;rw [if_pos hc,if_pos (kF gQ)]
  rw [if_pos this,rL hc]
 ·have:ji G.D h (cf G ps) ps≠0:=by unfold ji;rw [if_neg hc];exact hc
  rw [if_neg this];unfold nP;rw [if_neg hc]
theorem IZ:ji G.D h (cf G ps) ps=fg G.D h ps:=by
 unfold ji;split
 ·rename_i hc
  rw [if_pos (kF (mo hc).2.1),hc]
 ·rfl
theorem LU:(eZ k G h ps).P=pD G.D G.P h (cf G ps) ps:=by
 unfold pD eZ;rw [IZ];by_cases hc:fg G.D h ps=0
 ·rw [if_pos hc,if_pos hc]
 ·rw [if_neg hc,if_neg hc]
theorem nf(hc:fg G.D h ps=0):eZ k G h ps=⟨G.D++ [⟨h,dP ps⟩],G.P++ [(((pos (cf G ps) (ids G.D) 0).getD 0:Nat):Int)],G.ug++ [dE k G (cf G ps) ps],G.lW++ [(iO k G (cf G ps) ps).wd]⟩:=by
 unfold eZ;rw [if_pos hc]
theorem zY(H:jM k G){s:HT}(hs:s∈ids G.D)(l:List HT)(hl:∀p∈l,p∈ids G.D):
 (iO k G s l).wd.Nodup/\(iO k G s l).wd.length=(dE k G s l).score/\∀y∈(iO k G s l).wd,y∈ids G.D/\(y=s\/fU G.D y s\/y∈cZ G s l):=by
 obtain⟨h1,h2⟩:=wm k G s l;obtain⟨w1,w2,w3⟩:=H.wd s hs;have hm:∀y∈fF (cZ G s l) (iO k G s l).bl,y∈ids G.D/\y≠s/\¬fU G.D y s:=λy hy=>by
  obtain⟨e,h3,h4⟩:=jR.1 (ox hy);refine⟨?_,h3,h4⟩;rcases e with e|e
  ·exact e.1
  ·exact hl _ e
 rw [h2];refine⟨?_,?_,?_⟩
 ·refine List.nodup_append.2 ⟨List.nodup_append.2 ⟨w1,by simp,?_⟩,p8 (mH G s l).nodup,?_⟩
  ·intro a ha b hb e
   have hb:b=s:=by simpa using hb
   subst hb;subst e;exact fU.irrefl H.W _ (w2 _ ha)
  ·intro a ha b hb e
   subst e;obtain⟨_,h3,h4⟩:=hm _ hb;rcases List.mem_append.1 ha with e|e
   ·exact h4 (w2 _ e)
   ·exact h3 (by simpa using e)
 ·unfold dE
  simp only [List.length_append,List.length_cons,List.length_nil,xW h1,w3]
 ·intro y hy
  rcases List.mem_append.1 hy with hy|hy
  ·rcases List.mem_append.1 hy with hy|hy
   ·exact⟨((w2 _ hy).mem H.W).1,.inr (.inl (w2 _ hy))⟩
   ·have:y=s:=by simpa using hy
    subst this;exact⟨hs,.inl rfl⟩
  ·exact⟨(hm _ hy).1,.inr (.inr (ox hy))⟩
theorem pF(H:jM k G){y:HT}(hy:y∈ids G.D):(eZ k G h ps).ln y=G.ln y/\(eZ k G h ps).world y=G.world y:=by
 by_cases hc:fg G.D h ps=0
 ·obtain⟨hn,gQ,fE,qJ⟩:=mo hc
  obtain⟨nd,pw,rfl⟩:=eV.1 hy;obtain⟨i,hi⟩:=List.getElem?_of_mem pw;have eA:=(lgeS hi).1;have Iq:(G.D++ [(⟨h,dP ps⟩:DN)])[i]? =some nd:=by rw [List.getElem?_append_left eA];exact hi
  have W':lr (eZ k G h ps).D:=by rw [vc];exact H.W.add h ps
  rw [nf hc]at W'⊢;have e1:(⟨G.D++ [⟨h,dP ps⟩],G.P++ [(((pos (cf G ps) (ids G.D) 0).getD 0:Nat):Int)],G.ug++ [dE k G (cf G ps) ps],G.lW++ [(iO k G (cf G ps) ps).wd]⟩:GS).at_ nd.id=some i:=GS.uY W' Iq;have e2:=GS.uY H.W hi;unfold GS.ln GS.world;rw [e1,e2];simp only [Option.bind_some];rw [List.getElem?_append_left (by rw [H.lc];exact eA),List.getElem?_append_left (by rw [H.lw];exact eA)];exact⟨rfl,rfl⟩
 ·rw [uo hc];exact⟨rfl,rfl⟩
theorem uq(H:jM k G)(hc:fg G.D h ps=0):(eZ k G h ps).ln h=dE k G (cf G ps) ps/\(eZ k G h ps).world h=(iO k G (cf G ps) ps).wd:=by
 have W':lr (eZ k G h ps).D:=by rw [vc];exact H.W.add h ps
 rw [nf hc]at W'⊢;have Iq:(G.D++ [(⟨h,dP ps⟩:DN)])[G.D.length]? =some ⟨h,dP ps⟩:=by rw [List.getElem?_append_right (Nat.le_refl _),Nat.sub_self];rfl
 have e1:(⟨G.D++ [⟨h,dP ps⟩],G.P++ [(((pos (cf G ps) (ids G.D) 0).getD 0:Nat):Int)],G.ug++ [dE k G (cf G ps) ps],G.lW++ [(iO k G (cf G ps) ps).wd]⟩:GS).at_ h=some G.D.length:=GS.uY W' Iq;unfold GS.ln GS.world;rw [e1];simp only [Option.bind_some];rw [List.getElem?_append_right (by rw [H.lc];exact Nat.le_refl _),H.lc,Nat.sub_self,List.getElem?_append_right (by rw [H.lw];exact Nat.le_refl _),H.lw,Nat.sub_self];exact⟨rfl,rfl⟩
end
section
variable{k:Nat}{G:GS}{h:HT}{ps:List HT}
theorem lM(k:Nat)(r:HT):jM k (fH r):=by
 have e0:(fH r).at_ r=some 0:=GS.uY (G:=fH r) (lr.root r) (nd:=⟨r,[]⟩) rfl;have ec:(fH r).ln r=⟨gu,0,[],[]⟩:=by unfold GS.ln;rw [e0];rfl
 have ew:(fH r).world r= []:=by unfold GS.world;rw [e0];rfl
 refine⟨lr.root r,uw.one r,rfl,rfl,?_,?_,?_⟩
 ·intro nd fE
  have:nd=⟨r,[]⟩:=by simpa [fH]using fE.symm
  subst this;exact⟨ec,ew⟩
 ·rintro s h ⟨i,j,ni,m,h1,_,h3,_,_⟩
  exfalso;cases i with
  |zero=>simp [fH]at h3
  |succ i=>simp [fH]at h1
 ·intro h hm
  have:h=r:=by simpa [fH,ids]using hm
  subst this;refine⟨by rw [ew];simp,by rw [ew];simp,?_⟩;unfold GS.score;rw [ec,ew];rfl
theorem DV(H:jM k G)(hc:fg G.D h ps=0):∃(j:Nat) (m:DN),G.D[j]? =some m/\m.id=cf G ps/\(pos (cf G ps) (ids G.D) 0).getD 0=j/\cf G ps∈ps/\cf G ps∈ids G.D:=by
 obtain⟨hn,gQ,fE,qJ⟩:=mo hc;have h1:=kF (G:=G) gQ;have h2:=qJ _ (dU.2 h1);obtain⟨m,hm,e⟩:=eV.1 h2;obtain⟨j,hj⟩:=List.getElem?_of_mem hm;have h3:=H.W.pos_eq hj;rw [e]at h3;exact⟨j,m,hj,e,by rw [h3];rfl,h1,h2⟩
theorem x7(H:jM k G)(hc:fg G.D h ps=0):(∀y,fU (G.D++ [⟨h,dP ps⟩]) y h↔∃p∈ps,y=p\/fU G.D y p)/\∀a b,b∈ids G.D->(fU (G.D++ [⟨h,dP ps⟩]) a b↔fU G.D a b):=by
 obtain⟨hn,gQ,fE,qJ⟩:=mo hc;have W':lr (G.D++ [⟨h,dP ps⟩]):=by have:=H.W.add h ps;rwa [rL hc]at this
 have Iq:(G.D++ [(⟨h,dP ps⟩:DN)])[G.D.length]? =some ⟨h,dP ps⟩:=by rw [List.getElem?_append_right (Nat.le_refl _),Nat.sub_self];rfl
 have Ds:∀a b,b∈ids G.D->(fU (G.D++ [⟨h,dP ps⟩]) a b↔fU G.D a b):=λa b hb=>kL H.W hn hb;refine⟨λy=>?_,Ds⟩;rw [GY W' Iq y];constructor
 ·rintro⟨p,hp,e⟩
  exact⟨p,dU.1 hp,e.imp_right λe=>(Ds _ _ (qJ _ hp)).1 e⟩
 ·rintro⟨p,hp,e⟩
  exact⟨p,dU.2 hp,e.imp_right λe=>(Ds _ _ (qJ _ (dU.2 hp))).2 e⟩
theorem jM.add(H:jM k G)(h:HT)(ps:List HT):jM k (eZ k G h ps):=by
 by_cases hc:fg G.D h ps=0
 ·obtain⟨hn,gQ,fE,qJ⟩:=mo hc
  obtain⟨j,m,hj,hm,kW,Ic,Ex⟩:=DV H hc;obtain⟨IV,Ds⟩:=x7 H hc;have hk:=λy (hy:y∈ids G.D)=>pF (h:=h) (ps:=ps) H hy;obtain⟨nc,nw⟩:=uq H hc;obtain⟨v1,v2⟩:=wm k G (cf G ps) ps;obtain⟨u1,u2,u3⟩:=zY H Ex ps (λp hp=>qJ _ (dU.2 hp));have W':lr (G.D++ [⟨h,dP ps⟩]):=by have:=H.W.add h ps;rwa [rL hc]at this
  have oW:uw (G.D++ [(⟨h,dP ps⟩:DN)]) (G.P++ [(j:Int)]):=H.jv.snoc hj (by rw [hm];exact dU.2 Ic) H.W.pos;generalize hs:cf G ps=s at*;have eG:=nf (k:=k) hc;rw [hs,kW]at eG;have eD:(eZ k G h ps).D=G.D++ [⟨h,dP ps⟩]:=by rw [eG]
  have eP:(eZ k G h ps).P=G.P++ [(j:Int)]:=by rw [eG]
  refine⟨by rw [eD];exact W',by rw [eD,eP];exact oW,by rw [eG];simp [H.lc],by rw [eG];simp [H.lw],?_,?_,?_⟩
  ·intro nd pw
   rw [eD,List.getElem?_append_left H.W.pos]at pw;obtain⟨e1,e2⟩:=hk nd.id (eV.2 ⟨nd,List.mem_of_getElem? pw,rfl⟩);rw [e1,e2];exact H.root nd pw
  ·intro t y hy
   rw [eD,eP,pN H.W H.jv hn hj]at hy;rcases hy with hy|⟨rfl,rfl⟩
   ·have hp:=hy.par H.jv
    have hyi:y∈ids G.D:=((fU.one hp).mem H.W).2;have Ml:t∈ids G.D:=((fU.one hp).mem H.W).1;obtain⟨e1,e2⟩:=hk y hyi;obtain⟨_,e3⟩:=hk t Ml;obtain⟨g1,g2,g3,g4,g5⟩:=H.up t y hy;rw [e1,e2,e3,eD];refine⟨g1,g2,g3,g4,λz=>?_⟩;rw [g5,Ds _ _ hyi,Ds _ _ Ml]
   ·show _/\_
    rw [nc,nw,hm,(hk s Ex).2,eD];refine⟨rfl,v2,v1,(mH _ _ _).nodup,λz=>?_⟩;show z∈cZ G s ps↔_
    rw [jR,IV,Ds _ _ Ex];constructor
    ·rintro⟨e,h3,h4⟩
     refine⟨?_,h3,h4⟩;rcases e with⟨_,p,hp,e⟩|e
     ·exact⟨p,hp,.inr e⟩
     ·exact⟨z,e,.inl rfl⟩
    ·rintro⟨⟨p,hp,e⟩,h3,h4⟩
     refine⟨?_,h3,h4⟩;rcases e with rfl|e
     ·exact .inr hp
     ·exact .inl ⟨(e.mem H.W).1,p,hp,e⟩
  ·intro y hy
   rw [eD,mU]at hy;rcases List.mem_append.1 hy with hy|hy
   ·obtain⟨e1,e2⟩:=hk y hy
    obtain⟨g1,g2,g3⟩:=H.wd y hy;unfold GS.score;rw [e1,e2,eD];exact⟨g1,λb hb=>(Ds _ _ hy).2 (g2 b hb),g3⟩
   ·have:y=h:=by simpa using hy
    subst this;unfold GS.score;rw [nc,nw,eD];refine⟨u1,λb hb=>?_,u2.symm⟩;obtain⟨_,e⟩:=u3 b hb;rw [IV];rcases e with rfl|e|e
    ·exact⟨b,Ic,.inl rfl⟩
    ·exact⟨s,Ic,.inr e⟩
    ·obtain⟨e,_,_⟩:=jR.1 e
     rcases e with⟨_,p,hp,e⟩|e
     ·exact⟨p,hp,.inr e⟩
     ·exact⟨b,e,.inl rfl⟩
 ·rw [uo hc];exact H
end
def oG(sz:HT->HT->Option Nat)(l:List HT)(b:HT):Nat:=(l.findSome? λh=>sz h b).getD 0
def tV(ov:HT->Option Nat)(base:HT->Nat)(b:HT):Nat:=(ov b).getD (base b)
structure OV(D:DG)(wd:List HT)(ov:HT->Option Nat)(base:HT->Nat):Prop where
 kn:∀b∈wd,tV ov base b=(cG D wd b).length
 U4:∀b n,ov b=some n->b∈wd
noncomputable def Cb(D:DG)(wd:List HT)(ov:HT->Option Nat)(base:HT->Nat)(h:HT):HT->Option Nat:=
 λb=>if b∈cG D wd h then some (tV ov base b+1)else if b=h then some (cG D wd h).length else ov b
theorem OV.step{D:DG}{wd:List HT}{ov:HT->Option Nat}{base:HT->Nat}(H:OV D wd ov base){h:HT}(hn:h∉wd):OV D (wd++ [h]) (Cb D wd ov base h) base:=by
 refine⟨λb hb=>?_,λb n e=>?_⟩
 ·rw [fQ,List.length_append]
  unfold tV Cb;by_cases hp:b∈cG D wd h
  ·rw [if_pos hp]
   obtain⟨h1,h2⟩:=gC.1 hp;rw [Option.getD_some,H.kn b h1];have:cG D [h] b= [h]:=by unfold cG;rw [List.filter_cons_of_pos (by simpa using h2.symm)];rfl
   rw [this];rfl
  ·rw [if_neg hp]
   by_cases e:b=h
   ·subst e
    rw [if_pos rfl,Option.getD_some];have:cG D [b] b= []:=by unfold cG;rw [List.filter_cons_of_neg (by simpa using λe:oF D b b=>e.1 rfl)];rfl
    rw [this];rfl
   ·rw [if_neg e]
    have hw:b∈wd:=by
     rcases List.mem_append.1 hb with hb|hb
     ·exact hb
     ·exact absurd (by simpa using hb) e
    have:cG D [h] b= []:=by unfold cG;rw [List.filter_cons_of_neg (by simpa using λe':oF D h b=>hp (gC.2 ⟨hw,e'.symm⟩))];rfl
    rw [this];exact H.kn b hw
 ·unfold Cb at e
  split at e
  ·rename_i hp
   exact List.mem_append_left _ (gC.1 hp).1
  ·split at e
   ·rename_i hb;subst hb;exact List.mem_append_right _ (by simp)
   ·exact List.mem_append_left _ (H.U4 b n e)
structure SZ(G:GS)(sz:HT->HT->Option Nat):Prop where
 kn:∀h l,h∈ids G.D->eh G.D G.P h l->∀b∈G.world h++ [h],oG sz l b=(cG G.D (G.world h++ [h]) b).length
 U4:∀h b n,sz h b=some n->b∈ids G.D
theorem SZ.ov{G:GS}{sz:HT->HT->Option Nat}(Z:SZ G sz){s:HT}(hs:s∈ids G.D){l:List HT}(hl:eh G.D G.P s l):OV G.D (G.world s++ [s]) (λ_=>none) (oG sz l):=
 ⟨λb hb=>Z.kn s l hs hl b hb,λb n e=>by cases e⟩
theorem Up.snoc{P:List Int}{p:Int}:∀ {i:Nat} {l:List Nat},Up P i l->Up (P++ [p]) i l:=by
 intro i l h
 induction h with
 |root=>exact .root
 |step h _ ih=>exact .step (by rw [List.getElem?_append_left (lgeS h).1];exact h) ih
theorem zB{D:DG}{nd:DN}{i:Nat}(h:i<D.length):qu (D++ [nd]) i=qu D i:=by unfold qu;rw [List.getElem?_append_left h]
theorem eh.snoc{D:DG}{P:List Int}(H:uw D P){nd:DN}{p:Int}{h:HT}{l:List HT}(hm:h∈ids D)(c:eh D P h l):eh (D++ [nd]) (P++ [p]) h l:=by
 rcases c with⟨hn,_⟩|⟨i,m,ks,h1,h2,h3,h4⟩
 ·exact absurd hm hn
 ·have eA:=(lgeS h1).1
  refine .inr ⟨i,m,ks,by rw [List.getElem?_append_left eA];exact h1,h2,h3.snoc,?_⟩;rw [h4];refine List.map_congr_left λk hk=>(zB ?_).symm;have:=h3.lt H.par (by rw [H.len];exact eA) k hk
  rwa [H.len]at this
theorem eh.new{D:DG}{P:List Int}(W:lr D)(H:uw D P){nd m:DN}{j:Nat}(hj:D[j]? =some m){l:List HT}(c:eh D P m.id l):eh (D++ [nd]) (P++ [(j:Int)]) nd.id (nd.id::l):=by
 have hm:m.id∈ids D:=eV.2 ⟨m,List.mem_of_getElem? hj,rfl⟩;have c':=eh.snoc (nd:=nd) (p:=(j:Int)) H hm c;rcases c with⟨hn,_⟩|⟨i,m',ks,h1,h2,h3,h4⟩
 ·exact absurd hm hn
 ·have sY:=W.inj h1 hj h2
  subst sY;have e0:(D++ [nd])[D.length]? =some nd:=by rw [List.getElem?_append_right (Nat.le_refl _),Nat.sub_self];rfl
  refine .inr ⟨D.length,nd,D.length::ks,e0,rfl,.step (by rw [<-H.len,List.getElem?_append_right (Nat.le_refl _),Nat.sub_self];rfl) h3.snoc,?_⟩;rw [List.map_cons,pr e0,h4]
  congr 1
  refine List.map_congr_left λk hk=>(zB ?_).symm;have:=h3.lt H.par (by rw [H.len];exact(lgeS h1).1) k hk
  rwa [H.len]at this
theorem pT{D D':DG}{l:List HT}{b:HT}(h:∀a∈l,oF D' a b↔oF D a b):cG D' l b=cG D l b:=by
 unfold cG;exact List.filter_congr λa ha=>by simp only [h a ha]
theorem SZ.root(r:HT):SZ (fH r) (λ_ _=>none):=by
 refine⟨λh l hm _ b hb=>?_,λh b n e=>by cases e⟩;have hh:h=r:=by simpa [fH,ids]using hm
 subst hh;have ew:(fH h).world h= []:=((lM 0 h).root ⟨h,[]⟩ rfl).2;rw [ew]at hb⊢;have:b=h:=by simpa using hb
 subst this;have:cG (fH b).D ([]++ [b]) b= []:=by unfold cG;rw [List.nil_append,List.filter_cons_of_neg (by simpa using λe:oF (fH b).D b b=>e.1 rfl)];rfl
 rw [this];unfold oG;have:(l.findSome? λ_=>(none:Option Nat))=none:=by simp
 rw [this];rfl
theorem SZ.add{k:Nat}{G:GS}{sz:HT->HT->Option Nat}(Z:SZ G sz)(H:jM k G){h:HT}{ps:List HT}(hc:fg G.D h ps=0){l:List HT}(hl:eh G.D G.P (cf G ps) l){ov:HT->Option Nat}
 (O:OV G.D (iO k G (cf G ps) ps).wd ov (oG sz l)):SZ (eZ k G h ps) (λy=>if y=h then ov else sz y):=by
 obtain⟨hn,gQ,fE,qJ⟩:=mo hc;obtain⟨j,m,hj,hm,kW,Ic,Ex⟩:=DV H hc;obtain⟨IV,Ds⟩:=x7 H hc;have H':=H.add h ps;obtain⟨nc,nw⟩:=uq H hc;obtain⟨u1,u2,u3⟩:=zY H Ex ps (λp hp=>qJ _ (dU.2 hp));have eD:(eZ k G h ps).D=G.D++ [⟨h,dP ps⟩]:=by rw [nf hc]
 have eP:(eZ k G h ps).P=G.P++ [(j:Int)]:=by rw [nf hc,kW]
 have apt:∀a b,a∈ids G.D->b∈ids G.D->(oF (G.D++ [⟨h,dP ps⟩]) a b↔oF G.D a b):=λa b ha hb=>by unfold oF;rw [Ds _ _ hb,Ds _ _ ha]
 have lno:∀(y:HT) (l':List HT),y∈ids G.D->eh G.D G.P y l'->∀b,oG (λy=>if y=h then ov else sz y) l' b=oG sz l' b:=λy l' hy c b=>by
  unfold oG;have hni:h∉l':=λe=>hn ((c.mem H.W H.jv).1 e).mem.1;have key:∀l':List HT,h∉l'->(l'.findSome? λy=>(if y=h then ov else sz y) b)=l'.findSome? λy=>sz y b:=by
   intro l'
   induction l' with
   |nil=>intro _;rfl
   |cons y l' ih=>
    intro hq;simp only [List.mem_cons,not_or]at hq;rw [List.findSome?_cons,List.findSome?_cons,if_neg (λe=>hq.1 e.symm),ih hq.2]
  rw [key l' hni]
 refine⟨λy l' hy c b hb=>?_,λy b n e=>?_⟩
 ·rw [eD,eP]at c
  rw [eD]at hy⊢;rw [mU]at hy;have W':lr (G.D++ [⟨h,dP ps⟩]):=by have:=H'.W;rwa [eD]at this
  have S':uw (G.D++ [⟨h,dP ps⟩]) (G.P++ [(j:Int)]):=by have:=H'.jv;rwa [eD,eP]at this
  rcases List.mem_append.1 hy with hy|hy
  ·obtain⟨l0,c0⟩:=eh.ex H.jv y
   have:l'=l0:=c.one W' S' (c0.snoc H.jv hy);subst this;obtain⟨_,e2⟩:=pF (k:=k) (h:=h) (ps:=ps) H hy;rw [e2]at hb⊢;rw [lno y l' hy c0,Z.kn y l' hy c0 b hb];have gD:∀a∈G.world y++ [y],a∈ids G.D:=λa ha=>by
    rcases List.mem_append.1 ha with ha|ha
    ·exact(((H.wd y hy).2.1 a ha).mem H.W).1
    ·have:a=y:=by simpa using ha
     subst this;exact hy
   rw [pT λa ha=>apt a b (gD a ha) (gD b hb)]
  ·have:y=h:=by simpa using hy
   subst this;have cn:=eh.new (nd:=⟨y,dP ps⟩) H.W H.jv hj (by rw [hm];exact hl);have:l'=y::l:=c.one W' S' cn;subst this;rw [nw]at hb⊢;have e1:oG (λz=>if z=y then ov else sz z) (y::l) b=tV ov (oG sz l) b:=by
    have:=lno _ l Ex hl b;unfold oG at this⊢;unfold tV;rw [List.findSome?_cons];cases Bp:ov b with
    |none=>simp only [if_true,Bp,Option.getD_none];exact this
    |some n=>simp only [if_true,Bp,Option.getD_some]
   rw [e1,fQ,List.length_append];have VW:∀a∈(iO k G (cf G ps) ps).wd,¬oF (G.D++ [⟨y,dP ps⟩]) a y:=λa ha e=>by
    obtain⟨_,e'⟩:=u3 a ha;refine e.2.1 ((IV a).2 ?_);rcases e' with rfl|e'|e'
    ·exact⟨_,Ic,.inl rfl⟩
    ·exact⟨_,Ic,.inr e'⟩
    ·obtain⟨e',_,_⟩:=jR.1 e'
     rcases e' with⟨_,p,hp,e'⟩|e'
     ·exact⟨p,hp,.inr e'⟩
     ·exact⟨a,e',.inl rfl⟩
   rcases List.mem_append.1 hb with hb|hb
   ·have hbi:=(u3 b hb).1
    have:cG (G.D++ [⟨y,dP ps⟩]) [y] b= []:=by unfold cG;rw [List.filter_cons_of_neg (by simpa using λe:oF _ y b=>VW b hb e.symm)];rfl
    rw [this,O.kn b hb,pT λa ha=>apt a b (u3 a ha).1 hbi];rfl
   ·have:b=y:=by simpa using hb
    subst this;have e2:cG (G.D++ [⟨b,dP ps⟩]) (iO k G (cf G ps) ps).wd b= []:=by
     unfold cG;rw [List.filter_eq_nil_iff];intro a ha;simpa using VW a ha
    have e3:cG (G.D++ [⟨b,dP ps⟩]) [b] b= []:=by unfold cG;rw [List.filter_cons_of_neg (by simpa using λe:oF _ b b=>e.1 rfl)];rfl
    rw [e2,e3];have e4:ov b=none:=by
     cases Bp:ov b with
     |none=>rfl
     |some n=>exact absurd (u3 b (O.U4 b n Bp)).1 hn
    have e5:oG sz l b=0:=by
     unfold oG;have:(l.findSome? λh=>sz h b)=none:=by
      rw [List.findSome?_eq_none_iff];intro y hy;cases Jb:sz y b with
      |none=>rfl
      |some n=>exact absurd (Z.U4 y b n Jb) hn
     rw [this];rfl
    unfold tV;rw [e4,e5];rfl
 ·rw [eD,mU]
  refine List.mem_append_left _ ?_;split at e
  ·exact(u3 b (O.U4 b n e)).1
  ·exact Z.U4 y b n e
noncomputable def Bt(G:GS)(h:HT):List HT->List HT
 | []=> []
 |a::r=>(if oF G.D a h then [a]else [])++if fU G.D a h then []else cG G.D (fF (G.ln a).merge (G.ln a).gZ) h++Bt G h r
theorem Up.inv{P:List Int}{i:Nat}{l:List Nat}(h:Up P i l):(i=0/\l= [0])\/∃(j:Nat) (r:List Nat),l=i::r/\P[i]? =some (j:Int)/\Up P j r:=by
 cases h with
 |root=>exact .inl ⟨rfl,rfl⟩
 |step h1 h2=>exact .inr ⟨_,_,rfl,h1,h2⟩
theorem eh.inv{D:DG}{P:List Int}(W:lr D)(H:uw D P){h:HT}{l:List HT}(hm:h∈ids D)(c:eh D P h l):
 (l= [h]/\∃nd,D[0]? =some nd/\nd.id=h)\/∃(s:HT) (r:List HT),l=h::r/\lT D P s h/\s∈ids D/\eh D P s r:=by
 rcases c with⟨hn,_⟩|⟨i,m,ks,h1,h2,h3,h4⟩
 ·exact absurd hm hn
 ·rcases h3.inv with⟨rfl,rfl⟩|⟨j,r,rfl,h5,h6⟩
  ·refine .inl ⟨?_,m,h1,h2⟩
   rw [h4,List.map_cons,List.map_nil,pr h1,h2]
  ·have hj:j<D.length:=by
    cases i with
    |zero=>rw [H.root]at h5;simp only [Option.some.injEq]at h5;omega
    |succ i=>
     obtain⟨j',m',e,_,h7,_⟩:=H.up (i+1) _ m (by omega) h5 h1;have:=(lgeS h7).1;omega
   obtain⟨mj,SI⟩:∃mj,D[j]? =some mj:=⟨_,List.getElem?_eq_getElem hj⟩;refine .inr ⟨mj.id,r.map (qu D),?_,⟨i,j,m,mj,h1,h2,h5,SI,rfl⟩,eV.2 ⟨mj,List.mem_of_getElem? SI,rfl⟩,.inr ⟨j,mj,r,SI,rfl,h6,rfl⟩⟩;rw [h4,List.map_cons,pr h1,h2]
theorem TR{k:Nat}{G:GS}(H:jM k G)(h:HT):∀(l:List HT) (s:HT),s∈ids G.D->eh G.D G.P s l->(Bt G h l).Nodup/\∀y,y∈Bt G h l↔y∈cG G.D (G.world s++ [s]) h:=by
 intro l
 induction l with
 |nil=>
  intro s hs c;rcases c.inv H.W H.jv hs with⟨e,_⟩|⟨_,_,e,_⟩<;>cases e
 |cons a r ih=>
  intro s hs c;have key:∀(wb:List HT),G.world s=wb++fF (G.ln s).merge (G.ln s).gZ->(Bt G h r).Nodup->(∀y,y∈Bt G h r↔y∈cG G.D wb h)->a=s->(Bt G h (a::r)).Nodup/\∀y,y∈Bt G h (a::r)↔y∈cG G.D (G.world s++ [s]) h:=by
   rintro wb hw hn hy rfl;obtain⟨w1,w2,_⟩:=H.wd a hs;have aeD:=fU.irrefl H.W a;rw [hw]at w1 w2⊢;rw [List.nodup_append]at w1;obtain⟨w3,w4,w5⟩:=w1;unfold Bt;by_cases ha:fU G.D a h
   ·have Im:¬oF G.D a h:=λe=>e.2.1 ha
    rw [if_pos ha,if_neg Im];refine⟨by simp,λy=>?_⟩;simp only [List.append_nil,List.not_mem_nil,false_iff];intro e;obtain⟨e1,e2⟩:=gC.1 e;rcases List.mem_append.1 e1 with e1|e1
    ·exact e2.2.1 ((w2 y e1).trans ha)
    ·have:y=a:=by simpa using e1
     subst this;exact Im e2
   ·rw [if_neg ha]
    have hr:∀y∈Bt G h r,y∈wb:=λy e=>(gC.1 ((hy y).1 e)).1;refine⟨?_,λy=>?_⟩
    ·refine List.nodup_append.2 ⟨by split<;>simp,List.nodup_append.2 ⟨w4.filter _,hn,?_⟩,?_⟩
     ·intro x hx z hz e
      subst e;exact w5 x (hr x hz) x (gC.1 hx).1 rfl
     ·intro x hx z hz e
      subst e;split at hx
      ·have:x=a:=by simpa using hx
       subst this;refine aeD (w2 x ?_);rcases List.mem_append.1 hz with hz|hz
       ·exact List.mem_append_right _ (gC.1 hz).1
       ·exact List.mem_append_left _ (hr x hz)
      ·simp at hx
    ·rw [fQ,fQ]
     simp only [List.mem_append,hy];have e1:y∈(if oF G.D a h then [a]else [])↔y∈cG G.D [a] h:=by
      unfold cG;by_cases hp:oF G.D a h
      ·rw [if_pos hp,List.filter_cons_of_pos (by simpa using hp)];rfl
      ·rw [if_neg hp,List.filter_cons_of_neg (by simpa using hp)];rfl
     rw [e1];constructor
     ·rintro(e|e|e)
      ·exact .inr e
      ·exact .inl (.inr e)
      ·exact .inl (.inl e)
     ·rintro((e|e)|e)
      ·exact .inr (.inr e)
      ·exact .inr (.inl e)
      ·exact .inl e
  rcases c.inv H.W H.jv hs with⟨e,nd,h0,rfl⟩|⟨t,r',e,oL,ht,hc⟩
  ·obtain⟨r1,r2⟩:=H.root nd h0
   cases e;exact key [] (by rw [r2,r1];simp [fF]) (by simp [Bt]) (λy=>by simp [Bt,cG]) rfl
  ·cases e
   obtain⟨_,u2,_⟩:=H.up t a oL;obtain⟨i1,i2⟩:=ih t ht hc;exact key (G.world t++ [t]) u2 i1 i2 rfl
noncomputable def qp(G:GS)(h:HT)(bl l:List HT):List HT:=cG G.D bl h++Bt G h l
theorem OR{k:Nat}{G:GS}(H:jM k G){h s:HT}{l bl:List HT}(hs:s∈ids G.D)(hl:eh G.D G.P s l)(hn:(G.world s++ [s]++bl).Nodup):
 (qp G h bl l).Nodup/\(qp G h bl l).length=(cG G.D (G.world s++ [s]++bl) h).length/\∀y,y∈qp G h bl l↔y∈cG G.D (G.world s++ [s]++bl) h:=by
 obtain⟨h1,h2⟩:=TR H h l s hs hl;have h0:=hn;rw [List.nodup_append]at hn;obtain⟨n1,n2,n3⟩:=hn;have hm:∀y,y∈qp G h bl l↔y∈cG G.D (G.world s++ [s]++bl) h:=λy=>by
  unfold qp;rw [fQ,List.mem_append,List.mem_append,h2];exact Or.comm
 have fE:(qp G h bl l).Nodup:=by
  refine List.nodup_append.2 ⟨n2.filter _,h1,?_⟩;intro x hx z hz e;subst e;exact n3 x (gC.1 ((h2 x).1 hz)).1 x (gC.1 hx).1 rfl
 exact⟨fE,((List.perm_ext_iff_of_nodup fE (h0.filter _)).2 hm).length_eq,hm⟩
def tO(k:Nat)(kn:HT->Nat)(done:List HT)(b:HT):Bool:=decide (done.length+1<=k/\kn b<k)
def gF(k:Nat)(kn:HT->Nat):List HT->List HT->Bool
 |_,[]=>true
 |done,b::l=>tO k kn done b&&gF k kn (done++ [b]) l
theorem rJ{k:Nat}{kn:HT->Nat}:∀ {l done:List HT},gF k kn done l=true↔(l≠ []->done.length+l.length<=k)/\∀b∈l,kn b<k
 | [],done=>by simp [gF]
 |b::l,done=>by
  unfold gF tO;rw [Bool.and_eq_true,decide_eq_true_eq,rJ];simp only [List.length_append,List.length_cons,List.length_nil,List.mem_cons,forall_eq_or_imp,ne_eq,reduceCtorEq,not_false_eq_true,forall_const];constructor
  ·rintro⟨⟨h1,h2⟩,h3,h4⟩
   refine⟨?_,h2,h4⟩;by_cases e:l= []
   ·subst e;simpa using h1
   ·have:=h3 e;omega
  ·rintro⟨h1,h2,h3⟩
   refine⟨⟨by omega,h2⟩,λ_=>by omega,h3⟩
theorem oy{k:Nat}{kn:HT->Nat}:∀ {l m done:List HT},gF k kn done (l++m)=(gF k kn done l&&gF k kn (done++l) m)
 | [],m,done=>by simp [gF]
 |b::l,m,done=>by
  simp only [List.cons_append,gF,oy (l:=l),Bool.and_assoc,List.append_assoc,List.nil_append]
theorem LH{k:Nat}{D:DG}{wd:List HT}{kn:HT->Nat}{h:HT}{c:List HT}(hk:∀b∈wd,kn b=(cG D wd b).length)(hl:c.length=(cG D wd h).length)(hm:∀y,y∈c↔y∈cG D wd h):
 gF k kn [] c=rH k D wd h:=by
 rw [Bool.eq_iff_iff,rJ];unfold rH;rw [decide_eq_true_eq];simp only [List.length_nil,Nat.zero_add,<-hl];constructor
 ·rintro⟨h1,h2⟩
  refine⟨?_,λy hy=>?_⟩
  ·by_cases e:c= []
   ·subst e;simp
   ·exact h1 e
  ·have:=h2 y ((hm y).2 hy)
   rw [hk y (gC.1 hy).1]at this;omega
 ·rintro⟨h1,h2⟩
  refine⟨λ_=>h1,λy hy=>?_⟩;have hy:=(hm y).1 hy;rw [hk y (gC.1 hy).1];have:=h2 y hy;omega
open Go.RowKit
theorem JV:yX gz gH (.pointer none):=⟨by kernel_rfl,vY (by kernel_rfl)⟩
theorem tR:yX dw iT (.int .i64 0):=⟨by kernel_rfl,vY (by kernel_rfl)⟩
structure Bo(w:World)(A:Option Addr)(n:Nat)(l:List Bool):Prop where
 len:l.length=n
 at_:∀(i:Nat) (b:Bool),l[i]? =some b->∃a,A=some a/\a.block<w.heap.size/\w.cell? (a.add i)=some (.bool b)
theorem Bo.aN{S:Nat->Prop}{w w':World}{A:Option Addr}{n:Nat}{l:List Bool}(h:Bo w A n l)(hk:Kept S w w')(hn:∀a,A=some a->¬S a.block):Bo w' A n l:=⟨h.len,λi x hi=>by
 obtain⟨a,h1,h2,h3⟩:=h.at_ i x hi;exact⟨a,h1,Nat.lt_of_lt_of_le h2 hk.size,hk.cell h3 (by rw [fY];exact hn a h1)⟩⟩
theorem Bo.same{w w':World}{A:Option Addr}{n:Nat}{l:List Bool}(h:Bo w A n l)(hk:Kept Nil w w'):Bo w' A n l:=h.aN hk λ_ _ h=>h
def MY(ov:HT->Option Nat)(b:HT):Option Value:=(ov b).map λn:Nat=>.int .i64 (n:Int)
def I0(w:World)(F:Nat->Prop)(sm:Option Nat)(sz:HT->Option Nat):Prop:=
 (sm=none/\∀b,sz b=none)\/∃s,sm=some s/\F s/\gX w s (MY sz)
def dI(c:qF)(A:Option Addr)(n cp:Nat)(B:Option Addr)(m cq:Nat):Array Value:=c.jv.1++ #[.int .u64 (c.score:Int),.slice A n cp,.slice B m cq]
structure sI(w:World)(F:Nat->Prop)(q:Nat)(c:qF)(sz:HT->Option Nat)(A:Option Addr)(n cp:Nat)(B:Option Addr)(m cq:Nat)(sm:Option Nat):Prop where
 top:w.heap[q]? =some (.cells (dI c A n cp B m cq++ #[.map sm]) fG (0,0))
 mg:HS w A n c.merge
 bl:Bo w B m c.gZ
 fA:∀a,A=some a->F a.block
 fB:∀a,B=some a->F a.block
 sz:I0 w F sm sz
 fq:F q
def Seen(w:World)(F:Nat->Prop)(q:Nat)(c:qF)(sz:HT->Option Nat):Prop:=∃A n cp B m cq sm,sI w F q c sz A n cp B m cq sm
section
variable{w w':World}{F S:Nat->Prop}{q:Nat}{c:qF}{sz:HT->Option Nat}{A B:Option Addr}{n cp m cq:Nat}{sm:Option Nat}
theorem I0.aN(h:I0 w F sm sz)(hk:Kept S w w')(hF:∀j,F j->¬S j):I0 w' F sm sz:=by
 rcases h with h|⟨s,h1,h2,h3⟩
 ·exact .inl h
 ·exact .inr ⟨s,h1,h2,h3.aN hk (hF _ h2)⟩
theorem sI.aN(h:sI w F q c sz A n cp B m cq sm)(hk:Kept S w w')(hF:∀j,F j->¬S j):sI w' F q c sz A n cp B m cq sm:=
 ⟨hk.heap h.top (hF _ h.fq),h.mg.aN hk (λa ha=>hF _ (h.fA a ha)),h.bl.aN hk (λa ha=>hF _ (h.fB a ha)),h.fA,h.fB,h.sz.aN hk hF,h.fq⟩
theorem Seen.aN(h:Seen w F q c sz)(hk:Kept S w w')(hF:∀j,F j->¬S j):Seen w' F q c sz:=by
 obtain⟨A,n,cp,B,m,cq,sm,h⟩:=h;exact⟨A,n,cp,B,m,cq,sm,h.aN hk hF⟩
theorem bR(c:qF)(A:Option Addr)(n cp:Nat)(B:Option Addr)(m cq:Nat):(dI c A n cp B m cq).size=35:=by
 unfold dI;rw [Array.size_append,c.jv.2.1];rfl
theorem iI(c:qF)(A:Option Addr)(n cp:Nat)(B:Option Addr)(m cq:Nat)(r:Array Value):
 ((dI c A n cp B m cq)++r)[32]? =some (.int .u64 (c.score:Int))/\((dI c A n cp B m cq)++r)[33]? =some (.slice A n cp)/\((dI c A n cp B m cq)++r)[34]? =some (.slice B m cq)/\((dI c A n cp B m cq)++r)[35]? =r[0]? :=by
 have hs:=bR c A n cp B m cq;have h0:c.jv.1.size=32:=c.jv.2.1;refine⟨?_,?_,?_,?_⟩
 ·rw [Array.getElem?_append_left (by omega)];unfold dI;rw [Array.getElem?_append_right (by omega),h0];rfl
 ·rw [Array.getElem?_append_left (by omega)];unfold dI;rw [Array.getElem?_append_right (by omega),h0];rfl
 ·rw [Array.getElem?_append_left (by omega)];unfold dI;rw [Array.getElem?_append_right (by omega),h0];rfl
 ·rw [Array.getElem?_append_right (by omega),hs]
theorem sI.c32(h:sI w F q c sz A n cp B m cq sm):w.cell? (((⟨q,0,none⟩:Addr).add 0).add 32)=some (.int .u64 (c.score:Int)):=by
 rw [add_zero,bO,aI h.top];exact(iI ..).1
theorem sI.c35(h:sI w F q c sz A n cp B m cq sm):w.cell? ((⟨q,0,none⟩:Addr).add 35)=some (.map sm):=by
 rw [bO,aI h.top];exact(iI ..).2.2.2
theorem sI.ln(h:sI w F q c sz A n cp B m cq sm):Cells w ((⟨q,0,none⟩:Addr).add 0) (dI c A n cp B m cq):=by
 intro j u hj;rw [add_zero,bO,aI h.top,Array.getElem?_append_left (by rw [bR];have:=(Array.getElem?_eq_some_iff.1 hj).1;rw [bR]at this;omega)];rw [Nat.zero_add];exact hj
end
structure CM where
 x:Nat
 mb:Nat
 SX:Nat->Prop
 FX:Nat->Prop
 q:HT->Nat
 sz:HT->HT->Option Nat
def CM.own(m:CM)(c j:Nat):Prop:=m.SX j\/j=c\/j=m.mb
structure CV(w:World)(F:Nat->Prop)(c:Nat)(k:Nat)(G:GS)(m:CM):Prop where
 top:w.heap[c]? =some (.cells #[.int .i64 (k:Int),.pointer (some ⟨m.x,0,none⟩),.map (some m.mb)] jm (0,0))
 X:FF w m.SX m.FX m.x G.D G.P
 all:gX w m.mb λh=>if h∈ids G.D then some (.pointer (some ⟨m.q h,0,none⟩))else none
 seen:∀h∈ids G.D,Seen w F (m.q h) (G.ln h) (m.sz h)
 iN:jM k G
 Z:SZ G m.sz
 fx:∀j,m.FX j->F j
 fo:∀j,F j->¬m.own c j
 so:∀j,m.SX j->j≠c/\j≠m.mb
 ne:c≠m.mb
 low:∀j,m.own c j\/F j->j<w.heap.size
section
variable{w w':World}{F S:Nat->Prop}{c k:Nat}{G:GS}{m:CM}{K:Value->World->Prop}
theorem CV.aN{S0:Nat->Prop}(h:CV w F c k G m)(hk:Kept S0 w w')(hS:∀j,m.own c j->¬S0 j)(hF:∀j,F j->¬S0 j):CV w' F c k G m where
 top:=hk.heap h.top (hS _ (.inr (.inl rfl)))
 X:=h.X.aN hk (λj e=>hS j (.inl e)) (λj e=>hF j (h.fx j e))
 all:=h.all.aN hk (hS _ (.inr (.inr rfl)))
 seen:=λy hy=>(h.seen y hy).aN hk hF
 iN:=h.iN
 Z:=h.Z
 fx:=h.fx
 fo:=h.fo
 so:=h.so
 ne:=h.ne
 low:=λj e=>Nat.lt_of_lt_of_le (h.low j e) hk.size
theorem CV.same(h:CV w F c k G m)(hk:Kept Nil w w'):CV w' F c k G m:=h.aN hk (λ_ _ h=>h) (λ_ _ h=>h)
theorem CV.c0(h:CV w F c k G m):w.cell? ((⟨c,0,none⟩:Addr).add 0)=some (.int .i64 (k:Int)):=by rw [bO,aI h.top];rfl
theorem CV.c1(h:CV w F c k G m):w.cell? ((⟨c,0,none⟩:Addr).add 1)=some (.pointer (some ⟨m.x,0,none⟩)):=by rw [bO,aI h.top];rfl
theorem CV.c2(h:CV w F c k G m):w.cell? ((⟨c,0,none⟩:Addr).add 2)=some (.map (some m.mb)):=by rw [bO,aI h.top];rfl
theorem CV.look(h:CV w F c k G m)(y:HT):(Instr.lookup gz (.map (some m.mb)) (.agg y.1) false).run prog w=.ok (.pointer (if y∈ids G.D then some ⟨m.q y,0,none⟩else none)) w:=by
 have:=h.all.look JV y;by_cases hy:y∈ids G.D
 ·rw [if_pos hy]at this;rw [if_pos hy];exact this
 ·rw [if_neg hy]at this;rw [if_neg hy];exact this
theorem CV.qi(h:CV w F c k G m){y:HT}(hy:y∈ids G.D):(Instr.lookup gz (.map (some m.mb)) (.agg y.1) false).run prog w=.ok (.pointer (some ⟨m.q y,0,none⟩)) w:=by
 have:=h.look y;rwa [if_pos hy]at this
theorem rz(h:CV w F c k G m)(hK:K (.bool true) w):bJ prog fJ.id #[.pointer (some ⟨c,0,none⟩)] w K:=
 fJ.of (Split.yes rfl ⟨_,h.c1,hK⟩)
theorem IJ{A:Addr}{x y:Int}{cx:Nat}(h0:w.cell? A=some (.int .i64 x))(h1:w.cell? (A.add 1)=some (.int .i64 y))(hK:K (.int .i64 (if x=0 then y else x)) w):
 bJ prog cu.id #[.slice (some A) 2 cx] w K:=by
 refine cu.of ?_;unfold cu.W;refine cu.cP (I:=λs w'=>w'=w/\((s=(0,0))\/(s=(0,1)/\x=0)\/(s=(0,2)/\x=0/\y=0))) (μ:=λs _=>(2-s.2).toNat) (s:=(0,0)) ⟨rfl,.inl rfl⟩ ?_;rintro s w' ⟨rfl,h⟩;rcases h with rfl|⟨rfl,hx⟩|⟨rfl,hx,hy⟩
 ·refine Split.yes rfl ⟨by simp only;omega,x,by rw [show(0:Int).toNat*1=0 from rfl,add_zero];exact h0,?_⟩
  by_cases hx:x=0
  ·refine Split.no (by simp [hx]) ?_
   exact⟨(0,1),rfl,⟨rfl,.inr (.inl ⟨rfl,hx⟩)⟩,by simp only;omega⟩
  ·refine Split.yes (by simpa using hx) ?_
   rw [if_neg hx]at hK;rw [iD];exact hK
 ·refine Split.yes rfl ⟨by simp only;omega,y,h1,?_⟩
  rw [if_pos hx]at hK;by_cases hy:y=0
  ·refine Split.no (by simp [hy]) ?_
   exact⟨(0,2),rfl,⟨rfl,.inr (.inr ⟨rfl,hx,hy⟩)⟩,by simp only;omega⟩
  ·refine Split.yes (by simpa using hy) ?_
   rw [iD];exact hK
 ·refine Split.no rfl ?_
  rw [bg,cu.dJ];rw [if_pos hx,hy]at hK;exact hK
theorem Fm{x y:Int}(hK:K (.int .i64 (if x<y then-1 else if y<x then 1 else 0)) w):bJ prog eQ.id #[.int .u64 x,.int .u64 y] w K:=by
 refine eQ.of ?_;refine gJ.of ⟨_,rfl,?_⟩;refine gJ.of ⟨_,rfl,?_⟩;refine Split.no (by simp) (Split.no (by simp) (Split.dec (λh=>?_) (λh=>Split.dec (λh'=>?_) (λh'=>?_))))
 ·rw [if_pos h]at hK;exact hK
 ·rw [if_neg h,if_pos h']at hK;exact hK
 ·rw [if_neg h,if_neg h']at hK;exact hK
theorem rC(h:CV w F c k G m){a b:HT}(ha:a∈ids G.D)(hb:b∈ids G.D)(hK:∀w',Kept Nil w w'->K (.int .i64 (Db G a b)) w'):
 bJ prog dN.id #[.pointer (some ⟨c,0,none⟩),.agg a.1,.agg b.1] w K:=by
 refine dN.of ?_;unfold dN.W;intro w4 w5 w6;have k4:Kept Nil w w4:=(Kept.refl _ _).alloc _;have CS:w4.heap[w.heap.size]? =some (.cells a.1 ai (0,0)):=aO w _;have k5:Kept Nil w4 w5:=(Kept.refl _ _).alloc _;have o9:w5.heap[w4.heap.size]? =some (.cells b.1 ai (0,0)):=aO w4 _;have k6:Kept Nil w5 w6:=(Kept.refl _ _).drew;clear_value w6;have yL:=(k5.tt k6).heap CS (λh=>h);have rr:=k6.heap o9 (λh=>h);have rl:=(k4.tt k5).tt k6;have h6:=h.same rl;obtain⟨A1,n1,c1,B1,m1,d1,s1,sa⟩:=h6.seen a ha;obtain⟨A2,n2,c2,B2,m2,d2,s2,sb⟩:=h6.seen b hb;refine⟨_,h6.c2,a.1,⟨a.2.1,Cells.bX yL⟩,_,h6.qi ha,_,sa.c32,_,h6.c2,b.1,⟨b.2.1,Cells.bX rr⟩,_,h6.qi hb,_,sb.c32,a.1,⟨a.2.1,Cells.bX yL⟩,b.1,⟨b.2.1,Cells.bX rr⟩,?_⟩;refine Fm ⟨_,rfl,⟨b.1,rfl,b.2.1,Cells.bX rr⟩,⟨a.1,rfl,a.2.1,Cells.bX yL⟩,?_⟩;refine rG a b ⟨_,rfl,?_⟩;have k7:Kept Nil w6 ((w6.alloc (.cells a.1 ai)).alloc (.cells b.1 ai)).drew:=(((Kept.refl Nil w6).alloc _).alloc _).drew;generalize ((w6.alloc (.cells a.1 ai)).alloc (.cells b.1 ai)).drew=w7 at k7⊢;intro w8;have k8:Kept Nil w7 w8:=(Kept.refl _ _).alloc _;have GM:w8.heap[w7.heap.size]? =some (.cells _ _ (0,0)):=aO w7 _;clear_value w8;refine IJ (A:=⟨w7.heap.size,0,none⟩) (by rw [aI GM];rfl) (by rw [bO,aI GM];rfl) ⟨_,rfl,?_⟩;have e:(if(if((G.ln a).score:Int)<((G.ln b).score:Int)then(-1:Int)else if((G.ln b).score:Int)<((G.ln a).score:Int)then 1 else 0)=0 then mX a b else if((G.ln a).score:Int)<((G.ln b).score:Int)then(-1:Int)else if((G.ln b).score:Int)<((G.ln a).score:Int)then 1 else 0)=Db G a b:=by
  rw [OQ];unfold GS.score;by_cases h1:(G.ln a).score<(G.ln b).score
  ·have vC:((G.ln a).score:Int)<((G.ln b).score:Int):=by omega
   rw [if_pos h1,if_pos vC,if_neg (by decide)]
  ·have vC:¬((G.ln a).score:Int)<((G.ln b).score:Int):=by omega
   by_cases h2:(G.ln b).score<(G.ln a).score
   ·have xA:((G.ln b).score:Int)<((G.ln a).score:Int):=by omega
    rw [if_neg h1,if_neg vC,if_pos h2,if_pos xA,if_neg (by decide)]
   ·have xA:¬((G.ln b).score:Int)<((G.ln a).score:Int):=by omega
    rw [if_neg h1,if_neg vC,if_neg h2,if_neg xA,if_pos rfl]
 rw [e];exact hK _ ((rl.tt k7).tt k8)
end
section
variable{w:World}
theorem gX.Gg{mt te:TypeId}{z:Value}(T:yX mt te z){m:Nat}{f:HT->Option Value}(hm:gX w m f)(h:HT):
 (Instr.lookup mt (.map (some m)) (.agg h.1) true).run prog w=.ok (.tuple #[(f h).getD z,.bool (f h).isSome]) w:=by
 obtain⟨es,clock,l,h1,h2,h3,_⟩:=hm.ex;have h4:=nN h w h2;have h5:=oP h l 0;rw [h3]at h5;simp only [Instr.lookup,Sem.run_bind,run_underlying T.qG,rD h1,Result.andThen_ok,Sem.run_pure,kH,h4];cases hp:nJ h l 0 with
 |none=>rw [hp]at h5;simp [<-h5,T.zero]
 |some p=>rw [hp]at h5;simp [<-h5]
theorem Eh{mt te:TypeId}{z:Value}(T:yX mt te z)(h:HT):
 (Instr.lookup mt (.map none) (.agg h.1) true).run prog w=.ok (.tuple #[z,.bool false]) w:=by
 have h3:=nN (es:= []) (l:= []) h w trivial;simp only [Instr.lookup,Sem.run_bind,run_underlying T.qG,Result.andThen_ok,Sem.run_pure,kH];simp [h3,nJ,T.zero]
theorem I0.Gg{F:Nat->Prop}{sm:Option Nat}{sz:HT->Option Nat}(h:I0 w F sm sz)(b:HT):
 (Instr.lookup dw (.map sm) (.agg b.1) true).run prog w=.ok (.tuple #[.int .i64 (((sz b).getD 0:Nat):Int),.bool (sz b).isSome]) w:=by
 rcases h with⟨rfl,h⟩|⟨s,rfl,_,h⟩
 ·rw [h b];exact Eh tR b
 ·have:=h.Gg tR b
  unfold MY at this;cases hb:sz b with
  |none=>rw [hb]at this;exact this
  |some n=>rw [hb]at this;exact this
end
section
variable{w w':World}{F S:Nat->Prop}{c k:Nat}{G:GS}{m:CM}{K:Value->World->Prop}
theorem CY(h:CV w F c k G m)(hD:G.D.length<=5000)(a b:HT)(hK:∀w' (r:Bool),(r=true↔oF G.D a b)->Kept Nil w w'->K (.bool r) w'):
 bJ prog dV.id #[.pointer (some ⟨c,0,none⟩),.agg a.1,.agg b.1] w K:=by
 refine dV.of ?_;unfold dV.W;intro w4 w5 w6;have k4:Kept Nil w w4:=(Kept.refl _ _).alloc _;have CS:w4.heap[w.heap.size]? =some (.cells a.1 ai (0,0)):=aO w _;have k5:Kept Nil w4 w5:=(Kept.refl _ _).alloc _;have o9:w5.heap[w4.heap.size]? =some (.cells b.1 ai (0,0)):=aO w4 _;have k6:Kept Nil w5 w6:=(Kept.refl _ _).drew;clear_value w6;have yL:=(k5.tt k6).heap CS (λh=>h);have rr:=k6.heap o9 (λh=>h);have rl:=(k4.tt k5).tt k6;have h6:=h.same rl;refine⟨a.1,⟨a.2.1,Cells.bX yL⟩,b.1,⟨b.2.1,Cells.bX rr⟩,⟨a.2.ints,b.2.ints⟩,?_⟩;rw [dQ];by_cases mK:a=b
 ·refine Split.no (by rw [decide_eq_true mK];rfl) (hK w6 false ⟨(λe=>by cases e),λe=>absurd mK e.1⟩ rl)
 ·refine Split.yes (by rw [decide_eq_false mK];rfl) ⟨_,h6.c1,a.1,⟨a.2.1,Cells.bX yL⟩,b.1,⟨b.2.1,Cells.bX rr⟩,?_⟩
  obtain⟨mx,X6,_⟩:=h6.X;refine kR X6 hD a b λw7 r hr k7=>⟨_,rfl,?_⟩;have tX:=rl.tt k7;cases r with
  |true=>exact Split.no rfl (hK w7 false ⟨(λe=>by cases e),λe=>absurd (hr.1 rfl) e.2.1⟩ tX)
  |false=>
   have h7:=h.same tX;refine Split.yes rfl ⟨_,h7.c1,b.1,⟨b.2.1,Cells.bX (k7.heap rr (λh=>h))⟩,a.1,⟨a.2.1,Cells.bX (k7.heap yL (λh=>h))⟩,?_⟩;obtain⟨mx',X7,_⟩:=h7.X;refine kR X7 hD b a λw8 r' UK k8=>⟨_,rfl,hK w8 _ ?_ (tX.tt k8)⟩;cases r' with
   |true=>exact⟨(λe=>by cases e),λe=>absurd (UK.1 rfl) e.2.2⟩
   |false=>exact⟨λ_=>⟨mK,(λe=>by have:=hr.2 e;cases this),(λe=>by have:=UK.2 e;cases this)⟩,λ_=>rfl⟩
def lD(D:DG)(l:List HT):Int:=if l= []then 9 else if ∃p∈l,p∉ids D then 6 else 0
theorem zN(h:CV w F c k G m){A:Option Addr}{n cx:Nat}{l:List HT}(hl:HS w A n l)(hn:n<=400000)(hK:∀w',Kept Nil w w'->K (.int .i64 (lD G.D l)) w'):
 bJ prog fN.id #[.pointer (some ⟨c,0,none⟩),.slice A n cx] w K:=by
 have hlen:=hl.len;refine fN.of ?_;unfold fN.W;intro w4;have k4:Kept Nil w w4:=(Kept.refl _ _).alloc _;have Qj:w4.heap[w.heap.size]? =some (.cells #[.pointer (some ⟨c,0,none⟩)] dv (0,0)):=aO w _;clear_value w4;refine⟨some ⟨c,0,none⟩,by rw [aI Qj];rfl,rz (h.same k4) ⟨_,rfl,Split.no rfl ?_⟩⟩;by_cases h0:n=0
 ·subst h0
  have e:l= []:=List.eq_nil_of_length_eq_zero hlen;refine Split.yes rfl ?_;have:=hK w4 k4;unfold lD at this;rw [if_pos e]at this;exact this
 ·have gQ:l≠ []:=λe=>by subst e;exact h0 hlen.symm
  refine Split.no (by simpa using (by omega:¬(n:Int)=0)) ?_;refine cU.of (aA.of ?_);refine aA.cP (I:=λs w'=>∃i:Nat,s=(0,(i:Int))/\i<=n/\(∀p∈l.take i,p∈ids G.D)/\Kept Nil w4 w') (μ:=λs _=>((n:Int)-s.2).toNat) (s:=(0,0)) ⟨0,rfl,Nat.zero_le _,by simp,Kept.refl _ _⟩ ?_;rintro s w' ⟨i,rfl,hi,dr,kw⟩;have k0w:=k4.tt kw;refine Split.dec (λjT=>?_) (λgE=>?_)
  ·simp only at jT
   have eA:i<n:=by omega
   obtain⟨y,hy⟩:∃y,l[i]? =some y:=⟨_,List.getElem?_eq_getElem (by omega)⟩;refine(hl.same k0w).load (i:=(i:Int)) (by omega) hy ?_;refine fP.of ?_;unfold fP.W;intro w7 w8;have k7:Kept Nil w' w7:=(Kept.refl _ _).alloc _;have Le:w7.heap[w'.heap.size]? =some (.cells y.1 ai (0,0)):=aO w' _;have k8:Kept Nil w7 w8:=(Kept.refl _ _).drew;clear_value w8;have GM:=k8.heap Le (λh=>h);have Ut:=(kw.tt k7).tt k8;have h8:=h.same (k4.tt Ut);refine⟨some ⟨c,0,none⟩,by rw [aI (Ut.heap Qj (λh=>h))];rfl,_,h8.c2,y.1,⟨y.2.1,Cells.bX GM⟩,_,h8.look y,_,rfl,?_⟩;by_cases hm:y∈ids G.D
   ·refine Split.no (by rw [if_pos hm];rfl) ?_
    simp only;rw [dO (n:=(i:Int)) (by omega) (by omega)];refine⟨(0,(i:Int)+1),rfl,⟨i+1,rfl,eA,λp hp=>?_,Ut⟩,by simp only;omega⟩;rcases(bV hy).1 hp with hp|rfl
    ·exact dr p hp
    ·exact hm
   ·refine Split.yes (by rw [if_neg hm];rfl) ?_
    refine⟨(i:Int),rfl,_,rfl,?_⟩;have:=hK w8 (k4.tt Ut);unfold lD at this;rw [if_neg gQ,if_pos ⟨y,List.mem_of_getElem? hy,hm⟩]at this;refine Split.yes (decide_eq_true (by omega)) this
  ·simp only at gE
   rw [bg,aA.dJ];rw [List.take_of_length_le (by omega)]at dr;refine⟨_,rfl,_,rfl,?_⟩;have:=hK w' k0w;unfold lD at this;rw [if_neg gQ,if_neg (λ⟨p,hp,hn⟩=>hn (dr p hp))]at this;exact Split.no (by decide) this
end
theorem vE{α β:Type}{f:α->Option β}{y:α}{n:β}:∀ {l:List α} {j:Nat},l[j]? =some y->(∀x∈l.take j,f x=none)->f y=some n->l.findSome? f=some n
 | [],j,h,_,_=>by simp at h
 |x::l,0,h,_,hy=>by
  simp only [List.getElem?_cons_zero,Option.some.injEq]at h;subst h;rw [List.findSome?_cons,hy]
 |x::l,j+1,h,ha,hy=>by
  have hx:=ha x (by simp);rw [List.findSome?_cons,hx];exact vE (l:=l) (j:=j) (by simpa using h) (λz hz=>ha z (by simp [hz])) hy
section
variable{w w':World}{F S:Nat->Prop}{c k:Nat}{G:GS}{m:CM}{K:Value->World->Prop}
theorem E0(h:CV w F c k G m)(hD:G.D.length<=5000){a b:HT}(ha:a∈ids G.D){l:List HT}(hc:eh G.D G.P a l)(hK:∀w',Kept Nil w w'->K (.int .i64 ((oG m.sz l b:Nat):Int)) w'):
 bJ prog bM.id #[.pointer (some ⟨c,0,none⟩),.agg a.1,.agg b.1] w K:=by
 have W:=h.iN.W;have H:=h.iN.jv;have hlD:∀y∈l,y∈ids G.D:=λy hy=>((hc.mem W H).1 hy).mem.1;refine bM.of ?_;unfold bM.W;intro w4 w5 w6 w7 w8;have k4:Kept Nil w w4:=(Kept.refl _ _).alloc _;have Qj:w4.heap[w.heap.size]? =some (.cells #[.pointer (some ⟨c,0,none⟩)] dv (0,0)):=aO w _;have k5:Kept Nil w4 w5:=(Kept.refl _ _).alloc _;have Ow:w5.heap[w4.heap.size]? =some (.cells a.1 ai (0,0)):=aO w4 _;have k6:Kept Nil w5 w6:=(Kept.refl _ _).alloc _;have rr:w6.heap[w5.heap.size]? =some (.cells b.1 ai (0,0)):=aO w5 _;have k7:Kept Nil w6 w7:=(Kept.refl _ _).alloc _;have Mm:w7.heap[w6.heap.size]? =some (.cells #[.int .i64 0] iT (0,0)):=aO w6 _;have k8:Kept Nil w7 w8:=(Kept.refl _ _).drew;clear_value w8;have Sp:=k8.heap Mm (λh=>h);have GM:=k8.heap (k7.heap rr (λh=>h)) (λh=>h);have ha8:=k8.heap (k7.heap (k6.heap Ow (λh=>h)) (λh=>h)) (λh=>h);have hc8:=k8.heap (k7.heap (k6.heap (k5.heap Qj (λh=>h)) (λh=>h)) (λh=>h)) (λh=>h);have Bl:=(((k4.tt k5).tt k6).tt k7).tt k8;have s06:=(((k4.tt k5).tt k6)).size;have l7:=bt Mm;have l8:=bt Sp;clear_value w7 w6 w5 w4;refine⟨some ⟨c,0,none⟩,by rw [aI hc8];rfl,_,(h.same Bl).c1,a.1,⟨a.2.1,Cells.bX ha8⟩,?_⟩;refine vq a λkr pb qb nA NR NQ vP hqb=>⟨_,rfl,?_⟩;have s35:=nA.size;have Kz:=Bl.tt nA;have Ss:=nA.heap Sp (λh=>h)
 let Fb:Value:=.func (.func bG.id) #[] #[.pointer (some ⟨pb,0,none⟩),.pointer (some ⟨qb,0,none⟩)]
 let ρ0:Env:= [(3,.pointer (some ⟨w.heap.size,0,none⟩)),(5,.pointer (some ⟨w5.heap.size,0,none⟩)),(6,.pointer (some ⟨w6.heap.size,0,none⟩)),(15,Fb)]
 let J:Nat->World->Prop:=λj u=>Kept Nil kr u/\j<=l.length/\∀y∈l.take j,m.sz y b=none
 let Jd:Code->World->Prop:=λe u=>e=.ret/\Kept (λk=>k=w6.heap.size) kr u/\∃n:Nat,(l.findSome? λy=>m.sz y b)=some n/\u.heap[w6.heap.size]? =some (.cells #[.int .i64 (n:Int)] iT (0,0))
 have k0J:∀ {u:World},Kept Nil kr u->Kept Nil w u:=λk=>Kz.tt k;have kS:∀ {v:World},Kept (λk=>k=w6.heap.size) kr v->Kept Nil w v:=λk=>Kz.trans k (λk hk e=>by omega);obtain⟨mx,X35,_⟩:=(h.same Kz).X
 change Holds none [] prog _ _ _ ρ0 kr
 refine pS (n:=33) (ρ:=ρ0) (ρ0:=ρ0) ng mix bM.k (t:=15) (ps:= #[16]) (by kernel_rfl) (by decide) rfl bG.at_ rfl (.inl rfl) (λi x hi hx=>hx) rfl ud l (λ_=>rfl) (λq hq=>by
  have e49:q=16:=by simpa using hq
  subst e49;exact⟨by decide,by decide⟩) (FQ (F:=m.FX) (x:=m.x) (m:=mx) (pb:=pb) (qb:=qb) hc (by omega)) J Jd ?_ ?_ (λj u hJ=>⟨X35.same hJ.1,hJ.1.heap NR (λh=>h),hJ.1.heap NQ (λh=>h)⟩) ?_ ?_ ?_ ?_ ?_
 ·rintro j u1 u2 R sX ⟨h1,h2,h3⟩ qm
  exact⟨h1.trans qm (λk hk e=>by omega),h2,h3⟩
 ·rintro e u1 u2 R sX ⟨h1,h2,n,h3,h4⟩ qm
  exact⟨h1,h2.trans qm (λk hk e=>by omega),n,h3,qm.heap h4 (by omega)⟩
 ·intro R
  exact⟨(((Kept.refl _ _).alloc _).alloc _),Nat.zero_le _,by simp⟩
 ·rintro j z u1 R hz ⟨h1,h2,h3⟩ sX
  have e7:nz ρ0 ((#[16]:Array Nat).toList.zip (ud z))= [(3,.pointer (some ⟨w.heap.size,0,none⟩)),(5,.pointer (some ⟨w5.heap.size,0,none⟩)),(6,.pointer (some ⟨w6.heap.size,0,none⟩)),(15,Fb),(16,.agg z.1)]:=rfl;rw [e7,bM.a1];have vA:=(lgeS hz).1;unfold bM.A1;intro Ul;obtain⟨uP,ly,lH⟩:=jt (w:=u1) (z:=gu.1) (cs:=z.1) (t:=ai) (by rw [z.2.1];rfl);refine⟨⟨z.2.1,z.2.one,λj hj=>uP j (by rw [z.2.1];exact hj)⟩,?_⟩;intro O2
  replace ly:O2.heap[u1.heap.size]? =some (.cells z.1 ai (0,0)):=ly
  replace lH:Kept Nil u1 O2:=lH
  clear_value O2;have K5:=sX.aN lH (λh=>h) (λh=>h);refine⟨K5,λw2 R2 ql vR=>?_⟩;have oN:=ql.heap ly (mJ ly K5.loop);have yx:Kept Nil kr w2:=(h1.tt lH).trans ql (λk hk e=>by omega);rw [bM.y1];unfold bM.Y1;intro Vm;have Po:Kept Nil w2 Vm:=(Kept.refl _ _).drew;clear_value Vm;have Yu:=vR.aN Po (λh=>h) (λh=>h);have Cy:=yx.tt Po;have Rz:=nA.tt Cy;have h48:=h.same (Bl.tt Rz);obtain⟨A1,n1,c1,B1,m1,d1,s1,sa⟩:=h48.seen z (hlD z (List.mem_of_getElem? hz));refine⟨some ⟨c,0,none⟩,by rw [aI (Rz.heap hc8 (λh=>h))];rfl,_,h48.c2,z.1,⟨z.2.1,Cells.bX (Po.heap oN (λh=>h))⟩,_,h48.qi (hlD z (List.mem_of_getElem? hz)),_,sa.c35,b.1,⟨b.2.1,Cells.bX (Rz.heap GM (λh=>h))⟩,_,_,sa.sz.Gg b,?_⟩;cases hzb:m.sz z b with
  |some n=>
   refine Split.yes rfl ⟨eI (Cy.heap Ss (λh=>h)) (by simp),?_⟩;intro sJ;have Sq:sJ.heap[w6.heap.size]? =some (.cells #[.int .i64 (n:Int)] iT (0,0)):=by
    show(Vm.setCell ⟨w6.heap.size,0,none⟩ (.int .i64 (n:Int))).heap[w6.heap.size]? =_;rw [dL (Cy.heap Ss (λh=>h)) 0];rfl
   have H4:Kept (· =w6.heap.size) Vm sJ:=Kept.setCell (S:=λk=>k=w6.heap.size) (Kept.refl _ Vm) (p:=⟨w6.heap.size,0,none⟩) (λ_=>rfl) _;clear_value sJ;exact⟨Yu.aN H4 (λe=>by omega) (λe=>by omega),rfl,(Cy.mono λ_ _ h=>h.elim).tt H4,n,vE hz h3 hzb,Sq⟩
  |none=>
   refine Split.no rfl ⟨Yu,Cy,vA,λy hy=>?_⟩;rcases(bV hz).1 hy with hy|rfl
   ·exact h3 y hy
   ·exact hzb
 ·rintro u1 R ⟨h1,h2,h3⟩ sX
  rw [List.take_of_length_le (Nat.le_refl _)]at h3;have e7:jE ρ0 kr.heap.size= [(3,.pointer (some ⟨w.heap.size,0,none⟩)),(5,.pointer (some ⟨w5.heap.size,0,none⟩)),(6,.pointer (some ⟨w6.heap.size,0,none⟩)),(15,Fb),(4294967296,.agg (sQ [kr.heap.size]))]:=rfl;rw [e7,bM.mz];unfold bM.kZ;have oE:=h1.heap Ss (λh=>h);refine⟨eI oE (by simp),?_⟩;intro sJ;have Sq:sJ.heap[w6.heap.size]? =some (.cells #[.int .i64 0] iT (0,0)):=by
   show(u1.setCell ⟨w6.heap.size,0,none⟩ (.int .i64 0)).heap[w6.heap.size]? =_;rw [dL oE 0];rfl
  have H4:Kept (· =w6.heap.size) u1 sJ:=Kept.setCell (S:=λk=>k=w6.heap.size) (Kept.refl _ u1) (p:=⟨w6.heap.size,0,none⟩) (λ_=>rfl) _;clear_value sJ;have sX:=sX.aN H4 (λe=>by omega) (λe=>by omega);rw [po];have kt:=lY [kr.heap.size] sJ;have hm:∀E∈ [kr.heap.size],sJ.heap[E]? =some (.deferred (some [])):=λE hE=>by
   rw [List.mem_singleton]at hE;subst hE;exact sX.mark
  refine⟨oo [kr.heap.size] sJ (by simp) hm,0,by rw [aI (kt.heap Sq (λhE=>by rw [List.mem_singleton]at hE;omega))];rfl,?_⟩;have e0:oG m.sz l b=0:=by
   unfold oG;have:(l.findSome? λh=>m.sz h b)=none:=List.findSome?_eq_none_iff.2 h3;rw [this];rfl
  have:=hK (iK [kr.heap.size] sJ) ((kS ((h1.mono λ_ _ h=>h.elim).tt H4)).trans kt (λk hk hE=>by rw [List.mem_singleton]at hE;have:=Kz.size;omega));rw [e0]at this;exact this
 ·rintro u1 R ⟨_,h2,n,h3,h4⟩ sX
  have e7:jE ρ0 kr.heap.size= [(3,.pointer (some ⟨w.heap.size,0,none⟩)),(5,.pointer (some ⟨w5.heap.size,0,none⟩)),(6,.pointer (some ⟨w6.heap.size,0,none⟩)),(15,Fb),(4294967296,.agg (sQ [kr.heap.size]))]:=rfl;rw [e7,bM.DE];unfold bM.x8;rw [po];have kt:=lY [kr.heap.size] u1;have hm:∀E∈ [kr.heap.size],u1.heap[E]? =some (.deferred (some [])):=λE hE=>by
   rw [List.mem_singleton]at hE;subst hE;exact sX.mark
  refine⟨oo [kr.heap.size] u1 (by simp) hm,(n:Int),by rw [aI (kt.heap h4 (λhE=>by rw [List.mem_singleton]at hE;omega))];rfl,?_⟩;have e0:oG m.sz l b=n:=by unfold oG;rw [h3];rfl
  have:=hK (iK [kr.heap.size] u1) ((kS h2).trans kt (λk hk hE=>by rw [List.mem_singleton]at hE;have:=Kz.size;omega));rw [e0]at this;exact this
 ·rintro id u1 R ⟨e,_⟩ sX
  cases e
end
section
variable{w:World}
theorem Df{x:HT}:∀ {l:List (HT×Value)},assoc x l≠none↔x∈l.map (·.1)
 | []=>by simp [assoc]
 |(y,v)::l=>by
  have:=Df (x:=x) (l:=l);unfold assoc;by_cases e:x=y
  ·subst e;simp
  ·rw [if_neg e,this]
   simp only [List.map_cons,List.mem_cons];exact⟨.inr,λh=>h.resolve_left e⟩
theorem gX.len{mt te:TypeId}{z:Value}(T:yX mt te z){m:Nat}{f:HT->Option Value}(hm:gX w m f)(ty:TypeId){l:List HT}(hn:l.Nodup)(hl:∀x,f x≠none↔x∈l):
 (Builtin.len_ #[mt] ty #[.map (some m)]).run prog w=.ok (.int .i64 (l.length:Int)) w:=by
 obtain⟨es,clock,l',h1,h2,h3,_,_,h6⟩:=hm.ex;have e1:es.size=l'.length:=by have:=h2.len;simpa using this
 have e2:l'.length=l.length:=by
  have hp:(l'.map (·.1)).Perm l:=(List.perm_ext_iff_of_nodup h6 hn).2 λx=>by rw [<-Df,h3,hl]
  simpa using hp.length_eq
 simp [Builtin.len_,run_underlying T.qG,rD h1,goInt,Result.andThen,e1,e2]
end
section
variable{w w':World}{F S:Nat->Prop}{c k:Nat}{G:GS}{m:CM}{K:Value->World->Prop}
structure VB(w:World)(c:Nat)(s:HT)(bs bc bh q sm:Nat)(ov:HT->Option Nat):Prop where
 hs:w.heap[bs]? =some (.cells #[.pointer (some ⟨q,0,none⟩)] gH (0,0))
 hc:w.heap[bc]? =some (.cells #[.pointer (some ⟨c,0,none⟩)] dv (0,0))
 hh:w.heap[bh]? =some (.cells s.1 ai (0,0))
 sz:w.cell? ((⟨q,0,none⟩:Addr).add 35)=some (.map (some sm))
 ov:gX w sm (MY ov)
theorem VB.aN{S:Nat->Prop}{s:HT}{bs bc bh q sm:Nat}{ov:HT->Option Nat}(h:VB w c s bs bc bh q sm ov)(hk:Kept S w w')(h1:¬S bs)(h2:¬S bc)(h3:¬S bh)(h4:¬S q)(h5:¬S sm):VB w' c s bs bc bh q sm ov:=
 ⟨hk.heap h.hs h1,hk.heap h.hc h2,hk.heap h.hh h3,hk.cell h.sz h4,h.ov.aN hk h5⟩
theorem VB.same{s:HT}{bs bc bh q sm:Nat}{ov:HT->Option Nat}(h:VB w c s bs bc bh q sm ov)(hk:Kept Nil w w'):VB w' c s bs bc bh q sm ov:=h.aN hk (λh=>h) (λh=>h) (λh=>h) (λh=>h) (λh=>h)
theorem CX(h:CV w F c k G m)(hD:G.D.length<=5000){s b:HT}(hs:s∈ids G.D){l:List HT}(hc:eh G.D G.P s l){bs bc bh q sm:Nat}{ov:HT->Option Nat}(V:VB w c s bs bc bh q sm ov)
 (hK:∀w',Kept Nil w w'->K (.int .i64 ((tV ov (oG m.sz l) b:Nat):Int)) w'):
 bJ prog cQ.id #[.agg b.1,.pointer (some ⟨bs,0,none⟩),.pointer (some ⟨bc,0,none⟩),.pointer (some ⟨bh,0,none⟩)] w K:=by
 refine cQ.of ?_;unfold cQ.W;intro w4 w5;have k4:Kept Nil w w4:=(Kept.refl _ _).alloc _;have vB:w4.heap[w.heap.size]? =some (.cells b.1 ai (0,0)):=aO w _;have k5:Kept Nil w4 w5:=(Kept.refl _ _).drew;clear_value w5;have o9:=k5.heap vB (λh=>h);have pq:=k4.tt k5;have V5:=V.same pq;refine⟨some ⟨q,0,none⟩,by rw [aI V5.hs];rfl,_,V5.sz,b.1,⟨b.2.1,Cells.bX o9⟩,?_⟩;have lk:=V5.ov.Gg tR b;unfold MY at lk;cases hb:ov b with
 |some n=>
  rw [hb]at lk;refine⟨(n:Int),true,lk,Split.yes rfl ?_⟩;have:=hK w5 pq;unfold tV at this;rw [hb]at this;exact this
 |none=>
  rw [hb]at lk;refine⟨0,false,lk,Split.no rfl ⟨some ⟨c,0,none⟩,by rw [aI V5.hc];rfl,s.1,⟨s.2.1,Cells.bX V5.hh⟩,b.1,⟨b.2.1,Cells.bX o9⟩,?_⟩⟩;refine E0 (h.same pq) hD hs hc λw7 k7=>⟨_,rfl,?_⟩;have:=hK w7 (pq.tt k7);unfold tV at this;rw [hb]at this;exact this
def Bi(w:World)(fm:Nat)(kn:HT->Nat)(done:List HT):Prop:=gX w fm λy=>if y∈done then some (.int .i64 (kn y:Int))else none
theorem CU(h:CV w F c k G m)(hD:G.D.length<=5000)(pJ:k<=1000){s b:HT}(hs:s∈ids G.D){l:List HT}(hc:eh G.D G.P s l){bs bc bh q sm kb fb fm:Nat}{ov:HT->Option Nat}(V:VB w c s bs bc bh q sm ov)
 (P7:w.heap[kb]? =some (.cells #[.func (.func cQ.id) #[] #[.pointer (some ⟨bs,0,none⟩),.pointer (some ⟨bc,0,none⟩),.pointer (some ⟨bh,0,none⟩)]] gK (0,0)))
 (UW:w.heap[fb]? =some (.cells #[.map (some fm)] dw (0,0))) {done:List HT} (hn:done.Nodup) (hbn:b∉done) (hF:Bi w fm (tV ov (oG m.sz l)) done) (hfo:¬m.own c fm) (hff:¬F fm) (gQ:bc≠fm)
 (hK:∀w' (r:Bool),r=tO k (tV ov (oG m.sz l)) done b->Bi w' fm (tV ov (oG m.sz l)) (done++ [b])->Kept (· =fm) w w'->K (.bool r) w'):
 bJ prog du.id #[.agg b.1,.pointer (some ⟨kb,0,none⟩),.pointer (some ⟨fb,0,none⟩),.pointer (some ⟨bc,0,none⟩)] w K:=by
 have lfm:=hF.lt;refine du.of ?_;unfold du.W;intro w4 w5;have k4:Kept Nil w w4:=(Kept.refl _ _).alloc _;have vB:w4.heap[w.heap.size]? =some (.cells b.1 ai (0,0)):=aO w _;have k5:Kept Nil w4 w5:=(Kept.refl _ _).drew;clear_value w5;have o9:=k5.heap vB (λh=>h);have pq:=k4.tt k5;have hnf:fb≠fm:=λe=>by subst e;obtain⟨es,cl,_,h1,_⟩:=hF.ex;rw [UW]at h1;cases h1
 refine⟨some fm,by rw [aI (pq.heap UW (λh=>h))];rfl,b.1,⟨b.2.1,Cells.bX o9⟩,_,by rw [aI (pq.heap P7 (λh=>h))];rfl,b.1,⟨b.2.1,Cells.bX o9⟩,?_⟩;refine⟨_,_,_,_,rfl,cQ.at_,rfl,?_⟩;refine CX (h.same pq) hD hs hc (V.same pq) λw7 k7=>⟨_,rfl,⟨b.1,rfl,b.2.1,Cells.bX (k7.heap o9 (λh=>h))⟩,?_,?_⟩
 ·rw [aI ((pq.tt k7).heap UW (λh=>h))];rfl
 have tX:=pq.tt k7;obtain⟨w8,Sp,hm8,k8⟩:=(hF.same tX).put tR b (.int .i64 ((tV ov (oG m.sz l) b:Nat):Int));refine⟨w8,Sp,?_⟩;intro w9;have k9:Kept Nil w8 w9:=(Kept.refl _ _).drew;clear_value w9;have k89:Kept (· =fm) w7 w9:=k8.trans k9 (λ_ _ h=>h.elim);have Dv:Kept (· =fm) w w9:=(tX.mono λ_ _ h=>h.elim).tt k89;have U1:Bi w9 fm (tV ov (oG m.sz l)) (done++ [b]):=by
  refine gX.same ?_ k9;have e:(λy=>if y∈done++ [b]then some (Value.int .i64 ((tV ov (oG m.sz l) y:Nat):Int))else none)=λx=>if x=b then some (.int .i64 ((tV ov (oG m.sz l) b:Nat):Int))else if x∈done then some (.int .i64 ((tV ov (oG m.sz l) x:Nat):Int))else none:=by
   funext y
   by_cases e:y=b
   ·subst e;rw [if_pos (by simp),if_pos rfl]
   ·rw [if_neg e]
    by_cases hy:y∈done
    ·rw [if_pos (List.mem_append_left _ hy),if_pos hy]
    ·rw [if_neg (by simp [hy,e]),if_neg hy]
  rw [e];exact hm8
 have Zm:w9.heap[w.heap.size]? =some (.cells b.1 ai (0,0)):=((k7.mono λ_ _ h=>h.elim).tt k89:Kept (· =fm) w5 w9).heap o9 (by omega);have YU:=Dv.heap UW hnf;have fE:(done++ [b]).Nodup:=List.nodup_append.2 ⟨hn,by simp,λx hx y hy e=>by
  have:y=b:=by simpa using hy
  subst this;subst e;exact hbn hx⟩
 have h9:CV w9 F c k G m:=h.aN Dv (λj hj e=>by subst e;exact hfo hj) (λj hj e=>by subst e;exact hff hj);have hc9:w9.heap[bc]? =some (.cells #[.pointer (some ⟨c,0,none⟩)] dv (0,0)):=Dv.heap V.hc gQ;refine⟨some fm,by rw [aI YU];rfl,(done++ [b]).length,U1.len tR iT fE (λx=>by
  by_cases hx:x∈done++ [b]
  ·rw [if_pos hx];exact⟨λ_=>hx,λ_ e=>by cases e⟩
  ·rw [if_neg hx];exact⟨λe=>absurd rfl e,λe=>absurd e hx⟩),some ⟨c,0,none⟩,by rw [aI hc9];rfl,(k:Int),h9.c0,?_⟩
 refine Split.dec (λh1=>?_) (λh1=>?_)
 ·have lk:=gX.look tR U1 b
  rw [if_pos (by simp)]at lk;refine⟨some fm,by rw [aI YU];rfl,b.1,⟨b.2.1,Cells.bX Zm⟩,_,lk,some ⟨c,0,none⟩,by rw [aI hc9];rfl,(k:Int),h9.c0,?_⟩;refine hK w9 _ ?_ U1 Dv;unfold tO;rw [List.length_append,List.length_cons,List.length_nil]at h1;refine decide_eq_decide.2 ⟨λh2=>⟨by omega,by omega⟩,λh2=>by omega⟩
 ·refine hK w9 false ?_ U1 Dv
  unfold tO;rw [List.length_append,List.length_cons,List.length_nil]at h1;exact(decide_eq_false (by omega)).symm
end
structure PN where
 bs:Nat
 bc:Nat
 bh:Nat
 q:Nat
 sm:Nat
 kb:Nat
 fb:Nat
 fm:Nat
 yb:Nat
 hb:Nat
def PN.Fb(p:PN):Value:=.func (.func du.id) #[] #[.pointer (some ⟨p.kb,0,none⟩),.pointer (some ⟨p.fb,0,none⟩),.pointer (some ⟨p.bc,0,none⟩)]
def PN.jD(p:PN)(j:Nat):Prop:=p.bs≠j/\p.bc≠j/\p.bh≠j/\p.q≠j/\p.sm≠j/\p.kb≠j/\p.fb≠j
structure PG(w:World)(F:Nat->Prop)(c k:Nat)(G:GS)(m:CM)(s h:HT)(p:PN)(ov:HT->Option Nat):Prop where
 C:CV w F c k G m
 V:VB w c s p.bs p.bc p.bh p.q p.sm ov
 kb:w.heap[p.kb]? =some (.cells #[.func (.func cQ.id) #[] #[.pointer (some ⟨p.bs,0,none⟩),.pointer (some ⟨p.bc,0,none⟩),.pointer (some ⟨p.bh,0,none⟩)]] gK (0,0))
 fb:w.heap[p.fb]? =some (.cells #[.map (some p.fm)] dw (0,0))
 yb:w.cell? ⟨p.yb,0,none⟩=some p.Fb
 hb:w.heap[p.hb]? =some (.cells h.1 ai (0,0))
 fo:¬m.own c p.fm
 ff:¬F p.fm
 jD:p.jD p.fm
 y:p.yb≠p.fm
 h:p.hb≠p.fm
section
variable{w w' u:World}{F:Nat->Prop}{c k:Nat}{G:GS}{m:CM}{s h:HT}{p:PN}{ov:HT->Option Nat}{K:Value->World->Prop}
theorem PG.aN(B:PG w F c k G m s h p ov)(hk:Kept (· =p.fm) w w'):PG w' F c k G m s h p ov:=by
 obtain⟨f1,f2,f3,f4,f5,f6,f7⟩:=B.jD;exact⟨B.C.aN hk (λj hj e=>by subst e;exact B.fo hj) (λj hj e=>by subst e;exact B.ff hj),B.V.aN hk f1 f2 f3 f4 f5,hk.heap B.kb f6,hk.heap B.fb f7,hk.cell B.yb B.y,hk.heap B.hb B.h,B.fo,B.ff,B.jD,B.y,B.h⟩
theorem PG.same(B:PG w F c k G m s h p ov)(hk:Kept Nil w w'):PG w' F c k G m s h p ov:=B.aN (hk.mono λ_ _ h=>h.elim)
theorem uI(B:PG w F c k G m s h p ov)(hD:G.D.length<=5000)(pJ:k<=1000)(hs:s∈ids G.D){l:List HT}(hc:eh G.D G.P s l){done:List HT}(hF:Bi w p.fm (tV ov (oG m.sz l)) done){b:HT}{zb:Nat}
 (hz:w.heap[zb]? =some (.cells b.1 ai (0,0))) (hzf:zb≠p.fm) (hn:oF G.D b h->(done++ [b]).Nodup) {A T:World->Prop}
 (hA:∀u,oF G.D b h->tO k (tV ov (oG m.sz l)) done b=false->Kept (· =p.fm) w u->A u)
 (hT:∀u zP,zP=done++(if oF G.D b h then [b]else [])->(oF G.D b h->tO k (tV ov (oG m.sz l)) done b=true)->Bi u p.fm (tV ov (oG m.sz l)) zP->Kept (· =p.fm) w u->T u):
 bJ prog dV.id #[.pointer (some ⟨c,0,none⟩),.agg b.1,.agg h.1] w λx y=>∃z:Bool,x=.bool z/\Split z (∃a1:Value,y.cell? ⟨p.yb,0,none⟩=some a1/\∃b1:Array Value,(b1.size=32/\Cells y ⟨zb,0,none⟩ b1)/\
  ∃(c1:Nat) (d1 e1:Array Value) (f1:Func),(a1:Value)=.func (.func c1) d1 e1/\prog.funcs[c1]? =some f1/\f1.body.isSome=true/\
   bJ prog c1 (d1.toList++([.agg b1]:List Value)++e1.toList).toArray y λg1 i1=>∃j1:Bool,g1=.bool j1/\Split (!j1) (A i1) (T i1)) (T y):=by
 refine CY B.C hD b h λy r hr ky=>⟨r,rfl,?_⟩;have kyf:Kept (· =p.fm) w y:=ky.mono λ_ _ h=>h.elim;have By:=B.same ky;cases r with
 |false=>
  have Im:¬oF G.D b h:=λe=>by have:=hr.2 e;cases this
  exact Split.no rfl (hT y done (by rw [if_neg Im,List.append_nil]) (λe=>absurd e Im) (hF.same ky) kyf)
 |true=>
  have ha:=hr.1 rfl;have fE:=hn ha;rw [List.nodup_append]at fE;refine Split.yes rfl ⟨_,By.yb,b.1,⟨b.2.1,Cells.bX (ky.heap hz (λh=>h))⟩,_,_,_,_,rfl,du.at_,rfl,?_⟩;refine CU By.C hD pJ hs hc By.V By.kb By.fb fE.1 (λe=>fE.2.2 b e b (by simp) rfl) (hF.same ky) B.fo B.ff B.jD.2.1 λv r hr hv kv=>⟨r,rfl,?_⟩;have Rq:Kept (· =p.fm) w v:=kyf.tt kv;cases r with
  |false=>exact Split.yes rfl (hA v ha hr.symm Rq)
  |true=>exact Split.no rfl (hT v (done++ [b]) (by rw [if_pos ha]) (λ_=>hr.symm) hv Rq)
end
structure PG0(w:World)(F:Nat->Prop)(c k:Nat)(G:GS)(m:CM)(s:HT)(p:PN)(ov:HT->Option Nat):Prop where
 C:CV w F c k G m
 V:VB w c s p.bs p.bc p.bh p.q p.sm ov
 kb:w.heap[p.kb]? =some (.cells #[.func (.func cQ.id) #[] #[.pointer (some ⟨p.bs,0,none⟩),.pointer (some ⟨p.bc,0,none⟩),.pointer (some ⟨p.bh,0,none⟩)]] gK (0,0))
 fb:w.heap[p.fb]? =some (.cells #[.map (some p.fm)] dw (0,0))
 fo:¬m.own c p.fm
 ff:¬F p.fm
 jD:p.jD p.fm
theorem eJ:∀ {l m:List HT},l.Nodup->(∀x∈l,x∈m)->l.length<=m.length
 | [],_,_,_=>Nat.zero_le _
 |x::l,m,hn,hm=>by
  rw [List.nodup_cons]at hn;have hx:=hm x List.mem_cons_self;have:=eJ (m:=m.erase x) hn.2 λy hy=>(List.mem_erase_of_ne (λe=>hn.1 (by rw [<-e];exact hy))).2 (hm y (List.mem_cons_of_mem _ hy));rw [List.length_erase_of_mem hx]at this;have h0:=List.length_pos_of_mem hx;rw [List.length_cons];omega
theorem HS.get_mem{w:World}{A:Option Addr}{n:Nat}{l:List HT}(hl:HS w A n l){i:Nat}(hi:i<n):∃y,l[i]? =some y:=⟨_,List.getElem?_eq_getElem (by have:=hl.len;omega)⟩
theorem Ca{D:DG}{l:List HT}{h x:HT}{i:Nat}(hx:l[i]? =some x):cG D (l.take (i+1)) h=cG D (l.take i) h++if oF D x h then [x]else []:=by
 have e:l.take (i+1)=l.take i++ [x]:=by rw [List.take_add_one,hx];rfl
 rw [e,fQ]
 congr 1
 unfold cG;by_cases hp:oF D x h
 ·rw [if_pos hp,List.filter_cons_of_pos (by simpa using hp)];rfl
 ·rw [if_neg hp,List.filter_cons_of_neg (by simpa using hp)];rfl
theorem Ft{m:List HT}{b:List Bool}{x:HT}{y:Bool}{i:Nat}(hx:m[i]? =some x)(hy:b[i]? =some y):fF (m.drop i) (b.drop i)=(if y then [x]else [])++fF (m.drop (i+1)) (b.drop (i+1)):=by
 obtain⟨hi,ex⟩:=lgeS hx;obtain⟨hj,ey⟩:=lgeS hy;rw [List.drop_eq_getElem_cons hi,List.drop_eq_getElem_cons hj,ex,ey];cases y<;>rfl
theorem gv(c:qF)(A:Option Addr)(n cp:Nat)(B:Option Addr)(m cq:Nat):∀v∈(dI c A n cp B m cq).toList,v.oneCell'=true:=by
 intro v hv;unfold dI at hv;rw [Array.toList_append,List.mem_append]at hv;rcases hv with hv|hv
 ·exact c.jv.2.one v hv
 ·simp only [List.mem_cons,List.not_mem_nil,or_false]at hv
  rcases hv with rfl|rfl|rfl<;>rfl
section
variable{w w':World}{F:Nat->Prop}{c k:Nat}{G:GS}{m:CM}{s:HT}{p:PN}{ov:HT->Option Nat}{K:Value->World->Prop}
theorem Fx{kn:HT->Nat}{done rest mn:List HT}{b:HT}(e:done++b::rest=mn)(h:tO k kn done b=false):gF k kn [] mn=false:=by
 rw [<-e,oy,List.nil_append,gF,h,Bool.false_and,Bool.and_false]
theorem Be{kn:HT->Nat}{done:List HT}{b:HT}(h:gF k kn [] done=true)(hb:tO k kn done b=true):gF k kn [] (done++ [b])=true:=by
 rw [oy,h,List.nil_append,gF,hb,Bool.true_and,Bool.true_and];rfl
theorem CW(B:PG0 w F c k G m s p ov)(hD:G.D.length<=5000)(pJ:k<=1000)(hs:s∈ids G.D){l:List HT}(hc:eh G.D G.P s l){h:HT}{bb:Nat}{A:Option Addr}{n cx:Nat}{bl:List HT}
 (yK:w.heap[bb]? =some (.cells #[.slice A n cx] aH (0,0))) (hbf:bb≠p.fm) (EU:HS w A n bl) (hAf:∀a,A=some a->a.block≠p.fm) (hn:n<=10000) (hF:Bi w p.fm (tV ov (oG m.sz l)) []) (uc:(qp G h bl l).Nodup)
 (hK:∀w' (r:Bool),r=gF k (tV ov (oG m.sz l)) [] (qp G h bl l)->(r=true->Bi w' p.fm (tV ov (oG m.sz l)) (qp G h bl l))->Kept (· =p.fm) w w'->K (.bool r) w'):
 bJ prog ah.id #[.agg h.1,p.Fb,.pointer (some ⟨bb,0,none⟩),.pointer (some ⟨p.bc,0,none⟩),.pointer (some ⟨p.bh,0,none⟩)] w K:=by
 have W:=B.C.iN.W;have H:=B.C.iN.jv;have hlD:∀y∈l,y∈ids G.D:=λy hy=>((hc.mem W H).1 hy).mem.1;have hlen:=EU.len;have lfm:=hF.lt;refine ah.of ?_;unfold ah.W;intro w4 w5 w6;have k4:Kept Nil w w4:=(Kept.refl _ _).alloc _;have YG:w4.heap[w.heap.size]? =some (.cells h.1 ai (0,0)):=aO w _;have k5:Kept Nil w4 w5:=(Kept.refl _ _).alloc _;obtain⟨ty,hy5⟩:∃ty:TypeId,w5.heap[w4.heap.size]? =some (.cells #[p.Fb] ty (0,0)):=⟨_,aO w4 _⟩;have k6:Kept Nil w5 w6:=(Kept.refl _ _).alloc _;have PM:w6.heap[w5.heap.size]? =some (.cells #[.bool false] jW (0,0)):=aO w5 _;clear_value w6;have hy6:=k6.heap hy5 (λh=>h);have hh6:=k6.heap (k5.heap YG (λh=>h)) (λh=>h);have rl:=(k4.tt k5).tt k6;have s4:=k4.size;have s5:=k5.size;have s6:=k6.size;have l4:=bt YG;have l5:=bt hy5;have l6:=bt PM;clear_value w5 w4;obtain⟨p',Je,xz,It,afq,afo⟩:∃p':PN,p'= {p with yb:=w4.heap.size,hb:=w.heap.size}/\p'.Fb=p.Fb/\p'.fm=p.fm/\p'.bc=p.bc/\p'.bh=p.bh:=⟨_,rfl,rfl,rfl,rfl,rfl⟩;have eyb:p'.yb=w4.heap.size:=by rw [Je]
 have ehb:p'.hb=w.heap.size:=by rw [Je]
 have B6:PG w6 F c k G m s h p' ov:=by
  rw [Je];exact⟨B.C.same rl,B.V.same rl,rl.heap B.kb (λh=>h),rl.heap B.fb (λh=>h),by show w6.cell? ⟨w4.heap.size,0,none⟩=_;rw [aI hy6];rfl,hh6,B.fo,B.ff,B.jD,(by show w4.heap.size≠p.fm;omega),(by show w.heap.size≠p.fm;omega)⟩
 generalize yI:tV ov (oG m.sz l)=kn at*;have hF6:Bi w6 p'.fm kn []:=by rw [It];exact hF.same rl
 generalize lI:qp G h bl l=mn at*;have sZ:cG G.D bl h++Bt G h l=mn:=lI;rw [<-It]at hbf hAf lfm;have hK':∀w' (r:Bool),r=gF k kn [] mn->(r=true->Bi w' p'.fm kn mn)->Kept (· =p'.fm) w w'->K (.bool r) w':=by rw [It];exact hK
 have kA:∀ {v:World},Kept (· =p'.fm) w6 v->Kept (· =p'.fm) w v:=λk=>(rl.mono λ_ _ h=>h.elim).tt k;have fin:∀ {v:World} (r:Bool),Kept (· =p'.fm) w6 v->∃u:World,u=v.setCell ⟨w5.heap.size,0,none⟩ (.bool r)/\Wr v ⟨w5.heap.size,0,none⟩/\u.heap[w5.heap.size]? =some (.cells #[.bool r] jW (0,0))/\Kept (· =w5.heap.size) v u:=λ{v} r kv=>by
  have hr:=kv.heap PM (by omega);refine⟨_,rfl,eI hr (by simp),?_,Kept.setCell (S:=λk=>k=w5.heap.size) (Kept.refl _ v) (p:=⟨w5.heap.size,0,none⟩) (λ_=>rfl) _⟩;rw [dL hr 0];rfl
 have acS:∀ {v u:World},Kept (· =p'.fm) w6 v->Kept (· =w5.heap.size) v u->Kept (· =p'.fm) w u:=λkv ku=>⟨ku.os.trans (kA kv).os,ku.tape.trans (kA kv).tape,ku.output.trans (kA kv).output,Nat.le_trans (kA kv).size ku.size,λj hj hn=>by rw [ku.block j (Nat.lt_of_lt_of_le hj (kA kv).size) (by omega),(kA kv).block j hj hn]⟩;refine⟨A,n,cx,by rw [aI (rl.heap yK (λh=>h))];rfl,?_⟩;rw [<-afq,<-afo];refine ah.cP (I:=λs0 v=>∃i:Nat,s0=(i:Int)/\i<=n/\Bi v p'.fm kn (cG G.D (bl.take i) h)/\gF k kn [] (cG G.D (bl.take i) h)=true/\Kept (· =p'.fm) w6 v) (μ:=λs0 _=>((n:Int)-s0).toNat) (s:=0) ⟨0,rfl,Nat.zero_le _,hF6,rfl,Kept.refl _ _⟩ ?_;rintro s0 v ⟨i,rfl,hi,hFv,dr,kv⟩;have Bv:=B6.aN kv;refine Split.dec (λjT=>?_) (λgE=>?_)
 ·have eA:i<n:=by omega
  obtain⟨b,hb⟩:=EU.get_mem eA;have afm:HS v A n bl:=EU.aN (kA kv) hAf;refine afm.load (i:=(i:Int)) (by omega) hb ?_;intro oD;obtain⟨uP,ly,lH⟩:=jt (w:=v) (z:=gu.1) (cs:=b.1) (t:=ai) (by rw [b.2.1];rfl);refine⟨⟨b.2.1,b.2.one,λj hj=>uP j (by rw [b.2.1];exact hj)⟩,?_⟩;intro np
  replace ly:np.heap[v.heap.size]? =some (.cells b.1 ai (0,0)):=ly
  replace lH:Kept Nil v np:=lH
  clear_value np;have sv:=(kA kv).size;have Ug:=Bv.same lH;have e1:=Ca (D:=G.D) (h:=h) hb;have e2:∃rest,cG G.D (bl.take i) h++(if oF G.D b h then [b]else [])++rest=mn:=by
   refine⟨cG G.D (bl.drop (i+1)) h++Bt G h l,?_⟩;rw [<-e1,<-sZ,<-List.append_assoc,<-fQ,List.take_append_drop]
  obtain⟨rest,e2⟩:=e2;refine⟨some ⟨c,0,none⟩,by rw [aI Ug.V.hc];rfl,b.1,⟨b.2.1,Cells.bX ly⟩,h.1,⟨h.2.1,by have:=Ug.hb;rw [ehb]at this;exact Cells.bX this⟩,?_⟩;rw [<-eyb];refine uI Ug hD pJ hs hc (done:=cG G.D (bl.take i) h) (by rw [yI];exact hFv.same lH) ly (by omega) (λha=>by
   rw [if_pos ha]at e2;rw [<-e2]at uc;exact(List.nodup_append.1 uc).1) ?_ ?_
  ·intro u ha hp ku
   rw [yI]at hp;have Us:Kept (· =p'.fm) w6 u:=(kv.trans lH (λ_ _ h=>h.elim)).tt ku;obtain⟨u',eu,hw,Xj,kuu⟩:=fin false Us;refine⟨hw,?_⟩;intro Um;have e30:Um=u':=eu.symm;rw [iD,ah.DH,e30];rw [if_pos ha,List.append_assoc]at e2;exact⟨false,by rw [aI Xj];rfl,hK' u' false (Fx e2 hp).symm (λe=>by cases e) (acS Us kuu)⟩
  ·intro u zP ed hp Qy ku
   rw [yI]at hp Qy;have Us:Kept (· =p'.fm) w6 u:=(kv.trans lH (λ_ _ h=>h.elim)).tt ku;rw [dO (n:=(i:Int)) (by omega) (by omega)];refine⟨(i:Int)+1,rfl,⟨i+1,rfl,eA,?_,?_,Us⟩,by simp only;omega⟩
   ·rw [e1,<-ed];exact Qy
   ·rw [e1]
    by_cases ha:oF G.D b h
    ·rw [if_pos ha];exact Be dr (hp ha)
    ·rw [if_neg ha,List.append_nil];exact dr
 ·rw [bg,ah.dJ]
  rw [List.take_of_length_le (by omega)]at dr hFv;unfold ah.dA;intro rP;have Bk:Kept Nil v rP:=(Kept.refl _ _).drew;clear_value rP;have B33:=Bv.same Bk;refine⟨some ⟨c,0,none⟩,by rw [aI B33.V.hc];rfl,_,B33.C.c1,s.1,⟨s.2.1,Cells.bX B33.V.hh⟩,?_⟩;refine vq s λkr pb qb nA NR NQ vP hqb=>⟨_,rfl,?_⟩;have Rt:Kept Nil v kr:=Bk.tt nA;have Nn:Kept (· =p'.fm) w6 kr:=kv.trans Rt (λ_ _ h=>h.elim);have B35:=Bv.same Rt;have aj6:=Nn.size;have af6:Bi kr p'.fm kn (cG G.D bl h):=hFv.same Rt
  let Fb:Value:=.func (.func bG.id) #[] #[.pointer (some ⟨pb,0,none⟩),.pointer (some ⟨qb,0,none⟩)]
  let ρ0:Env:= [(3,.pointer (some ⟨p'.bc,0,none⟩)),(5,.pointer (some ⟨w.heap.size,0,none⟩)),(6,.pointer (some ⟨w4.heap.size,0,none⟩)),(7,.pointer (some ⟨w5.heap.size,0,none⟩)),(36,Fb)]
  let J:Nat->World->Prop:=λj u=>∃done:List HT,done++Bt G h (l.drop j)=mn/\Bi u p'.fm kn done/\gF k kn [] done=true/\Kept (· =p'.fm) kr u/\j<=l.length
  let Jd:Code->World->Prop:=λe u=>e=.ret/\∃r:Bool,u.heap[w5.heap.size]? =some (.cells #[.bool r] jW (0,0))/\r=gF k kn [] mn/\(r=true->Bi u p'.fm kn mn)/\Kept (λj=>j=p'.fm\/j=w5.heap.size) kr u
  have lpb:=bt NR;have lqb:=bt NQ;have aj2:=Bk.size;have svw:=(kA kv).size;obtain⟨mx,X35,UI⟩:=B35.C.X;have XJ:∀ {u:World},Kept (· =p'.fm) kr u->XV u m.FX m.x G.D G.P mx:=λk=>X35.aN k (λj hj e=>by subst e;rw [It]at hj;exact B.fo (.inl (UI _ hj))) (λj hj e=>by subst e;rw [It]at hj;exact B.ff (B.C.fx _ hj))
  change Holds none [] prog _ _ _ ρ0 kr
  have out:∀ {u:World} {R:Loop} (r:Bool),Kept (· =p'.fm) kr u->Live (kr.heap.size+1) kr.heap.size R u->r=gF k kn [] mn->(r=true->Bi u p'.fm kn mn)->Wr u ⟨w5.heap.size,0,none⟩/\∀u',u'=u.setCell ⟨w5.heap.size,0,none⟩ (.bool r)->Live (kr.heap.size+1) kr.heap.size R u'/\Jd .ret u':=λ{u R} r ku hl hr hf=>by
   obtain⟨u0,e0,t1,t2,t3⟩:=fin r (Nn.tt ku);refine⟨t1,λu' eu=>?_⟩;rw [eu,<-e0];refine⟨hl.aN t3 (by omega) (by omega),rfl,r,t2,hr,λe=>(hf e).aN t3 (by omega),(ku.mono λ_ _ h=>.inl h).trans t3 (λ_ _ h=>.inr h)⟩
  refine pS (n:=90) (ρ:=ρ0) (ρ0:=ρ0) ng mix ah.k (t:=36) (ps:= #[37]) (by kernel_rfl) (by decide) rfl bG.at_ rfl (.inl rfl) (λi x hi hx=>hx) rfl ud l (λ_=>rfl) (λq hq=>by
   have e49:q=37:=by simpa using hq
   subst e49;exact⟨by decide,by decide⟩) (FQ (F:=m.FX) (x:=m.x) (m:=mx) (pb:=pb) (qb:=qb) hc (by omega)) J Jd ?_ ?_ (λj u ⟨done,_,_,_,kJ,_⟩=>⟨XJ kJ,kJ.heap NR (by omega),kJ.heap NQ (by omega)⟩) ?_ ?_ ?_ ?_ ?_
  ·rintro j u1 u2 R sX ⟨done,h1,h2,h3,h4,h5⟩ qm
   exact⟨done,h1,h2.aN qm (by omega),h3,h4.trans qm (λk hk e=>by omega),h5⟩
  ·rintro e u1 u2 R sX ⟨h1,r,h2,h3,h4,h5⟩ qm
   exact⟨h1,r,qm.heap h2 (by omega),h3,λe=>(h4 e).aN qm (by omega),h5.trans qm (λk hk e=>by omega)⟩
  ·intro R
   have ka:Kept Nil kr ((kr.alloc (.deferred (some []))).alloc (.loop R)):=(((Kept.refl _ _).alloc _).alloc _);exact⟨cG G.D bl h,sZ,af6.same ka,dr,ka.mono λ_ _ h=>h.elim,Nat.zero_le _⟩
  ·rintro j z u1 R hz ⟨done,h1,h2,h3,h4,h5⟩ sX
   have e7:nz ρ0 ((#[37]:Array Nat).toList.zip (ud z))= [(3,.pointer (some ⟨p'.bc,0,none⟩)),(5,.pointer (some ⟨w.heap.size,0,none⟩)),(6,.pointer (some ⟨w4.heap.size,0,none⟩)),(7,.pointer (some ⟨w5.heap.size,0,none⟩)),(36,Fb),(37,.agg z.1)]:=rfl;rw [e7,ah.a1];have vA:=(lgeS hz).1;have RY:=hlD z (List.mem_of_getElem? hz);have aaa:l.drop j=z::l.drop (j+1):=by
    obtain⟨hi,e⟩:=lgeS hz;rw [List.drop_eq_getElem_cons hi,e]
   rw [aaa,Bt]at h1;unfold ah.A1;intro Ul;obtain⟨uP,ly,lH⟩:=jt (w:=u1) (z:=gu.1) (cs:=z.1) (t:=ai) (by rw [z.2.1];rfl);refine⟨⟨z.2.1,z.2.one,λj hj=>uP j (by rw [z.2.1];exact hj)⟩,?_⟩;intro O2
   replace ly:O2.heap[u1.heap.size]? =some (.cells z.1 ai (0,0)):=ly
   replace lH:Kept Nil u1 O2:=lH
   clear_value O2;have K5:=sX.aN lH (λh=>h) (λh=>h);refine⟨K5,λw2 R2 ql vR=>?_⟩;have oN:=ql.heap ly (mJ ly K5.loop);have aj9:=h4.size;have yx:Kept (· =p'.fm) kr w2:=(h4.trans lH (λ_ _ h=>h.elim)).trans ql (λk hk e=>by omega);have TL:Bi w2 p'.fm kn done:=(h2.same lH).aN ql (by omega);have B2:=B35.aN yx;rw [ah.y1];unfold ah.Y1;have e2:∃rest,done++(if oF G.D z h then [z]else [])++rest=mn:=⟨_,(List.append_assoc _ _ _).trans h1⟩;obtain⟨rest,e2⟩:=e2;refine⟨some ⟨c,0,none⟩,by rw [aI B2.V.hc];rfl,z.1,⟨z.2.1,Cells.bX oN⟩,h.1,⟨h.2.1,by have:=B2.hb;rw [ehb]at this;exact Cells.bX this⟩,?_⟩;rw [<-eyb];refine uI B2 hD pJ hs hc (done:=done) (by rw [yI];exact TL) oN (by omega) (λha=>by
    rw [if_pos ha]at e2;rw [<-e2]at uc;exact(List.nodup_append.1 uc).1) ?_ ?_
   ·intro u ha hp ku
    rw [yI]at hp;rw [if_pos ha,List.append_assoc]at e2;obtain⟨o1,o2⟩:=out (u:=u) false (yx.tt ku) (vR.aN ku (by omega) (by omega)) (Fx e2 hp).symm (λe=>by cases e);refine⟨o1,?_⟩;intro w60;exact o2 w60 rfl
   ·intro u zP ed hp Qy ku
    rw [yI]at hp Qy;have acY:=yx.tt ku;have hlu:=vR.aN ku (by omega) (by omega);have Qw:gF k kn [] zP=true:=by
     rw [ed];by_cases ha:oF G.D z h
     ·rw [if_pos ha];exact Be h3 (hp ha)
     ·rw [if_neg ha,List.append_nil];exact h3
    rw [<-List.append_assoc,<-ed]at h1;intro w61;have k61:Kept Nil u w61:=(Kept.refl _ _).drew;clear_value w61;have RD:Kept (· =p'.fm) w2 w61:=ku.trans k61 (λ_ _ h=>h.elim);have B61:=B2.aN RD;have ac7:=RD.heap oN (by omega);obtain⟨mx1,X61,_⟩:=B61.C.X;refine⟨some ⟨c,0,none⟩,by rw [aI B61.V.hc];rfl,_,B61.C.c1,z.1,⟨z.2.1,Cells.bX ac7⟩,h.1,⟨h.2.1,by have:=B61.hb;rw [ehb]at this;exact Cells.bX this⟩,?_⟩;refine kR X61 hD z h λI4 r hr H0=>⟨r,rfl,?_⟩;have Nh:Kept Nil u I4:=k61.tt H0;have Yn:=hlu.aN Nh (λh=>h) (λh=>h);have WK:=acY.trans Nh (λ_ _ h=>h.elim);have af4:=Qy.same Nh;cases r with
    |true=>
     have EX:=hr.1 rfl;rw [if_pos EX,List.append_nil]at h1;obtain⟨o1,o2⟩:=out (u:=I4) true WK Yn (by rw [<-h1,Qw]) (λ_=>by rw [<-h1];exact af4);refine Split.yes rfl ⟨o1,?_⟩;intro QQ;exact o2 QQ rfl
    |false=>
     have X8:¬fU G.D z h:=λe=>by have:=hr.2 e;cases this
     rw [if_neg X8]at h1;refine Split.no rfl ?_;intro Jo;have Mc:Kept Nil I4 Jo:=(Kept.refl _ _).drew;clear_value Jo;have Nu:Kept (· =p'.fm) w2 Jo:=RD.trans (H0.tt Mc) (λ_ _ h=>h.elim);have B67:=B2.aN Nu;have W1:=Nu.heap oN (by omega);obtain⟨A1,n1,c1,B1,m1,d1,s1,sa⟩:=B67.C.seen z RY;refine⟨some ⟨c,0,none⟩,by rw [aI B67.V.hc];rfl,_,B67.C.c2,z.1,⟨z.2.1,Cells.bX W1⟩,_,B67.C.qi RY,_,⟨bR ..,sa.ln⟩,?_⟩;intro w73;have k73:Kept Nil Jo w73:=(Kept.refl _ _).alloc _;obtain⟨R5,CR,AO⟩:=jt (w:=Jo) (z:=zC) (cs:=dI (G.ln z) A1 n1 c1 B1 m1 d1) (t:=bT) (by rw [bR];rfl);have B73:=B67.same k73;refine⟨⟨_,rfl,bR ..,(sa.aN k73 (λ_ _ h=>h)).ln⟩,B73.C.qi RY,⟨z.1,rfl,z.2.1,Cells.bX (k73.heap W1 (λh=>h))⟩,B73.C.c2,by rw [aI B73.V.hc];rfl,⟨bR ..,gv _ _ _ _ _ _ _,λj hj=>R5 j (by rw [bR];exact hj)⟩,?_⟩;intro Ui
     replace CR:Ui.heap[Jo.heap.size]? =some (.cells (dI (G.ln z) A1 n1 c1 B1 m1 d1) bT (0,0)):=CR
     replace AO:Kept Nil Jo Ui:=AO
     clear_value Ui w73;have Wo:Kept Nil u Ui:=Nh.tt (Mc.tt AO);have WN:Kept (· =p'.fm) w2 Ui:=Nu.trans AO (λ_ _ h=>h.elim);have akc:=WN.size;have akd:=Nu.size;have s2:=yx.size;have amM:=hlu.aN Wo (λh=>h) (λh=>h);have acf:=sa.aN AO (λ_ _ h=>h);have aiB:=sa.mg.len;have Ze:=sa.bl.len;have hff:∀j,F j->j≠p'.fm:=λj hj e=>by rw [It]at e;subst e;exact B.ff hj
     have hcg:=iI (G.ln z) A1 n1 c1 B1 m1 d1 #[];rw [Array.append_empty]at hcg;refine⟨A1,n1,c1,by rw [bO,aI CR];exact hcg.2.1,?_⟩;have aiG:(G.ln z).gZ.length=(G.ln z).merge.length:=by
      rcases(eh.ex H z)with⟨lz,cz⟩;rcases cz.inv W H RY with⟨_,nd,h0,rfl⟩|⟨t,r',_,oL,_,_⟩
      ·obtain⟨r1,_⟩:=B.C.iN.root nd h0
       rw [r1];rfl
      ·exact(B.C.iN.up t z oL).2.2.1
     have K0:(G.ln z).merge.length<=G.D.length:=by
      have fE:(G.ln z).merge.Nodup/\∀y∈(G.ln z).merge,y∈ids G.D:=by
       rcases(eh.ex H z)with⟨lz,cz⟩;rcases cz.inv W H RY with⟨_,nd,h0,rfl⟩|⟨t,r',_,oL,_,_⟩
       ·obtain⟨r1,_⟩:=B.C.iN.root nd h0
        rw [r1];exact⟨List.nodup_nil,λy hy=>by cases hy⟩
       ·obtain⟨_,_,_,g1,g2⟩:=B.C.iN.up t z oL
        exact⟨g1,λy hy=>(((g2 y).1 hy).1.mem W).1⟩
      have:=eJ fE.1 fE.2
      rwa [iL]at this
     refine ah.iY (I:=λs0 v=>∃i:Nat,s0=(i:Int)/\i<=n1/\∃dn:List HT,dn++(cG G.D (fF ((G.ln z).merge.drop i) ((G.ln z).gZ.drop i)) h++Bt G h (l.drop (j+1)))=mn/\Bi v p'.fm kn dn/\gF k kn [] dn=true/\Kept (· =p'.fm) Ui v) (μ:=λs0 _=>((n1:Int)-s0).toNat) (s:=0) ⟨0,rfl,Nat.zero_le _,zP,by rw [List.drop_zero,List.drop_zero];exact h1,Qy.same Wo,Qw,Kept.refl _ _⟩ ?_;rintro s0 v2 ⟨i2,rfl,EJ,dn,g1,g2,g3,g4⟩;have Kl:Kept (· =p'.fm) w2 v2:=WN.tt g4;have Bv2:=B2.aN Kl;have sav:=acf.aN g4 (λj hj e=>hff j hj e);have WJ:=yx.tt Kl;have Ym:=vR.aN Kl (by omega) (by omega);have sv2:=Kl.size;refine Split.dec (λjT=>?_) (λgE=>?_)
     ·have eA:i2<n1:=by omega
      obtain⟨b,hb⟩:=sav.mg.get_mem eA;obtain⟨bb2,Zk⟩:∃y,(G.ln z).gZ[i2]? =some y:=⟨_,List.getElem?_eq_getElem (by omega)⟩;refine sav.mg.load (i:=(i2:Int)) (by omega) hb ?_;intro oD;obtain⟨adk,Iy,yH⟩:=jt (w:=v2) (z:=gu.1) (cs:=b.1) (t:=ai) (by rw [b.2.1];rfl);refine⟨⟨b.2.1,b.2.one,λj hj=>adk j (by rw [b.2.1];exact hj)⟩,?_⟩;intro np
      replace Iy:np.heap[v2.heap.size]? =some (.cells b.1 ai (0,0)):=Iy
      replace yH:Kept Nil v2 np:=yH
      clear_value np;have Ug:=Bv2.same yH;have Zb:=yH.heap (g4.heap CR (by omega)) (λh=>h);have acg:=sav.aN yH (λ_ _ h=>h);obtain⟨aB,Lm,_,Ty⟩:=acg.bl.at_ i2 bb2 Zk;subst Lm;refine⟨some aB,m1,d1,by rw [bO,aI Zb];exact hcg.2.2.1,⟨by omega,by omega⟩,bb2,by rw [Int.toNat_natCast,Nat.mul_one];exact Ty,?_⟩;rw [Ft hb Zk]at g1;cases bb2 with
      |false=>
       refine Split.no rfl ?_;rw [dO (n:=(i2:Int)) (by omega) (by omega)];exact⟨(i2:Int)+1,rfl,⟨i2+1,rfl,eA,dn,g1,g2.same yH,g3,g4.trans yH (λ_ _ h=>h.elim)⟩,by simp only;omega⟩
      |true=>
       rw [if_pos rfl,fQ,List.append_assoc]at g1;have ags:cG G.D [b] h=if oF G.D b h then [b]else []:=by
        unfold cG;by_cases hp:oF G.D b h
        ·rw [if_pos hp,List.filter_cons_of_pos (by simpa using hp)];rfl
        ·rw [if_neg hp,List.filter_cons_of_neg (by simpa using hp)];rfl
       rw [ags,<-List.append_assoc]at g1;refine Split.yes rfl ⟨some ⟨c,0,none⟩,by rw [aI Ug.V.hc];rfl,b.1,⟨b.2.1,Cells.bX Iy⟩,h.1,⟨h.2.1,by have:=Ug.hb;rw [ehb]at this;exact Cells.bX this⟩,?_⟩;refine uI Ug hD pJ hs hc (done:=dn) (by rw [yI];exact g2.same yH) Iy (by omega) (λha=>by
        rw [if_pos ha]at g1;rw [<-g1]at uc;exact(List.nodup_append.1 uc).1) ?_ ?_
       ·intro u2 ha hp Mb
        rw [yI]at hp;rw [if_pos ha,List.append_assoc]at g1;have kk:Kept (· =p'.fm) v2 u2:=(yH.mono λ_ _ h=>h.elim).tt Mb;obtain⟨o1,o2⟩:=out (u:=u2) false (WJ.tt kk) (Ym.aN kk (by omega) (by omega)) (Fx g1 hp).symm (λe=>by cases e);refine⟨o1,?_⟩;intro w60;rw [iD];exact o2 w60 rfl
       ·intro u2 dn' ed2 PT ZP Mb
        rw [yI]at PT ZP;have kk:Kept (· =p'.fm) v2 u2:=(yH.mono λ_ _ h=>h.elim).tt Mb;rw [dO (n:=(i2:Int)) (by omega) (by omega)];refine⟨(i2:Int)+1,rfl,⟨i2+1,rfl,eA,dn',by rw [ed2];exact g1,ZP,?_,g4.tt kk⟩,by simp only;omega⟩;rw [ed2];by_cases ha:oF G.D b h
        ·rw [if_pos ha];exact Be g3 (PT ha)
        ·rw [if_neg ha,List.append_nil];exact g3
     ·rw [bg,ah.abW]
      unfold ah.aao;have en:(G.ln z).merge.drop i2= []:=List.drop_eq_nil_of_le (by omega);rw [en]at g1;exact⟨Ym,dn,by simpa [fF,cG]using g1,g2,g3,WJ,vA⟩
  ·rintro u1 R ⟨done,h1,h2,h3,h4,h5⟩ sX
   have e7:jE ρ0 kr.heap.size= [(3,.pointer (some ⟨p'.bc,0,none⟩)),(5,.pointer (some ⟨w.heap.size,0,none⟩)),(6,.pointer (some ⟨w4.heap.size,0,none⟩)),(7,.pointer (some ⟨w5.heap.size,0,none⟩)),(36,Fb),(4294967296,.agg (sQ [kr.heap.size]))]:=rfl;rw [e7,ah.mz];unfold ah.kZ;have ec:done=mn:=by rw [<-h1,List.drop_of_length_le (Nat.le_refl _),Bt,List.append_nil]
   obtain⟨o1,o2⟩:=out (u:=u1) true h4 sX (by rw [<-ec,h3]) (λ_=>by rw [<-ec];exact h2);refine⟨o1,?_⟩;intro sJ;obtain⟨aeu,_,r,t1,t2,t3,t4⟩:=o2 sJ rfl;clear_value sJ;rw [po];have kt:=lY [kr.heap.size] sJ;have hm:∀E∈ [kr.heap.size],sJ.heap[E]? =some (.deferred (some [])):=λE hE=>by
    rw [List.mem_singleton]at hE;subst hE;exact aeu.mark
   refine⟨oo [kr.heap.size] sJ (by simp) hm,r,by rw [aI (kt.heap t1 (λhE=>by rw [List.mem_singleton]at hE;omega))];rfl,?_⟩;exact hK' _ r t2 (λe=>(t3 e).aN kt (λhE=>by rw [List.mem_singleton]at hE;omega)) (((kA Nn).trans t4 (λj hj e=>by rcases e with e|e;exact e;omega)).trans kt (λj hj hE=>by rw [List.mem_singleton]at hE;omega))
  ·rintro u1 R ⟨_,r,t1,t2,t3,t4⟩ sX
   have e7:jE ρ0 kr.heap.size= [(3,.pointer (some ⟨p'.bc,0,none⟩)),(5,.pointer (some ⟨w.heap.size,0,none⟩)),(6,.pointer (some ⟨w4.heap.size,0,none⟩)),(7,.pointer (some ⟨w5.heap.size,0,none⟩)),(36,Fb),(4294967296,.agg (sQ [kr.heap.size]))]:=rfl;rw [e7,ah.DE];unfold ah.x8;rw [po];have kt:=lY [kr.heap.size] u1;have hm:∀E∈ [kr.heap.size],u1.heap[E]? =some (.deferred (some [])):=λE hE=>by
    rw [List.mem_singleton]at hE;subst hE;exact sX.mark
   refine⟨oo [kr.heap.size] u1 (by simp) hm,r,by rw [aI (kt.heap t1 (λhE=>by rw [List.mem_singleton]at hE;omega))];rfl,?_⟩;exact hK' _ r t2 (λe=>(t3 e).aN kt (λhE=>by rw [List.mem_singleton]at hE;omega)) (((kA Nn).trans t4 (λj hj e=>by rcases e with e|e;exact e;omega)).trans kt (λj hj hE=>by rw [List.mem_singleton]at hE;omega))
  ·rintro id u1 R ⟨e,_⟩ sX
   cases e
end
end Go.Proofs.YtfleamccglihoaaGreatDoor
