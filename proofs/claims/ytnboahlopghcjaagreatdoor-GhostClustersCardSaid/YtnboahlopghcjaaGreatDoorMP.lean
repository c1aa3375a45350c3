import Derived.Test.YtnboahlopghcjaaGreatDoorMI
import Derived.Test.YtnboahlopghcjaaGreatDoorMJ
import Derived.Test.YtnboahlopghcjaaGreatDoorMN
import Derived.Test.YtnboahlopghcjaaGreatDoorMG
open Go.IntKind (i64 u64)
set_option linter.unusedVariables false
namespace Go.Proofs.YtnboahlopghcjaaGreatDoor
open Go.Proofs.Tryz
open Go Go.bU
structure nZ where
 gV:HT
 score:Nat
 merge:List HT
 dg:List Bool
structure GS where
 D:DG
 P:List Int
 pK:List nZ
 ja:List (List HT)
def GS.at_(G:GS)(h:HT):Option Nat:=pos h (ids G.D) 0
def GS.eK(G:GS)(h:HT):nZ:=((G.at_ h).bind (G.pK[·]?)).getD ⟨dO,0,[],[]⟩
def GS.world(G:GS)(h:HT):List HT:=((G.at_ h).bind (G.ja[·]?)).getD []
def GS.score(G:GS)(h:HT):Nat:=(G.eK h).score
def gl(G:GS)(a b:HT):Bool:=decide (G.score a<G.score b)||(decide (G.score a=G.score b)&&cH a b)
def zE(G:GS)(a b:HT):Int:=if gl G a b then-1 else if gl G b a then 1 else 0
def bZ(G:GS):List HT->HT
 | []=>dO
 |x::l=>l.foldl (fun b y=>if gl G b y then y else b) x
def jS(D:DG)(a b:HT):Prop:=a≠b/\¬eB D a b/\¬eB D b a
noncomputable instance(D:DG)(a b:HT):Decidable (jS D a b):=Classical.propDecidable _
noncomputable instance(D:DG)(a b:HT):Decidable (eB D a b):=Classical.propDecidable _
noncomputable def bJ(D:DG)(l:List HT)(h:HT):List HT:=l.filter fun b=>decide (jS D b h)
def SO(G:GS)(l:List HT):Prop:=l.Pairwise fun a b=>gl G a b=true
noncomputable def rI(D:DG)(s:HT)(l:List HT):List HT:=(de (cy D l++l)).filter fun h=>decide (h≠s/\¬eB D h s)
def vw(G:GS)(x:HT):List HT->List HT
 | []=> [x]
 |y::l=>if gl G x y then x::y::l else y::vw G x l
noncomputable def cC(G:GS)(s:HT)(l:List HT):List HT:=(rI G.D s l).foldr (vw G) []
noncomputable def mV(k:Nat)(D:DG)(wd:List HT)(h:HT):Bool:=decide ((bJ D wd h).length<=k/\∀y∈bJ D wd h,(bJ D wd y).length+1<=k)
structure VS where
 wd:List HT
 bl:List Bool
noncomputable def ly(k:Nat)(D:DG)(s:VS)(h:HT):VS:=⟨if mV k D s.wd h then s.wd++ [h]else s.wd,s.bl++ [mV k D s.wd h]⟩
noncomputable def fg(k:Nat)(G:GS)(s:HT)(l:List HT):VS:=(cC G s l).foldl (ly k G.D) ⟨G.world s++ [s],[]⟩
noncomputable def cQ(k:Nat)(G:GS)(s:HT)(l:List HT):nZ:=⟨s,G.score s+1+(fg k G s l).bl.count true,cC G s l,(fg k G s l).bl⟩
noncomputable def dd(k:Nat)(G:GS)(h:HT)(ps:List HT):GS:=
 if dr G.D h ps=0 then⟨G.D++ [⟨h,de ps⟩],G.P++ [(((pos (bZ G ps) (ids G.D) 0).getD 0:Nat):Int)],G.pK++ [cQ k G (bZ G ps) ps],G.ja++ [(fg k G (bZ G ps) ps).wd]⟩else G
def cS(r:HT):GS:=⟨[⟨r,[]⟩],[-1],[⟨dO,0,[],[]⟩],[[]]⟩
def cR:List HT->List Bool->List HT
 |h::l,b::m=>if b then h::cR l m else cR l m
 |_,_=> []
theorem mS(G:GS)(a:HT):gl G a a=false:=by simp [gl,gJ]
theorem oT{G:GS}{a b c:HT}(h:gl G a b=true)(h':gl G b c=true):gl G a c=true:=by
 simp only [gl,Bool.or_eq_true,Bool.and_eq_true,decide_eq_true_eq]at*;rcases h with h|⟨h,h1⟩
 ·rcases h' with h'|⟨h',h2⟩
  ·exact .inl (by omega)
  ·exact .inl (by omega)
 ·rcases h' with h'|⟨h',h2⟩
  ·exact .inl (by omega)
  ·exact .inr ⟨by omega,jz h1 h2⟩
theorem oU{G:GS}{a b:HT}(h:gl G a b=false)(h':gl G b a=false):a=b:=by
 simp only [gl,Bool.or_eq_false_iff,Bool.and_eq_false_iff,decide_eq_false_iff_not]at*;have e:G.score a=G.score b:=by omega
 obtain⟨_,h2⟩:=h;obtain⟨_,h3⟩:=h';exact pv (by rcases h2 with h2|h2;exact absurd e h2;exact h2) (by rcases h3 with h3|h3;exact absurd e.symm h3;exact h3)
theorem zo{G:GS}{a b:HT}(h:gl G a b=true):gl G b a=false:=by
 cases hb:gl G b a
 ·rfl
 ·have:=oT h hb
  rw [mS]at this;cases this
theorem xC{G:GS}{a b:HT}:zE G a b<0↔gl G a b=true:=by
 unfold zE;split
 ·simp_all
 ·split<;>simp_all
theorem KJ(G:GS)(a b:HT):zE G a b=if G.score a<G.score b then-1 else if G.score b<G.score a then 1 else kI a b:=by
 unfold zE kI gl;by_cases h1:G.score a<G.score b
 ·simp [h1]
 ·by_cases h2:G.score b<G.score a
  ·have:¬G.score a=G.score b:=by omega
   simp [h1,h2,this]
  ·have:G.score a=G.score b:=by omega
   simp [this]
theorem SO.cons{G:GS}{x:HT}{l:List HT}:SO G (x::l)↔(∀y∈l,gl G x y=true)/\SO G l:=List.pairwise_cons
theorem SO.nodup{G:GS}{l:List HT}(h:SO G l):l.Nodup:=List.Pairwise.imp (fun {a b} lM e=>by subst e;rw [mS]at lM;cases lM) h
theorem Im{G:GS}:∀ {l m:List HT},SO G l->SO G m->(∀x,x∈l↔x∈m)->l=m
 | [],[],_,_,_=>rfl
 | [],y::m,_,_,h=>by have:=(h y).2 (by simp);simp at this
 |x::l,[],_,_,h=>by have:=(h x).1 (by simp);simp at this
 |x::l,y::m,hl,hm,h=>by
  rw [SO.cons]at hl hm;have nS:x=y:=by
   rcases List.mem_cons.1 ((h x).1 List.mem_cons_self)with e|e
   ·exact e
   ·rcases List.mem_cons.1 ((h y).2 List.mem_cons_self)with e'|e'
    ·exact e'.symm
    ·have h1:=hm.1 _ e
     have h2:=hl.1 _ e';rw [zo h1]at h2;cases h2
  subst nS;have:l=m:=Im hl.2 hm.2 fun z=>by
   have hz:=h z;simp only [List.mem_cons]at hz;constructor
   ·intro lZ
    rcases hz.1 (.inr lZ)with e|e
    ·subst e;have:=hl.1 _ lZ;rw [mS]at this;cases this
    ·exact e
   ·intro lZ
    rcases hz.2 (.inr lZ)with e|e
    ·subst e;have:=hm.1 _ lZ;rw [mS]at this;cases this
    ·exact e
  rw [this]
theorem uh{G:GS}{x z:HT}:∀ {l:List HT},z∈vw G x l↔z=x\/z∈l
 | []=>by simp [vw]
 |y::l=>by
  unfold vw;split
  ·simp
  ·simp only [List.mem_cons,uh (l:=l)]
   constructor
   ·rintro(h|h|h)<;>simp [h]
   ·rintro(h|h|h)<;>simp [h]
theorem Dk{G:GS}{x:HT}:∀ {l:List HT},SO G l->x∉l->SO G (vw G x l)
 | [],_,_=>by simp [vw,SO]
 |y::l,h,hx=>by
  have h':=SO.cons.1 h;simp only [List.mem_cons,not_or]at hx;unfold vw;split
  ·rename_i nS
   refine SO.cons.2 ⟨fun z hz=>?_,h⟩;rcases List.mem_cons.1 hz with rfl|hz
   ·exact nS
   ·exact oT nS (h'.1 _ hz)
  ·rename_i nS
   refine SO.cons.2 ⟨fun z hz=>?_,Dk h'.2 hx.2⟩;rcases uh.1 hz with rfl|hz
   ·cases P9:gl G y z
    ·exact absurd (oU P9 (by simpa using nS)).symm hx.1
    ·rfl
   ·exact h'.1 _ hz
theorem pq{G:GS}{z:HT}:∀ {l:List HT},z∈l.foldr (vw G) []↔z∈l
 | []=>by simp
 |x::l=>by rw [List.foldr_cons,uh,pq,List.mem_cons]
theorem zP{G:GS}:∀ {l:List HT},l.Nodup->SO G (l.foldr (vw G) [])
 | [],_=>List.Pairwise.nil
 |x::l,h=>by
  rw [List.nodup_cons]at h;exact Dk (zP h.2) fun e=>h.1 (pq.1 e)
theorem p8(D:DG)(s:HT)(l:List HT):(rI D s l).Nodup:=(gN _).nodup.filter _
theorem ug{D:DG}{s:HT}{l:List HT}{h:HT}:h∈rI D s l↔((h∈ids D/\∃p∈l,eB D h p)\/h∈l)/\h≠s/\¬eB D h s:=by
 unfold rI cy;rw [List.mem_filter,df,List.mem_append,iw,decide_eq_true_eq]
theorem jt{G:GS}{s:HT}{l:List HT}{h:HT}:h∈cC G s l↔((h∈ids G.D/\∃p∈l,eB G.D h p)\/h∈l)/\h≠s/\¬eB G.D h s:=by
 unfold cC;rw [pq,ug]
theorem lr(G:GS)(s:HT)(l:List HT):SO G (cC G s l):=zP (p8 _ _ _)
theorem rJ{G:GS}{s:HT}{l m:List HT}(hs:SO G m)(h:∀x,x∈m↔x∈rI G.D s l):m=cC G s l:=
 Im hs (lr G s l) fun x=>by unfold cC;rw [h,pq]
theorem kj{G:GS}:∀ {l:List HT},l≠ []->bZ G l∈l
 |x::l,_=>by
  have key:∀(l:List HT) (b:HT),l.foldl (fun b y=>if gl G b y then y else b) b=b\/l.foldl (fun b y=>if gl G b y then y else b) b∈l:=by
   intro l
   induction l with
   |nil=>intro b;exact .inl rfl
   |cons y l ih=>
    intro b;simp only [List.foldl_cons];rcases ih (if gl G b y then y else b)with e|e
    ·rw [e]
     split
     ·exact .inr List.mem_cons_self
     ·exact .inl rfl
    ·exact .inr (List.mem_cons_of_mem _ e)
  rcases key l x with e|e
  ·rw [bZ,e];exact List.mem_cons_self
  ·exact List.mem_cons_of_mem _ e
theorem eh(D:DG)(l m:List HT)(h:HT):bJ D (l++m) h=bJ D l h++bJ D m h:=List.filter_append ..
theorem dR{D:DG}{l:List HT}{h b:HT}:b∈bJ D l h↔b∈l/\jS D b h:=by unfold bJ;rw [List.mem_filter,decide_eq_true_eq]
theorem jS.symm{D:DG}{a b:HT}(h:jS D a b):jS D b a:=⟨h.1.symm,h.2.2,h.2.1⟩
theorem lP{x:HT}:∀ {m:List HT} {b:List Bool},x∈cR m b->x∈m
 |h::l,b::m,hx=>by
  unfold cR at hx;split at hx
  ·rcases List.mem_cons.1 hx with e|e
   ·rw [e];exact List.mem_cons_self
   ·exact List.mem_cons_of_mem _ (lP e)
  ·exact List.mem_cons_of_mem _ (lP hx)
 | [],_,hx=>by simp [cR]at hx
 |_::_,[],hx=>by simp [cR]at hx
theorem nC:∀ {m:List HT} {b:List Bool},m.Nodup->(cR m b).Nodup
 |h::l,b::m,hn=>by
  rw [List.nodup_cons]at hn;unfold cR;split
  ·exact List.nodup_cons.2 ⟨fun e=>hn.1 (lP e),nC hn.2⟩
  ·exact nC hn.2
 | [],_,_=>by simp [cR]
 |_::_,[],_=>by simp [cR]
theorem uX:∀ {m:List HT} {b:List Bool},b.length=m.length->(cR m b).length=b.count true
 |h::l,b::m,hn=>by
  have:=uX (m:=l) (b:=m) (by simpa using hn);unfold cR;cases b<;>simp [this]
 | [],[],_=>rfl
 | [],_::_,h=>by simp at h
 |_::_,[],h=>by simp at h
theorem o0{x:HT}{c:Bool}:∀ {m:List HT} {b:List Bool},b.length=m.length->cR (m++ [x]) (b++ [c])=cR m b++if c then [x]else []
 |h::l,b::m,hn=>by
  have:=o0 (x:=x) (c:=c) (m:=l) (b:=m) (by simpa using hn);simp only [List.cons_append,cR,this];cases b<;>simp
 | [],[],_=>by cases c<;>simp [cR]
 | [],_::_,h=>by simp at h
 |_::_,[],h=>by simp at h
theorem FH(k:Nat)(D:DG)(wd:List HT):∀(m:List HT),∃b:List Bool,b.length=m.length/\m.foldl (ly k D) ⟨wd,[]⟩=⟨wd++cR m b,b⟩:=by
 intro m
 induction h:m.length generalizing m with
 |zero=>exact⟨[],by simp,by rw [List.length_eq_zero_iff.1 h];simp [cR]⟩
 |succ n ih=>
  have fC:m≠ []:=fun e=>by rw [e]at h;simp at h
  obtain⟨m',x,rfl⟩:∃m' x,m=m'++ [x]:=⟨m.dropLast,m.getLast fC,(List.dropLast_concat_getLast fC).symm⟩;obtain⟨b,h1,h2⟩:=ih m' (by simpa using h);have h1:b.length=m'.length:=by rw [List.length_append,List.length_cons,List.length_nil]at h;omega
  refine⟨b++ [mV k D (wd++cR m' b) x],by simp only [List.length_append,List.length_cons,List.length_nil]at h⊢;omega,?_⟩;rw [List.foldl_append,h2,List.foldl_cons,List.foldl_nil,o0 h1];unfold ly;cases mV k D (wd++cR m' b) x<;>simp
theorem tB(k:Nat)(G:GS)(s:HT)(l:List HT):(fg k G s l).bl.length=(cC G s l).length/\(fg k G s l).wd=G.world s++ [s]++cR (cC G s l) (fg k G s l).bl:=by
 obtain⟨b,h1,h2⟩:=FH k G.D (G.world s++ [s]) (cC G s l);unfold fg;rw [h2];exact⟨h1,rfl⟩
structure ga(k:Nat)(G:GS):Prop where
 W:jv G.D
 gV:ra G.D G.P
 lc:G.pK.length=G.D.length
 lw:G.ja.length=G.D.length
 root:∀nd,G.D[0]? =some nd->G.eK nd.id=⟨dO,0,[],[]⟩/\G.world nd.id= []
 up:∀s h,iz G.D G.P s h->(G.eK h).gV=s/\G.world h=G.world s++ [s]++cR (G.eK h).merge (G.eK h).dg/\(G.eK h).dg.length=(G.eK h).merge.length/\(G.eK h).merge.Nodup/\∀y,y∈(G.eK h).merge↔eB G.D y h/\y≠s/\¬eB G.D y s
 wd:∀h∈ids G.D,(G.world h).Nodup/\(∀b∈G.world h,eB G.D b h)/\G.score h=(G.world h).length
theorem GS.rY{G:GS}(W:jv G.D){i:Nat}{nd:DN}(h:G.D[i]? =some nd):G.at_ nd.id=some i:=W.pos_eq h
theorem GS.HX{G:GS}(W:jv G.D){i:Nat}{nd:DN}{c:nZ}(h:G.D[i]? =some nd)(hc:G.pK[i]? =some c):G.eK nd.id=c:=by
 unfold GS.eK;rw [GS.rY W h];simp [hc]
theorem GS.x9{G:GS}(W:jv G.D){i:Nat}{nd:DN}{c:List HT}(h:G.D[i]? =some nd)(hc:G.ja[i]? =some c):G.world nd.id=c:=by
 unfold GS.world;rw [GS.rY W h];simp [hc]
section
variable{k:Nat}{G:GS}{h:HT}{ps:List HT}
theorem q9(hc:dr G.D h ps≠0):dd k G h ps=G:=by unfold dd;rw [if_neg hc]
theorem sd:(dd k G h ps).D=l9 G.D h ps:=by
 unfold dd l9;split<;>rfl
theorem Ig:(dd k G h ps).D=mX G.D h (bZ G ps) ps:=by
 rw [sd];unfold mX;by_cases hc:dr G.D h ps=0
 ·have fC:=(jP hc).2.1
  have:gm G.D h (bZ G ps) ps=0:=by unfold gm;rw [if_pos hc,if_pos (kj fC)]
  rw [if_pos this,o7 hc]
 ·have:gm G.D h (bZ G ps) ps≠0:=by unfold gm;rw [if_neg hc];exact hc
  rw [if_neg this];unfold l9;rw [if_neg hc]
theorem Fa:gm G.D h (bZ G ps) ps=dr G.D h ps:=by
 unfold gm;split
 ·rename_i hc
  rw [if_pos (kj (jP hc).2.1),hc]
 ·rfl
theorem Ih:(dd k G h ps).P=mW G.D G.P h (bZ G ps) ps:=by
 unfold mW dd;rw [Fa];by_cases hc:dr G.D h ps=0
 ·rw [if_pos hc,if_pos hc]
 ·rw [if_neg hc,if_neg hc]
theorem jN(hc:dr G.D h ps=0):dd k G h ps=⟨G.D++ [⟨h,de ps⟩],G.P++ [(((pos (bZ G ps) (ids G.D) 0).getD 0:Nat):Int)],G.pK++ [cQ k G (bZ G ps) ps],G.ja++ [(fg k G (bZ G ps) ps).wd]⟩:=by
 unfold dd;rw [if_pos hc]
theorem wP(H:ga k G){s:HT}(hs:s∈ids G.D)(l:List HT)(hl:∀p∈l,p∈ids G.D):
 (fg k G s l).wd.Nodup/\(fg k G s l).wd.length=(cQ k G s l).score/\∀y∈(fg k G s l).wd,y∈ids G.D/\(y=s\/eB G.D y s\/y∈cC G s l):=by
 obtain⟨h1,h2⟩:=tB k G s l;obtain⟨w1,w2,w3⟩:=H.wd s hs;have hm:∀y∈cR (cC G s l) (fg k G s l).bl,y∈ids G.D/\y≠s/\¬eB G.D y s:=fun y hy=>by
  obtain⟨e,h3,h4⟩:=jt.1 (lP hy);refine⟨?_,h3,h4⟩;rcases e with e|e
  ·exact e.1
  ·exact hl _ e
 rw [h2];refine⟨?_,?_,?_⟩
 ·refine List.nodup_append.2 ⟨List.nodup_append.2 ⟨w1,by simp,?_⟩,nC (lr G s l).nodup,?_⟩
  ·intro a ha b hb e
   have hb:b=s:=by simpa using hb
   subst hb;subst e;exact eB.irrefl H.W _ (w2 _ ha)
  ·intro a ha b hb e
   subst e;obtain⟨_,h3,h4⟩:=hm _ hb;rcases List.mem_append.1 ha with e|e
   ·exact h4 (w2 _ e)
   ·exact h3 (by simpa using e)
 ·unfold cQ
  simp only [List.length_append,List.length_cons,List.length_nil,uX h1,w3]
 ·intro y hy
  rcases List.mem_append.1 hy with hy|hy
  ·rcases List.mem_append.1 hy with hy|hy
   ·exact⟨((w2 _ hy).mem H.W).1,.inr (.inl (w2 _ hy))⟩
   ·have:y=s:=by simpa using hy
    subst this;exact⟨hs,.inl rfl⟩
  ·exact⟨(hm _ hy).1,.inr (.inr (lP hy))⟩
theorem jO(H:ga k G){y:HT}(hy:y∈ids G.D):(dd k G h ps).eK y=G.eK y/\(dd k G h ps).world y=G.world y:=by
 by_cases hc:dr G.D h ps=0
 ·obtain⟨hn,fC,eQ,oP⟩:=jP hc
  obtain⟨nd,mQ,rfl⟩:=dt.1 hy;obtain⟨i,hi⟩:=List.getElem?_of_mem mQ;have dQ:=(lgeS hi).1;have EC:(G.D++ [(⟨h,de ps⟩:DN)])[i]? =some nd:=by rw [List.getElem?_append_left dQ];exact hi
  have W':jv (dd k G h ps).D:=by rw [sd];exact H.W.add h ps
  rw [jN hc]at W'⊢;have e1:(⟨G.D++ [⟨h,de ps⟩],G.P++ [(((pos (bZ G ps) (ids G.D) 0).getD 0:Nat):Int)],G.pK++ [cQ k G (bZ G ps) ps],G.ja++ [(fg k G (bZ G ps) ps).wd]⟩:GS).at_ nd.id=some i:=GS.rY W' EC;have e2:=GS.rY H.W hi;unfold GS.eK GS.world;rw [e1,e2];simp only [Option.bind_some];rw [List.getElem?_append_left (by rw [H.lc];exact dQ),List.getElem?_append_left (by rw [H.lw];exact dQ)];exact⟨rfl,rfl⟩
 ·rw [q9 hc];exact⟨rfl,rfl⟩
theorem lR(H:ga k G)(hc:dr G.D h ps=0):(dd k G h ps).eK h=cQ k G (bZ G ps) ps/\(dd k G h ps).world h=(fg k G (bZ G ps) ps).wd:=by
 have W':jv (dd k G h ps).D:=by rw [sd];exact H.W.add h ps
 rw [jN hc]at W'⊢;have EC:(G.D++ [(⟨h,de ps⟩:DN)])[G.D.length]? =some ⟨h,de ps⟩:=by rw [List.getElem?_append_right (Nat.le_refl _),Nat.sub_self];rfl
 have e1:(⟨G.D++ [⟨h,de ps⟩],G.P++ [(((pos (bZ G ps) (ids G.D) 0).getD 0:Nat):Int)],G.pK++ [cQ k G (bZ G ps) ps],G.ja++ [(fg k G (bZ G ps) ps).wd]⟩:GS).at_ h=some G.D.length:=GS.rY W' EC;unfold GS.eK GS.world;rw [e1];simp only [Option.bind_some];rw [List.getElem?_append_right (by rw [H.lc];exact Nat.le_refl _),H.lc,Nat.sub_self,List.getElem?_append_right (by rw [H.lw];exact Nat.le_refl _),H.lw,Nat.sub_self];exact⟨rfl,rfl⟩
end
section
variable{k:Nat}{G:GS}{h:HT}{ps:List HT}
theorem jr(k:Nat)(r:HT):ga k (cS r):=by
 have e0:(cS r).at_ r=some 0:=GS.rY (G:=cS r) (jv.root r) (nd:=⟨r,[]⟩) rfl;have ec:(cS r).eK r=⟨dO,0,[],[]⟩:=by unfold GS.eK;rw [e0];rfl
 have ew:(cS r).world r= []:=by unfold GS.world;rw [e0];rfl
 refine⟨jv.root r,ra.one r,rfl,rfl,?_,?_,?_⟩
 ·intro nd eQ
  have:nd=⟨r,[]⟩:=by simpa [cS]using eQ.symm
  subst this;exact⟨ec,ew⟩
 ·rintro s h ⟨i,j,ni,m,h1,_,h3,_,_⟩
  exfalso;cases i with
  |zero=>simp [cS]at h3
  |succ i=>simp [cS]at h1
 ·intro h hm
  have:h=r:=by simpa [cS,ids]using hm
  subst this;refine⟨by rw [ew];simp,by rw [ew];simp,?_⟩;unfold GS.score;rw [ec,ew];rfl
theorem Az(H:ga k G)(hc:dr G.D h ps=0):∃(j:Nat) (m:DN),G.D[j]? =some m/\m.id=bZ G ps/\(pos (bZ G ps) (ids G.D) 0).getD 0=j/\bZ G ps∈ps/\bZ G ps∈ids G.D:=by
 obtain⟨hn,fC,eQ,oP⟩:=jP hc;have h1:=kj (G:=G) fC;have h2:=oP _ (df.2 h1);obtain⟨m,hm,e⟩:=dt.1 h2;obtain⟨j,hj⟩:=List.getElem?_of_mem hm;have h3:=H.W.pos_eq hj;rw [e]at h3;exact⟨j,m,hj,e,by rw [h3];rfl,h1,h2⟩
theorem u9(H:ga k G)(hc:dr G.D h ps=0):(∀y,eB (G.D++ [⟨h,de ps⟩]) y h↔∃p∈ps,y=p\/eB G.D y p)/\∀a b,b∈ids G.D->(eB (G.D++ [⟨h,de ps⟩]) a b↔eB G.D a b):=by
 obtain⟨hn,fC,eQ,oP⟩:=jP hc;have W':jv (G.D++ [⟨h,de ps⟩]):=by have:=H.W.add h ps;rwa [o7 hc]at this
 have EC:(G.D++ [(⟨h,de ps⟩:DN)])[G.D.length]? =some ⟨h,de ps⟩:=by rw [List.getElem?_append_right (Nat.le_refl _),Nat.sub_self];rfl
 have zW:∀a b,b∈ids G.D->(eB (G.D++ [⟨h,de ps⟩]) a b↔eB G.D a b):=fun a b hb=>iN H.W hn hb;refine⟨fun y=>?_,zW⟩;rw [tz W' EC y];constructor
 ·rintro⟨p,hp,e⟩
  exact⟨p,df.1 hp,e.imp_right fun e=>(zW _ _ (oP _ hp)).1 e⟩
 ·rintro⟨p,hp,e⟩
  exact⟨p,df.2 hp,e.imp_right fun e=>(zW _ _ (oP _ (df.2 hp))).2 e⟩
theorem ga.add(H:ga k G)(h:HT)(ps:List HT):ga k (dd k G h ps):=by
 by_cases hc:dr G.D h ps=0
 ·obtain⟨hn,fC,eQ,oP⟩:=jP hc
  obtain⟨j,m,hj,hm,iX,Et,Ev⟩:=Az H hc;obtain⟨Dg,zW⟩:=u9 H hc;have hk:=fun y (hy:y∈ids G.D)=>jO (h:=h) (ps:=ps) H hy;obtain⟨nc,nw⟩:=lR H hc;obtain⟨v1,v2⟩:=tB k G (bZ G ps) ps;obtain⟨u1,u2,u3⟩:=wP H Ev ps (fun p hp=>oP _ (df.2 hp));have W':jv (G.D++ [⟨h,de ps⟩]):=by have:=H.W.add h ps;rwa [o7 hc]at this
  have lK:ra (G.D++ [(⟨h,de ps⟩:DN)]) (G.P++ [(j:Int)]):=H.gV.snoc hj (by rw [hm];exact df.2 Et) H.W.pos;generalize hs:bZ G ps=s at*;have eG:=jN (k:=k) hc;rw [hs,iX]at eG;have eD:(dd k G h ps).D=G.D++ [⟨h,de ps⟩]:=by rw [eG]
  have eP:(dd k G h ps).P=G.P++ [(j:Int)]:=by rw [eG]
  refine⟨by rw [eD];exact W',by rw [eD,eP];exact lK,by rw [eG];simp [H.lc],by rw [eG];simp [H.lw],?_,?_,?_⟩
  ·intro nd mQ
   rw [eD,List.getElem?_append_left H.W.pos]at mQ;obtain⟨e1,e2⟩:=hk nd.id (dt.2 ⟨nd,List.mem_of_getElem? mQ,rfl⟩);rw [e1,e2];exact H.root nd mQ
  ·intro t y hy
   rw [eD,eP,ns H.W H.gV hn hj]at hy;rcases hy with hy|⟨rfl,rfl⟩
   ·have hp:=hy.par H.gV
    have Lr:y∈ids G.D:=((eB.one hp).mem H.W).2;have Sm:t∈ids G.D:=((eB.one hp).mem H.W).1;obtain⟨e1,e2⟩:=hk y Lr;obtain⟨_,e3⟩:=hk t Sm;obtain⟨g1,g2,g3,g4,g5⟩:=H.up t y hy;rw [e1,e2,e3,eD];refine⟨g1,g2,g3,g4,fun z=>?_⟩;rw [g5,zW _ _ Lr,zW _ _ Sm]
   ·show _/\_
    rw [nc,nw,hm,(hk s Ev).2,eD];refine⟨rfl,v2,v1,(lr _ _ _).nodup,fun z=>?_⟩;show z∈cC G s ps↔_
    rw [jt,Dg,zW _ _ Ev];constructor
    ·rintro⟨e,h3,h4⟩
     refine⟨?_,h3,h4⟩;rcases e with⟨_,p,hp,e⟩|e
     ·exact⟨p,hp,.inr e⟩
     ·exact⟨z,e,.inl rfl⟩
    ·rintro⟨⟨p,hp,e⟩,h3,h4⟩
     refine⟨?_,h3,h4⟩;rcases e with rfl|e
     ·exact .inr hp
     ·exact .inl ⟨(e.mem H.W).1,p,hp,e⟩
  ·intro y hy
   rw [eD,kr]at hy;rcases List.mem_append.1 hy with hy|hy
   ·obtain⟨e1,e2⟩:=hk y hy
    obtain⟨g1,g2,g3⟩:=H.wd y hy;unfold GS.score;rw [e1,e2,eD];exact⟨g1,fun b hb=>(zW _ _ hy).2 (g2 b hb),g3⟩
   ·have:y=h:=by simpa using hy
    subst this;unfold GS.score;rw [nc,nw,eD];refine⟨u1,fun b hb=>?_,u2.symm⟩;obtain⟨_,e⟩:=u3 b hb;rw [Dg];rcases e with rfl|e|e
    ·exact⟨b,Et,.inl rfl⟩
    ·exact⟨s,Et,.inr e⟩
    ·obtain⟨e,_,_⟩:=jt.1 e
     rcases e with⟨_,p,hp,e⟩|e
     ·exact⟨p,hp,.inr e⟩
     ·exact⟨b,e,.inl rfl⟩
 ·rw [q9 hc];exact H
end
def lY(sz:HT->HT->Option Nat)(l:List HT)(b:HT):Nat:=(l.findSome? fun h=>sz h b).getD 0
def qN(ov:HT->Option Nat)(base:HT->Nat)(b:HT):Nat:=(ov b).getD (base b)
structure OV(D:DG)(wd:List HT)(ov:HT->Option Nat)(base:HT->Nat):Prop where
 kn:∀b∈wd,qN ov base b=(bJ D wd b).length
 Qz:∀b n,ov b=some n->b∈wd
noncomputable def yE(D:DG)(wd:List HT)(ov:HT->Option Nat)(base:HT->Nat)(h:HT):HT->Option Nat:=
 fun b=>if b∈bJ D wd h then some (qN ov base b+1)else if b=h then some (bJ D wd h).length else ov b
theorem OV.step{D:DG}{wd:List HT}{ov:HT->Option Nat}{base:HT->Nat}(H:OV D wd ov base){h:HT}(hn:h∉wd):OV D (wd++ [h]) (yE D wd ov base h) base:=by
 refine⟨fun b hb=>?_,fun b n e=>?_⟩
 ·rw [eh,List.length_append]
  unfold qN yE;by_cases hp:b∈bJ D wd h
  ·rw [if_pos hp]
   obtain⟨h1,h2⟩:=dR.1 hp;rw [Option.getD_some,H.kn b h1];have:bJ D [h] b= [h]:=by unfold bJ;rw [List.filter_cons_of_pos (by simpa using h2.symm)];rfl
   rw [this];rfl
  ·rw [if_neg hp]
   by_cases e:b=h
   ·subst e
    rw [if_pos rfl,Option.getD_some];have:bJ D [b] b= []:=by unfold bJ;rw [List.filter_cons_of_neg (by simpa using fun e:jS D b b=>e.1 rfl)];rfl
    rw [this];rfl
   ·rw [if_neg e]
    have hw:b∈wd:=by
     rcases List.mem_append.1 hb with hb|hb
     ·exact hb
     ·exact absurd (by simpa using hb) e
    have:bJ D [h] b= []:=by unfold bJ;rw [List.filter_cons_of_neg (by simpa using fun e':jS D h b=>hp (dR.2 ⟨hw,e'.symm⟩))];rfl
    rw [this];exact H.kn b hw
 ·unfold yE at e
  split at e
  ·rename_i hp
   exact List.mem_append_left _ (dR.1 hp).1
  ·split at e
   ·rename_i hb;subst hb;exact List.mem_append_right _ (by simp)
   ·exact List.mem_append_left _ (H.Qz b n e)
structure SZ(G:GS)(sz:HT->HT->Option Nat):Prop where
 kn:∀h l,h∈ids G.D->cP G.D G.P h l->∀b∈G.world h++ [h],lY sz l b=(bJ G.D (G.world h++ [h]) b).length
 Qz:∀h b n,sz h b=some n->b∈ids G.D
theorem SZ.ov{G:GS}{sz:HT->HT->Option Nat}(Z:SZ G sz){s:HT}(hs:s∈ids G.D){l:List HT}(hl:cP G.D G.P s l):OV G.D (G.world s++ [s]) (fun _=>none) (lY sz l):=
 ⟨fun b hb=>Z.kn s l hs hl b hb,fun b n e=>by cases e⟩
theorem Up.snoc{P:List Int}{p:Int}:∀ {i:Nat} {l:List Nat},Up P i l->Up (P++ [p]) i l:=by
 intro i l h
 induction h with
 |root=>exact .root
 |step h _ ih=>exact .step (by rw [List.getElem?_append_left (lgeS h).1];exact h) ih
theorem wy{D:DG}{nd:DN}{i:Nat}(h:i<D.length):nR (D++ [nd]) i=nR D i:=by unfold nR;rw [List.getElem?_append_left h]
theorem cP.snoc{D:DG}{P:List Int}(H:ra D P){nd:DN}{p:Int}{h:HT}{l:List HT}(hm:h∈ids D)(c:cP D P h l):cP (D++ [nd]) (P++ [p]) h l:=by
 rcases c with⟨hn,_⟩|⟨i,m,ks,h1,h2,h3,h4⟩
 ·exact absurd hm hn
 ·have dQ:=(lgeS h1).1
  refine .inr ⟨i,m,ks,by rw [List.getElem?_append_left dQ];exact h1,h2,h3.snoc,?_⟩;rw [h4];refine List.map_congr_left fun k hk=>(wy ?_).symm;have:=h3.lt H.par (by rw [H.len];exact dQ) k hk
  rwa [H.len]at this
theorem cP.new{D:DG}{P:List Int}(W:jv D)(H:ra D P){nd m:DN}{j:Nat}(hj:D[j]? =some m){l:List HT}(c:cP D P m.id l):cP (D++ [nd]) (P++ [(j:Int)]) nd.id (nd.id::l):=by
 have hm:m.id∈ids D:=dt.2 ⟨m,List.mem_of_getElem? hj,rfl⟩;have c':=cP.snoc (nd:=nd) (p:=(j:Int)) H hm c;rcases c with⟨hn,_⟩|⟨i,m',ks,h1,h2,h3,h4⟩
 ·exact absurd hm hn
 ·have qg:=W.inj h1 hj h2
  subst qg;have e0:(D++ [nd])[D.length]? =some nd:=by rw [List.getElem?_append_right (Nat.le_refl _),Nat.sub_self];rfl
  refine .inr ⟨D.length,nd,D.length::ks,e0,rfl,.step (by rw [<-H.len,List.getElem?_append_right (Nat.le_refl _),Nat.sub_self];rfl) h3.snoc,?_⟩;rw [List.map_cons,mN e0,h4]
  congr 1
  refine List.map_congr_left fun k hk=>(wy ?_).symm;have:=h3.lt H.par (by rw [H.len];exact(lgeS h1).1) k hk
  rwa [H.len]at this
theorem nv{D D':DG}{l:List HT}{b:HT}(h:∀a∈l,jS D' a b↔jS D a b):bJ D' l b=bJ D l b:=by
 unfold bJ;exact List.filter_congr fun a ha=>by simp only [h a ha]
theorem SZ.root(r:HT):SZ (cS r) (fun _ _=>none):=by
 refine⟨fun h l hm _ b hb=>?_,fun h b n e=>by cases e⟩;have hh:h=r:=by simpa [cS,ids]using hm
 subst hh;have ew:(cS h).world h= []:=((jr 0 h).root ⟨h,[]⟩ rfl).2;rw [ew]at hb⊢;have:b=h:=by simpa using hb
 subst this;have:bJ (cS b).D ([]++ [b]) b= []:=by unfold bJ;rw [List.nil_append,List.filter_cons_of_neg (by simpa using fun e:jS (cS b).D b b=>e.1 rfl)];rfl
 rw [this];unfold lY;have:(l.findSome? fun _=>(none:Option Nat))=none:=by simp
 rw [this];rfl
theorem SZ.add{k:Nat}{G:GS}{sz:HT->HT->Option Nat}(Z:SZ G sz)(H:ga k G){h:HT}{ps:List HT}(hc:dr G.D h ps=0){l:List HT}(hl:cP G.D G.P (bZ G ps) l){ov:HT->Option Nat}
 (O:OV G.D (fg k G (bZ G ps) ps).wd ov (lY sz l)):SZ (dd k G h ps) (fun y=>if y=h then ov else sz y):=by
 obtain⟨hn,fC,eQ,oP⟩:=jP hc;obtain⟨j,m,hj,hm,iX,Et,Ev⟩:=Az H hc;obtain⟨Dg,zW⟩:=u9 H hc;have H':=H.add h ps;obtain⟨nc,nw⟩:=lR H hc;obtain⟨u1,u2,u3⟩:=wP H Ev ps (fun p hp=>oP _ (df.2 hp));have eD:(dd k G h ps).D=G.D++ [⟨h,de ps⟩]:=by rw [jN hc]
 have eP:(dd k G h ps).P=G.P++ [(j:Int)]:=by rw [jN hc,iX]
 have W9:∀a b,a∈ids G.D->b∈ids G.D->(jS (G.D++ [⟨h,de ps⟩]) a b↔jS G.D a b):=fun a b ha hb=>by unfold jS;rw [zW _ _ hb,zW _ _ ha]
 have lno:∀(y:HT) (l':List HT),y∈ids G.D->cP G.D G.P y l'->∀b,lY (fun y=>if y=h then ov else sz y) l' b=lY sz l' b:=fun y l' hy c b=>by
  unfold lY;have Wt:h∉l':=fun e=>hn ((c.mem H.W H.gV).1 e).mem.1;have key:∀l':List HT,h∉l'->(l'.findSome? fun y=>(if y=h then ov else sz y) b)=l'.findSome? fun y=>sz y b:=by
   intro l'
   induction l' with
   |nil=>intro _;rfl
   |cons y l' ih=>
    intro hq;simp only [List.mem_cons,not_or]at hq;rw [List.findSome?_cons,List.findSome?_cons,if_neg (fun e=>hq.1 e.symm),ih hq.2]
  rw [key l' Wt]
 refine⟨fun y l' hy c b hb=>?_,fun y b n e=>?_⟩
 ·rw [eD,eP]at c
  rw [eD]at hy⊢;rw [kr]at hy;have W':jv (G.D++ [⟨h,de ps⟩]):=by have:=H'.W;rwa [eD]at this
  have S':ra (G.D++ [⟨h,de ps⟩]) (G.P++ [(j:Int)]):=by have:=H'.gV;rwa [eD,eP]at this
  rcases List.mem_append.1 hy with hy|hy
  ·obtain⟨l0,c0⟩:=cP.ex H.gV y
   have:l'=l0:=c.one W' S' (c0.snoc H.gV hy);subst this;obtain⟨_,e2⟩:=jO (k:=k) (h:=h) (ps:=ps) H hy;rw [e2]at hb⊢;rw [lno y l' hy c0,Z.kn y l' hy c0 b hb];have fF:∀a∈G.world y++ [y],a∈ids G.D:=fun a ha=>by
    rcases List.mem_append.1 ha with ha|ha
    ·exact(((H.wd y hy).2.1 a ha).mem H.W).1
    ·have:a=y:=by simpa using ha
     subst this;exact hy
   rw [nv fun a ha=>W9 a b (fF a ha) (fF b hb)]
  ·have:y=h:=by simpa using hy
   subst this;have cn:=cP.new (nd:=⟨y,de ps⟩) H.W H.gV hj (by rw [hm];exact hl);have:l'=y::l:=c.one W' S' cn;subst this;rw [nw]at hb⊢;have e1:lY (fun z=>if z=y then ov else sz z) (y::l) b=qN ov (lY sz l) b:=by
    have:=lno _ l Ev hl b;unfold lY at this⊢;unfold qN;rw [List.findSome?_cons];cases Ac:ov b with
    |none=>simp only [if_true,Ac,Option.getD_none];exact this
    |some n=>simp only [if_true,Ac,Option.getD_some]
   rw [e1,eh,List.length_append];have Rk:∀a∈(fg k G (bZ G ps) ps).wd,¬jS (G.D++ [⟨y,de ps⟩]) a y:=fun a ha e=>by
    obtain⟨_,e'⟩:=u3 a ha;refine e.2.1 ((Dg a).2 ?_);rcases e' with rfl|e'|e'
    ·exact⟨_,Et,.inl rfl⟩
    ·exact⟨_,Et,.inr e'⟩
    ·obtain⟨e',_,_⟩:=jt.1 e'
     rcases e' with⟨_,p,hp,e'⟩|e'
     ·exact⟨p,hp,.inr e'⟩
     ·exact⟨a,e',.inl rfl⟩
   rcases List.mem_append.1 hb with hb|hb
   ·have hbi:=(u3 b hb).1
    have:bJ (G.D++ [⟨y,de ps⟩]) [y] b= []:=by unfold bJ;rw [List.filter_cons_of_neg (by simpa using fun e:jS _ y b=>Rk b hb e.symm)];rfl
    rw [this,O.kn b hb,nv fun a ha=>W9 a b (u3 a ha).1 hbi];rfl
   ·have:b=y:=by simpa using hb
    subst this;have e2:bJ (G.D++ [⟨b,de ps⟩]) (fg k G (bZ G ps) ps).wd b= []:=by
     unfold bJ;rw [List.filter_eq_nil_iff];intro a ha;simpa using Rk a ha
    have e3:bJ (G.D++ [⟨b,de ps⟩]) [b] b= []:=by unfold bJ;rw [List.filter_cons_of_neg (by simpa using fun e:jS _ b b=>e.1 rfl)];rfl
    rw [e2,e3];have e4:ov b=none:=by
     cases Ac:ov b with
     |none=>rfl
     |some n=>exact absurd (u3 b (O.Qz b n Ac)).1 hn
    have e5:lY sz l b=0:=by
     unfold lY;have:(l.findSome? fun h=>sz h b)=none:=by
      rw [List.findSome?_eq_none_iff];intro y hy;cases G5:sz y b with
      |none=>rfl
      |some n=>exact absurd (Z.Qz y b n G5) hn
     rw [this];rfl
    unfold qN;rw [e4,e5];rfl
 ·rw [eD,kr]
  refine List.mem_append_left _ ?_;split at e
  ·exact(u3 b (O.Qz b n e)).1
  ·exact Z.Qz y b n e
noncomputable def xW(G:GS)(h:HT):List HT->List HT
 | []=> []
 |a::r=>(if jS G.D a h then [a]else [])++if eB G.D a h then []else bJ G.D (cR (G.eK a).merge (G.eK a).dg) h++xW G h r
theorem Up.inv{P:List Int}{i:Nat}{l:List Nat}(h:Up P i l):(i=0/\l= [0])\/∃(j:Nat) (r:List Nat),l=i::r/\P[i]? =some (j:Int)/\Up P j r:=by
 cases h with
 |root=>exact .inl ⟨rfl,rfl⟩
 |step h1 h2=>exact .inr ⟨_,_,rfl,h1,h2⟩
theorem cP.inv{D:DG}{P:List Int}(W:jv D)(H:ra D P){h:HT}{l:List HT}(hm:h∈ids D)(c:cP D P h l):
 (l= [h]/\∃nd,D[0]? =some nd/\nd.id=h)\/∃(s:HT) (r:List HT),l=h::r/\iz D P s h/\s∈ids D/\cP D P s r:=by
 rcases c with⟨hn,_⟩|⟨i,m,ks,h1,h2,h3,h4⟩
 ·exact absurd hm hn
 ·rcases h3.inv with⟨rfl,rfl⟩|⟨j,r,rfl,h5,h6⟩
  ·refine .inl ⟨?_,m,h1,h2⟩
   rw [h4,List.map_cons,List.map_nil,mN h1,h2]
  ·have hj:j<D.length:=by
    cases i with
    |zero=>rw [H.root]at h5;simp only [Option.some.injEq]at h5;omega
    |succ i=>
     obtain⟨j',m',e,_,h7,_⟩:=H.up (i+1) _ m (by omega) h5 h1;have:=(lgeS h7).1;omega
   obtain⟨mj,Ou⟩:∃mj,D[j]? =some mj:=⟨_,List.getElem?_eq_getElem hj⟩;refine .inr ⟨mj.id,r.map (nR D),?_,⟨i,j,m,mj,h1,h2,h5,Ou,rfl⟩,dt.2 ⟨mj,List.mem_of_getElem? Ou,rfl⟩,.inr ⟨j,mj,r,Ou,rfl,h6,rfl⟩⟩;rw [h4,List.map_cons,mN h1,h2]
theorem Pr{k:Nat}{G:GS}(H:ga k G)(h:HT):∀(l:List HT) (s:HT),s∈ids G.D->cP G.D G.P s l->(xW G h l).Nodup/\∀y,y∈xW G h l↔y∈bJ G.D (G.world s++ [s]) h:=by
 intro l
 induction l with
 |nil=>
  intro s hs c;rcases c.inv H.W H.gV hs with⟨e,_⟩|⟨_,_,e,_⟩<;>cases e
 |cons a r ih=>
  intro s hs c;have key:∀(wb:List HT),G.world s=wb++cR (G.eK s).merge (G.eK s).dg->(xW G h r).Nodup->(∀y,y∈xW G h r↔y∈bJ G.D wb h)->a=s->(xW G h (a::r)).Nodup/\∀y,y∈xW G h (a::r)↔y∈bJ G.D (G.world s++ [s]) h:=by
   rintro wb hw hn hy rfl;obtain⟨w1,w2,_⟩:=H.wd a hs;have aab:=eB.irrefl H.W a;rw [hw]at w1 w2⊢;rw [List.nodup_append]at w1;obtain⟨w3,w4,w5⟩:=w1;unfold xW;by_cases ha:eB G.D a h
   ·have JX:¬jS G.D a h:=fun e=>e.2.1 ha
    rw [if_pos ha,if_neg JX];refine⟨by simp,fun y=>?_⟩;simp only [List.append_nil,List.not_mem_nil,false_iff];intro e;obtain⟨e1,e2⟩:=dR.1 e;rcases List.mem_append.1 e1 with e1|e1
    ·exact e2.2.1 ((w2 y e1).trans ha)
    ·have:y=a:=by simpa using e1
     subst this;exact JX e2
   ·rw [if_neg ha]
    have hr:∀y∈xW G h r,y∈wb:=fun y e=>(dR.1 ((hy y).1 e)).1;refine⟨?_,fun y=>?_⟩
    ·refine List.nodup_append.2 ⟨by split<;>simp,List.nodup_append.2 ⟨w4.filter _,hn,?_⟩,?_⟩
     ·intro x hx z hz e
      subst e;exact w5 x (hr x hz) x (dR.1 hx).1 rfl
     ·intro x hx z hz e
      subst e;split at hx
      ·have:x=a:=by simpa using hx
       subst this;refine aab (w2 x ?_);rcases List.mem_append.1 hz with hz|hz
       ·exact List.mem_append_right _ (dR.1 hz).1
       ·exact List.mem_append_left _ (hr x hz)
      ·simp at hx
    ·rw [eh,eh]
     simp only [List.mem_append,hy];have e1:y∈(if jS G.D a h then [a]else [])↔y∈bJ G.D [a] h:=by
      unfold bJ;by_cases hp:jS G.D a h
      ·rw [if_pos hp,List.filter_cons_of_pos (by simpa using hp)];rfl
      ·rw [if_neg hp,List.filter_cons_of_neg (by simpa using hp)];rfl
     rw [e1];constructor
     ·rintro(e|e|e)
      ·exact .inr e
      ·exact .inl (.inr e)
      ·exact .inl (.inl e)
     ·rintro((e|e)|e)
      ·exact .inr (.inr e)
      ·exact .inr (.inl e)
      ·exact .inl e
  rcases c.inv H.W H.gV hs with⟨e,nd,h0,rfl⟩|⟨t,r',e,oh,ht,hc⟩
  ·obtain⟨r1,r2⟩:=H.root nd h0
   cases e;exact key [] (by rw [r2,r1];simp [cR]) (by simp [xW]) (fun y=>by simp [xW,bJ]) rfl
  ·cases e
   obtain⟨_,u2,_⟩:=H.up t a oh;obtain⟨i1,i2⟩:=ih t ht hc;exact key (G.world t++ [t]) u2 i1 i2 rfl
noncomputable def nO(G:GS)(h:HT)(bl l:List HT):List HT:=bJ G.D bl h++xW G h l
theorem KN{k:Nat}{G:GS}(H:ga k G){h s:HT}{l bl:List HT}(hs:s∈ids G.D)(hl:cP G.D G.P s l)(hn:(G.world s++ [s]++bl).Nodup):
 (nO G h bl l).Nodup/\(nO G h bl l).length=(bJ G.D (G.world s++ [s]++bl) h).length/\∀y,y∈nO G h bl l↔y∈bJ G.D (G.world s++ [s]++bl) h:=by
 obtain⟨h1,h2⟩:=Pr H h l s hs hl;have h0:=hn;rw [List.nodup_append]at hn;obtain⟨n1,n2,n3⟩:=hn;have hm:∀y,y∈nO G h bl l↔y∈bJ G.D (G.world s++ [s]++bl) h:=fun y=>by
  unfold nO;rw [eh,List.mem_append,List.mem_append,h2];exact Or.comm
 have eQ:(nO G h bl l).Nodup:=by
  refine List.nodup_append.2 ⟨n2.filter _,h1,?_⟩;intro x hx z hz e;subst e;exact n3 x (dR.1 ((h2 x).1 hz)).1 x (dR.1 hx).1 rfl
 exact⟨eQ,((List.perm_ext_iff_of_nodup eQ (h0.filter _)).2 hm).length_eq,hm⟩
def qF(k:Nat)(kn:HT->Nat)(done:List HT)(b:HT):Bool:=decide (done.length+1<=k/\kn b<k)
def eT(k:Nat)(kn:HT->Nat):List HT->List HT->Bool
 |_,[]=>true
 |done,b::l=>qF k kn done b&&eT k kn (done++ [b]) l
theorem o6{k:Nat}{kn:HT->Nat}:∀ {l done:List HT},eT k kn done l=true↔(l≠ []->done.length+l.length<=k)/\∀b∈l,kn b<k
 | [],done=>by simp [eT]
 |b::l,done=>by
  unfold eT qF;rw [Bool.and_eq_true,decide_eq_true_eq,o6];simp only [List.length_append,List.length_cons,List.length_nil,List.mem_cons,forall_eq_or_imp,ne_eq,reduceCtorEq,not_false_eq_true,forall_const];constructor
  ·rintro⟨⟨h1,h2⟩,h3,h4⟩
   refine⟨?_,h2,h4⟩;by_cases e:l= []
   ·subst e;simpa using h1
   ·have:=h3 e;omega
  ·rintro⟨h1,h2,h3⟩
   refine⟨⟨by omega,h2⟩,fun _=>by omega,h3⟩
theorem lQ{k:Nat}{kn:HT->Nat}:∀ {l m done:List HT},eT k kn done (l++m)=(eT k kn done l&&eT k kn (done++l) m)
 | [],m,done=>by simp [eT]
 |b::l,m,done=>by
  simp only [List.cons_append,eT,lQ (l:=l),Bool.and_assoc,List.append_assoc,List.nil_append]
theorem H3{k:Nat}{D:DG}{wd:List HT}{kn:HT->Nat}{h:HT}{c:List HT}(hk:∀b∈wd,kn b=(bJ D wd b).length)(hl:c.length=(bJ D wd h).length)(hm:∀y,y∈c↔y∈bJ D wd h):
 eT k kn [] c=mV k D wd h:=by
 rw [Bool.eq_iff_iff,o6];unfold mV;rw [decide_eq_true_eq];simp only [List.length_nil,Nat.zero_add,<-hl];constructor
 ·rintro⟨h1,h2⟩
  refine⟨?_,fun y hy=>?_⟩
  ·by_cases e:c= []
   ·subst e;simp
   ·exact h1 e
  ·have:=h2 y ((hm y).2 hy)
   rw [hk y (dR.1 hy).1]at this;omega
 ·rintro⟨h1,h2⟩
  refine⟨fun _=>h1,fun y hy=>?_⟩;have hy:=(hm y).1 hy;rw [hk y (dR.1 hy).1];have:=h2 y hy;omega
open Go.RowKit
theorem Gi:vM cX eU (.pointer none):=⟨by kernel_rfl,th (by kernel_rfl)⟩
theorem qK:vM ck jh (.int .i64 0):=⟨by kernel_rfl,th (by kernel_rfl)⟩
structure Bo(w:World)(A:Option Addr)(n:Nat)(l:List Bool):Prop where
 len:l.length=n
 at_:∀(i:Nat) (b:Bool),l[i]? =some b->∃a,A=some a/\a.block<w.heap.size/\w.cell? (a.add i)=some (.bool b)
theorem Bo.aC{S:Nat->Prop}{w w':World}{A:Option Addr}{n:Nat}{l:List Bool}(h:Bo w A n l)(hk:Kept S w w')(hn:∀a,A=some a->¬S a.block):Bo w' A n l:=⟨h.len,fun i x hi=>by
 obtain⟨a,h1,h2,h3⟩:=h.at_ i x hi;exact⟨a,h1,Nat.lt_of_lt_of_le h2 hk.size,hk.cell h3 (by rw [eJ];exact hn a h1)⟩⟩
theorem Bo.same{w w':World}{A:Option Addr}{n:Nat}{l:List Bool}(h:Bo w A n l)(hk:Kept Nil w w'):Bo w' A n l:=h.aC hk fun _ _ h=>h
def Jc(ov:HT->Option Nat)(b:HT):Option Value:=(ov b).map fun n:Nat=>.int .i64 (n:Int)
def Fc(w:World)(F:Nat->Prop)(sm:Option Nat)(sz:HT->Option Nat):Prop:=
 (sm=none/\∀b,sz b=none)\/∃s,sm=some s/\F s/\fk w s (Jc sz)
def cF(c:nZ)(A:Option Addr)(n cp:Nat)(B:Option Addr)(m cq:Nat):Array Value:=c.gV.1++ #[.int .u64 (c.score:Int),.slice A n cp,.slice B m cq]
structure pU(w:World)(F:Nat->Prop)(q:Nat)(c:nZ)(sz:HT->Option Nat)(A:Option Addr)(n cp:Nat)(B:Option Addr)(m cq:Nat)(sm:Option Nat):Prop where
 top:w.heap[q]? =some (.cells (cF c A n cp B m cq++ #[.map sm]) dN (0,0))
 mg:HS w A n c.merge
 bl:Bo w B m c.dg
 fA:∀a,A=some a->F a.block
 fB:∀a,B=some a->F a.block
 sz:Fc w F sm sz
 fq:F q
def Seen(w:World)(F:Nat->Prop)(q:Nat)(c:nZ)(sz:HT->Option Nat):Prop:=∃A n cp B m cq sm,pU w F q c sz A n cp B m cq sm
section
variable{w w':World}{F S:Nat->Prop}{q:Nat}{c:nZ}{sz:HT->Option Nat}{A B:Option Addr}{n cp m cq:Nat}{sm:Option Nat}
theorem Fc.aC(h:Fc w F sm sz)(hk:Kept S w w')(hF:∀j,F j->¬S j):Fc w' F sm sz:=by
 rcases h with h|⟨s,h1,h2,h3⟩
 ·exact .inl h
 ·exact .inr ⟨s,h1,h2,h3.aC hk (hF _ h2)⟩
theorem pU.aC(h:pU w F q c sz A n cp B m cq sm)(hk:Kept S w w')(hF:∀j,F j->¬S j):pU w' F q c sz A n cp B m cq sm:=
 ⟨hk.heap h.top (hF _ h.fq),h.mg.aC hk (fun a ha=>hF _ (h.fA a ha)),h.bl.aC hk (fun a ha=>hF _ (h.fB a ha)),h.fA,h.fB,h.sz.aC hk hF,h.fq⟩
theorem Seen.aC(h:Seen w F q c sz)(hk:Kept S w w')(hF:∀j,F j->¬S j):Seen w' F q c sz:=by
 obtain⟨A,n,cp,B,m,cq,sm,h⟩:=h;exact⟨A,n,cp,B,m,cq,sm,h.aC hk hF⟩
theorem aX(c:nZ)(A:Option Addr)(n cp:Nat)(B:Option Addr)(m cq:Nat):(cF c A n cp B m cq).size=35:=by
 unfold cF;rw [Array.size_append,c.gV.2.1];rfl
theorem dJ(c:nZ)(A:Option Addr)(n cp:Nat)(B:Option Addr)(m cq:Nat)(r:Array Value):
 ((cF c A n cp B m cq)++r)[32]? =some (.int .u64 (c.score:Int))/\((cF c A n cp B m cq)++r)[33]? =some (.slice A n cp)/\((cF c A n cp B m cq)++r)[34]? =some (.slice B m cq)/\((cF c A n cp B m cq)++r)[35]? =r[0]? :=by
 have hs:=aX c A n cp B m cq;have h0:c.gV.1.size=32:=c.gV.2.1;refine⟨?_,?_,?_,?_⟩
 ·rw [Array.getElem?_append_left (by omega)];unfold cF;rw [Array.getElem?_append_right (by omega),h0];rfl
 ·rw [Array.getElem?_append_left (by omega)];unfold cF;rw [Array.getElem?_append_right (by omega),h0];rfl
 ·rw [Array.getElem?_append_left (by omega)];unfold cF;rw [Array.getElem?_append_right (by omega),h0];rfl
 ·rw [Array.getElem?_append_right (by omega),hs]
theorem pU.Px(h:pU w F q c sz A n cp B m cq sm):w.cell? (((⟨q,0,none⟩:Addr).add 0).add 32)=some (.int .u64 (c.score:Int)):=by
 rw [add_zero,a8,ay h.top];exact(dJ ..).1
theorem pU.c35(h:pU w F q c sz A n cp B m cq sm):w.cell? ((⟨q,0,none⟩:Addr).add 35)=some (.map sm):=by
 rw [a8,ay h.top];exact(dJ ..).2.2.2
theorem pU.eK(h:pU w F q c sz A n cp B m cq sm):Cells w ((⟨q,0,none⟩:Addr).add 0) (cF c A n cp B m cq):=by
 intro j u hj;rw [add_zero,a8,ay h.top,Array.getElem?_append_left (by rw [aX];have:=(Array.getElem?_eq_some_iff.1 hj).1;rw [aX]at this;omega)];rw [Nat.zero_add];exact hj
end
structure CM where
 x:Nat
 mb:Nat
 SX:Nat->Prop
 FX:Nat->Prop
 q:HT->Nat
 sz:HT->HT->Option Nat
def CM.own(m:CM)(c j:Nat):Prop:=m.SX j\/j=c\/j=m.mb
structure CV(w:World)(F:Nat->Prop)(c:Nat)(k:Nat)(G:GS)(m:CM):Prop where
 top:w.heap[c]? =some (.cells #[.int .i64 (k:Int),.pointer (some ⟨m.x,0,none⟩),.map (some m.mb)] gv (0,0))
 X:BX w m.SX m.FX m.x G.D G.P
 all:fk w m.mb fun h=>if h∈ids G.D then some (.pointer (some ⟨m.q h,0,none⟩))else none
 seen:∀h∈ids G.D,Seen w F (m.q h) (G.eK h) (m.sz h)
 eo:ga k G
 Z:SZ G m.sz
 fx:∀j,m.FX j->F j
 fo:∀j,F j->¬m.own c j
 so:∀j,m.SX j->j≠c/\j≠m.mb
 ne:c≠m.mb
 low:∀j,m.own c j\/F j->j<w.heap.size
section
variable{w w':World}{F S:Nat->Prop}{c k:Nat}{G:GS}{m:CM}{K:Value->World->Prop}
theorem CV.aC{S0:Nat->Prop}(h:CV w F c k G m)(hk:Kept S0 w w')(hS:∀j,m.own c j->¬S0 j)(hF:∀j,F j->¬S0 j):CV w' F c k G m where
 top:=hk.heap h.top (hS _ (.inr (.inl rfl)))
 X:=h.X.aC hk (fun j e=>hS j (.inl e)) (fun j e=>hF j (h.fx j e))
 all:=h.all.aC hk (hS _ (.inr (.inr rfl)))
 seen:=fun y hy=>(h.seen y hy).aC hk hF
 eo:=h.eo
 Z:=h.Z
 fx:=h.fx
 fo:=h.fo
 so:=h.so
 ne:=h.ne
 low:=fun j e=>Nat.lt_of_lt_of_le (h.low j e) hk.size
theorem CV.same(h:CV w F c k G m)(hk:Kept Nil w w'):CV w' F c k G m:=h.aC hk (fun _ _ h=>h) (fun _ _ h=>h)
theorem CV.c0(h:CV w F c k G m):w.cell? ((⟨c,0,none⟩:Addr).add 0)=some (.int .i64 (k:Int)):=by rw [a8,ay h.top];rfl
theorem CV.c1(h:CV w F c k G m):w.cell? ((⟨c,0,none⟩:Addr).add 1)=some (.pointer (some ⟨m.x,0,none⟩)):=by rw [a8,ay h.top];rfl
theorem CV.c2(h:CV w F c k G m):w.cell? ((⟨c,0,none⟩:Addr).add 2)=some (.map (some m.mb)):=by rw [a8,ay h.top];rfl
theorem CV.look(h:CV w F c k G m)(y:HT):(Instr.lookup cX (.map (some m.mb)) (.agg y.1) false).run prog w=.ok (.pointer (if y∈ids G.D then some ⟨m.q y,0,none⟩else none)) w:=by
 have:=h.all.look Gi y;by_cases hy:y∈ids G.D
 ·rw [if_pos hy]at this;rw [if_pos hy];exact this
 ·rw [if_neg hy]at this;rw [if_neg hy];exact this
theorem CV.lJ(h:CV w F c k G m){y:HT}(hy:y∈ids G.D):(Instr.lookup cX (.map (some m.mb)) (.agg y.1) false).run prog w=.ok (.pointer (some ⟨m.q y,0,none⟩)) w:=by
 have:=h.look y;rwa [if_pos hy]at this
theorem ml(h:CV w F c k G m)(hK:K (.bool true) w):bk prog dS.id #[.pointer (some ⟨c,0,none⟩)] w K:=
 dS.of (Split.yes rfl ⟨_,h.c1,hK⟩)
theorem ER{A:Addr}{x y:Int}{cx:Nat}(h0:w.cell? A=some (.int .i64 x))(h1:w.cell? (A.add 1)=some (.int .i64 y))(hK:K (.int .i64 (if x=0 then y else x)) w):
 bk prog bE.id #[.slice (some A) 2 cx] w K:=by
 refine bE.of ?_;unfold bE.W;refine bE.cf (I:=fun s w'=>w'=w/\((s=(0,0))\/(s=(0,1)/\x=0)\/(s=(0,2)/\x=0/\y=0))) (μ:=fun s _=>(2-s.2).toNat) (s:=(0,0)) ⟨rfl,.inl rfl⟩ ?_;rintro s w' ⟨rfl,h⟩;rcases h with rfl|⟨rfl,hx⟩|⟨rfl,hx,hy⟩
 ·refine Split.yes rfl ⟨by simp only;omega,x,by rw [show(0:Int).toNat*1=0 from rfl,add_zero];exact h0,?_⟩
  by_cases hx:x=0
  ·refine Split.no (by simp [hx]) ?_
   exact⟨(0,1),rfl,⟨rfl,.inr (.inl ⟨rfl,hx⟩)⟩,by simp only;omega⟩
  ·refine Split.yes (by simpa using hx) ?_
   rw [if_neg hx]at hK;rw [ij];exact hK
 ·refine Split.yes rfl ⟨by simp only;omega,y,h1,?_⟩
  rw [if_pos hx]at hK;by_cases hy:y=0
  ·refine Split.no (by simp [hy]) ?_
   exact⟨(0,2),rfl,⟨rfl,.inr (.inr ⟨rfl,hx,hy⟩)⟩,by simp only;omega⟩
  ·refine Split.yes (by simpa using hy) ?_
   rw [ij];exact hK
 ·refine Split.no rfl ?_
  rw [aP,bE.dh];rw [if_pos hx,hy]at hK;exact hK
theorem BK{x y:Int}(hK:K (.int .i64 (if x<y then-1 else if y<x then 1 else 0)) w):bk prog dB.id #[.int .u64 x,.int .u64 y] w K:=by
 refine dB.of ?_;refine eW.of ⟨_,rfl,?_⟩;refine eW.of ⟨_,rfl,?_⟩;refine Split.no (by simp) (Split.no (by simp) (Split.dec (fun h=>?_) (fun h=>Split.dec (fun h'=>?_) (fun h'=>?_))))
 ·rw [if_pos h]at hK;exact hK
 ·rw [if_neg h,if_pos h']at hK;exact hK
 ·rw [if_neg h,if_neg h']at hK;exact hK
theorem oV(h:CV w F c k G m){a b:HT}(ha:a∈ids G.D)(hb:b∈ids G.D)(hK:∀w',Kept Nil w w'->K (.int .i64 (zE G a b)) w'):
 bk prog bp.id #[.pointer (some ⟨c,0,none⟩),.agg a.1,.agg b.1] w K:=by
 refine bp.of ?_;unfold bp.W;intro w4 w5 w6;have k4:Kept Nil w w4:=(Kept.refl _ _).alloc _;have xv:w4.heap[w.heap.size]? =some (.cells a.1 aj (0,0)):=aJ w _;have k5:Kept Nil w4 w5:=(Kept.refl _ _).alloc _;have nz:w5.heap[w4.heap.size]? =some (.cells b.1 aj (0,0)):=aJ w4 _;have k6:Kept Nil w5 w6:=(Kept.refl _ _).drew;clear_value w6;have tq:=(k5.tt k6).heap xv (fun h=>h);have nM:=k6.heap nz (fun h=>h);have mM:=(k4.tt k5).tt k6;have h6:=h.same mM;obtain⟨A1,n1,c1,B1,m1,d1,s1,sa⟩:=h6.seen a ha;obtain⟨A2,n2,c2,B2,m2,d2,s2,sb⟩:=h6.seen b hb;refine⟨_,h6.c2,a.1,⟨a.2.1,Cells.bC tq⟩,_,h6.lJ ha,_,sa.Px,_,h6.c2,b.1,⟨b.2.1,Cells.bC nM⟩,_,h6.lJ hb,_,sb.Px,a.1,⟨a.2.1,Cells.bC tq⟩,b.1,⟨b.2.1,Cells.bC nM⟩,?_⟩;refine BK ⟨_,rfl,⟨b.1,rfl,b.2.1,Cells.bC nM⟩,⟨a.1,rfl,a.2.1,Cells.bC tq⟩,?_⟩;refine oZ a b ⟨_,rfl,?_⟩;have k7:Kept Nil w6 ((w6.alloc (.cells a.1 aj)).alloc (.cells b.1 aj)).drew:=(((Kept.refl Nil w6).alloc _).alloc _).drew;generalize ((w6.alloc (.cells a.1 aj)).alloc (.cells b.1 aj)).drew=w7 at k7⊢;intro w8;have k8:Kept Nil w7 w8:=(Kept.refl _ _).alloc _;have Kp:w8.heap[w7.heap.size]? =some (.cells _ _ (0,0)):=aJ w7 _;clear_value w8;refine ER (A:=⟨w7.heap.size,0,none⟩) (by rw [ay Kp];rfl) (by rw [a8,ay Kp];rfl) ⟨_,rfl,?_⟩;have e:(if(if((G.eK a).score:Int)<((G.eK b).score:Int)then(-1:Int)else if((G.eK b).score:Int)<((G.eK a).score:Int)then 1 else 0)=0 then kI a b else if((G.eK a).score:Int)<((G.eK b).score:Int)then(-1:Int)else if((G.eK b).score:Int)<((G.eK a).score:Int)then 1 else 0)=zE G a b:=by
  rw [KJ];unfold GS.score;by_cases h1:(G.eK a).score<(G.eK b).score
  ·have sH:((G.eK a).score:Int)<((G.eK b).score:Int):=by omega
   rw [if_pos h1,if_pos sH,if_neg (by decide)]
  ·have sH:¬((G.eK a).score:Int)<((G.eK b).score:Int):=by omega
   by_cases h2:(G.eK b).score<(G.eK a).score
   ·have uD:((G.eK b).score:Int)<((G.eK a).score:Int):=by omega
    rw [if_neg h1,if_neg sH,if_pos h2,if_pos uD,if_neg (by decide)]
   ·have uD:¬((G.eK b).score:Int)<((G.eK a).score:Int):=by omega
    rw [if_neg h1,if_neg sH,if_neg h2,if_neg uD,if_pos rfl]
 rw [e];exact hK _ ((mM.tt k7).tt k8)
end
section
variable{w:World}
theorem fk.Cx{mt te:TypeId}{z:Value}(T:vM mt te z){m:Nat}{f:HT->Option Value}(hm:fk w m f)(h:HT):
 (Instr.lookup mt (.map (some m)) (.agg h.1) true).run prog w=.ok (.tuple #[(f h).getD z,.bool (f h).isSome]) w:=by
 obtain⟨es,clock,l,h1,h2,h3,_⟩:=hm.ex;have h4:=kV h w h2;have h5:=mn h l 0;rw [h3]at h5;simp only [Instr.lookup,Sem.run_bind,run_underlying T.oc,oX h1,Result.andThen_ok,Sem.run_pure,iJ,h4];cases hp:kR h l 0 with
 |none=>rw [hp]at h5;simp [<-h5,T.zero]
 |some p=>rw [hp]at h5;simp [<-h5]
theorem AO{mt te:TypeId}{z:Value}(T:vM mt te z)(h:HT):
 (Instr.lookup mt (.map none) (.agg h.1) true).run prog w=.ok (.tuple #[z,.bool false]) w:=by
 have h3:=kV (es:= []) (l:= []) h w trivial;simp only [Instr.lookup,Sem.run_bind,run_underlying T.oc,Result.andThen_ok,Sem.run_pure,iJ];simp [h3,kR,T.zero]
theorem Fc.Cx{F:Nat->Prop}{sm:Option Nat}{sz:HT->Option Nat}(h:Fc w F sm sz)(b:HT):
 (Instr.lookup ck (.map sm) (.agg b.1) true).run prog w=.ok (.tuple #[.int .i64 (((sz b).getD 0:Nat):Int),.bool (sz b).isSome]) w:=by
 rcases h with⟨rfl,h⟩|⟨s,rfl,_,h⟩
 ·rw [h b];exact AO qK b
 ·have:=h.Cx qK b
  unfold Jc at this;cases hb:sz b with
  |none=>rw [hb]at this;exact this
  |some n=>rw [hb]at this;exact this
end
section
variable{w w':World}{F S:Nat->Prop}{c k:Nat}{G:GS}{m:CM}{K:Value->World->Prop}
theorem zt(h:CV w F c k G m)(hD:G.D.length<=5000)(a b:HT)(hK:∀w' (r:Bool),(r=true↔jS G.D a b)->Kept Nil w w'->K (.bool r) w'):
 bk prog cZ.id #[.pointer (some ⟨c,0,none⟩),.agg a.1,.agg b.1] w K:=by
 refine cZ.of ?_;unfold cZ.W;intro w4 w5 w6;have k4:Kept Nil w w4:=(Kept.refl _ _).alloc _;have xv:w4.heap[w.heap.size]? =some (.cells a.1 aj (0,0)):=aJ w _;have k5:Kept Nil w4 w5:=(Kept.refl _ _).alloc _;have nz:w5.heap[w4.heap.size]? =some (.cells b.1 aj (0,0)):=aJ w4 _;have k6:Kept Nil w5 w6:=(Kept.refl _ _).drew;clear_value w6;have tq:=(k5.tt k6).heap xv (fun h=>h);have nM:=k6.heap nz (fun h=>h);have mM:=(k4.tt k5).tt k6;have h6:=h.same mM;refine⟨a.1,⟨a.2.1,Cells.bC tq⟩,b.1,⟨b.2.1,Cells.bC nM⟩,⟨a.2.ints,b.2.ints⟩,?_⟩;rw [du];by_cases lM:a=b
 ·refine Split.no (by rw [decide_eq_true lM];rfl) (hK w6 false ⟨(fun e=>by cases e),fun e=>absurd lM e.1⟩ mM)
 ·refine Split.yes (by rw [decide_eq_false lM];rfl) ⟨_,h6.c1,a.1,⟨a.2.1,Cells.bC tq⟩,b.1,⟨b.2.1,Cells.bC nM⟩,?_⟩
  obtain⟨mx,X6,_⟩:=h6.X;refine kW X6 hD a b fun w7 r hr k7=>⟨_,rfl,?_⟩;have vt:=mM.tt k7;cases r with
  |true=>exact Split.no rfl (hK w7 false ⟨(fun e=>by cases e),fun e=>absurd (hr.1 rfl) e.2.1⟩ vt)
  |false=>
   have h7:=h.same vt;refine Split.yes rfl ⟨_,h7.c1,b.1,⟨b.2.1,Cells.bC (k7.heap nM (fun h=>h))⟩,a.1,⟨a.2.1,Cells.bC (k7.heap tq (fun h=>h))⟩,?_⟩;obtain⟨mx',X7,_⟩:=h7.X;refine kW X7 hD b a fun w8 r' Qg k8=>⟨_,rfl,hK w8 _ ?_ (vt.tt k8)⟩;cases r' with
   |true=>exact⟨(fun e=>by cases e),fun e=>absurd (Qg.1 rfl) e.2.2⟩
   |false=>exact⟨fun _=>⟨lM,(fun e=>by have:=hr.2 e;cases this),(fun e=>by have:=Qg.2 e;cases this)⟩,fun _=>rfl⟩
def mK(D:DG)(l:List HT):Int:=if l= []then 9 else if ∃p∈l,p∉ids D then 6 else 0
theorem EJ(h:CV w F c k G m){A:Option Addr}{n cx:Nat}{l:List HT}(hl:HS w A n l)(hn:n<=400000)(hK:∀w',Kept Nil w w'->K (.int .i64 (mK G.D l)) w'):
 bk prog dW.id #[.pointer (some ⟨c,0,none⟩),.slice A n cx] w K:=by
 have hlen:=hl.len;refine dW.of ?_;unfold dW.W;intro w4;have k4:Kept Nil w w4:=(Kept.refl _ _).alloc _;have II:w4.heap[w.heap.size]? =some (.cells #[.pointer (some ⟨c,0,none⟩)] fH (0,0)):=aJ w _;clear_value w4;refine⟨some ⟨c,0,none⟩,by rw [ay II];rfl,ml (h.same k4) ⟨_,rfl,Split.no rfl ?_⟩⟩;by_cases h0:n=0
 ·subst h0
  have e:l= []:=List.eq_nil_of_length_eq_zero hlen;refine Split.yes rfl ?_;have:=hK w4 k4;unfold mK at this;rw [if_pos e]at this;exact this
 ·have fC:l≠ []:=fun e=>by subst e;exact h0 hlen.symm
  refine Split.no (by simpa using (by omega:¬(n:Int)=0)) ?_;refine bT.of (al.of ?_);refine al.cf (I:=fun s w'=>∃i:Nat,s=(0,(i:Int))/\i<=n/\(∀p∈l.take i,p∈ids G.D)/\Kept Nil w4 w') (μ:=fun s _=>((n:Int)-s.2).toNat) (s:=(0,0)) ⟨0,rfl,Nat.zero_le _,by simp,Kept.refl _ _⟩ ?_;rintro s w' ⟨i,rfl,hi,cY,kw⟩;have k0w:=k4.tt kw;refine Split.dec (fun jb=>?_) (fun fV=>?_)
  ·simp only at jb
   have dQ:i<n:=by omega
   obtain⟨y,hy⟩:∃y,l[i]? =some y:=⟨_,List.getElem?_eq_getElem (by omega)⟩;refine(hl.same k0w).load (i:=(i:Int)) (by omega) hy ?_;refine dZ.of ?_;unfold dZ.W;intro w7 w8;have k7:Kept Nil w' w7:=(Kept.refl _ _).alloc _;have hb7:w7.heap[w'.heap.size]? =some (.cells y.1 aj (0,0)):=aJ w' _;have k8:Kept Nil w7 w8:=(Kept.refl _ _).drew;clear_value w8;have Kp:=k8.heap hb7 (fun h=>h);have PZ:=(kw.tt k7).tt k8;have h8:=h.same (k4.tt PZ);refine⟨some ⟨c,0,none⟩,by rw [ay (PZ.heap II (fun h=>h))];rfl,_,h8.c2,y.1,⟨y.2.1,Cells.bC Kp⟩,_,h8.look y,_,rfl,?_⟩;by_cases hm:y∈ids G.D
   ·refine Split.no (by rw [if_pos hm];rfl) ?_
    simp only;rw [dq (n:=(i:Int)) (by omega) (by omega)];refine⟨(0,(i:Int)+1),rfl,⟨i+1,rfl,dQ,fun p hp=>?_,PZ⟩,by simp only;omega⟩;rcases(bG hy).1 hp with hp|rfl
    ·exact cY p hp
    ·exact hm
   ·refine Split.yes (by rw [if_neg hm];rfl) ?_
    refine⟨(i:Int),rfl,_,rfl,?_⟩;have:=hK w8 (k4.tt PZ);unfold mK at this;rw [if_neg fC,if_pos ⟨y,List.mem_of_getElem? hy,hm⟩]at this;refine Split.yes (decide_eq_true (by omega)) this
  ·simp only at fV
   rw [aP,al.dh];rw [List.take_of_length_le (by omega)]at cY;refine⟨_,rfl,_,rfl,?_⟩;have:=hK w' k0w;unfold mK at this;rw [if_neg fC,if_neg (fun⟨p,hp,hn⟩=>hn (cY p hp))]at this;exact Split.no (by decide) this
end
theorem sJ{α β:Type}{f:α->Option β}{y:α}{n:β}:∀ {l:List α} {j:Nat},l[j]? =some y->(∀x∈l.take j,f x=none)->f y=some n->l.findSome? f=some n
 | [],j,h,_,_=>by simp at h
 |x::l,0,h,_,hy=>by
  simp only [List.getElem?_cons_zero,Option.some.injEq]at h;subst h;rw [List.findSome?_cons,hy]
 |x::l,j+1,h,ha,hy=>by
  have hx:=ha x (by simp);rw [List.findSome?_cons,hx];exact sJ (l:=l) (j:=j) (by simpa using h) (fun z hz=>ha z (by simp [hz])) hy
section
variable{w w':World}{F S:Nat->Prop}{c k:Nat}{G:GS}{m:CM}{K:Value->World->Prop}
theorem BB(h:CV w F c k G m)(hD:G.D.length<=5000){a b:HT}(ha:a∈ids G.D){l:List HT}(hc:cP G.D G.P a l)(hK:∀w',Kept Nil w w'->K (.int .i64 ((lY m.sz l b:Nat):Int)) w'):
 bk prog aZ.id #[.pointer (some ⟨c,0,none⟩),.agg a.1,.agg b.1] w K:=by
 have W:=h.eo.W;have H:=h.eo.gV;have LV:∀y∈l,y∈ids G.D:=fun y hy=>((hc.mem W H).1 hy).mem.1;refine aZ.of ?_;unfold aZ.W;intro w4 w5 w6 w7 w8;have k4:Kept Nil w w4:=(Kept.refl _ _).alloc _;have II:w4.heap[w.heap.size]? =some (.cells #[.pointer (some ⟨c,0,none⟩)] fH (0,0)):=aJ w _;have k5:Kept Nil w4 w5:=(Kept.refl _ _).alloc _;have Bw:w5.heap[w4.heap.size]? =some (.cells a.1 aj (0,0)):=aJ w4 _;have k6:Kept Nil w5 w6:=(Kept.refl _ _).alloc _;have nM:w6.heap[w5.heap.size]? =some (.cells b.1 aj (0,0)):=aJ w5 _;have k7:Kept Nil w6 w7:=(Kept.refl _ _).alloc _;have LH:w7.heap[w6.heap.size]? =some (.cells #[.int .i64 0] jh (0,0)):=aJ w6 _;have k8:Kept Nil w7 w8:=(Kept.refl _ _).drew;clear_value w8;have Wq:=k8.heap LH (fun h=>h);have Kp:=k8.heap (k7.heap nM (fun h=>h)) (fun h=>h);have WL:=k8.heap (k7.heap (k6.heap Bw (fun h=>h)) (fun h=>h)) (fun h=>h);have Uf:=k8.heap (k7.heap (k6.heap (k5.heap II (fun h=>h)) (fun h=>h)) (fun h=>h)) (fun h=>h);have vr:=(((k4.tt k5).tt k6).tt k7).tt k8;have s06:=(((k4.tt k5).tt k6)).size;have l7:=aQ LH;have l8:=aQ Wq;clear_value w7 w6 w5 w4;refine⟨some ⟨c,0,none⟩,by rw [ay Uf];rfl,_,(h.same vr).c1,a.1,⟨a.2.1,Cells.bC WL⟩,?_⟩;refine oE a fun gP pb qb lW Bl Bi z8 hqb=>⟨_,rfl,?_⟩;have VY:=lW.size;have vu:=vr.tt lW;have Ol:=lW.heap Wq (fun h=>h)
 let xy:Value:=.func (.func aV.id) #[] #[.pointer (some ⟨pb,0,none⟩),.pointer (some ⟨qb,0,none⟩)]
 let ρ0:Env:= [(3,.pointer (some ⟨w.heap.size,0,none⟩)),(5,.pointer (some ⟨w5.heap.size,0,none⟩)),(6,.pointer (some ⟨w6.heap.size,0,none⟩)),(15,xy)]
 let J:Nat->World->Prop:=fun j u=>Kept Nil gP u/\j<=l.length/\∀y∈l.take j,m.sz y b=none
 let Jd:Code->World->Prop:=fun e u=>e=.ret/\Kept (fun k=>k=w6.heap.size) gP u/\∃n:Nat,(l.findSome? fun y=>m.sz y b)=some n/\u.heap[w6.heap.size]? =some (.cells #[.int .i64 (n:Int)] jh (0,0))
 have k0J:∀ {u:World},Kept Nil gP u->Kept Nil w u:=fun k=>vu.tt k;have kS:∀ {v:World},Kept (fun k=>k=w6.heap.size) gP v->Kept Nil w v:=fun k=>vu.trans k (fun k hk e=>by omega);obtain⟨mx,X35,_⟩:=(h.same vu).X
 change Holds none [] prog _ _ _ ρ0 gP
 refine lH (n:=33) (ρ:=ρ0) (ρ0:=ρ0) ng mix aZ.k (t:=15) (ps:= #[16]) (by kernel_rfl) (by decide) rfl aV.at_ rfl (.inl rfl) (fun i x hi hx=>hx) rfl pJ l (fun _=>rfl) (fun q hq=>by
  have Vp:q=16:=by simpa using hq
  subst Vp;exact⟨by decide,by decide⟩) (wR (F:=m.FX) (x:=m.x) (m:=mx) (pb:=pb) (qb:=qb) hc (by omega)) J Jd ?_ ?_ (fun j u hJ=>⟨X35.same hJ.1,hJ.1.heap Bl (fun h=>h),hJ.1.heap Bi (fun h=>h)⟩) ?_ ?_ ?_ ?_ ?_
 ·rintro j u1 u2 R nJ ⟨h1,h2,h3⟩ mw
  exact⟨h1.trans mw (fun k hk e=>by omega),h2,h3⟩
 ·rintro e u1 u2 R nJ ⟨h1,h2,n,h3,h4⟩ mw
  exact⟨h1,h2.trans mw (fun k hk e=>by omega),n,h3,mw.heap h4 (by omega)⟩
 ·intro R
  exact⟨(((Kept.refl _ _).alloc _).alloc _),Nat.zero_le _,by simp⟩
 ·rintro j z u1 R hz ⟨h1,h2,h3⟩ nJ
  have e7:jX ρ0 ((#[16]:Array Nat).toList.zip (pJ z))= [(3,.pointer (some ⟨w.heap.size,0,none⟩)),(5,.pointer (some ⟨w5.heap.size,0,none⟩)),(6,.pointer (some ⟨w6.heap.size,0,none⟩)),(15,xy),(16,.agg z.1)]:=rfl;rw [e7,aZ.a1];have sV:=(lgeS hz).1;unfold aZ.A1;intro Fh;obtain⟨qR,iD,iH⟩:=gg (w:=u1) (z:=dO.1) (cs:=z.1) (t:=aj) (by rw [z.2.1];rfl);refine⟨⟨z.2.1,z.2.one,fun j hj=>qR j (by rw [z.2.1];exact hj)⟩,?_⟩;intro Fg
  replace iD:Fg.heap[u1.heap.size]? =some (.cells z.1 aj (0,0)):=iD
  replace iH:Kept Nil u1 Fg:=iH
  clear_value Fg;have xq:=nJ.aC iH (fun h=>h) (fun h=>h);refine⟨xq,fun w2 R2 mE ri=>?_⟩;have kZ:=mE.heap iD (iV iD xq.loop);have qP:Kept Nil gP w2:=(h1.tt iH).trans mE (fun k hk e=>by omega);rw [aZ.y1];unfold aZ.Y1;intro QR;have Yz:Kept Nil w2 QR:=(Kept.refl _ _).drew;clear_value QR;have TE:=ri.aC Yz (fun h=>h) (fun h=>h);have yY:=qP.tt Yz;have Nj:=lW.tt yY;have h48:=h.same (vr.tt Nj);obtain⟨A1,n1,c1,B1,m1,d1,s1,sa⟩:=h48.seen z (LV z (List.mem_of_getElem? hz));refine⟨some ⟨c,0,none⟩,by rw [ay (Nj.heap Uf (fun h=>h))];rfl,_,h48.c2,z.1,⟨z.2.1,Cells.bC (Yz.heap kZ (fun h=>h))⟩,_,h48.lJ (LV z (List.mem_of_getElem? hz)),_,sa.c35,b.1,⟨b.2.1,Cells.bC (Nj.heap Kp (fun h=>h))⟩,_,_,sa.sz.Cx b,?_⟩;cases hzb:m.sz z b with
  |some n=>
   refine Split.yes rfl ⟨dL (yY.heap Ol (fun h=>h)) (by simp),?_⟩;intro pV;have Oi:pV.heap[w6.heap.size]? =some (.cells #[.int .i64 (n:Int)] jh (0,0)):=by
    show(QR.setCell ⟨w6.heap.size,0,none⟩ (.int .i64 (n:Int))).heap[w6.heap.size]? =_;rw [cV (yY.heap Ol (fun h=>h)) 0];rfl
   have Ei:Kept (· =w6.heap.size) QR pV:=Kept.setCell (S:=fun k=>k=w6.heap.size) (Kept.refl _ QR) (p:=⟨w6.heap.size,0,none⟩) (fun _=>rfl) _;clear_value pV;exact⟨TE.aC Ei (fun e=>by omega) (fun e=>by omega),rfl,(yY.mono fun _ _ h=>h.elim).tt Ei,n,sJ hz h3 hzb,Oi⟩
  |none=>
   refine Split.no rfl ⟨TE,yY,sV,fun y hy=>?_⟩;rcases(bG hz).1 hy with hy|rfl
   ·exact h3 y hy
   ·exact hzb
 ·rintro u1 R ⟨h1,h2,h3⟩ nJ
  rw [List.take_of_length_le (Nat.le_refl _)]at h3;have e7:gF ρ0 gP.heap.size= [(3,.pointer (some ⟨w.heap.size,0,none⟩)),(5,.pointer (some ⟨w5.heap.size,0,none⟩)),(6,.pointer (some ⟨w6.heap.size,0,none⟩)),(15,xy),(4294967296,.agg (oM [gP.heap.size]))]:=rfl;rw [e7,aZ.iQ];unfold aZ.gu;have kQ:=h1.heap Ol (fun h=>h);refine⟨dL kQ (by simp),?_⟩;intro pV;have Oi:pV.heap[w6.heap.size]? =some (.cells #[.int .i64 0] jh (0,0)):=by
   show(u1.setCell ⟨w6.heap.size,0,none⟩ (.int .i64 0)).heap[w6.heap.size]? =_;rw [cV kQ 0];rfl
  have Ei:Kept (· =w6.heap.size) u1 pV:=Kept.setCell (S:=fun k=>k=w6.heap.size) (Kept.refl _ u1) (p:=⟨w6.heap.size,0,none⟩) (fun _=>rfl) _;clear_value pV;have nJ:=nJ.aC Ei (fun e=>by omega) (fun e=>by omega);rw [lh];have kt:=iR [gP.heap.size] pV;have hm:∀E∈ [gP.heap.size],pV.heap[E]? =some (.deferred (some [])):=fun E hE=>by
   rw [List.mem_singleton]at hE;subst hE;exact nJ.mark
  refine⟨jZ [gP.heap.size] pV (by simp) hm,0,by rw [ay (kt.heap Oi (fun hE=>by rw [List.mem_singleton]at hE;omega))];rfl,?_⟩;have e0:lY m.sz l b=0:=by
   unfold lY;have:(l.findSome? fun h=>m.sz h b)=none:=List.findSome?_eq_none_iff.2 h3;rw [this];rfl
  have:=hK (fD [gP.heap.size] pV) ((kS ((h1.mono fun _ _ h=>h.elim).tt Ei)).trans kt (fun k hk hE=>by rw [List.mem_singleton]at hE;have:=vu.size;omega));rw [e0]at this;exact this
 ·rintro u1 R ⟨_,h2,n,h3,h4⟩ nJ
  have e7:gF ρ0 gP.heap.size= [(3,.pointer (some ⟨w.heap.size,0,none⟩)),(5,.pointer (some ⟨w5.heap.size,0,none⟩)),(6,.pointer (some ⟨w6.heap.size,0,none⟩)),(15,xy),(4294967296,.agg (oM [gP.heap.size]))]:=rfl;rw [e7,aZ.Ah];unfold aZ.vc;rw [lh];have kt:=iR [gP.heap.size] u1;have hm:∀E∈ [gP.heap.size],u1.heap[E]? =some (.deferred (some [])):=fun E hE=>by
   rw [List.mem_singleton]at hE;subst hE;exact nJ.mark
  refine⟨jZ [gP.heap.size] u1 (by simp) hm,(n:Int),by rw [ay (kt.heap h4 (fun hE=>by rw [List.mem_singleton]at hE;omega))];rfl,?_⟩;have e0:lY m.sz l b=n:=by unfold lY;rw [h3];rfl
  have:=hK (fD [gP.heap.size] u1) ((kS h2).trans kt (fun k hk hE=>by rw [List.mem_singleton]at hE;have:=vu.size;omega));rw [e0]at this;exact this
 ·rintro id u1 R ⟨e,_⟩ nJ
  cases e
end
section
variable{w:World}
theorem zI{x:HT}:∀ {l:List (HT×Value)},assoc x l≠none↔x∈l.map (·.1)
 | []=>by simp [assoc]
 |(y,v)::l=>by
  have:=zI (x:=x) (l:=l);unfold assoc;by_cases e:x=y
  ·subst e;simp
  ·rw [if_neg e,this]
   simp only [List.map_cons,List.mem_cons];exact⟨.inr,fun h=>h.resolve_left e⟩
theorem fk.len{mt te:TypeId}{z:Value}(T:vM mt te z){m:Nat}{f:HT->Option Value}(hm:fk w m f)(ty:TypeId){l:List HT}(hn:l.Nodup)(hl:∀x,f x≠none↔x∈l):
 (Builtin.len_ #[mt] ty #[.map (some m)]).run prog w=.ok (.int .i64 (l.length:Int)) w:=by
 obtain⟨es,clock,l',h1,h2,h3,_,_,h6⟩:=hm.ex;have e1:es.size=l'.length:=by have:=h2.len;simpa using this
 have e2:l'.length=l.length:=by
  have hp:(l'.map (·.1)).Perm l:=(List.perm_ext_iff_of_nodup h6 hn).2 fun x=>by rw [<-zI,h3,hl]
  simpa using hp.length_eq
 simp [Builtin.len_,run_underlying T.oc,oX h1,goInt,Result.andThen,e1,e2]
end
section
variable{w w':World}{F S:Nat->Prop}{c k:Nat}{G:GS}{m:CM}{K:Value->World->Prop}
structure VB(w:World)(c:Nat)(s:HT)(bs bc bh q sm:Nat)(ov:HT->Option Nat):Prop where
 hs:w.heap[bs]? =some (.cells #[.pointer (some ⟨q,0,none⟩)] eU (0,0))
 hc:w.heap[bc]? =some (.cells #[.pointer (some ⟨c,0,none⟩)] fH (0,0))
 hh:w.heap[bh]? =some (.cells s.1 aj (0,0))
 sz:w.cell? ((⟨q,0,none⟩:Addr).add 35)=some (.map (some sm))
 ov:fk w sm (Jc ov)
theorem VB.aC{S:Nat->Prop}{s:HT}{bs bc bh q sm:Nat}{ov:HT->Option Nat}(h:VB w c s bs bc bh q sm ov)(hk:Kept S w w')(h1:¬S bs)(h2:¬S bc)(h3:¬S bh)(h4:¬S q)(h5:¬S sm):VB w' c s bs bc bh q sm ov:=
 ⟨hk.heap h.hs h1,hk.heap h.hc h2,hk.heap h.hh h3,hk.cell h.sz h4,h.ov.aC hk h5⟩
theorem VB.same{s:HT}{bs bc bh q sm:Nat}{ov:HT->Option Nat}(h:VB w c s bs bc bh q sm ov)(hk:Kept Nil w w'):VB w' c s bs bc bh q sm ov:=h.aC hk (fun h=>h) (fun h=>h) (fun h=>h) (fun h=>h) (fun h=>h)
theorem zr(h:CV w F c k G m)(hD:G.D.length<=5000){s b:HT}(hs:s∈ids G.D){l:List HT}(hc:cP G.D G.P s l){bs bc bh q sm:Nat}{ov:HT->Option Nat}(V:VB w c s bs bc bh q sm ov)
 (hK:∀w',Kept Nil w w'->K (.int .i64 ((qN ov (lY m.sz l) b:Nat):Int)) w'):
 bk prog bR.id #[.agg b.1,.pointer (some ⟨bs,0,none⟩),.pointer (some ⟨bc,0,none⟩),.pointer (some ⟨bh,0,none⟩)] w K:=by
 refine bR.of ?_;unfold bR.W;intro w4 w5;have k4:Kept Nil w w4:=(Kept.refl _ _).alloc _;have rj:w4.heap[w.heap.size]? =some (.cells b.1 aj (0,0)):=aJ w _;have k5:Kept Nil w4 w5:=(Kept.refl _ _).drew;clear_value w5;have nz:=k5.heap rj (fun h=>h);have pG:=k4.tt k5;have V5:=V.same pG;refine⟨some ⟨q,0,none⟩,by rw [ay V5.hs];rfl,_,V5.sz,b.1,⟨b.2.1,Cells.bC nz⟩,?_⟩;have lk:=V5.ov.Cx qK b;unfold Jc at lk;cases hb:ov b with
 |some n=>
  rw [hb]at lk;refine⟨(n:Int),true,lk,Split.yes rfl ?_⟩;have:=hK w5 pG;unfold qN at this;rw [hb]at this;exact this
 |none=>
  rw [hb]at lk;refine⟨0,false,lk,Split.no rfl ⟨some ⟨c,0,none⟩,by rw [ay V5.hc];rfl,s.1,⟨s.2.1,Cells.bC V5.hh⟩,b.1,⟨b.2.1,Cells.bC nz⟩,?_⟩⟩;refine BB (h.same pG) hD hs hc fun w7 k7=>⟨_,rfl,?_⟩;have:=hK w7 (pG.tt k7);unfold qN at this;rw [hb]at this;exact this
def xM(w:World)(fm:Nat)(kn:HT->Nat)(done:List HT):Prop:=fk w fm fun y=>if y∈done then some (.int .i64 (kn y:Int))else none
theorem zp(h:CV w F c k G m)(hD:G.D.length<=5000)(pS:k<=1000){s b:HT}(hs:s∈ids G.D){l:List HT}(hc:cP G.D G.P s l){bs bc bh q sm kb fb fm:Nat}{ov:HT->Option Nat}(V:VB w c s bs bc bh q sm ov)
 (LW:w.heap[kb]? =some (.cells #[.func (.func bR.id) #[] #[.pointer (some ⟨bs,0,none⟩),.pointer (some ⟨bc,0,none⟩),.pointer (some ⟨bh,0,none⟩)]] eZ (0,0)))
 (Qr:w.heap[fb]? =some (.cells #[.map (some fm)] ck (0,0))) {done:List HT} (hn:done.Nodup) (WI:b∉done) (hF:xM w fm (qN ov (lY m.sz l)) done) (hfo:¬m.own c fm) (hff:¬F fm) (fC:bc≠fm)
 (hK:∀w' (r:Bool),r=qF k (qN ov (lY m.sz l)) done b->xM w' fm (qN ov (lY m.sz l)) (done++ [b])->Kept (· =fm) w w'->K (.bool r) w'):
 bk prog cj.id #[.agg b.1,.pointer (some ⟨kb,0,none⟩),.pointer (some ⟨fb,0,none⟩),.pointer (some ⟨bc,0,none⟩)] w K:=by
 have lfm:=hF.lt;refine cj.of ?_;unfold cj.W;intro w4 w5;have k4:Kept Nil w w4:=(Kept.refl _ _).alloc _;have rj:w4.heap[w.heap.size]? =some (.cells b.1 aj (0,0)):=aJ w _;have k5:Kept Nil w4 w5:=(Kept.refl _ _).drew;clear_value w5;have nz:=k5.heap rj (fun h=>h);have pG:=k4.tt k5;have hnf:fb≠fm:=fun e=>by subst e;obtain⟨es,cl,_,h1,_⟩:=hF.ex;rw [Qr]at h1;cases h1
 refine⟨some fm,by rw [ay (pG.heap Qr (fun h=>h))];rfl,b.1,⟨b.2.1,Cells.bC nz⟩,_,by rw [ay (pG.heap LW (fun h=>h))];rfl,b.1,⟨b.2.1,Cells.bC nz⟩,?_⟩;refine⟨_,_,_,_,rfl,bR.at_,rfl,?_⟩;refine zr (h.same pG) hD hs hc (V.same pG) fun w7 k7=>⟨_,rfl,⟨b.1,rfl,b.2.1,Cells.bC (k7.heap nz (fun h=>h))⟩,?_,?_⟩
 ·rw [ay ((pG.tt k7).heap Qr (fun h=>h))];rfl
 have vt:=pG.tt k7;obtain⟨w8,Wq,hm8,k8⟩:=(hF.same vt).put qK b (.int .i64 ((qN ov (lY m.sz l) b:Nat):Int));refine⟨w8,Wq,?_⟩;intro w9;have k9:Kept Nil w8 w9:=(Kept.refl _ _).drew;clear_value w9;have k89:Kept (· =fm) w7 w9:=k8.trans k9 (fun _ _ h=>h.elim);have En:Kept (· =fm) w w9:=(vt.mono fun _ _ h=>h.elim).tt k89;have Qx:xM w9 fm (qN ov (lY m.sz l)) (done++ [b]):=by
  refine fk.same ?_ k9;have e:(fun y=>if y∈done++ [b]then some (Value.int .i64 ((qN ov (lY m.sz l) y:Nat):Int))else none)=fun x=>if x=b then some (.int .i64 ((qN ov (lY m.sz l) b:Nat):Int))else if x∈done then some (.int .i64 ((qN ov (lY m.sz l) x:Nat):Int))else none:=by
   funext y
   by_cases e:y=b
   ·subst e;rw [if_pos (by simp),if_pos rfl]
   ·rw [if_neg e]
    by_cases hy:y∈done
    ·rw [if_pos (List.mem_append_left _ hy),if_pos hy]
    ·rw [if_neg (by simp [hy,e]),if_neg hy]
  rw [e];exact hm8
 have hb9:w9.heap[w.heap.size]? =some (.cells b.1 aj (0,0)):=((k7.mono fun _ _ h=>h.elim).tt k89:Kept (· =fm) w5 w9).heap nz (by omega);have T5:=En.heap Qr hnf;have eQ:(done++ [b]).Nodup:=List.nodup_append.2 ⟨hn,by simp,fun x hx y hy e=>by
  have:y=b:=by simpa using hy
  subst this;subst e;exact WI hx⟩
 have h9:CV w9 F c k G m:=h.aC En (fun j hj e=>by subst e;exact hfo hj) (fun j hj e=>by subst e;exact hff hj);have hc9:w9.heap[bc]? =some (.cells #[.pointer (some ⟨c,0,none⟩)] fH (0,0)):=En.heap V.hc fC;refine⟨some fm,by rw [ay T5];rfl,(done++ [b]).length,Qx.len qK jh eQ (fun x=>by
  by_cases hx:x∈done++ [b]
  ·rw [if_pos hx];exact⟨fun _=>hx,fun _ e=>by cases e⟩
  ·rw [if_neg hx];exact⟨fun e=>absurd rfl e,fun e=>absurd e hx⟩),some ⟨c,0,none⟩,by rw [ay hc9];rfl,(k:Int),h9.c0,?_⟩
 refine Split.dec (fun h1=>?_) (fun h1=>?_)
 ·have lk:=fk.look qK Qx b
  rw [if_pos (by simp)]at lk;refine⟨some fm,by rw [ay T5];rfl,b.1,⟨b.2.1,Cells.bC hb9⟩,_,lk,some ⟨c,0,none⟩,by rw [ay hc9];rfl,(k:Int),h9.c0,?_⟩;refine hK w9 _ ?_ Qx En;unfold qF;rw [List.length_append,List.length_cons,List.length_nil]at h1;refine decide_eq_decide.2 ⟨fun h2=>⟨by omega,by omega⟩,fun h2=>by omega⟩
 ·refine hK w9 false ?_ Qx En
  unfold qF;rw [List.length_append,List.length_cons,List.length_nil]at h1;exact(decide_eq_false (by omega)).symm
end
structure PN where
 bs:Nat
 bc:Nat
 bh:Nat
 q:Nat
 sm:Nat
 kb:Nat
 fb:Nat
 fm:Nat
 yb:Nat
 hb:Nat
def PN.xy(p:PN):Value:=.func (.func cj.id) #[] #[.pointer (some ⟨p.kb,0,none⟩),.pointer (some ⟨p.fb,0,none⟩),.pointer (some ⟨p.bc,0,none⟩)]
def PN.gR(p:PN)(j:Nat):Prop:=p.bs≠j/\p.bc≠j/\p.bh≠j/\p.q≠j/\p.sm≠j/\p.kb≠j/\p.fb≠j
structure PG(w:World)(F:Nat->Prop)(c k:Nat)(G:GS)(m:CM)(s h:HT)(p:PN)(ov:HT->Option Nat):Prop where
 C:CV w F c k G m
 V:VB w c s p.bs p.bc p.bh p.q p.sm ov
 kb:w.heap[p.kb]? =some (.cells #[.func (.func bR.id) #[] #[.pointer (some ⟨p.bs,0,none⟩),.pointer (some ⟨p.bc,0,none⟩),.pointer (some ⟨p.bh,0,none⟩)]] eZ (0,0))
 fb:w.heap[p.fb]? =some (.cells #[.map (some p.fm)] ck (0,0))
 yb:w.cell? ⟨p.yb,0,none⟩=some p.xy
 hb:w.heap[p.hb]? =some (.cells h.1 aj (0,0))
 fo:¬m.own c p.fm
 ff:¬F p.fm
 gR:p.gR p.fm
 y:p.yb≠p.fm
 h:p.hb≠p.fm
section
variable{w w' u:World}{F:Nat->Prop}{c k:Nat}{G:GS}{m:CM}{s h:HT}{p:PN}{ov:HT->Option Nat}{K:Value->World->Prop}
theorem PG.aC(B:PG w F c k G m s h p ov)(hk:Kept (· =p.fm) w w'):PG w' F c k G m s h p ov:=by
 obtain⟨f1,f2,f3,f4,f5,f6,f7⟩:=B.gR;exact⟨B.C.aC hk (fun j hj e=>by subst e;exact B.fo hj) (fun j hj e=>by subst e;exact B.ff hj),B.V.aC hk f1 f2 f3 f4 f5,hk.heap B.kb f6,hk.heap B.fb f7,hk.cell B.yb B.y,hk.heap B.hb B.h,B.fo,B.ff,B.gR,B.y,B.h⟩
theorem PG.same(B:PG w F c k G m s h p ov)(hk:Kept Nil w w'):PG w' F c k G m s h p ov:=B.aC (hk.mono fun _ _ h=>h.elim)
theorem rG(B:PG w F c k G m s h p ov)(hD:G.D.length<=5000)(pS:k<=1000)(hs:s∈ids G.D){l:List HT}(hc:cP G.D G.P s l){done:List HT}(hF:xM w p.fm (qN ov (lY m.sz l)) done){b:HT}{zb:Nat}
 (hz:w.heap[zb]? =some (.cells b.1 aj (0,0))) (hzf:zb≠p.fm) (hn:jS G.D b h->(done++ [b]).Nodup) {A T:World->Prop}
 (hA:∀u,jS G.D b h->qF k (qN ov (lY m.sz l)) done b=false->Kept (· =p.fm) w u->A u)
 (hT:∀u wG,wG=done++(if jS G.D b h then [b]else [])->(jS G.D b h->qF k (qN ov (lY m.sz l)) done b=true)->xM u p.fm (qN ov (lY m.sz l)) wG->Kept (· =p.fm) w u->T u):
 bk prog cZ.id #[.pointer (some ⟨c,0,none⟩),.agg b.1,.agg h.1] w fun x y=>∃z:Bool,x=.bool z/\Split z (∃a1:Value,y.cell? ⟨p.yb,0,none⟩=some a1/\∃b1:Array Value,(b1.size=32/\Cells y ⟨zb,0,none⟩ b1)/\
  ∃(c1:Nat) (d1 e1:Array Value) (f1:Func),(a1:Value)=.func (.func c1) d1 e1/\prog.funcs[c1]? =some f1/\f1.body.isSome=true/\
   bk prog c1 (d1.toList++([.agg b1]:List Value)++e1.toList).toArray y fun g1 i1=>∃j1:Bool,g1=.bool j1/\Split (!j1) (A i1) (T i1)) (T y):=by
 refine zt B.C hD b h fun y r hr ky=>⟨r,rfl,?_⟩;have kyf:Kept (· =p.fm) w y:=ky.mono fun _ _ h=>h.elim;have By:=B.same ky;cases r with
 |false=>
  have JX:¬jS G.D b h:=fun e=>by have:=hr.2 e;cases this
  exact Split.no rfl (hT y done (by rw [if_neg JX,List.append_nil]) (fun e=>absurd e JX) (hF.same ky) kyf)
 |true=>
  have ha:=hr.1 rfl;have eQ:=hn ha;rw [List.nodup_append]at eQ;refine Split.yes rfl ⟨_,By.yb,b.1,⟨b.2.1,Cells.bC (ky.heap hz (fun h=>h))⟩,_,_,_,_,rfl,cj.at_,rfl,?_⟩;refine zp By.C hD pS hs hc By.V By.kb By.fb eQ.1 (fun e=>eQ.2.2 b e b (by simp) rfl) (hF.same ky) B.fo B.ff B.gR.2.1 fun v r hr hv kv=>⟨r,rfl,?_⟩;have M9:Kept (· =p.fm) w v:=kyf.tt kv;cases r with
  |false=>exact Split.yes rfl (hA v ha hr.symm M9)
  |true=>exact Split.no rfl (hT v (done++ [b]) (by rw [if_pos ha]) (fun _=>hr.symm) hv M9)
end
structure PG0(w:World)(F:Nat->Prop)(c k:Nat)(G:GS)(m:CM)(s:HT)(p:PN)(ov:HT->Option Nat):Prop where
 C:CV w F c k G m
 V:VB w c s p.bs p.bc p.bh p.q p.sm ov
 kb:w.heap[p.kb]? =some (.cells #[.func (.func bR.id) #[] #[.pointer (some ⟨p.bs,0,none⟩),.pointer (some ⟨p.bc,0,none⟩),.pointer (some ⟨p.bh,0,none⟩)]] eZ (0,0))
 fb:w.heap[p.fb]? =some (.cells #[.map (some p.fm)] ck (0,0))
 fo:¬m.own c p.fm
 ff:¬F p.fm
 gR:p.gR p.fm
theorem cJ:∀ {l m:List HT},l.Nodup->(∀x∈l,x∈m)->l.length<=m.length
 | [],_,_,_=>Nat.zero_le _
 |x::l,m,hn,hm=>by
  rw [List.nodup_cons]at hn;have hx:=hm x List.mem_cons_self;have:=cJ (m:=m.erase x) hn.2 fun y hy=>(List.mem_erase_of_ne (fun e=>hn.1 (by rw [<-e];exact hy))).2 (hm y (List.mem_cons_of_mem _ hy));rw [List.length_erase_of_mem hx]at this;have h0:=List.length_pos_of_mem hx;rw [List.length_cons];omega
theorem HS.get_mem{w:World}{A:Option Addr}{n:Nat}{l:List HT}(hl:HS w A n l){i:Nat}(hi:i<n):∃y,l[i]? =some y:=⟨_,List.getElem?_eq_getElem (by have:=hl.len;omega)⟩
theorem yD{D:DG}{l:List HT}{h x:HT}{i:Nat}(hx:l[i]? =some x):bJ D (l.take (i+1)) h=bJ D (l.take i) h++if jS D x h then [x]else []:=by
 have e:l.take (i+1)=l.take i++ [x]:=by rw [List.take_add_one,hx];rfl
 rw [e,eh]
 congr 1
 unfold bJ;by_cases hp:jS D x h
 ·rw [if_pos hp,List.filter_cons_of_pos (by simpa using hp)];rfl
 ·rw [if_neg hp,List.filter_cons_of_neg (by simpa using hp)];rfl
theorem BP{m:List HT}{b:List Bool}{x:HT}{y:Bool}{i:Nat}(hx:m[i]? =some x)(hy:b[i]? =some y):cR (m.drop i) (b.drop i)=(if y then [x]else [])++cR (m.drop (i+1)) (b.drop (i+1)):=by
 obtain⟨hi,ex⟩:=lgeS hx;obtain⟨hj,ey⟩:=lgeS hy;rw [List.drop_eq_getElem_cons hi,List.drop_eq_getElem_cons hj,ex,ey];cases y<;>rfl
theorem dP(c:nZ)(A:Option Addr)(n cp:Nat)(B:Option Addr)(m cq:Nat):∀v∈(cF c A n cp B m cq).toList,v.oneCell'=true:=by
 intro v hv;unfold cF at hv;rw [Array.toList_append,List.mem_append]at hv;rcases hv with hv|hv
 ·exact c.gV.2.one v hv
 ·simp only [List.mem_cons,List.not_mem_nil,or_false]at hv
  rcases hv with rfl|rfl|rfl<;>rfl
section
variable{w w':World}{F:Nat->Prop}{c k:Nat}{G:GS}{m:CM}{s:HT}{p:PN}{ov:HT->Option Nat}{K:Value->World->Prop}
theorem BS{kn:HT->Nat}{done rest jM:List HT}{b:HT}(e:done++b::rest=jM)(h:qF k kn done b=false):eT k kn [] jM=false:=by
 rw [<-e,lQ,List.nil_append,eT,h,Bool.false_and,Bool.and_false]
theorem xJ{kn:HT->Nat}{done:List HT}{b:HT}(h:eT k kn [] done=true)(hb:qF k kn done b=true):eT k kn [] (done++ [b])=true:=by
 rw [lQ,h,List.nil_append,eT,hb,Bool.true_and,Bool.true_and];rfl
theorem zq(B:PG0 w F c k G m s p ov)(hD:G.D.length<=5000)(pS:k<=1000)(hs:s∈ids G.D){l:List HT}(hc:cP G.D G.P s l){h:HT}{bb:Nat}{A:Option Addr}{n cx:Nat}{bl:List HT}
 (vA:w.heap[bb]? =some (.cells #[.slice A n cx] az (0,0))) (WJ:bb≠p.fm) (xU:HS w A n bl) (hAf:∀a,A=some a->a.block≠p.fm) (hn:n<=10000) (hF:xM w p.fm (qN ov (lY m.sz l)) []) (wB:(nO G h bl l).Nodup)
 (hK:∀w' (r:Bool),r=eT k (qN ov (lY m.sz l)) [] (nO G h bl l)->(r=true->xM w' p.fm (qN ov (lY m.sz l)) (nO G h bl l))->Kept (· =p.fm) w w'->K (.bool r) w'):
 bk prog ag.id #[.agg h.1,p.xy,.pointer (some ⟨bb,0,none⟩),.pointer (some ⟨p.bc,0,none⟩),.pointer (some ⟨p.bh,0,none⟩)] w K:=by
 have W:=B.C.eo.W;have H:=B.C.eo.gV;have LV:∀y∈l,y∈ids G.D:=fun y hy=>((hc.mem W H).1 hy).mem.1;have hlen:=xU.len;have lfm:=hF.lt;refine ag.of ?_;unfold ag.W;intro w4 w5 w6;have k4:Kept Nil w w4:=(Kept.refl _ _).alloc _;have hh4:w4.heap[w.heap.size]? =some (.cells h.1 aj (0,0)):=aJ w _;have k5:Kept Nil w4 w5:=(Kept.refl _ _).alloc _;obtain⟨ty,hy5⟩:∃ty:TypeId,w5.heap[w4.heap.size]? =some (.cells #[p.xy] ty (0,0)):=⟨_,aJ w4 _⟩;have k6:Kept Nil w5 w6:=(Kept.refl _ _).alloc _;have hr6:w6.heap[w5.heap.size]? =some (.cells #[.bool false] gM (0,0)):=aJ w5 _;clear_value w6;have hy6:=k6.heap hy5 (fun h=>h);have hh6:=k6.heap (k5.heap hh4 (fun h=>h)) (fun h=>h);have mM:=(k4.tt k5).tt k6;have s4:=k4.size;have s5:=k5.size;have s6:=k6.size;have l4:=aQ hh4;have l5:=aQ hy5;have l6:=aQ hr6;clear_value w5 w4;obtain⟨p',Fp,vB,ED,aaV,aaT⟩:∃p':PN,p'= {p with yb:=w4.heap.size,hb:=w.heap.size}/\p'.xy=p.xy/\p'.fm=p.fm/\p'.bc=p.bc/\p'.bh=p.bh:=⟨_,rfl,rfl,rfl,rfl,rfl⟩;have eyb:p'.yb=w4.heap.size:=by rw [Fp]
 have W5:p'.hb=w.heap.size:=by rw [Fp]
 have B6:PG w6 F c k G m s h p' ov:=by
  rw [Fp];exact⟨B.C.same mM,B.V.same mM,mM.heap B.kb (fun h=>h),mM.heap B.fb (fun h=>h),by show w6.cell? ⟨w4.heap.size,0,none⟩=_;rw [ay hy6];rfl,hh6,B.fo,B.ff,B.gR,(by show w4.heap.size≠p.fm;omega),(by show w.heap.size≠p.fm;omega)⟩
 generalize vy:qN ov (lY m.sz l)=kn at*;have hF6:xM w6 p'.fm kn []:=by rw [ED];exact hF.same mM
 generalize jm:nO G h bl l=jM at*;have qi:bJ G.D bl h++xW G h l=jM:=jm;rw [<-ED]at WJ hAf lfm;have hK':∀w' (r:Bool),r=eT k kn [] jM->(r=true->xM w' p'.fm kn jM)->Kept (· =p'.fm) w w'->K (.bool r) w':=by rw [ED];exact hK
 have kA:∀ {v:World},Kept (· =p'.fm) w6 v->Kept (· =p'.fm) w v:=fun k=>(mM.mono fun _ _ h=>h.elim).tt k;have fin:∀ {v:World} (r:Bool),Kept (· =p'.fm) w6 v->∃u:World,u=v.setCell ⟨w5.heap.size,0,none⟩ (.bool r)/\Wr v ⟨w5.heap.size,0,none⟩/\u.heap[w5.heap.size]? =some (.cells #[.bool r] gM (0,0))/\Kept (· =w5.heap.size) v u:=fun {v} r kv=>by
  have hr:=kv.heap hr6 (by omega);refine⟨_,rfl,dL hr (by simp),?_,Kept.setCell (S:=fun k=>k=w5.heap.size) (Kept.refl _ v) (p:=⟨w5.heap.size,0,none⟩) (fun _=>rfl) _⟩;rw [cV hr 0];rfl
 have Yq:∀ {v u:World},Kept (· =p'.fm) w6 v->Kept (· =w5.heap.size) v u->Kept (· =p'.fm) w u:=fun kv ku=>⟨ku.os.trans (kA kv).os,ku.tape.trans (kA kv).tape,ku.output.trans (kA kv).output,Nat.le_trans (kA kv).size ku.size,fun j hj hn=>by rw [ku.block j (Nat.lt_of_lt_of_le hj (kA kv).size) (by omega),(kA kv).block j hj hn]⟩;refine⟨A,n,cx,by rw [ay (mM.heap vA (fun h=>h))];rfl,?_⟩;rw [<-aaV,<-aaT];refine ag.cf (I:=fun s0 v=>∃i:Nat,s0=(i:Int)/\i<=n/\xM v p'.fm kn (bJ G.D (bl.take i) h)/\eT k kn [] (bJ G.D (bl.take i) h)=true/\Kept (· =p'.fm) w6 v) (μ:=fun s0 _=>((n:Int)-s0).toNat) (s:=0) ⟨0,rfl,Nat.zero_le _,hF6,rfl,Kept.refl _ _⟩ ?_;rintro s0 v ⟨i,rfl,hi,hFv,cY,kv⟩;have Bv:=B6.aC kv;refine Split.dec (fun jb=>?_) (fun fV=>?_)
 ·have dQ:i<n:=by omega
  obtain⟨b,hb⟩:=xU.get_mem dQ;have aaR:HS v A n bl:=xU.aC (kA kv) hAf;refine aaR.load (i:=(i:Int)) (by omega) hb ?_;intro lV;obtain⟨qR,iD,iH⟩:=gg (w:=v) (z:=dO.1) (cs:=b.1) (t:=aj) (by rw [b.2.1];rfl);refine⟨⟨b.2.1,b.2.one,fun j hj=>qR j (by rw [b.2.1];exact hj)⟩,?_⟩;intro iZ
  replace iD:iZ.heap[v.heap.size]? =some (.cells b.1 aj (0,0)):=iD
  replace iH:Kept Nil v iZ:=iH
  clear_value iZ;have sv:=(kA kv).size;have PO:=Bv.same iH;have e1:=yD (D:=G.D) (h:=h) hb;have e2:∃rest,bJ G.D (bl.take i) h++(if jS G.D b h then [b]else [])++rest=jM:=by
   refine⟨bJ G.D (bl.drop (i+1)) h++xW G h l,?_⟩;rw [<-e1,<-qi,<-List.append_assoc,<-eh,List.take_append_drop]
  obtain⟨rest,e2⟩:=e2;refine⟨some ⟨c,0,none⟩,by rw [ay PO.V.hc];rfl,b.1,⟨b.2.1,Cells.bC iD⟩,h.1,⟨h.2.1,by have:=PO.hb;rw [W5]at this;exact Cells.bC this⟩,?_⟩;rw [<-eyb];refine rG PO hD pS hs hc (done:=bJ G.D (bl.take i) h) (by rw [vy];exact hFv.same iH) iD (by omega) (fun ha=>by
   rw [if_pos ha]at e2;rw [<-e2]at wB;exact(List.nodup_append.1 wB).1) ?_ ?_
  ·intro u ha hp ku
   rw [vy]at hp;have PY:Kept (· =p'.fm) w6 u:=(kv.trans iH (fun _ _ h=>h.elim)).tt ku;obtain⟨u',eu,hw,Sv,kuu⟩:=fin false PY;refine⟨hw,?_⟩;intro PU;have e30:PU=u':=eu.symm;rw [ij,ag.Mx,e30];rw [if_pos ha,List.append_assoc]at e2;exact⟨false,by rw [ay Sv];rfl,hK' u' false (BS e2 hp).symm (fun e=>by cases e) (Yq PY kuu)⟩
  ·intro u wG ed hp Mk ku
   rw [vy]at hp Mk;have PY:Kept (· =p'.fm) w6 u:=(kv.trans iH (fun _ _ h=>h.elim)).tt ku;rw [dq (n:=(i:Int)) (by omega) (by omega)];refine⟨(i:Int)+1,rfl,⟨i+1,rfl,dQ,?_,?_,PY⟩,by simp only;omega⟩
   ·rw [e1,<-ed];exact Mk
   ·rw [e1]
    by_cases ha:jS G.D b h
    ·rw [if_pos ha];exact xJ cY (hp ha)
    ·rw [if_neg ha,List.append_nil];exact cY
 ·rw [aP,ag.dh]
  rw [List.take_of_length_le (by omega)]at cY hFv;unfold ag.cO;intro re;have AS:Kept Nil v re:=(Kept.refl _ _).drew;clear_value re;have B33:=Bv.same AS;refine⟨some ⟨c,0,none⟩,by rw [ay B33.V.hc];rfl,_,B33.C.c1,s.1,⟨s.2.1,Cells.bC B33.V.hh⟩,?_⟩;refine oE s fun gP pb qb lW Bl Bi z8 hqb=>⟨_,rfl,?_⟩;have Nc:Kept Nil v gP:=AS.tt lW;have Jx:Kept (· =p'.fm) w6 gP:=kv.trans Nc (fun _ _ h=>h.elim);have B35:=Bv.same Nc;have afz:=Jx.size;have abw:xM gP p'.fm kn (bJ G.D bl h):=hFv.same Nc
  let xy:Value:=.func (.func aV.id) #[] #[.pointer (some ⟨pb,0,none⟩),.pointer (some ⟨qb,0,none⟩)]
  let ρ0:Env:= [(3,.pointer (some ⟨p'.bc,0,none⟩)),(5,.pointer (some ⟨w.heap.size,0,none⟩)),(6,.pointer (some ⟨w4.heap.size,0,none⟩)),(7,.pointer (some ⟨w5.heap.size,0,none⟩)),(36,xy)]
  let J:Nat->World->Prop:=fun j u=>∃done:List HT,done++xW G h (l.drop j)=jM/\xM u p'.fm kn done/\eT k kn [] done=true/\Kept (· =p'.fm) gP u/\j<=l.length
  let Jd:Code->World->Prop:=fun e u=>e=.ret/\∃r:Bool,u.heap[w5.heap.size]? =some (.cells #[.bool r] gM (0,0))/\r=eT k kn [] jM/\(r=true->xM u p'.fm kn jM)/\Kept (fun j=>j=p'.fm\/j=w5.heap.size) gP u
  have lpb:=aQ Bl;have lqb:=aQ Bi;have afv:=AS.size;have svw:=(kA kv).size;obtain⟨mx,X35,Qd⟩:=B35.C.X;have XJ:∀ {u:World},Kept (· =p'.fm) gP u->XV u m.FX m.x G.D G.P mx:=fun k=>X35.aC k (fun j hj e=>by subst e;rw [ED]at hj;exact B.fo (.inl (Qd _ hj))) (fun j hj e=>by subst e;rw [ED]at hj;exact B.ff (B.C.fx _ hj))
  change Holds none [] prog _ _ _ ρ0 gP
  have out:∀ {u:World} {R:Loop} (r:Bool),Kept (· =p'.fm) gP u->Live (gP.heap.size+1) gP.heap.size R u->r=eT k kn [] jM->(r=true->xM u p'.fm kn jM)->Wr u ⟨w5.heap.size,0,none⟩/\∀u',u'=u.setCell ⟨w5.heap.size,0,none⟩ (.bool r)->Live (gP.heap.size+1) gP.heap.size R u'/\Jd .ret u':=fun {u R} r ku hl hr hf=>by
   obtain⟨u0,e0,t1,t2,t3⟩:=fin r (Jx.tt ku);refine⟨t1,fun u' eu=>?_⟩;rw [eu,<-e0];refine⟨hl.aC t3 (by omega) (by omega),rfl,r,t2,hr,fun e=>(hf e).aC t3 (by omega),(ku.mono fun _ _ h=>.inl h).trans t3 (fun _ _ h=>.inr h)⟩
  refine lH (n:=90) (ρ:=ρ0) (ρ0:=ρ0) ng mix ag.k (t:=36) (ps:= #[37]) (by kernel_rfl) (by decide) rfl aV.at_ rfl (.inl rfl) (fun i x hi hx=>hx) rfl pJ l (fun _=>rfl) (fun q hq=>by
   have Vp:q=37:=by simpa using hq
   subst Vp;exact⟨by decide,by decide⟩) (wR (F:=m.FX) (x:=m.x) (m:=mx) (pb:=pb) (qb:=qb) hc (by omega)) J Jd ?_ ?_ (fun j u ⟨done,_,_,_,kJ,_⟩=>⟨XJ kJ,kJ.heap Bl (by omega),kJ.heap Bi (by omega)⟩) ?_ ?_ ?_ ?_ ?_
  ·rintro j u1 u2 R nJ ⟨done,h1,h2,h3,h4,h5⟩ mw
   exact⟨done,h1,h2.aC mw (by omega),h3,h4.trans mw (fun k hk e=>by omega),h5⟩
  ·rintro e u1 u2 R nJ ⟨h1,r,h2,h3,h4,h5⟩ mw
   exact⟨h1,r,mw.heap h2 (by omega),h3,fun e=>(h4 e).aC mw (by omega),h5.trans mw (fun k hk e=>by omega)⟩
  ·intro R
   have ka:Kept Nil gP ((gP.alloc (.deferred (some []))).alloc (.loop R)):=(((Kept.refl _ _).alloc _).alloc _);exact⟨bJ G.D bl h,qi,abw.same ka,cY,ka.mono fun _ _ h=>h.elim,Nat.zero_le _⟩
  ·rintro j z u1 R hz ⟨done,h1,h2,h3,h4,h5⟩ nJ
   have e7:jX ρ0 ((#[37]:Array Nat).toList.zip (pJ z))= [(3,.pointer (some ⟨p'.bc,0,none⟩)),(5,.pointer (some ⟨w.heap.size,0,none⟩)),(6,.pointer (some ⟨w4.heap.size,0,none⟩)),(7,.pointer (some ⟨w5.heap.size,0,none⟩)),(36,xy),(37,.agg z.1)]:=rfl;rw [e7,ag.a1];have sV:=(lgeS hz).1;have Ep:=LV z (List.mem_of_getElem? hz);have Vo:l.drop j=z::l.drop (j+1):=by
    obtain⟨hi,e⟩:=lgeS hz;rw [List.drop_eq_getElem_cons hi,e]
   rw [Vo,xW]at h1;unfold ag.A1;intro Fh;obtain⟨qR,iD,iH⟩:=gg (w:=u1) (z:=dO.1) (cs:=z.1) (t:=aj) (by rw [z.2.1];rfl);refine⟨⟨z.2.1,z.2.one,fun j hj=>qR j (by rw [z.2.1];exact hj)⟩,?_⟩;intro Fg
   replace iD:Fg.heap[u1.heap.size]? =some (.cells z.1 aj (0,0)):=iD
   replace iH:Kept Nil u1 Fg:=iH
   clear_value Fg;have xq:=nJ.aC iH (fun h=>h) (fun h=>h);refine⟨xq,fun w2 R2 mE ri=>?_⟩;have kZ:=mE.heap iD (iV iD xq.loop);have afC:=h4.size;have qP:Kept (· =p'.fm) gP w2:=(h4.trans iH (fun _ _ h=>h.elim)).trans mE (fun k hk e=>by omega);have Pk:xM w2 p'.fm kn done:=(h2.same iH).aC mE (by omega);have B2:=B35.aC qP;rw [ag.y1];unfold ag.Y1;have e2:∃rest,done++(if jS G.D z h then [z]else [])++rest=jM:=⟨_,(List.append_assoc _ _ _).trans h1⟩;obtain⟨rest,e2⟩:=e2;refine⟨some ⟨c,0,none⟩,by rw [ay B2.V.hc];rfl,z.1,⟨z.2.1,Cells.bC kZ⟩,h.1,⟨h.2.1,by have:=B2.hb;rw [W5]at this;exact Cells.bC this⟩,?_⟩;rw [<-eyb];refine rG B2 hD pS hs hc (done:=done) (by rw [vy];exact Pk) kZ (by omega) (fun ha=>by
    rw [if_pos ha]at e2;rw [<-e2]at wB;exact(List.nodup_append.1 wB).1) ?_ ?_
   ·intro u ha hp ku
    rw [vy]at hp;rw [if_pos ha,List.append_assoc]at e2;obtain⟨o1,o2⟩:=out (u:=u) false (qP.tt ku) (ri.aC ku (by omega) (by omega)) (BS e2 hp).symm (fun e=>by cases e);refine⟨o1,?_⟩;intro Xv;exact o2 Xv rfl
   ·intro u wG ed hp Mk ku
    rw [vy]at hp Mk;have YA:=qP.tt ku;have hlu:=ri.aC ku (by omega) (by omega);have Mh:eT k kn [] wG=true:=by
     rw [ed];by_cases ha:jS G.D z h
     ·rw [if_pos ha];exact xJ h3 (hp ha)
     ·rw [if_neg ha,List.append_nil];exact h3
    rw [<-List.append_assoc,<-ed]at h1;intro Xt;have k61:Kept Nil u Xt:=(Kept.refl _ _).drew;clear_value Xt;have Np:Kept (· =p'.fm) w2 Xt:=ku.trans k61 (fun _ _ h=>h.elim);have Xj:=B2.aC Np;have YH:=Np.heap kZ (by omega);obtain⟨mx1,X61,_⟩:=Xj.C.X;refine⟨some ⟨c,0,none⟩,by rw [ay Xj.V.hc];rfl,_,Xj.C.c1,z.1,⟨z.2.1,Cells.bC YH⟩,h.1,⟨h.2.1,by have:=Xj.hb;rw [W5]at this;exact Cells.bC this⟩,?_⟩;refine kW X61 hD z h fun Ff r hr Eh=>⟨r,rfl,?_⟩;have Js:Kept Nil u Ff:=k61.tt Eh;have Ty:=hlu.aC Js (fun h=>h) (fun h=>h);have RT:=YA.trans Js (fun _ _ h=>h.elim);have abu:=Mk.same Js;cases r with
    |true=>
     have Bu:=hr.1 rfl;rw [if_pos Bu,List.append_nil]at h1;obtain⟨o1,o2⟩:=out (u:=Ff) true RT Ty (by rw [<-h1,Mh]) (fun _=>by rw [<-h1];exact abu);refine Split.yes rfl ⟨o1,?_⟩;intro ME;exact o2 ME rfl
    |false=>
     have Tl:¬eB G.D z h:=fun e=>by have:=hr.2 e;cases this
     rw [if_neg Tl]at h1;refine Split.no rfl ?_;intro FD;have Ld:Kept Nil Ff FD:=(Kept.refl _ _).drew;clear_value FD;have JE:Kept (· =p'.fm) w2 FD:=Np.trans (Eh.tt Ld) (fun _ _ h=>h.elim);have VR:=B2.aC JE;have Sd:=JE.heap kZ (by omega);obtain⟨A1,n1,c1,B1,m1,d1,s1,sa⟩:=VR.C.seen z Ep;refine⟨some ⟨c,0,none⟩,by rw [ay VR.V.hc];rfl,_,VR.C.c2,z.1,⟨z.2.1,Cells.bC Sd⟩,_,VR.C.lJ Ep,_,⟨aX ..,sa.eK⟩,?_⟩;intro w73;have Yt:Kept Nil FD w73:=(Kept.refl _ _).alloc _;obtain⟨NU,zn,xt⟩:=gg (w:=FD) (z:=zC) (cs:=cF (G.eK z) A1 n1 c1 B1 m1 d1) (t:=bf) (by rw [aX];rfl);have B73:=VR.same Yt;refine⟨⟨_,rfl,aX ..,(sa.aC Yt (fun _ _ h=>h)).eK⟩,B73.C.lJ Ep,⟨z.1,rfl,z.2.1,Cells.bC (Yt.heap Sd (fun h=>h))⟩,B73.C.c2,by rw [ay B73.V.hc];rfl,⟨aX ..,dP _ _ _ _ _ _ _,fun j hj=>NU j (by rw [aX];exact hj)⟩,?_⟩;intro PR
     replace zn:PR.heap[FD.heap.size]? =some (.cells (cF (G.eK z) A1 n1 c1 B1 m1 d1) bf (0,0)):=zn
     replace xt:Kept Nil FD PR:=xt
     clear_value PR w73;have RG:Kept Nil u PR:=Js.tt (Ld.tt xt);have RW:Kept (· =p'.fm) w2 PR:=JE.trans xt (fun _ _ h=>h.elim);have afF:=RW.size;have afG:=JE.size;have s2:=qP.size;have aia:=hlu.aC RG (fun h=>h) (fun h=>h);have XK:=sa.aC xt (fun _ _ h=>h);have ad5:=sa.mg.len;have Uu:=sa.bl.len;have hff:∀j,F j->j≠p'.fm:=fun j hj e=>by rw [ED]at e;subst e;exact B.ff hj
     have hcg:=dJ (G.eK z) A1 n1 c1 B1 m1 d1 #[];rw [Array.append_empty]at hcg;refine⟨A1,n1,c1,by rw [a8,ay zn];exact hcg.2.1,?_⟩;have aeb:(G.eK z).dg.length=(G.eK z).merge.length:=by
      rcases(cP.ex H z)with⟨lz,cz⟩;rcases cz.inv W H Ep with⟨_,nd,h0,rfl⟩|⟨t,r',_,oh,_,_⟩
      ·obtain⟨r1,_⟩:=B.C.eo.root nd h0
       rw [r1];rfl
      ·exact(B.C.eo.up t z oh).2.2.1
     have Hj:(G.eK z).merge.length<=G.D.length:=by
      have eQ:(G.eK z).merge.Nodup/\∀y∈(G.eK z).merge,y∈ids G.D:=by
       rcases(cP.ex H z)with⟨lz,cz⟩;rcases cz.inv W H Ep with⟨_,nd,h0,rfl⟩|⟨t,r',_,oh,_,_⟩
       ·obtain⟨r1,_⟩:=B.C.eo.root nd h0
        rw [r1];exact⟨List.nodup_nil,fun y hy=>by cases hy⟩
       ·obtain⟨_,_,_,g1,g2⟩:=B.C.eo.up t z oh
        exact⟨g1,fun y hy=>(((g2 y).1 hy).1.mem W).1⟩
      have:=cJ eQ.1 eQ.2
      rwa [fN]at this
     refine ag.gz (I:=fun s0 v=>∃i:Nat,s0=(i:Int)/\i<=n1/\∃dn:List HT,dn++(bJ G.D (cR ((G.eK z).merge.drop i) ((G.eK z).dg.drop i)) h++xW G h (l.drop (j+1)))=jM/\xM v p'.fm kn dn/\eT k kn [] dn=true/\Kept (· =p'.fm) PR v) (μ:=fun s0 _=>((n1:Int)-s0).toNat) (s:=0) ⟨0,rfl,Nat.zero_le _,wG,by rw [List.drop_zero,List.drop_zero];exact h1,Mk.same RG,Mh,Kept.refl _ _⟩ ?_;rintro s0 v2 ⟨i2,rfl,Bq,dn,g1,g2,g3,g4⟩;have GA:Kept (· =p'.fm) w2 v2:=RW.tt g4;have Bv2:=B2.aC GA;have XI:=XK.aC g4 (fun j hj e=>hff j hj e);have RS:=qP.tt GA;have Tx:=ri.aC GA (by omega) (by omega);have sv2:=GA.size;refine Split.dec (fun jb=>?_) (fun fV=>?_)
     ·have dQ:i2<n1:=by omega
      obtain⟨b,hb⟩:=XI.mg.get_mem dQ;obtain⟨bb2,UA⟩:∃y,(G.eK z).dg[i2]? =some y:=⟨_,List.getElem?_eq_getElem (by omega)⟩;refine XI.mg.load (i:=(i2:Int)) (by omega) hb ?_;intro lV;obtain⟨YU,EF,vx⟩:=gg (w:=v2) (z:=dO.1) (cs:=b.1) (t:=aj) (by rw [b.2.1];rfl);refine⟨⟨b.2.1,b.2.one,fun j hj=>YU j (by rw [b.2.1];exact hj)⟩,?_⟩;intro iZ
      replace EF:iZ.heap[v2.heap.size]? =some (.cells b.1 aj (0,0)):=EF
      replace vx:Kept Nil v2 iZ:=vx
      clear_value iZ;have PO:=Bv2.same vx;have Ur:=vx.heap (g4.heap zn (by omega)) (fun h=>h);have XO:=XI.aC vx (fun _ _ h=>h);obtain⟨aB,HE,_,Hw⟩:=XO.bl.at_ i2 bb2 UA;subst HE;refine⟨some aB,m1,d1,by rw [a8,ay Ur];exact hcg.2.2.1,⟨by omega,by omega⟩,bb2,by rw [Int.toNat_natCast,Nat.mul_one];exact Hw,?_⟩;rw [BP hb UA]at g1;cases bb2 with
      |false=>
       refine Split.no rfl ?_;rw [dq (n:=(i2:Int)) (by omega) (by omega)];exact⟨(i2:Int)+1,rfl,⟨i2+1,rfl,dQ,dn,g1,g2.same vx,g3,g4.trans vx (fun _ _ h=>h.elim)⟩,by simp only;omega⟩
      |true=>
       rw [if_pos rfl,eh,List.append_assoc]at g1;have abP:bJ G.D [b] h=if jS G.D b h then [b]else []:=by
        unfold bJ;by_cases hp:jS G.D b h
        ·rw [if_pos hp,List.filter_cons_of_pos (by simpa using hp)];rfl
        ·rw [if_neg hp,List.filter_cons_of_neg (by simpa using hp)];rfl
       rw [abP,<-List.append_assoc]at g1;refine Split.yes rfl ⟨some ⟨c,0,none⟩,by rw [ay PO.V.hc];rfl,b.1,⟨b.2.1,Cells.bC EF⟩,h.1,⟨h.2.1,by have:=PO.hb;rw [W5]at this;exact Cells.bC this⟩,?_⟩;refine rG PO hD pS hs hc (done:=dn) (by rw [vy];exact g2.same vx) EF (by omega) (fun ha=>by
        rw [if_pos ha]at g1;rw [<-g1]at wB;exact(List.nodup_append.1 wB).1) ?_ ?_
       ·intro u2 ha hp Fk
        rw [vy]at hp;rw [if_pos ha,List.append_assoc]at g1;have kk:Kept (· =p'.fm) v2 u2:=(vx.mono fun _ _ h=>h.elim).tt Fk;obtain⟨o1,o2⟩:=out (u:=u2) false (RS.tt kk) (Tx.aC kk (by omega) (by omega)) (BS g1 hp).symm (fun e=>by cases e);refine⟨o1,?_⟩;intro Xv;rw [ij];exact o2 Xv rfl
       ·intro u2 dn' ed2 Qi U5 Fk
        rw [vy]at Qi U5;have kk:Kept (· =p'.fm) v2 u2:=(vx.mono fun _ _ h=>h.elim).tt Fk;rw [dq (n:=(i2:Int)) (by omega) (by omega)];refine⟨(i2:Int)+1,rfl,⟨i2+1,rfl,dQ,dn',by rw [ed2];exact g1,U5,?_,g4.tt kk⟩,by simp only;omega⟩;rw [ed2];by_cases ha:jS G.D b h
        ·rw [if_pos ha];exact xJ g3 (Qi ha)
        ·rw [if_neg ha,List.append_nil];exact g3
     ·rw [aP,ag.Xl]
      unfold ag.VF;have en:(G.eK z).merge.drop i2= []:=List.drop_eq_nil_of_le (by omega);rw [en]at g1;exact⟨Tx,dn,by simpa [cR,bJ]using g1,g2,g3,RS,sV⟩
  ·rintro u1 R ⟨done,h1,h2,h3,h4,h5⟩ nJ
   have e7:gF ρ0 gP.heap.size= [(3,.pointer (some ⟨p'.bc,0,none⟩)),(5,.pointer (some ⟨w.heap.size,0,none⟩)),(6,.pointer (some ⟨w4.heap.size,0,none⟩)),(7,.pointer (some ⟨w5.heap.size,0,none⟩)),(36,xy),(4294967296,.agg (oM [gP.heap.size]))]:=rfl;rw [e7,ag.iQ];unfold ag.gu;have ec:done=jM:=by rw [<-h1,List.drop_of_length_le (Nat.le_refl _),xW,List.append_nil]
   obtain⟨o1,o2⟩:=out (u:=u1) true h4 nJ (by rw [<-ec,h3]) (fun _=>by rw [<-ec];exact h2);refine⟨o1,?_⟩;intro pV;obtain⟨Z0,_,r,t1,t2,t3,t4⟩:=o2 pV rfl;clear_value pV;rw [lh];have kt:=iR [gP.heap.size] pV;have hm:∀E∈ [gP.heap.size],pV.heap[E]? =some (.deferred (some [])):=fun E hE=>by
    rw [List.mem_singleton]at hE;subst hE;exact Z0.mark
   refine⟨jZ [gP.heap.size] pV (by simp) hm,r,by rw [ay (kt.heap t1 (fun hE=>by rw [List.mem_singleton]at hE;omega))];rfl,?_⟩;exact hK' _ r t2 (fun e=>(t3 e).aC kt (fun hE=>by rw [List.mem_singleton]at hE;omega)) (((kA Jx).trans t4 (fun j hj e=>by rcases e with e|e;exact e;omega)).trans kt (fun j hj hE=>by rw [List.mem_singleton]at hE;omega))
  ·rintro u1 R ⟨_,r,t1,t2,t3,t4⟩ nJ
   have e7:gF ρ0 gP.heap.size= [(3,.pointer (some ⟨p'.bc,0,none⟩)),(5,.pointer (some ⟨w.heap.size,0,none⟩)),(6,.pointer (some ⟨w4.heap.size,0,none⟩)),(7,.pointer (some ⟨w5.heap.size,0,none⟩)),(36,xy),(4294967296,.agg (oM [gP.heap.size]))]:=rfl;rw [e7,ag.Ah];unfold ag.vc;rw [lh];have kt:=iR [gP.heap.size] u1;have hm:∀E∈ [gP.heap.size],u1.heap[E]? =some (.deferred (some [])):=fun E hE=>by
    rw [List.mem_singleton]at hE;subst hE;exact nJ.mark
   refine⟨jZ [gP.heap.size] u1 (by simp) hm,r,by rw [ay (kt.heap t1 (fun hE=>by rw [List.mem_singleton]at hE;omega))];rfl,?_⟩;exact hK' _ r t2 (fun e=>(t3 e).aC kt (fun hE=>by rw [List.mem_singleton]at hE;omega)) (((kA Jx).trans t4 (fun j hj e=>by rcases e with e|e;exact e;omega)).trans kt (fun j hj hE=>by rw [List.mem_singleton]at hE;omega))
  ·rintro id u1 R ⟨e,_⟩ nJ
   cases e
end
end Go.Proofs.YtnboahlopghcjaaGreatDoor
