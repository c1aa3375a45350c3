import Derived.Test.YtnboahlopghcjaaGreatDoorMI
import Derived.Test.YtnboahlopghcjaaGreatDoorMJ
import Derived.Test.YtnboahlopghcjaaGreatDoorMN
import Derived.Test.YtnboahlopghcjaaGreatDoorMG
set_option linter.unusedVariables false
namespace Go.Proofs.YtnboahlopghcjaaGreatDoor
open Go.Proofs.Tryz
open Go Go.bV
structure oc where
 je:HT
 score:Nat
 merge:List HT
 de:List Bool
structure GS where
 D:DG
 P:List Int
 o5:List oc
 iJ:List (List HT)
def GS.at_(G:GS)(h:HT):Option Nat:=pos h (ids G.D) 0
def GS.ga(G:GS)(h:HT):oc:=((G.at_ h).bind (G.o5[·]?)).getD ⟨dL,0,[],[]⟩
def GS.world(G:GS)(h:HT):List HT:=((G.at_ h).bind (G.iJ[·]?)).getD []
def GS.score(G:GS)(h:HT):Nat:=(G.ga h).score
def gl(G:GS)(a b:HT):Bool:=decide (G.score a<G.score b)||(decide (G.score a=G.score b)&&cI a b)
def zu(G:GS)(a b:HT):Int:=if gl G a b then-1 else if gl G b a then 1 else 0
def b7(G:GS):List HT->HT
 | []=>dL
 |x::l=>l.foldl (fun b y=>if gl G b y then y else b) x
def nf(D:DG)(a b:HT):Prop:=a≠b/\ ¬eZ D a b/\ ¬eZ D b a
noncomputable instance(D:DG)(a b:HT):Decidable (nf D a b):=Classical.propDecidable _
noncomputable instance(D:DG)(a b:HT):Decidable (eZ D a b):=Classical.propDecidable _
noncomputable def bN(D:DG)(l:List HT)(h:HT):List HT:=l.filter fun b=>decide (nf D b h)
def SO(G:GS)(l:List HT):Prop:=l.Pairwise fun a b=>gl G a b=true
noncomputable def rG(D:DG)(s:HT)(l:List HT):List HT:=(df (dQ D l++l)).filter fun h=>decide (h≠s/\ ¬eZ D h s)
def vu(G:GS)(x:HT):List HT->List HT
 | []=> [x]
 |y::l=>if gl G x y then x::y::l else y::vu G x l
noncomputable def cy(G:GS)(s:HT)(l:List HT):List HT:=(rG G.D s l).foldr (vu G) []
noncomputable def nN(k:Nat)(D:DG)(wd:List HT)(h:HT):Bool:=decide ((bN D wd h).length<=k/\ ∀y∈bN D wd h,(bN D wd y).length+1<=k)
structure VS where
 wd:List HT
 bl:List Bool
noncomputable def nD(k:Nat)(D:DG)(s:VS)(h:HT):VS:=⟨if nN k D s.wd h then s.wd++ [h]else s.wd,s.bl++ [nN k D s.wd h]⟩
noncomputable def ft(k:Nat)(G:GS)(s:HT)(l:List HT):VS:=(cy G s l).foldl (nD k G.D) ⟨G.world s++ [s],[]⟩
noncomputable def cO(k:Nat)(G:GS)(s:HT)(l:List HT):oc:=⟨s,G.score s+1+(ft k G s l).bl.count true,cy G s l,(ft k G s l).bl⟩
noncomputable def dz(k:Nat)(G:GS)(h:HT)(ps:List HT):GS:=
 if dp G.D h ps=0 then⟨G.D++ [⟨h,df ps⟩],G.P++ [(((pos (b7 G ps) (ids G.D) 0).getD 0:Nat):Int)],G.o5++ [cO k G (b7 G ps) ps],G.iJ++ [(ft k G (b7 G ps) ps).wd]⟩else G
def dc(r:HT):GS:=⟨[⟨r,[]⟩],[-1],[⟨dL,0,[],[]⟩],[[]]⟩
def cP:List HT->List Bool->List HT
 |h::l,b::m=>if b then h::cP l m else cP l m
 |_,_=> []
theorem mP(G:GS)(a:HT):gl G a a=false:=by simp [gl,gL]
theorem oV{G:GS}{a b c:HT}(h:gl G a b=true)(h':gl G b c=true):gl G a c=true:=by
 simp only [gl,Bool.or_eq_true,Bool.and_eq_true,decide_eq_true_eq]at*;rcases h with h|⟨h,h1⟩
 ·rcases h' with h'|⟨h',h2⟩
  ·exact .inl (by omega)
  ·exact .inl (by omega)
 ·rcases h' with h'|⟨h',h2⟩
  ·exact .inl (by omega)
  ·exact .inr ⟨by omega,jA h1 h2⟩
theorem oW{G:GS}{a b:HT}(h:gl G a b=false)(h':gl G b a=false):a=b:=by
 simp only [gl,Bool.or_eq_false_iff,Bool.and_eq_false_iff,decide_eq_false_iff_not]at*;have e:G.score a=G.score b:=by omega
 obtain⟨_,h2⟩:=h;obtain⟨_,h3⟩:=h';exact pv (by rcases h2 with h2|h2;exact absurd e h2;exact h2) (by rcases h3 with h3|h3;exact absurd e.symm h3;exact h3)
theorem zf{G:GS}{a b:HT}(h:gl G a b=true):gl G b a=false:=by
 cases hb:gl G b a
 ·rfl
 ·have:=oV h hb
  rw [mP]at this;cases this
theorem xt{G:GS}{a b:HT}:zu G a b<0↔gl G a b=true:=by
 unfold zu;split
 ·simp_all
 ·split<;>simp_all
theorem KA(G:GS)(a b:HT):zu G a b=if G.score a<G.score b then-1 else if G.score b<G.score a then 1 else kz a b:=by
 unfold zu kz gl;by_cases h1:G.score a<G.score b
 ·simp [h1]
 ·by_cases h2:G.score b<G.score a
  ·have: ¬G.score a=G.score b:=by omega
   simp [h1,h2,this]
  ·have:G.score a=G.score b:=by omega
   simp [this]
theorem SO.cons{G:GS}{x:HT}{l:List HT}:SO G (x::l)↔(∀y∈l,gl G x y=true)/\SO G l:=List.pairwise_cons
theorem SO.nodup{G:GS}{l:List HT}(h:SO G l):l.Nodup:=List.Pairwise.imp (fun {a b} lL e=>by subst e;rw [mP]at lL;cases lL) h
theorem Ic{G:GS}: ∀ {l m:List HT},SO G l->SO G m->(∀x,x∈l↔x∈m)->l=m
 | [],[],_,_,_=>rfl
 | [],y::m,_,_,h=>by have:=(h y).2 (by simp);simp at this
 |x::l,[],_,_,h=>by have:=(h x).1 (by simp);simp at this
 |x::l,y::m,hl,hm,h=>by
  rw [SO.cons]at hl hm;have nU:x=y:=by
   rcases List.mem_cons.1 ((h x).1 List.mem_cons_self)with e|e
   ·exact e
   ·rcases List.mem_cons.1 ((h y).2 List.mem_cons_self)with e'|e'
    ·exact e'.symm
    ·have h1:=hm.1 _ e
     have h2:=hl.1 _ e';rw [zf h1]at h2;cases h2
  subst nU;have:l=m:=Ic hl.2 hm.2 fun z=>by
   have hz:=h z;simp only [List.mem_cons]at hz;constructor
   ·intro mr
    rcases hz.1 (.inr mr)with e|e
    ·subst e;have:=hl.1 _ mr;rw [mP]at this;cases this
    ·exact e
   ·intro mr
    rcases hz.2 (.inr mr)with e|e
    ·subst e;have:=hm.1 _ mr;rw [mP]at this;cases this
    ·exact e
  rw [this]
theorem ug{G:GS}{x z:HT}: ∀ {l:List HT},z∈vu G x l↔z=x\/z∈l
 | []=>by simp [vu]
 |y::l=>by
  unfold vu;split
  ·simp
  ·simp only [List.mem_cons,ug (l:=l)]
   constructor
   ·rintro(h|h|h)<;>simp [h]
   ·rintro(h|h|h)<;>simp [h]
theorem Df{G:GS}{x:HT}: ∀ {l:List HT},SO G l->x∉l->SO G (vu G x l)
 | [],_,_=>by simp [vu,SO]
 |y::l,h,hx=>by
  have h':=SO.cons.1 h;simp only [List.mem_cons,not_or]at hx;unfold vu;split
  ·rename_i nU
   refine SO.cons.2 ⟨fun z hz=>?_,h⟩;rcases List.mem_cons.1 hz with rfl|hz
   ·exact nU
   ·exact oV nU (h'.1 _ hz)
  ·rename_i nU
   refine SO.cons.2 ⟨fun z hz=>?_,Df h'.2 hx.2⟩;rcases ug.1 hz with rfl|hz
   ·cases PW:gl G y z
    ·exact absurd (oW PW (by simpa using nU)).symm hx.1
    ·rfl
   ·exact h'.1 _ hz
theorem pq{G:GS}{z:HT}: ∀ {l:List HT},z∈l.foldr (vu G) []↔z∈l
 | []=>by simp
 |x::l=>by rw [List.foldr_cons,ug,pq,List.mem_cons]
theorem zG{G:GS}: ∀ {l:List HT},l.Nodup->SO G (l.foldr (vu G) [])
 | [],_=>List.Pairwise.nil
 |x::l,h=>by
  rw [List.nodup_cons]at h;exact Df (zG h.2) fun e=>h.1 (pq.1 e)
theorem pZ(D:DG)(s:HT)(l:List HT):(rG D s l).Nodup:=(iD _).nodup.filter _
theorem uf{D:DG}{s:HT}{l:List HT}{h:HT}:h∈rG D s l↔((h∈ids D/\ ∃p∈l,eZ D h p)\/h∈l)/\h≠s/\ ¬eZ D h s:=by
 unfold rG dQ;rw [List.mem_filter,dm,List.mem_append,ji,decide_eq_true_eq]
theorem ju{G:GS}{s:HT}{l:List HT}{h:HT}:h∈cy G s l↔((h∈ids G.D/\ ∃p∈l,eZ G.D h p)\/h∈l)/\h≠s/\ ¬eZ G.D h s:=by
 unfold cy;rw [pq,uf]
theorem lj(G:GS)(s:HT)(l:List HT):SO G (cy G s l):=zG (pZ _ _ _)
theorem rH{G:GS}{s:HT}{l m:List HT}(hs:SO G m)(h: ∀x,x∈m↔x∈rG G.D s l):m=cy G s l:=
 Ic hs (lj G s l) fun x=>by unfold cy;rw [h,pq]
theorem kh{G:GS}: ∀ {l:List HT},l≠ []->b7 G l∈l
 |x::l,_=>by
  have key: ∀(l:List HT) (b:HT),l.foldl (fun b y=>if gl G b y then y else b) b=b\/l.foldl (fun b y=>if gl G b y then y else b) b∈l:=by
   intro l
   induction l with
   |nil=>intro b;exact .inl rfl
   |cons y l ih=>
    intro b;simp only [List.foldl_cons];rcases ih (if gl G b y then y else b)with e|e
    ·rw [e]
     split
     ·exact .inr List.mem_cons_self
     ·exact .inl rfl
    ·exact .inr (List.mem_cons_of_mem _ e)
  rcases key l x with e|e
  ·rw [b7,e];exact List.mem_cons_self
  ·exact List.mem_cons_of_mem _ e
theorem fu(D:DG)(l m:List HT)(h:HT):bN D (l++m) h=bN D l h++bN D m h:=List.filter_append ..
theorem fh{D:DG}{l:List HT}{h b:HT}:b∈bN D l h↔b∈l/\nf D b h:=by unfold bN;rw [List.mem_filter,decide_eq_true_eq]
theorem nf.symm{D:DG}{a b:HT}(h:nf D a b):nf D b a:=⟨h.1.symm,h.2.2,h.2.1⟩
end Go.Proofs.YtnboahlopghcjaaGreatDoor
namespace Go.Proofs.YtnboahlopghcjaaGreatDoor
open Go.Proofs.Tryz
open Go Go.bV
theorem lO{x:HT}: ∀ {m:List HT} {b:List Bool},x∈cP m b->x∈m
 |h::l,b::m,hx=>by
  unfold cP at hx;split at hx
  ·rcases List.mem_cons.1 hx with e|e
   ·rw [e];exact List.mem_cons_self
   ·exact List.mem_cons_of_mem _ (lO e)
  ·exact List.mem_cons_of_mem _ (lO hx)
 | [],_,hx=>by simp [cP]at hx
 |_::_,[],hx=>by simp [cP]at hx
theorem nz: ∀ {m:List HT} {b:List Bool},m.Nodup->(cP m b).Nodup
 |h::l,b::m,hn=>by
  rw [List.nodup_cons]at hn;unfold cP;split
  ·exact List.nodup_cons.2 ⟨fun e=>hn.1 (lO e),nz hn.2⟩
  ·exact nz hn.2
 | [],_,_=>by simp [cP]
 |_::_,[],_=>by simp [cP]
theorem uX: ∀ {m:List HT} {b:List Bool},b.length=m.length->(cP m b).length=b.count true
 |h::l,b::m,hn=>by
  have:=uX (m:=l) (b:=m) (by simpa using hn);unfold cP;cases b<;>simp [this]
 | [],[],_=>rfl
 | [],_::_,h=>by simp at h
 |_::_,[],h=>by simp at h
theorem o6{x:HT}{c:Bool}: ∀ {m:List HT} {b:List Bool},b.length=m.length->cP (m++ [x]) (b++ [c])=cP m b++if c then [x]else []
 |h::l,b::m,hn=>by
  have:=o6 (x:=x) (c:=c) (m:=l) (b:=m) (by simpa using hn);simp only [List.cons_append,cP,this];cases b<;>simp
 | [],[],_=>by cases c<;>simp [cP]
 | [],_::_,h=>by simp at h
 |_::_,[],h=>by simp at h
theorem Fw(k:Nat)(D:DG)(wd:List HT): ∀(m:List HT),∃b:List Bool,b.length=m.length/\m.foldl (nD k D) ⟨wd,[]⟩=⟨wd++cP m b,b⟩:=by
 intro m
 induction h:m.length generalizing m with
 |zero=>exact⟨[],by simp [h],by rw [List.length_eq_zero_iff.1 h];simp [cP]⟩
 |succ n ih=>
  have fG:m≠ []:=fun e=>by rw [e]at h;simp at h
  obtain⟨m',x,rfl⟩: ∃m' x,m=m'++ [x]:=⟨m.dropLast,m.getLast fG,(List.dropLast_concat_getLast fG).symm⟩;obtain⟨b,h1,h2⟩:=ih m' (by simpa using h);have h1:b.length=m'.length:=by rw [List.length_append,List.length_cons,List.length_nil]at h;omega
  refine⟨b++ [nN k D (wd++cP m' b) x],by simp only [List.length_append,List.length_cons,List.length_nil]at h⊢;omega,?_⟩;rw [List.foldl_append,h2,List.foldl_cons,List.foldl_nil,o6 h1];unfold nD;cases nN k D (wd++cP m' b) x<;>simp
theorem tC(k:Nat)(G:GS)(s:HT)(l:List HT):(ft k G s l).bl.length=(cy G s l).length/\(ft k G s l).wd=G.world s++ [s]++cP (cy G s l) (ft k G s l).bl:=by
 obtain⟨b,h1,h2⟩:=Fw k G.D (G.world s++ [s]) (cy G s l);unfold ft;rw [h2];exact⟨h1,rfl⟩
structure iS(k:Nat)(G:GS):Prop where
 W:jw G.D
 je:qZ G.D G.P
 lc:G.o5.length=G.D.length
 lw:G.iJ.length=G.D.length
 root: ∀nd,G.D[0]? =some nd->G.ga nd.id=⟨dL,0,[],[]⟩/\G.world nd.id= []
 up: ∀s h,kM G.D G.P s h->(G.ga h).je=s/\G.world h=G.world s++ [s]++cP (G.ga h).merge (G.ga h).de/\(G.ga h).de.length=(G.ga h).merge.length/\(G.ga h).merge.Nodup/\ ∀y,y∈(G.ga h).merge↔eZ G.D y h/\y≠s/\ ¬eZ G.D y s
 wd: ∀h∈ids G.D,(G.world h).Nodup/\(∀b∈G.world h,eZ G.D b h)/\G.score h=(G.world h).length
theorem GS.rX{G:GS}(W:jw G.D){i:Nat}{nd:DN}(h:G.D[i]? =some nd):G.at_ nd.id=some i:=W.pos_eq h
theorem GS.HN{G:GS}(W:jw G.D){i:Nat}{nd:DN}{c:oc}(h:G.D[i]? =some nd)(hc:G.o5[i]? =some c):G.ga nd.id=c:=by
 unfold GS.ga;rw [GS.rX W h];simp [hc]
theorem GS.xV{G:GS}(W:jw G.D){i:Nat}{nd:DN}{c:List HT}(h:G.D[i]? =some nd)(hc:G.iJ[i]? =some c):G.world nd.id=c:=by
 unfold GS.world;rw [GS.rX W h];simp [hc]
section
variable{k:Nat}{G:GS}{h:HT}{ps:List HT}
theorem tz(hc:dp G.D h ps≠0):dz k G h ps=G:=by unfold dz;rw [if_neg hc]
theorem r9:(dz k G h ps).D=lZ G.D h ps:=by
 unfold dz lZ;split<;>rfl
theorem H7:(dz k G h ps).D=mU G.D h (b7 G ps) ps:=by
 rw [r9];unfold mU;by_cases hc:dp G.D h ps=0
 ·have fG:=(kc hc).2.1
  have:gw G.D h (b7 G ps) ps=0:=by unfold gw;rw [if_pos hc,if_pos (kh fG)]
  rw [if_pos this,pa hc]
 ·have:gw G.D h (b7 G ps) ps≠0:=by unfold gw;rw [if_neg hc];exact hc
  rw [if_neg this];unfold lZ;rw [if_neg hc]
theorem EV:gw G.D h (b7 G ps) ps=dp G.D h ps:=by
 unfold gw;split
 ·rename_i hc
  rw [if_pos (kh (kc hc).2.1),hc]
 ·rfl
theorem H8:(dz k G h ps).P=mT G.D G.P h (b7 G ps) ps:=by
 unfold mT dz;rw [EV];by_cases hc:dp G.D h ps=0
 ·rw [if_pos hc,if_pos hc]
 ·rw [if_neg hc,if_neg hc]
theorem kH(hc:dp G.D h ps=0):dz k G h ps=⟨G.D++ [⟨h,df ps⟩],G.P++ [(((pos (b7 G ps) (ids G.D) 0).getD 0:Nat):Int)],G.o5++ [cO k G (b7 G ps) ps],G.iJ++ [(ft k G (b7 G ps) ps).wd]⟩:=by
 unfold dz;rw [if_pos hc]
theorem Cc(H:iS k G){s:HT}(hs:s∈ids G.D)(l:List HT)(hl: ∀p∈l,p∈ids G.D):
 (ft k G s l).wd.Nodup/\(ft k G s l).wd.length=(cO k G s l).score/\ ∀y∈(ft k G s l).wd,y∈ids G.D/\(y=s\/eZ G.D y s\/y∈cy G s l):=by
 obtain⟨h1,h2⟩:=tC k G s l;obtain⟨w1,w2,w3⟩:=H.wd s hs;have hm: ∀y∈cP (cy G s l) (ft k G s l).bl,y∈ids G.D/\y≠s/\ ¬eZ G.D y s:=fun y hy=>by
  obtain⟨e,h3,h4⟩:=ju.1 (lO hy);refine⟨?_,h3,h4⟩;rcases e with e|e
  ·exact e.1
  ·exact hl _ e
 rw [h2];refine⟨?_,?_,?_⟩
 ·refine List.nodup_append.2 ⟨List.nodup_append.2 ⟨w1,by simp,?_⟩,nz (lj G s l).nodup,?_⟩
  ·intro a ha b hb e
   have hb:b=s:=by simpa using hb
   subst hb;subst e;exact eZ.irrefl H.W _ (w2 _ ha)
  ·intro a ha b hb e
   subst e;obtain⟨_,h3,h4⟩:=hm _ hb;rcases List.mem_append.1 ha with e|e
   ·exact h4 (w2 _ e)
   ·exact h3 (by simpa using e)
 ·unfold cO
  simp only [List.length_append,List.length_cons,List.length_nil,uX h1,w3]
 ·intro y hy
  rcases List.mem_append.1 hy with hy|hy
  ·rcases List.mem_append.1 hy with hy|hy
   ·exact⟨((w2 _ hy).mem H.W).1,.inr (.inl (w2 _ hy))⟩
   ·have:y=s:=by simpa using hy
    subst this;exact⟨hs,.inl rfl⟩
  ·exact⟨(hm _ hy).1,.inr (.inr (lO hy))⟩
theorem mV(H:iS k G){y:HT}(hy:y∈ids G.D):(dz k G h ps).ga y=G.ga y/\(dz k G h ps).world y=G.world y:=by
 by_cases hc:dp G.D h ps=0
 ·obtain⟨hn,fG,fw,qg⟩:=kc hc
  obtain⟨nd,sU,rfl⟩:=dB.1 hy;obtain⟨i,hi⟩:=List.getElem?_of_mem sU;have dP:=(List.getElem?_eq_some_iff.1 hi).1;have Et:(G.D++ [(⟨h,df ps⟩:DN)])[i]? =some nd:=by rw [List.getElem?_append_left dP];exact hi
  have W':jw (dz k G h ps).D:=by rw [r9];exact H.W.add h ps
  rw [kH hc]at W'⊢;have e1:(⟨G.D++ [⟨h,df ps⟩],G.P++ [(((pos (b7 G ps) (ids G.D) 0).getD 0:Nat):Int)],G.o5++ [cO k G (b7 G ps) ps],G.iJ++ [(ft k G (b7 G ps) ps).wd]⟩:GS).at_ nd.id=some i:=GS.rX W' Et;have e2:=GS.rX H.W hi;unfold GS.ga GS.world;rw [e1,e2];simp only [Option.bind_some];rw [List.getElem?_append_left (by rw [H.lc];exact dP),List.getElem?_append_left (by rw [H.lw];exact dP)];exact⟨rfl,rfl⟩
 ·rw [tz hc];exact⟨rfl,rfl⟩
theorem mW(H:iS k G)(hc:dp G.D h ps=0):(dz k G h ps).ga h=cO k G (b7 G ps) ps/\(dz k G h ps).world h=(ft k G (b7 G ps) ps).wd:=by
 have W':jw (dz k G h ps).D:=by rw [r9];exact H.W.add h ps
 rw [kH hc]at W'⊢;have Et:(G.D++ [(⟨h,df ps⟩:DN)])[G.D.length]? =some ⟨h,df ps⟩:=by rw [List.getElem?_append_right (Nat.le_refl _),Nat.sub_self];rfl
 have e1:(⟨G.D++ [⟨h,df ps⟩],G.P++ [(((pos (b7 G ps) (ids G.D) 0).getD 0:Nat):Int)],G.o5++ [cO k G (b7 G ps) ps],G.iJ++ [(ft k G (b7 G ps) ps).wd]⟩:GS).at_ h=some G.D.length:=GS.rX W' Et;unfold GS.ga GS.world;rw [e1];simp only [Option.bind_some];rw [List.getElem?_append_right (by rw [H.lc];exact Nat.le_refl _),H.lc,Nat.sub_self,List.getElem?_append_right (by rw [H.lw];exact Nat.le_refl _),H.lw,Nat.sub_self];exact⟨rfl,rfl⟩
end
end Go.Proofs.YtnboahlopghcjaaGreatDoor
namespace Go.Proofs.YtnboahlopghcjaaGreatDoor
open Go.Proofs.Tryz
open Go Go.bV
section
variable{k:Nat}{G:GS}{h:HT}{ps:List HT}
theorem lE(k:Nat)(r:HT):iS k (dc r):=by
 have e0:(dc r).at_ r=some 0:=GS.rX (G:=dc r) (jw.root r) (nd:=⟨r,[]⟩) rfl;have ec:(dc r).ga r=⟨dL,0,[],[]⟩:=by unfold GS.ga;rw [e0];rfl
 have ew:(dc r).world r= []:=by unfold GS.world;rw [e0];rfl
 refine⟨jw.root r,qZ.one r,rfl,rfl,?_,?_,?_⟩
 ·intro nd fw
  have:nd=⟨r,[]⟩:=by simpa [dc]using fw.symm
  subst this;exact⟨ec,ew⟩
 ·rintro s h ⟨i,j,ni,m,h1,_,h3,_,_⟩
  exfalso;cases i with
  |zero=>simp [dc]at h3
  |succ i=>simp [dc]at h1
 ·intro h hm
  have:h=r:=by simpa [dc,ids]using hm
  subst this;refine⟨by rw [ew];simp,by rw [ew];simp,?_⟩;unfold GS.score;rw [ec,ew];rfl
theorem FJ(H:iS k G)(hc:dp G.D h ps=0): ∃(j:Nat) (m:DN),G.D[j]? =some m/\m.id=b7 G ps/\(pos (b7 G ps) (ids G.D) 0).getD 0=j/\b7 G ps∈ps/\b7 G ps∈ids G.D:=by
 obtain⟨hn,fG,fw,qg⟩:=kc hc;have h1:=kh (G:=G) fG;have h2:=qg _ (dm.2 h1);obtain⟨m,hm,e⟩:=dB.1 h2;obtain⟨j,hj⟩:=List.getElem?_of_mem hm;have h3:=H.W.pos_eq hj;rw [e]at h3;exact⟨j,m,hj,e,by rw [h3];rfl,h1,h2⟩
theorem zE(H:iS k G)(hc:dp G.D h ps=0):(∀y,eZ (G.D++ [⟨h,df ps⟩]) y h↔ ∃p∈ps,y=p\/eZ G.D y p)/\ ∀a b,b∈ids G.D->(eZ (G.D++ [⟨h,df ps⟩]) a b↔eZ G.D a b):=by
 obtain⟨hn,fG,fw,qg⟩:=kc hc;have W':jw (G.D++ [⟨h,df ps⟩]):=by have:=H.W.add h ps;rwa [pa hc]at this
 have Et:(G.D++ [(⟨h,df ps⟩:DN)])[G.D.length]? =some ⟨h,df ps⟩:=by rw [List.getElem?_append_right (Nat.le_refl _),Nat.sub_self];rfl
 have DU: ∀a b,b∈ids G.D->(eZ (G.D++ [⟨h,df ps⟩]) a b↔eZ G.D a b):=fun a b hb=>iP H.W hn hb;refine⟨fun y=>?_,DU⟩;rw [tw W' Et y];constructor
 ·rintro⟨p,hp,e⟩
  exact⟨p,dm.1 hp,e.imp_right fun e=>(DU _ _ (qg _ hp)).1 e⟩
 ·rintro⟨p,hp,e⟩
  exact⟨p,dm.2 hp,e.imp_right fun e=>(DU _ _ (qg _ (dm.2 hp))).2 e⟩
theorem iS.add(H:iS k G)(h:HT)(ps:List HT):iS k (dz k G h ps):=by
 by_cases hc:dp G.D h ps=0
 ·obtain⟨hn,fG,fw,qg⟩:=kc hc
  obtain⟨j,m,hj,hm,ja,yX,Lr⟩:=FJ H hc;obtain⟨Db,DU⟩:=zE H hc;have hk:=fun y (hy:y∈ids G.D)=>mV (h:=h) (ps:=ps) H hy;obtain⟨nc,nw⟩:=mW H hc;obtain⟨v1,v2⟩:=tC k G (b7 G ps) ps;obtain⟨u1,u2,u3⟩:=Cc H Lr ps (fun p hp=>qg _ (dm.2 hp));have W':jw (G.D++ [⟨h,df ps⟩]):=by have:=H.W.add h ps;rwa [pa hc]at this
  have ml:qZ (G.D++ [(⟨h,df ps⟩:DN)]) (G.P++ [(j:Int)]):=H.je.snoc hj (by rw [hm];exact dm.2 yX) H.W.pos;generalize hs:b7 G ps=s at*;have eG:=kH (k:=k) hc;rw [hs,ja]at eG;have eD:(dz k G h ps).D=G.D++ [⟨h,df ps⟩]:=by rw [eG]
  have eP:(dz k G h ps).P=G.P++ [(j:Int)]:=by rw [eG]
  refine⟨by rw [eD];exact W',by rw [eD,eP];exact ml,by rw [eG];simp [H.lc],by rw [eG];simp [H.lw],?_,?_,?_⟩
  ·intro nd sU
   rw [eD,List.getElem?_append_left H.W.pos]at sU;obtain⟨e1,e2⟩:=hk nd.id (dB.2 ⟨nd,List.mem_of_getElem? sU,rfl⟩);rw [e1,e2];exact H.root nd sU
  ·intro t y hy
   rw [eD,eP,nt H.W H.je hn hj]at hy;rcases hy with hy|⟨rfl,rfl⟩
   ·have hp:=hy.par H.je
    have Wj:y∈ids G.D:=((eZ.one hp).mem H.W).2;have Sl:t∈ids G.D:=((eZ.one hp).mem H.W).1;obtain⟨e1,e2⟩:=hk y Wj;obtain⟨_,e3⟩:=hk t Sl;obtain⟨g1,g2,g3,g4,g5⟩:=H.up t y hy;rw [e1,e2,e3,eD];refine⟨g1,g2,g3,g4,fun z=>?_⟩;rw [g5,DU _ _ Wj,DU _ _ Sl]
   ·show _/\_
    rw [nc,nw,hm,(hk s Lr).2,eD];refine⟨rfl,v2,v1,(lj _ _ _).nodup,fun z=>?_⟩;show z∈cy G s ps↔_
    rw [ju,Db,DU _ _ Lr];constructor
    ·rintro⟨e,h3,h4⟩
     refine⟨?_,h3,h4⟩;rcases e with⟨_,p,hp,e⟩|e
     ·exact⟨p,hp,.inr e⟩
     ·exact⟨z,e,.inl rfl⟩
    ·rintro⟨⟨p,hp,e⟩,h3,h4⟩
     refine⟨?_,h3,h4⟩;rcases e with rfl|e
     ·exact .inr hp
     ·exact .inl ⟨(e.mem H.W).1,p,hp,e⟩
  ·intro y hy
   rw [eD,km]at hy;rcases List.mem_append.1 hy with hy|hy
   ·obtain⟨e1,e2⟩:=hk y hy
    obtain⟨g1,g2,g3⟩:=H.wd y hy;unfold GS.score;rw [e1,e2,eD];exact⟨g1,fun b hb=>(DU _ _ hy).2 (g2 b hb),g3⟩
   ·have:y=h:=by simpa using hy
    subst this;unfold GS.score;rw [nc,nw,eD];refine⟨u1,fun b hb=>?_,u2.symm⟩;obtain⟨_,e⟩:=u3 b hb;rw [Db];rcases e with rfl|e|e
    ·exact⟨b,yX,.inl rfl⟩
    ·exact⟨s,yX,.inr e⟩
    ·obtain⟨e,_,_⟩:=ju.1 e
     rcases e with⟨_,p,hp,e⟩|e
     ·exact⟨p,hp,.inr e⟩
     ·exact⟨b,e,.inl rfl⟩
 ·rw [tz hc];exact H
end
end Go.Proofs.YtnboahlopghcjaaGreatDoor
namespace Go.Proofs.YtnboahlopghcjaaGreatDoor
open Go.Proofs.Tryz
open Go Go.bV
def lY(sz:HT->HT->Option Nat)(l:List HT)(b:HT):Nat:=(l.findSome? fun h=>sz h b).getD 0
def qL(ov:HT->Option Nat)(base:HT->Nat)(b:HT):Nat:=(ov b).getD (base b)
structure OV(D:DG)(wd:List HT)(ov:HT->Option Nat)(base:HT->Nat):Prop where
 kn: ∀b∈wd,qL ov base b=(bN D wd b).length
 Qk: ∀b n,ov b=some n->b∈wd
noncomputable def yv(D:DG)(wd:List HT)(ov:HT->Option Nat)(base:HT->Nat)(h:HT):HT->Option Nat:=
 fun b=>if b∈bN D wd h then some (qL ov base b+1)else if b=h then some (bN D wd h).length else ov b
theorem OV.step{D:DG}{wd:List HT}{ov:HT->Option Nat}{base:HT->Nat}(H:OV D wd ov base){h:HT}(hn:h∉wd):OV D (wd++ [h]) (yv D wd ov base h) base:=by
 refine⟨fun b hb=>?_,fun b n e=>?_⟩
 ·rw [fu,List.length_append]
  unfold qL yv;by_cases hp:b∈bN D wd h
  ·rw [if_pos hp]
   obtain⟨h1,h2⟩:=fh.1 hp;rw [Option.getD_some,H.kn b h1];have:bN D [h] b= [h]:=by unfold bN;rw [List.filter_cons_of_pos (by simpa using h2.symm)];rfl
   rw [this];rfl
  ·rw [if_neg hp]
   by_cases e:b=h
   ·subst e
    rw [if_pos rfl,Option.getD_some];have:bN D [b] b= []:=by unfold bN;rw [List.filter_cons_of_neg (by simpa using fun e:nf D b b=>e.1 rfl)];rfl
    rw [this];rfl
   ·rw [if_neg e]
    have hw:b∈wd:=by
     rcases List.mem_append.1 hb with hb|hb
     ·exact hb
     ·exact absurd (by simpa using hb) e
    have:bN D [h] b= []:=by unfold bN;rw [List.filter_cons_of_neg (by simpa using fun e':nf D h b=>hp (fh.2 ⟨hw,e'.symm⟩))];rfl
    rw [this];exact H.kn b hw
 ·unfold yv at e
  split at e
  ·rename_i hp
   exact List.mem_append_left _ (fh.1 hp).1
  ·split at e
   ·rename_i hb;subst hb;exact List.mem_append_right _ (by simp)
   ·exact List.mem_append_left _ (H.Qk b n e)
structure SZ(G:GS)(sz:HT->HT->Option Nat):Prop where
 kn: ∀h l,h∈ids G.D->cM G.D G.P h l-> ∀b∈G.world h++ [h],lY sz l b=(bN G.D (G.world h++ [h]) b).length
 Qk: ∀h b n,sz h b=some n->b∈ids G.D
theorem SZ.ov{G:GS}{sz:HT->HT->Option Nat}(Z:SZ G sz){s:HT}(hs:s∈ids G.D){l:List HT}(hl:cM G.D G.P s l):OV G.D (G.world s++ [s]) (fun _=>none) (lY sz l):=
 ⟨fun b hb=>Z.kn s l hs hl b hb,fun b n e=>by cases e⟩
theorem Up.snoc{P:List Int}{p:Int}: ∀ {i:Nat} {l:List Nat},Up P i l->Up (P++ [p]) i l:=by
 intro i l h
 induction h with
 |root=>exact .root
 |step h _ ih=>exact .step (by rw [List.getElem?_append_left (List.getElem?_eq_some_iff.1 h).1];exact h) ih
theorem wm{D:DG}{nd:DN}{i:Nat}(h:i<D.length):lJ (D++ [nd]) i=lJ D i:=by unfold lJ;rw [List.getElem?_append_left h]
theorem cM.snoc{D:DG}{P:List Int}(H:qZ D P){nd:DN}{p:Int}{h:HT}{l:List HT}(hm:h∈ids D)(c:cM D P h l):cM (D++ [nd]) (P++ [p]) h l:=by
 rcases c with⟨hn,_⟩|⟨i,m,ks,h1,h2,h3,h4⟩
 ·exact absurd hm hn
 ·have dP:=(List.getElem?_eq_some_iff.1 h1).1
  refine .inr ⟨i,m,ks,by rw [List.getElem?_append_left dP];exact h1,h2,h3.snoc,?_⟩;rw [h4];refine List.map_congr_left fun k hk=>(wm ?_).symm;have:=h3.lt H.par (by rw [H.len];exact dP) k hk
  rwa [H.len]at this
theorem cM.new{D:DG}{P:List Int}(W:jw D)(H:qZ D P){nd m:DN}{j:Nat}(hj:D[j]? =some m){l:List HT}(c:cM D P m.id l):cM (D++ [nd]) (P++ [(j:Int)]) nd.id (nd.id::l):=by
 have hm:m.id∈ids D:=dB.2 ⟨m,List.mem_of_getElem? hj,rfl⟩;have c':=cM.snoc (nd:=nd) (p:=(j:Int)) H hm c;rcases c with⟨hn,_⟩|⟨i,m',ks,h1,h2,h3,h4⟩
 ·exact absurd hm hn
 ·have qR:=W.inj h1 hj h2
  subst qR;have e0:(D++ [nd])[D.length]? =some nd:=by rw [List.getElem?_append_right (Nat.le_refl _),Nat.sub_self];rfl
  refine .inr ⟨D.length,nd,D.length::ks,e0,rfl,.step (by rw [<-H.len,List.getElem?_append_right (Nat.le_refl _),Nat.sub_self];rfl) h3.snoc,?_⟩;rw [List.map_cons,lI e0,h4]
  congr 1
  refine List.map_congr_left fun k hk=>(wm ?_).symm;have:=h3.lt H.par (by rw [H.len];exact(List.getElem?_eq_some_iff.1 h1).1) k hk
  rwa [H.len]at this
theorem qD{D D':DG}{l:List HT}{b:HT}(h: ∀a∈l,nf D' a b↔nf D a b):bN D' l b=bN D l b:=by
 unfold bN;exact List.filter_congr fun a ha=>by simp only [h a ha]
theorem SZ.root(r:HT):SZ (dc r) (fun _ _=>none):=by
 refine⟨fun h l hm _ b hb=>?_,fun h b n e=>by cases e⟩;have hh:h=r:=by simpa [dc,ids]using hm
 subst hh;have ew:(dc h).world h= []:=((lE 0 h).root ⟨h,[]⟩ rfl).2;rw [ew]at hb⊢;have:b=h:=by simpa using hb
 subst this;have:bN (dc b).D ([]++ [b]) b= []:=by unfold bN;rw [List.nil_append,List.filter_cons_of_neg (by simpa using fun e:nf (dc b).D b b=>e.1 rfl)];rfl
 rw [this];unfold lY;have:(l.findSome? fun _=>(none:Option Nat))=none:=by simp
 rw [this];rfl
theorem SZ.add{k:Nat}{G:GS}{sz:HT->HT->Option Nat}(Z:SZ G sz)(H:iS k G){h:HT}{ps:List HT}(hc:dp G.D h ps=0){l:List HT}(hl:cM G.D G.P (b7 G ps) l){ov:HT->Option Nat}
 (O:OV G.D (ft k G (b7 G ps) ps).wd ov (lY sz l)):SZ (dz k G h ps) (fun y=>if y=h then ov else sz y):=by
 obtain⟨hn,fG,fw,qg⟩:=kc hc;obtain⟨j,m,hj,hm,ja,yX,Lr⟩:=FJ H hc;obtain⟨Db,DU⟩:=zE H hc;have H':=H.add h ps;obtain⟨nc,nw⟩:=mW H hc;obtain⟨u1,u2,u3⟩:=Cc H Lr ps (fun p hp=>qg _ (dm.2 hp));have eD:(dz k G h ps).D=G.D++ [⟨h,df ps⟩]:=by rw [kH hc]
 have eP:(dz k G h ps).P=G.P++ [(j:Int)]:=by rw [kH hc,ja]
 have apt: ∀a b,a∈ids G.D->b∈ids G.D->(nf (G.D++ [⟨h,df ps⟩]) a b↔nf G.D a b):=fun a b ha hb=>by unfold nf;rw [DU _ _ hb,DU _ _ ha]
 have lno: ∀(y:HT) (l':List HT),y∈ids G.D->cM G.D G.P y l'-> ∀b,lY (fun y=>if y=h then ov else sz y) l' b=lY sz l' b:=fun y l' hy c b=>by
  unfold lY;have Ww:h∉l':=fun e=>hn ((c.mem H.W H.je).1 e).mem.1;have key: ∀l':List HT,h∉l'->(l'.findSome? fun y=>(if y=h then ov else sz y) b)=l'.findSome? fun y=>sz y b:=by
   intro l'
   induction l' with
   |nil=>intro _;rfl
   |cons y l' ih=>
    intro hq;simp only [List.mem_cons,not_or]at hq;rw [List.findSome?_cons,List.findSome?_cons,if_neg (fun e=>hq.1 e.symm),ih hq.2]
  rw [key l' Ww]
 refine⟨fun y l' hy c b hb=>?_,fun y b n e=>?_⟩
 ·rw [eD,eP]at c
  rw [eD]at hy⊢;rw [km]at hy;have W':jw (G.D++ [⟨h,df ps⟩]):=by have:=H'.W;rwa [eD]at this
  have S':qZ (G.D++ [⟨h,df ps⟩]) (G.P++ [(j:Int)]):=by have:=H'.je;rwa [eD,eP]at this
  rcases List.mem_append.1 hy with hy|hy
  ·obtain⟨l0,c0⟩:=cM.ex H.je y
   have:l'=l0:=c.one W' S' (c0.snoc H.je hy);subst this;obtain⟨_,e2⟩:=mV (k:=k) (h:=h) (ps:=ps) H hy;rw [e2]at hb⊢;rw [lno y l' hy c0,Z.kn y l' hy c0 b hb];have fN: ∀a∈G.world y++ [y],a∈ids G.D:=fun a ha=>by
    rcases List.mem_append.1 ha with ha|ha
    ·exact(((H.wd y hy).2.1 a ha).mem H.W).1
    ·have:a=y:=by simpa using ha
     subst this;exact hy
   rw [qD fun a ha=>apt a b (fN a ha) (fN b hb)]
  ·have:y=h:=by simpa using hy
   subst this;have cn:=cM.new (nd:=⟨y,df ps⟩) H.W H.je hj (by rw [hm];exact hl);have:l'=y::l:=c.one W' S' cn;subst this;rw [nw]at hb⊢;have e1:lY (fun z=>if z=y then ov else sz z) (y::l) b=qL ov (lY sz l) b:=by
    have:=lno _ l Lr hl b;unfold lY at this⊢;unfold qL;rw [List.findSome?_cons];cases zV:ov b with
    |none=>simp only [if_true,zV,Option.getD_none];exact this
    |some n=>simp only [if_true,zV,Option.getD_some]
   rw [e1,fu,List.length_append];have Q8: ∀a∈(ft k G (b7 G ps) ps).wd,¬nf (G.D++ [⟨y,df ps⟩]) a y:=fun a ha e=>by
    obtain⟨_,e'⟩:=u3 a ha;refine e.2.1 ((Db a).2 ?_);rcases e' with rfl|e'|e'
    ·exact⟨_,yX,.inl rfl⟩
    ·exact⟨_,yX,.inr e'⟩
    ·obtain⟨e',_,_⟩:=ju.1 e'
     rcases e' with⟨_,p,hp,e'⟩|e'
     ·exact⟨p,hp,.inr e'⟩
     ·exact⟨a,e',.inl rfl⟩
   rcases List.mem_append.1 hb with hb|hb
   ·have hbi:=(u3 b hb).1
    have:bN (G.D++ [⟨y,df ps⟩]) [y] b= []:=by unfold bN;rw [List.filter_cons_of_neg (by simpa using fun e:nf _ y b=>Q8 b hb e.symm)];rfl
    rw [this,O.kn b hb,qD fun a ha=>apt a b (u3 a ha).1 hbi];rfl
   ·have:b=y:=by simpa using hb
    subst this;have e2:bN (G.D++ [⟨b,df ps⟩]) (ft k G (b7 G ps) ps).wd b= []:=by
     unfold bN;rw [List.filter_eq_nil_iff];intro a ha;simpa using Q8 a ha
    have e3:bN (G.D++ [⟨b,df ps⟩]) [b] b= []:=by unfold bN;rw [List.filter_cons_of_neg (by simpa using fun e:nf _ b b=>e.1 rfl)];rfl
    rw [e2,e3];have e4:ov b=none:=by
     cases zV:ov b with
     |none=>rfl
     |some n=>exact absurd (u3 b (O.Qk b n zV)).1 hn
    have e5:lY sz l b=0:=by
     unfold lY;have:(l.findSome? fun h=>sz h b)=none:=by
      rw [List.findSome?_eq_none_iff];intro y hy;cases GU:sz y b with
      |none=>rfl
      |some n=>exact absurd (Z.Qk y b n GU) hn
     rw [this];rfl
    unfold qL;rw [e4,e5];rfl
 ·rw [eD,km]
  refine List.mem_append_left _ ?_;split at e
  ·exact(u3 b (O.Qk b n e)).1
  ·exact Z.Qk y b n e
end Go.Proofs.YtnboahlopghcjaaGreatDoor
namespace Go.Proofs.YtnboahlopghcjaaGreatDoor
open Go.Proofs.Tryz
open Go Go.bV
noncomputable def xN(G:GS)(h:HT):List HT->List HT
 | []=> []
 |a::r=>(if nf G.D a h then [a]else [])++if eZ G.D a h then []else bN G.D (cP (G.ga a).merge (G.ga a).de) h++xN G h r
theorem Up.inv{P:List Int}{i:Nat}{l:List Nat}(h:Up P i l):(i=0/\l= [0])\/ ∃(j:Nat) (r:List Nat),l=i::r/\P[i]? =some (j:Int)/\Up P j r:=by
 cases h with
 |root=>exact .inl ⟨rfl,rfl⟩
 |step h1 h2=>exact .inr ⟨_,_,rfl,h1,h2⟩
theorem cM.inv{D:DG}{P:List Int}(W:jw D)(H:qZ D P){h:HT}{l:List HT}(hm:h∈ids D)(c:cM D P h l):
 (l= [h]/\ ∃nd,D[0]? =some nd/\nd.id=h)\/ ∃(s:HT) (r:List HT),l=h::r/\kM D P s h/\s∈ids D/\cM D P s r:=by
 rcases c with⟨hn,_⟩|⟨i,m,ks,h1,h2,h3,h4⟩
 ·exact absurd hm hn
 ·rcases h3.inv with⟨rfl,rfl⟩|⟨j,r,rfl,h5,h6⟩
  ·refine .inl ⟨?_,m,h1,h2⟩
   rw [h4,List.map_cons,List.map_nil,lI h1,h2]
  ·have hj:j<D.length:=by
    cases i with
    |zero=>rw [H.root]at h5;simp only [Option.some.injEq]at h5;omega
    |succ i=>
     obtain⟨j',m',e,_,h7,_⟩:=H.up (i+1) _ m (by omega) h5 h1;have:=(List.getElem?_eq_some_iff.1 h7).1;omega
   obtain⟨mj,Og⟩: ∃mj,D[j]? =some mj:=⟨_,List.getElem?_eq_getElem hj⟩;refine .inr ⟨mj.id,r.map (lJ D),?_,⟨i,j,m,mj,h1,h2,h5,Og,rfl⟩,dB.2 ⟨mj,List.mem_of_getElem? Og,rfl⟩,.inr ⟨j,mj,r,Og,rfl,h6,rfl⟩⟩;rw [h4,List.map_cons,lI h1,h2]
theorem Pf{k:Nat}{G:GS}(H:iS k G)(h:HT): ∀(l:List HT) (s:HT),s∈ids G.D->cM G.D G.P s l->(xN G h l).Nodup/\ ∀y,y∈xN G h l↔y∈bN G.D (G.world s++ [s]) h:=by
 intro l
 induction l with
 |nil=>
  intro s hs c;rcases c.inv H.W H.je hs with⟨e,_⟩|⟨_,_,e,_⟩<;>cases e
 |cons a r ih=>
  intro s hs c;have key: ∀(wb:List HT),G.world s=wb++cP (G.ga s).merge (G.ga s).de->(xN G h r).Nodup->(∀y,y∈xN G h r↔y∈bN G.D wb h)->a=s->(xN G h (a::r)).Nodup/\ ∀y,y∈xN G h (a::r)↔y∈bN G.D (G.world s++ [s]) h:=by
   rintro wb hw hn hy rfl;obtain⟨w1,w2,_⟩:=H.wd a hs;have aag:=eZ.irrefl H.W a;rw [hw]at w1 w2⊢;rw [List.nodup_append]at w1;obtain⟨w3,w4,w5⟩:=w1;unfold xN;by_cases ha:eZ G.D a h
   ·have JM: ¬nf G.D a h:=fun e=>e.2.1 ha
    rw [if_pos ha,if_neg JM];refine⟨by simp,fun y=>?_⟩;simp only [List.append_nil,List.not_mem_nil,false_iff];intro e;obtain⟨e1,e2⟩:=fh.1 e;rcases List.mem_append.1 e1 with e1|e1
    ·exact e2.2.1 ((w2 y e1).trans ha)
    ·have:y=a:=by simpa using e1
     subst this;exact JM e2
   ·rw [if_neg ha]
    have hr: ∀y∈xN G h r,y∈wb:=fun y e=>(fh.1 ((hy y).1 e)).1;refine⟨?_,fun y=>?_⟩
    ·refine List.nodup_append.2 ⟨by split<;>simp,List.nodup_append.2 ⟨w4.filter _,hn,?_⟩,?_⟩
     ·intro x hx z hz e
      subst e;exact w5 x (hr x hz) x (fh.1 hx).1 rfl
     ·intro x hx z hz e
      subst e;split at hx
      ·have:x=a:=by simpa using hx
       subst this;refine aag (w2 x ?_);rcases List.mem_append.1 hz with hz|hz
       ·exact List.mem_append_right _ (fh.1 hz).1
       ·exact List.mem_append_left _ (hr x hz)
      ·simp at hx
    ·rw [fu,fu]
     simp only [List.mem_append,hy];have e1:y∈(if nf G.D a h then [a]else [])↔y∈bN G.D [a] h:=by
      unfold bN;by_cases hp:nf G.D a h
      ·rw [if_pos hp,List.filter_cons_of_pos (by simpa using hp)];rfl
      ·rw [if_neg hp,List.filter_cons_of_neg (by simpa using hp)];rfl
     rw [e1];constructor
     ·rintro(e|e|e)
      ·exact .inr e
      ·exact .inl (.inr e)
      ·exact .inl (.inl e)
     ·rintro((e|e)|e)
      ·exact .inr (.inr e)
      ·exact .inr (.inl e)
      ·exact .inl e
  rcases c.inv H.W H.je hs with⟨e,nd,h0,rfl⟩|⟨t,r',e,om,ht,hc⟩
  ·obtain⟨r1,r2⟩:=H.root nd h0
   cases e;exact key [] (by rw [r2,r1];simp [cP]) (by simp [xN]) (fun y=>by simp [xN,bN]) rfl
  ·cases e
   obtain⟨_,u2,_⟩:=H.up t a om;obtain⟨i1,i2⟩:=ih t ht hc;exact key (G.world t++ [t]) u2 i1 i2 rfl
noncomputable def nM(G:GS)(h:HT)(bl l:List HT):List HT:=bN G.D bl h++xN G h l
theorem KB{k:Nat}{G:GS}(H:iS k G){h s:HT}{l bl:List HT}(hs:s∈ids G.D)(hl:cM G.D G.P s l)(hn:(G.world s++ [s]++bl).Nodup):
 (nM G h bl l).Nodup/\(nM G h bl l).length=(bN G.D (G.world s++ [s]++bl) h).length/\ ∀y,y∈nM G h bl l↔y∈bN G.D (G.world s++ [s]++bl) h:=by
 obtain⟨h1,h2⟩:=Pf H h l s hs hl;have h0:=hn;rw [List.nodup_append]at hn;obtain⟨n1,n2,n3⟩:=hn;have hm: ∀y,y∈nM G h bl l↔y∈bN G.D (G.world s++ [s]++bl) h:=fun y=>by
  unfold nM;rw [fu,List.mem_append,List.mem_append,h2];exact Or.comm
 have fw:(nM G h bl l).Nodup:=by
  refine List.nodup_append.2 ⟨n2.filter _,h1,?_⟩;intro x hx z hz e;subst e;exact n3 x (fh.1 ((h2 x).1 hz)).1 x (fh.1 hx).1 rfl
 exact⟨fw,((List.perm_ext_iff_of_nodup fw (h0.filter _)).2 hm).length_eq,hm⟩
def qE(k:Nat)(kn:HT->Nat)(done:List HT)(b:HT):Bool:=decide (done.length+1<=k/\kn b<k)
def eR(k:Nat)(kn:HT->Nat):List HT->List HT->Bool
 |_,[]=>true
 |done,b::l=>qE k kn done b&&eR k kn (done++ [b]) l
theorem o9{k:Nat}{kn:HT->Nat}: ∀ {l done:List HT},eR k kn done l=true↔(l≠ []->done.length+l.length<=k)/\ ∀b∈l,kn b<k
 | [],done=>by simp [eR]
 |b::l,done=>by
  unfold eR qE;rw [Bool.and_eq_true,decide_eq_true_eq,o9];simp only [List.length_append,List.length_cons,List.length_nil,List.mem_cons,forall_eq_or_imp,ne_eq,reduceCtorEq,not_false_eq_true,forall_const];constructor
  ·rintro⟨⟨h1,h2⟩,h3,h4⟩
   refine⟨?_,h2,h4⟩;by_cases e:l= []
   ·subst e;simpa using h1
   ·have:=h3 e;omega
  ·rintro⟨h1,h2,h3⟩
   refine⟨⟨by omega,h2⟩,fun _=>by omega,h3⟩
theorem lP{k:Nat}{kn:HT->Nat}: ∀ {l m done:List HT},eR k kn done (l++m)=(eR k kn done l&&eR k kn (done++l) m)
 | [],m,done=>by simp [eR]
 |b::l,m,done=>by
  simp only [List.cons_append,eR,lP (l:=l),Bool.and_assoc,List.append_assoc,List.nil_append]
theorem HR{k:Nat}{D:DG}{wd:List HT}{kn:HT->Nat}{h:HT}{c:List HT}(hk: ∀b∈wd,kn b=(bN D wd b).length)(hl:c.length=(bN D wd h).length)(hm: ∀y,y∈c↔y∈bN D wd h):
 eR k kn [] c=nN k D wd h:=by
 rw [Bool.eq_iff_iff,o9];unfold nN;rw [decide_eq_true_eq];simp only [List.length_nil,Nat.zero_add,<-hl];constructor
 ·rintro⟨h1,h2⟩
  refine⟨?_,fun y hy=>?_⟩
  ·by_cases e:c= []
   ·subst e;simp
   ·exact h1 e
  ·have:=h2 y ((hm y).2 hy)
   rw [hk y (fh.1 hy).1]at this;omega
 ·rintro⟨h1,h2⟩
  refine⟨fun _=>h1,fun y hy=>?_⟩;have hy:=(hm y).1 hy;rw [hk y (fh.1 hy).1];have:=h2 y hy;omega
end Go.Proofs.YtnboahlopghcjaaGreatDoor
namespace Go.Proofs.YtnboahlopghcjaaGreatDoor
open Go.Proofs.Tryz
open Go Go.bV Go.RowKit
theorem F8:vL cV eT (.pointer none):=⟨by kernel_rfl,tj (by kernel_rfl)⟩
theorem qJ:vL ck jl (.int .i64 0):=⟨by kernel_rfl,tj (by kernel_rfl)⟩
structure Bo(w:World)(A:Option Addr)(n:Nat)(l:List Bool):Prop where
 len:l.length=n
 at_: ∀(i:Nat) (b:Bool),l[i]? =some b-> ∃a,A=some a/\a.block<w.heap.size/\w.cell? (a.add i)=some (.bool b)
theorem Bo.aC{S:Nat->Prop}{w w':World}{A:Option Addr}{n:Nat}{l:List Bool}(h:Bo w A n l)(hk:Kept S w w')(hn: ∀a,A=some a-> ¬S a.block):Bo w' A n l:=⟨h.len,fun i x hi=>by
 obtain⟨a,h1,h2,h3⟩:=h.at_ i x hi;exact⟨a,h1,Nat.lt_of_lt_of_le h2 hk.size,hk.cell h3 (by rw [eI];exact hn a h1)⟩⟩
theorem Bo.same{w w':World}{A:Option Addr}{n:Nat}{l:List Bool}(h:Bo w A n l)(hk:Kept Nil w w'):Bo w' A n l:=h.aC hk fun _ _ h=>h
def I0(ov:HT->Option Nat)(b:HT):Option Value:=(ov b).map fun n:Nat=>.int .i64 (n:Int)
def EY(w:World)(F:Nat->Prop)(sm:Option Nat)(sz:HT->Option Nat):Prop:=
 (sm=none/\ ∀b,sz b=none)\/ ∃s,sm=some s/\F s/\fk w s (I0 sz)
def cF(c:oc)(A:Option Addr)(n cp:Nat)(B:Option Addr)(m cq:Nat):Array Value:=c.je.1++ #[.int .u64 (c.score:Int),.slice A n cp,.slice B m cq]
structure pS(w:World)(F:Nat->Prop)(q:Nat)(c:oc)(sz:HT->Option Nat)(A:Option Addr)(n cp:Nat)(B:Option Addr)(m cq:Nat)(sm:Option Nat):Prop where
 top:w.heap[q]? =some (.cells (cF c A n cp B m cq++ #[.map sm]) dN (0,0))
 mg:HS w A n c.merge
 bl:Bo w B m c.de
 fA: ∀a,A=some a->F a.block
 fB: ∀a,B=some a->F a.block
 sz:EY w F sm sz
 fq:F q
def Seen(w:World)(F:Nat->Prop)(q:Nat)(c:oc)(sz:HT->Option Nat):Prop:= ∃A n cp B m cq sm,pS w F q c sz A n cp B m cq sm
section
variable{w w':World}{F S:Nat->Prop}{q:Nat}{c:oc}{sz:HT->Option Nat}{A B:Option Addr}{n cp m cq:Nat}{sm:Option Nat}
theorem EY.aC(h:EY w F sm sz)(hk:Kept S w w')(hF: ∀j,F j-> ¬S j):EY w' F sm sz:=by
 rcases h with h|⟨s,h1,h2,h3⟩
 ·exact .inl h
 ·exact .inr ⟨s,h1,h2,h3.aC hk (hF _ h2)⟩
theorem pS.aC(h:pS w F q c sz A n cp B m cq sm)(hk:Kept S w w')(hF: ∀j,F j-> ¬S j):pS w' F q c sz A n cp B m cq sm:=
 ⟨hk.heap h.top (hF _ h.fq),h.mg.aC hk (fun a ha=>hF _ (h.fA a ha)),h.bl.aC hk (fun a ha=>hF _ (h.fB a ha)),h.fA,h.fB,h.sz.aC hk hF,h.fq⟩
theorem Seen.aC(h:Seen w F q c sz)(hk:Kept S w w')(hF: ∀j,F j-> ¬S j):Seen w' F q c sz:=by
 obtain⟨A,n,cp,B,m,cq,sm,h⟩:=h;exact⟨A,n,cp,B,m,cq,sm,h.aC hk hF⟩
theorem aY(c:oc)(A:Option Addr)(n cp:Nat)(B:Option Addr)(m cq:Nat):(cF c A n cp B m cq).size=35:=by
 unfold cF;rw [Array.size_append,c.je.2.1];rfl
theorem eN(c:oc)(A:Option Addr)(n cp:Nat)(B:Option Addr)(m cq:Nat)(r:Array Value):
 ((cF c A n cp B m cq)++r)[32]? =some (.int .u64 (c.score:Int))/\((cF c A n cp B m cq)++r)[33]? =some (.slice A n cp)/\((cF c A n cp B m cq)++r)[34]? =some (.slice B m cq)/\((cF c A n cp B m cq)++r)[35]? =r[0]? :=by
 have hs:=aY c A n cp B m cq;have h0:c.je.1.size=32:=c.je.2.1;refine⟨?_,?_,?_,?_⟩
 ·rw [Array.getElem?_append_left (by omega)];unfold cF;rw [Array.getElem?_append_right (by omega),h0];rfl
 ·rw [Array.getElem?_append_left (by omega)];unfold cF;rw [Array.getElem?_append_right (by omega),h0];rfl
 ·rw [Array.getElem?_append_left (by omega)];unfold cF;rw [Array.getElem?_append_right (by omega),h0];rfl
 ·rw [Array.getElem?_append_right (by omega),hs]
theorem pS.VC(h:pS w F q c sz A n cp B m cq sm):w.cell? (((⟨q,0,none⟩:Addr).add 0).add 32)=some (.int .u64 (c.score:Int)):=by
 rw [add_zero,ba,ax h.top];exact(eN ..).1
theorem pS.c35(h:pS w F q c sz A n cp B m cq sm):w.cell? ((⟨q,0,none⟩:Addr).add 35)=some (.map sm):=by
 rw [ba,ax h.top];exact(eN ..).2.2.2
theorem pS.ga(h:pS w F q c sz A n cp B m cq sm):Cells w ((⟨q,0,none⟩:Addr).add 0) (cF c A n cp B m cq):=by
 intro j u hj;rw [add_zero,ba,ax h.top,Array.getElem?_append_left (by rw [aY];have:=(Array.getElem?_eq_some_iff.1 hj).1;rw [aY]at this;omega)];rw [Nat.zero_add];exact hj
end
structure CM where
 x:Nat
 mb:Nat
 SX:Nat->Prop
 FX:Nat->Prop
 q:HT->Nat
 sz:HT->HT->Option Nat
def CM.own(m:CM)(c j:Nat):Prop:=m.SX j\/j=c\/j=m.mb
structure CV(w:World)(F:Nat->Prop)(c:Nat)(k:Nat)(G:GS)(m:CM):Prop where
 top:w.heap[c]? =some (.cells #[.int .i64 (k:Int),.pointer (some ⟨m.x,0,none⟩),.map (some m.mb)] gB (0,0))
 X:BU w m.SX m.FX m.x G.D G.P
 all:fk w m.mb fun h=>if h∈ids G.D then some (.pointer (some ⟨m.q h,0,none⟩))else none
 seen: ∀h∈ids G.D,Seen w F (m.q h) (G.ga h) (m.sz h)
 eM:iS k G
 Z:SZ G m.sz
 fx: ∀j,m.FX j->F j
 fo: ∀j,F j-> ¬m.own c j
 so: ∀j,m.SX j->j≠c/\j≠m.mb
 ne:c≠m.mb
 low: ∀j,m.own c j\/F j->j<w.heap.size
section
variable{w w':World}{F S:Nat->Prop}{c k:Nat}{G:GS}{m:CM}{K:Value->World->Prop}
theorem CV.aC{S0:Nat->Prop}(h:CV w F c k G m)(hk:Kept S0 w w')(hS: ∀j,m.own c j-> ¬S0 j)(hF: ∀j,F j-> ¬S0 j):CV w' F c k G m where
 top:=hk.heap h.top (hS _ (.inr (.inl rfl)))
 X:=h.X.aC hk (fun j e=>hS j (.inl e)) (fun j e=>hF j (h.fx j e))
 all:=h.all.aC hk (hS _ (.inr (.inr rfl)))
 seen:=fun y hy=>(h.seen y hy).aC hk hF
 eM:=h.eM
 Z:=h.Z
 fx:=h.fx
 fo:=h.fo
 so:=h.so
 ne:=h.ne
 low:=fun j e=>Nat.lt_of_lt_of_le (h.low j e) hk.size
theorem CV.same(h:CV w F c k G m)(hk:Kept Nil w w'):CV w' F c k G m:=h.aC hk (fun _ _ h=>h) (fun _ _ h=>h)
theorem CV.c0(h:CV w F c k G m):w.cell? ((⟨c,0,none⟩:Addr).add 0)=some (.int .i64 (k:Int)):=by rw [ba,ax h.top];rfl
theorem CV.c1(h:CV w F c k G m):w.cell? ((⟨c,0,none⟩:Addr).add 1)=some (.pointer (some ⟨m.x,0,none⟩)):=by rw [ba,ax h.top];rfl
theorem CV.c2(h:CV w F c k G m):w.cell? ((⟨c,0,none⟩:Addr).add 2)=some (.map (some m.mb)):=by rw [ba,ax h.top];rfl
theorem CV.look(h:CV w F c k G m)(y:HT):(Instr.lookup cV (.map (some m.mb)) (.agg y.1) false).run prog w=.ok (.pointer (if y∈ids G.D then some ⟨m.q y,0,none⟩else none)) w:=by
 have:=h.all.look F8 y;by_cases hy:y∈ids G.D
 ·rw [if_pos hy]at this;rw [if_pos hy];exact this
 ·rw [if_neg hy]at this;rw [if_neg hy];exact this
theorem CV.lH(h:CV w F c k G m){y:HT}(hy:y∈ids G.D):(Instr.lookup cV (.map (some m.mb)) (.agg y.1) false).run prog w=.ok (.pointer (some ⟨m.q y,0,none⟩)) w:=by
 have:=h.look y;rwa [if_pos hy]at this
theorem mc(h:CV w F c k G m)(hK:K (.bool true) w):bn prog dR.id #[.pointer (some ⟨c,0,none⟩)] w K:=
 dR.of (Split.yes rfl ⟨_,h.c1,hK⟩)
theorem EJ{A:Addr}{x y:Int}{cx:Nat}(h0:w.cell? A=some (.int .i64 x))(h1:w.cell? (A.add 1)=some (.int .i64 y))(hK:K (.int .i64 (if x=0 then y else x)) w):
 bn prog bG.id #[.slice (some A) 2 cx] w K:=by
 refine bG.of ?_;unfold bG.W;refine bG.b6 (I:=fun s w'=>w'=w/\((s=(0,0))\/(s=(0,1)/\x=0)\/(s=(0,2)/\x=0/\y=0))) (μ:=fun s _=>(2-s.2).toNat) (s:=(0,0)) ⟨rfl,.inl rfl⟩ ?_;rintro s w' ⟨rfl,h⟩;rcases h with rfl|⟨rfl,hx⟩|⟨rfl,hx,hy⟩
 ·refine Split.yes rfl ⟨by simp only;omega,x,by rw [show(0:Int).toNat*1=0 from rfl,add_zero];exact h0,?_⟩
  by_cases hx:x=0
  ·refine Split.no (by simp [hx]) ?_
   exact⟨(0,1),rfl,⟨rfl,.inr (.inl ⟨rfl,hx⟩)⟩,by simp only;omega⟩
  ·refine Split.yes (by simpa using hx) ?_
   rw [if_neg hx]at hK;rw [im];exact hK
 ·refine Split.yes rfl ⟨by simp only;omega,y,h1,?_⟩
  rw [if_pos hx]at hK;by_cases hy:y=0
  ·refine Split.no (by simp [hy]) ?_
   exact⟨(0,2),rfl,⟨rfl,.inr (.inr ⟨rfl,hx,hy⟩)⟩,by simp only;omega⟩
  ·refine Split.yes (by simpa using hy) ?_
   rw [im];exact hK
 ·refine Split.no rfl ?_
  rw [aS,bG.cX];rw [if_pos hx,hy]at hK;exact hK
theorem BD{x y:Int}(hK:K (.int .i64 (if x<y then-1 else if y<x then 1 else 0)) w):bn prog dw.id #[.int .u64 x,.int .u64 y] w K:=by
 refine dw.of ?_;refine eV.of ⟨_,rfl,?_⟩;refine eV.of ⟨_,rfl,?_⟩;refine Split.no (by simp) (Split.no (by simp) (Split.dec (fun h=>?_) (fun h=>Split.dec (fun h'=>?_) (fun h'=>?_))))
 ·rw [if_pos h]at hK;exact hK
 ·rw [if_neg h,if_pos h']at hK;exact hK
 ·rw [if_neg h,if_neg h']at hK;exact hK
theorem oX(h:CV w F c k G m){a b:HT}(ha:a∈ids G.D)(hb:b∈ids G.D)(hK: ∀w',Kept Nil w w'->K (.int .i64 (zu G a b)) w'):
 bn prog br.id #[.pointer (some ⟨c,0,none⟩),.agg a.1,.agg b.1] w K:=by
 refine br.of ?_;unfold br.W;intro w4 w5 w6;have k4:Kept Nil w w4:=(Kept.refl _ _).alloc _;have uD:w4.heap[w.heap.size]? =some (.cells a.1 ag (0,0)):=aJ w _;have k5:Kept Nil w4 w5:=(Kept.refl _ _).alloc _;have mv:w5.heap[w4.heap.size]? =some (.cells b.1 ag (0,0)):=aJ w4 _;have k6:Kept Nil w5 w6:=(Kept.refl _ _).drew;clear_value w6;have rT:=(k5.trans k6 (fun _ _ h=>h)).heap uD (fun h=>h);have oT:=k6.heap mv (fun h=>h);have mL:=(k4.trans k5 (fun _ _ h=>h)).trans k6 (fun _ _ h=>h);have h6:=h.same mL;obtain⟨A1,n1,c1,B1,m1,d1,s1,sa⟩:=h6.seen a ha;obtain⟨A2,n2,c2,B2,m2,d2,s2,sb⟩:=h6.seen b hb;refine⟨_,h6.c2,a.1,⟨a.2.1,Cells.bC rT⟩,_,h6.lH ha,_,sa.VC,_,h6.c2,b.1,⟨b.2.1,Cells.bC oT⟩,_,h6.lH hb,_,sb.VC,a.1,⟨a.2.1,Cells.bC rT⟩,b.1,⟨b.2.1,Cells.bC oT⟩,?_⟩;refine BD ⟨_,rfl,⟨b.1,rfl,b.2.1,Cells.bC oT⟩,⟨a.1,rfl,a.2.1,Cells.bC rT⟩,?_⟩;refine o0 a b ⟨_,rfl,?_⟩;have k7:Kept Nil w6 ((w6.alloc (.cells a.1 ag)).alloc (.cells b.1 ag)).drew:=(((Kept.refl Nil w6).alloc _).alloc _).drew;generalize ((w6.alloc (.cells a.1 ag)).alloc (.cells b.1 ag)).drew=w7 at k7⊢;intro w8;have k8:Kept Nil w7 w8:=(Kept.refl _ _).alloc _;have Kf:w8.heap[w7.heap.size]? =some (.cells _ _ (0,0)):=aJ w7 _;clear_value w8;refine EJ (A:=⟨w7.heap.size,0,none⟩) (by rw [ax Kf];rfl) (by rw [ba,ax Kf];rfl) ⟨_,rfl,?_⟩;have e:(if(if((G.ga a).score:Int)<((G.ga b).score:Int)then(-1:Int)else if((G.ga b).score:Int)<((G.ga a).score:Int)then 1 else 0)=0 then kz a b else if((G.ga a).score:Int)<((G.ga b).score:Int)then(-1:Int)else if((G.ga b).score:Int)<((G.ga a).score:Int)then 1 else 0)=zu G a b:=by
  rw [KA];unfold GS.score;by_cases h1:(G.ga a).score<(G.ga b).score
  ·have sF:((G.ga a).score:Int)<((G.ga b).score:Int):=by omega
   rw [if_pos h1,if_pos sF,if_neg (by decide)]
  ·have sF: ¬((G.ga a).score:Int)<((G.ga b).score:Int):=by omega
   by_cases h2:(G.ga b).score<(G.ga a).score
   ·have uE:((G.ga b).score:Int)<((G.ga a).score:Int):=by omega
    rw [if_neg h1,if_neg sF,if_pos h2,if_pos uE,if_neg (by decide)]
   ·have uE: ¬((G.ga b).score:Int)<((G.ga a).score:Int):=by omega
    rw [if_neg h1,if_neg sF,if_neg h2,if_neg uE,if_pos rfl]
 rw [e];exact hK _ ((mL.trans k7 (fun _ _ h=>h)).trans k8 (fun _ _ h=>h))
end
end Go.Proofs.YtnboahlopghcjaaGreatDoor
namespace Go.Proofs.YtnboahlopghcjaaGreatDoor
open Go.Proofs.Tryz
open Go Go.bV Go.RowKit
section
variable{w:World}
theorem fk.Cv{mt te:TypeId}{z:Value}(T:vL mt te z){m:Nat}{f:HT->Option Value}(hm:fk w m f)(h:HT):
 (Instr.lookup mt (.map (some m)) (.agg h.1) true).run prog w=.ok (.tuple #[(f h).getD z,.bool (f h).isSome]) w:=by
 obtain⟨es,clock,l,h1,h2,h3,_⟩:=hm.ex;have h4:=kV h w h2;have h5:=me h l 0;rw [h3]at h5;simp only [Instr.lookup,Sem.run_bind,run_underlying T.og,oY h1,Result.andThen_ok,Sem.run_pure,iL,h4];cases hp:kR h l 0 with
 |none=>rw [hp]at h5;simp [<-h5,T.zero]
 |some p=>rw [hp]at h5;simp [<-h5]
theorem AF{mt te:TypeId}{z:Value}(T:vL mt te z)(h:HT):
 (Instr.lookup mt (.map none) (.agg h.1) true).run prog w=.ok (.tuple #[z,.bool false]) w:=by
 have h3:=kV (es:= []) (l:= []) h w trivial;simp only [Instr.lookup,Sem.run_bind,run_underlying T.og,Result.andThen_ok,Sem.run_pure,iL];simp [h3,kR,T.zero]
theorem EY.Cv{F:Nat->Prop}{sm:Option Nat}{sz:HT->Option Nat}(h:EY w F sm sz)(b:HT):
 (Instr.lookup ck (.map sm) (.agg b.1) true).run prog w=.ok (.tuple #[.int .i64 (((sz b).getD 0:Nat):Int),.bool (sz b).isSome]) w:=by
 rcases h with⟨rfl,h⟩|⟨s,rfl,_,h⟩
 ·rw [h b];exact AF qJ b
 ·have:=h.Cv qJ b
  unfold I0 at this;cases hb:sz b with
  |none=>rw [hb]at this;exact this
  |some n=>rw [hb]at this;exact this
end
section
variable{w w':World}{F S:Nat->Prop}{c k:Nat}{G:GS}{m:CM}{K:Value->World->Prop}
theorem zj(h:CV w F c k G m)(hD:G.D.length<=5000)(a b:HT)(hK: ∀w' (r:Bool),(r=true↔nf G.D a b)->Kept Nil w w'->K (.bool r) w'):
 bn prog cY.id #[.pointer (some ⟨c,0,none⟩),.agg a.1,.agg b.1] w K:=by
 refine cY.of ?_;unfold cY.W;intro w4 w5 w6;have k4:Kept Nil w w4:=(Kept.refl _ _).alloc _;have uD:w4.heap[w.heap.size]? =some (.cells a.1 ag (0,0)):=aJ w _;have k5:Kept Nil w4 w5:=(Kept.refl _ _).alloc _;have mv:w5.heap[w4.heap.size]? =some (.cells b.1 ag (0,0)):=aJ w4 _;have k6:Kept Nil w5 w6:=(Kept.refl _ _).drew;clear_value w6;have rT:=(k5.trans k6 (fun _ _ h=>h)).heap uD (fun h=>h);have oT:=k6.heap mv (fun h=>h);have mL:=(k4.trans k5 (fun _ _ h=>h)).trans k6 (fun _ _ h=>h);have h6:=h.same mL;refine⟨a.1,⟨a.2.1,Cells.bC rT⟩,b.1,⟨b.2.1,Cells.bC oT⟩,⟨a.2.ints,b.2.ints⟩,?_⟩;rw [dq];by_cases lL:a=b
 ·refine Split.no (by rw [decide_eq_true lL];rfl) (hK w6 false ⟨(fun e=>by cases e),fun e=>absurd lL e.1⟩ mL)
 ·refine Split.yes (by rw [decide_eq_false lL];rfl) ⟨_,h6.c1,a.1,⟨a.2.1,Cells.bC rT⟩,b.1,⟨b.2.1,Cells.bC oT⟩,?_⟩
  obtain⟨mx,X6,_⟩:=h6.X;refine kX X6 hD a b fun w7 r hr k7=>⟨_,rfl,?_⟩;have xG:=mL.trans k7 (fun _ _ h=>h);cases r with
  |true=>exact Split.no rfl (hK w7 false ⟨(fun e=>by cases e),fun e=>absurd (hr.1 rfl) e.2.1⟩ xG)
  |false=>
   have h7:=h.same xG;refine Split.yes rfl ⟨_,h7.c1,b.1,⟨b.2.1,Cells.bC (k7.heap oT (fun h=>h))⟩,a.1,⟨a.2.1,Cells.bC (k7.heap rT (fun h=>h))⟩,?_⟩;obtain⟨mx',X7,_⟩:=h7.X;refine kX X7 hD b a fun w8 r' P3 k8=>⟨_,rfl,hK w8 _ ?_ (xG.trans k8 (fun _ _ h=>h))⟩;cases r' with
   |true=>exact⟨(fun e=>by cases e),fun e=>absurd (P3.1 rfl) e.2.2⟩
   |false=>exact⟨fun _=>⟨lL,(fun e=>by have:=hr.2 e;cases this),(fun e=>by have:=P3.2 e;cases this)⟩,fun _=>rfl⟩
def mJ(D:DG)(l:List HT):Int:=if l= []then 9 else if ∃p∈l,p∉ids D then 6 else 0
theorem EB(h:CV w F c k G m){A:Option Addr}{n cx:Nat}{l:List HT}(hl:HS w A n l)(hn:n<=400000)(hK: ∀w',Kept Nil w w'->K (.int .i64 (mJ G.D l)) w'):
 bn prog dX.id #[.pointer (some ⟨c,0,none⟩),.slice A n cx] w K:=by
 have hlen:=hl.len;refine dX.of ?_;unfold dX.W;intro w4;have k4:Kept Nil w w4:=(Kept.refl _ _).alloc _;have Iy:w4.heap[w.heap.size]? =some (.cells #[.pointer (some ⟨c,0,none⟩)] fI (0,0)):=aJ w _;clear_value w4;refine⟨some ⟨c,0,none⟩,by rw [ax Iy];rfl,mc (h.same k4) ⟨_,rfl,Split.no rfl ?_⟩⟩;by_cases h0:n=0
 ·subst h0
  have e:l= []:=List.eq_nil_of_length_eq_zero hlen;refine Split.yes rfl ?_;have:=hK w4 k4;unfold mJ at this;rw [if_pos e]at this;exact this
 ·have fG:l≠ []:=fun e=>by subst e;exact h0 hlen.symm
  refine Split.no (by simpa using (by omega: ¬(n:Int)=0)) ?_;refine bT.of (ak.of ?_);refine ak.b6 (I:=fun s w'=> ∃i:Nat,s=(0,(i:Int))/\i<=n/\(∀p∈l.take i,p∈ids G.D)/\Kept Nil w4 w') (μ:=fun s _=>((n:Int)-s.2).toNat) (s:=(0,0)) ⟨0,rfl,Nat.zero_le _,by simp,Kept.refl _ _⟩ ?_;rintro s w' ⟨i,rfl,hi,cS,kw⟩;have k0w:=k4.trans kw (fun _ _ h=>h);refine Split.dec (fun jf=>?_) (fun gu=>?_)
  ·simp only at jf
   have dP:i<n:=by omega
   obtain⟨y,hy⟩: ∃y,l[i]? =some y:=⟨_,List.getElem?_eq_getElem (by omega)⟩;refine(hl.same k0w).load (i:=(i:Int)) (by omega) hy ?_;refine ee.of ?_;unfold ee.W;intro w7 w8;have k7:Kept Nil w' w7:=(Kept.refl _ _).alloc _;have hb7:w7.heap[w'.heap.size]? =some (.cells y.1 ag (0,0)):=aJ w' _;have k8:Kept Nil w7 w8:=(Kept.refl _ _).drew;clear_value w8;have Kf:=k8.heap hb7 (fun h=>h);have PM:=(kw.trans k7 (fun _ _ h=>h)).trans k8 (fun _ _ h=>h);have h8:=h.same (k4.trans PM (fun _ _ h=>h));refine⟨some ⟨c,0,none⟩,by rw [ax (PM.heap Iy (fun h=>h))];rfl,_,h8.c2,y.1,⟨y.2.1,Cells.bC Kf⟩,_,h8.look y,_,rfl,?_⟩;by_cases hm:y∈ids G.D
   ·refine Split.no (by rw [if_pos hm];rfl) ?_
    simp only;rw [dE (n:=(i:Int)) (by omega) (by omega)];refine⟨(0,(i:Int)+1),rfl,⟨i+1,rfl,dP,fun p hp=>?_,PM⟩,by simp only;omega⟩;rcases(bH hy).1 hp with hp|rfl
    ·exact cS p hp
    ·exact hm
   ·refine Split.yes (by rw [if_neg hm];rfl) ?_
    refine⟨(i:Int),rfl,_,rfl,?_⟩;have:=hK w8 (k4.trans PM (fun _ _ h=>h));unfold mJ at this;rw [if_neg fG,if_pos ⟨y,List.mem_of_getElem? hy,hm⟩]at this;refine Split.yes (decide_eq_true (by omega)) this
  ·simp only at gu
   rw [aS,ak.cX];rw [List.take_of_length_le (by omega)]at cS;refine⟨_,rfl,_,rfl,?_⟩;have:=hK w' k0w;unfold mJ at this;rw [if_neg fG,if_neg (fun⟨p,hp,hn⟩=>hn (cS p hp))]at this;exact Split.no (by decide) this
end
end Go.Proofs.YtnboahlopghcjaaGreatDoor
namespace Go.Proofs.YtnboahlopghcjaaGreatDoor
open Go.Proofs.Tryz
open Go Go.bV Go.RowKit
theorem sI{α β:Type}{f:α->Option β}{y:α}{n:β}: ∀ {l:List α} {j:Nat},l[j]? =some y->(∀x∈l.take j,f x=none)->f y=some n->l.findSome? f=some n
 | [],j,h,_,_=>by simp at h
 |x::l,0,h,_,hy=>by
  simp only [List.getElem?_cons_zero,Option.some.injEq]at h;subst h;rw [List.findSome?_cons,hy]
 |x::l,j+1,h,ha,hy=>by
  have hx:=ha x (by simp);rw [List.findSome?_cons,hx];exact sI (l:=l) (j:=j) (by simpa using h) (fun z hz=>ha z (by simp [hz])) hy
section
variable{w w':World}{F S:Nat->Prop}{c k:Nat}{G:GS}{m:CM}{K:Value->World->Prop}
theorem Bq(h:CV w F c k G m)(hD:G.D.length<=5000){a b:HT}(ha:a∈ids G.D){l:List HT}(hc:cM G.D G.P a l)(hK: ∀w',Kept Nil w w'->K (.int .i64 ((lY m.sz l b:Nat):Int)) w'):
 bn prog a7.id #[.pointer (some ⟨c,0,none⟩),.agg a.1,.agg b.1] w K:=by
 have W:=h.eM.W;have H:=h.eM.je;have LH: ∀y∈l,y∈ids G.D:=fun y hy=>((hc.mem W H).1 hy).mem.1;refine a7.of ?_;unfold a7.W;intro w4 w5 w6 w7 w8;have k4:Kept Nil w w4:=(Kept.refl _ _).alloc _;have Iy:w4.heap[w.heap.size]? =some (.cells #[.pointer (some ⟨c,0,none⟩)] fI (0,0)):=aJ w _;have k5:Kept Nil w4 w5:=(Kept.refl _ _).alloc _;have ze:w5.heap[w4.heap.size]? =some (.cells a.1 ag (0,0)):=aJ w4 _;have k6:Kept Nil w5 w6:=(Kept.refl _ _).alloc _;have oT:w6.heap[w5.heap.size]? =some (.cells b.1 ag (0,0)):=aJ w5 _;have k7:Kept Nil w6 w7:=(Kept.refl _ _).alloc _;have Lu:w7.heap[w6.heap.size]? =some (.cells #[.int .i64 0] jl (0,0)):=aJ w6 _;have k8:Kept Nil w7 w8:=(Kept.refl _ _).drew;clear_value w8;have Wt:=k8.heap Lu (fun h=>h);have Kf:=k8.heap (k7.heap oT (fun h=>h)) (fun h=>h);have WN:=k8.heap (k7.heap (k6.heap ze (fun h=>h)) (fun h=>h)) (fun h=>h);have Ug:=k8.heap (k7.heap (k6.heap (k5.heap Iy (fun h=>h)) (fun h=>h)) (fun h=>h)) (fun h=>h);have rK:=(((k4.trans k5 (fun _ _ h=>h)).trans k6 (fun _ _ h=>h)).trans k7 (fun _ _ h=>h)).trans k8 (fun _ _ h=>h);have s06:=(((k4.trans k5 (fun _ _ h=>h)).trans k6 (fun _ _ h=>h))).size;have l7:=aQ Lu;have l8:=aQ Wt;clear_value w7 w6 w5 w4;refine⟨some ⟨c,0,none⟩,by rw [ax Ug];rfl,_,(h.same rK).c1,a.1,⟨a.2.1,Cells.bC WN⟩,?_⟩;refine oF a fun gR pb qb lV Be Bb zU hqb=>⟨_,rfl,?_⟩;have V1:=lV.size;have vr:=rK.trans lV (fun _ _ h=>h);have Oa:=lV.heap Wt (fun h=>h)
 let xo:Value:=.func (.func aV.id) #[] #[.pointer (some ⟨pb,0,none⟩),.pointer (some ⟨qb,0,none⟩)]
 let ρ0:Env:= [(3,.pointer (some ⟨w.heap.size,0,none⟩)),(5,.pointer (some ⟨w5.heap.size,0,none⟩)),(6,.pointer (some ⟨w6.heap.size,0,none⟩)),(15,xo)]
 let J:Nat->World->Prop:=fun j u=>Kept Nil gR u/\j<=l.length/\ ∀y∈l.take j,m.sz y b=none
 let Jd:Code->World->Prop:=fun e u=>e=.ret/\Kept (fun k=>k=w6.heap.size) gR u/\ ∃n:Nat,(l.findSome? fun y=>m.sz y b)=some n/\u.heap[w6.heap.size]? =some (.cells #[.int .i64 (n:Int)] jl (0,0))
 have k0J: ∀ {u:World},Kept Nil gR u->Kept Nil w u:=fun k=>vr.trans k (fun _ _ h=>h);have kS: ∀ {v:World},Kept (fun k=>k=w6.heap.size) gR v->Kept Nil w v:=fun k=>vr.trans k (fun k hk e=>by omega);obtain⟨mx,X35,_⟩:=(h.same vr).X
 change Holds none [] prog _ _ _ ρ0 gR
 refine lF (n:=33) (ρ:=ρ0) (ρ0:=ρ0) ng mix a7.k (t:=15) (ps:= #[16]) (by kernel_rfl) (by decide) rfl aV.at_ rfl (.inl rfl) (fun i x hi hx=>hx) rfl pG l (fun _=>rfl) (fun q hq=>by
  have Vs:q=16:=by simpa using hq
  subst Vs;exact⟨by decide,by decide⟩) (wG (F:=m.FX) (x:=m.x) (m:=mx) (pb:=pb) (qb:=qb) hc (by omega)) J Jd ?_ ?_ (fun j u hJ=>⟨X35.same hJ.1,hJ.1.heap Be (fun h=>h),hJ.1.heap Bb (fun h=>h)⟩) ?_ ?_ ?_ ?_ ?_
 ·rintro j u1 u2 R nI ⟨h1,h2,h3⟩ mu
  exact⟨h1.trans mu (fun k hk e=>by omega),h2,h3⟩
 ·rintro e u1 u2 R nI ⟨h1,h2,n,h3,h4⟩ mu
  exact⟨h1,h2.trans mu (fun k hk e=>by omega),n,h3,mu.heap h4 (by omega)⟩
 ·intro R
  exact⟨(((Kept.refl _ _).alloc _).alloc _),Nat.zero_le _,by simp⟩
 ·rintro j z u1 R hz ⟨h1,h2,h3⟩ nI
  have e7:jV ρ0 ((#[16]:Array Nat).toList.zip (pG z))= [(3,.pointer (some ⟨w.heap.size,0,none⟩)),(5,.pointer (some ⟨w5.heap.size,0,none⟩)),(6,.pointer (some ⟨w6.heap.size,0,none⟩)),(15,xo),(16,.agg z.1)]:=rfl;rw [e7,a7.a1];have ri:=(List.getElem?_eq_some_iff.1 hz).1;unfold a7.A1;intro E7;obtain⟨qP,iC,iI⟩:=fT (w:=u1) (z:=dL.1) (cs:=z.1) (t:=ag) (by rw [z.2.1];rfl);refine⟨⟨z.2.1,z.2.one,fun j hj=>qP j (by rw [z.2.1];exact hj)⟩,?_⟩;intro E6
  replace iC:E6.heap[u1.heap.size]? =some (.cells z.1 ag (0,0)):=iC
  replace iI:Kept Nil u1 E6:=iI
  clear_value E6;have xi:=nI.aC iI (fun h=>h) (fun h=>h);refine⟨xi,fun w2 R2 mD rh=>?_⟩;have la:=mD.heap iC (iY iC xi.loop);have qN:Kept Nil gR w2:=(h1.trans iI (fun _ _ h=>h)).trans mD (fun k hk e=>by omega);rw [a7.y1];unfold a7.Y1;intro QF;have Yw:Kept Nil w2 QF:=(Kept.refl _ _).drew;clear_value QF;have TD:=rh.aC Yw (fun h=>h) (fun h=>h);have yO:=qN.trans Yw (fun _ _ h=>h);have M5:=lV.trans yO (fun _ _ h=>h);have h48:=h.same (rK.trans M5 (fun _ _ h=>h));obtain⟨A1,n1,c1,B1,m1,d1,s1,sa⟩:=h48.seen z (LH z (List.mem_of_getElem? hz));refine⟨some ⟨c,0,none⟩,by rw [ax (M5.heap Ug (fun h=>h))];rfl,_,h48.c2,z.1,⟨z.2.1,Cells.bC (Yw.heap la (fun h=>h))⟩,_,h48.lH (LH z (List.mem_of_getElem? hz)),_,sa.c35,b.1,⟨b.2.1,Cells.bC (M5.heap Kf (fun h=>h))⟩,_,_,sa.sz.Cv b,?_⟩;cases hzb:m.sz z b with
  |some n=>
   refine Split.yes rfl ⟨dM (yO.heap Oa (fun h=>h)) (by simp),?_⟩;intro pT;have NY:pT.heap[w6.heap.size]? =some (.cells #[.int .i64 (n:Int)] jl (0,0)):=by
    show(QF.setCell ⟨w6.heap.size,0,none⟩ (.int .i64 (n:Int))).heap[w6.heap.size]? =_;rw [cU (yO.heap Oa (fun h=>h)) 0];rfl
   have Eb:Kept (· =w6.heap.size) QF pT:=Kept.setCell (S:=fun k=>k=w6.heap.size) (Kept.refl _ QF) (p:=⟨w6.heap.size,0,none⟩) (fun _=>rfl) _;clear_value pT;exact⟨TD.aC Eb (fun e=>by omega) (fun e=>by omega),rfl,(yO.mono fun _ _ h=>h.elim).trans Eb (fun _ _ h=>h),n,sI hz h3 hzb,NY⟩
  |none=>
   refine Split.no rfl ⟨TD,yO,ri,fun y hy=>?_⟩;rcases(bH hz).1 hy with hy|rfl
   ·exact h3 y hy
   ·exact hzb
 ·rintro u1 R ⟨h1,h2,h3⟩ nI
  rw [List.take_of_length_le (Nat.le_refl _)]at h3;have e7:gI ρ0 gR.heap.size= [(3,.pointer (some ⟨w.heap.size,0,none⟩)),(5,.pointer (some ⟨w5.heap.size,0,none⟩)),(6,.pointer (some ⟨w6.heap.size,0,none⟩)),(15,xo),(4294967296,.agg (oO [gR.heap.size]))]:=rfl;rw [e7,a7.iT];unfold a7.gA;have kQ:=h1.heap Oa (fun h=>h);refine⟨dM kQ (by simp),?_⟩;intro pT;have NY:pT.heap[w6.heap.size]? =some (.cells #[.int .i64 0] jl (0,0)):=by
   show(u1.setCell ⟨w6.heap.size,0,none⟩ (.int .i64 0)).heap[w6.heap.size]? =_;rw [cU kQ 0];rfl
  have Eb:Kept (· =w6.heap.size) u1 pT:=Kept.setCell (S:=fun k=>k=w6.heap.size) (Kept.refl _ u1) (p:=⟨w6.heap.size,0,none⟩) (fun _=>rfl) _;clear_value pT;have nI:=nI.aC Eb (fun e=>by omega) (fun e=>by omega);rw [lh];have kt:=iU [gR.heap.size] pT;have hm: ∀E∈ [gR.heap.size],pT.heap[E]? =some (.deferred (some [])):=fun E hE=>by
   rw [List.mem_singleton]at hE;subst hE;exact nI.mark
  refine⟨jX [gR.heap.size] pT (by simp) hm,0,by rw [ax (kt.heap NY (fun hE=>by rw [List.mem_singleton]at hE;omega))];rfl,?_⟩;have e0:lY m.sz l b=0:=by
   unfold lY;have:(l.findSome? fun h=>m.sz h b)=none:=List.findSome?_eq_none_iff.2 h3;rw [this];rfl
  have:=hK (fE [gR.heap.size] pT) ((kS ((h1.mono fun _ _ h=>h.elim).trans Eb (fun _ _ h=>h))).trans kt (fun k hk hE=>by rw [List.mem_singleton]at hE;have:=vr.size;omega));rw [e0]at this;exact this
 ·rintro u1 R ⟨_,h2,n,h3,h4⟩ nI
  have e7:gI ρ0 gR.heap.size= [(3,.pointer (some ⟨w.heap.size,0,none⟩)),(5,.pointer (some ⟨w5.heap.size,0,none⟩)),(6,.pointer (some ⟨w6.heap.size,0,none⟩)),(15,xo),(4294967296,.agg (oO [gR.heap.size]))]:=rfl;rw [e7,a7.zZ];unfold a7.u9;rw [lh];have kt:=iU [gR.heap.size] u1;have hm: ∀E∈ [gR.heap.size],u1.heap[E]? =some (.deferred (some [])):=fun E hE=>by
   rw [List.mem_singleton]at hE;subst hE;exact nI.mark
  refine⟨jX [gR.heap.size] u1 (by simp) hm,(n:Int),by rw [ax (kt.heap h4 (fun hE=>by rw [List.mem_singleton]at hE;omega))];rfl,?_⟩;have e0:lY m.sz l b=n:=by unfold lY;rw [h3];rfl
  have:=hK (fE [gR.heap.size] u1) ((kS h2).trans kt (fun k hk hE=>by rw [List.mem_singleton]at hE;have:=vr.size;omega));rw [e0]at this;exact this
 ·rintro id u1 R ⟨e,_⟩ nI
  cases e
end
end Go.Proofs.YtnboahlopghcjaaGreatDoor
namespace Go.Proofs.YtnboahlopghcjaaGreatDoor
open Go.Proofs.Tryz
open Go Go.bV Go.RowKit
section
variable{w:World}
theorem zx{x:HT}: ∀ {l:List (HT×Value)},assoc x l≠none↔x∈l.map (·.1)
 | []=>by simp [assoc]
 |(y,v)::l=>by
  have:=zx (x:=x) (l:=l);unfold assoc;by_cases e:x=y
  ·subst e;simp
  ·rw [if_neg e,this]
   simp only [List.map_cons,List.mem_cons];exact⟨.inr,fun h=>h.resolve_left e⟩
theorem fk.len{mt te:TypeId}{z:Value}(T:vL mt te z){m:Nat}{f:HT->Option Value}(hm:fk w m f)(ty:TypeId){l:List HT}(hn:l.Nodup)(hl: ∀x,f x≠none↔x∈l):
 (Builtin.len_ #[mt] ty #[.map (some m)]).run prog w=.ok (.int .i64 (l.length:Int)) w:=by
 obtain⟨es,clock,l',h1,h2,h3,_,_,h6⟩:=hm.ex;have e1:es.size=l'.length:=by have:=h2.len;simpa using this
 have e2:l'.length=l.length:=by
  have hp:(l'.map (·.1)).Perm l:=(List.perm_ext_iff_of_nodup h6 hn).2 fun x=>by rw [<-zx,h3,hl]
  simpa using hp.length_eq
 simp [Builtin.len_,run_underlying T.og,oY h1,goInt,Result.andThen,e1,e2]
end
section
variable{w w':World}{F S:Nat->Prop}{c k:Nat}{G:GS}{m:CM}{K:Value->World->Prop}
structure VB(w:World)(c:Nat)(s:HT)(bs bc bh q sm:Nat)(ov:HT->Option Nat):Prop where
 hs:w.heap[bs]? =some (.cells #[.pointer (some ⟨q,0,none⟩)] eT (0,0))
 hc:w.heap[bc]? =some (.cells #[.pointer (some ⟨c,0,none⟩)] fI (0,0))
 hh:w.heap[bh]? =some (.cells s.1 ag (0,0))
 sz:w.cell? ((⟨q,0,none⟩:Addr).add 35)=some (.map (some sm))
 ov:fk w sm (I0 ov)
theorem VB.aC{S:Nat->Prop}{s:HT}{bs bc bh q sm:Nat}{ov:HT->Option Nat}(h:VB w c s bs bc bh q sm ov)(hk:Kept S w w')(h1: ¬S bs)(h2: ¬S bc)(h3: ¬S bh)(h4: ¬S q)(h5: ¬S sm):VB w' c s bs bc bh q sm ov:=
 ⟨hk.heap h.hs h1,hk.heap h.hc h2,hk.heap h.hh h3,hk.cell h.sz h4,h.ov.aC hk h5⟩
theorem VB.same{s:HT}{bs bc bh q sm:Nat}{ov:HT->Option Nat}(h:VB w c s bs bc bh q sm ov)(hk:Kept Nil w w'):VB w' c s bs bc bh q sm ov:=h.aC hk (fun h=>h) (fun h=>h) (fun h=>h) (fun h=>h) (fun h=>h)
theorem zi(h:CV w F c k G m)(hD:G.D.length<=5000){s b:HT}(hs:s∈ids G.D){l:List HT}(hc:cM G.D G.P s l){bs bc bh q sm:Nat}{ov:HT->Option Nat}(V:VB w c s bs bc bh q sm ov)
 (hK: ∀w',Kept Nil w w'->K (.int .i64 ((qL ov (lY m.sz l) b:Nat):Int)) w'):
 bn prog bQ.id #[.agg b.1,.pointer (some ⟨bs,0,none⟩),.pointer (some ⟨bc,0,none⟩),.pointer (some ⟨bh,0,none⟩)] w K:=by
 refine bQ.of ?_;unfold bQ.W;intro w4 w5;have k4:Kept Nil w w4:=(Kept.refl _ _).alloc _;have qi:w4.heap[w.heap.size]? =some (.cells b.1 ag (0,0)):=aJ w _;have k5:Kept Nil w4 w5:=(Kept.refl _ _).drew;clear_value w5;have mv:=k5.heap qi (fun h=>h);have qa:=k4.trans k5 (fun _ _ h=>h);have V5:=V.same qa;refine⟨some ⟨q,0,none⟩,by rw [ax V5.hs];rfl,_,V5.sz,b.1,⟨b.2.1,Cells.bC mv⟩,?_⟩;have lk:=V5.ov.Cv qJ b;unfold I0 at lk;cases hb:ov b with
 |some n=>
  rw [hb]at lk;refine⟨(n:Int),true,lk,Split.yes rfl ?_⟩;have:=hK w5 qa;unfold qL at this;rw [hb]at this;exact this
 |none=>
  rw [hb]at lk;refine⟨0,false,lk,Split.no rfl ⟨some ⟨c,0,none⟩,by rw [ax V5.hc];rfl,s.1,⟨s.2.1,Cells.bC V5.hh⟩,b.1,⟨b.2.1,Cells.bC mv⟩,?_⟩⟩;refine Bq (h.same qa) hD hs hc fun w7 k7=>⟨_,rfl,?_⟩;have:=hK w7 (qa.trans k7 (fun _ _ h=>h));unfold qL at this;rw [hb]at this;exact this
def xD(w:World)(fm:Nat)(kn:HT->Nat)(done:List HT):Prop:=fk w fm fun y=>if y∈done then some (.int .i64 (kn y:Int))else none
theorem zg(h:CV w F c k G m)(hD:G.D.length<=5000)(pP:k<=1000){s b:HT}(hs:s∈ids G.D){l:List HT}(hc:cM G.D G.P s l){bs bc bh q sm kb fb fm:Nat}{ov:HT->Option Nat}(V:VB w c s bs bc bh q sm ov)
 (LI:w.heap[kb]? =some (.cells #[.func (.func bQ.id) #[] #[.pointer (some ⟨bs,0,none⟩),.pointer (some ⟨bc,0,none⟩),.pointer (some ⟨bh,0,none⟩)]] eW (0,0)))
 (Qc:w.heap[fb]? =some (.cells #[.map (some fm)] ck (0,0))) {done:List HT} (hn:done.Nodup) (WK:b∉done) (hF:xD w fm (qL ov (lY m.sz l)) done) (hfo: ¬m.own c fm) (hff: ¬F fm) (fG:bc≠fm)
 (hK: ∀w' (r:Bool),r=qE k (qL ov (lY m.sz l)) done b->xD w' fm (qL ov (lY m.sz l)) (done++ [b])->Kept (· =fm) w w'->K (.bool r) w'):
 bn prog cj.id #[.agg b.1,.pointer (some ⟨kb,0,none⟩),.pointer (some ⟨fb,0,none⟩),.pointer (some ⟨bc,0,none⟩)] w K:=by
 have lfm:=hF.lt;refine cj.of ?_;unfold cj.W;intro w4 w5;have k4:Kept Nil w w4:=(Kept.refl _ _).alloc _;have qi:w4.heap[w.heap.size]? =some (.cells b.1 ag (0,0)):=aJ w _;have k5:Kept Nil w4 w5:=(Kept.refl _ _).drew;clear_value w5;have mv:=k5.heap qi (fun h=>h);have qa:=k4.trans k5 (fun _ _ h=>h);have hnf:fb≠fm:=fun e=>by subst e;obtain⟨es,cl,_,h1,_⟩:=hF.ex;rw [Qc]at h1;cases h1
 refine⟨some fm,by rw [ax (qa.heap Qc (fun h=>h))];rfl,b.1,⟨b.2.1,Cells.bC mv⟩,_,by rw [ax (qa.heap LI (fun h=>h))];rfl,b.1,⟨b.2.1,Cells.bC mv⟩,?_⟩;refine⟨_,_,_,_,rfl,bQ.at_,rfl,?_⟩;refine zi (h.same qa) hD hs hc (V.same qa) fun w7 k7=>⟨_,rfl,⟨b.1,rfl,b.2.1,Cells.bC (k7.heap mv (fun h=>h))⟩,?_,?_⟩
 ·rw [ax ((qa.trans k7 (fun _ _ h=>h)).heap Qc (fun h=>h))];rfl
 have xG:=qa.trans k7 (fun _ _ h=>h);obtain⟨w8,Wt,hm8,k8⟩:=(hF.same xG).put qJ b (.int .i64 ((qL ov (lY m.sz l) b:Nat):Int));refine⟨w8,Wt,?_⟩;intro w9;have k9:Kept Nil w8 w9:=(Kept.refl _ _).drew;clear_value w9;have k89:Kept (· =fm) w7 w9:=k8.trans k9 (fun _ _ h=>h.elim);have Eg:Kept (· =fm) w w9:=(xG.mono fun _ _ h=>h.elim).trans k89 (fun _ _ h=>h);have Qi:xD w9 fm (qL ov (lY m.sz l)) (done++ [b]):=by
  refine fk.same ?_ k9;have e:(fun y=>if y∈done++ [b]then some (Value.int .i64 ((qL ov (lY m.sz l) y:Nat):Int))else none)=fun x=>if x=b then some (.int .i64 ((qL ov (lY m.sz l) b:Nat):Int))else if x∈done then some (.int .i64 ((qL ov (lY m.sz l) x:Nat):Int))else none:=by
   funext y
   by_cases e:y=b
   ·subst e;rw [if_pos (by simp),if_pos rfl]
   ·rw [if_neg e]
    by_cases hy:y∈done
    ·rw [if_pos (List.mem_append_left _ hy),if_pos hy]
    ·rw [if_neg (by simp [hy,e]),if_neg hy]
  rw [e];exact hm8
 have hb9:w9.heap[w.heap.size]? =some (.cells b.1 ag (0,0)):=((k7.mono fun _ _ h=>h.elim).trans k89 (fun _ _ h=>h):Kept (· =fm) w5 w9).heap mv (by omega);have T6:=Eg.heap Qc hnf;have fw:(done++ [b]).Nodup:=List.nodup_append.2 ⟨hn,by simp,fun x hx y hy e=>by
  have:y=b:=by simpa using hy
  subst this;subst e;exact WK hx⟩
 have h9:CV w9 F c k G m:=h.aC Eg (fun j hj e=>by subst e;exact hfo hj) (fun j hj e=>by subst e;exact hff hj);have hc9:w9.heap[bc]? =some (.cells #[.pointer (some ⟨c,0,none⟩)] fI (0,0)):=Eg.heap V.hc fG;refine⟨some fm,by rw [ax T6];rfl,(done++ [b]).length,Qi.len qJ jl fw (fun x=>by
  by_cases hx:x∈done++ [b]
  ·rw [if_pos hx];exact⟨fun _=>hx,fun _ e=>by cases e⟩
  ·rw [if_neg hx];exact⟨fun e=>absurd rfl e,fun e=>absurd e hx⟩),some ⟨c,0,none⟩,by rw [ax hc9];rfl,(k:Int),h9.c0,?_⟩
 refine Split.dec (fun h1=>?_) (fun h1=>?_)
 ·have lk:=fk.look qJ Qi b
  rw [if_pos (by simp)]at lk;refine⟨some fm,by rw [ax T6];rfl,b.1,⟨b.2.1,Cells.bC hb9⟩,_,lk,some ⟨c,0,none⟩,by rw [ax hc9];rfl,(k:Int),h9.c0,?_⟩;refine hK w9 _ ?_ Qi Eg;unfold qE;rw [List.length_append,List.length_cons,List.length_nil]at h1;refine decide_eq_decide.2 ⟨fun h2=>⟨by omega,by omega⟩,fun h2=>by omega⟩
 ·refine hK w9 false ?_ Qi Eg
  unfold qE;rw [List.length_append,List.length_cons,List.length_nil]at h1;exact(decide_eq_false (by omega)).symm
end
end Go.Proofs.YtnboahlopghcjaaGreatDoor
namespace Go.Proofs.YtnboahlopghcjaaGreatDoor
open Go.Proofs.Tryz
open Go Go.bV Go.RowKit
structure PN where
 bs:Nat
 bc:Nat
 bh:Nat
 q:Nat
 sm:Nat
 kb:Nat
 fb:Nat
 fm:Nat
 yb:Nat
 hb:Nat
def PN.xo(p:PN):Value:=.func (.func cj.id) #[] #[.pointer (some ⟨p.kb,0,none⟩),.pointer (some ⟨p.fb,0,none⟩),.pointer (some ⟨p.bc,0,none⟩)]
def PN.gU(p:PN)(j:Nat):Prop:=p.bs≠j/\p.bc≠j/\p.bh≠j/\p.q≠j/\p.sm≠j/\p.kb≠j/\p.fb≠j
structure PG(w:World)(F:Nat->Prop)(c k:Nat)(G:GS)(m:CM)(s h:HT)(p:PN)(ov:HT->Option Nat):Prop where
 C:CV w F c k G m
 V:VB w c s p.bs p.bc p.bh p.q p.sm ov
 kb:w.heap[p.kb]? =some (.cells #[.func (.func bQ.id) #[] #[.pointer (some ⟨p.bs,0,none⟩),.pointer (some ⟨p.bc,0,none⟩),.pointer (some ⟨p.bh,0,none⟩)]] eW (0,0))
 fb:w.heap[p.fb]? =some (.cells #[.map (some p.fm)] ck (0,0))
 yb:w.cell? ⟨p.yb,0,none⟩=some p.xo
 hb:w.heap[p.hb]? =some (.cells h.1 ag (0,0))
 fo: ¬m.own c p.fm
 ff: ¬F p.fm
 gU:p.gU p.fm
 y:p.yb≠p.fm
 h:p.hb≠p.fm
section
variable{w w' u:World}{F:Nat->Prop}{c k:Nat}{G:GS}{m:CM}{s h:HT}{p:PN}{ov:HT->Option Nat}{K:Value->World->Prop}
theorem PG.aC(B:PG w F c k G m s h p ov)(hk:Kept (· =p.fm) w w'):PG w' F c k G m s h p ov:=by
 obtain⟨f1,f2,f3,f4,f5,f6,f7⟩:=B.gU;exact⟨B.C.aC hk (fun j hj e=>by subst e;exact B.fo hj) (fun j hj e=>by subst e;exact B.ff hj),B.V.aC hk f1 f2 f3 f4 f5,hk.heap B.kb f6,hk.heap B.fb f7,hk.cell B.yb B.y,hk.heap B.hb B.h,B.fo,B.ff,B.gU,B.y,B.h⟩
theorem PG.same(B:PG w F c k G m s h p ov)(hk:Kept Nil w w'):PG w' F c k G m s h p ov:=B.aC (hk.mono fun _ _ h=>h.elim)
theorem rC(B:PG w F c k G m s h p ov)(hD:G.D.length<=5000)(pP:k<=1000)(hs:s∈ids G.D){l:List HT}(hc:cM G.D G.P s l){done:List HT}(hF:xD w p.fm (qL ov (lY m.sz l)) done){b:HT}{zb:Nat}
 (hz:w.heap[zb]? =some (.cells b.1 ag (0,0))) (hzf:zb≠p.fm) (hn:nf G.D b h->(done++ [b]).Nodup) {A T:World->Prop}
 (hA: ∀u,nf G.D b h->qE k (qL ov (lY m.sz l)) done b=false->Kept (· =p.fm) w u->A u)
 (hT: ∀u wy,wy=done++(if nf G.D b h then [b]else [])->(nf G.D b h->qE k (qL ov (lY m.sz l)) done b=true)->xD u p.fm (qL ov (lY m.sz l)) wy->Kept (· =p.fm) w u->T u):
 bn prog cY.id #[.pointer (some ⟨c,0,none⟩),.agg b.1,.agg h.1] w fun x y=> ∃z:Bool,x=.bool z/\Split z (∃a1:Value,y.cell? ⟨p.yb,0,none⟩=some a1/\ ∃b1:Array Value,(b1.size=32/\Cells y ⟨zb,0,none⟩ b1)/\
  ∃(c1:Nat) (d1 e1:Array Value) (f1:Func),(a1:Value)=.func (.func c1) d1 e1/\prog.funcs[c1]? =some f1/\f1.body.isSome=true/\
   bn prog c1 (d1.toList++([.agg b1]:List Value)++e1.toList).toArray y fun g1 i1=> ∃j1:Bool,g1=.bool j1/\Split (!j1) (A i1) (T i1)) (T y):=by
 refine zj B.C hD b h fun y r hr ky=>⟨r,rfl,?_⟩;have kyf:Kept (· =p.fm) w y:=ky.mono fun _ _ h=>h.elim;have By:=B.same ky;cases r with
 |false=>
  have JM: ¬nf G.D b h:=fun e=>by have:=hr.2 e;cases this
  exact Split.no rfl (hT y done (by rw [if_neg JM,List.append_nil]) (fun e=>absurd e JM) (hF.same ky) kyf)
 |true=>
  have ha:=hr.1 rfl;have fw:=hn ha;rw [List.nodup_append]at fw;refine Split.yes rfl ⟨_,By.yb,b.1,⟨b.2.1,Cells.bC (ky.heap hz (fun h=>h))⟩,_,_,_,_,rfl,cj.at_,rfl,?_⟩;refine zg By.C hD pP hs hc By.V By.kb By.fb fw.1 (fun e=>fw.2.2 b e b (by simp) rfl) (hF.same ky) B.fo B.ff B.gU.2.1 fun v r hr hv kv=>⟨r,rfl,?_⟩;have MV:Kept (· =p.fm) w v:=kyf.trans kv (fun _ _ h=>h);cases r with
  |false=>exact Split.yes rfl (hA v ha hr.symm MV)
  |true=>exact Split.no rfl (hT v (done++ [b]) (by rw [if_pos ha]) (fun _=>hr.symm) hv MV)
end
end Go.Proofs.YtnboahlopghcjaaGreatDoor
namespace Go.Proofs.YtnboahlopghcjaaGreatDoor
open Go.Proofs.Tryz
open Go Go.bV Go.RowKit
structure PG0(w:World)(F:Nat->Prop)(c k:Nat)(G:GS)(m:CM)(s:HT)(p:PN)(ov:HT->Option Nat):Prop where
 C:CV w F c k G m
 V:VB w c s p.bs p.bc p.bh p.q p.sm ov
 kb:w.heap[p.kb]? =some (.cells #[.func (.func bQ.id) #[] #[.pointer (some ⟨p.bs,0,none⟩),.pointer (some ⟨p.bc,0,none⟩),.pointer (some ⟨p.bh,0,none⟩)]] eW (0,0))
 fb:w.heap[p.fb]? =some (.cells #[.map (some p.fm)] ck (0,0))
 fo: ¬m.own c p.fm
 ff: ¬F p.fm
 gU:p.gU p.fm
theorem cR: ∀ {l m:List HT},l.Nodup->(∀x∈l,x∈m)->l.length<=m.length
 | [],_,_,_=>Nat.zero_le _
 |x::l,m,hn,hm=>by
  rw [List.nodup_cons]at hn;have hx:=hm x List.mem_cons_self;have:=cR (m:=m.erase x) hn.2 fun y hy=>(List.mem_erase_of_ne (fun e=>hn.1 (by rw [<-e];exact hy))).2 (hm y (List.mem_cons_of_mem _ hy));rw [List.length_erase_of_mem hx]at this;have h0:=List.length_pos_of_mem hx;rw [List.length_cons];omega
theorem HS.get_mem{w:World}{A:Option Addr}{n:Nat}{l:List HT}(hl:HS w A n l){i:Nat}(hi:i<n): ∃y,l[i]? =some y:=⟨_,List.getElem?_eq_getElem (by have:=hl.len;omega)⟩
theorem yu{D:DG}{l:List HT}{h x:HT}{i:Nat}(hx:l[i]? =some x):bN D (l.take (i+1)) h=bN D (l.take i) h++if nf D x h then [x]else []:=by
 have e:l.take (i+1)=l.take i++ [x]:=by rw [List.take_add_one,hx];rfl
 rw [e,fu]
 congr 1
 unfold bN;by_cases hp:nf D x h
 ·rw [if_pos hp,List.filter_cons_of_pos (by simpa using hp)];rfl
 ·rw [if_neg hp,List.filter_cons_of_neg (by simpa using hp)];rfl
theorem BJ{m:List HT}{b:List Bool}{x:HT}{y:Bool}{i:Nat}(hx:m[i]? =some x)(hy:b[i]? =some y):cP (m.drop i) (b.drop i)=(if y then [x]else [])++cP (m.drop (i+1)) (b.drop (i+1)):=by
 obtain⟨hi,ex⟩:=List.getElem?_eq_some_iff.1 hx;obtain⟨hj,ey⟩:=List.getElem?_eq_some_iff.1 hy;rw [List.drop_eq_getElem_cons hi,List.drop_eq_getElem_cons hj,ex,ey];cases y<;>rfl
theorem ek(c:oc)(A:Option Addr)(n cp:Nat)(B:Option Addr)(m cq:Nat): ∀v∈(cF c A n cp B m cq).toList,v.oneCell'=true:=by
 intro v hv;unfold cF at hv;rw [Array.toList_append,List.mem_append]at hv;rcases hv with hv|hv
 ·exact c.je.2.one v hv
 ·simp only [List.mem_cons,List.not_mem_nil,or_false]at hv
  rcases hv with rfl|rfl|rfl<;>rfl
section
variable{w w':World}{F:Nat->Prop}{c k:Nat}{G:GS}{m:CM}{s:HT}{p:PN}{ov:HT->Option Nat}{K:Value->World->Prop}
theorem BO{kn:HT->Nat}{done rest jN:List HT}{b:HT}(e:done++b::rest=jN)(h:qE k kn done b=false):eR k kn [] jN=false:=by
 rw [<-e,lP,List.nil_append,eR,h,Bool.false_and,Bool.and_false]
theorem xz{kn:HT->Nat}{done:List HT}{b:HT}(h:eR k kn [] done=true)(hb:qE k kn done b=true):eR k kn [] (done++ [b])=true:=by
 rw [lP,h,List.nil_append,eR,hb,Bool.true_and,Bool.true_and];rfl
theorem zh(B:PG0 w F c k G m s p ov)(hD:G.D.length<=5000)(pP:k<=1000)(hs:s∈ids G.D){l:List HT}(hc:cM G.D G.P s l){h:HT}{bb:Nat}{A:Option Addr}{n cx:Nat}{bl:List HT}
 (vz:w.heap[bb]? =some (.cells #[.slice A n cx] az (0,0))) (WL:bb≠p.fm) (vy:HS w A n bl) (hAf: ∀a,A=some a->a.block≠p.fm) (hn:n<=10000) (hF:xD w p.fm (qL ov (lY m.sz l)) []) (wq:(nM G h bl l).Nodup)
 (hK: ∀w' (r:Bool),r=eR k (qL ov (lY m.sz l)) [] (nM G h bl l)->(r=true->xD w' p.fm (qL ov (lY m.sz l)) (nM G h bl l))->Kept (· =p.fm) w w'->K (.bool r) w'):
 bn prog af.id #[.agg h.1,p.xo,.pointer (some ⟨bb,0,none⟩),.pointer (some ⟨p.bc,0,none⟩),.pointer (some ⟨p.bh,0,none⟩)] w K:=by
 have W:=B.C.eM.W;have H:=B.C.eM.je;have LH: ∀y∈l,y∈ids G.D:=fun y hy=>((hc.mem W H).1 hy).mem.1;have hlen:=vy.len;have lfm:=hF.lt;refine af.of ?_;unfold af.W;intro w4 w5 w6;have k4:Kept Nil w w4:=(Kept.refl _ _).alloc _;have hh4:w4.heap[w.heap.size]? =some (.cells h.1 ag (0,0)):=aJ w _;have k5:Kept Nil w4 w5:=(Kept.refl _ _).alloc _;obtain⟨ty,hy5⟩: ∃ty:TypeId,w5.heap[w4.heap.size]? =some (.cells #[p.xo] ty (0,0)):=⟨_,aJ w4 _⟩;have k6:Kept Nil w5 w6:=(Kept.refl _ _).alloc _;have hr6:w6.heap[w5.heap.size]? =some (.cells #[.bool false] gQ (0,0)):=aJ w5 _;clear_value w6;have hy6:=k6.heap hy5 (fun h=>h);have hh6:=k6.heap (k5.heap hh4 (fun h=>h)) (fun h=>h);have mL:=(k4.trans k5 (fun _ _ h=>h)).trans k6 (fun _ _ h=>h);have s4:=k4.size;have s5:=k5.size;have s6:=k6.size;have l4:=aQ hh4;have l5:=aQ hy5;have l6:=aQ hr6;clear_value w5 w4;obtain⟨p',JI,vA,Eu,aa0,aaY⟩: ∃p':PN,p'= {p with yb:=w4.heap.size,hb:=w.heap.size}/\p'.xo=p.xo/\p'.fm=p.fm/\p'.bc=p.bc/\p'.bh=p.bh:=⟨_,rfl,rfl,rfl,rfl,rfl⟩;have eyb:p'.yb=w4.heap.size:=by rw [JI]
 have W8:p'.hb=w.heap.size:=by rw [JI]
 have B6:PG w6 F c k G m s h p' ov:=by
  rw [JI];exact⟨B.C.same mL,B.V.same mL,mL.heap B.kb (fun h=>h),mL.heap B.fb (fun h=>h),by show w6.cell? ⟨w4.heap.size,0,none⟩=_;rw [ax hy6];rfl,hh6,B.fo,B.ff,B.gU,(by show w4.heap.size≠p.fm;omega),(by show w.heap.size≠p.fm;omega)⟩
 generalize vw:qL ov (lY m.sz l)=kn at*;have hF6:xD w6 p'.fm kn []:=by rw [Eu];exact hF.same mL
 generalize jo:nM G h bl l=jN at*;have qh:bN G.D bl h++xN G h l=jN:=jo;rw [<-Eu]at WL hAf lfm;have hK': ∀w' (r:Bool),r=eR k kn [] jN->(r=true->xD w' p'.fm kn jN)->Kept (· =p'.fm) w w'->K (.bool r) w':=by rw [Eu];exact hK
 have kA: ∀ {v:World},Kept (· =p'.fm) w6 v->Kept (· =p'.fm) w v:=fun k=>(mL.mono fun _ _ h=>h.elim).trans k (fun _ _ h=>h);have fin: ∀ {v:World} (r:Bool),Kept (· =p'.fm) w6 v-> ∃u:World,u=v.setCell ⟨w5.heap.size,0,none⟩ (.bool r)/\Wr v ⟨w5.heap.size,0,none⟩/\u.heap[w5.heap.size]? =some (.cells #[.bool r] gQ (0,0))/\Kept (· =w5.heap.size) v u:=fun {v} r kv=>by
  have hr:=kv.heap hr6 (by omega);refine⟨_,rfl,dM hr (by simp),?_,Kept.setCell (S:=fun k=>k=w5.heap.size) (Kept.refl _ v) (p:=⟨w5.heap.size,0,none⟩) (fun _=>rfl) _⟩;rw [cU hr 0];rfl
 have Yo: ∀ {v u:World},Kept (· =p'.fm) w6 v->Kept (· =w5.heap.size) v u->Kept (· =p'.fm) w u:=fun kv ku=>⟨ku.os.trans (kA kv).os,ku.tape.trans (kA kv).tape,ku.output.trans (kA kv).output,Nat.le_trans (kA kv).size ku.size,fun j hj hn=>by rw [ku.block j (Nat.lt_of_lt_of_le hj (kA kv).size) (by omega),(kA kv).block j hj hn]⟩;refine⟨A,n,cx,by rw [ax (mL.heap vz (fun h=>h))];rfl,?_⟩;rw [<-aa0,<-aaY];refine af.b6 (I:=fun s0 v=> ∃i:Nat,s0=(i:Int)/\i<=n/\xD v p'.fm kn (bN G.D (bl.take i) h)/\eR k kn [] (bN G.D (bl.take i) h)=true/\Kept (· =p'.fm) w6 v) (μ:=fun s0 _=>((n:Int)-s0).toNat) (s:=0) ⟨0,rfl,Nat.zero_le _,hF6,rfl,Kept.refl _ _⟩ ?_;rintro s0 v ⟨i,rfl,hi,hFv,cS,kv⟩;have Bv:=B6.aC kv;refine Split.dec (fun jf=>?_) (fun gu=>?_)
 ·have dP:i<n:=by omega
  obtain⟨b,hb⟩:=vy.get_mem dP;have aaW:HS v A n bl:=vy.aC (kA kv) hAf;refine aaW.load (i:=(i:Int)) (by omega) hb ?_;intro kN;obtain⟨qP,iC,iI⟩:=fT (w:=v) (z:=dL.1) (cs:=b.1) (t:=ag) (by rw [b.2.1];rfl);refine⟨⟨b.2.1,b.2.one,fun j hj=>qP j (by rw [b.2.1];exact hj)⟩,?_⟩;intro iz
  replace iC:iz.heap[v.heap.size]? =some (.cells b.1 ag (0,0)):=iC
  replace iI:Kept Nil v iz:=iI
  clear_value iz;have sv:=(kA kv).size;have PC:=Bv.same iI;have e1:=yu (D:=G.D) (h:=h) hb;have e2: ∃rest,bN G.D (bl.take i) h++(if nf G.D b h then [b]else [])++rest=jN:=by
   refine⟨bN G.D (bl.drop (i+1)) h++xN G h l,?_⟩;rw [<-e1,<-qh,<-List.append_assoc,<-fu,List.take_append_drop]
  obtain⟨rest,e2⟩:=e2;refine⟨some ⟨c,0,none⟩,by rw [ax PC.V.hc];rfl,b.1,⟨b.2.1,Cells.bC iC⟩,h.1,⟨h.2.1,by have:=PC.hb;rw [W8]at this;exact Cells.bC this⟩,?_⟩;rw [<-eyb];refine rC PC hD pP hs hc (done:=bN G.D (bl.take i) h) (by rw [vw];exact hFv.same iI) iC (by omega) (fun ha=>by
   rw [if_pos ha]at e2;rw [<-e2]at wq;exact(List.nodup_append.1 wq).1) ?_ ?_
  ·intro u ha hp ku
   rw [vw]at hp;have PL:Kept (· =p'.fm) w6 u:=(kv.trans iI (fun _ _ h=>h.elim)).trans ku (fun _ _ h=>h);obtain⟨u',eu,hw,Sv,kuu⟩:=fin false PL;refine⟨hw,?_⟩;intro Mr;have e30:Mr=u':=eu.symm;rw [im,af.Mk,e30];rw [if_pos ha,List.append_assoc]at e2;exact⟨false,by rw [ax Sv];rfl,hK' u' false (BO e2 hp).symm (fun e=>by cases e) (Yo PL kuu)⟩
  ·intro u wy ed hp L7 ku
   rw [vw]at hp L7;have PL:Kept (· =p'.fm) w6 u:=(kv.trans iI (fun _ _ h=>h.elim)).trans ku (fun _ _ h=>h);rw [dE (n:=(i:Int)) (by omega) (by omega)];refine⟨(i:Int)+1,rfl,⟨i+1,rfl,dP,?_,?_,PL⟩,by simp only;omega⟩
   ·rw [e1,<-ed];exact L7
   ·rw [e1]
    by_cases ha:nf G.D b h
    ·rw [if_pos ha];exact xz cS (hp ha)
    ·rw [if_neg ha,List.append_nil];exact cS
 ·rw [aS,af.cX]
  rw [List.take_of_length_le (by omega)]at cS hFv;unfold af.cJ;intro ra;have AJ:Kept Nil v ra:=(Kept.refl _ _).drew;clear_value ra;have B33:=Bv.same AJ;refine⟨some ⟨c,0,none⟩,by rw [ax B33.V.hc];rfl,_,B33.C.c1,s.1,⟨s.2.1,Cells.bC B33.V.hh⟩,?_⟩;refine oF s fun gR pb qb lV Be Bb zU hqb=>⟨_,rfl,?_⟩;have MY:Kept Nil v gR:=AJ.trans lV (fun _ _ h=>h);have Jl:Kept (· =p'.fm) w6 gR:=kv.trans MY (fun _ _ h=>h.elim);have B35:=Bv.same MY;have afI:=Jl.size;have abB:xD gR p'.fm kn (bN G.D bl h):=hFv.same MY
  let xo:Value:=.func (.func aV.id) #[] #[.pointer (some ⟨pb,0,none⟩),.pointer (some ⟨qb,0,none⟩)]
  let ρ0:Env:= [(3,.pointer (some ⟨p'.bc,0,none⟩)),(5,.pointer (some ⟨w.heap.size,0,none⟩)),(6,.pointer (some ⟨w4.heap.size,0,none⟩)),(7,.pointer (some ⟨w5.heap.size,0,none⟩)),(36,xo)]
  let J:Nat->World->Prop:=fun j u=> ∃done:List HT,done++xN G h (l.drop j)=jN/\xD u p'.fm kn done/\eR k kn [] done=true/\Kept (· =p'.fm) gR u/\j<=l.length
  let Jd:Code->World->Prop:=fun e u=>e=.ret/\ ∃r:Bool,u.heap[w5.heap.size]? =some (.cells #[.bool r] gQ (0,0))/\r=eR k kn [] jN/\(r=true->xD u p'.fm kn jN)/\Kept (fun j=>j=p'.fm\/j=w5.heap.size) gR u
  have lpb:=aQ Be;have lqb:=aQ Bb;have afE:=AJ.size;have svw:=(kA kv).size;obtain⟨mx,X35,P0⟩:=B35.C.X;have XJ: ∀ {u:World},Kept (· =p'.fm) gR u->XV u m.FX m.x G.D G.P mx:=fun k=>X35.aC k (fun j hj e=>by subst e;rw [Eu]at hj;exact B.fo (.inl (P0 _ hj))) (fun j hj e=>by subst e;rw [Eu]at hj;exact B.ff (B.C.fx _ hj))
  change Holds none [] prog _ _ _ ρ0 gR
  have out: ∀ {u:World} {R:Loop} (r:Bool),Kept (· =p'.fm) gR u->Live (gR.heap.size+1) gR.heap.size R u->r=eR k kn [] jN->(r=true->xD u p'.fm kn jN)->Wr u ⟨w5.heap.size,0,none⟩/\ ∀u',u'=u.setCell ⟨w5.heap.size,0,none⟩ (.bool r)->Live (gR.heap.size+1) gR.heap.size R u'/\Jd .ret u':=fun {u R} r ku hl hr hf=>by
   obtain⟨u0,e0,t1,t2,t3⟩:=fin r (Jl.trans ku (fun _ _ h=>h));refine⟨t1,fun u' eu=>?_⟩;rw [eu,<-e0];refine⟨hl.aC t3 (by omega) (by omega),rfl,r,t2,hr,fun e=>(hf e).aC t3 (by omega),(ku.mono fun _ _ h=>.inl h).trans t3 (fun _ _ h=>.inr h)⟩
  refine lF (n:=90) (ρ:=ρ0) (ρ0:=ρ0) ng mix af.k (t:=36) (ps:= #[37]) (by kernel_rfl) (by decide) rfl aV.at_ rfl (.inl rfl) (fun i x hi hx=>hx) rfl pG l (fun _=>rfl) (fun q hq=>by
   have Vs:q=37:=by simpa using hq
   subst Vs;exact⟨by decide,by decide⟩) (wG (F:=m.FX) (x:=m.x) (m:=mx) (pb:=pb) (qb:=qb) hc (by omega)) J Jd ?_ ?_ (fun j u ⟨done,_,_,_,kJ,_⟩=>⟨XJ kJ,kJ.heap Be (by omega),kJ.heap Bb (by omega)⟩) ?_ ?_ ?_ ?_ ?_
  ·rintro j u1 u2 R nI ⟨done,h1,h2,h3,h4,h5⟩ mu
   exact⟨done,h1,h2.aC mu (by omega),h3,h4.trans mu (fun k hk e=>by omega),h5⟩
  ·rintro e u1 u2 R nI ⟨h1,r,h2,h3,h4,h5⟩ mu
   exact⟨h1,r,mu.heap h2 (by omega),h3,fun e=>(h4 e).aC mu (by omega),h5.trans mu (fun k hk e=>by omega)⟩
  ·intro R
   have ka:Kept Nil gR ((gR.alloc (.deferred (some []))).alloc (.loop R)):=(((Kept.refl _ _).alloc _).alloc _);exact⟨bN G.D bl h,qh,abB.same ka,cS,ka.mono fun _ _ h=>h.elim,Nat.zero_le _⟩
  ·rintro j z u1 R hz ⟨done,h1,h2,h3,h4,h5⟩ nI
   have e7:jV ρ0 ((#[37]:Array Nat).toList.zip (pG z))= [(3,.pointer (some ⟨p'.bc,0,none⟩)),(5,.pointer (some ⟨w.heap.size,0,none⟩)),(6,.pointer (some ⟨w4.heap.size,0,none⟩)),(7,.pointer (some ⟨w5.heap.size,0,none⟩)),(36,xo),(37,.agg z.1)]:=rfl;rw [e7,af.a1];have ri:=(List.getElem?_eq_some_iff.1 hz).1;have Ei:=LH z (List.mem_of_getElem? hz);have Vr:l.drop j=z::l.drop (j+1):=by
    obtain⟨hi,e⟩:=List.getElem?_eq_some_iff.1 hz;rw [List.drop_eq_getElem_cons hi,e]
   rw [Vr,xN]at h1;unfold af.A1;intro E7;obtain⟨qP,iC,iI⟩:=fT (w:=u1) (z:=dL.1) (cs:=z.1) (t:=ag) (by rw [z.2.1];rfl);refine⟨⟨z.2.1,z.2.one,fun j hj=>qP j (by rw [z.2.1];exact hj)⟩,?_⟩;intro E6
   replace iC:E6.heap[u1.heap.size]? =some (.cells z.1 ag (0,0)):=iC
   replace iI:Kept Nil u1 E6:=iI
   clear_value E6;have xi:=nI.aC iI (fun h=>h) (fun h=>h);refine⟨xi,fun w2 R2 mD rh=>?_⟩;have la:=mD.heap iC (iY iC xi.loop);have afL:=h4.size;have qN:Kept (· =p'.fm) gR w2:=(h4.trans iI (fun _ _ h=>h.elim)).trans mD (fun k hk e=>by omega);have O9:xD w2 p'.fm kn done:=(h2.same iI).aC mD (by omega);have B2:=B35.aC qN;rw [af.y1];unfold af.Y1;have e2: ∃rest,done++(if nf G.D z h then [z]else [])++rest=jN:=⟨_,(List.append_assoc _ _ _).trans h1⟩;obtain⟨rest,e2⟩:=e2;refine⟨some ⟨c,0,none⟩,by rw [ax B2.V.hc];rfl,z.1,⟨z.2.1,Cells.bC la⟩,h.1,⟨h.2.1,by have:=B2.hb;rw [W8]at this;exact Cells.bC this⟩,?_⟩;rw [<-eyb];refine rC B2 hD pP hs hc (done:=done) (by rw [vw];exact O9) la (by omega) (fun ha=>by
    rw [if_pos ha]at e2;rw [<-e2]at wq;exact(List.nodup_append.1 wq).1) ?_ ?_
   ·intro u ha hp ku
    rw [vw]at hp;rw [if_pos ha,List.append_assoc]at e2;obtain⟨o1,o2⟩:=out (u:=u) false (qN.trans ku (fun _ _ h=>h)) (rh.aC ku (by omega) (by omega)) (BO e2 hp).symm (fun e=>by cases e);refine⟨o1,?_⟩;intro Xx;exact o2 Xx rfl
   ·intro u wy ed hp L7 ku
    rw [vw]at hp L7;have Yz:=qN.trans ku (fun _ _ h=>h);have hlu:=rh.aC ku (by omega) (by omega);have L4:eR k kn [] wy=true:=by
     rw [ed];by_cases ha:nf G.D z h
     ·rw [if_pos ha];exact xz h3 (hp ha)
     ·rw [if_neg ha,List.append_nil];exact h3
    rw [<-List.append_assoc,<-ed]at h1;intro Xw;have k61:Kept Nil u Xw:=(Kept.refl _ _).drew;clear_value Xw;have Nc:Kept (· =p'.fm) w2 Xw:=ku.trans k61 (fun _ _ h=>h.elim);have Xl:=B2.aC Nc;have YH:=Nc.heap la (by omega);obtain⟨mx1,X61,_⟩:=Xl.C.X;refine⟨some ⟨c,0,none⟩,by rw [ax Xl.V.hc];rfl,_,Xl.C.c1,z.1,⟨z.2.1,Cells.bC YH⟩,h.1,⟨h.2.1,by have:=Xl.hb;rw [W8]at this;exact Cells.bC this⟩,?_⟩;refine kX X61 hD z h fun E0 r hr Ea=>⟨r,rfl,?_⟩;have Jg:Kept Nil u E0:=k61.trans Ea (fun _ _ h=>h);have Tx:=hlu.aC Jg (fun h=>h) (fun h=>h);have RQ:=Yz.trans Jg (fun _ _ h=>h.elim);have abz:=L7.same Jg;cases r with
    |true=>
     have Bl:=hr.1 rfl;rw [if_pos Bl,List.append_nil]at h1;obtain⟨o1,o2⟩:=out (u:=E0) true RQ Tx (by rw [<-h1,L4]) (fun _=>by rw [<-h1];exact abz);refine Split.yes rfl ⟨o1,?_⟩;intro Mq;exact o2 Mq rfl
    |false=>
     have Tj: ¬eZ G.D z h:=fun e=>by have:=hr.2 e;cases this
     rw [if_neg Tj]at h1;refine Split.no rfl ?_;intro Fs;have K2:Kept Nil E0 Fs:=(Kept.refl _ _).drew;clear_value Fs;have Js:Kept (· =p'.fm) w2 Fs:=Nc.trans (Ea.trans K2 (fun _ _ h=>h)) (fun _ _ h=>h.elim);have VW:=B2.aC Js;have Sb:=Js.heap la (by omega);obtain⟨A1,n1,c1,B1,m1,d1,s1,sa⟩:=VW.C.seen z Ei;refine⟨some ⟨c,0,none⟩,by rw [ax VW.V.hc];rfl,_,VW.C.c2,z.1,⟨z.2.1,Cells.bC Sb⟩,_,VW.C.lH Ei,_,⟨aY ..,sa.ga⟩,?_⟩;intro w73;have Yq:Kept Nil Fs w73:=(Kept.refl _ _).alloc _;obtain⟨NF,zc,xj⟩:=fT (w:=Fs) (z:=zC) (cs:=cF (G.ga z) A1 n1 c1 B1 m1 d1) (t:=bk) (by rw [aY];rfl);have B73:=VW.same Yq;refine⟨⟨_,rfl,aY ..,(sa.aC Yq (fun _ _ h=>h)).ga⟩,B73.C.lH Ei,⟨z.1,rfl,z.2.1,Cells.bC (Yq.heap Sb (fun h=>h))⟩,B73.C.c2,by rw [ax B73.V.hc];rfl,⟨aY ..,ek _ _ _ _ _ _ _,fun j hj=>NF j (by rw [aY];exact hj)⟩,?_⟩;intro PE
     replace zc:PE.heap[Fs.heap.size]? =some (.cells (cF (G.ga z) A1 n1 c1 B1 m1 d1) bk (0,0)):=zc
     replace xj:Kept Nil Fs PE:=xj
     clear_value PE w73;have Ry:Kept Nil u PE:=Jg.trans (K2.trans xj (fun _ _ h=>h)) (fun _ _ h=>h);have RT:Kept (· =p'.fm) w2 PE:=Js.trans xj (fun _ _ h=>h.elim);have afO:=RT.size;have afP:=Js.size;have s2:=qN.size;have aii:=hlu.aC Ry (fun h=>h) (fun h=>h);have XI:=sa.aC xj (fun _ _ h=>h);have aec:=sa.mg.len;have Uv:=sa.bl.len;have hff: ∀j,F j->j≠p'.fm:=fun j hj e=>by rw [Eu]at e;subst e;exact B.ff hj
     have hcg:=eN (G.ga z) A1 n1 c1 B1 m1 d1 #[];rw [Array.append_empty]at hcg;refine⟨A1,n1,c1,by rw [ba,ax zc];exact hcg.2.1,?_⟩;have aeg:(G.ga z).de.length=(G.ga z).merge.length:=by
      rcases(cM.ex H z)with⟨lz,cz⟩;rcases cz.inv W H Ei with⟨_,nd,h0,rfl⟩|⟨t,r',_,om,_,_⟩
      ·obtain⟨r1,_⟩:=B.C.eM.root nd h0
       rw [r1];rfl
      ·exact(B.C.eM.up t z om).2.2.1
     have JP:(G.ga z).merge.length<=G.D.length:=by
      have fw:(G.ga z).merge.Nodup/\ ∀y∈(G.ga z).merge,y∈ids G.D:=by
       rcases(cM.ex H z)with⟨lz,cz⟩;rcases cz.inv W H Ei with⟨_,nd,h0,rfl⟩|⟨t,r',_,om,_,_⟩
       ·obtain⟨r1,_⟩:=B.C.eM.root nd h0
        rw [r1];exact⟨List.nodup_nil,fun y hy=>by cases hy⟩
       ·obtain⟨_,_,_,g1,g2⟩:=B.C.eM.up t z om
        exact⟨g1,fun y hy=>(((g2 y).1 hy).1.mem W).1⟩
      have:=cR fw.1 fw.2
      rwa [fR]at this
     refine af.gD (I:=fun s0 v=> ∃i:Nat,s0=(i:Int)/\i<=n1/\ ∃dn:List HT,dn++(bN G.D (cP ((G.ga z).merge.drop i) ((G.ga z).de.drop i)) h++xN G h (l.drop (j+1)))=jN/\xD v p'.fm kn dn/\eR k kn [] dn=true/\Kept (· =p'.fm) PE v) (μ:=fun s0 _=>((n1:Int)-s0).toNat) (s:=0) ⟨0,rfl,Nat.zero_le _,wy,by rw [List.drop_zero,List.drop_zero];exact h1,L7.same Ry,L4,Kept.refl _ _⟩ ?_;rintro s0 v2 ⟨i2,rfl,Bh,dn,g1,g2,g3,g4⟩;have Gr:Kept (· =p'.fm) w2 v2:=RT.trans g4 (fun _ _ h=>h);have Bv2:=B2.aC Gr;have XH:=XI.aC g4 (fun j hj e=>hff j hj e);have RP:=qN.trans Gr (fun _ _ h=>h);have Tw:=rh.aC Gr (by omega) (by omega);have sv2:=Gr.size;refine Split.dec (fun jf=>?_) (fun gu=>?_)
     ·have dP:i2<n1:=by omega
      obtain⟨b,hb⟩:=XH.mg.get_mem dP;obtain⟨bb2,UB⟩: ∃y,(G.ga z).de[i2]? =some y:=⟨_,List.getElem?_eq_getElem (by omega)⟩;refine XH.mg.load (i:=(i2:Int)) (by omega) hb ?_;intro kN;obtain⟨YU,Ew,vv⟩:=fT (w:=v2) (z:=dL.1) (cs:=b.1) (t:=ag) (by rw [b.2.1];rfl);refine⟨⟨b.2.1,b.2.one,fun j hj=>YU j (by rw [b.2.1];exact hj)⟩,?_⟩;intro iz
      replace Ew:iz.heap[v2.heap.size]? =some (.cells b.1 ag (0,0)):=Ew
      replace vv:Kept Nil v2 iz:=vv
      clear_value iz;have PC:=Bv2.same vv;have Us:=vv.heap (g4.heap zc (by omega)) (fun h=>h);have XL:=XH.aC vv (fun _ _ h=>h);obtain⟨aB,Hy,_,Hp⟩:=XL.bl.at_ i2 bb2 UB;subst Hy;refine⟨some aB,m1,d1,by rw [ba,ax Us];exact hcg.2.2.1,⟨by omega,by omega⟩,bb2,by rw [Int.toNat_natCast,Nat.mul_one];exact Hp,?_⟩;rw [BJ hb UB]at g1;cases bb2 with
      |false=>
       refine Split.no rfl ?_;rw [dE (n:=(i2:Int)) (by omega) (by omega)];exact⟨(i2:Int)+1,rfl,⟨i2+1,rfl,dP,dn,g1,g2.same vv,g3,g4.trans vv (fun _ _ h=>h.elim)⟩,by simp only;omega⟩
      |true=>
       rw [if_pos rfl,fu,List.append_assoc]at g1;have abU:bN G.D [b] h=if nf G.D b h then [b]else []:=by
        unfold bN;by_cases hp:nf G.D b h
        ·rw [if_pos hp,List.filter_cons_of_pos (by simpa using hp)];rfl
        ·rw [if_neg hp,List.filter_cons_of_neg (by simpa using hp)];rfl
       rw [abU,<-List.append_assoc]at g1;refine Split.yes rfl ⟨some ⟨c,0,none⟩,by rw [ax PC.V.hc];rfl,b.1,⟨b.2.1,Cells.bC Ew⟩,h.1,⟨h.2.1,by have:=PC.hb;rw [W8]at this;exact Cells.bC this⟩,?_⟩;refine rC PC hD pP hs hc (done:=dn) (by rw [vw];exact g2.same vv) Ew (by omega) (fun ha=>by
        rw [if_pos ha]at g1;rw [<-g1]at wq;exact(List.nodup_append.1 wq).1) ?_ ?_
       ·intro u2 ha hp Fa
        rw [vw]at hp;rw [if_pos ha,List.append_assoc]at g1;have kk:Kept (· =p'.fm) v2 u2:=(vv.mono fun _ _ h=>h.elim).trans Fa (fun _ _ h=>h);obtain⟨o1,o2⟩:=out (u:=u2) false (RP.trans kk (fun _ _ h=>h)) (Tw.aC kk (by omega) (by omega)) (BO g1 hp).symm (fun e=>by cases e);refine⟨o1,?_⟩;intro Xx;rw [im];exact o2 Xx rfl
       ·intro u2 dn' ed2 P5 U7 Fa
        rw [vw]at P5 U7;have kk:Kept (· =p'.fm) v2 u2:=(vv.mono fun _ _ h=>h.elim).trans Fa (fun _ _ h=>h);rw [dE (n:=(i2:Int)) (by omega) (by omega)];refine⟨(i2:Int)+1,rfl,⟨i2+1,rfl,dP,dn',by rw [ed2];exact g1,U7,?_,g4.trans kk (fun _ _ h=>h)⟩,by simp only;omega⟩;rw [ed2];by_cases ha:nf G.D b h
        ·rw [if_pos ha];exact xz g3 (P5 ha)
        ·rw [if_neg ha,List.append_nil];exact g3
     ·rw [aS,af.Xn]
      unfold af.VK;have en:(G.ga z).merge.drop i2= []:=List.drop_eq_nil_of_le (by omega);rw [en]at g1;exact⟨Tw,dn,by simpa [cP,bN]using g1,g2,g3,RP,ri⟩
  ·rintro u1 R ⟨done,h1,h2,h3,h4,h5⟩ nI
   have e7:gI ρ0 gR.heap.size= [(3,.pointer (some ⟨p'.bc,0,none⟩)),(5,.pointer (some ⟨w.heap.size,0,none⟩)),(6,.pointer (some ⟨w4.heap.size,0,none⟩)),(7,.pointer (some ⟨w5.heap.size,0,none⟩)),(36,xo),(4294967296,.agg (oO [gR.heap.size]))]:=rfl;rw [e7,af.iT];unfold af.gA;have ec:done=jN:=by rw [<-h1,List.drop_of_length_le (Nat.le_refl _),xN,List.append_nil]
   obtain⟨o1,o2⟩:=out (u:=u1) true h4 nI (by rw [<-ec,h3]) (fun _=>by rw [<-ec];exact h2);refine⟨o1,?_⟩;intro pT;obtain⟨Z5,_,r,t1,t2,t3,t4⟩:=o2 pT rfl;clear_value pT;rw [lh];have kt:=iU [gR.heap.size] pT;have hm: ∀E∈ [gR.heap.size],pT.heap[E]? =some (.deferred (some [])):=fun E hE=>by
    rw [List.mem_singleton]at hE;subst hE;exact Z5.mark
   refine⟨jX [gR.heap.size] pT (by simp) hm,r,by rw [ax (kt.heap t1 (fun hE=>by rw [List.mem_singleton]at hE;omega))];rfl,?_⟩;exact hK' _ r t2 (fun e=>(t3 e).aC kt (fun hE=>by rw [List.mem_singleton]at hE;omega)) (((kA Jl).trans t4 (fun j hj e=>by rcases e with e|e;exact e;omega)).trans kt (fun j hj hE=>by rw [List.mem_singleton]at hE;omega))
  ·rintro u1 R ⟨_,r,t1,t2,t3,t4⟩ nI
   have e7:gI ρ0 gR.heap.size= [(3,.pointer (some ⟨p'.bc,0,none⟩)),(5,.pointer (some ⟨w.heap.size,0,none⟩)),(6,.pointer (some ⟨w4.heap.size,0,none⟩)),(7,.pointer (some ⟨w5.heap.size,0,none⟩)),(36,xo),(4294967296,.agg (oO [gR.heap.size]))]:=rfl;rw [e7,af.zZ];unfold af.u9;rw [lh];have kt:=iU [gR.heap.size] u1;have hm: ∀E∈ [gR.heap.size],u1.heap[E]? =some (.deferred (some [])):=fun E hE=>by
    rw [List.mem_singleton]at hE;subst hE;exact nI.mark
   refine⟨jX [gR.heap.size] u1 (by simp) hm,r,by rw [ax (kt.heap t1 (fun hE=>by rw [List.mem_singleton]at hE;omega))];rfl,?_⟩;exact hK' _ r t2 (fun e=>(t3 e).aC kt (fun hE=>by rw [List.mem_singleton]at hE;omega)) (((kA Jl).trans t4 (fun j hj e=>by rcases e with e|e;exact e;omega)).trans kt (fun j hj hE=>by rw [List.mem_singleton]at hE;omega))
  ·rintro id u1 R ⟨e,_⟩ nI
   cases e
end
end Go.Proofs.YtnboahlopghcjaaGreatDoor
