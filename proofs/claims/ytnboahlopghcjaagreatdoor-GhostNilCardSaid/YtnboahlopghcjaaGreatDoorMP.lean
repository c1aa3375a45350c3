import Derived.Test.YtnboahlopghcjaaGreatDoorMI
import Derived.Test.YtnboahlopghcjaaGreatDoorMJ
import Derived.Test.YtnboahlopghcjaaGreatDoorMN
import Derived.Test.YtnboahlopghcjaaGreatDoorMG
set_option linter.unusedVariables false
namespace Go.Proofs.YtnboahlopghcjaaGreatDoor
open Go.Proofs.Tryz
open Go Go.bp
structure p8 where
 kO:HT
 score:Nat
 merge:List HT
 gB:List Bool
structure GS where
 D:DG
 P:List Int
 zQ:List p8
 oD:List (List HT)
def GS.at_(G:GS)(h:HT):Option Nat:=pos h (ids G.D) 0
def GS.gF(G:GS)(h:HT):p8:=((G.at_ h).bind (G.zQ[·]?)).getD ⟨bI,0,[],[]⟩
def GS.world(G:GS)(h:HT):List HT:=((G.at_ h).bind (G.oD[·]?)).getD []
def GS.score(G:GS)(h:HT):Nat:=(G.gF h).score
def gl(G:GS)(a b:HT):Bool:=decide (G.score a<G.score b)||(decide (G.score a=G.score b)&&ck a b)
def vD(G:GS)(a b:HT):Int:=if gl G a b then-1 else if gl G b a then 1 else 0
def bH(G:GS):List HT->HT
 | []=>bI
 |x::l=>l.foldl (fun b y=>if gl G b y then y else b) x
def ln(D:DG)(a b:HT):Prop:=a≠b/\ ¬eB D a b/\ ¬eB D b a
noncomputable instance(D:DG)(a b:HT):Decidable (ln D a b):=Classical.propDecidable _
noncomputable instance(D:DG)(a b:HT):Decidable (eB D a b):=Classical.propDecidable _
noncomputable def bA(D:DG)(l:List HT)(h:HT):List HT:=l.filter fun b=>decide (ln D b h)
def SO(G:GS)(l:List HT):Prop:=l.Pairwise fun a b=>gl G a b=true
noncomputable def pG(D:DG)(s:HT)(l:List HT):List HT:=(cX (dM D l++l)).filter fun h=>decide (h≠s/\ ¬eB D h s)
def r3(G:GS)(x:HT):List HT->List HT
 | []=> [x]
 |y::l=>if gl G x y then x::y::l else y::r3 G x l
noncomputable def b7(G:GS)(s:HT)(l:List HT):List HT:=(pG G.D s l).foldr (r3 G) []
noncomputable def ou(k:Nat)(D:DG)(wd:List HT)(h:HT):Bool:=decide ((bA D wd h).length<=k/\ ∀y∈bA D wd h,(bA D wd y).length+1<=k)
structure VS where
 wd:List HT
 bl:List Bool
noncomputable def mK(k:Nat)(D:DG)(s:VS)(h:HT):VS:=⟨if ou k D s.wd h then s.wd++ [h]else s.wd,s.bl++ [ou k D s.wd h]⟩
noncomputable def eE(k:Nat)(G:GS)(s:HT)(l:List HT):VS:=(b7 G s l).foldl (mK k G.D) ⟨G.world s++ [s],[]⟩
noncomputable def fg(k:Nat)(G:GS)(s:HT)(l:List HT):p8:=⟨s,G.score s+1+(eE k G s l).bl.count true,b7 G s l,(eE k G s l).bl⟩
noncomputable def dz(k:Nat)(G:GS)(h:HT)(ps:List HT):GS:=
 if dt G.D h ps=0 then⟨G.D++ [⟨h,cX ps⟩],G.P++ [(((pos (bH G ps) (ids G.D) 0).getD 0:Nat):Int)],G.zQ++ [fg k G (bH G ps) ps],G.oD++ [(eE k G (bH G ps) ps).wd]⟩else G
def dc(r:HT):GS:=⟨[⟨r,[]⟩],[-1],[⟨bI,0,[],[]⟩],[[]]⟩
def db:List HT->List Bool->List HT
 |h::l,b::m=>if b then h::db l m else db l m
 |_,_=> []
theorem jR(G:GS)(a:HT):gl G a a=false:=by simp [gl,fw]
theorem og{G:GS}{a b c:HT}(h:gl G a b=true)(h':gl G b c=true):gl G a c=true:=by
 simp only [gl,Bool.or_eq_true,Bool.and_eq_true,decide_eq_true_eq]at*;rcases h with h|⟨h,h1⟩
 ·rcases h' with h'|⟨h',h2⟩
  ·exact .inl (by omega)
  ·exact .inl (by omega)
 ·rcases h' with h'|⟨h',h2⟩
  ·exact .inl (by omega)
  ·exact .inr ⟨by omega,iw h1 h2⟩
theorem oh{G:GS}{a b:HT}(h:gl G a b=false)(h':gl G b a=false):a=b:=by
 simp only [gl,Bool.or_eq_false_iff,Bool.and_eq_false_iff,decide_eq_false_iff_not]at*;have e:G.score a=G.score b:=by omega
 obtain⟨_,h2⟩:=h;obtain⟨_,h3⟩:=h';exact mu (by rcases h2 with h2|h2;exact absurd e h2;exact h2) (by rcases h3 with h3|h3;exact absurd e.symm h3;exact h3)
theorem vp{G:GS}{a b:HT}(h:gl G a b=true):gl G b a=false:=by
 cases hb:gl G b a
 ·rfl
 ·have:=og h hb
  rw [jR]at this;cases this
theorem tP{G:GS}{a b:HT}:vD G a b<0↔gl G a b=true:=by
 unfold vD;split
 ·simp_all
 ·split<;>simp_all
theorem EW(G:GS)(a b:HT):vD G a b=if G.score a<G.score b then-1 else if G.score b<G.score a then 1 else kX a b:=by
 unfold vD kX gl;by_cases h1:G.score a<G.score b
 ·simp [h1]
 ·by_cases h2:G.score b<G.score a
  ·have: ¬G.score a=G.score b:=by omega
   simp [h1,h2,this]
  ·have:G.score a=G.score b:=by omega
   simp [this]
theorem SO.cons{G:GS}{x:HT}{l:List HT}:SO G (x::l)↔(∀y∈l,gl G x y=true)/\SO G l:=List.pairwise_cons
theorem SO.nodup{G:GS}{l:List HT}(h:SO G l):l.Nodup:=List.Pairwise.imp (fun {a b} jZ e=>by subst e;rw [jR]at jZ;cases jZ) h
theorem C5{G:GS}: ∀ {l m:List HT},SO G l->SO G m->(∀x,x∈l↔x∈m)->l=m
 | [],[],_,_,_=>rfl
 | [],y::m,_,_,h=>by have:=(h y).2 (by simp);simp at this
 |x::l,[],_,_,h=>by have:=(h x).1 (by simp);simp at this
 |x::l,y::m,hl,hm,h=>by
  rw [SO.cons]at hl hm;have mE:x=y:=by
   rcases List.mem_cons.1 ((h x).1 List.mem_cons_self)with e|e
   ·exact e
   ·rcases List.mem_cons.1 ((h y).2 List.mem_cons_self)with e'|e'
    ·exact e'.symm
    ·have h1:=hm.1 _ e
     have h2:=hl.1 _ e';rw [vp h1]at h2;cases h2
  subst mE;have:l=m:=C5 hl.2 hm.2 fun z=>by
   have hz:=h z;simp only [List.mem_cons]at hz;constructor
   ·intro mH
    rcases hz.1 (.inr mH)with e|e
    ·subst e;have:=hl.1 _ mH;rw [jR]at this;cases this
    ·exact e
   ·intro mH
    rcases hz.2 (.inr mH)with e|e
    ·subst e;have:=hm.1 _ mH;rw [jR]at this;cases this
    ·exact e
  rw [this]
theorem qE{G:GS}{x z:HT}: ∀ {l:List HT},z∈r3 G x l↔z=x\/z∈l
 | []=>by simp [r3]
 |y::l=>by
  unfold r3;split
  ·simp
  ·simp only [List.mem_cons,qE (l:=l)]
   constructor
   ·rintro(h|h|h)<;>simp [h]
   ·rintro(h|h|h)<;>simp [h]
theorem yz{G:GS}{x:HT}: ∀ {l:List HT},SO G l->x∉l->SO G (r3 G x l)
 | [],_,_=>by simp [r3,SO]
 |y::l,h,hx=>by
  have h':=SO.cons.1 h;simp only [List.mem_cons,not_or]at hx;unfold r3;split
  ·rename_i mE
   refine SO.cons.2 ⟨fun z hz=>?_,h⟩;rcases List.mem_cons.1 hz with rfl|hz
   ·exact mE
   ·exact og mE (h'.1 _ hz)
  ·rename_i mE
   refine SO.cons.2 ⟨fun z hz=>?_,yz h'.2 hx.2⟩;rcases qE.1 hz with rfl|hz
   ·cases JE:gl G y z
    ·exact absurd (oh JE (by simpa using mE)).symm hx.1
    ·rfl
   ·exact h'.1 _ hz
theorem mo{G:GS}{z:HT}: ∀ {l:List HT},z∈l.foldr (r3 G) []↔z∈l
 | []=>by simp
 |x::l=>by rw [List.foldr_cons,qE,mo,List.mem_cons]
theorem vM{G:GS}: ∀ {l:List HT},l.Nodup->SO G (l.foldr (r3 G) [])
 | [],_=>List.Pairwise.nil
 |x::l,h=>by
  rw [List.nodup_cons]at h;exact yz (vM h.2) fun e=>h.1 (mo.1 e)
theorem nf(D:DG)(s:HT)(l:List HT):(pG D s l).Nodup:=(gv _).nodup.filter _
theorem qD{D:DG}{s:HT}{l:List HT}{h:HT}:h∈pG D s l↔((h∈ids D/\ ∃p∈l,eB D h p)\/h∈l)/\h≠s/\ ¬eB D h s:=by
 unfold pG dM;rw [List.mem_filter,c9,List.mem_append,iK,decide_eq_true_eq]
theorem gM{G:GS}{s:HT}{l:List HT}{h:HT}:h∈b7 G s l↔((h∈ids G.D/\ ∃p∈l,eB G.D h p)\/h∈l)/\h≠s/\ ¬eB G.D h s:=by
 unfold b7;rw [mo,qD]
theorem jW(G:GS)(s:HT)(l:List HT):SO G (b7 G s l):=vM (nf _ _ _)
theorem sF{G:GS}{s:HT}{l m:List HT}(hs:SO G m)(h: ∀x,x∈m↔x∈pG G.D s l):m=b7 G s l:=
 C5 hs (jW G s l) fun x=>by unfold b7;rw [h,mo]
theorem jv{G:GS}: ∀ {l:List HT},l≠ []->bH G l∈l
 |x::l,_=>by
  have key: ∀(l:List HT) (b:HT),l.foldl (fun b y=>if gl G b y then y else b) b=b\/l.foldl (fun b y=>if gl G b y then y else b) b∈l:=by
   intro l
   induction l with
   |nil=>intro b;exact .inl rfl
   |cons y l ih=>
    intro b;simp only [List.foldl_cons];rcases ih (if gl G b y then y else b)with e|e
    ·rw [e]
     split
     ·exact .inr List.mem_cons_self
     ·exact .inl rfl
    ·exact .inr (List.mem_cons_of_mem _ e)
  rcases key l x with e|e
  ·rw [bH,e];exact List.mem_cons_self
  ·exact List.mem_cons_of_mem _ e
theorem dX(D:DG)(l m:List HT)(h:HT):bA D (l++m) h=bA D l h++bA D m h:=List.filter_append ..
theorem dv{D:DG}{l:List HT}{h b:HT}:b∈bA D l h↔b∈l/\ln D b h:=by unfold bA;rw [List.mem_filter,decide_eq_true_eq]
theorem ln.symm{D:DG}{a b:HT}(h:ln D a b):ln D b a:=⟨h.1.symm,h.2.2,h.2.1⟩
end Go.Proofs.YtnboahlopghcjaaGreatDoor
namespace Go.Proofs.YtnboahlopghcjaaGreatDoor
open Go.Proofs.Tryz
open Go Go.bp
theorem jq{x:HT}: ∀ {m:List HT} {b:List Bool},x∈db m b->x∈m
 |h::l,b::m,hx=>by
  unfold db at hx;split at hx
  ·rcases List.mem_cons.1 hx with e|e
   ·rw [e];exact List.mem_cons_self
   ·exact List.mem_cons_of_mem _ (jq e)
  ·exact List.mem_cons_of_mem _ (jq hx)
 | [],_,hx=>by simp [db]at hx
 |_::_,[],hx=>by simp [db]at hx
theorem kr: ∀ {m:List HT} {b:List Bool},m.Nodup->(db m b).Nodup
 |h::l,b::m,hn=>by
  rw [List.nodup_cons]at hn;unfold db;split
  ·exact List.nodup_cons.2 ⟨fun e=>hn.1 (jq e),kr hn.2⟩
  ·exact kr hn.2
 | [],_,_=>by simp [db]
 |_::_,[],_=>by simp [db]
theorem rm: ∀ {m:List HT} {b:List Bool},b.length=m.length->(db m b).length=b.count true
 |h::l,b::m,hn=>by
  have:=rm (m:=l) (b:=m) (by simpa using hn);unfold db;cases b<;>simp [this]
 | [],[],_=>rfl
 | [],_::_,h=>by simp at h
 |_::_,[],h=>by simp at h
theorem pB{x:HT}{c:Bool}: ∀ {m:List HT} {b:List Bool},b.length=m.length->db (m++ [x]) (b++ [c])=db m b++if c then [x]else []
 |h::l,b::m,hn=>by
  have:=pB (x:=x) (c:=c) (m:=l) (b:=m) (by simpa using hn);simp only [List.cons_append,db,this];cases b<;>simp
 | [],[],_=>by cases c<;>simp [db]
 | [],_::_,h=>by simp at h
 |_::_,[],h=>by simp at h
theorem E9(k:Nat)(D:DG)(wd:List HT): ∀(m:List HT),∃b:List Bool,b.length=m.length/\m.foldl (mK k D) ⟨wd,[]⟩=⟨wd++db m b,b⟩:=by
 intro m
 induction h:m.length generalizing m with
 |zero=>exact⟨[],by simp,by rw [List.length_eq_zero_iff.1 h];simp [db]⟩
 |succ n ih=>
  have fc:m≠ []:=fun e=>by rw [e]at h;simp at h
  obtain⟨m',x,rfl⟩: ∃m' x,m=m'++ [x]:=⟨m.dropLast,m.getLast fc,(List.dropLast_concat_getLast fc).symm⟩;obtain⟨b,h1,h2⟩:=ih m' (by simpa using h);have h1:b.length=m'.length:=by rw [List.length_append,List.length_cons,List.length_nil]at h;omega
  refine⟨b++ [ou k D (wd++db m' b) x],by simp only [List.length_append,List.length_cons,List.length_nil]at h⊢;omega,?_⟩;rw [List.foldl_append,h2,List.foldl_cons,List.foldl_nil,pB h1];unfold mK;cases ou k D (wd++db m' b) x<;>simp
theorem p9(k:Nat)(G:GS)(s:HT)(l:List HT):(eE k G s l).bl.length=(b7 G s l).length/\(eE k G s l).wd=G.world s++ [s]++db (b7 G s l) (eE k G s l).bl:=by
 obtain⟨b,h1,h2⟩:=E9 k G.D (G.world s++ [s]) (b7 G s l);unfold eE;rw [h2];exact⟨h1,rfl⟩
structure jA(k:Nat)(G:GS):Prop where
 W:iT G.D
 kO:pQ G.D G.P
 lc:G.zQ.length=G.D.length
 lw:G.oD.length=G.D.length
 root: ∀nd,G.D[0]? =some nd->G.gF nd.id=⟨bI,0,[],[]⟩/\G.world nd.id= []
 up: ∀s h,iQ G.D G.P s h->(G.gF h).kO=s/\G.world h=G.world s++ [s]++db (G.gF h).merge (G.gF h).gB/\(G.gF h).gB.length=(G.gF h).merge.length/\(G.gF h).merge.Nodup/\ ∀y,y∈(G.gF h).merge↔eB G.D y h/\y≠s/\ ¬eB G.D y s
 wd: ∀h∈ids G.D,(G.world h).Nodup/\(∀b∈G.world h,eB G.D b h)/\G.score h=(G.world h).length
theorem GS.tR{G:GS}(W:iT G.D){i:Nat}{nd:DN}(h:G.D[i]? =some nd):G.at_ nd.id=some i:=W.pos_eq h
section
variable{k:Nat}{G:GS}{h:HT}{ps:List HT}
theorem tX(hc:dt G.D h ps≠0):dz k G h ps=G:=by unfold dz;rw [if_neg hc]
theorem ry:(dz k G h ps).D=ma G.D h ps:=by
 unfold dz ma;split<;>rfl
theorem I9:(dz k G h ps).D=pE G.D h (bH G ps) ps:=by
 rw [ry];unfold pE;by_cases hc:dt G.D h ps=0
 ·have fc:=(jz hc).2.1
  have:fJ G.D h (bH G ps) ps=0:=by unfold fJ;rw [if_pos hc,if_pos (jv fc)]
  rw [if_pos this,oy hc]
 ·have:fJ G.D h (bH G ps) ps≠0:=by unfold fJ;rw [if_neg hc];exact hc
  rw [if_neg this];unfold ma;rw [if_neg hc]
theorem z7:fJ G.D h (bH G ps) ps=dt G.D h ps:=by
 unfold fJ;split
 ·rename_i hc
  rw [if_pos (jv (jz hc).2.1),hc]
 ·rfl
theorem Ja:(dz k G h ps).P=pD G.D G.P h (bH G ps) ps:=by
 unfold pD dz;rw [z7];by_cases hc:dt G.D h ps=0
 ·rw [if_pos hc,if_pos hc]
 ·rw [if_neg hc,if_neg hc]
theorem jU(hc:dt G.D h ps=0):dz k G h ps=⟨G.D++ [⟨h,cX ps⟩],G.P++ [(((pos (bH G ps) (ids G.D) 0).getD 0:Nat):Int)],G.zQ++ [fg k G (bH G ps) ps],G.oD++ [(eE k G (bH G ps) ps).wd]⟩:=by
 unfold dz;rw [if_pos hc]
theorem xH(H:jA k G){s:HT}(hs:s∈ids G.D)(l:List HT)(hl: ∀p∈l,p∈ids G.D):
 (eE k G s l).wd.Nodup/\(eE k G s l).wd.length=(fg k G s l).score/\ ∀y∈(eE k G s l).wd,y∈ids G.D/\(y=s\/eB G.D y s\/y∈b7 G s l):=by
 obtain⟨h1,h2⟩:=p9 k G s l;obtain⟨w1,w2,w3⟩:=H.wd s hs;have hm: ∀y∈db (b7 G s l) (eE k G s l).bl,y∈ids G.D/\y≠s/\ ¬eB G.D y s:=fun y hy=>by
  obtain⟨e,h3,h4⟩:=gM.1 (jq hy);refine⟨?_,h3,h4⟩;rcases e with e|e
  ·exact e.1
  ·exact hl _ e
 rw [h2];refine⟨?_,?_,?_⟩
 ·refine List.nodup_append.2 ⟨List.nodup_append.2 ⟨w1,by simp,?_⟩,kr (jW G s l).nodup,?_⟩
  ·intro a ha b hb e
   have hb:b=s:=by simpa using hb
   subst hb;subst e;exact eB.irrefl H.W _ (w2 _ ha)
  ·intro a ha b hb e
   subst e;obtain⟨_,h3,h4⟩:=hm _ hb;rcases List.mem_append.1 ha with e|e
   ·exact h4 (w2 _ e)
   ·exact h3 (by simpa using e)
 ·unfold fg
  simp only [List.length_append,List.length_cons,List.length_nil,rm h1,w3]
 ·intro y hy
  rcases List.mem_append.1 hy with hy|hy
  ·rcases List.mem_append.1 hy with hy|hy
   ·exact⟨((w2 _ hy).mem H.W).1,.inr (.inl (w2 _ hy))⟩
   ·have:y=s:=by simpa using hy
    subst this;exact⟨hs,.inl rfl⟩
  ·exact⟨(hm _ hy).1,.inr (.inr (jq hy))⟩
theorem jV(H:jA k G){y:HT}(hy:y∈ids G.D):(dz k G h ps).gF y=G.gF y/\(dz k G h ps).world y=G.world y:=by
 by_cases hc:dt G.D h ps=0
 ·obtain⟨hn,fc,fG,uc⟩:=jz hc
  obtain⟨nd,qQ,rfl⟩:=cR.1 hy;obtain⟨i,hi⟩:=List.getElem?_of_mem qQ;have eI:=(List.getElem?_eq_some_iff.1 hi).1;have Ir:(G.D++ [(⟨h,cX ps⟩:DN)])[i]? =some nd:=by rw [List.getElem?_append_left eI];exact hi
  have W':iT (dz k G h ps).D:=by rw [ry];exact H.W.add h ps
  rw [jU hc]at W'⊢;have e1:(⟨G.D++ [⟨h,cX ps⟩],G.P++ [(((pos (bH G ps) (ids G.D) 0).getD 0:Nat):Int)],G.zQ++ [fg k G (bH G ps) ps],G.oD++ [(eE k G (bH G ps) ps).wd]⟩:GS).at_ nd.id=some i:=GS.tR W' Ir;have e2:=GS.tR H.W hi;unfold GS.gF GS.world;rw [e1,e2];simp only [Option.bind_some];rw [List.getElem?_append_left (by rw [H.lc];exact eI),List.getElem?_append_left (by rw [H.lw];exact eI)];exact⟨rfl,rfl⟩
 ·rw [tX hc];exact⟨rfl,rfl⟩
theorem l9(H:jA k G)(hc:dt G.D h ps=0):(dz k G h ps).gF h=fg k G (bH G ps) ps/\(dz k G h ps).world h=(eE k G (bH G ps) ps).wd:=by
 have W':iT (dz k G h ps).D:=by rw [ry];exact H.W.add h ps
 rw [jU hc]at W'⊢;have Ir:(G.D++ [(⟨h,cX ps⟩:DN)])[G.D.length]? =some ⟨h,cX ps⟩:=by rw [List.getElem?_append_right (Nat.le_refl _),Nat.sub_self];rfl
 have e1:(⟨G.D++ [⟨h,cX ps⟩],G.P++ [(((pos (bH G ps) (ids G.D) 0).getD 0:Nat):Int)],G.zQ++ [fg k G (bH G ps) ps],G.oD++ [(eE k G (bH G ps) ps).wd]⟩:GS).at_ h=some G.D.length:=GS.tR W' Ir;unfold GS.gF GS.world;rw [e1];simp only [Option.bind_some];rw [List.getElem?_append_right (by rw [H.lc];exact Nat.le_refl _),H.lc,Nat.sub_self,List.getElem?_append_right (by rw [H.lw];exact Nat.le_refl _),H.lw,Nat.sub_self];exact⟨rfl,rfl⟩
end
end Go.Proofs.YtnboahlopghcjaaGreatDoor
namespace Go.Proofs.YtnboahlopghcjaaGreatDoor
open Go.Proofs.Tryz
open Go Go.bp
section
variable{k:Nat}{G:GS}{h:HT}{ps:List HT}
theorem ki(k:Nat)(r:HT):jA k (dc r):=by
 have e0:(dc r).at_ r=some 0:=GS.tR (G:=dc r) (iT.root r) (nd:=⟨r,[]⟩) rfl;have ec:(dc r).gF r=⟨bI,0,[],[]⟩:=by unfold GS.gF;rw [e0];rfl
 have ew:(dc r).world r= []:=by unfold GS.world;rw [e0];rfl
 refine⟨iT.root r,pQ.one r,rfl,rfl,?_,?_,?_⟩
 ·intro nd fG
  have:nd=⟨r,[]⟩:=by simpa [dc]using fG.symm
  subst this;exact⟨ec,ew⟩
 ·rintro s h ⟨i,j,ni,m,h1,_,h3,_,_⟩
  exfalso;cases i with
  |zero=>simp [dc]at h3
  |succ i=>simp [dc]at h1
 ·intro h hm
  have:h=r:=by simpa [dc,ids]using hm
  subst this;refine⟨by rw [ew];simp,by rw [ew];simp,?_⟩;unfold GS.score;rw [ec,ew];rfl
theorem AU(H:jA k G)(hc:dt G.D h ps=0): ∃(j:Nat) (m:DN),G.D[j]? =some m/\m.id=bH G ps/\(pos (bH G ps) (ids G.D) 0).getD 0=j/\bH G ps∈ps/\bH G ps∈ids G.D:=by
 obtain⟨hn,fc,fG,uc⟩:=jz hc;have h1:=jv (G:=G) fc;have h2:=uc _ (c9.2 h1);obtain⟨m,hm,e⟩:=cR.1 h2;obtain⟨j,hj⟩:=List.getElem?_of_mem hm;have h3:=H.W.pos_eq hj;rw [e]at h3;exact⟨j,m,hj,e,by rw [h3];rfl,h1,h2⟩
theorem vK(H:jA k G)(hc:dt G.D h ps=0):(∀y,eB (G.D++ [⟨h,cX ps⟩]) y h↔ ∃p∈ps,y=p\/eB G.D y p)/\ ∀a b,b∈ids G.D->(eB (G.D++ [⟨h,cX ps⟩]) a b↔eB G.D a b):=by
 obtain⟨hn,fc,fG,uc⟩:=jz hc;have W':iT (G.D++ [⟨h,cX ps⟩]):=by have:=H.W.add h ps;rwa [oy hc]at this
 have Ir:(G.D++ [(⟨h,cX ps⟩:DN)])[G.D.length]? =some ⟨h,cX ps⟩:=by rw [List.getElem?_append_right (Nat.le_refl _),Nat.sub_self];rfl
 have zc: ∀a b,b∈ids G.D->(eB (G.D++ [⟨h,cX ps⟩]) a b↔eB G.D a b):=fun a b hb=>fU H.W hn hb;refine⟨fun y=>?_,zc⟩;rw [p5 W' Ir y];constructor
 ·rintro⟨p,hp,e⟩
  exact⟨p,c9.1 hp,e.imp_right fun e=>(zc _ _ (uc _ hp)).1 e⟩
 ·rintro⟨p,hp,e⟩
  exact⟨p,c9.2 hp,e.imp_right fun e=>(zc _ _ (uc _ (c9.2 hp))).2 e⟩
theorem jA.add(H:jA k G)(h:HT)(ps:List HT):jA k (dz k G h ps):=by
 by_cases hc:dt G.D h ps=0
 ·obtain⟨hn,fc,fG,uc⟩:=jz hc
  obtain⟨j,m,hj,hm,ja,Ag,FJ⟩:=AU H hc;obtain⟨I7,zc⟩:=vK H hc;have hk:=fun y (hy:y∈ids G.D)=>jV (h:=h) (ps:=ps) H hy;obtain⟨nc,nw⟩:=l9 H hc;obtain⟨v1,v2⟩:=p9 k G (bH G ps) ps;obtain⟨u1,u2,u3⟩:=xH H FJ ps (fun p hp=>uc _ (c9.2 hp));have W':iT (G.D++ [⟨h,cX ps⟩]):=by have:=H.W.add h ps;rwa [oy hc]at this
  have mF:pQ (G.D++ [(⟨h,cX ps⟩:DN)]) (G.P++ [(j:Int)]):=H.kO.snoc hj (by rw [hm];exact c9.2 Ag) H.W.pos;generalize hs:bH G ps=s at*;have eG:=jU (k:=k) hc;rw [hs,ja]at eG;have eD:(dz k G h ps).D=G.D++ [⟨h,cX ps⟩]:=by rw [eG]
  have eP:(dz k G h ps).P=G.P++ [(j:Int)]:=by rw [eG]
  refine⟨by rw [eD];exact W',by rw [eD,eP];exact mF,by rw [eG];simp [H.lc],by rw [eG];simp [H.lw],?_,?_,?_⟩
  ·intro nd qQ
   rw [eD,List.getElem?_append_left H.W.pos]at qQ;obtain⟨e1,e2⟩:=hk nd.id (cR.2 ⟨nd,List.mem_of_getElem? qQ,rfl⟩);rw [e1,e2];exact H.root nd qQ
  ·intro t y hy
   rw [eD,eP,kf H.W H.kO hn hj]at hy;rcases hy with hy|⟨rfl,rfl⟩
   ·have hp:=hy.par H.kO
    have O0:y∈ids G.D:=((eB.one hp).mem H.W).2;have LJ:t∈ids G.D:=((eB.one hp).mem H.W).1;obtain⟨e1,e2⟩:=hk y O0;obtain⟨_,e3⟩:=hk t LJ;obtain⟨g1,g2,g3,g4,g5⟩:=H.up t y hy;rw [e1,e2,e3,eD];refine⟨g1,g2,g3,g4,fun z=>?_⟩;rw [g5,zc _ _ O0,zc _ _ LJ]
   ·show _/\_
    rw [nc,nw,hm,(hk s FJ).2,eD];refine⟨rfl,v2,v1,(jW _ _ _).nodup,fun z=>?_⟩;show z∈b7 G s ps↔_
    rw [gM,I7,zc _ _ FJ];constructor
    ·rintro⟨e,h3,h4⟩
     refine⟨?_,h3,h4⟩;rcases e with⟨_,p,hp,e⟩|e
     ·exact⟨p,hp,.inr e⟩
     ·exact⟨z,e,.inl rfl⟩
    ·rintro⟨⟨p,hp,e⟩,h3,h4⟩
     refine⟨?_,h3,h4⟩;rcases e with rfl|e
     ·exact .inr hp
     ·exact .inl ⟨(e.mem H.W).1,p,hp,e⟩
  ·intro y hy
   rw [eD,iL]at hy;rcases List.mem_append.1 hy with hy|hy
   ·obtain⟨e1,e2⟩:=hk y hy
    obtain⟨g1,g2,g3⟩:=H.wd y hy;unfold GS.score;rw [e1,e2,eD];exact⟨g1,fun b hb=>(zc _ _ hy).2 (g2 b hb),g3⟩
   ·have:y=h:=by simpa using hy
    subst this;unfold GS.score;rw [nc,nw,eD];refine⟨u1,fun b hb=>?_,u2.symm⟩;obtain⟨_,e⟩:=u3 b hb;rw [I7];rcases e with rfl|e|e
    ·exact⟨b,Ag,.inl rfl⟩
    ·exact⟨s,Ag,.inr e⟩
    ·obtain⟨e,_,_⟩:=gM.1 e
     rcases e with⟨_,p,hp,e⟩|e
     ·exact⟨p,hp,.inr e⟩
     ·exact⟨b,e,.inl rfl⟩
 ·rw [tX hc];exact H
end
end Go.Proofs.YtnboahlopghcjaaGreatDoor
namespace Go.Proofs.YtnboahlopghcjaaGreatDoor
open Go.Proofs.Tryz
open Go Go.bp
def ju(sz:HT->HT->Option Nat)(l:List HT)(b:HT):Nat:=(l.findSome? fun h=>sz h b).getD 0
def nY(ov:HT->Option Nat)(base:HT->Nat)(b:HT):Nat:=(ov b).getD (base b)
structure OV(D:DG)(wd:List HT)(ov:HT->Option Nat)(base:HT->Nat):Prop where
 kn: ∀b∈wd,nY ov base b=(bA D wd b).length
 Ka: ∀b n,ov b=some n->b∈wd
noncomputable def uL(D:DG)(wd:List HT)(ov:HT->Option Nat)(base:HT->Nat)(h:HT):HT->Option Nat:=
 fun b=>if b∈bA D wd h then some (nY ov base b+1)else if b=h then some (bA D wd h).length else ov b
theorem OV.step{D:DG}{wd:List HT}{ov:HT->Option Nat}{base:HT->Nat}(H:OV D wd ov base){h:HT}(hn:h∉wd):OV D (wd++ [h]) (uL D wd ov base h) base:=by
 refine⟨fun b hb=>?_,fun b n e=>?_⟩
 ·rw [dX,List.length_append]
  unfold nY uL;by_cases hp:b∈bA D wd h
  ·rw [if_pos hp]
   obtain⟨h1,h2⟩:=dv.1 hp;rw [Option.getD_some,H.kn b h1];have:bA D [h] b= [h]:=by unfold bA;rw [List.filter_cons_of_pos (by simpa using h2.symm)];rfl
   rw [this];rfl
  ·rw [if_neg hp]
   by_cases e:b=h
   ·subst e
    rw [if_pos rfl,Option.getD_some];have:bA D [b] b= []:=by unfold bA;rw [List.filter_cons_of_neg (by simpa using fun e:ln D b b=>e.1 rfl)];rfl
    rw [this];rfl
   ·rw [if_neg e]
    have hw:b∈wd:=by
     rcases List.mem_append.1 hb with hb|hb
     ·exact hb
     ·exact absurd (by simpa using hb) e
    have:bA D [h] b= []:=by unfold bA;rw [List.filter_cons_of_neg (by simpa using fun e':ln D h b=>hp (dv.2 ⟨hw,e'.symm⟩))];rfl
    rw [this];exact H.kn b hw
 ·unfold uL at e
  split at e
  ·rename_i hp
   exact List.mem_append_left _ (dv.1 hp).1
  ·split at e
   ·rename_i hb;subst hb;exact List.mem_append_right _ (by simp)
   ·exact List.mem_append_left _ (H.Ka b n e)
structure SZ(G:GS)(sz:HT->HT->Option Nat):Prop where
 kn: ∀h l,h∈ids G.D->cj G.D G.P h l-> ∀b∈G.world h++ [h],ju sz l b=(bA G.D (G.world h++ [h]) b).length
 Ka: ∀h b n,sz h b=some n->b∈ids G.D
theorem SZ.ov{G:GS}{sz:HT->HT->Option Nat}(Z:SZ G sz){s:HT}(hs:s∈ids G.D){l:List HT}(hl:cj G.D G.P s l):OV G.D (G.world s++ [s]) (fun _=>none) (ju sz l):=
 ⟨fun b hb=>Z.kn s l hs hl b hb,fun b n e=>by cases e⟩
theorem Up.snoc{P:List Int}{p:Int}: ∀ {i:Nat} {l:List Nat},Up P i l->Up (P++ [p]) i l:=by
 intro i l h
 induction h with
 |root=>exact .root
 |step h _ ih=>exact .step (by rw [List.getElem?_append_left (List.getElem?_eq_some_iff.1 h).1];exact h) ih
theorem sT{D:DG}{nd:DN}{i:Nat}(h:i<D.length):kP (D++ [nd]) i=kP D i:=by unfold kP;rw [List.getElem?_append_left h]
theorem cj.snoc{D:DG}{P:List Int}(H:pQ D P){nd:DN}{p:Int}{h:HT}{l:List HT}(hm:h∈ids D)(c:cj D P h l):cj (D++ [nd]) (P++ [p]) h l:=by
 rcases c with⟨hn,_⟩|⟨i,m,ks,h1,h2,h3,h4⟩
 ·exact absurd hm hn
 ·have eI:=(List.getElem?_eq_some_iff.1 h1).1
  refine .inr ⟨i,m,ks,by rw [List.getElem?_append_left eI];exact h1,h2,h3.snoc,?_⟩;rw [h4];refine List.map_congr_left fun k hk=>(sT ?_).symm;have:=h3.lt H.par (by rw [H.len];exact eI) k hk
  rwa [H.len]at this
theorem cj.new{D:DG}{P:List Int}(W:iT D)(H:pQ D P){nd m:DN}{j:Nat}(hj:D[j]? =some m){l:List HT}(c:cj D P m.id l):cj (D++ [nd]) (P++ [(j:Int)]) nd.id (nd.id::l):=by
 have hm:m.id∈ids D:=cR.2 ⟨m,List.mem_of_getElem? hj,rfl⟩;have c':=cj.snoc (nd:=nd) (p:=(j:Int)) H hm c;rcases c with⟨hn,_⟩|⟨i,m',ks,h1,h2,h3,h4⟩
 ·exact absurd hm hn
 ·have oe:=W.inj h1 hj h2
  subst oe;have e0:(D++ [nd])[D.length]? =some nd:=by rw [List.getElem?_append_right (Nat.le_refl _),Nat.sub_self];rfl
  refine .inr ⟨D.length,nd,D.length::ks,e0,rfl,.step (by rw [<-H.len,List.getElem?_append_right (Nat.le_refl _),Nat.sub_self];rfl) h3.snoc,?_⟩;rw [List.map_cons,jO e0,h4]
  congr 1
  refine List.map_congr_left fun k hk=>(sT ?_).symm;have:=h3.lt H.par (by rw [H.len];exact(List.getElem?_eq_some_iff.1 h1).1) k hk
  rwa [H.len]at this
theorem nR{D D':DG}{l:List HT}{b:HT}(h: ∀a∈l,ln D' a b↔ln D a b):bA D' l b=bA D l b:=by
 unfold bA;exact List.filter_congr fun a ha=>by simp only [h a ha]
theorem SZ.root(r:HT):SZ (dc r) (fun _ _=>none):=by
 refine⟨fun h l hm _ b hb=>?_,fun h b n e=>by cases e⟩;have hh:h=r:=by simpa [dc,ids]using hm
 subst hh;have ew:(dc h).world h= []:=((ki 0 h).root ⟨h,[]⟩ rfl).2;rw [ew]at hb⊢;have:b=h:=by simpa using hb
 subst this;have:bA (dc b).D ([]++ [b]) b= []:=by unfold bA;rw [List.nil_append,List.filter_cons_of_neg (by simpa using fun e:ln (dc b).D b b=>e.1 rfl)];rfl
 rw [this];unfold ju;have:(l.findSome? fun _=>(none:Option Nat))=none:=by simp
 rw [this];rfl
theorem SZ.add{k:Nat}{G:GS}{sz:HT->HT->Option Nat}(Z:SZ G sz)(H:jA k G){h:HT}{ps:List HT}(hc:dt G.D h ps=0){l:List HT}(hl:cj G.D G.P (bH G ps) l){ov:HT->Option Nat}
 (O:OV G.D (eE k G (bH G ps) ps).wd ov (ju sz l)):SZ (dz k G h ps) (fun y=>if y=h then ov else sz y):=by
 obtain⟨hn,fc,fG,uc⟩:=jz hc;obtain⟨j,m,hj,hm,ja,Ag,FJ⟩:=AU H hc;obtain⟨I7,zc⟩:=vK H hc;have H':=H.add h ps;obtain⟨nc,nw⟩:=l9 H hc;obtain⟨u1,u2,u3⟩:=xH H FJ ps (fun p hp=>uc _ (c9.2 hp));have eD:(dz k G h ps).D=G.D++ [⟨h,cX ps⟩]:=by rw [jU hc]
 have eP:(dz k G h ps).P=G.P++ [(j:Int)]:=by rw [jU hc,ja]
 have Xm: ∀a b,a∈ids G.D->b∈ids G.D->(ln (G.D++ [⟨h,cX ps⟩]) a b↔ln G.D a b):=fun a b ha hb=>by unfold ln;rw [zc _ _ hb,zc _ _ ha]
 have U9: ∀(y:HT) (l':List HT),y∈ids G.D->cj G.D G.P y l'-> ∀b,ju (fun y=>if y=h then ov else sz y) l' b=ju sz l' b:=fun y l' hy c b=>by
  unfold ju;have Pc:h∉l':=fun e=>hn ((c.mem H.W H.kO).1 e).mem.1;have key: ∀l':List HT,h∉l'->(l'.findSome? fun y=>(if y=h then ov else sz y) b)=l'.findSome? fun y=>sz y b:=by
   intro l'
   induction l' with
   |nil=>intro _;rfl
   |cons y l' ih=>
    intro hq;simp only [List.mem_cons,not_or]at hq;rw [List.findSome?_cons,List.findSome?_cons,if_neg (fun e=>hq.1 e.symm),ih hq.2]
  rw [key l' Pc]
 refine⟨fun y l' hy c b hb=>?_,fun y b n e=>?_⟩
 ·rw [eD,eP]at c
  rw [eD]at hy⊢;rw [iL]at hy;have W':iT (G.D++ [⟨h,cX ps⟩]):=by have:=H'.W;rwa [eD]at this
  have S':pQ (G.D++ [⟨h,cX ps⟩]) (G.P++ [(j:Int)]):=by have:=H'.kO;rwa [eD,eP]at this
  rcases List.mem_append.1 hy with hy|hy
  ·obtain⟨l0,c0⟩:=cj.ex H.kO y
   have:l'=l0:=c.one W' S' (c0.snoc H.kO hy);subst this;obtain⟨_,e2⟩:=jV (k:=k) (h:=h) (ps:=ps) H hy;rw [e2]at hb⊢;rw [U9 y l' hy c0,Z.kn y l' hy c0 b hb];have fY: ∀a∈G.world y++ [y],a∈ids G.D:=fun a ha=>by
    rcases List.mem_append.1 ha with ha|ha
    ·exact(((H.wd y hy).2.1 a ha).mem H.W).1
    ·have:a=y:=by simpa using ha
     subst this;exact hy
   rw [nR fun a ha=>Xm a b (fY a ha) (fY b hb)]
  ·have:y=h:=by simpa using hy
   subst this;have cn:=cj.new (nd:=⟨y,cX ps⟩) H.W H.kO hj (by rw [hm];exact hl);have:l'=y::l:=c.one W' S' cn;subst this;rw [nw]at hb⊢;have e1:ju (fun z=>if z=y then ov else sz z) (y::l) b=nY ov (ju sz l) b:=by
    have:=U9 _ l FJ hl b;unfold ju at this⊢;unfold nY;rw [List.findSome?_cons];cases Aj:ov b with
    |none=>simp only [if_true,Aj,Option.getD_none];exact this
    |some n=>simp only [if_true,Aj,Option.getD_some]
   rw [e1,dX,List.length_append];have KS: ∀a∈(eE k G (bH G ps) ps).wd,¬ln (G.D++ [⟨y,cX ps⟩]) a y:=fun a ha e=>by
    obtain⟨_,e'⟩:=u3 a ha;refine e.2.1 ((I7 a).2 ?_);rcases e' with rfl|e'|e'
    ·exact⟨_,Ag,.inl rfl⟩
    ·exact⟨_,Ag,.inr e'⟩
    ·obtain⟨e',_,_⟩:=gM.1 e'
     rcases e' with⟨_,p,hp,e'⟩|e'
     ·exact⟨p,hp,.inr e'⟩
     ·exact⟨a,e',.inl rfl⟩
   rcases List.mem_append.1 hb with hb|hb
   ·have WJ:=(u3 b hb).1
    have:bA (G.D++ [⟨y,cX ps⟩]) [y] b= []:=by unfold bA;rw [List.filter_cons_of_neg (by simpa using fun e:ln _ y b=>KS b hb e.symm)];rfl
    rw [this,O.kn b hb,nR fun a ha=>Xm a b (u3 a ha).1 WJ];rfl
   ·have:b=y:=by simpa using hb
    subst this;have e2:bA (G.D++ [⟨b,cX ps⟩]) (eE k G (bH G ps) ps).wd b= []:=by
     unfold bA;rw [List.filter_eq_nil_iff];intro a ha;simpa using KS a ha
    have e3:bA (G.D++ [⟨b,cX ps⟩]) [b] b= []:=by unfold bA;rw [List.filter_cons_of_neg (by simpa using fun e:ln _ b b=>e.1 rfl)];rfl
    rw [e2,e3];have e4:ov b=none:=by
     cases Aj:ov b with
     |none=>rfl
     |some n=>exact absurd (u3 b (O.Ka b n Aj)).1 hn
    have e5:ju sz l b=0:=by
     unfold ju;have:(l.findSome? fun h=>sz h b)=none:=by
      rw [List.findSome?_eq_none_iff];intro y hy;cases Rf:sz y b with
      |none=>rfl
      |some n=>exact absurd (Z.Ka y b n Rf) hn
     rw [this];rfl
    unfold nY;rw [e4,e5];rfl
 ·rw [eD,iL]
  refine List.mem_append_left _ ?_;split at e
  ·exact(u3 b (O.Ka b n e)).1
  ·exact Z.Ka y b n e
end Go.Proofs.YtnboahlopghcjaaGreatDoor
namespace Go.Proofs.YtnboahlopghcjaaGreatDoor
open Go.Proofs.Tryz
open Go Go.bp
noncomputable def uf(G:GS)(h:HT):List HT->List HT
 | []=> []
 |a::r=>(if ln G.D a h then [a]else [])++if eB G.D a h then []else bA G.D (db (G.gF a).merge (G.gF a).gB) h++uf G h r
theorem Up.inv{P:List Int}{i:Nat}{l:List Nat}(h:Up P i l):(i=0/\l= [0])\/ ∃(j:Nat) (r:List Nat),l=i::r/\P[i]? =some (j:Int)/\Up P j r:=by
 cases h with
 |root=>exact .inl ⟨rfl,rfl⟩
 |step h1 h2=>exact .inr ⟨_,_,rfl,h1,h2⟩
theorem cj.inv{D:DG}{P:List Int}(W:iT D)(H:pQ D P){h:HT}{l:List HT}(hm:h∈ids D)(c:cj D P h l):
 (l= [h]/\ ∃nd,D[0]? =some nd/\nd.id=h)\/ ∃(s:HT) (r:List HT),l=h::r/\iQ D P s h/\s∈ids D/\cj D P s r:=by
 rcases c with⟨hn,_⟩|⟨i,m,ks,h1,h2,h3,h4⟩
 ·exact absurd hm hn
 ·rcases h3.inv with⟨rfl,rfl⟩|⟨j,r,rfl,h5,h6⟩
  ·refine .inl ⟨?_,m,h1,h2⟩
   rw [h4,List.map_cons,List.map_nil,jO h1,h2]
  ·have hj:j<D.length:=by
    cases i with
    |zero=>rw [H.root]at h5;simp only [Option.some.injEq]at h5;omega
    |succ i=>
     obtain⟨j',m',e,_,h7,_⟩:=H.up (i+1) _ m (by omega) h5 h1;have:=(List.getElem?_eq_some_iff.1 h7).1;omega
   obtain⟨mj,Mt⟩: ∃mj,D[j]? =some mj:=⟨_,List.getElem?_eq_getElem hj⟩;refine .inr ⟨mj.id,r.map (kP D),?_,⟨i,j,m,mj,h1,h2,h5,Mt,rfl⟩,cR.2 ⟨mj,List.mem_of_getElem? Mt,rfl⟩,.inr ⟨j,mj,r,Mt,rfl,h6,rfl⟩⟩;rw [h4,List.map_cons,jO h1,h2]
theorem I2{k:Nat}{G:GS}(H:jA k G)(h:HT): ∀(l:List HT) (s:HT),s∈ids G.D->cj G.D G.P s l->(uf G h l).Nodup/\ ∀y,y∈uf G h l↔y∈bA G.D (G.world s++ [s]) h:=by
 intro l
 induction l with
 |nil=>
  intro s hs c;rcases c.inv H.W H.kO hs with⟨e,_⟩|⟨_,_,e,_⟩<;>cases e
 |cons a r ih=>
  intro s hs c;have key: ∀(wb:List HT),G.world s=wb++db (G.gF s).merge (G.gF s).gB->(uf G h r).Nodup->(∀y,y∈uf G h r↔y∈bA G.D wb h)->a=s->(uf G h (a::r)).Nodup/\ ∀y,y∈uf G h (a::r)↔y∈bA G.D (G.world s++ [s]) h:=by
   rintro wb hw hn hy rfl;obtain⟨w1,w2,_⟩:=H.wd a hs;have Sg:=eB.irrefl H.W a;rw [hw]at w1 w2⊢;rw [List.nodup_append]at w1;obtain⟨w3,w4,w5⟩:=w1;unfold uf;by_cases ha:eB G.D a h
   ·have H9: ¬ln G.D a h:=fun e=>e.2.1 ha
    rw [if_pos ha,if_neg H9];refine⟨by simp,fun y=>?_⟩;simp only [List.append_nil,List.not_mem_nil,false_iff];intro e;obtain⟨e1,e2⟩:=dv.1 e;rcases List.mem_append.1 e1 with e1|e1
    ·exact e2.2.1 ((w2 y e1).trans ha)
    ·have:y=a:=by simpa using e1
     subst this;exact H9 e2
   ·rw [if_neg ha]
    have hr: ∀y∈uf G h r,y∈wb:=fun y e=>(dv.1 ((hy y).1 e)).1;refine⟨?_,fun y=>?_⟩
    ·refine List.nodup_append.2 ⟨by split<;>simp,List.nodup_append.2 ⟨w4.filter _,hn,?_⟩,?_⟩
     ·intro x hx z hz e
      subst e;exact w5 x (hr x hz) x (dv.1 hx).1 rfl
     ·intro x hx z hz e
      subst e;split at hx
      ·have:x=a:=by simpa using hx
       subst this;refine Sg (w2 x ?_);rcases List.mem_append.1 hz with hz|hz
       ·exact List.mem_append_right _ (dv.1 hz).1
       ·exact List.mem_append_left _ (hr x hz)
      ·simp at hx
    ·rw [dX,dX]
     simp only [List.mem_append,hy];have e1:y∈(if ln G.D a h then [a]else [])↔y∈bA G.D [a] h:=by
      unfold bA;by_cases hp:ln G.D a h
      ·rw [if_pos hp,List.filter_cons_of_pos (by simpa using hp)];rfl
      ·rw [if_neg hp,List.filter_cons_of_neg (by simpa using hp)];rfl
     rw [e1];constructor
     ·rintro(e|e|e)
      ·exact .inr e
      ·exact .inl (.inr e)
      ·exact .inl (.inl e)
     ·rintro((e|e)|e)
      ·exact .inr (.inr e)
      ·exact .inr (.inl e)
      ·exact .inl e
  rcases c.inv H.W H.kO hs with⟨e,nd,h0,rfl⟩|⟨t,r',e,pI,ht,hc⟩
  ·obtain⟨r1,r2⟩:=H.root nd h0
   cases e;exact key [] (by rw [r2,r1];simp [db]) (by simp [uf]) (fun y=>by simp [uf,bA]) rfl
  ·cases e
   obtain⟨_,u2,_⟩:=H.up t a pI;obtain⟨i1,i2⟩:=ih t ht hc;exact key (G.world t++ [t]) u2 i1 i2 rfl
noncomputable def kL(G:GS)(h:HT)(bl l:List HT):List HT:=bA G.D bl h++uf G h l
theorem EX{k:Nat}{G:GS}(H:jA k G){h s:HT}{l bl:List HT}(hs:s∈ids G.D)(hl:cj G.D G.P s l)(hn:(G.world s++ [s]++bl).Nodup):
 (kL G h bl l).Nodup/\(kL G h bl l).length=(bA G.D (G.world s++ [s]++bl) h).length/\ ∀y,y∈kL G h bl l↔y∈bA G.D (G.world s++ [s]++bl) h:=by
 obtain⟨h1,h2⟩:=I2 H h l s hs hl;have h0:=hn;rw [List.nodup_append]at hn;obtain⟨n1,n2,n3⟩:=hn;have hm: ∀y,y∈kL G h bl l↔y∈bA G.D (G.world s++ [s]++bl) h:=fun y=>by
  unfold kL;rw [dX,List.mem_append,List.mem_append,h2];exact Or.comm
 have fG:(kL G h bl l).Nodup:=by
  refine List.nodup_append.2 ⟨n2.filter _,h1,?_⟩;intro x hx z hz e;subst e;exact n3 x (dv.1 ((h2 x).1 hz)).1 x (dv.1 hx).1 rfl
 exact⟨fG,((List.perm_ext_iff_of_nodup fG (h0.filter _)).2 hm).length_eq,hm⟩
def nS(k:Nat)(kn:HT->Nat)(done:List HT)(b:HT):Bool:=decide (done.length+1<=k/\kn b<k)
def de(k:Nat)(kn:HT->Nat):List HT->List HT->Bool
 |_,[]=>true
 |done,b::l=>nS k kn done b&&de k kn (done++ [b]) l
theorem lZ{k:Nat}{kn:HT->Nat}: ∀ {l done:List HT},de k kn done l=true↔(l≠ []->done.length+l.length<=k)/\ ∀b∈l,kn b<k
 | [],done=>by simp [de]
 |b::l,done=>by
  unfold de nS;rw [Bool.and_eq_true,decide_eq_true_eq,lZ];simp only [List.length_append,List.length_cons,List.length_nil,List.mem_cons,forall_eq_or_imp,ne_eq,reduceCtorEq,not_false_eq_true,forall_const];constructor
  ·rintro⟨⟨h1,h2⟩,h3,h4⟩
   refine⟨?_,h2,h4⟩;by_cases e:l= []
   ·subst e;simpa using h1
   ·have:=h3 e;omega
  ·rintro⟨h1,h2,h3⟩
   refine⟨⟨by omega,h2⟩,fun _=>by omega,h3⟩
theorem jr{k:Nat}{kn:HT->Nat}: ∀ {l m done:List HT},de k kn done (l++m)=(de k kn done l&&de k kn (done++l) m)
 | [],m,done=>by simp [de]
 |b::l,m,done=>by
  simp only [List.cons_append,de,jr (l:=l),Bool.and_assoc,List.append_assoc,List.nil_append]
theorem CQ{k:Nat}{D:DG}{wd:List HT}{kn:HT->Nat}{h:HT}{c:List HT}(hk: ∀b∈wd,kn b=(bA D wd b).length)(hl:c.length=(bA D wd h).length)(hm: ∀y,y∈c↔y∈bA D wd h):
 de k kn [] c=ou k D wd h:=by
 rw [Bool.eq_iff_iff,lZ];unfold ou;rw [decide_eq_true_eq];simp only [List.length_nil,Nat.zero_add,<-hl];constructor
 ·rintro⟨h1,h2⟩
  refine⟨?_,fun y hy=>?_⟩
  ·by_cases e:c= []
   ·subst e;simp
   ·exact h1 e
  ·have:=h2 y ((hm y).2 hy)
   rw [hk y (dv.1 hy).1]at this;omega
 ·rintro⟨h1,h2⟩
  refine⟨fun _=>h1,fun y hy=>?_⟩;have hy:=(hm y).1 hy;rw [hk y (dv.1 hy).1];have:=h2 y hy;omega
end Go.Proofs.YtnboahlopghcjaaGreatDoor
namespace Go.Proofs.YtnboahlopghcjaaGreatDoor
open Go.Proofs.Tryz
open Go Go.bp Go.RowKit
theorem Bk:sl da df (.pointer none):=⟨by kernel_rfl,pR (by kernel_rfl)⟩
theorem nW:sl bE gC (.int .i64 0):=⟨by kernel_rfl,pR (by kernel_rfl)⟩
structure Bo(w:World)(A:Option Addr)(n:Nat)(l:List Bool):Prop where
 len:l.length=n
 at_: ∀(i:Nat) (b:Bool),l[i]? =some b-> ∃a,A=some a/\a.block<w.heap.size/\w.cell? (a.add i)=some (.bool b)
theorem Bo.aG{S:Nat->Prop}{w w':World}{A:Option Addr}{n:Nat}{l:List Bool}(h:Bo w A n l)(hk:Kept S w w')(hn: ∀a,A=some a-> ¬S a.block):Bo w' A n l:=⟨h.len,fun i x hi=>by
 obtain⟨a,h1,h2,h3⟩:=h.at_ i x hi;exact⟨a,h1,Nat.lt_of_lt_of_le h2 hk.size,hk.cell h3 (by rw [fV];exact hn a h1)⟩⟩
theorem Bo.same{w w':World}{A:Option Addr}{n:Nat}{l:List Bool}(h:Bo w A n l)(hk:Kept Nil w w'):Bo w' A n l:=h.aG hk fun _ _ h=>h
def DM(ov:HT->Option Nat)(b:HT):Option Value:=(ov b).map fun n:Nat=>.int .i64 (n:Int)
def Aa(w:World)(F:Nat->Prop)(sm:Option Nat)(sz:HT->Option Nat):Prop:=
 (sm=none/\ ∀b,sz b=none)\/ ∃s,sm=some s/\F s/\dA w s (DM sz)
def dT(c:p8)(A:Option Addr)(n cp:Nat)(B:Option Addr)(m cq:Nat):Array Value:=c.kO.1++ #[.int .u64 (c.score:Int),.slice A n cp,.slice B m cq]
structure mU(w:World)(F:Nat->Prop)(q:Nat)(c:p8)(sz:HT->Option Nat)(A:Option Addr)(n cp:Nat)(B:Option Addr)(m cq:Nat)(sm:Option Nat):Prop where
 top:w.heap[q]? =some (.cells (dT c A n cp B m cq++ #[.map sm]) cI (0,0))
 mg:HS w A n c.merge
 bl:Bo w B m c.gB
 fA: ∀a,A=some a->F a.block
 fB: ∀a,B=some a->F a.block
 sz:Aa w F sm sz
 fq:F q
def Seen(w:World)(F:Nat->Prop)(q:Nat)(c:p8)(sz:HT->Option Nat):Prop:= ∃A n cp B m cq sm,mU w F q c sz A n cp B m cq sm
section
variable{w w':World}{F S:Nat->Prop}{q:Nat}{c:p8}{sz:HT->Option Nat}{A B:Option Addr}{n cp m cq:Nat}{sm:Option Nat}
theorem Aa.aG(h:Aa w F sm sz)(hk:Kept S w w')(hF: ∀j,F j-> ¬S j):Aa w' F sm sz:=by
 rcases h with h|⟨s,h1,h2,h3⟩
 ·exact .inl h
 ·exact .inr ⟨s,h1,h2,h3.aG hk (hF _ h2)⟩
theorem mU.aG(h:mU w F q c sz A n cp B m cq sm)(hk:Kept S w w')(hF: ∀j,F j-> ¬S j):mU w' F q c sz A n cp B m cq sm:=
 ⟨hk.heap h.top (hF _ h.fq),h.mg.aG hk (fun a ha=>hF _ (h.fA a ha)),h.bl.aG hk (fun a ha=>hF _ (h.fB a ha)),h.fA,h.fB,h.sz.aG hk hF,h.fq⟩
theorem Seen.aG(h:Seen w F q c sz)(hk:Kept S w w')(hF: ∀j,F j-> ¬S j):Seen w' F q c sz:=by
 obtain⟨A,n,cp,B,m,cq,sm,h⟩:=h;exact⟨A,n,cp,B,m,cq,sm,h.aG hk hF⟩
theorem bM(c:p8)(A:Option Addr)(n cp:Nat)(B:Option Addr)(m cq:Nat):(dT c A n cp B m cq).size=35:=by
 unfold dT;rw [Array.size_append,c.kO.2.1];rfl
theorem fz(c:p8)(A:Option Addr)(n cp:Nat)(B:Option Addr)(m cq:Nat)(r:Array Value):
 ((dT c A n cp B m cq)++r)[32]? =some (.int .u64 (c.score:Int))/\((dT c A n cp B m cq)++r)[33]? =some (.slice A n cp)/\((dT c A n cp B m cq)++r)[34]? =some (.slice B m cq)/\((dT c A n cp B m cq)++r)[35]? =r[0]? :=by
 have hs:=bM c A n cp B m cq;have h0:c.kO.1.size=32:=c.kO.2.1;refine⟨?_,?_,?_,?_⟩
 ·rw [Array.getElem?_append_left (by omega)];unfold dT;rw [Array.getElem?_append_right (by omega),h0];rfl
 ·rw [Array.getElem?_append_left (by omega)];unfold dT;rw [Array.getElem?_append_right (by omega),h0];rfl
 ·rw [Array.getElem?_append_left (by omega)];unfold dT;rw [Array.getElem?_append_right (by omega),h0];rfl
 ·rw [Array.getElem?_append_right (by omega),hs]
theorem mU.Ol(h:mU w F q c sz A n cp B m cq sm):w.cell? (((⟨q,0,none⟩:Addr).add 0).add 32)=some (.int .u64 (c.score:Int)):=by
 rw [add_zero,a7,az h.top];exact(fz ..).1
theorem mU.c35(h:mU w F q c sz A n cp B m cq sm):w.cell? ((⟨q,0,none⟩:Addr).add 35)=some (.map sm):=by
 rw [a7,az h.top];exact(fz ..).2.2.2
theorem mU.gF(h:mU w F q c sz A n cp B m cq sm):Cells w ((⟨q,0,none⟩:Addr).add 0) (dT c A n cp B m cq):=by
 intro j u hj;rw [add_zero,a7,az h.top,Array.getElem?_append_left (by rw [bM];have:=(Array.getElem?_eq_some_iff.1 hj).1;rw [bM]at this;omega)];rw [Nat.zero_add];exact hj
end
structure CM where
 x:Nat
 mb:Nat
 SX:Nat->Prop
 FX:Nat->Prop
 q:HT->Nat
 sz:HT->HT->Option Nat
def CM.own(m:CM)(c j:Nat):Prop:=m.SX j\/j=c\/j=m.mb
structure CV(w:World)(F:Nat->Prop)(c:Nat)(k:Nat)(G:GS)(m:CM):Prop where
 top:w.heap[c]? =some (.cells #[.int .i64 (k:Int),.pointer (some ⟨m.x,0,none⟩),.map (some m.mb)] dr (0,0))
 X:xA w m.SX m.FX m.x G.D G.P
 all:dA w m.mb fun h=>if h∈ids G.D then some (.pointer (some ⟨m.q h,0,none⟩))else none
 seen: ∀h∈ids G.D,Seen w F (m.q h) (G.gF h) (m.sz h)
 gN:jA k G
 Z:SZ G m.sz
 fx: ∀j,m.FX j->F j
 fo: ∀j,F j-> ¬m.own c j
 so: ∀j,m.SX j->j≠c/\j≠m.mb
 ne:c≠m.mb
 low: ∀j,m.own c j\/F j->j<w.heap.size
section
variable{w w':World}{F S:Nat->Prop}{c k:Nat}{G:GS}{m:CM}{K:Value->World->Prop}
theorem CV.aG{S0:Nat->Prop}(h:CV w F c k G m)(hk:Kept S0 w w')(hS: ∀j,m.own c j-> ¬S0 j)(hF: ∀j,F j-> ¬S0 j):CV w' F c k G m where
 top:=hk.heap h.top (hS _ (.inr (.inl rfl)))
 X:=h.X.aG hk (fun j e=>hS j (.inl e)) (fun j e=>hF j (h.fx j e))
 all:=h.all.aG hk (hS _ (.inr (.inr rfl)))
 seen:=fun y hy=>(h.seen y hy).aG hk hF
 gN:=h.gN
 Z:=h.Z
 fx:=h.fx
 fo:=h.fo
 so:=h.so
 ne:=h.ne
 low:=fun j e=>Nat.lt_of_lt_of_le (h.low j e) hk.size
theorem CV.same(h:CV w F c k G m)(hk:Kept Nil w w'):CV w' F c k G m:=h.aG hk (fun _ _ h=>h) (fun _ _ h=>h)
theorem CV.c0(h:CV w F c k G m):w.cell? ((⟨c,0,none⟩:Addr).add 0)=some (.int .i64 (k:Int)):=by rw [a7,az h.top];rfl
theorem CV.c1(h:CV w F c k G m):w.cell? ((⟨c,0,none⟩:Addr).add 1)=some (.pointer (some ⟨m.x,0,none⟩)):=by rw [a7,az h.top];rfl
theorem CV.c2(h:CV w F c k G m):w.cell? ((⟨c,0,none⟩:Addr).add 2)=some (.map (some m.mb)):=by rw [a7,az h.top];rfl
theorem CV.look(h:CV w F c k G m)(y:HT):(Instr.lookup da (.map (some m.mb)) (.agg y.1) false).run prog w=.ok (.pointer (if y∈ids G.D then some ⟨m.q y,0,none⟩else none)) w:=by
 have:=h.all.look Bk y;by_cases hy:y∈ids G.D
 ·rw [if_pos hy]at this;rw [if_pos hy];exact this
 ·rw [if_neg hy]at this;rw [if_neg hy];exact this
theorem CV.mO(h:CV w F c k G m){y:HT}(hy:y∈ids G.D):(Instr.lookup da (.map (some m.mb)) (.agg y.1) false).run prog w=.ok (.pointer (some ⟨m.q y,0,none⟩)) w:=by
 have:=h.look y;rwa [if_pos hy]at this
theorem pq(h:CV w F c k G m)(hK:K (.bool true) w):aY prog bT.id #[.pointer (some ⟨c,0,none⟩)] w K:=
 bT.of (Split.yes rfl ⟨_,h.c1,hK⟩)
theorem zR{A:Addr}{x y:Int}{cx:Nat}(h0:w.cell? A=some (.int .i64 x))(h1:w.cell? (A.add 1)=some (.int .i64 y))(hK:K (.int .i64 (if x=0 then y else x)) w):
 aY prog a8.id #[.slice (some A) 2 cx] w K:=by
 refine a8.of ?_;unfold a8.W;refine a8.bU (I:=fun s w'=>w'=w/\((s=(0,0))\/(s=(0,1)/\x=0)\/(s=(0,2)/\x=0/\y=0))) (μ:=fun s _=>(2-s.2).toNat) (s:=(0,0)) ⟨rfl,.inl rfl⟩ ?_;rintro s w' ⟨rfl,h⟩;rcases h with rfl|⟨rfl,hx⟩|⟨rfl,hx,hy⟩
 ·refine Split.yes rfl ⟨by simp only;omega,x,by rw [show(0:Int).toNat*1=0 from rfl,add_zero];exact h0,?_⟩
  by_cases hx:x=0
  ·refine Split.no (by simp [hx]) ?_
   exact⟨(0,1),rfl,⟨rfl,.inr (.inl ⟨rfl,hx⟩)⟩,by simp only;omega⟩
  ·refine Split.yes (by simpa using hx) ?_
   rw [if_neg hx]at hK;rw [fP];exact hK
 ·refine Split.yes rfl ⟨by simp only;omega,y,h1,?_⟩
  rw [if_pos hx]at hK;by_cases hy:y=0
  ·refine Split.no (by simp [hy]) ?_
   exact⟨(0,2),rfl,⟨rfl,.inr (.inr ⟨rfl,hx,hy⟩)⟩,by simp only;omega⟩
  ·refine Split.yes (by simpa using hy) ?_
   rw [fP];exact hK
 ·refine Split.no rfl ?_
  rw [aP,a8.dD];rw [if_pos hx,hy]at hK;exact hK
theorem xm{x y:Int}(hK:K (.int .i64 (if x<y then-1 else if y<x then 1 else 0)) w):aY prog cu.id #[.int .u64 x,.int .u64 y] w K:=by
 refine cu.of ?_;refine dh.of ⟨_,rfl,?_⟩;refine dh.of ⟨_,rfl,?_⟩;refine Split.no (by simp) (Split.no (by simp) (Split.dec (fun h=>?_) (fun h=>Split.dec (fun h'=>?_) (fun h'=>?_))))
 ·rw [if_pos h]at hK;exact hK
 ·rw [if_neg h,if_pos h']at hK;exact hK
 ·rw [if_neg h,if_neg h']at hK;exact hK
theorem lT(h:CV w F c k G m){a b:HT}(ha:a∈ids G.D)(hb:b∈ids G.D)(hK: ∀w',Kept Nil w w'->K (.int .i64 (vD G a b)) w'):
 aY prog aS.id #[.pointer (some ⟨c,0,none⟩),.agg a.1,.agg b.1] w K:=by
 refine aS.of ?_;unfold aS.W;intro w4 w5 w6;have k4:Kept Nil w w4:=(Kept.refl _ _).alloc _;have IP:w4.heap[w.heap.size]? =some (.cells a.1 ao (0,0)):=aN w _;have k5:Kept Nil w4 w5:=(Kept.refl _ _).alloc _;have tI:w5.heap[w4.heap.size]? =some (.cells b.1 ao (0,0)):=aN w4 _;have k6:Kept Nil w5 w6:=(Kept.refl _ _).drew;clear_value w6;have wX:=(k5.trans k6 (fun _ _ h=>h)).heap IP (fun h=>h);have oV:=k6.heap tI (fun h=>h);have qN:=(k4.trans k5 (fun _ _ h=>h)).trans k6 (fun _ _ h=>h);have h6:=h.same qN;obtain⟨A1,n1,c1,B1,m1,d1,s1,sa⟩:=h6.seen a ha;obtain⟨A2,n2,c2,B2,m2,d2,s2,sb⟩:=h6.seen b hb;refine⟨_,h6.c2,a.1,⟨a.2.1,Cells.bC wX⟩,_,h6.mO ha,_,sa.Ol,_,h6.c2,b.1,⟨b.2.1,Cells.bC oV⟩,_,h6.mO hb,_,sb.Ol,a.1,⟨a.2.1,Cells.bC wX⟩,b.1,⟨b.2.1,Cells.bC oV⟩,?_⟩;refine xm ⟨_,rfl,⟨b.1,rfl,b.2.1,Cells.bC oV⟩,⟨a.1,rfl,a.2.1,Cells.bC wX⟩,?_⟩;refine lW a b ⟨_,rfl,?_⟩;have k7:Kept Nil w6 ((w6.alloc (.cells a.1 ao)).alloc (.cells b.1 ao)).drew:=(((Kept.refl Nil w6).alloc _).alloc _).drew;generalize ((w6.alloc (.cells a.1 ao)).alloc (.cells b.1 ao)).drew=w7 at k7⊢;intro w8;have k8:Kept Nil w7 w8:=(Kept.refl _ _).alloc _;have JW:w8.heap[w7.heap.size]? =some (.cells _ _ (0,0)):=aN w7 _;clear_value w8;refine zR (A:=⟨w7.heap.size,0,none⟩) (by rw [az JW];rfl) (by rw [a7,az JW];rfl) ⟨_,rfl,?_⟩;have e:(if(if((G.gF a).score:Int)<((G.gF b).score:Int)then(-1:Int)else if((G.gF b).score:Int)<((G.gF a).score:Int)then 1 else 0)=0 then kX a b else if((G.gF a).score:Int)<((G.gF b).score:Int)then(-1:Int)else if((G.gF b).score:Int)<((G.gF a).score:Int)then 1 else 0)=vD G a b:=by
  rw [EW];unfold GS.score;by_cases h1:(G.gF a).score<(G.gF b).score
  ·have po:((G.gF a).score:Int)<((G.gF b).score:Int):=by omega
   rw [if_pos h1,if_pos po,if_neg (by decide)]
  ·have po: ¬((G.gF a).score:Int)<((G.gF b).score:Int):=by omega
   by_cases h2:(G.gF b).score<(G.gF a).score
   ·have qT:((G.gF b).score:Int)<((G.gF a).score:Int):=by omega
    rw [if_neg h1,if_neg po,if_pos h2,if_pos qT,if_neg (by decide)]
   ·have qT: ¬((G.gF b).score:Int)<((G.gF a).score:Int):=by omega
    rw [if_neg h1,if_neg po,if_neg h2,if_neg qT,if_pos rfl]
 rw [e];exact hK _ ((qN.trans k7 (fun _ _ h=>h)).trans k8 (fun _ _ h=>h))
end
end Go.Proofs.YtnboahlopghcjaaGreatDoor
namespace Go.Proofs.YtnboahlopghcjaaGreatDoor
open Go.Proofs.Tryz
open Go Go.bp Go.RowKit
section
variable{w:World}
theorem dA.xV{mt te:TypeId}{z:Value}(T:sl mt te z){m:Nat}{f:HT->Option Value}(hm:dA w m f)(h:HT):
 (Instr.lookup mt (.map (some m)) (.agg h.1) true).run prog w=.ok (.tuple #[(f h).getD z,.bool (f h).isSome]) w:=by
 obtain⟨es,clock,l,h1,h2,h3,_⟩:=hm.ex;have h4:=iX h w h2;have h5:=jx h l 0;rw [h3]at h5;simp only [Instr.lookup,Sem.run_bind,run_underlying T.lf,lU h1,Result.andThen_ok,Sem.run_pure,fO,h4];cases hp:iV h l 0 with
 |none=>rw [hp]at h5;simp [<-h5,T.zero]
 |some p=>rw [hp]at h5;simp [<-h5]
theorem wD{mt te:TypeId}{z:Value}(T:sl mt te z)(h:HT):
 (Instr.lookup mt (.map none) (.agg h.1) true).run prog w=.ok (.tuple #[z,.bool false]) w:=by
 have h3:=iX (es:= []) (l:= []) h w trivial;simp only [Instr.lookup,Sem.run_bind,run_underlying T.lf,Result.andThen_ok,Sem.run_pure,fO];simp [h3,iV,T.zero]
theorem Aa.xV{F:Nat->Prop}{sm:Option Nat}{sz:HT->Option Nat}(h:Aa w F sm sz)(b:HT):
 (Instr.lookup bE (.map sm) (.agg b.1) true).run prog w=.ok (.tuple #[.int .i64 (((sz b).getD 0:Nat):Int),.bool (sz b).isSome]) w:=by
 rcases h with⟨rfl,h⟩|⟨s,rfl,_,h⟩
 ·rw [h b];exact wD nW b
 ·have:=h.xV nW b
  unfold DM at this;cases hb:sz b with
  |none=>rw [hb]at this;exact this
  |some n=>rw [hb]at this;exact this
end
section
variable{w w':World}{F S:Nat->Prop}{c k:Nat}{G:GS}{m:CM}{K:Value->World->Prop}
theorem vu(h:CV w F c k G m)(hD:G.D.length<=5000)(a b:HT)(hK: ∀w' (r:Bool),(r=true↔ln G.D a b)->Kept Nil w w'->K (.bool r) w'):
 aY prog b0.id #[.pointer (some ⟨c,0,none⟩),.agg a.1,.agg b.1] w K:=by
 refine b0.of ?_;unfold b0.W;intro w4 w5 w6;have k4:Kept Nil w w4:=(Kept.refl _ _).alloc _;have IP:w4.heap[w.heap.size]? =some (.cells a.1 ao (0,0)):=aN w _;have k5:Kept Nil w4 w5:=(Kept.refl _ _).alloc _;have tI:w5.heap[w4.heap.size]? =some (.cells b.1 ao (0,0)):=aN w4 _;have k6:Kept Nil w5 w6:=(Kept.refl _ _).drew;clear_value w6;have wX:=(k5.trans k6 (fun _ _ h=>h)).heap IP (fun h=>h);have oV:=k6.heap tI (fun h=>h);have qN:=(k4.trans k5 (fun _ _ h=>h)).trans k6 (fun _ _ h=>h);have h6:=h.same qN;refine⟨a.1,⟨a.2.1,Cells.bC wX⟩,b.1,⟨b.2.1,Cells.bC oV⟩,⟨a.2.ints,b.2.ints⟩,?_⟩;rw [eJ];by_cases jZ:a=b
 ·refine Split.no (by rw [decide_eq_true jZ];rfl) (hK w6 false ⟨(fun e=>by cases e),fun e=>absurd jZ e.1⟩ qN)
 ·refine Split.yes (by rw [decide_eq_false jZ];rfl) ⟨_,h6.c1,a.1,⟨a.2.1,Cells.bC wX⟩,b.1,⟨b.2.1,Cells.bC oV⟩,?_⟩
  obtain⟨mx,X6,_⟩:=h6.X;refine iY X6 hD a b fun w7 r hr k7=>⟨_,rfl,?_⟩;have wH:=qN.trans k7 (fun _ _ h=>h);cases r with
  |true=>exact Split.no rfl (hK w7 false ⟨(fun e=>by cases e),fun e=>absurd (hr.1 rfl) e.2.1⟩ wH)
  |false=>
   have h7:=h.same wH;refine Split.yes rfl ⟨_,h7.c1,b.1,⟨b.2.1,Cells.bC (k7.heap oV (fun h=>h))⟩,a.1,⟨a.2.1,Cells.bC (k7.heap wX (fun h=>h))⟩,?_⟩;obtain⟨mx',X7,_⟩:=h7.X;refine iY X7 hD b a fun w8 r' VY k8=>⟨_,rfl,hK w8 _ ?_ (wH.trans k8 (fun _ _ h=>h))⟩;cases r' with
   |true=>exact⟨(fun e=>by cases e),fun e=>absurd (VY.1 rfl) e.2.2⟩
   |false=>exact⟨fun _=>⟨jZ,(fun e=>by have:=hr.2 e;cases this),(fun e=>by have:=VY.2 e;cases this)⟩,fun _=>rfl⟩
def mC(D:DG)(l:List HT):Int:=if l= []then 9 else if ∃p∈l,p∉ids D then 6 else 0
theorem zL(h:CV w F c k G m){A:Option Addr}{n cx:Nat}{l:List HT}(hl:HS w A n l)(hn:n<=400000)(hK: ∀w',Kept Nil w w'->K (.int .i64 (mC G.D l)) w'):
 aY prog bW.id #[.pointer (some ⟨c,0,none⟩),.slice A n cx] w K:=by
 have hlen:=hl.len;refine bW.of ?_;unfold bW.W;intro w4;have k4:Kept Nil w w4:=(Kept.refl _ _).alloc _;have ID:w4.heap[w.heap.size]? =some (.cells #[.pointer (some ⟨c,0,none⟩)] cN (0,0)):=aN w _;clear_value w4;refine⟨some ⟨c,0,none⟩,by rw [az ID];rfl,pq (h.same k4) ⟨_,rfl,Split.no rfl ?_⟩⟩;by_cases h0:n=0
 ·subst h0
  have e:l= []:=List.eq_nil_of_length_eq_zero hlen;refine Split.yes rfl ?_;have:=hK w4 k4;unfold mC at this;rw [if_pos e]at this;exact this
 ·have fc:l≠ []:=fun e=>by subst e;exact h0 hlen.symm
  refine Split.no (by simpa using (by omega: ¬(n:Int)=0)) ?_;refine bn.of (ai.of ?_);refine ai.bU (I:=fun s w'=> ∃i:Nat,s=(0,(i:Int))/\i<=n/\(∀p∈l.take i,p∈ids G.D)/\Kept Nil w4 w') (μ:=fun s _=>((n:Int)-s.2).toNat) (s:=(0,0)) ⟨0,rfl,Nat.zero_le _,by simp,Kept.refl _ _⟩ ?_;rintro s w' ⟨i,rfl,hi,dw,kw⟩;have Vr:=k4.trans kw (fun _ _ h=>h);refine Split.dec (fun jE=>?_) (fun iy=>?_)
  ·simp only at jE
   have eI:i<n:=by omega
   obtain⟨y,hy⟩: ∃y,l[i]? =some y:=⟨_,List.getElem?_eq_getElem (by omega)⟩;refine(hl.same Vr).load (i:=(i:Int)) (by omega) hy ?_;refine cO.of ?_;unfold cO.W;intro w7 w8;have k7:Kept Nil w' w7:=(Kept.refl _ _).alloc _;have hb7:w7.heap[w'.heap.size]? =some (.cells y.1 ao (0,0)):=aN w' _;have k8:Kept Nil w7 w8:=(Kept.refl _ _).drew;clear_value w8;have JW:=k8.heap hb7 (fun h=>h);have OP:=(kw.trans k7 (fun _ _ h=>h)).trans k8 (fun _ _ h=>h);have h8:=h.same (k4.trans OP (fun _ _ h=>h));refine⟨some ⟨c,0,none⟩,by rw [az (OP.heap ID (fun h=>h))];rfl,_,h8.c2,y.1,⟨y.2.1,Cells.bC JW⟩,_,h8.look y,_,rfl,?_⟩;by_cases hm:y∈ids G.D
   ·refine Split.no (by rw [if_pos hm];rfl) ?_
    simp only;rw [e8 (n:=(i:Int)) (by omega) (by omega)];refine⟨(0,(i:Int)+1),rfl,⟨i+1,rfl,eI,fun p hp=>?_,OP⟩,by simp only;omega⟩;rcases(bt hy).1 hp with hp|rfl
    ·exact dw p hp
    ·exact hm
   ·refine Split.yes (by rw [if_neg hm];rfl) ?_
    refine⟨(i:Int),rfl,_,rfl,?_⟩;have:=hK w8 (k4.trans OP (fun _ _ h=>h));unfold mC at this;rw [if_neg fc,if_pos ⟨y,List.mem_of_getElem? hy,hm⟩]at this;refine Split.yes (decide_eq_true (by omega)) this
  ·simp only at iy
   rw [aP,ai.dD];rw [List.take_of_length_le (by omega)]at dw;refine⟨_,rfl,_,rfl,?_⟩;have:=hK w' Vr;unfold mC at this;rw [if_neg fc,if_neg (fun⟨p,hp,hn⟩=>hn (dw p hp))]at this;exact Split.no (by decide) this
end
end Go.Proofs.YtnboahlopghcjaaGreatDoor
namespace Go.Proofs.YtnboahlopghcjaaGreatDoor
open Go.Proofs.Tryz
open Go Go.bp Go.RowKit
theorem pv{α β:Type}{f:α->Option β}{y:α}{n:β}: ∀ {l:List α} {j:Nat},l[j]? =some y->(∀x∈l.take j,f x=none)->f y=some n->l.findSome? f=some n
 | [],j,h,_,_=>by simp at h
 |x::l,0,h,_,hy=>by
  simp only [List.getElem?_cons_zero,Option.some.injEq]at h;subst h;rw [List.findSome?_cons,hy]
 |x::l,j+1,h,ha,hy=>by
  have hx:=ha x (by simp);rw [List.findSome?_cons,hx];exact pv (l:=l) (j:=j) (by simpa using h) (fun z hz=>ha z (by simp [hz])) hy
section
variable{w w':World}{F S:Nat->Prop}{c k:Nat}{G:GS}{m:CM}{K:Value->World->Prop}
theorem xc(h:CV w F c k G m)(hD:G.D.length<=5000){a b:HT}(ha:a∈ids G.D){l:List HT}(hc:cj G.D G.P a l)(hK: ∀w',Kept Nil w w'->K (.int .i64 ((ju m.sz l b:Nat):Int)) w'):
 aY prog aL.id #[.pointer (some ⟨c,0,none⟩),.agg a.1,.agg b.1] w K:=by
 have W:=h.gN.W;have H:=h.gN.kO;have Pe: ∀y∈l,y∈ids G.D:=fun y hy=>((hc.mem W H).1 hy).mem.1;refine aL.of ?_;unfold aL.W;intro w4 w5 w6 w7 w8;have k4:Kept Nil w w4:=(Kept.refl _ _).alloc _;have ID:w4.heap[w.heap.size]? =some (.cells #[.pointer (some ⟨c,0,none⟩)] cN (0,0)):=aN w _;have k5:Kept Nil w4 w5:=(Kept.refl _ _).alloc _;have Tt:w5.heap[w4.heap.size]? =some (.cells a.1 ao (0,0)):=aN w4 _;have k6:Kept Nil w5 w6:=(Kept.refl _ _).alloc _;have oV:w6.heap[w5.heap.size]? =some (.cells b.1 ao (0,0)):=aN w5 _;have k7:Kept Nil w6 w7:=(Kept.refl _ _).alloc _;have FL:w7.heap[w6.heap.size]? =some (.cells #[.int .i64 0] gC (0,0)):=aN w6 _;have k8:Kept Nil w7 w8:=(Kept.refl _ _).drew;clear_value w8;have O7:=k8.heap FL (fun h=>h);have JW:=k8.heap (k7.heap oV (fun h=>h)) (fun h=>h);have ha8:=k8.heap (k7.heap (k6.heap Tt (fun h=>h)) (fun h=>h)) (fun h=>h);have WE:=k8.heap (k7.heap (k6.heap (k5.heap ID (fun h=>h)) (fun h=>h)) (fun h=>h)) (fun h=>h);have BN:=(((k4.trans k5 (fun _ _ h=>h)).trans k6 (fun _ _ h=>h)).trans k7 (fun _ _ h=>h)).trans k8 (fun _ _ h=>h);have s06:=(((k4.trans k5 (fun _ _ h=>h)).trans k6 (fun _ _ h=>h))).size;have l7:=aQ FL;have l8:=aQ O7;clear_value w7 w6 w5 w4;refine⟨some ⟨c,0,none⟩,by rw [az WE];rfl,_,(h.same BN).c1,a.1,⟨a.2.1,Cells.bC ha8⟩,?_⟩;refine o9 a fun gI pb qb lO Eo Em Pa Zn=>⟨_,rfl,?_⟩;have Qa:=lO.size;have BO:=BN.trans lO (fun _ _ h=>h);have H6:=lO.heap O7 (fun h=>h)
 let xe:Value:=.func (.func aI.id) #[] #[.pointer (some ⟨pb,0,none⟩),.pointer (some ⟨qb,0,none⟩)]
 let ρ0:Env:= [(3,.pointer (some ⟨w.heap.size,0,none⟩)),(5,.pointer (some ⟨w5.heap.size,0,none⟩)),(6,.pointer (some ⟨w6.heap.size,0,none⟩)),(15,xe)]
 let J:Nat->World->Prop:=fun j u=>Kept Nil gI u/\j<=l.length/\ ∀y∈l.take j,m.sz y b=none
 let Jd:Code->World->Prop:=fun e u=>e=.ret/\Kept (fun k=>k=w6.heap.size) gI u/\ ∃n:Nat,(l.findSome? fun y=>m.sz y b)=some n/\u.heap[w6.heap.size]? =some (.cells #[.int .i64 (n:Int)] gC (0,0))
 have k0J: ∀ {u:World},Kept Nil gI u->Kept Nil w u:=fun k=>BO.trans k (fun _ _ h=>h);have kS: ∀ {v:World},Kept (fun k=>k=w6.heap.size) gI v->Kept Nil w v:=fun k=>BO.trans k (fun k hk e=>by omega);obtain⟨mx,Ui,_⟩:=(h.same BO).X
 change Holds none [] prog _ _ _ ρ0 gI
 refine kj (n:=33) (ρ:=ρ0) (ρ0:=ρ0) ng mix aL.k (t:=15) (ps:= #[16]) (by kernel_rfl) (by decide) rfl aI.at_ rfl (.inl rfl) (fun i x hi hx=>hx) rfl om l (fun _=>rfl) (fun q hq=>by
  have T9:q=16:=by simpa using hq
  subst T9;exact⟨by decide,by decide⟩) (xI (F:=m.FX) (x:=m.x) (m:=mx) (pb:=pb) (qb:=qb) hc (by omega)) J Jd ?_ ?_ (fun j u hJ=>⟨Ui.same hJ.1,hJ.1.heap Eo (fun h=>h),hJ.1.heap Em (fun h=>h)⟩) ?_ ?_ ?_ ?_ ?_
 ·rintro j u1 u2 R mQ ⟨h1,h2,h3⟩ lg
  exact⟨h1.trans lg (fun k hk e=>by omega),h2,h3⟩
 ·rintro e u1 u2 R mQ ⟨h1,h2,n,h3,h4⟩ lg
  exact⟨h1,h2.trans lg (fun k hk e=>by omega),n,h3,lg.heap h4 (by omega)⟩
 ·intro R
  exact⟨(((Kept.refl _ _).alloc _).alloc _),Nat.zero_le _,by simp⟩
 ·rintro j z u1 R hz ⟨h1,h2,h3⟩ mQ
  have e7:iR ρ0 ((#[16]:Array Nat).toList.zip (om z))= [(3,.pointer (some ⟨w.heap.size,0,none⟩)),(5,.pointer (some ⟨w5.heap.size,0,none⟩)),(6,.pointer (some ⟨w6.heap.size,0,none⟩)),(15,xe),(16,.agg z.1)]:=rfl;rw [e7,aL.a1];have rH:=(List.getElem?_eq_some_iff.1 hz).1;unfold aL.A1;intro Jp;obtain⟨nt,ij,ig⟩:=dU (w:=u1) (z:=bI.1) (cs:=z.1) (t:=ao) (by rw [z.2.1];rfl);refine⟨⟨z.2.1,z.2.one,fun j hj=>nt j (by rw [z.2.1];exact hj)⟩,?_⟩;intro E7
  replace ij:E7.heap[u1.heap.size]? =some (.cells z.1 ao (0,0)):=ij
  replace ig:Kept Nil u1 E7:=ig
  clear_value E7;have Cg:=mQ.aG ig (fun h=>h) (fun h=>h);refine⟨Cg,fun w2 R2 kQ rG=>?_⟩;have oB:=kQ.heap ij (iE ij Cg.loop);have rW:Kept Nil gI w2:=(h1.trans ig (fun _ _ h=>h)).trans kQ (fun k hk e=>by omega);rw [aL.y1];unfold aL.Y1;intro Ku;have QI:Kept Nil w2 Ku:=(Kept.refl _ _).drew;clear_value Ku;have MJ:=rG.aG QI (fun h=>h) (fun h=>h);have vc:=rW.trans QI (fun _ _ h=>h);have Hk:=lO.trans vc (fun _ _ h=>h);have TP:=h.same (BN.trans Hk (fun _ _ h=>h));obtain⟨A1,n1,c1,B1,m1,d1,s1,sa⟩:=TP.seen z (Pe z (List.mem_of_getElem? hz));refine⟨some ⟨c,0,none⟩,by rw [az (Hk.heap WE (fun h=>h))];rfl,_,TP.c2,z.1,⟨z.2.1,Cells.bC (QI.heap oB (fun h=>h))⟩,_,TP.mO (Pe z (List.mem_of_getElem? hz)),_,sa.c35,b.1,⟨b.2.1,Cells.bC (Hk.heap JW (fun h=>h))⟩,_,_,sa.sz.xV b,?_⟩;cases Vv:m.sz z b with
  |some n=>
   refine Split.yes rfl ⟨dE (vc.heap H6 (fun h=>h)) (by simp),?_⟩;intro mV;have H4:mV.heap[w6.heap.size]? =some (.cells #[.int .i64 (n:Int)] gC (0,0)):=by
    show(Ku.setCell ⟨w6.heap.size,0,none⟩ (.int .i64 (n:Int))).heap[w6.heap.size]? =_;rw [cQ (vc.heap H6 (fun h=>h)) 0];rfl
   have zo:Kept (· =w6.heap.size) Ku mV:=Kept.setCell (S:=fun k=>k=w6.heap.size) (Kept.refl _ Ku) (p:=⟨w6.heap.size,0,none⟩) (fun _=>rfl) _;clear_value mV;exact⟨MJ.aG zo (fun e=>by omega) (fun e=>by omega),rfl,(vc.mono fun _ _ h=>h.elim).trans zo (fun _ _ h=>h),n,pv hz h3 Vv,H4⟩
  |none=>
   refine Split.no rfl ⟨MJ,vc,rH,fun y hy=>?_⟩;rcases(bt hz).1 hy with hy|rfl
   ·exact h3 y hy
   ·exact Vv
 ·rintro u1 R ⟨h1,h2,h3⟩ mQ
  rw [List.take_of_length_le (Nat.le_refl _)]at h3;have e7:fe ρ0 gI.heap.size= [(3,.pointer (some ⟨w.heap.size,0,none⟩)),(5,.pointer (some ⟨w5.heap.size,0,none⟩)),(6,.pointer (some ⟨w6.heap.size,0,none⟩)),(15,xe),(4294967296,.agg (nn [gI.heap.size]))]:=rfl;rw [e7,aL.im];unfold aL.gm;have oR:=h1.heap H6 (fun h=>h);refine⟨dE oR (by simp),?_⟩;intro mV;have H4:mV.heap[w6.heap.size]? =some (.cells #[.int .i64 0] gC (0,0)):=by
   show(u1.setCell ⟨w6.heap.size,0,none⟩ (.int .i64 0)).heap[w6.heap.size]? =_;rw [cQ oR 0];rfl
  have zo:Kept (· =w6.heap.size) u1 mV:=Kept.setCell (S:=fun k=>k=w6.heap.size) (Kept.refl _ u1) (p:=⟨w6.heap.size,0,none⟩) (fun _=>rfl) _;clear_value mV;have mQ:=mQ.aG zo (fun e=>by omega) (fun e=>by omega);rw [jN];have kt:=gW [gI.heap.size] mV;have hm: ∀E∈ [gI.heap.size],mV.heap[E]? =some (.deferred (some [])):=fun E hE=>by
   rw [List.mem_singleton]at hE;subst hE;exact mQ.mark
  refine⟨jl [gI.heap.size] mV (by simp) hm,0,by rw [az (kt.heap H4 (fun hE=>by rw [List.mem_singleton]at hE;omega))];rfl,?_⟩;have e0:ju m.sz l b=0:=by
   unfold ju;have:(l.findSome? fun h=>m.sz h b)=none:=List.findSome?_eq_none_iff.2 h3;rw [this];rfl
  have:=hK (dS [gI.heap.size] mV) ((kS ((h1.mono fun _ _ h=>h.elim).trans zo (fun _ _ h=>h))).trans kt (fun k hk hE=>by rw [List.mem_singleton]at hE;have:=BO.size;omega));rw [e0]at this;exact this
 ·rintro u1 R ⟨_,h2,n,h3,h4⟩ mQ
  have e7:fe ρ0 gI.heap.size= [(3,.pointer (some ⟨w.heap.size,0,none⟩)),(5,.pointer (some ⟨w5.heap.size,0,none⟩)),(6,.pointer (some ⟨w6.heap.size,0,none⟩)),(15,xe),(4294967296,.agg (nn [gI.heap.size]))]:=rfl;rw [e7,aL.vX];unfold aL.rz;rw [jN];have kt:=gW [gI.heap.size] u1;have hm: ∀E∈ [gI.heap.size],u1.heap[E]? =some (.deferred (some [])):=fun E hE=>by
   rw [List.mem_singleton]at hE;subst hE;exact mQ.mark
  refine⟨jl [gI.heap.size] u1 (by simp) hm,(n:Int),by rw [az (kt.heap h4 (fun hE=>by rw [List.mem_singleton]at hE;omega))];rfl,?_⟩;have e0:ju m.sz l b=n:=by unfold ju;rw [h3];rfl
  have:=hK (dS [gI.heap.size] u1) ((kS h2).trans kt (fun k hk hE=>by rw [List.mem_singleton]at hE;have:=BO.size;omega));rw [e0]at this;exact this
 ·rintro id u1 R ⟨e,_⟩ mQ
  cases e
end
end Go.Proofs.YtnboahlopghcjaaGreatDoor
namespace Go.Proofs.YtnboahlopghcjaaGreatDoor
open Go.Proofs.Tryz
open Go Go.bp Go.RowKit
section
variable{w:World}
theorem vF{x:HT}: ∀ {l:List (HT×Value)},assoc x l≠none↔x∈l.map (·.1)
 | []=>by simp [assoc]
 |(y,v)::l=>by
  have:=vF (x:=x) (l:=l);unfold assoc;by_cases e:x=y
  ·subst e;simp
  ·rw [if_neg e,this]
   simp only [List.map_cons,List.mem_cons];exact⟨.inr,fun h=>h.resolve_left e⟩
theorem dA.len{mt te:TypeId}{z:Value}(T:sl mt te z){m:Nat}{f:HT->Option Value}(hm:dA w m f)(ty:TypeId){l:List HT}(hn:l.Nodup)(hl: ∀x,f x≠none↔x∈l):
 (Builtin.len_ #[mt] ty #[.map (some m)]).run prog w=.ok (.int .i64 (l.length:Int)) w:=by
 obtain⟨es,clock,l',h1,h2,h3,_,_,h6⟩:=hm.ex;have e1:es.size=l'.length:=by have:=h2.len;simpa using this
 have e2:l'.length=l.length:=by
  have hp:(l'.map (·.1)).Perm l:=(List.perm_ext_iff_of_nodup h6 hn).2 fun x=>by rw [<-vF,h3,hl]
  simpa using hp.length_eq
 simp [Builtin.len_,run_underlying T.lf,lU h1,goInt,Result.andThen,e1,e2]
end
section
variable{w w':World}{F S:Nat->Prop}{c k:Nat}{G:GS}{m:CM}{K:Value->World->Prop}
structure VB(w:World)(c:Nat)(s:HT)(bs bc bh q sm:Nat)(ov:HT->Option Nat):Prop where
 hs:w.heap[bs]? =some (.cells #[.pointer (some ⟨q,0,none⟩)] df (0,0))
 hc:w.heap[bc]? =some (.cells #[.pointer (some ⟨c,0,none⟩)] cN (0,0))
 hh:w.heap[bh]? =some (.cells s.1 ao (0,0))
 sz:w.cell? ((⟨q,0,none⟩:Addr).add 35)=some (.map (some sm))
 ov:dA w sm (DM ov)
theorem VB.aG{S:Nat->Prop}{s:HT}{bs bc bh q sm:Nat}{ov:HT->Option Nat}(h:VB w c s bs bc bh q sm ov)(hk:Kept S w w')(h1: ¬S bs)(h2: ¬S bc)(h3: ¬S bh)(h4: ¬S q)(h5: ¬S sm):VB w' c s bs bc bh q sm ov:=
 ⟨hk.heap h.hs h1,hk.heap h.hc h2,hk.heap h.hh h3,hk.cell h.sz h4,h.ov.aG hk h5⟩
theorem VB.same{s:HT}{bs bc bh q sm:Nat}{ov:HT->Option Nat}(h:VB w c s bs bc bh q sm ov)(hk:Kept Nil w w'):VB w' c s bs bc bh q sm ov:=h.aG hk (fun h=>h) (fun h=>h) (fun h=>h) (fun h=>h) (fun h=>h)
theorem vt(h:CV w F c k G m)(hD:G.D.length<=5000){s b:HT}(hs:s∈ids G.D){l:List HT}(hc:cj G.D G.P s l){bs bc bh q sm:Nat}{ov:HT->Option Nat}(V:VB w c s bs bc bh q sm ov)
 (hK: ∀w',Kept Nil w w'->K (.int .i64 ((nY ov (ju m.sz l) b:Nat):Int)) w'):
 aY prog bk.id #[.agg b.1,.pointer (some ⟨bs,0,none⟩),.pointer (some ⟨bc,0,none⟩),.pointer (some ⟨bh,0,none⟩)] w K:=by
 refine bk.of ?_;unfold bk.W;intro w4 w5;have k4:Kept Nil w w4:=(Kept.refl _ _).alloc _;have vU:w4.heap[w.heap.size]? =some (.cells b.1 ao (0,0)):=aN w _;have k5:Kept Nil w4 w5:=(Kept.refl _ _).drew;clear_value w5;have tI:=k5.heap vU (fun h=>h);have rY:=k4.trans k5 (fun _ _ h=>h);have V5:=V.same rY;refine⟨some ⟨q,0,none⟩,by rw [az V5.hs];rfl,_,V5.sz,b.1,⟨b.2.1,Cells.bC tI⟩,?_⟩;have lk:=V5.ov.xV nW b;unfold DM at lk;cases hb:ov b with
 |some n=>
  rw [hb]at lk;refine⟨(n:Int),true,lk,Split.yes rfl ?_⟩;have:=hK w5 rY;unfold nY at this;rw [hb]at this;exact this
 |none=>
  rw [hb]at lk;refine⟨0,false,lk,Split.no rfl ⟨some ⟨c,0,none⟩,by rw [az V5.hc];rfl,s.1,⟨s.2.1,Cells.bC V5.hh⟩,b.1,⟨b.2.1,Cells.bC tI⟩,?_⟩⟩;refine xc (h.same rY) hD hs hc fun w7 k7=>⟨_,rfl,?_⟩;have:=hK w7 (rY.trans k7 (fun _ _ h=>h));unfold nY at this;rw [hb]at this;exact this
def tZ(w:World)(fm:Nat)(kn:HT->Nat)(done:List HT):Prop:=dA w fm fun y=>if y∈done then some (.int .i64 (kn y:Int))else none
theorem vq(h:CV w F c k G m)(hD:G.D.length<=5000)(ue:k<=1000){s b:HT}(hs:s∈ids G.D){l:List HT}(hc:cj G.D G.P s l){bs bc bh q sm kb fb fm:Nat}{ov:HT->Option Nat}(V:VB w c s bs bc bh q sm ov)
 (F7:w.heap[kb]? =some (.cells #[.func (.func bk.id) #[] #[.pointer (some ⟨bs,0,none⟩),.pointer (some ⟨bc,0,none⟩),.pointer (some ⟨bh,0,none⟩)]] di (0,0)))
 (JT:w.heap[fb]? =some (.cells #[.map (some fm)] bE (0,0))) {done:List HT} (hn:done.Nodup) (S7:b∉done) (hF:tZ w fm (nY ov (ju m.sz l)) done) (hfo: ¬m.own c fm) (Sz: ¬F fm) (fc:bc≠fm)
 (hK: ∀w' (r:Bool),r=nS k (nY ov (ju m.sz l)) done b->tZ w' fm (nY ov (ju m.sz l)) (done++ [b])->Kept (· =fm) w w'->K (.bool r) w'):
 aY prog bD.id #[.agg b.1,.pointer (some ⟨kb,0,none⟩),.pointer (some ⟨fb,0,none⟩),.pointer (some ⟨bc,0,none⟩)] w K:=by
 have Vb:=hF.lt;refine bD.of ?_;unfold bD.W;intro w4 w5;have k4:Kept Nil w w4:=(Kept.refl _ _).alloc _;have vU:w4.heap[w.heap.size]? =some (.cells b.1 ao (0,0)):=aN w _;have k5:Kept Nil w4 w5:=(Kept.refl _ _).drew;clear_value w5;have tI:=k5.heap vU (fun h=>h);have rY:=k4.trans k5 (fun _ _ h=>h);have Zx:fb≠fm:=fun e=>by subst e;obtain⟨es,cl,_,h1,_⟩:=hF.ex;rw [JT]at h1;cases h1
 refine⟨some fm,by rw [az (rY.heap JT (fun h=>h))];rfl,b.1,⟨b.2.1,Cells.bC tI⟩,_,by rw [az (rY.heap F7 (fun h=>h))];rfl,b.1,⟨b.2.1,Cells.bC tI⟩,?_⟩;refine⟨_,_,_,_,rfl,bk.at_,rfl,?_⟩;refine vt (h.same rY) hD hs hc (V.same rY) fun w7 k7=>⟨_,rfl,⟨b.1,rfl,b.2.1,Cells.bC (k7.heap tI (fun h=>h))⟩,?_,?_⟩
 ·rw [az ((rY.trans k7 (fun _ _ h=>h)).heap JT (fun h=>h))];rfl
 have wH:=rY.trans k7 (fun _ _ h=>h);obtain⟨w8,O7,ZI,k8⟩:=(hF.same wH).put nW b (.int .i64 ((nY ov (ju m.sz l) b:Nat):Int));refine⟨w8,O7,?_⟩;intro w9;have k9:Kept Nil w8 w9:=(Kept.refl _ _).drew;clear_value w9;have Vl:Kept (· =fm) w7 w9:=k8.trans k9 (fun _ _ h=>h.elim);have BM:Kept (· =fm) w w9:=(wH.mono fun _ _ h=>h.elim).trans Vl (fun _ _ h=>h);have JZ:tZ w9 fm (nY ov (ju m.sz l)) (done++ [b]):=by
  refine dA.same ?_ k9;have e:(fun y=>if y∈done++ [b]then some (Value.int .i64 ((nY ov (ju m.sz l) y:Nat):Int))else none)=fun x=>if x=b then some (.int .i64 ((nY ov (ju m.sz l) b:Nat):Int))else if x∈done then some (.int .i64 ((nY ov (ju m.sz l) x:Nat):Int))else none:=by
   funext y
   by_cases e:y=b
   ·subst e;rw [if_pos (by simp),if_pos rfl]
   ·rw [if_neg e]
    by_cases hy:y∈done
    ·rw [if_pos (List.mem_append_left _ hy),if_pos hy]
    ·rw [if_neg (by simp [hy,e]),if_neg hy]
  rw [e];exact ZI
 have hb9:w9.heap[w.heap.size]? =some (.cells b.1 ao (0,0)):=((k7.mono fun _ _ h=>h.elim).trans Vl (fun _ _ h=>h):Kept (· =fm) w5 w9).heap tI (by omega);have M8:=BM.heap JT Zx;have fG:(done++ [b]).Nodup:=List.nodup_append.2 ⟨hn,by simp,fun x hx y hy e=>by
  have:y=b:=by simpa using hy
  subst this;subst e;exact S7 hx⟩
 have h9:CV w9 F c k G m:=h.aG BM (fun j hj e=>by subst e;exact hfo hj) (fun j hj e=>by subst e;exact Sz hj);have WD:w9.heap[bc]? =some (.cells #[.pointer (some ⟨c,0,none⟩)] cN (0,0)):=BM.heap V.hc fc;refine⟨some fm,by rw [az M8];rfl,(done++ [b]).length,JZ.len nW gC fG (fun x=>by
  by_cases hx:x∈done++ [b]
  ·rw [if_pos hx];exact⟨fun _=>hx,fun _ e=>by cases e⟩
  ·rw [if_neg hx];exact⟨fun e=>absurd rfl e,fun e=>absurd e hx⟩),some ⟨c,0,none⟩,by rw [az WD];rfl,(k:Int),h9.c0,?_⟩
 refine Split.dec (fun h1=>?_) (fun h1=>?_)
 ·have lk:=dA.look nW JZ b
  rw [if_pos (by simp)]at lk;refine⟨some fm,by rw [az M8];rfl,b.1,⟨b.2.1,Cells.bC hb9⟩,_,lk,some ⟨c,0,none⟩,by rw [az WD];rfl,(k:Int),h9.c0,?_⟩;refine hK w9 _ ?_ JZ BM;unfold nS;rw [List.length_append,List.length_cons,List.length_nil]at h1;refine decide_eq_decide.2 ⟨fun h2=>⟨by omega,by omega⟩,fun h2=>by omega⟩
 ·refine hK w9 false ?_ JZ BM
  unfold nS;rw [List.length_append,List.length_cons,List.length_nil]at h1;exact(decide_eq_false (by omega)).symm
end
end Go.Proofs.YtnboahlopghcjaaGreatDoor
namespace Go.Proofs.YtnboahlopghcjaaGreatDoor
open Go.Proofs.Tryz
open Go Go.bp Go.RowKit
structure PN where
 bs:Nat
 bc:Nat
 bh:Nat
 q:Nat
 sm:Nat
 kb:Nat
 fb:Nat
 fm:Nat
 yb:Nat
 hb:Nat
def PN.xe(p:PN):Value:=.func (.func bD.id) #[] #[.pointer (some ⟨p.kb,0,none⟩),.pointer (some ⟨p.fb,0,none⟩),.pointer (some ⟨p.bc,0,none⟩)]
def PN.jb(p:PN)(j:Nat):Prop:=p.bs≠j/\p.bc≠j/\p.bh≠j/\p.q≠j/\p.sm≠j/\p.kb≠j/\p.fb≠j
structure PG(w:World)(F:Nat->Prop)(c k:Nat)(G:GS)(m:CM)(s h:HT)(p:PN)(ov:HT->Option Nat):Prop where
 C:CV w F c k G m
 V:VB w c s p.bs p.bc p.bh p.q p.sm ov
 kb:w.heap[p.kb]? =some (.cells #[.func (.func bk.id) #[] #[.pointer (some ⟨p.bs,0,none⟩),.pointer (some ⟨p.bc,0,none⟩),.pointer (some ⟨p.bh,0,none⟩)]] di (0,0))
 fb:w.heap[p.fb]? =some (.cells #[.map (some p.fm)] bE (0,0))
 yb:w.cell? ⟨p.yb,0,none⟩=some p.xe
 hb:w.heap[p.hb]? =some (.cells h.1 ao (0,0))
 fo: ¬m.own c p.fm
 ff: ¬F p.fm
 jb:p.jb p.fm
 y:p.yb≠p.fm
 h:p.hb≠p.fm
section
variable{w w' u:World}{F:Nat->Prop}{c k:Nat}{G:GS}{m:CM}{s h:HT}{p:PN}{ov:HT->Option Nat}{K:Value->World->Prop}
theorem PG.aG(B:PG w F c k G m s h p ov)(hk:Kept (· =p.fm) w w'):PG w' F c k G m s h p ov:=by
 obtain⟨f1,f2,f3,f4,f5,f6,f7⟩:=B.jb;exact⟨B.C.aG hk (fun j hj e=>by subst e;exact B.fo hj) (fun j hj e=>by subst e;exact B.ff hj),B.V.aG hk f1 f2 f3 f4 f5,hk.heap B.kb f6,hk.heap B.fb f7,hk.cell B.yb B.y,hk.heap B.hb B.h,B.fo,B.ff,B.jb,B.y,B.h⟩
theorem PG.same(B:PG w F c k G m s h p ov)(hk:Kept Nil w w'):PG w' F c k G m s h p ov:=B.aG (hk.mono fun _ _ h=>h.elim)
theorem oL(B:PG w F c k G m s h p ov)(hD:G.D.length<=5000)(ue:k<=1000)(hs:s∈ids G.D){l:List HT}(hc:cj G.D G.P s l){done:List HT}(hF:tZ w p.fm (nY ov (ju m.sz l)) done){b:HT}{zb:Nat}
 (hz:w.heap[zb]? =some (.cells b.1 ao (0,0))) (hzf:zb≠p.fm) (hn:ln G.D b h->(done++ [b]).Nodup) {A T:World->Prop}
 (hA: ∀u,ln G.D b h->nS k (nY ov (ju m.sz l)) done b=false->Kept (· =p.fm) w u->A u)
 (hT: ∀u sZ,sZ=done++(if ln G.D b h then [b]else [])->(ln G.D b h->nS k (nY ov (ju m.sz l)) done b=true)->tZ u p.fm (nY ov (ju m.sz l)) sZ->Kept (· =p.fm) w u->T u):
 aY prog b0.id #[.pointer (some ⟨c,0,none⟩),.agg b.1,.agg h.1] w fun x y=> ∃z:Bool,x=.bool z/\Split z (∃a1:Value,y.cell? ⟨p.yb,0,none⟩=some a1/\ ∃b1:Array Value,(b1.size=32/\Cells y ⟨zb,0,none⟩ b1)/\
  ∃(c1:Nat) (d1 e1:Array Value) (f1:Func),(a1:Value)=.func (.func c1) d1 e1/\prog.funcs[c1]? =some f1/\f1.body.isSome=true/\
   aY prog c1 (d1.toList++([.agg b1]:List Value)++e1.toList).toArray y fun g1 i1=> ∃j1:Bool,g1=.bool j1/\Split (!j1) (A i1) (T i1)) (T y):=by
 refine vu B.C hD b h fun y r hr ky=>⟨r,rfl,?_⟩;have Vc:Kept (· =p.fm) w y:=ky.mono fun _ _ h=>h.elim;have By:=B.same ky;cases r with
 |false=>
  have H9: ¬ln G.D b h:=fun e=>by have:=hr.2 e;cases this
  exact Split.no rfl (hT y done (by rw [if_neg H9,List.append_nil]) (fun e=>absurd e H9) (hF.same ky) Vc)
 |true=>
  have ha:=hr.1 rfl;have fG:=hn ha;rw [List.nodup_append]at fG;refine Split.yes rfl ⟨_,By.yb,b.1,⟨b.2.1,Cells.bC (ky.heap hz (fun h=>h))⟩,_,_,_,_,rfl,bD.at_,rfl,?_⟩;refine vq By.C hD ue hs hc By.V By.kb By.fb fG.1 (fun e=>fG.2.2 b e b (by simp) rfl) (hF.same ky) B.fo B.ff B.jb.2.1 fun v r hr hv kv=>⟨r,rfl,?_⟩;have Ve:Kept (· =p.fm) w v:=Vc.trans kv (fun _ _ h=>h);cases r with
  |false=>exact Split.yes rfl (hA v ha hr.symm Ve)
  |true=>exact Split.no rfl (hT v (done++ [b]) (by rw [if_pos ha]) (fun _=>hr.symm) hv Ve)
end
end Go.Proofs.YtnboahlopghcjaaGreatDoor
namespace Go.Proofs.YtnboahlopghcjaaGreatDoor
open Go.Proofs.Tryz
open Go Go.bp Go.RowKit
structure PG0(w:World)(F:Nat->Prop)(c k:Nat)(G:GS)(m:CM)(s:HT)(p:PN)(ov:HT->Option Nat):Prop where
 C:CV w F c k G m
 V:VB w c s p.bs p.bc p.bh p.q p.sm ov
 kb:w.heap[p.kb]? =some (.cells #[.func (.func bk.id) #[] #[.pointer (some ⟨p.bs,0,none⟩),.pointer (some ⟨p.bc,0,none⟩),.pointer (some ⟨p.bh,0,none⟩)]] di (0,0))
 fb:w.heap[p.fb]? =some (.cells #[.map (some p.fm)] bE (0,0))
 fo: ¬m.own c p.fm
 ff: ¬F p.fm
 jb:p.jb p.fm
theorem dC: ∀ {l m:List HT},l.Nodup->(∀x∈l,x∈m)->l.length<=m.length
 | [],_,_,_=>Nat.zero_le _
 |x::l,m,hn,hm=>by
  rw [List.nodup_cons]at hn;have hx:=hm x List.mem_cons_self;have:=dC (m:=m.erase x) hn.2 fun y hy=>(List.mem_erase_of_ne (fun e=>hn.1 (by rw [<-e];exact hy))).2 (hm y (List.mem_cons_of_mem _ hy));rw [List.length_erase_of_mem hx]at this;have h0:=List.length_pos_of_mem hx;rw [List.length_cons];omega
theorem HS.get_mem{w:World}{A:Option Addr}{n:Nat}{l:List HT}(hl:HS w A n l){i:Nat}(hi:i<n): ∃y,l[i]? =some y:=⟨_,List.getElem?_eq_getElem (by have:=hl.len;omega)⟩
theorem uK{D:DG}{l:List HT}{h x:HT}{i:Nat}(hx:l[i]? =some x):bA D (l.take (i+1)) h=bA D (l.take i) h++if ln D x h then [x]else []:=by
 have e:l.take (i+1)=l.take i++ [x]:=by rw [List.take_add_one,hx];rfl
 rw [e,dX]
 congr 1
 unfold bA;by_cases hp:ln D x h
 ·rw [if_pos hp,List.filter_cons_of_pos (by simpa using hp)];rfl
 ·rw [if_neg hp,List.filter_cons_of_neg (by simpa using hp)];rfl
theorem xq{m:List HT}{b:List Bool}{x:HT}{y:Bool}{i:Nat}(hx:m[i]? =some x)(hy:b[i]? =some y):db (m.drop i) (b.drop i)=(if y then [x]else [])++db (m.drop (i+1)) (b.drop (i+1)):=by
 obtain⟨hi,ex⟩:=List.getElem?_eq_some_iff.1 hx;obtain⟨hj,ey⟩:=List.getElem?_eq_some_iff.1 hy;rw [List.drop_eq_getElem_cons hi,List.drop_eq_getElem_cons hj,ex,ey];cases y<;>rfl
theorem jT(c:p8)(A:Option Addr)(n cp:Nat)(B:Option Addr)(m cq:Nat): ∀v∈(dT c A n cp B m cq).toList,v.oneCell'=true:=by
 intro v hv;unfold dT at hv;rw [Array.toList_append,List.mem_append]at hv;rcases hv with hv|hv
 ·exact c.kO.2.one v hv
 ·simp only [List.mem_cons,List.not_mem_nil,or_false]at hv
  rcases hv with rfl|rfl|rfl<;>rfl
section
variable{w w':World}{F:Nat->Prop}{c k:Nat}{G:GS}{m:CM}{s:HT}{p:PN}{ov:HT->Option Nat}{K:Value->World->Prop}
theorem xt{kn:HT->Nat}{done rest hZ:List HT}{b:HT}(e:done++b::rest=hZ)(h:nS k kn done b=false):de k kn [] hZ=false:=by
 rw [<-e,jr,List.nil_append,de,h,Bool.false_and,Bool.and_false]
theorem tV{kn:HT->Nat}{done:List HT}{b:HT}(h:de k kn [] done=true)(hb:nS k kn done b=true):de k kn [] (done++ [b])=true:=by
 rw [jr,h,List.nil_append,de,hb,Bool.true_and,Bool.true_and];rfl
theorem vr(B:PG0 w F c k G m s p ov)(hD:G.D.length<=5000)(ue:k<=1000)(hs:s∈ids G.D){l:List HT}(hc:cj G.D G.P s l){h:HT}{bb:Nat}{A:Option Addr}{n cx:Nat}{bl:List HT}
 (zI:w.heap[bb]? =some (.cells #[.slice A n cx] aR (0,0))) (hbf:bb≠p.fm) (zG:HS w A n bl) (WT: ∀a,A=some a->a.block≠p.fm) (hn:n<=10000) (hF:tZ w p.fm (nY ov (ju m.sz l)) []) (sV:(kL G h bl l).Nodup)
 (hK: ∀w' (r:Bool),r=de k (nY ov (ju m.sz l)) [] (kL G h bl l)->(r=true->tZ w' p.fm (nY ov (ju m.sz l)) (kL G h bl l))->Kept (· =p.fm) w w'->K (.bool r) w'):
 aY prog ae.id #[.agg h.1,p.xe,.pointer (some ⟨bb,0,none⟩),.pointer (some ⟨p.bc,0,none⟩),.pointer (some ⟨p.bh,0,none⟩)] w K:=by
 have W:=B.C.gN.W;have H:=B.C.gN.kO;have Pe: ∀y∈l,y∈ids G.D:=fun y hy=>((hc.mem W H).1 hy).mem.1;have hlen:=zG.len;have Vb:=hF.lt;refine ae.of ?_;unfold ae.W;intro w4 w5 w6;have k4:Kept Nil w w4:=(Kept.refl _ _).alloc _;have Wt:w4.heap[w.heap.size]? =some (.cells h.1 ao (0,0)):=aN w _;have k5:Kept Nil w4 w5:=(Kept.refl _ _).alloc _;obtain⟨ty,Vz⟩: ∃ty:TypeId,w5.heap[w4.heap.size]? =some (.cells #[p.xe] ty (0,0)):=⟨_,aN w4 _⟩;have k6:Kept Nil w5 w6:=(Kept.refl _ _).alloc _;have VX:w6.heap[w5.heap.size]? =some (.cells #[.bool false] gP (0,0)):=aN w5 _;clear_value w6;have Yz:=k6.heap Vz (fun h=>h);have Z3:=k6.heap (k5.heap Wt (fun h=>h)) (fun h=>h);have qN:=(k4.trans k5 (fun _ _ h=>h)).trans k6 (fun _ _ h=>h);have s4:=k4.size;have s5:=k5.size;have s6:=k6.size;have l4:=aQ Wt;have l5:=aQ Vz;have l6:=aQ VX;clear_value w5 w4;obtain⟨p',Ep,r7,zD,Tb,S9⟩: ∃p':PN,p'= {p with yb:=w4.heap.size,hb:=w.heap.size}/\p'.xe=p.xe/\p'.fm=p.fm/\p'.bc=p.bc/\p'.bh=p.bh:=⟨_,rfl,rfl,rfl,rfl,rfl⟩;have W4:p'.yb=w4.heap.size:=by rw [Ep]
 have PA:p'.hb=w.heap.size:=by rw [Ep]
 have B6:PG w6 F c k G m s h p' ov:=by
  rw [Ep];exact⟨B.C.same qN,B.V.same qN,qN.heap B.kb (fun h=>h),qN.heap B.fb (fun h=>h),by show w6.cell? ⟨w4.heap.size,0,none⟩=_;rw [az Yz];rfl,Z3,B.fo,B.ff,B.jb,(by show w4.heap.size≠p.fm;omega),(by show w.heap.size≠p.fm;omega)⟩
 generalize r6:nY ov (ju m.sz l)=kn at*;have hF6:tZ w6 p'.fm kn []:=by rw [zD];exact hF.same qN
 generalize gE:kL G h bl l=hZ at*;have nv:bA G.D bl h++uf G h l=hZ:=gE;rw [<-zD]at hbf WT Vb;have TD: ∀w' (r:Bool),r=de k kn [] hZ->(r=true->tZ w' p'.fm kn hZ)->Kept (· =p'.fm) w w'->K (.bool r) w':=by rw [zD];exact hK
 have kA: ∀ {v:World},Kept (· =p'.fm) w6 v->Kept (· =p'.fm) w v:=fun k=>(qN.mono fun _ _ h=>h.elim).trans k (fun _ _ h=>h);have fin: ∀ {v:World} (r:Bool),Kept (· =p'.fm) w6 v-> ∃u:World,u=v.setCell ⟨w5.heap.size,0,none⟩ (.bool r)/\Wr v ⟨w5.heap.size,0,none⟩/\u.heap[w5.heap.size]? =some (.cells #[.bool r] gP (0,0))/\Kept (· =w5.heap.size) v u:=fun {v} r kv=>by
  have hr:=kv.heap VX (by omega);refine⟨_,rfl,dE hr (by simp),?_,Kept.setCell (S:=fun k=>k=w5.heap.size) (Kept.refl _ v) (p:=⟨w5.heap.size,0,none⟩) (fun _=>rfl) _⟩;rw [cQ hr 0];rfl
 have QA: ∀ {v u:World},Kept (· =p'.fm) w6 v->Kept (· =w5.heap.size) v u->Kept (· =p'.fm) w u:=fun kv ku=>⟨ku.os.trans (kA kv).os,ku.tape.trans (kA kv).tape,ku.output.trans (kA kv).output,Nat.le_trans (kA kv).size ku.size,fun j hj hn=>by rw [ku.block j (Nat.lt_of_lt_of_le hj (kA kv).size) (by omega),(kA kv).block j hj hn]⟩;refine⟨A,n,cx,by rw [az (qN.heap zI (fun h=>h))];rfl,?_⟩;rw [<-Tb,<-S9];refine ae.bU (I:=fun s0 v=> ∃i:Nat,s0=(i:Int)/\i<=n/\tZ v p'.fm kn (bA G.D (bl.take i) h)/\de k kn [] (bA G.D (bl.take i) h)=true/\Kept (· =p'.fm) w6 v) (μ:=fun s0 _=>((n:Int)-s0).toNat) (s:=0) ⟨0,rfl,Nat.zero_le _,hF6,rfl,Kept.refl _ _⟩ ?_;rintro s0 v ⟨i,rfl,hi,TG,dw,kv⟩;have Bv:=B6.aG kv;refine Split.dec (fun jE=>?_) (fun iy=>?_)
 ·have eI:i<n:=by omega
  obtain⟨b,hb⟩:=zG.get_mem eI;have S8:HS v A n bl:=zG.aG (kA kv) WT;refine S8.load (i:=(i:Int)) (by omega) hb ?_;intro jJ;obtain⟨nt,ij,ig⟩:=dU (w:=v) (z:=bI.1) (cs:=b.1) (t:=ao) (by rw [b.2.1];rfl);refine⟨⟨b.2.1,b.2.one,fun j hj=>nt j (by rw [b.2.1];exact hj)⟩,?_⟩;intro gD
  replace ij:gD.heap[v.heap.size]? =some (.cells b.1 ao (0,0)):=ij
  replace ig:Kept Nil v gD:=ig
  clear_value gD;have sv:=(kA kv).size;have Jk:=Bv.same ig;have e1:=uK (D:=G.D) (h:=h) hb;have e2: ∃rest,bA G.D (bl.take i) h++(if ln G.D b h then [b]else [])++rest=hZ:=by
   refine⟨bA G.D (bl.drop (i+1)) h++uf G h l,?_⟩;rw [<-e1,<-nv,<-List.append_assoc,<-dX,List.take_append_drop]
  obtain⟨rest,e2⟩:=e2;refine⟨some ⟨c,0,none⟩,by rw [az Jk.V.hc];rfl,b.1,⟨b.2.1,Cells.bC ij⟩,h.1,⟨h.2.1,by have:=Jk.hb;rw [PA]at this;exact Cells.bC this⟩,?_⟩;rw [<-W4];refine oL Jk hD ue hs hc (done:=bA G.D (bl.take i) h) (by rw [r6];exact TG.same ig) ij (by omega) (fun ha=>by
   rw [if_pos ha]at e2;rw [<-e2]at sV;exact(List.nodup_append.1 sV).1) ?_ ?_
  ·intro u ha hp ku
   rw [r6]at hp;have OO:Kept (· =p'.fm) w6 u:=(kv.trans ig (fun _ _ h=>h.elim)).trans ku (fun _ _ h=>h);obtain⟨u',eu,hw,LP,Yi⟩:=fin false OO;refine⟨hw,?_⟩;intro Jq;have e30:Jq=u':=eu.symm;rw [fP,ae.GD,e30];rw [if_pos ha,List.append_assoc]at e2;exact⟨false,by rw [az LP];rfl,TD u' false (xt e2 hp).symm (fun e=>by cases e) (QA OO Yi)⟩
  ·intro u sZ ed hp Gs ku
   rw [r6]at hp Gs;have OO:Kept (· =p'.fm) w6 u:=(kv.trans ig (fun _ _ h=>h.elim)).trans ku (fun _ _ h=>h);rw [e8 (n:=(i:Int)) (by omega) (by omega)];refine⟨(i:Int)+1,rfl,⟨i+1,rfl,eI,?_,?_,OO⟩,by simp only;omega⟩
   ·rw [e1,<-ed];exact Gs
   ·rw [e1]
    by_cases ha:ln G.D b h
    ·rw [if_pos ha];exact tV dw (hp ha)
    ·rw [if_neg ha,List.append_nil];exact dw
 ·rw [aP,ae.dD]
  rw [List.take_of_length_le (by omega)]at dw TG;unfold ae.cW;intro rK;have BD:Kept Nil v rK:=(Kept.refl _ _).drew;clear_value rK;have UD:=Bv.same BD;refine⟨some ⟨c,0,none⟩,by rw [az UD.V.hc];rfl,_,UD.C.c1,s.1,⟨s.2.1,Cells.bC UD.V.hh⟩,?_⟩;refine o9 s fun gI pb qb lO Eo Em Pa Zn=>⟨_,rfl,?_⟩;have Hh:Kept Nil v gI:=BD.trans lO (fun _ _ h=>h);have D4:Kept (· =p'.fm) w6 gI:=kv.trans Hh (fun _ _ h=>h.elim);have Xt:=Bv.same Hh;have XF:=D4.size;have TJ:tZ gI p'.fm kn (bA G.D bl h):=TG.same Hh
  let xe:Value:=.func (.func aI.id) #[] #[.pointer (some ⟨pb,0,none⟩),.pointer (some ⟨qb,0,none⟩)]
  let ρ0:Env:= [(3,.pointer (some ⟨p'.bc,0,none⟩)),(5,.pointer (some ⟨w.heap.size,0,none⟩)),(6,.pointer (some ⟨w4.heap.size,0,none⟩)),(7,.pointer (some ⟨w5.heap.size,0,none⟩)),(36,xe)]
  let J:Nat->World->Prop:=fun j u=> ∃done:List HT,done++uf G h (l.drop j)=hZ/\tZ u p'.fm kn done/\de k kn [] done=true/\Kept (· =p'.fm) gI u/\j<=l.length
  let Jd:Code->World->Prop:=fun e u=>e=.ret/\ ∃r:Bool,u.heap[w5.heap.size]? =some (.cells #[.bool r] gP (0,0))/\r=de k kn [] hZ/\(r=true->tZ u p'.fm kn hZ)/\Kept (fun j=>j=p'.fm\/j=w5.heap.size) gI u
  have lpb:=aQ Eo;have lqb:=aQ Em;have XC:=BD.size;have svw:=(kA kv).size;obtain⟨mx,Ui,VQ⟩:=Xt.C.X;have XJ: ∀ {u:World},Kept (· =p'.fm) gI u->XV u m.FX m.x G.D G.P mx:=fun k=>Ui.aG k (fun j hj e=>by subst e;rw [zD]at hj;exact B.fo (.inl (VQ _ hj))) (fun j hj e=>by subst e;rw [zD]at hj;exact B.ff (B.C.fx _ hj))
  change Holds none [] prog _ _ _ ρ0 gI
  have out: ∀ {u:World} {R:Loop} (r:Bool),Kept (· =p'.fm) gI u->Live (gI.heap.size+1) gI.heap.size R u->r=de k kn [] hZ->(r=true->tZ u p'.fm kn hZ)->Wr u ⟨w5.heap.size,0,none⟩/\ ∀u',u'=u.setCell ⟨w5.heap.size,0,none⟩ (.bool r)->Live (gI.heap.size+1) gI.heap.size R u'/\Jd .ret u':=fun {u R} r ku hl hr hf=>by
   obtain⟨u0,e0,t1,t2,t3⟩:=fin r (D4.trans ku (fun _ _ h=>h));refine⟨t1,fun u' eu=>?_⟩;rw [eu,<-e0];refine⟨hl.aG t3 (by omega) (by omega),rfl,r,t2,hr,fun e=>(hf e).aG t3 (by omega),(ku.mono fun _ _ h=>.inl h).trans t3 (fun _ _ h=>.inr h)⟩
  refine kj (n:=90) (ρ:=ρ0) (ρ0:=ρ0) ng mix ae.k (t:=36) (ps:= #[37]) (by kernel_rfl) (by decide) rfl aI.at_ rfl (.inl rfl) (fun i x hi hx=>hx) rfl om l (fun _=>rfl) (fun q hq=>by
   have T9:q=37:=by simpa using hq
   subst T9;exact⟨by decide,by decide⟩) (xI (F:=m.FX) (x:=m.x) (m:=mx) (pb:=pb) (qb:=qb) hc (by omega)) J Jd ?_ ?_ (fun j u ⟨done,_,_,_,kJ,_⟩=>⟨XJ kJ,kJ.heap Eo (by omega),kJ.heap Em (by omega)⟩) ?_ ?_ ?_ ?_ ?_
  ·rintro j u1 u2 R mQ ⟨done,h1,h2,h3,h4,h5⟩ lg
   exact⟨done,h1,h2.aG lg (by omega),h3,h4.trans lg (fun k hk e=>by omega),h5⟩
  ·rintro e u1 u2 R mQ ⟨h1,r,h2,h3,h4,h5⟩ lg
   exact⟨h1,r,lg.heap h2 (by omega),h3,fun e=>(h4 e).aG lg (by omega),h5.trans lg (fun k hk e=>by omega)⟩
  ·intro R
   have ka:Kept Nil gI ((gI.alloc (.deferred (some []))).alloc (.loop R)):=(((Kept.refl _ _).alloc _).alloc _);exact⟨bA G.D bl h,nv,TJ.same ka,dw,ka.mono fun _ _ h=>h.elim,Nat.zero_le _⟩
  ·rintro j z u1 R hz ⟨done,h1,h2,h3,h4,h5⟩ mQ
   have e7:iR ρ0 ((#[37]:Array Nat).toList.zip (om z))= [(3,.pointer (some ⟨p'.bc,0,none⟩)),(5,.pointer (some ⟨w.heap.size,0,none⟩)),(6,.pointer (some ⟨w4.heap.size,0,none⟩)),(7,.pointer (some ⟨w5.heap.size,0,none⟩)),(36,xe),(37,.agg z.1)]:=rfl;rw [e7,ae.a1];have rH:=(List.getElem?_eq_some_iff.1 hz).1;have LB:=Pe z (List.mem_of_getElem? hz);have Oe:l.drop j=z::l.drop (j+1):=by
    obtain⟨hi,e⟩:=List.getElem?_eq_some_iff.1 hz;rw [List.drop_eq_getElem_cons hi,e]
   rw [Oe,uf]at h1;unfold ae.A1;intro Jp;obtain⟨nt,ij,ig⟩:=dU (w:=u1) (z:=bI.1) (cs:=z.1) (t:=ao) (by rw [z.2.1];rfl);refine⟨⟨z.2.1,z.2.one,fun j hj=>nt j (by rw [z.2.1];exact hj)⟩,?_⟩;intro E7
   replace ij:E7.heap[u1.heap.size]? =some (.cells z.1 ao (0,0)):=ij
   replace ig:Kept Nil u1 E7:=ig
   clear_value E7;have Cg:=mQ.aG ig (fun h=>h) (fun h=>h);refine⟨Cg,fun w2 R2 kQ rG=>?_⟩;have oB:=kQ.heap ij (iE ij Cg.loop);have XH:=h4.size;have rW:Kept (· =p'.fm) gI w2:=(h4.trans ig (fun _ _ h=>h.elim)).trans kQ (fun k hk e=>by omega);have Pp:tZ w2 p'.fm kn done:=(h2.same ig).aG kQ (by omega);have B2:=Xt.aG rW;rw [ae.y1];unfold ae.Y1;have e2: ∃rest,done++(if ln G.D z h then [z]else [])++rest=hZ:=⟨_,(List.append_assoc _ _ _).trans h1⟩;obtain⟨rest,e2⟩:=e2;refine⟨some ⟨c,0,none⟩,by rw [az B2.V.hc];rfl,z.1,⟨z.2.1,Cells.bC oB⟩,h.1,⟨h.2.1,by have:=B2.hb;rw [PA]at this;exact Cells.bC this⟩,?_⟩;rw [<-W4];refine oL B2 hD ue hs hc (done:=done) (by rw [r6];exact Pp) oB (by omega) (fun ha=>by
    rw [if_pos ha]at e2;rw [<-e2]at sV;exact(List.nodup_append.1 sV).1) ?_ ?_
   ·intro u ha hp ku
    rw [r6]at hp;rw [if_pos ha,List.append_assoc]at e2;obtain⟨o1,o2⟩:=out (u:=u) false (rW.trans ku (fun _ _ h=>h)) (rG.aG ku (by omega) (by omega)) (xt e2 hp).symm (fun e=>by cases e);refine⟨o1,?_⟩;intro PY;exact o2 PY rfl
   ·intro u sZ ed hp Gs ku
    rw [r6]at hp Gs;have QJ:=rW.trans ku (fun _ _ h=>h);have Wi:=rG.aG ku (by omega) (by omega);have Gp:de k kn [] sZ=true:=by
     rw [ed];by_cases ha:ln G.D z h
     ·rw [if_pos ha];exact tV h3 (hp ha)
     ·rw [if_neg ha,List.append_nil];exact h3
    rw [<-List.append_assoc,<-ed]at h1;intro PX;have Vn:Kept Nil u PX:=(Kept.refl _ _).drew;clear_value PX;have Ho:Kept (· =p'.fm) w2 PX:=ku.trans Vn (fun _ _ h=>h.elim);have PO:=B2.aG Ho;have QU:=Ho.heap oB (by omega);obtain⟨mx1,X61,_⟩:=PO.C.X;refine⟨some ⟨c,0,none⟩,by rw [az PO.V.hc];rfl,_,PO.C.c1,z.1,⟨z.2.1,Cells.bC QU⟩,h.1,⟨h.2.1,by have:=PO.hb;rw [PA]at this;exact Cells.bC this⟩,?_⟩;refine iY X61 hD z h fun Ad r hr zn=>⟨r,rfl,?_⟩;have DZ:Kept Nil u Ad:=Vn.trans zn (fun _ _ h=>h);have MB:=Wi.aG DZ (fun h=>h) (fun h=>h);have Ll:=QJ.trans DZ (fun _ _ h=>h.elim);have TH:=Gs.same DZ;cases r with
    |true=>
     have Cv:=hr.1 rfl;rw [if_pos Cv,List.append_nil]at h1;obtain⟨o1,o2⟩:=out (u:=Ad) true Ll MB (by rw [<-h1,Gp]) (fun _=>by rw [<-h1];exact TH);refine Split.yes rfl ⟨o1,?_⟩;intro GL;exact o2 GL rfl
    |false=>
     have Mo: ¬eB G.D z h:=fun e=>by have:=hr.2 e;cases this
     rw [if_neg Mo]at h1;refine Split.no rfl ?_;intro Ax;have Fo:Kept Nil Ad Ax:=(Kept.refl _ _).drew;clear_value Ax;have Ea:Kept (· =p'.fm) w2 Ax:=Ho.trans (zn.trans Fo (fun _ _ h=>h)) (fun _ _ h=>h.elim);have OH:=B2.aG Ea;have LC:=Ea.heap oB (by omega);obtain⟨A1,n1,c1,B1,m1,d1,s1,sa⟩:=OH.C.seen z LB;refine⟨some ⟨c,0,none⟩,by rw [az OH.V.hc];rfl,_,OH.C.c2,z.1,⟨z.2.1,Cells.bC LC⟩,_,OH.C.mO LB,_,⟨bM ..,sa.gF⟩,?_⟩;intro UI;have QC:Kept Nil Ax UI:=(Kept.refl _ _).alloc _;obtain⟨HM,vo,oU⟩:=dU (w:=Ax) (z:=zC) (cs:=dT (G.gF z) A1 n1 c1 B1 m1 d1) (t:=bX) (by rw [bM];rfl);have UC:=OH.same QC;refine⟨⟨_,rfl,bM ..,(sa.aG QC (fun _ _ h=>h)).gF⟩,UC.C.mO LB,⟨z.1,rfl,z.2.1,Cells.bC (QC.heap LC (fun h=>h))⟩,UC.C.c2,by rw [az UC.V.hc];rfl,⟨bM ..,jT _ _ _ _ _ _ _,fun j hj=>HM j (by rw [bM];exact hj)⟩,?_⟩;intro Jm
     replace vo:Jm.heap[Ax.heap.size]? =some (.cells (dT (G.gF z) A1 n1 c1 B1 m1 d1) bX (0,0)):=vo
     replace oU:Kept Nil Ax Jm:=oU
     clear_value Jm UI;have La:Kept Nil u Jm:=DZ.trans (Fo.trans oU (fun _ _ h=>h)) (fun _ _ h=>h);have Lo:Kept (· =p'.fm) w2 Jm:=Ea.trans oU (fun _ _ h=>h.elim);have XK:=Lo.size;have XL:=Ea.size;have s2:=rW.size;have ZO:=Wi.aG La (fun h=>h) (fun h=>h);have P8:=sa.aG oU (fun _ _ h=>h);have Wd:=sa.mg.len;have Ns:=sa.bl.len;have Sz: ∀j,F j->j≠p'.fm:=fun j hj e=>by rw [zD]at e;subst e;exact B.ff hj
     have SP:=fz (G.gF z) A1 n1 c1 B1 m1 d1 #[];rw [Array.append_empty]at SP;refine⟨A1,n1,c1,by rw [a7,az vo];exact SP.2.1,?_⟩;have Wk:(G.gF z).gB.length=(G.gF z).merge.length:=by
      rcases(cj.ex H z)with⟨lz,cz⟩;rcases cz.inv W H LB with⟨_,nd,h0,rfl⟩|⟨t,r',_,pI,_,_⟩
      ·obtain⟨r1,_⟩:=B.C.gN.root nd h0
       rw [r1];rfl
      ·exact(B.C.gN.up t z pI).2.2.1
     have F5:(G.gF z).merge.length<=G.D.length:=by
      have fG:(G.gF z).merge.Nodup/\ ∀y∈(G.gF z).merge,y∈ids G.D:=by
       rcases(cj.ex H z)with⟨lz,cz⟩;rcases cz.inv W H LB with⟨_,nd,h0,rfl⟩|⟨t,r',_,pI,_,_⟩
       ·obtain⟨r1,_⟩:=B.C.gN.root nd h0
        rw [r1];exact⟨List.nodup_nil,fun y hy=>by cases hy⟩
       ·obtain⟨_,_,_,g1,g2⟩:=B.C.gN.up t z pI
        exact⟨g1,fun y hy=>(((g2 y).1 hy).1.mem W).1⟩
      have:=dC fG.1 fG.2
      rwa [iF]at this
     refine ae.gz (I:=fun s0 v=> ∃i:Nat,s0=(i:Int)/\i<=n1/\ ∃dn:List HT,dn++(bA G.D (db ((G.gF z).merge.drop i) ((G.gF z).gB.drop i)) h++uf G h (l.drop (j+1)))=hZ/\tZ v p'.fm kn dn/\de k kn [] dn=true/\Kept (· =p'.fm) Jm v) (μ:=fun s0 _=>((n1:Int)-s0).toNat) (s:=0) ⟨0,rfl,Nat.zero_le _,sZ,by rw [List.drop_zero,List.drop_zero];exact h1,Gs.same La,Gp,Kept.refl _ _⟩ ?_;rintro s0 v2 ⟨i2,rfl,Cl,dn,g1,g2,g3,g4⟩;have BE:Kept (· =p'.fm) w2 v2:=Lo.trans g4 (fun _ _ h=>h);have Bv2:=B2.aG BE;have P7:=P8.aG g4 (fun j hj e=>Sz j hj e);have Lk:=rW.trans BE (fun _ _ h=>h);have MA:=rG.aG BE (by omega) (by omega);have sv2:=BE.size;refine Split.dec (fun jE=>?_) (fun iy=>?_)
     ·have eI:i2<n1:=by omega
      obtain⟨b,hb⟩:=P7.mg.get_mem eI;obtain⟨Ue,Ny⟩: ∃y,(G.gF z).gB[i2]? =some y:=⟨_,List.getElem?_eq_getElem (by omega)⟩;refine P7.mg.load (i:=(i2:Int)) (by omega) hb ?_;intro jJ;obtain⟨Q1,zF,r5⟩:=dU (w:=v2) (z:=bI.1) (cs:=b.1) (t:=ao) (by rw [b.2.1];rfl);refine⟨⟨b.2.1,b.2.one,fun j hj=>Q1 j (by rw [b.2.1];exact hj)⟩,?_⟩;intro gD
      replace zF:gD.heap[v2.heap.size]? =some (.cells b.1 ao (0,0)):=zF
      replace r5:Kept Nil v2 gD:=r5
      clear_value gD;have Jk:=Bv2.same r5;have Nq:=r5.heap (g4.heap vo (by omega)) (fun h=>h);have P9:=P7.aG r5 (fun _ _ h=>h);obtain⟨aB,Cz,_,Cs⟩:=P9.bl.at_ i2 Ue Ny;subst Cz;refine⟨some aB,m1,d1,by rw [a7,az Nq];exact SP.2.2.1,⟨by omega,by omega⟩,Ue,by rw [Int.toNat_natCast,Nat.mul_one];exact Cs,?_⟩;rw [xq hb Ny]at g1;cases Ue with
      |false=>
       refine Split.no rfl ?_;rw [e8 (n:=(i2:Int)) (by omega) (by omega)];exact⟨(i2:Int)+1,rfl,⟨i2+1,rfl,eI,dn,g1,g2.same r5,g3,g4.trans r5 (fun _ _ h=>h.elim)⟩,by simp only;omega⟩
      |true=>
       rw [if_pos rfl,dX,List.append_assoc]at g1;have T4:bA G.D [b] h=if ln G.D b h then [b]else []:=by
        unfold bA;by_cases hp:ln G.D b h
        ·rw [if_pos hp,List.filter_cons_of_pos (by simpa using hp)];rfl
        ·rw [if_neg hp,List.filter_cons_of_neg (by simpa using hp)];rfl
       rw [T4,<-List.append_assoc]at g1;refine Split.yes rfl ⟨some ⟨c,0,none⟩,by rw [az Jk.V.hc];rfl,b.1,⟨b.2.1,Cells.bC zF⟩,h.1,⟨h.2.1,by have:=Jk.hb;rw [PA]at this;exact Cells.bC this⟩,?_⟩;refine oL Jk hD ue hs hc (done:=dn) (by rw [r6];exact g2.same r5) zF (by omega) (fun ha=>by
        rw [if_pos ha]at g1;rw [<-g1]at sV;exact(List.nodup_append.1 sV).1) ?_ ?_
       ·intro u2 ha hp Qz
        rw [r6]at hp;rw [if_pos ha,List.append_assoc]at g1;have kk:Kept (· =p'.fm) v2 u2:=(r5.mono fun _ _ h=>h.elim).trans Qz (fun _ _ h=>h);obtain⟨o1,o2⟩:=out (u:=u2) false (Lk.trans kk (fun _ _ h=>h)) (MA.aG kk (by omega) (by omega)) (xt g1 hp).symm (fun e=>by cases e);refine⟨o1,?_⟩;intro PY;rw [fP];exact o2 PY rfl
       ·intro u2 dn' W5 JM NV Qz
        rw [r6]at JM NV;have kk:Kept (· =p'.fm) v2 u2:=(r5.mono fun _ _ h=>h.elim).trans Qz (fun _ _ h=>h);rw [e8 (n:=(i2:Int)) (by omega) (by omega)];refine⟨(i2:Int)+1,rfl,⟨i2+1,rfl,eI,dn',by rw [W5];exact g1,NV,?_,g4.trans kk (fun _ _ h=>h)⟩,by simp only;omega⟩;rw [W5];by_cases ha:ln G.D b h
        ·rw [if_pos ha];exact tV g3 (JM ha)
        ·rw [if_neg ha,List.append_nil];exact g3
     ·rw [aP,ae.PR]
      unfold ae.Ov;have en:(G.gF z).merge.drop i2= []:=List.drop_eq_nil_of_le (by omega);rw [en]at g1;exact⟨MA,dn,by simpa [db,bA]using g1,g2,g3,Lk,rH⟩
  ·rintro u1 R ⟨done,h1,h2,h3,h4,h5⟩ mQ
   have e7:fe ρ0 gI.heap.size= [(3,.pointer (some ⟨p'.bc,0,none⟩)),(5,.pointer (some ⟨w.heap.size,0,none⟩)),(6,.pointer (some ⟨w4.heap.size,0,none⟩)),(7,.pointer (some ⟨w5.heap.size,0,none⟩)),(36,xe),(4294967296,.agg (nn [gI.heap.size]))]:=rfl;rw [e7,ae.im];unfold ae.gm;have ec:done=hZ:=by rw [<-h1,List.drop_of_length_le (Nat.le_refl _),uf,List.append_nil]
   obtain⟨o1,o2⟩:=out (u:=u1) true h4 mQ (by rw [<-ec,h3]) (fun _=>by rw [<-ec];exact h2);refine⟨o1,?_⟩;intro mV;obtain⟨R6,_,r,t1,t2,t3,t4⟩:=o2 mV rfl;clear_value mV;rw [jN];have kt:=gW [gI.heap.size] mV;have hm: ∀E∈ [gI.heap.size],mV.heap[E]? =some (.deferred (some [])):=fun E hE=>by
    rw [List.mem_singleton]at hE;subst hE;exact R6.mark
   refine⟨jl [gI.heap.size] mV (by simp) hm,r,by rw [az (kt.heap t1 (fun hE=>by rw [List.mem_singleton]at hE;omega))];rfl,?_⟩;exact TD _ r t2 (fun e=>(t3 e).aG kt (fun hE=>by rw [List.mem_singleton]at hE;omega)) (((kA D4).trans t4 (fun j hj e=>by rcases e with e|e;exact e;omega)).trans kt (fun j hj hE=>by rw [List.mem_singleton]at hE;omega))
  ·rintro u1 R ⟨_,r,t1,t2,t3,t4⟩ mQ
   have e7:fe ρ0 gI.heap.size= [(3,.pointer (some ⟨p'.bc,0,none⟩)),(5,.pointer (some ⟨w.heap.size,0,none⟩)),(6,.pointer (some ⟨w4.heap.size,0,none⟩)),(7,.pointer (some ⟨w5.heap.size,0,none⟩)),(36,xe),(4294967296,.agg (nn [gI.heap.size]))]:=rfl;rw [e7,ae.vX];unfold ae.rz;rw [jN];have kt:=gW [gI.heap.size] u1;have hm: ∀E∈ [gI.heap.size],u1.heap[E]? =some (.deferred (some [])):=fun E hE=>by
    rw [List.mem_singleton]at hE;subst hE;exact mQ.mark
   refine⟨jl [gI.heap.size] u1 (by simp) hm,r,by rw [az (kt.heap t1 (fun hE=>by rw [List.mem_singleton]at hE;omega))];rfl,?_⟩;exact TD _ r t2 (fun e=>(t3 e).aG kt (fun hE=>by rw [List.mem_singleton]at hE;omega)) (((kA D4).trans t4 (fun j hj e=>by rcases e with e|e;exact e;omega)).trans kt (fun j hj hE=>by rw [List.mem_singleton]at hE;omega))
  ·rintro id u1 R ⟨e,_⟩ mQ
   cases e
end
end Go.Proofs.YtnboahlopghcjaaGreatDoor
