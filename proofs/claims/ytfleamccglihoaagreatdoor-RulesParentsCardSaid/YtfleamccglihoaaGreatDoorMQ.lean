import Derived.Test.YtfleamccglihoaaGreatDoorMP
import Derived.Test.YtfleamccglihoaaGreatDoorMG
open Go.IntKind (i64 u64)
set_option linter.unusedVariables false
namespace Go.Proofs.YtfleamccglihoaaGreatDoor
open Go.Proofs.Tryz
open Go Go.cF Go.RowKit
theorem DS:Bu prog iV jW 1 1:=⟨by kernel_rfl,by kernel_rfl⟩
abbrev uX(l:List Bool):List Value:=l.map .bool
structure Bw(w:World)(B q sm:Nat)(c:qF)(ov:HT->Option Nat)(A:Option Addr)(n cp:Nat)(E:Option Addr)(e ce:Nat):Prop where
 top:w.heap[q]? =some (.cells (dI c A n cp E e ce++ #[.map (some sm)]) fG (0,0))
 mg:bY w B A n cp c.merge
 bl:Row w B jW 1 E e ce (uX c.gZ)
 ov:gX w sm (MY ov)
 qB:q<B
 sB:sm<B
 qs:q≠sm
 AE:∀j,bL A=some j->bL E≠some j
section
variable{w w':World}{B q sm:Nat}{c:qF}{ov:HT->Option Nat}{A E:Option Addr}{n cp e ce:Nat}{K:Value->World->Prop}
theorem Bw.aN{S:Nat->Prop}(h:Bw w B q sm c ov A n cp E e ce)(hk:Kept S w w')(h1:¬S q)(h2:¬S sm)(h3:∀j,B<=j->¬S j):Bw w' B q sm c ov A n cp E e ce:=
 ⟨hk.heap h.top h1,Row.aN h.mg hk (λj hj=>h3 j (Row.bX h.mg hj).1),Row.aN h.bl hk (λj hj=>h3 j (Row.bX h.bl hj).1),h.ov.aN hk h2,h.qB,h.sB,h.qs,h.AE⟩
theorem Bw.same(h:Bw w B q sm c ov A n cp E e ce)(hk:Kept Nil w w'):Bw w' B q sm c ov A n cp E e ce:=h.aN hk (λh=>h) (λh=>h) (λ_ _ h=>h)
theorem Bw.f33(h:Bw w B q sm c ov A n cp E e ce):w.cell? (((⟨q,0,none⟩:Addr).add 0).add 33)=some (.slice A n cp):=by rw [add_zero,bO,aI h.top];exact(iI ..).2.1
theorem Bw.ag0(h:Bw w B q sm c ov A n cp E e ce):∀j,bL A=some j\/bL E=some j->B<=j/\j<w.heap.size:=λj hj=>by
 rcases hj with hj|hj
 ·obtain⟨h1,cur,h2⟩:=Row.bX h.mg hj;exact⟨h1,bt h2⟩
 ·obtain⟨h1,cur,h2⟩:=Row.bX h.bl hj;exact⟨h1,bt h2⟩
theorem tg(c:qF)(A:Option Addr)(n cp:Nat)(E:Option Addr)(e ce:Nat)(r:Array Value)(A':Option Addr)(n' yM:Nat):
 (dI c A n cp E e ce++r).setIfInBounds (0+33) (.slice A' n' yM)=dI c A' n' yM E e ce++r:=by
 have h0:c.jv.1.size=32:=c.jv.2.1;apply Array.ext';unfold dI;simp only [Array.toList_setIfInBounds,Array.toList_append,List.append_assoc];rw [List.set_append_right _ _ (by simp [h0])];simp [h0]
theorem tf(c:qF)(A:Option Addr)(n cp:Nat)(E:Option Addr)(e ce:Nat)(r:Array Value)(E':Option Addr)(n' yM:Nat):
 (dI c A n cp E e ce++r).setIfInBounds (0+34) (.slice E' n' yM)=dI c A n cp E' n' yM++r:=by
 have h0:c.jv.1.size=32:=c.jv.2.1;apply Array.ext';unfold dI;simp only [Array.toList_setIfInBounds,Array.toList_append,List.append_assoc];rw [List.set_append_right _ _ (by simp [h0])];simp [h0]
theorem xT(c:qF)(A:Option Addr)(n cp:Nat)(E:Option Addr)(e ce:Nat)(r:Array Value)(s:Nat):
 (dI c A n cp E e ce++r).setIfInBounds (0+32) (.int .u64 (s:Int))=dI {c with score:=s} A n cp E e ce++r:=by
 have h0:c.jv.1.size=32:=c.jv.2.1;apply Array.ext';unfold dI;simp only [Array.toList_setIfInBounds,Array.toList_append,List.append_assoc];rw [List.set_append_right _ _ (by simp [h0])];simp [h0]
theorem Bw.VQ(h:Bw w B q sm c ov A n cp E e ce)(hB:B<=w.heap.size)(hn:n<=100000){x:HT}{b:Nat}(hb:HS w (some ⟨b,0,none⟩) 1 [x]):
 ∃A' yM u,(Builtin.append_ #[aH,aH] aH #[.slice A n cp,.slice (some ⟨b,0,none⟩) 1 1]).run prog w=.ok (.slice A' (n+1) yM) u/\
  Kept (λj=>B<=j) w u/\Bw (u.setCell (((⟨q,0,none⟩:Addr).add 0).add 33) (.slice A' (n+1) yM)) B q sm {c with merge:=c.merge++ [x]} ov A' (n+1) yM E e ce/\
  Kept (λj=>j=q\/B<=j) w (u.setCell (((⟨q,0,none⟩:Addr).add 0).add 33) (.slice A' (n+1) yM))/\Wr u (((⟨q,0,none⟩:Addr).add 0).add 33):=by
 obtain⟨A',yM,u,hr,gL,hg,hA⟩:=dp aH h.mg (cx:=1) hb (by omega) hB;have ku:Kept (λj=>B<=j) w u:=(Kept.refl _ _).grown hg λj hj _=>(Row.bX h.mg hj).1;have kA:Kept (λj=>bL A=some j) w u:=(Kept.refl _ _).grown hg λj hj _=>hj;have qB:=h.qB;have sB:=h.sB;have kI:=ku.heap h.top (by omega);have EU:Row u B jW 1 E e ce (uX c.gZ):=Row.aN h.bl kA (λj hj e=>h.AE j e hj);have sk:Kept (· =q) u (u.setCell (((⟨q,0,none⟩:Addr).add 0).add 33) (.slice A' (n+1) yM)):=by
  rw [add_zero,bO];exact Kept.setCell (S:=(· =q)) (Kept.refl _ u) (p:=⟨q,0+33,none⟩) (λ_=>rfl) _
 have jD:∀ {X:Option Addr} {j:Nat},(∀k,bL X=some k->B<=k)->bL X=some j->¬j=q:=λh hj e=>by have:=h _ hj;omega
 refine⟨A',yM,u,hr,ku,⟨?_,?_,?_,?_,qB,sB,h.qs,?_⟩,?_,?_⟩
 ·show(u.setCell (((⟨q,0,none⟩:Addr).add 0).add 33) (.slice A' (n+1) yM)).heap[q]? =_
  rw [add_zero,bO,dL kI,tg];rfl
 ·exact Row.aN gL sk (λj hj=>jD (λk hk=>(Row.bX gL hk).1) hj)
 ·exact Row.aN EU sk (λj hj=>jD (λk hk=>(Row.bX EU hk).1) hj)
 ·exact(h.ov.aN ku (by omega)).aN sk (λe=>h.qs e.symm)
 ·intro j hj he
  rcases hA j hj with h1|h1
  ·exact h.AE j h1 he
  ·have:=(h.ag0 j (.inr he)).2;omega
 ·exact(ku.mono λ_ _ h=>.inr h).trans sk (λ_ _ e=>.inl e)
 ·rw [add_zero,bO]
  exact eI kI (by rw [Array.size_append,bR];simp)
end
structure oB(w:World)(B q sm bb:Nat)(c:qF)(ov:HT->Option Nat)(A:Option Addr)(n cp:Nat)(E:Option Addr)(e ce:Nat):Prop where
 top:w.heap[q]? =some (.cells (dI c A n cp E e ce++ #[.map (some sm)]) fG (0,0))
 mg:HS w A n c.merge
 mA:∀a,A=some a->a.block<B/\a.block≠q/\a.block≠sm/\a.block≠bb
 bl:Row w B jW 1 E e ce (uX c.gZ)
 ov:gX w sm (MY ov)
 qB:q<B
 sB:sm<B
 bB:bb<B
 qs:q≠sm/\q≠bb/\sm≠bb
section
variable{w w':World}{B q sm bb:Nat}{c:qF}{ov:HT->Option Nat}{A E:Option Addr}{n cp e ce:Nat}{K:Value->World->Prop}
theorem oB.aN{S:Nat->Prop}(h:oB w B q sm bb c ov A n cp E e ce)(hk:Kept S w w')(h1:¬S q)(h2:¬S sm)(h3:∀j,B<=j->j<w.heap.size->¬S j)(h4:∀a,A=some a->¬S a.block):oB w' B q sm bb c ov A n cp E e ce:=
 ⟨hk.heap h.top h1,h.mg.aN hk h4,h.mA,Row.aN h.bl hk (λj hj=>by obtain⟨g1,cur,g2⟩:=Row.bX h.bl hj;exact h3 j g1 (bt g2)),h.ov.aN hk h2,h.qB,h.sB,h.bB,h.qs⟩
theorem oB.same(h:oB w B q sm bb c ov A n cp E e ce)(hk:Kept Nil w w'):oB w' B q sm bb c ov A n cp E e ce:=h.aN hk (λh=>h) (λh=>h) (λ_ _ _ h=>h) (λ_ _ h=>h)
theorem oB.f32(h:oB w B q sm bb c ov A n cp E e ce):w.cell? (((⟨q,0,none⟩:Addr).add 0).add 32)=some (.int .u64 (c.score:Int)):=by rw [add_zero,bO,aI h.top];exact(iI ..).1
theorem oB.f33(h:oB w B q sm bb c ov A n cp E e ce):w.cell? (((⟨q,0,none⟩:Addr).add 0).add 33)=some (.slice A n cp):=by rw [add_zero,bO,aI h.top];exact(iI ..).2.1
theorem oB.f34(h:oB w B q sm bb c ov A n cp E e ce):w.cell? (((⟨q,0,none⟩:Addr).add 0).add 34)=some (.slice E e ce):=by rw [add_zero,bO,aI h.top];exact(iI ..).2.2.1
theorem oB.f35(h:oB w B q sm bb c ov A n cp E e ce):w.cell? ((⟨q,0,none⟩:Addr).add 35)=some (.map (some sm)):=by rw [bO,aI h.top];exact(iI ..).2.2.2
theorem oB.wr(h:oB w B q sm bb c ov A n cp E e ce){j:Nat}(hj:j<36):Wr w (((⟨q,0,none⟩:Addr).add 0).add j):=by
 rw [add_zero,bO];exact eI h.top (by rw [Array.size_append,bR];simp;omega)
theorem oB.VA{h:oB w B q sm bb c ov A n cp E e ce}(j:Nat)(v:Value):Kept (· =q) w (w.setCell (((⟨q,0,none⟩:Addr).add 0).add j) v):=by
 rw [add_zero,bO];exact Kept.setCell (S:=(· =q)) (Kept.refl _ w) (p:=⟨q,0+j,none⟩) (λ_=>rfl) _
theorem oB.JQ(h:oB w B q sm bb c ov A n cp E e ce)(hB:B<=w.heap.size)(hn:e<=100000){x:Bool}{b:Nat}(hb:w.cell? ⟨b,0,none⟩=some (.bool x)):
 ∃E' uv u,(Builtin.append_ #[iV,iV] iV #[.slice E e ce,.slice (some ⟨b,0,none⟩) 1 1]).run prog w=.ok (.slice E' (e+1) uv) u/\
  Kept (λj=>B<=j/\bL E=some j) w u/\Wr u (((⟨q,0,none⟩:Addr).add 0).add 34)/\
  oB (u.setCell (((⟨q,0,none⟩:Addr).add 0).add 34) (.slice E' (e+1) uv)) B q sm bb {c with gZ:=c.gZ++ [x]} ov A n cp E' (e+1) uv/\
  Kept (λj=>j=q\/bL E=some j) w (u.setCell (((⟨q,0,none⟩:Addr).add 0).add 34) (.slice E' (e+1) uv))/\(∀j,bL E'=some j->bL E=some j\/w.heap.size<=j):=by
 obtain⟨E',uv,u,hr,gL,hg,hE⟩:=gU (P:=prog) (t:=iV) (bytes:=1) (ty:=iV) DS h.bl (a:=⟨b,0,none⟩) (m:=1) (cx:=1) (news:= [.bool x]) rfl (λj v hj=>by
  cases j with
  |zero=>simp only [List.getElem?_cons_zero,Option.some.injEq]at hj;subst hj;rw [add_zero];exact hb
  |succ j=>simp at hj) (λv hv=>by
  have:v=.bool x:=by simpa using hv
  subst this;rfl) (by omega) (by unfold maxLen;omega) hB
 have qB:=h.qB;have sB:=h.sB;have kE:Kept (λj=>B<=j/\bL E=some j) w u:=(Kept.refl _ _).grown hg λj hj _=>⟨(Row.bX h.bl hj).1,hj⟩;have kI:=kE.heap h.top (by omega);have sk:Kept (· =q) u (u.setCell (((⟨q,0,none⟩:Addr).add 0).add 34) (.slice E' (e+1) uv)):=by
  rw [add_zero,bO];exact Kept.setCell (S:=(· =q)) (Kept.refl _ u) (p:=⟨q,0+34,none⟩) (λ_=>rfl) _
 refine⟨E',uv,u,hr,kE,?_,⟨?_,?_,h.mA,?_,?_,qB,sB,h.bB,h.qs⟩,?_,hE⟩
 ·rw [add_zero,bO]
  exact eI kI (by rw [Array.size_append,bR];simp)
 ·show(u.setCell (((⟨q,0,none⟩:Addr).add 0).add 34) (.slice E' (e+1) uv)).heap[q]? =_
  rw [add_zero,bO,dL kI,tf];rfl
 ·exact(h.mg.aN kE (λa ha=>by have:=(h.mA a ha).1;omega)).aN sk (λa ha=>(h.mA a ha).2.1)
 ·have e1:uX (c.gZ++ [x])=uX c.gZ++ [.bool x]:=by simp [uX]
  show Row _ B jW 1 E' (e+1) uv (uX (c.gZ++ [x]))
  rw [e1];exact Row.aN gL sk (λj hj=>by have:=(Row.bX gL hj).1;omega)
 ·exact(h.ov.aN kE (by omega)).aN sk (λe=>h.qs.1 e.symm)
 ·exact(kE.mono λ_ _ h=>.inr h.2).trans sk (λ_ _ e=>.inl e)
theorem oB.Q6(h:oB w B q sm bb c ov A n cp E e ce)(s:Nat):
 oB (w.setCell (((⟨q,0,none⟩:Addr).add 0).add 32) (.int .u64 (s:Int))) B q sm bb {c with score:=s} ov A n cp E e ce/\Kept (· =q) w (w.setCell (((⟨q,0,none⟩:Addr).add 0).add 32) (.int .u64 (s:Int))):=by
 have qB:=h.qB;have sk:=oB.VA (h:=h) 32 (.int .u64 (s:Int));refine⟨⟨?_,h.mg.aN sk (λa ha=>(h.mA a ha).2.1),h.mA,Row.aN h.bl sk (λj hj=>by have:=(Row.bX h.bl hj).1;omega),h.ov.aN sk (λe=>h.qs.1 e.symm),h.qB,h.sB,h.bB,h.qs⟩,sk⟩;rw [add_zero,bO,dL h.top,xT]
theorem oB.note(h:oB w B q sm bb c ov A n cp E e ce)(b:HT)(n0:Nat):
 ∃u,(Instr.mapUpdate dw (.map (some sm)) (.agg b.1) (.int .i64 (n0:Int))).run prog w=.ok () u/\oB u B q sm bb c (λy=>if y=b then some n0 else ov y) A n cp E e ce/\Kept (· =sm) w u:=by
 have sB:=h.sB;obtain⟨u,hr,hm,hk⟩:=h.ov.put tR b (.int .i64 (n0:Int));refine⟨u,hr,⟨hk.heap h.top h.qs.1,h.mg.aN hk (λa ha=>(h.mA a ha).2.2.1),h.mA,Row.aN h.bl hk (λj hj=>by have:=(Row.bX h.bl hj).1;omega),?_,h.qB,h.sB,h.bB,h.qs⟩,hk⟩;have e1:MY (λy=>if y=b then some n0 else ov y)=λx=>if x=b then some (.int .i64 (n0:Int))else MY ov x:=by
  funext y
  unfold MY;by_cases e:y=b
  ·simp only [if_pos e,Option.map_some]
  ·simp only [if_neg e]
 rw [e1];exact hm
end
noncomputable def lX(k:Nat)(G:GS)(s:HT)(l:List HT)(i:Nat):VS:=((cZ G s l).take i).foldl (qg k G.D) ⟨G.world s++ [s],[]⟩
structure V2(y v:World)(k:Nat)(G:GS)(s:HT)(l:List HT)(base:HT->Nat)(q sm bb:Nat)(A:Option Addr)(n cp i:Nat):Prop where
 ex:∃(ov:HT->Option Nat) (E:Option Addr) (e ce:Nat) (Ab:Option Addr) (nb cb:Nat) (bl:List HT),
  oB v y.heap.size q sm bb ⟨s,G.score s+1+(lX k G s l i).bl.count true,cZ G s l,(lX k G s l i).bl⟩ ov A n cp E e ce/\
  v.heap[bb]? =some (.cells #[.slice Ab nb cb] aH (0,0))/\bY v y.heap.size Ab nb cb bl/\(lX k G s l i).wd=G.world s++ [s]++bl/\(∀j,bL Ab=some j->bL E≠some j)/\
  OV G.D (lX k G s l i).wd ov base/\(lX k G s l i).wd.Nodup/\(∀z∈bl,z∈(cZ G s l).take i)/\e=i
 kp:Kept (λj=>j=q\/j=sm\/j=bb) y v
theorem oB.Kg{w w':World}{B q sm bb:Nat}{c:qF}{ov:HT->Option Nat}{A E:Option Addr}{n cp e ce:Nat}{S:Nat->Prop}(h:oB w B q sm bb c ov A n cp E e ce)(hk:Kept S w w')(h1:¬S q)(h2:¬S sm)(h3:∀j,bL E=some j->¬S j)(h4:∀a,A=some a->¬S a.block):oB w' B q sm bb c ov A n cp E e ce:=
 ⟨hk.heap h.top h1,h.mg.aN hk h4,h.mA,Row.aN h.bl hk h3,h.ov.aN hk h2,h.qB,h.sB,h.bB,h.qs⟩
theorem BD{k:Nat}{G:GS}{s:HT}{l:List HT}{i:Nat}{x:HT}(hx:(cZ G s l)[i]? =some x):lX k G s l (i+1)=qg k G.D (lX k G s l i) x:=by
 unfold lX;have e:(cZ G s l).take (i+1)=(cZ G s l).take i++ [x]:=by rw [List.take_add_one,hx];rfl
 rw [e,List.foldl_append];rfl
theorem FN(k:Nat)(G:GS)(s:HT)(l:List HT)(i:Nat)(hi:i<=(cZ G s l).length):(lX k G s l i).bl.length=i:=by
 obtain⟨b,h1,h2⟩:=Ju k G.D (G.world s++ [s]) ((cZ G s l).take i);unfold lX;rw [h2];show b.length=i
 rw [h1,List.length_take];omega
theorem FO(k:Nat)(G:GS)(s:HT)(l:List HT):lX k G s l (cZ G s l).length=iO k G s l:=by
 unfold lX iO;rw [List.take_of_length_le (Nat.le_refl _)]
section
variable{y v w w':World}{F:Nat->Prop}{c k:Nat}{G:GS}{m:CM}{s:HT}{l ch:List HT}{bs bc bh q sm bb kb n cp:Nat}{A:Option Addr}{K:Value->World->Prop}
set_option maxHeartbeats 4000000 in
theorem DK(C:CV y F c k G m)(hD:G.D.length<=5000)(pJ:k<=1000)(hs:s∈ids G.D)(hc:eh G.D G.P s ch)(hM:∀x∈cZ G s l,x∈ids G.D)
 (V:VB y c s bs bc bh q sm (λ_=>none)) (P7:y.heap[kb]? =some (.cells #[.func (.func cQ.id) #[] #[.pointer (some ⟨bs,0,none⟩),.pointer (some ⟨bc,0,none⟩),.pointer (some ⟨bh,0,none⟩)]] gK (0,0)))
 (jD:∀j,(m.own c j\/F j\/j=bs\/j=bc\/j=bh\/j=kb)->j≠q/\j≠sm/\j≠bb)
 (h0:V2 y y k G s l (oG m.sz ch) q sm bb A n cp 0) (hn:n<=5000)
 (hK:∀v ov E e ce,oB v y.heap.size q sm bb (dE k G s l) ov A n cp E e ce->OV G.D (iO k G s l).wd ov (oG m.sz ch)->Kept (λj=>j=q\/j=sm\/j=bb) y v->K (.pointer (some ⟨q,0,none⟩)) v):
 Holds none [] prog 153 (.loop (lB (bB (sR (sL (gR (body an.fn))))))) (an.q2 K)
  [(3,.pointer (some ⟨bc,0,none⟩)),(6,.pointer none),(8,.pointer (some ⟨bs,0,none⟩)),(11,.pointer (some ⟨bb,0,none⟩)),(12,.func (.func ah.id) #[] #[.pointer (some ⟨bb,0,none⟩),.pointer (some ⟨bc,0,none⟩),.pointer (some ⟨bh,0,none⟩)]),(13,.pointer (some ⟨kb,0,none⟩)),(92,.slice A n cp),(93,.int .i64 (n:Int)),(94,.int .i64 0)] y:=by
 have W:=C.iN.W;have hmn:(cZ G s l).Nodup:=(mH G s l).nodup;have Yr:(cZ G s l).length=n:=by obtain⟨_,_,_,_,_,_,_,_,h,_⟩:=h0.ex;exact h.mg.len
 have lbs:=bt V.hs;have lbc:=bt V.hc;have lbh:=bt V.hh;have lkb:=bt P7;have fbs:=jD bs (.inr (.inr (.inl rfl)));have fbc:=jD bc (.inr (.inr (.inr (.inl rfl))));have fbh:=jD bh (.inr (.inr (.inr (.inr (.inl rfl)))));have fkb:=jD kb (.inr (.inr (.inr (.inr (.inr rfl)))));refine an.iY (I:=λs0 v=>∃i:Nat,s0=(i:Int)/\i<=n/\V2 y v k G s l (oG m.sz ch) q sm bb A n cp i) (μ:=λs0 _=>((n:Int)-s0).toNat) (s:=0) ⟨0,rfl,Nat.zero_le _,h0⟩ ?_;rintro s0 v ⟨i,rfl,hi,hV⟩;obtain⟨ov,E,e,ce,Ab,nb,cb,bl,hS,yK,gL,UH,hAE,hO,fE,xq,UR⟩:=hV.ex;have kv:=hV.kp;have sv:=kv.size;refine Split.dec (λjT=>?_) (λgE=>?_)
 ·have eA:i<n:=by omega
  obtain⟨x,hx⟩:∃x,(cZ G s l)[i]? =some x:=⟨_,List.getElem?_eq_getElem (by omega)⟩;have UE:=hM x (List.mem_of_getElem? hx);have hxn:x∉(lX k G s l i).wd:=by
   rw [UH];intro hm;obtain⟨_,g1,g2⟩:=jR.1 (List.mem_of_getElem? hx);rcases List.mem_append.1 hm with hm|hm
   ·rcases List.mem_append.1 hm with hm|hm
    ·exact g2 ((C.iN.wd s hs).2.1 x hm)
    ·exact g1 (by simpa using hm)
   ·have h1:=xq x hm
    obtain⟨j,hj⟩:=List.mem_iff_getElem?.1 h1;rw [List.getElem?_take]at hj;split at hj
    ·rename_i Ms
     have h2:=(lgeS hj);have h3:=(lgeS hx);have:=(List.getElem_inj hmn).1 (h2.2.trans h3.2.symm);omega
    ·cases hj
  have oL:=BD (k:=k) hx;refine hS.mg.load (i:=(i:Int)) (by omega) hx ?_;intro oD;obtain⟨uP,ly,lH⟩:=jt (w:=v) (z:=gu.1) (cs:=x.1) (t:=ai) (by rw [x.2.1];rfl);refine⟨⟨x.2.1,x.2.one,λj hj=>uP j (by rw [x.2.1];exact hj)⟩,?_⟩;intro jg
  replace ly:jg.heap[v.heap.size]? =some (.cells x.1 ai (0,0)):=ly
  replace lH:Kept Nil v jg:=lH
  clear_value jg;intro mM np;have qI:Kept Nil jg mM:=(Kept.refl _ _).alloc _;have Yk:gX mM jg.heap.size (λ_=>none):=gX.new jg;have pU:Kept Nil mM np:=(Kept.refl _ _).alloc _;have Tn:np.heap[mM.heap.size]? =some (.cells #[.map none] dw (0,0)):=aO mM _;refine⟨eI Tn (by simp),?_⟩;intro tz;have YY:tz.heap[mM.heap.size]? =some (.cells #[.map (some jg.heap.size)] dw (0,0)):=by
   show(np.setCell ⟨mM.heap.size,0,none⟩ (.map (some jg.heap.size))).heap[mM.heap.size]? =_;rw [dL Tn 0];rfl
  have Em:Kept (· =mM.heap.size) np tz:=Kept.setCell (S:=(· =mM.heap.size)) (Kept.refl _ np) (p:=⟨mM.heap.size,0,none⟩) (λ_=>rfl) _;clear_value tz;have s14:=lH.size;have s15:=qI.size;have l14:=bt ly;have l15:=Yk.lt;have l16:=bt Tn;have Kv:Kept Nil jg tz:=⟨Em.os.trans (qI.tt pU).os,Em.tape.trans (qI.tt pU).tape,Em.output.trans (qI.tt pU).output,Nat.le_trans (qI.tt pU).size Em.size,λj hj hn=>by rw [Em.block j (Nat.lt_of_lt_of_le hj (qI.tt pU).size) (by omega),(qI.tt pU).block j hj hn]⟩;have aet:gX tz jg.heap.size (λ_=>none):=(Yk.same pU).aN Em (by omega);have Ql:=Kv.heap ly (λh=>h);clear_value np mM;have Ng:Kept Nil v tz:=lH.tt Kv;have HU:Kept (λj=>j=q\/j=sm\/j=bb) y tz:=kv.trans Ng (λ_ _ h=>h.elim);have TI:=hS.same Ng;have C17:CV tz F c k G m:=C.aN HU (λj hj e=>by have:=jD j (.inl hj);omega) (λj hj e=>by have:=jD j (.inr (.inl hj));omega);have V17:VB tz c s bs bc bh q sm ov:=⟨HU.heap V.hs (by omega),HU.heap V.hc (by omega),HU.heap V.hh (by omega),TI.f35,TI.ov⟩;have Yy:=HU.heap P7 (by omega);have KQ:bY tz y.heap.size Ab nb cb bl:=Row.aN gL Ng (λ_ _ h=>h);have Qu:=Ng.heap yK (λh=>h);refine⟨x.1,⟨x.2.1,Cells.bX Ql⟩,?_⟩;have qB:=hS.qB;have sB:=hS.sB;have bB:=hS.bB;have Ld:∀b∈(lX k G s l i).wd,tV ov (oG m.sz ch) b=(cG G.D (lX k G s l i).wd b).length:=hO.kn;have pw:=fE;rw [UH]at pw;obtain⟨c1,c2,c3⟩:=OR C.iN (h:=x) hs hc pw;rw [<-UH]at c2 c3;have Ze:=gL.len;have SA:nb<=5000:=by
   have h1:=eJ (m:=cZ G s l) (List.nodup_append.1 pw).2.1 (λz hz=>List.mem_of_mem_take (xq z hz));omega
  have TN:∀a,Ab=some a->a.block<jg.heap.size:=λa ha=>by
   subst ha;obtain⟨_,cur,h1⟩:=Row.bX gL (k:=a.block) rfl;have:=bt h1;omega
  refine CW (p:=⟨bs,bc,bh,q,sm,kb,mM.heap.size,jg.heap.size,0,0⟩) ⟨C17,V17,Yy,YY,(λe=>by have:jg.heap.size<y.heap.size:=C.low _ (.inl e);omega),(λe=>by have:jg.heap.size<y.heap.size:=C.low _ (.inr e);omega),(show bs≠jg.heap.size/\bc≠jg.heap.size/\bh≠jg.heap.size/\q≠jg.heap.size/\sm≠jg.heap.size/\kb≠jg.heap.size/\mM.heap.size≠jg.heap.size from⟨by omega,by omega,by omega,by omega,by omega,by omega,by omega⟩)⟩ hD pJ hs hc (h:=x) Qu (by show bb≠jg.heap.size;omega) KQ.hs (λa ha=>by have:=TN a ha;show a.block≠jg.heap.size;omega) (by omega) (by
   show gX tz jg.heap.size _
   have e0:(λy=>if y∈([]:List HT)then some (Value.int .i64 (tV ov (oG m.sz ch) y:Int))else none)=λ_=>none:=by funext y;simp
   rw [e0];exact aet) c1 λFM r hr hFr Dt=>⟨r,rfl,?_⟩
  replace Dt:Kept (· =jg.heap.size) tz FM:=Dt
  have Qn:r=rH k G.D (lX k G s l i).wd x:=by rw [hr];exact LH Ld c2 c3
  have ZS:∀j,bL E=some j->y.heap.size<=j/\j<v.heap.size:=λj hj=>by obtain⟨g1,cur,g2⟩:=Row.bX hS.bl hj;exact⟨g1,bt g2⟩
  have Ln:∀j,bL Ab=some j->y.heap.size<=j/\j<v.heap.size:=λj hj=>by obtain⟨g1,cur,g2⟩:=Row.bX gL hj;exact⟨g1,bt g2⟩
  have s17:=Kv.size;have afT:=TI.Kg Dt (by omega) (by omega) (λj hj=>by have:=ZS j hj;omega) (λa ha=>by have:=(hS.mA a ha).1;omega);have Sm:bY FM y.heap.size Ab nb cb bl:=Row.aN KQ Dt (λj hj=>by have:=Ln j hj;omega);have Na:Kept (λj=>j=q\/j=sm\/j=bb) y FM:=HU.trans Dt (λj hj e=>by omega);have Zj:=Dt.heap Qu (by omega);have Za:=Dt.heap Ql (by omega);have ae1:=Dt.heap YY (by omega);intro yg;have Kp:Kept Nil FM yg:=(Kept.refl _ _).drew;clear_value yg;have Lk:=afT.same Kp;have Cr:=Na.trans Kp (λ_ _ h=>h.elim);have CI:∀ {u:World} {S:Nat->Prop},Kept S y u->¬S bs->u.cell? ⟨bs,0,none⟩=some (.pointer (some ⟨q,0,none⟩)):=λku hb=>by rw [aI (ku.heap V.hs hb)];rfl
  have Pc:¬(bs=q\/bs=sm\/bs=bb):=by omega
  have s21:=Cr.size;refine⟨_,CI Cr Pc,_,CI Cr Pc,E,e,ce,Lk.f34,?_⟩;intro nQ;have tA:Kept Nil yg nQ:=(Kept.refl _ _).alloc _;have Ot:nQ.heap[yg.heap.size]? =some (.cells #[.bool r] jW (0,0)):=aO yg _;clear_value nQ;have Lj:=Lk.same tA;have xl:=Cr.trans tA (λ_ _ h=>h.elim);have s24:=xl.size;obtain⟨E',uv,u,Xj,kE,adj,Li,k5,hE5⟩:=Lj.JQ (by omega) (by omega) (x:=r) (b:=yg.heap.size) (by rw [aI Ot];rfl);have kyu:Kept (λj=>j=q\/j=sm\/j=bb) y u:=xl.trans kE (λj hj e=>by have:=ZS j e.2;omega);refine⟨Lj.f34,CI xl Pc,CI xl Pc,E',e+1,uv,u,Xj,CI kyu Pc,adj,?_⟩;intro yo
  replace Li:oB yo y.heap.size q sm bb _ ov A n cp E' (e+1) uv:=Li
  replace k5:Kept (λj=>j=q\/bL E=some j) nQ yo:=k5
  clear_value yo;have Rp:Kept (λj=>j=q\/j=sm\/j=bb) y yo:=xl.trans k5 (λj hj e=>by
   rcases e with e|e
   ·exact .inl e
   ·have:=ZS j e;omega)
  have Kq:Kept (λj=>j=q\/bL E=some j) FM yo:=((Kp.tt tA).mono λ_ _ h=>h.elim).tt k5;have ahj:=(Kp.tt tA).size;have s20:=Dt.size;have KP:bY yo y.heap.size Ab nb cb bl:=Row.aN Sm Kq (λj hj e=>by
   have:=Ln j hj;rcases e with e|e
   ·omega
   ·exact hAE j hj e)
  have Qt:=Kq.heap Zj (λe=>by
   rcases e with e|e
   ·exact hS.qs.2.1 e.symm
   ·have:=ZS bb e;omega)
  have TO:∀j,bL Ab=some j->bL E'≠some j:=λj hj he=>by
   rcases hE5 j he with h1|h1
   ·exact hAE j hj h1
   ·have:=Ln j hj;omega
  have PI:∀z∈bl,z∈(cZ G s l).take (i+1):=λz hz=>by
   have h1:=xq z hz;rw [List.take_add_one];exact List.mem_append_left _ h1
  cases r with
  |false=>
   refine Split.yes rfl ?_;rw [dO (n:=(i:Int)) (by omega) (by omega)];have AK:lX k G s l (i+1)=⟨(lX k G s l i).wd,(lX k G s l i).bl++ [false]⟩:=by rw [oL,qg,<-Qn];rfl
   refine⟨(i:Int)+1,rfl,⟨i+1,rfl,eA,⟨ov,E',e+1,uv,Ab,nb,cb,bl,?_,Qt,KP,?_,TO,?_,?_,PI,by omega⟩,Rp⟩,by simp only;omega⟩
   ·rw [AK]
    simpa [List.count_append]using Li
   ·rw [AK];exact UH
   ·rw [AK];exact hO
   ·rw [AK];exact fE
  |true=>
   refine Split.no rfl ?_;have TK:=hFr rfl
   replace TK:Bi FM jg.heap.size (tV ov (oG m.sz ch)) (qp G x bl ch):=TK
   have dr:=(rJ.1 hr.symm).2;have tB:=eJ (m:=ids G.D) c1 (λz hz=>by
    have h1:=(gC.1 ((c3 z).1 hz)).1;rw [UH]at h1;rcases List.mem_append.1 h1 with h1|h1
    ·rcases List.mem_append.1 h1 with h1|h1
     ·exact(((C.iN.wd s hs).2.1 z h1).mem W).1
     ·have:z=s:=by simpa using h1
      subst this;exact hs
    ·exact hM z (List.mem_of_mem_take (xq z h1)))
   rw [iL]at tB;generalize lI:qp G x bl ch=mn at*;generalize aeA:tV ov (oG m.sz ch)=kn at*;have Sg:G.score s<=5000:=by
    have h1:=(C.iN.wd s hs).2.2;have h2:=eJ (m:=ids G.D) (C.iN.wd s hs).1 (λb hb=>(((C.iN.wd s hs).2.1 b hb).mem W).1);rw [iL]at h2;omega
   have ae8:(lX k G s l i).bl.count true<=5000:=by
    have h1:=List.count_le_length (a:=true) (l:=(lX k G s l i).bl);rw [FN k G s l i (by omega)]at h1;omega
   generalize Gu:G.score s+1+(lX k G s l i).bl.count true=sc at*;have ew:u64.wrap ((sc:Int)+(1:Int))=((sc+1:Nat):Int):=by
    rw [show(sc:Int)+1=((sc+1:Nat):Int)by omega];exact lF (by omega)
   refine⟨_,CI Rp Pc,_,Li.f32,Li.wr (by omega),?_⟩;intro vZ rP;have afR:oB vZ y.heap.size q sm bb ⟨s,sc+1,cZ G s l,(lX k G s l i).bl++ [true]⟩ ov A n cp E' (e+1) uv:=by
    show oB (yo.setCell (((⟨q,0,none⟩:Addr).add 0).add 32) (.int .u64 (u64.wrap ((sc:Int)+(1:Int))))) _ _ _ _ _ _ _ _ _ _ _ _
    rw [ew];exact(Li.Q6 (sc+1)).1
   have I7:Kept (· =q) yo vZ:=oB.VA (h:=Li) 32 _;have Bk:Kept Nil vZ rP:=(Kept.refl _ _).drew;clear_value rP vZ;have EY:=afR.same Bk;have Gl:Kept (· =q) yo rP:=I7.trans Bk (λ_ _ h=>h.elim);have Cq:=Rp.trans Gl (λj hj e=>.inl e);have Gm:Kept (λj=>j=q\/bL E=some j) FM rP:=Kq.trans Gl (λj hj e=>.inl e);have Lw:∀j,v.heap.size<=j->¬(j=q\/bL E=some j):=λj hj e=>by
    rcases e with e|e
    ·omega
    ·have:=ZS j e;omega
   have Qk:=Gm.heap Za (Lw _ (Nat.le_refl _));have YX:=Gm.heap ae1 (Lw _ (by omega));have ZQ:Bi rP jg.heap.size kn mn:=TK.aN Gm (Lw _ (by omega));have S6:∀z,(if z∈mn then some (Value.int .i64 (kn z:Int))else none)≠none↔z∈mn:=λz=>by
    by_cases hz:z∈mn
    ·rw [if_pos hz];exact⟨λ_=>hz,λ_ e=>by cases e⟩
    ·rw [if_neg hz];exact⟨λe=>absurd rfl e,λe=>absurd e hz⟩
   obtain⟨tw,adQ,ZG,sF⟩:=EY.note x mn.length;have s33:=Gm.size;have acH:=Cq.trans sF (λj hj e=>.inr (.inl e));have af5:Bi tw jg.heap.size kn mn:=ZQ.aN sF (by omega);have ae0:=sF.heap YX (by omega);have Y9:=sF.heap Qk (by omega);have Sk:bY tw y.heap.size Ab nb cb bl:=Row.aN (Row.aN KP Gl (λj hj e=>by have:=Ln j hj;omega)) sF (λj hj e=>by have:=Ln j hj;omega);have Zh:=sF.heap (Gl.heap Qt (λe=>hS.qs.2.1 e.symm)) (λe=>hS.qs.2.2 e.symm);obtain⟨w38,DC,adP,hit,Me⟩:=af5.range tR;have s36:=sF.size;have s38:=Me.size;refine⟨_,CI Cq Pc,some sm,EY.f35,x.1,⟨x.2.1,Cells.bX Qk⟩,some jg.heap.size,by rw [aI YX];rfl,mn.length,ZQ.len tR iT c1 S6,tw,adQ,some jg.heap.size,by rw [aI ae0];rfl,_,w38,adP,?_⟩;refine an.xg (I:=λ_ u=>∃left DC Pa,qq u jg.heap.size tw.heap.size (λz=>if z∈mn then some (Value.int .i64 (kn z:Int))else none) left DC/\oB u y.heap.size q sm bb ⟨s,sc+1,cZ G s l,(lX k G s l i).bl++ [true]⟩ Pa A n cp E' (e+1) uv/\
    (∀z,(left z->z∈mn)/\(z∈mn->¬left z->Pa z=some (kn z+1))/\((z∉mn\/left z)->Pa z=if z=x then some mn.length else ov z))/\Kept (λj=>j=sm\/j=tw.heap.size) w38 u) (μ:=λ_ u=>u.rangeLeft jg.heap.size tw.heap.size) (s:=())
    ⟨_,DC,_,hit,ZG.same Me,λz=>⟨λhz=>(S6 z).1 hz,λhz hl=>absurd ((S6 z).2 hz) hl,λ_=>rfl⟩,Kept.refl _ _⟩ ?_
   rintro s1 u3 ⟨left,aoE,Pa,SV,TH,hinv,ku⟩;have su3:=ku.size;have lit:=SV.lt;have ky3:Kept (λj=>j=q\/j=sm\/j=bb) y u3:=(acH.trans Me (λ_ _ h=>h.elim)).trans ku (λj hj e=>by
    rcases e with e|e
    ·exact .inr (.inl e)
    ·omega)
   rcases SV.next 0 with⟨h0',XZ,lj⟩|⟨z,val,u4,agz,hl,hfz,lj,ae3,aeB,dD,k4⟩
   ·refine .inl ⟨u3,lj,?_⟩
    rw [bg,an.DF];unfold an.yV;have Zi:=ku.heap (Me.heap Zh (λh=>h)) (by have:=hS.qs;omega);have Iy:=ku.heap (Me.heap Y9 (λh=>h)) (by omega);have Xl:bY u3 y.heap.size Ab nb cb bl:=Row.aN (Row.aN Sk Me (λ_ _ h=>h)) ku (λj hj e=>by have:=Ln j hj;omega);refine⟨Ab,nb,cb,by rw [aI Zi];rfl,x.1,⟨x.2.1,Cells.bX Iy⟩,x.2.1,?_⟩;intro L8;have UA:Kept Nil u3 L8:=(Kept.refl _ _).alloc _;have ade:HS L8 (some ⟨u3.heap.size,0,none⟩) 1 [x]:=jy u3 x;clear_value L8;have s50:=UA.size;have Si:bY L8 y.heap.size Ab nb cb bl:=Row.aN Xl UA (λ_ _ h=>h);obtain⟨A6,c6,Jq,Sr,O7,g51,agd⟩:=dp aH Si (cx:=1) ade (by omega) (by omega);have k51:Kept (λj=>bL Ab=some j) L8 Jq:=(Kept.refl _ _).grown g51 λj hj _=>hj;have Qs:=k51.heap (UA.heap Zi (λh=>h)) (λe=>by have:=Ln bb e;omega);refine⟨A6,nb+1,c6,Jq,Sr,eI Qs (by simp),?_⟩;intro O1;have Zg:O1.heap[bb]? =some (.cells #[.slice A6 (nb+1) c6] aH (0,0)):=by
     show(Jq.setCell ⟨bb,0,none⟩ (.slice A6 (nb+1) c6)).heap[bb]? =_;rw [dL Qs 0];rfl
    have Kj:Kept (· =bb) Jq O1:=Kept.setCell (S:=(· =bb)) (Kept.refl _ Jq) (p:=⟨bb,0,none⟩) (λ_=>rfl) _;clear_value O1;have yx:Kept (λj=>bL Ab=some j\/j=bb) u3 O1:=((UA.mono λ_ _ h=>h.elim).trans k51 (λ_ _ h=>.inl h):Kept (λj=>bL Ab=some j\/j=bb) u3 Jq).trans Kj (λ_ _ h=>.inr h);have afQ:oB O1 y.heap.size q sm bb ⟨s,sc+1,cZ G s l,(lX k G s l i).bl++ [true]⟩ Pa A n cp E' (e+1) uv:=TH.Kg yx
     (λe=>e.elim (λe=>by have:=Ln q e;omega) (λe=>hS.qs.2.1 e)) (λe=>e.elim (λe=>by have:=Ln sm e;omega) (λe=>hS.qs.2.2 e))
     (λj hj e=>e.elim (λe=>TO j e hj) (λe=>by have:=(Row.bX TH.bl hj).1;omega)) (λa ha e=>e.elim (λe=>by have:=Ln _ e;have:=(hS.mA a ha).1;omega) (λe=>(hS.mA a ha).2.2.2 e))
    have vm:bY O1 y.heap.size A6 (nb+1) c6 (bl++ [x]):=Row.aN O7 Kj (λj hj e=>by have:=(Row.bX O7 hj).1;omega);rw [dO (n:=(i:Int)) (by omega) (by omega)];have AK:lX k G s l (i+1)=⟨(lX k G s l i).wd++ [x],(lX k G s l i).bl++ [true]⟩:=by rw [oL,qg,<-Qn];rfl
    have ad7:Pa=Cb G.D (lX k G s l i).wd ov (oG m.sz ch) x:=by
     funext z
     unfold Cb;rw [aeA];by_cases hz:z∈mn
     ·rw [if_pos ((c3 z).1 hz)]
      exact(hinv z).2.1 hz (XZ z)
     ·rw [if_neg (λe=>hz ((c3 z).2 e)),(hinv z).2.2 (.inl hz),c2]
    refine⟨(i:Int)+1,rfl,⟨i+1,rfl,eA,⟨Pa,E',e+1,uv,A6,nb+1,c6,bl++ [x],?_,Zg,vm,?_,?_,?_,?_,?_,by omega⟩,?_⟩,by simp only;omega⟩
    ·rw [AK]
     have ec:G.score s+1+((lX k G s l i).bl++ [true]).count true=sc+1:=by rw [List.count_append,<-Gu];simp;omega
     show oB O1 y.heap.size q sm bb ⟨s,G.score s+1+((lX k G s l i).bl++ [true]).count true,cZ G s l,(lX k G s l i).bl++ [true]⟩ Pa A n cp E' (e+1) uv
     rw [ec];exact afQ
    ·rw [AK]
     show(lX k G s l i).wd++ [x]=_;rw [UH,List.append_assoc]
    ·intro j hj he
     rcases agd j hj with h1|h1
     ·exact TO j h1 he
     ·obtain⟨_,cur,h2⟩:=Row.bX TH.bl he
      have:=bt h2;omega
    ·rw [AK,ad7]
     exact hO.step hxn
    ·rw [AK]
     exact List.nodup_append.2 ⟨fE,by simp,λa ha b hb e=>by
      have:b=x:=by simpa using hb
      subst this;subst e;exact hxn ha⟩
    ·intro z hz
     rcases List.mem_append.1 hz with hz|hz
     ·exact PI z hz
     ·have:z=x:=by simpa using hz
      subst this;rw [List.take_add_one,hx];simp
    ·exact ky3.trans yx (λj hj e=>by
      rcases e with e|e
      ·have:=Ln j e;omega
      ·exact .inr (.inr e))
   ·have hzc:=(hinv z).1 hl
    rw [if_pos hzc]at hfz;cases hfz;have hkz:=dr z hzc;refine .inr ⟨_,_,u4,lj,z.1,(kn z:Int),ae3,?_⟩;intro L7;obtain⟨R5,CR,AO⟩:=jt (w:=u4) (z:=gu.1) (cs:=z.1) (t:=ai) (by rw [z.2.1];rfl);refine⟨⟨z.2.1,z.2.one,λj hj=>R5 j (by rw [z.2.1];exact hj)⟩,?_⟩;intro w98 Uh
    replace CR:w98.heap[u4.heap.size]? =some (.cells z.1 ai (0,0)):=CR
    replace AO:Kept Nil u4 w98:=AO
    have k99:Kept Nil w98 Uh:=(Kept.refl _ _).drew;clear_value Uh w98;have afs:=k99.heap CR (λh=>h);have Pn:=AO.tt k99;have Gi:Kept (· =tw.heap.size) u3 Uh:=k4.trans Pn (λ_ _ h=>h.elim);have hE3:∀j,bL E'=some j->j≠tw.heap.size:=λj hj e=>by
     obtain⟨_,cur,h2⟩:=Row.bX ZG.bl hj;have:=bt h2;omega
    have ZE:=TH.Kg Gi (by omega) (by omega) (λj hj e=>hE3 j hj e) (λa ha e=>by have:=(hS.mA a ha).1;omega);have acG:Kept (λj=>j=q\/j=sm\/j=bb) y Uh:=ky3.trans Gi (λj hj e=>by omega);have P8:=aeB.aN Pn (λh=>h) (λh=>h);obtain⟨Hd,Xt,ZH,En⟩:=ZE.note z (kn z+1);have ekz:i64.wrap ((kn z:Int)+(1:Int))=((kn z+1:Nat):Int):=by rw [dO (n:=(kn z:Int)) (by omega) (by omega)];omega
    have s3:=Gi.size;refine⟨_,CI acG Pc,some sm,ZE.f35,z.1,⟨z.2.1,Cells.bX afs⟩,Hd,by rw [ekz];exact Xt,?_⟩;refine⟨(),rfl,⟨_,agz,_,P8.aN En (by omega) (by omega),ZH,λy'=>?_,?_⟩,?_⟩
    ·obtain⟨i1,i2,i3⟩:=hinv y'
     refine⟨λh=>i1 h.1,λh1 h2=>?_,λh=>?_⟩
     ·by_cases e:y'=z
      ·subst e;simp only [if_true]
      ·simp only [if_neg e]
       exact i2 h1 (λh=>h2 ⟨h,e⟩)
     ·have e:y'≠z:=by
       rcases h with h|h
       ·exact λe=>h (by rw [e];exact hzc)
       ·exact h.2
      simp only [if_neg e];exact i3 (h.imp_right λh=>h.1)
    ·exact(ku.trans Gi (λj hj e=>.inr e)).trans En (λj hj e=>.inl e)
    ·show Hd.rangeLeft jg.heap.size tw.heap.size<u3.rangeLeft jg.heap.size tw.heap.size
     rw [SV.left_eq,(P8.aN En (by omega) (by omega)).left_eq];exact dD
 ·rw [bg,an.lA]
  have:i=n:=by omega
  subst this;have e1:=FO k G s l;rw [Yr]at e1;rw [e1]at hS hO;have hsq:v.heap[bs]? =some (.cells #[.pointer (some ⟨q,0,none⟩)] gH (0,0)):=kv.heap V.hs (by omega);exact⟨some ⟨q,0,none⟩,by rw [aI hsq];rfl,hK v ov E e ce hS hO kv⟩
end
def G0(N:Nat):Prop:=∀ {w:World} {F:Nat->Prop} {c k:Nat} {G:GS} {m:CM} {B:Nat} {A:Option Addr} {n cx:Nat} {l:List HT} {K:Value->World->Prop},CV w F c k G m->bY w B A n cx l->n<=N->l.Nodup->(∀x∈l,x∈ids G.D)->
 (∀j,bL A=some j->¬m.own c j/\¬F j)->(∀l' w',SO G l'->(∀x,x∈l'↔x∈l)->bY w' B A n cx l'->Kept (λj=>bL A=some j) w w'->K (.tuple #[]) w')->
 bJ prog gw.id #[.slice A n cx,.func (.func dN.id) #[.pointer (some ⟨c,0,none⟩)] #[]] w K
section
variable{y v w w':World}{F:Nat->Prop}{c k:Nat}{G:GS}{m:CM}{s:HT}{l ch:List HT}{bs bc bh q sm nL cL:Nat}{AL:Option Addr}{K:Value->World->Prop}
set_option maxHeartbeats 4000000 in
theorem DL{N:Nat}(CG:G0 N)(hN:(uJ G.D s l).length<=N)(C:CV y F c k G m)(hD:G.D.length<=5000)(pJ:k<=1000)(hs:s∈ids G.D)(hc:eh G.D G.P s ch)(hl:∀x∈l,x∈ids G.D)
 (V:VB y c s bs bc bh q sm (λ_=>none)) (hS:Bw y y.heap.size q sm ⟨s,G.score s+1,[],[]⟩ (λ_=>none) none 0 0 none 0 0)
 (hL:HS y AL nL (dP (fI G.D l++l))) (hAL:∀a,AL=some a->a.block≠q)
 (jD:∀j,(m.own c j\/F j\/j=bs\/j=bc\/j=bh)->j≠q/\j≠sm)
 (hK:∀v B bb ov A n cp E e ce,oB v B q sm bb (dE k G s l) ov A n cp E e ce->OV G.D (iO k G s l).wd ov (oG m.sz ch)->(∀a,A=some a->y.heap.size<=a.block)->(y.heap.size<=B/\B<=v.heap.size)->Kept (λj=>j=q\/j=sm) y v->K (.pointer (some ⟨q,0,none⟩)) v):
 Holds none [] prog 153 (.loop (lB (bB (sR (sL (bf (sR (body an.fn)))))))) (an.q1 K)
  [(3,.pointer (some ⟨bc,0,none⟩)),(4,.pointer (some ⟨bh,0,none⟩)),(6,.pointer none),(8,.pointer (some ⟨bs,0,none⟩)),(46,.slice AL nL cL),(47,.int .i64 (nL:Int)),(48,.int .i64 0)] y:=by
 have W:=C.iN.W;have lbs:=bt V.hs;have lbc:=bt V.hc;have lbh:=bt V.hh;have fbs:=jD bs (.inr (.inr (.inl rfl)));have fbc:=jD bc (.inr (.inr (.inr (.inl rfl))));have fbh:=jD bh (.inr (.inr (.inr (.inr rfl))));have ajd:=hL.len;have hLi:∀x∈dP (fI G.D l++l),x∈ids G.D:=λx hx=>by
  rcases List.mem_append.1 (dU.1 hx)with h|h
  ·exact(iX.1 h).1
  ·exact hl x h
 have hLn:nL<=5000:=by
  have:=eJ (jL _).nodup hLi;rw [iL]at this;omega
 generalize hLL:dP (fI G.D l++l)=L at*;refine an.cP (I:=λs0 v=>∃i:Nat,s0=(i:Int)/\i<=nL/\(∃A n cp,Bw v y.heap.size q sm ⟨s,G.score s+1,(L.take i).filter λh=>decide (h≠s/\¬fU G.D h s),[]⟩ (λ_=>none) A n cp none 0 0)/\Kept (· =q) y v) (μ:=λs0 _=>((nL:Int)-s0).toNat) (s:=0) ⟨0,rfl,Nat.zero_le _,⟨none,0,0,hS⟩,Kept.refl _ _⟩ ?_;rintro s0 v ⟨i,rfl,hi,⟨A,n,cp,Ox⟩,kv⟩;have sv:=kv.size;have Ys:=bY.len Ox.mg;have hnA:n<=5000:=by
  have h1:=List.length_filter_le (λh=>decide (h≠s/\¬fU G.D h s)) (L.take i);have h2:=List.length_take_le i L;have h3:((L.take i).filter λh=>decide (h≠s/\¬fU G.D h s)).length=n:=Ys;omega
 refine Split.dec (λjT=>?_) (λgE=>?_)
 ·have eA:i<nL:=by omega
  obtain⟨x,hx⟩:∃x,L[i]? =some x:=⟨_,List.getElem?_eq_getElem (by omega)⟩;have Ff:L.take (i+1)=L.take i++ [x]:=by rw [List.take_add_one,hx];rfl
  have hLv:HS v AL nL L:=hL.aN kv hAL;refine hLv.load (i:=(i:Int)) (by omega) hx ?_;intro oD;obtain⟨uP,ly,lH⟩:=jt (w:=v) (z:=gu.1) (cs:=x.1) (t:=ai) (by rw [x.2.1];rfl);refine⟨⟨x.2.1,x.2.one,λj hj=>uP j (by rw [x.2.1];exact hj)⟩,?_⟩;intro jg mM
  replace ly:jg.heap[v.heap.size]? =some (.cells x.1 ai (0,0)):=ly
  replace lH:Kept Nil v jg:=lH
  have qI:Kept Nil jg mM:=(Kept.refl _ _).drew;clear_value mM jg;have Lb:=qI.heap ly (λh=>h);have Ru:=lH.tt qI;have HV:Kept (· =q) y mM:=kv.trans Ru (λ_ _ h=>h.elim);have C15:CV mM F c k G m:=C.aN HV (λj hj e=>(jD j (.inl hj)).1 e) (λj hj e=>(jD j (.inr (.inl hj))).1 e);have Qh:∀ {u:World},Kept (· =q) y u->u.cell? ⟨bc,0,none⟩=some (.pointer (some ⟨c,0,none⟩)):=λku=>by rw [aI (ku.heap V.hc fbc.1)];rfl
  have Xc:∀ {u:World},Kept (· =q) y u->u.cell? ⟨bs,0,none⟩=some (.pointer (some ⟨q,0,none⟩)):=λku=>by rw [aI (ku.heap V.hs fbs.1)];rfl
  have next:∀ {u:World} {A':Option Addr} {n' yM:Nat},Bw u y.heap.size q sm ⟨s,G.score s+1,(L.take (i+1)).filter λh=>decide (h≠s/\¬fU G.D h s),[]⟩ (λ_=>none) A' n' yM none 0 0->Kept (· =q) y u->
   ∃s1:Int,i64.wrap ((i:Int)+(1:Int))=s1/\(∃i':Nat,s1=(i':Int)/\i'<=nL/\(∃A n cp,Bw u y.heap.size q sm ⟨s,G.score s+1,(L.take i').filter λh=>decide (h≠s/\¬fU G.D h s),[]⟩ (λ_=>none) A n cp none 0 0)/\Kept (· =q) y u)/\((nL:Int)-s1).toNat<((nL:Int)-(i:Int)).toNat:=λh1 h2=>by
   rw [dO (n:=(i:Int)) (by omega) (by omega)];exact⟨(i:Int)+1,rfl,⟨i+1,rfl,eA,⟨_,_,_,h1⟩,h2⟩,by omega⟩
  refine⟨x.1,⟨x.2.1,Cells.bX Lb⟩,s.1,⟨s.2.1,Cells.bX (HV.heap V.hh fbh.1)⟩,⟨x.2.ints,s.2.ints⟩,?_⟩;rw [dQ];by_cases NA:x=s
  ·refine Split.no (by rw [decide_eq_true NA];rfl) ?_
   obtain⟨s1,e1,e2,e3⟩:=next (u:=mM) (by
    rw [Ff,List.filter_append];have: [x].filter (λh=>decide (h≠s/\¬fU G.D h s))= []:=by rw [List.filter_cons_of_neg (by simp [NA])];rfl
    rw [this,List.append_nil];exact Ox.same Ru) HV
   rw [e1];exact⟨s1,rfl,e2,e3⟩
  ·refine Split.yes (by rw [decide_eq_false NA];rfl) ⟨_,Qh HV,_,C15.c1,x.1,⟨x.2.1,Cells.bX Lb⟩,s.1,⟨s.2.1,Cells.bX (HV.heap V.hh fbh.1)⟩,?_⟩
   obtain⟨mx,X15,_⟩:=C15.X;refine kR X15 hD x s λFM r hr Dt=>⟨r,rfl,?_⟩;have Na:Kept (· =q) y FM:=HV.trans Dt (λ_ _ h=>h.elim);have Wm:=Ru.tt Dt;cases r with
   |true=>
    refine Split.no rfl ?_;obtain⟨s1,e1,e2,e3⟩:=next (u:=FM) (by
     rw [Ff,List.filter_append];have: [x].filter (λh=>decide (h≠s/\¬fU G.D h s))= []:=by rw [List.filter_cons_of_neg (by simp [hr.1 rfl])];rfl
     rw [this,List.append_nil];exact Ox.same Wm) Na
    rw [e1];exact⟨s1,rfl,e2,e3⟩
   |false=>
    refine Split.yes rfl ?_;intro yg;have Kp:Kept Nil FM yg:=(Kept.refl _ _).drew;clear_value yg;have acN:=Wm.tt Kp;have Cr:Kept (· =q) y yg:=Na.trans Kp (λ_ _ h=>h.elim);have Lk:=Ox.same acN;refine⟨_,Xc Cr,_,Xc Cr,A,n,cp,Lk.f33,x.1,⟨x.2.1,Cells.bX ((Dt.tt Kp).heap Lb (λh=>h))⟩,x.2.1,?_⟩;intro nQ;have tA:Kept Nil yg nQ:=(Kept.refl _ _).alloc _;have adi:HS nQ (some ⟨yg.heap.size,0,none⟩) 1 [x]:=jy yg x;clear_value nQ;have Lj:=Lk.same tA;have xl:Kept (· =q) y nQ:=Cr.trans tA (λ_ _ h=>h.elim);have s24:=xl.size;obtain⟨A',yM,u,Xj,ku,Li,k5,hw5⟩:=Lj.VQ s24 (by omega) adi;have kyu:Kept (· =q) y u:=xl.trans ku (λj hj e=>by omega);refine⟨Lj.f33,Xc xl,Xc xl,A',n+1,yM,u,Xj,Xc kyu,hw5,?_⟩;intro yo
    replace Li:Bw yo y.heap.size q sm _ (λ_=>none) A' (n+1) yM none 0 0:=Li
    replace k5:Kept (λj=>j=q\/y.heap.size<=j) nQ yo:=k5
    clear_value yo;obtain⟨s1,e1,e2,e3⟩:=next (u:=yo) (by
     rw [Ff,List.filter_append];have: [x].filter (λh=>decide (h≠s/\¬fU G.D h s))= [x]:=by rw [List.filter_cons_of_pos (by simp only [decide_eq_true_eq];exact⟨NA,λe=>by have:=hr.2 e;cases this⟩)];rfl
     rw [this];exact Li) (xl.trans k5 (λj hj e=>by
      rcases e with e|e
      ·exact e
      ·omega))
    rw [e1];exact⟨s1,rfl,e2,e3⟩
 ·rw [bg,an.dJ]
  have gD:i=nL:=by omega
  subst gD;rw [List.take_of_length_le (by omega)]at Ox;unfold an.dA;intro rP;have Bk:Kept Nil v rP:=(Kept.refl _ _).drew;clear_value rP;have EY:=Ox.same Bk;have Cq:Kept (· =q) y rP:=kv.trans Bk (λ_ _ h=>h.elim);have C33:CV rP F c k G m:=C.aN Cq (λj hj e=>(jD j (.inl hj)).1 e) (λj hj e=>(jD j (.inr (.inl hj))).1 e);have efl:(L.filter λh=>decide (h≠s/\¬fU G.D h s))=uJ G.D s l:=by unfold uJ;rw [hLL]
  have Ez:bY rP y.heap.size A n cp (uJ G.D s l):=by rw [<-efl];exact EY.mg
  have TN:∀j,bL A=some j->y.heap.size<=j/\j<rP.heap.size:=λj hj=>by obtain⟨g1,cur,g2⟩:=Row.bX Ez hj;exact⟨g1,bt g2⟩
  refine⟨some ⟨q,0,none⟩,by rw [aI (Cq.heap V.hs fbs.1)];rfl,A,n,cp,EY.f33,some ⟨c,0,none⟩,by rw [aI (Cq.heap V.hc fbc.1)];rfl,?_⟩;refine CG C33 Ez (by have:=bY.len Ez;omega) (sO _ _ _) (λx hx=>hLi x (by rw [<-efl]at hx;exact(List.mem_filter.1 hx).1)) (λj hj=>⟨λe=>by have:=C.low j (.inl e);have:=(TN j hj).1;omega,λe=>by have:=C.low j (.inr e);have:=(TN j hj).1;omega⟩) λl' oC Ie jx KO yh=>⟨rfl,?_⟩;have el:l'=cZ G s l:=uK Ie jx;subst el;have qB:=Ox.qB;have sB:=Ox.sB;have hqs:=Ox.qs;have s33:=Cq.size;have Wb:Kept (· =q) y oC:=Cq.trans yh (λj hj e=>by have:=(TN j e).1;omega);have Sb:=yh.heap EY.top (λe=>by have:=(TN q e).1;omega);have XO:=EY.ov.aN yh (λe=>by have:=(TN sm e).1;omega);intro kr tw;have nA:Kept Nil oC kr:=(Kept.refl _ _).alloc _;have Oq:kr.heap[oC.heap.size]? =some (.cells #[.slice none 0 0] aH (0,0)):=aO oC _;have sF:Kept Nil kr tw:=(Kept.refl _ _).alloc _;have SU:tw.heap[kr.heap.size]? =some (.cells #[.nilFunc] gK (0,0)):=aO kr _;refine⟨eI SU (by simp),?_⟩;intro yf;have Yz:yf.heap[kr.heap.size]? =some (.cells #[.func (.func cQ.id) #[] #[.pointer (some ⟨bs,0,none⟩),.pointer (some ⟨bc,0,none⟩),.pointer (some ⟨bh,0,none⟩)]] gK (0,0)):=by
   show(tw.setCell ⟨kr.heap.size,0,none⟩ _).heap[kr.heap.size]? =_;rw [dL SU 0];rfl
  have sE:Kept (· =kr.heap.size) tw yf:=Kept.setCell (S:=(· =kr.heap.size)) (Kept.refl _ tw) (p:=⟨kr.heap.size,0,none⟩) (λ_=>rfl) _;clear_value yf;have zz:=nA.tt sF;have s35:=nA.size;have s36:=sF.size;have l35:=bt Oq;have l36:=bt SU;have Gk:Kept Nil oC yf:=⟨sE.os.trans zz.os,sE.tape.trans zz.tape,sE.output.trans zz.output,Nat.le_trans zz.size sE.size,λj hj hn=>by rw [sE.block j (Nat.lt_of_lt_of_le hj zz.size) (by omega),zz.block j hj hn]⟩;have afy:=sE.heap (sF.heap Oq (λh=>h)) (by omega);have l37:=bt Yz;clear_value tw kr;have HR:Kept (· =q) y yf:=Wb.trans Gk (λ_ _ h=>h.elim);have s34:=Wb.size;have s37:=HR.size;have C37:CV yf F c k G m:=C.aN HR (λj hj e=>(jD j (.inl hj)).1 e) (λj hj e=>(jD j (.inr (.inl hj))).1 e);have KG:=Gk.heap Sb (λh=>h);have PU:=XO.aN Gk (λh=>h);have Sj:bY yf y.heap.size A n cp (cZ G s l):=Row.aN KO Gk (λ_ _ h=>h);have V37:VB yf c s bs bc bh q sm (λ_=>none):=⟨HR.heap V.hs fbs.1,HR.heap V.hc fbc.1,HR.heap V.hh fbh.1,by rw [bO,aI KG];exact(iI ..).2.2.2,PU⟩;have hAA:∀a,A=some a->y.heap.size<=a.block/\a.block<oC.heap.size:=λa ha=>by
   subst ha;obtain⟨g1,cur,g2⟩:=Row.bX KO (k:=a.block) rfl;exact⟨g1,bt g2⟩
  have ZF:oB yf yf.heap.size q sm oC.heap.size ⟨s,G.score s+1,cZ G s l,[]⟩ (λ_=>none) A n cp none 0 0:=
   ⟨KG,Sj.hs,λa ha=>by have:=hAA a ha;exact⟨by omega,by omega,by omega,by omega⟩,Row.nil _ _ _ _,PU,by omega,by omega,by omega,⟨hqs,by omega,by omega⟩⟩
  refine⟨some ⟨q,0,none⟩,by rw [aI V37.hs];rfl,A,n,cp,ZF.f33,?_⟩;have W5:(lX k G s l 0)=⟨G.world s++ [s],[]⟩:=rfl;refine DK (l:=l) C37 hD pJ hs hc (λx hx=>hLi x (by
   have h1:=(jx x).1 hx;rw [<-efl]at h1;exact(List.mem_filter.1 h1).1)) V37 Yz (λj hj=>?_) ⟨⟨λ_=>none,none,0,0,none,0,0,[],ZF,afy,bY.nil _ _,by rw [W5,List.append_nil],λj hj=>by simp [bL]at hj,by rw [W5];exact C.Z |>.ov hs hc,?_,λz hz=>by simp at hz,rfl⟩,Kept.refl _ _⟩ hnA λv' ov E e ce h1 h2 h3=>?_
  ·have h1:j<y.heap.size\/j=kr.heap.size:=by
    rcases hj with h|h|h|h|h|h
    ·exact .inl (C.low j (.inl h))
    ·exact .inl (C.low j (.inr h))
    ·exact .inl (by omega)
    ·exact .inl (by omega)
    ·exact .inl (by omega)
    ·exact .inr h
   rcases h1 with h1|h1
   ·have h2:j≠q/\j≠sm:=by
     rcases hj with h|h|h|h|h|h
     ·exact jD j (.inl h)
     ·exact jD j (.inr (.inl h))
     ·exact jD j (.inr (.inr (.inl h)))
     ·exact jD j (.inr (.inr (.inr (.inl h))))
     ·exact jD j (.inr (.inr (.inr (.inr h))))
     ·omega
    exact⟨h2.1,h2.2,by omega⟩
   ·exact⟨by omega,by omega,by omega⟩
  ·rw [W5]
   obtain⟨g1,g2,_⟩:=C.iN.wd s hs;exact List.nodup_append.2 ⟨g1,by simp,λa ha b hb e=>by
    have:b=s:=by simpa using hb
    subst this;subst e;exact fU.irrefl W a (g2 a ha)⟩
  ·refine hK v' yf.heap.size oC.heap.size ov A n cp E e ce h1 h2 (λa ha=>(hAA a ha).1) ⟨s37,h3.size⟩ ?_
   exact(HR.mono λ_ _ h=>.inl h).trans h3 (λj hj e=>by
    rcases e with e|e|e
    ·exact .inl e
    ·exact .inr e
    ·omega)
end
theorem T3:U8 prog bT=some ([(0,32),(32,1),(33,1),(34,1)],List.replicate 32 (.int .u8 0)++ [.int .u64 0,.slice none 0 0,.slice none 0 0]):=by kernel_rfl
theorem xV(h:HT)(z:Int):prog.built bT [(0,.agg h.1),(1,.int .u64 z)]=some (h.1++ #[.int .u64 z,.slice none 0 0,.slice none 0 0]):=by
 have hs:=h.2.1;rw [pC T3,j0 (off:=0) (size:=32) rfl (by simpa [Value.cells]using hs) (by simp),j0 (off:=32) (size:=1) rfl rfl (by
  rw [List.size_toArray,nV (by simp [Value.cells,hs])];simp)]
 simp only [Instr.fill,Option.some.injEq];apply Array.ext';unfold jl;simp [Value.cells,hs];rw [List.drop_append];simp [hs]
theorem OU:U8 prog fG=some ([(0,35),(35,1)],List.replicate 32 (.int .u8 0)++ [.int .u64 0,.slice none 0 0,.slice none 0 0,.map none]):=by kernel_rfl
theorem zR(c:qF)(sm:Option Nat):prog.built fG [(0,.agg (dI c none 0 0 none 0 0)),(1,.map sm)]=some (dI c none 0 0 none 0 0++ #[.map sm]):=by
 have hs:=bR c none 0 0 none 0 0;rw [pC OU,j0 (off:=0) (size:=35) rfl (by simpa [Value.cells]using hs) (by simp),j0 (off:=35) (size:=1) rfl rfl (by
  rw [List.size_toArray,nV (by simp [Value.cells,hs])];simp)]
 simp only [Instr.fill,Option.some.injEq];apply Array.ext';unfold jl;simp [Value.cells,hs]
section
variable{g1 v w w':World}{F:Nat->Prop}{c k:Nat}{G:GS}{m:CM}{s:HT}{l ch:List HT}{bs bc bh q sm n cx:Nat}{A:Option Addr}{K:Value->World->Prop}
theorem MK{N:Nat}(CG:G0 N)(hN:(uJ G.D s l).length<=N)(C:CV g1 F c k G m)(hT:tm g1)(hD:G.D.length<=5000)(pJ:k<=1000)(hs:s∈ids G.D)(hc:eh G.D G.P s ch)(hl:∀x∈l,x∈ids G.D)(EH:HS g1 A n l)(hn:n<=5000)
 (V:VB g1 c s bs bc bh q sm (λ_=>none)) (kI:g1.heap[q]? =some (.cells (dI ⟨s,G.score s+1,[],[]⟩ none 0 0 none 0 0++ #[.map (some sm)]) fG (0,0)))
 (jD:∀j,(m.own c j\/F j\/j=bs\/j=bc\/j=bh)->j≠q/\j≠sm) (hqs:q≠sm) {p:Nat} (hp:∃mx,XV g1 m.FX m.x G.D G.P mx/\mx.g=p)
 (hK:∀v B bb ov A n cp E e ce,oB v B q sm bb (dE k G s l) ov A n cp E e ce->OV G.D (iO k G s l).wd ov (oG m.sz ch)->(∀a,A=some a->g1.heap.size<=a.block)->(g1.heap.size<=B/\B<=v.heap.size)->Kept (λj=>j=q\/j=sm) g1 v->K (.pointer (some ⟨q,0,none⟩)) v):
 bJ prog bu.id #[.pointer (some ⟨p,0,none⟩),.slice A n cx] g1 λi1 j1=>∃k1:Option Addr,∃m1 n1:Nat,i1=.slice k1 m1 n1/\
  ∃(o1:Option Addr) (p1 q1:Nat) (r1:World),(Builtin.append_ #[aH,aH] aH #[.slice k1 m1 n1,.slice A n cx]).run prog j1=.ok (.slice o1 p1 q1) r1/\
  bJ prog jz.id #[.slice o1 p1 q1] r1 λt1 u1=>∃v1:Option Addr,∃x1 y1:Nat,t1=.slice v1 x1 y1/\
  Holds none [] prog 153 (.loop (lB (bB (sR (sL (bf (sR (body an.fn)))))))) (an.q1 K)
   [(3,.pointer (some ⟨bc,0,none⟩)),(4,.pointer (some ⟨bh,0,none⟩)),(6,.pointer none),(8,.pointer (some ⟨bs,0,none⟩)),(46,.slice v1 x1 y1),(47,.int .i64 (x1:Int)),(48,.int .i64 0)] u1:=by
 have W:=C.iN.W;obtain⟨mx,X,rfl⟩:=hp;obtain⟨bl,c',mb,M,GG⟩:=X.G;have lq:=bt kI;have lsm:=V.ov.lt;refine xQ GG W (by omega) hT EH (by omega) λA1 c1 w1 nv k1=>⟨A1,_,c1,rfl,?_⟩;have rZ:(fI G.D l).length<=5000:=Nat.le_trans (mP _ _) hD;have s1:=k1.size;obtain⟨A2,c2,w2,lj,iU,g2,ZU⟩:=dp aH nv (cx:=cx) (EH.same k1) (by omega) s1;have k2:Kept (λj=>g1.heap.size<=j) w1 w2:=(Kept.refl _ _).grown g2 λj hj _=>(Row.bX nv hj).1;have mT:Kept Nil g1 w2:=k1.trans k2 (λj hj e=>by omega);refine⟨A2,_,c2,w2,lj,?_⟩;refine im iU.hs (by omega) λA3 c3 w3 oR k3=>⟨A3,_,c3,rfl,?_⟩;have jH:=mT.tt k3;have s02:=mT.size;have s03:=jH.size;have V3:=V.same jH;refine DL (l:=l) CG hN (C.same jH) hD pJ hs hc hl V3 ⟨jH.heap kI (λh=>h),bY.nil _ _,Row.nil _ _ _ _,V3.ov,by omega,by omega,hqs,λj hj=>by simp [bL]at hj⟩ oR.hs (λa ha=>?_) jD λv B bb ov A n cp E e ce h1 h2 h3 h4 h5=>?_
 ·subst ha
  have:=(Row.bX oR (k:=a.block) rfl).1;omega
 ·exact hK v B bb ov A n cp E e ce h1 h2 (λa ha=>Nat.le_trans s03 (h3 a ha)) ⟨Nat.le_trans s03 h4.1,h4.2⟩ ((jH.mono λ_ _ h=>h.elim).tt h5)
end
section
variable{w w':World}{F:Nat->Prop}{c k:Nat}{G:GS}{m:CM}{s:HT}{l ch:List HT}{n cx:Nat}{A:Option Addr}{K:Value->World->Prop}
set_option maxHeartbeats 4000000 in
theorem xE{N:Nat}(CG:G0 N)(hN:(uJ G.D s l).length<=N)(C:CV w F c k G m)(hT:tm w)(hD:G.D.length<=5000)(pJ:k<=1000)(hs:s∈ids G.D)(hc:eh G.D G.P s ch)(hl:∀x∈l,x∈ids G.D)(EH:HS w A n l)(hn:n<=5000)
 (hK:∀v q B sm bb ov A n cp E e ce,oB v B q sm bb (dE k G s l) ov A n cp E e ce->OV G.D (iO k G s l).wd ov (oG m.sz ch)->w.heap.size<=q->w.heap.size<=sm->(∀a,A=some a->w.heap.size<=a.block)->(w.heap.size<=B/\B<=v.heap.size)->Kept Nil w v->K (.pointer (some ⟨q,0,none⟩)) v):
 bJ prog an.id #[.pointer (some ⟨c,0,none⟩),.agg s.1,.slice A n cx] w K:=by
 refine an.of ?_;unfold an.W;intro w1 w2;have k1:Kept Nil w w1:=(Kept.refl _ _).alloc _;have Y6:w1.heap[w.heap.size]? =some (.cells #[.pointer (some ⟨c,0,none⟩)] dv (0,0)):=aO w _;have k2:Kept Nil w1 w2:=(Kept.refl _ _).alloc _;have zD:w2.heap[w1.heap.size]? =some (.cells s.1 ai (0,0)):=aO w1 _;clear_value w2;have ES:=k2.heap Y6 (λh=>h);have mT:=k1.tt k2;have s1:=k1.size;have l1:=bt Y6;have l2:=bt zD;clear_value w1;have C2:=C.same mT;obtain⟨mx2,X2,_⟩:=C2.X;refine⟨some ⟨c,0,none⟩,by rw [aI ES];rfl,_,C2.c1,gB.of (Split.no rfl (Is.mk rfl ⟨_,X2.c0,⟨_,rfl,?_⟩⟩))⟩;intro w3;have k3:Kept Nil w2 w3:=(Kept.refl _ _).drew;clear_value w3;have jH:=mT.tt k3;have Mv:=k3.heap ES (λh=>h);have vy:=k3.heap zD (λh=>h);have C3:=C.same jH;obtain⟨A1,n1,c1,B1,m1,d1,s1',sa⟩:=C3.seen s hs;have Sg:G.score s<=5000:=by
  have h1:=(C.iN.wd s hs).2.2;have h2:=eJ (m:=ids G.D) (C.iN.wd s hs).1 (λb hb=>(((C.iN.wd s hs).2.1 b hb).mem C.iN.W).1);rw [iL]at h2;omega
 have ew:u64.wrap (((G.ln s).score:Int)+(1:Int))=((G.score s+1:Nat):Int):=by
  show u64.wrap ((G.score s:Int)+(1:Int))=_
  rw [show(G.score s:Int)+1=((G.score s+1:Nat):Int)by omega];exact lF (by omega)
 have oM:∀ {u:World},Kept Nil w3 u->u.cell? ⟨w.heap.size,0,none⟩=some (.pointer (some ⟨c,0,none⟩)):=λku=>by rw [aI (ku.heap Mv (λh=>h))];rfl
 have wg:∀ {u:World},Kept Nil w3 u->∃cs:Array Value,(.agg s.1:Value)=.agg cs/\cs.size=32/\Cells u ⟨w1.heap.size,0,none⟩ cs:=λku=>⟨s.1,rfl,s.2.1,Cells.bX (ku.heap vy (λh=>h))⟩;have nS:∀ {u:World},Kept Nil w3 u->u.cell? (((⟨m.q s,0,none⟩:Addr).add 0).add 32)=some (.int .u64 ((G.ln s).score:Int)):=λku=>(sa.aN ku (λ_ _ h=>h)).c32;have l3:=bt vy;have s3:=k3.size;refine⟨s.1,⟨s.2.1,Cells.bX vy⟩,some ⟨c,0,none⟩,oM (Kept.refl _ _),_,C3.c2,s.1,⟨s.2.1,Cells.bX vy⟩,_,C3.qi hs,_,nS (Kept.refl _ _),?_⟩;rw [ew];rw [xV s];refine Is.mk rfl ?_;have IG:(s.1++ #[.int .u64 ((G.score s+1:Nat):Int),.slice none 0 0,.slice none 0 0]:Array Value)=dI ⟨s,G.score s+1,[],[]⟩ none 0 0 none 0 0:=rfl;rw [IG];have go:∀ {u:World} {q sm bs:Nat},Kept Nil w3 u->w3.heap.size<=q->w3.heap.size<=sm->w3.heap.size<=bs->q≠sm->bs≠q->bs≠sm->
  u.heap[q]? =some (.cells (dI ⟨s,G.score s+1,[],[]⟩ none 0 0 none 0 0++ #[.map (some sm)]) fG (0,0))->gX u sm (λ_=>none)->u.heap[bs]? =some (.cells #[.pointer (some ⟨q,0,none⟩)] gH (0,0))->_:=
  λ{u q sm bs} ku hq ym hbs h1 h2 h3 kI SJ jy=>MK (g1:=u) (bs:=bs) (bc:=w.heap.size) (bh:=w1.heap.size) (q:=q) (sm:=sm) (cx:=cx) (K:=K) (p:=mx2.g) CG hN (C3.same ku) (hT.same (jH.tt ku)) hD pJ hs hc hl (EH.same (jH.tt ku)) hn
   ⟨jy,ku.heap Mv (λh=>h),ku.heap vy (λh=>h),by rw [bO,aI kI];exact(iI ..).2.2.2,SJ⟩ kI
   (λj hj=>by
     rcases hj with h|h|h|h|h
     ·have:=C.low j (.inl h);exact⟨by omega,by omega⟩
     ·have:=C.low j (.inr h);exact⟨by omega,by omega⟩
     ·exact⟨by omega,by omega⟩
     ·exact⟨by omega,by omega⟩
     ·exact⟨by omega,by omega⟩) h1 ⟨mx2,X2.same (k3.tt ku),rfl⟩
   (λv B bb ov A n cp E e ce t1 t2 t3 t4 t5=>hK v q B sm bb ov A n cp E e ce t1 t2 (by omega) (by omega) (λa ha=>by have:=t3 a ha;have:=(jH.tt ku).size;omega) ⟨by have:=(jH.tt ku).size;have:=t4.1;omega,t4.2⟩ ((jH.tt ku).trans t5 (λj hj e=>by omega)))
 have Q5:∀ {u0:World} {b q:Nat},u0.heap[b]? =some (.cells #[.pointer none] gH (0,0))->Wr u0 ⟨b,0,none⟩/\∀u1,u1=u0.setCell ⟨b,0,none⟩ (.pointer (some ⟨q,0,none⟩))->u1.heap[b]? =some (.cells #[.pointer (some ⟨q,0,none⟩)] gH (0,0))/\Kept (· =b) u0 u1:=λ{u0 b q} hb=>⟨eI hb (by simp),λu1 e=>by
  subst e;refine⟨?_,Kept.setCell (S:=(· =b)) (Kept.refl _ u0) (p:=⟨b,0,none⟩) (λ_=>rfl) _⟩;rw [dL hb 0];rfl⟩
 refine⟨?_,?_⟩
 ·intro w4
  have k4:Kept Nil w3 w4:=(Kept.refl _ _).alloc _;have hm4:gX w4 w3.heap.size (λ_=>none):=gX.new w3;clear_value w4;have l4:=hm4.lt;refine⟨nS k4,(C3.same k4).qi hs,wg k4,(C3.same k4).c2,oM k4,wg k4,?_⟩;rw [zR];refine Is.mk rfl ⟨?_,?_⟩
  ·intro w5 w6
   have k5:Kept Nil w4 w5:=(Kept.refl _ _).alloc _;have hq5:w5.heap[w4.heap.size]? =some (.cells (dI ⟨s,G.score s+1,[],[]⟩ none 0 0 none 0 0++ #[.map (some w3.heap.size)]) fG (0,0)):=aO w4 _;have k6:Kept Nil w5 w6:=(Kept.refl _ _).alloc _;have rr:w6.heap[w5.heap.size]? =some (.cells #[.pointer none] gH (0,0)):=aO w5 _;clear_value w6;have Xx:=k6.heap hq5 (λh=>h);have l5:=bt hq5;clear_value w5;have Md:=k5.tt k6;have sF:=k4.tt Md;have s36:=sF.size;obtain⟨t1,t2⟩:=Q5 (q:=w4.heap.size) rr;refine⟨t1,?_⟩;intro w7;obtain⟨t3,t4⟩:=t2 w7 rfl;clear_value w7;exact go (sF.trans t4 (λj hj e=>by omega)) (by omega) (by omega) (by omega) (by omega) (by omega) (by omega) (t4.heap Xx (by omega)) ((hm4.same Md).aN t4 (by omega)) t3
  ·intro w5
   have k5:Kept Nil w4 w5:=(Kept.refl _ _).alloc _;have o9:w5.heap[w4.heap.size]? =some (.cells #[.pointer none] gH (0,0)):=aO w4 _;clear_value w5;have l5:=bt o9;have nA:=k4.tt k5;refine⟨nS nA,(C3.same nA).qi hs,wg nA,(C3.same nA).c2,oM nA,wg nA,?_⟩;intro w6;have k6:Kept Nil w5 w6:=(Kept.refl _ _).alloc _;have Xx:w6.heap[w5.heap.size]? =some (.cells (dI ⟨s,G.score s+1,[],[]⟩ none 0 0 none 0 0++ #[.map (some w3.heap.size)]) fG (0,0)):=aO w5 _;clear_value w6;have Md:=k5.tt k6;have sF:=k4.tt Md;have s35:=nA.size;obtain⟨t1,t2⟩:=Q5 (q:=w5.heap.size) (k6.heap o9 (λh=>h));refine⟨t1,?_⟩;intro w7;obtain⟨t3,t4⟩:=t2 w7 rfl;clear_value w7;exact go (sF.trans t4 (λj hj e=>by omega)) (by omega) (by omega) (by omega) (by omega) (by omega) (by omega) (t4.heap Xx (by omega)) ((hm4.same Md).aN t4 (by omega)) t3
 ·intro w4
  have k4:Kept Nil w3 w4:=(Kept.refl _ _).alloc _;have vB:w4.heap[w3.heap.size]? =some (.cells #[.pointer none] gH (0,0)):=aO w3 _;clear_value w4;have l4:=bt vB;refine⟨nS k4,(C3.same k4).qi hs,wg k4,(C3.same k4).c2,oM k4,wg k4,?_⟩;intro w5;have k5:Kept Nil w4 w5:=(Kept.refl _ _).alloc _;have hm5:gX w5 w4.heap.size (λ_=>none):=gX.new w4;clear_value w5;have l5:=hm5.lt;have nA:=k4.tt k5;refine⟨nS nA,(C3.same nA).qi hs,wg nA,(C3.same nA).c2,oM nA,wg nA,?_⟩;rw [zR];refine Is.mk rfl ?_;intro w6;have k6:Kept Nil w5 w6:=(Kept.refl _ _).alloc _;have Xx:w6.heap[w5.heap.size]? =some (.cells (dI ⟨s,G.score s+1,[],[]⟩ none 0 0 none 0 0++ #[.map (some w4.heap.size)]) fG (0,0)):=aO w5 _;clear_value w6;have sF:=nA.tt k6;have s35:=nA.size;obtain⟨t1,t2⟩:=Q5 (q:=w5.heap.size) ((k5.tt k6).heap vB (λh=>h));refine⟨t1,?_⟩;intro w7;obtain⟨t3,t4⟩:=t2 w7 rfl;clear_value w7;exact go (sF.trans t4 (λj hj e=>by omega)) (by omega) (by omega) (by omega) (by omega) (by omega) (by omega) (t4.heap Xx (by omega)) ((hm5.same k6).aN t4 (by omega)) t3
end
end Go.Proofs.YtfleamccglihoaaGreatDoor
