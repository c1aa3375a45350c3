import Derived.Test.YtnboahlopghcjaaGreatDoorMP
import Derived.Test.YtnboahlopghcjaaGreatDoorMG
set_option linter.unusedVariables false
namespace Go.Proofs.YtnboahlopghcjaaGreatDoor
open Go.Proofs.Tryz
open Go Go.bp Go.RowKit
theorem AT:yx prog gS gP 1 1:=⟨by kernel_rfl,by kernel_rfl⟩
abbrev th(l:List Bool):List Value:=l.map .bool
structure uh(w:World)(B q sm:Nat)(c:p8)(ov:HT->Option Nat)(A:Option Addr)(n cp:Nat)(E:Option Addr)(e ce:Nat):Prop where
 top:w.heap[q]? =some (.cells (dT c A n cp E e ce++ #[.map (some sm)]) cI (0,0))
 mg:bQ w B A n cp c.merge
 bl:Row w B gP 1 E e ce (th c.gB)
 ov:dA w sm (DM ov)
 qB:q<B
 sB:sm<B
 qs:q≠sm
 AE: ∀j,aX A=some j->aX E≠some j
section
variable{w w':World}{B q sm:Nat}{c:p8}{ov:HT->Option Nat}{A E:Option Addr}{n cp e ce:Nat}{K:Value->World->Prop}
theorem uh.aG{S:Nat->Prop}(h:uh w B q sm c ov A n cp E e ce)(hk:Kept S w w')(h1: ¬S q)(h2: ¬S sm)(h3: ∀j,B<=j-> ¬S j):uh w' B q sm c ov A n cp E e ce:=
 ⟨hk.heap h.top h1,Row.aG h.mg hk (fun j hj=>h3 j (Row.bC h.mg hj).1),Row.aG h.bl hk (fun j hj=>h3 j (Row.bC h.bl hj).1),h.ov.aG hk h2,h.qB,h.sB,h.qs,h.AE⟩
theorem uh.same(h:uh w B q sm c ov A n cp E e ce)(hk:Kept Nil w w'):uh w' B q sm c ov A n cp E e ce:=h.aG hk (fun h=>h) (fun h=>h) (fun _ _ h=>h)
theorem uh.f33(h:uh w B q sm c ov A n cp E e ce):w.cell? (((⟨q,0,none⟩:Addr).add 0).add 33)=some (.slice A n cp):=by rw [add_zero,a7,az h.top];exact(fz ..).2.1
theorem uh.UB(h:uh w B q sm c ov A n cp E e ce): ∀j,aX A=some j\/aX E=some j->B<=j/\j<w.heap.size:=fun j hj=>by
 rcases hj with hj|hj
 ·obtain⟨h1,cur,h2⟩:=Row.bC h.mg hj;exact⟨h1,aQ h2⟩
 ·obtain⟨h1,cur,h2⟩:=Row.bC h.bl hj;exact⟨h1,aQ h2⟩
theorem rj(c:p8)(A:Option Addr)(n cp:Nat)(E:Option Addr)(e ce:Nat)(r:Array Value)(A':Option Addr)(n' tN:Nat):
 (dT c A n cp E e ce++r).setIfInBounds (0+33) (.slice A' n' tN)=dT c A' n' tN E e ce++r:=by
 have h0:c.kO.1.size=32:=c.kO.2.1;apply Array.ext';unfold dT;simp only [Array.toList_setIfInBounds,Array.toList_append,List.append_assoc];rw [List.set_append_right _ _ (by simp [h0])];simp [h0]
theorem ri(c:p8)(A:Option Addr)(n cp:Nat)(E:Option Addr)(e ce:Nat)(r:Array Value)(E':Option Addr)(n' tN:Nat):
 (dT c A n cp E e ce++r).setIfInBounds (0+34) (.slice E' n' tN)=dT c A n cp E' n' tN++r:=by
 have h0:c.kO.1.size=32:=c.kO.2.1;apply Array.ext';unfold dT;simp only [Array.toList_setIfInBounds,Array.toList_append,List.append_assoc];rw [List.set_append_right _ _ (by simp [h0])];simp [h0]
theorem xl(c:p8)(A:Option Addr)(n cp:Nat)(E:Option Addr)(e ce:Nat)(r:Array Value)(s:Nat):
 (dT c A n cp E e ce++r).setIfInBounds (0+32) (.int .u64 (s:Int))=dT {c with score:=s} A n cp E e ce++r:=by
 have h0:c.kO.1.size=32:=c.kO.2.1;apply Array.ext';unfold dT;simp only [Array.toList_setIfInBounds,Array.toList_append,List.append_assoc];rw [List.set_append_right _ _ (by simp [h0])];simp [h0]
theorem uh.KN(h:uh w B q sm c ov A n cp E e ce)(hB:B<=w.heap.size)(hn:n<=100000){x:HT}{b:Nat}(hb:HS w (some ⟨b,0,none⟩) 1 [x]):
 ∃A' tN u,(Builtin.append_ #[aR,aR] aR #[.slice A n cp,.slice (some ⟨b,0,none⟩) 1 1]).run prog w=.ok (.slice A' (n+1) tN) u/\
  Kept (fun j=>B<=j) w u/\uh (u.setCell (((⟨q,0,none⟩:Addr).add 0).add 33) (.slice A' (n+1) tN)) B q sm {c with merge:=c.merge++ [x]} ov A' (n+1) tN E e ce/\
  Kept (fun j=>j=q\/B<=j) w (u.setCell (((⟨q,0,none⟩:Addr).add 0).add 33) (.slice A' (n+1) tN))/\Wr u (((⟨q,0,none⟩:Addr).add 0).add 33):=by
 obtain⟨A',tN,u,hr,eV,hg,hA⟩:=fE aR h.mg (cx:=1) hb (by omega) hB;have ku:Kept (fun j=>B<=j) w u:=(Kept.refl _ _).grown hg fun j hj _=>(Row.bC h.mg hj).1;have kA:Kept (fun j=>aX A=some j) w u:=(Kept.refl _ _).grown hg fun j hj _=>hj;have qB:=h.qB;have sB:=h.sB;have hC:=ku.heap h.top (by omega);have zG:Row u B gP 1 E e ce (th c.gB):=Row.aG h.bl kA (fun j hj e=>h.AE j e hj);have mD:Kept (· =q) u (u.setCell (((⟨q,0,none⟩:Addr).add 0).add 33) (.slice A' (n+1) tN)):=by
  rw [add_zero,a7];exact Kept.setCell (S:=(· =q)) (Kept.refl _ u) (p:=⟨q,0+33,none⟩) (fun _=>rfl) _
 have jb: ∀ {X:Option Addr} {j:Nat},(∀k,aX X=some k->B<=k)->aX X=some j-> ¬j=q:=fun h hj e=>by have:=h _ hj;omega
 refine⟨A',tN,u,hr,ku,⟨?_,?_,?_,?_,qB,sB,h.qs,?_⟩,?_,?_⟩
 ·show(u.setCell (((⟨q,0,none⟩:Addr).add 0).add 33) (.slice A' (n+1) tN)).heap[q]? =_
  rw [add_zero,a7,cQ hC,rj];rfl
 ·exact Row.aG eV mD (fun j hj=>jb (fun k hk=>(Row.bC eV hk).1) hj)
 ·exact Row.aG zG mD (fun j hj=>jb (fun k hk=>(Row.bC zG hk).1) hj)
 ·exact(h.ov.aG ku (by omega)).aG mD (fun e=>h.qs e.symm)
 ·intro j hj he
  rcases hA j hj with h1|h1
  ·exact h.AE j h1 he
  ·have:=(h.UB j (.inr he)).2;omega
 ·exact(ku.mono fun _ _ h=>.inr h).trans mD (fun _ _ e=>.inl e)
 ·rw [add_zero,a7]
  exact dE hC (by rw [Array.size_append,bM];simp)
end
end Go.Proofs.YtnboahlopghcjaaGreatDoor
namespace Go.Proofs.YtnboahlopghcjaaGreatDoor
open Go.Proofs.Tryz
open Go Go.bp Go.RowKit
structure jt(w:World)(B q sm bb:Nat)(c:p8)(ov:HT->Option Nat)(A:Option Addr)(n cp:Nat)(E:Option Addr)(e ce:Nat):Prop where
 top:w.heap[q]? =some (.cells (dT c A n cp E e ce++ #[.map (some sm)]) cI (0,0))
 mg:HS w A n c.merge
 mA: ∀a,A=some a->a.block<B/\a.block≠q/\a.block≠sm/\a.block≠bb
 bl:Row w B gP 1 E e ce (th c.gB)
 ov:dA w sm (DM ov)
 qB:q<B
 sB:sm<B
 bB:bb<B
 qs:q≠sm/\q≠bb/\sm≠bb
section
variable{w w':World}{B q sm bb:Nat}{c:p8}{ov:HT->Option Nat}{A E:Option Addr}{n cp e ce:Nat}{K:Value->World->Prop}
theorem jt.aG{S:Nat->Prop}(h:jt w B q sm bb c ov A n cp E e ce)(hk:Kept S w w')(h1: ¬S q)(h2: ¬S sm)(h3: ∀j,B<=j->j<w.heap.size-> ¬S j)(h4: ∀a,A=some a-> ¬S a.block):jt w' B q sm bb c ov A n cp E e ce:=
 ⟨hk.heap h.top h1,h.mg.aG hk h4,h.mA,Row.aG h.bl hk (fun j hj=>by obtain⟨g1,cur,g2⟩:=Row.bC h.bl hj;exact h3 j g1 (aQ g2)),h.ov.aG hk h2,h.qB,h.sB,h.bB,h.qs⟩
theorem jt.same(h:jt w B q sm bb c ov A n cp E e ce)(hk:Kept Nil w w'):jt w' B q sm bb c ov A n cp E e ce:=h.aG hk (fun h=>h) (fun h=>h) (fun _ _ _ h=>h) (fun _ _ h=>h)
theorem jt.f32(h:jt w B q sm bb c ov A n cp E e ce):w.cell? (((⟨q,0,none⟩:Addr).add 0).add 32)=some (.int .u64 (c.score:Int)):=by rw [add_zero,a7,az h.top];exact(fz ..).1
theorem jt.f33(h:jt w B q sm bb c ov A n cp E e ce):w.cell? (((⟨q,0,none⟩:Addr).add 0).add 33)=some (.slice A n cp):=by rw [add_zero,a7,az h.top];exact(fz ..).2.1
theorem jt.f34(h:jt w B q sm bb c ov A n cp E e ce):w.cell? (((⟨q,0,none⟩:Addr).add 0).add 34)=some (.slice E e ce):=by rw [add_zero,a7,az h.top];exact(fz ..).2.2.1
theorem jt.f35(h:jt w B q sm bb c ov A n cp E e ce):w.cell? ((⟨q,0,none⟩:Addr).add 35)=some (.map (some sm)):=by rw [a7,az h.top];exact(fz ..).2.2.2
theorem jt.wr(h:jt w B q sm bb c ov A n cp E e ce){j:Nat}(hj:j<36):Wr w (((⟨q,0,none⟩:Addr).add 0).add j):=by
 rw [add_zero,a7];exact dE h.top (by rw [Array.size_append,bM];simp;omega)
theorem jt.KE{h:jt w B q sm bb c ov A n cp E e ce}(j:Nat)(v:Value):Kept (· =q) w (w.setCell (((⟨q,0,none⟩:Addr).add 0).add j) v):=by
 rw [add_zero,a7];exact Kept.setCell (S:=(· =q)) (Kept.refl _ w) (p:=⟨q,0+j,none⟩) (fun _=>rfl) _
theorem jt.KO(h:jt w B q sm bb c ov A n cp E e ce)(hB:B<=w.heap.size)(hn:e<=100000){x:Bool}{b:Nat}(hb:w.cell? ⟨b,0,none⟩=some (.bool x)):
 ∃E' ug u,(Builtin.append_ #[gS,gS] gS #[.slice E e ce,.slice (some ⟨b,0,none⟩) 1 1]).run prog w=.ok (.slice E' (e+1) ug) u/\
  Kept (fun j=>B<=j/\aX E=some j) w u/\Wr u (((⟨q,0,none⟩:Addr).add 0).add 34)/\
  jt (u.setCell (((⟨q,0,none⟩:Addr).add 0).add 34) (.slice E' (e+1) ug)) B q sm bb {c with gB:=c.gB++ [x]} ov A n cp E' (e+1) ug/\
  Kept (fun j=>j=q\/aX E=some j) w (u.setCell (((⟨q,0,none⟩:Addr).add 0).add 34) (.slice E' (e+1) ug))/\(∀j,aX E'=some j->aX E=some j\/w.heap.size<=j):=by
 obtain⟨E',ug,u,hr,eV,hg,hE⟩:=fT (P:=prog) (t:=gS) (bytes:=1) (ty:=gS) AT h.bl (a:=⟨b,0,none⟩) (m:=1) (cx:=1) (news:= [.bool x]) rfl (fun j v hj=>by
  cases j with
  |zero=>simp only [List.getElem?_cons_zero,Option.some.injEq]at hj;subst hj;rw [add_zero];exact hb
  |succ j=>simp at hj) (fun v hv=>by
  have:v=.bool x:=by simpa using hv
  subst this;rfl) (by omega) (by unfold maxLen;omega) hB
 have qB:=h.qB;have sB:=h.sB;have kE:Kept (fun j=>B<=j/\aX E=some j) w u:=(Kept.refl _ _).grown hg fun j hj _=>⟨(Row.bC h.bl hj).1,hj⟩;have hC:=kE.heap h.top (by omega);have mD:Kept (· =q) u (u.setCell (((⟨q,0,none⟩:Addr).add 0).add 34) (.slice E' (e+1) ug)):=by
  rw [add_zero,a7];exact Kept.setCell (S:=(· =q)) (Kept.refl _ u) (p:=⟨q,0+34,none⟩) (fun _=>rfl) _
 refine⟨E',ug,u,hr,kE,?_,⟨?_,?_,h.mA,?_,?_,qB,sB,h.bB,h.qs⟩,?_,hE⟩
 ·rw [add_zero,a7]
  exact dE hC (by rw [Array.size_append,bM];simp)
 ·show(u.setCell (((⟨q,0,none⟩:Addr).add 0).add 34) (.slice E' (e+1) ug)).heap[q]? =_
  rw [add_zero,a7,cQ hC,ri];rfl
 ·exact(h.mg.aG kE (fun a ha=>by have:=(h.mA a ha).1;omega)).aG mD (fun a ha=>(h.mA a ha).2.1)
 ·have e1:th (c.gB++ [x])=th c.gB++ [.bool x]:=by simp [th]
  show Row _ B gP 1 E' (e+1) ug (th (c.gB++ [x]))
  rw [e1];exact Row.aG eV mD (fun j hj=>by have:=(Row.bC eV hj).1;omega)
 ·exact(h.ov.aG kE (by omega)).aG mD (fun e=>h.qs.1 e.symm)
 ·exact(kE.mono fun _ _ h=>.inr h.2).trans mD (fun _ _ e=>.inl e)
theorem jt.P5(h:jt w B q sm bb c ov A n cp E e ce)(s:Nat):
 jt (w.setCell (((⟨q,0,none⟩:Addr).add 0).add 32) (.int .u64 (s:Int))) B q sm bb {c with score:=s} ov A n cp E e ce/\Kept (· =q) w (w.setCell (((⟨q,0,none⟩:Addr).add 0).add 32) (.int .u64 (s:Int))):=by
 have qB:=h.qB;have mD:=jt.KE (h:=h) 32 (.int .u64 (s:Int));refine⟨⟨?_,h.mg.aG mD (fun a ha=>(h.mA a ha).2.1),h.mA,Row.aG h.bl mD (fun j hj=>by have:=(Row.bC h.bl hj).1;omega),h.ov.aG mD (fun e=>h.qs.1 e.symm),h.qB,h.sB,h.bB,h.qs⟩,mD⟩;rw [add_zero,a7,cQ h.top,xl]
theorem jt.note(h:jt w B q sm bb c ov A n cp E e ce)(b:HT)(n0:Nat):
 ∃u,(Instr.mapUpdate bE (.map (some sm)) (.agg b.1) (.int .i64 (n0:Int))).run prog w=.ok () u/\jt u B q sm bb c (fun y=>if y=b then some n0 else ov y) A n cp E e ce/\Kept (· =sm) w u:=by
 have sB:=h.sB;obtain⟨u,hr,hm,hk⟩:=h.ov.put nW b (.int .i64 (n0:Int));refine⟨u,hr,⟨hk.heap h.top h.qs.1,h.mg.aG hk (fun a ha=>(h.mA a ha).2.2.1),h.mA,Row.aG h.bl hk (fun j hj=>by have:=(Row.bC h.bl hj).1;omega),?_,h.qB,h.sB,h.bB,h.qs⟩,hk⟩;have e1:DM (fun y=>if y=b then some n0 else ov y)=fun x=>if x=b then some (.int .i64 (n0:Int))else DM ov x:=by
  funext y
  unfold DM;by_cases e:y=b
  ·simp only [if_pos e,Option.map_some]
  ·simp only [if_neg e]
 rw [e1];exact hm
end
end Go.Proofs.YtnboahlopghcjaaGreatDoor
namespace Go.Proofs.YtnboahlopghcjaaGreatDoor
open Go.Proofs.Tryz
open Go Go.bp Go.RowKit
noncomputable def me(k:Nat)(G:GS)(s:HT)(l:List HT)(i:Nat):VS:=((b7 G s l).take i).foldl (mK k G.D) ⟨G.world s++ [s],[]⟩
structure V2(y v:World)(k:Nat)(G:GS)(s:HT)(l:List HT)(base:HT->Nat)(q sm bb:Nat)(A:Option Addr)(n cp i:Nat):Prop where
 ex: ∃(ov:HT->Option Nat) (E:Option Addr) (e ce:Nat) (Ab:Option Addr) (nb cb:Nat) (bl:List HT),
  jt v y.heap.size q sm bb ⟨s,G.score s+1+(me k G s l i).bl.count true,b7 G s l,(me k G s l i).bl⟩ ov A n cp E e ce/\
  v.heap[bb]? =some (.cells #[.slice Ab nb cb] aR (0,0))/\bQ v y.heap.size Ab nb cb bl/\(me k G s l i).wd=G.world s++ [s]++bl/\(∀j,aX Ab=some j->aX E≠some j)/\
  OV G.D (me k G s l i).wd ov base/\(me k G s l i).wd.Nodup/\(∀z∈bl,z∈(b7 G s l).take i)/\e=i
 kp:Kept (fun j=>j=q\/j=sm\/j=bb) y v
theorem jt.Bx{w w':World}{B q sm bb:Nat}{c:p8}{ov:HT->Option Nat}{A E:Option Addr}{n cp e ce:Nat}{S:Nat->Prop}(h:jt w B q sm bb c ov A n cp E e ce)(hk:Kept S w w')(h1: ¬S q)(h2: ¬S sm)(h3: ∀j,aX E=some j-> ¬S j)(h4: ∀a,A=some a-> ¬S a.block):jt w' B q sm bb c ov A n cp E e ce:=
 ⟨hk.heap h.top h1,h.mg.aG hk h4,h.mA,Row.aG h.bl hk h3,h.ov.aG hk h2,h.qB,h.sB,h.bB,h.qs⟩
theorem AF{k:Nat}{G:GS}{s:HT}{l:List HT}{i:Nat}{x:HT}(hx:(b7 G s l)[i]? =some x):me k G s l (i+1)=mK k G.D (me k G s l i) x:=by
 unfold me;have e:(b7 G s l).take (i+1)=(b7 G s l).take i++ [x]:=by rw [List.take_add_one,hx];rfl
 rw [e,List.foldl_append];rfl
theorem Dv(k:Nat)(G:GS)(s:HT)(l:List HT)(i:Nat)(hi:i<=(b7 G s l).length):(me k G s l i).bl.length=i:=by
 obtain⟨b,h1,h2⟩:=E9 k G.D (G.world s++ [s]) ((b7 G s l).take i);unfold me;rw [h2];show b.length=i
 rw [h1,List.length_take];omega
theorem Dw(k:Nat)(G:GS)(s:HT)(l:List HT):me k G s l (b7 G s l).length=eE k G s l:=by
 unfold me eE;rw [List.take_of_length_le (Nat.le_refl _)]
section
variable{y v w w':World}{F:Nat->Prop}{c k:Nat}{G:GS}{m:CM}{s:HT}{l ch:List HT}{bs bc bh q sm bb kb n cp:Nat}{A:Option Addr}{K:Value->World->Prop}
set_option maxHeartbeats 4000000 in
theorem v7(C:CV y F c k G m)(hD:G.D.length<=5000)(ue:k<=1000)(hs:s∈ids G.D)(hc:cj G.D G.P s ch)(hM: ∀x∈b7 G s l,x∈ids G.D)
 (V:VB y c s bs bc bh q sm (fun _=>none)) (F7:y.heap[kb]? =some (.cells #[.func (.func bk.id) #[] #[.pointer (some ⟨bs,0,none⟩),.pointer (some ⟨bc,0,none⟩),.pointer (some ⟨bh,0,none⟩)]] di (0,0)))
 (jb: ∀j,(m.own c j\/F j\/j=bs\/j=bc\/j=bh\/j=kb)->j≠q/\j≠sm/\j≠bb)
 (h0:V2 y y k G s l (ju m.sz ch) q sm bb A n cp 0) (hn:n<=5000)
 (hK: ∀v ov E e ce,jt v y.heap.size q sm bb (fg k G s l) ov A n cp E e ce->OV G.D (eE k G s l).wd ov (ju m.sz ch)->Kept (fun j=>j=q\/j=sm\/j=bb) y v->K (.pointer (some ⟨q,0,none⟩)) v):
 Holds none [] prog 153 (.loop (lB (bB (sR (sL (sR (sR (sR (sR (sR (sR (sR (sR (body ag.fn)))))))))))))) (ag.q2 K)
  [(3,.pointer (some ⟨bc,0,none⟩)),(6,.pointer none),(8,.pointer (some ⟨bs,0,none⟩)),(11,.pointer (some ⟨bb,0,none⟩)),(12,.func (.func ae.id) #[] #[.pointer (some ⟨bb,0,none⟩),.pointer (some ⟨bc,0,none⟩),.pointer (some ⟨bh,0,none⟩)]),(13,.pointer (some ⟨kb,0,none⟩)),(92,.slice A n cp),(93,.int .i64 (n:Int)),(94,.int .i64 0)] y:=by
 have W:=C.gN.W;have ZF:(b7 G s l).Nodup:=(jW G s l).nodup;have MF:(b7 G s l).length=n:=by obtain⟨_,_,_,_,_,_,_,_,h,_⟩:=h0.ex;exact h.mg.len
 have Yc:=aQ V.hs;have Ye:=aQ V.hc;have Yd:=aQ V.hh;have lkb:=aQ F7;have Px:=jb bs (.inr (.inr (.inl rfl)));have Pz:=jb bc (.inr (.inr (.inr (.inl rfl))));have Py:=jb bh (.inr (.inr (.inr (.inr (.inl rfl)))));have fkb:=jb kb (.inr (.inr (.inr (.inr (.inr rfl)))));refine ag.gz (I:=fun s0 v=> ∃i:Nat,s0=(i:Int)/\i<=n/\V2 y v k G s l (ju m.sz ch) q sm bb A n cp i) (μ:=fun s0 _=>((n:Int)-s0).toNat) (s:=0) ⟨0,rfl,Nat.zero_le _,h0⟩ ?_;rintro s0 v ⟨i,rfl,hi,hV⟩;obtain⟨ov,E,e,ce,Ab,nb,cb,bl,hS,zI,eV,JG,WU,hO,fG,qO,Wo⟩:=hV.ex;have kv:=hV.kp;have sv:=kv.size;refine Split.dec (fun jE=>?_) (fun iy=>?_)
 ·have eI:i<n:=by omega
  obtain⟨x,hx⟩: ∃x,(b7 G s l)[i]? =some x:=⟨_,List.getElem?_eq_getElem (by omega)⟩;have JF:=hM x (List.mem_of_getElem? hx);have VC:x∉(me k G s l i).wd:=by
   rw [JG];intro hm;obtain⟨_,g1,g2⟩:=gM.1 (List.mem_of_getElem? hx);rcases List.mem_append.1 hm with hm|hm
   ·rcases List.mem_append.1 hm with hm|hm
    ·exact g2 ((C.gN.wd s hs).2.1 x hm)
    ·exact g1 (by simpa using hm)
   ·have h1:=qO x hm
    obtain⟨j,hj⟩:=List.mem_iff_getElem?.1 h1;rw [List.getElem?_take]at hj;split at hj
    ·rename_i Dh
     have h2:=(List.getElem?_eq_some_iff.1 hj);have h3:=(List.getElem?_eq_some_iff.1 hx);have:=(List.getElem_inj ZF).1 (h2.2.trans h3.2.symm);omega
    ·cases hj
  have pI:=AF (k:=k) hx;refine hS.mg.load (i:=(i:Int)) (by omega) hx ?_;intro jJ;obtain⟨nt,ij,ig⟩:=dU (w:=v) (z:=bI.1) (cs:=x.1) (t:=ao) (by rw [x.2.1];rfl);refine⟨⟨x.2.1,x.2.one,fun j hj=>nt j (by rw [x.2.1];exact hj)⟩,?_⟩;intro iW
  replace ij:iW.heap[v.heap.size]? =some (.cells x.1 ao (0,0)):=ij
  replace ig:Kept Nil v iW:=ig
  clear_value iW;intro kF gD;have pU:Kept Nil iW kF:=(Kept.refl _ _).alloc _;have My:dA kF iW.heap.size (fun _=>none):=dA.new iW;have nC:Kept Nil kF gD:=(Kept.refl _ _).alloc _;have Iz:gD.heap[kF.heap.size]? =some (.cells #[.map none] bE (0,0)):=aN kF _;refine⟨dE Iz (by simp),?_⟩;intro rN;have Nc:rN.heap[kF.heap.size]? =some (.cells #[.map (some iW.heap.size)] bE (0,0)):=by
   show(gD.setCell ⟨kF.heap.size,0,none⟩ (.map (some iW.heap.size))).heap[kF.heap.size]? =_;rw [cQ Iz 0];rfl
  have BI:Kept (· =kF.heap.size) gD rN:=Kept.setCell (S:=(· =kF.heap.size)) (Kept.refl _ gD) (p:=⟨kF.heap.size,0,none⟩) (fun _=>rfl) _;clear_value rN;have s14:=ig.size;have s15:=pU.size;have l14:=aQ ij;have l15:=My.lt;have l16:=aQ Iz;have BL:Kept Nil iW rN:=⟨BI.os.trans (pU.trans nC (fun _ _ h=>h)).os,BI.tape.trans (pU.trans nC (fun _ _ h=>h)).tape,BI.output.trans (pU.trans nC (fun _ _ h=>h)).output,Nat.le_trans (pU.trans nC (fun _ _ h=>h)).size BI.size,fun j hj hn=>by rw [BI.block j (Nat.lt_of_lt_of_le hj (pU.trans nC (fun _ _ h=>h)).size) (by omega),(pU.trans nC (fun _ _ h=>h)).block j hj hn]⟩;have R5:dA rN iW.heap.size (fun _=>none):=(My.same nC).aG BI (by omega);have Gf:=BL.heap ij (fun h=>h);clear_value gD kF;have DY:Kept Nil v rN:=ig.trans BL (fun _ _ h=>h);have zl:Kept (fun j=>j=q\/j=sm\/j=bb) y rN:=kv.trans DY (fun _ _ h=>h.elim);have IV:=hS.same DY;have C17:CV rN F c k G m:=C.aG zl (fun j hj e=>by have:=jb j (.inl hj);omega) (fun j hj e=>by have:=jb j (.inr (.inl hj));omega);have V17:VB rN c s bs bc bh q sm ov:=⟨zl.heap V.hs (by omega),zl.heap V.hc (by omega),zl.heap V.hh (by omega),IV.f35,IV.ov⟩;have MN:=zl.heap F7 (by omega);have BZ:bQ rN y.heap.size Ab nb cb bl:=Row.aG eV DY (fun _ _ h=>h);have Gn:=DY.heap zI (fun h=>h);refine⟨x.1,⟨x.2.1,Cells.bC Gf⟩,?_⟩;have qB:=hS.qB;have sB:=hS.sB;have bB:=hS.bB;have Ct: ∀b∈(me k G s l i).wd,nY ov (ju m.sz ch) b=(bA G.D (me k G s l i).wd b).length:=hO.kn;have qQ:=fG;rw [JG]at qQ;obtain⟨c1,c2,c3⟩:=EX C.gN (h:=x) hs hc qQ;rw [<-JG]at c2 c3
  have Ns:=eV.len;have Mn:nb<=5000:=by
   have h1:=dC (m:=b7 G s l) (List.nodup_append.1 qQ).2.1 (fun z hz=>List.mem_of_mem_take (qO z hz));omega
  have IZ: ∀a,Ab=some a->a.block<iW.heap.size:=fun a ha=>by
   subst ha;obtain⟨_,cur,h1⟩:=Row.bC eV (k:=a.block) rfl;have:=aQ h1;omega
  refine vr (p:=⟨bs,bc,bh,q,sm,kb,kF.heap.size,iW.heap.size,0,0⟩) ⟨C17,V17,MN,Nc,(fun e=>by have:iW.heap.size<y.heap.size:=C.low _ (.inl e);omega),(fun e=>by have:iW.heap.size<y.heap.size:=C.low _ (.inr e);omega),(show bs≠iW.heap.size/\bc≠iW.heap.size/\bh≠iW.heap.size/\q≠iW.heap.size/\sm≠iW.heap.size/\kb≠iW.heap.size/\kF.heap.size≠iW.heap.size from⟨by omega,by omega,by omega,by omega,by omega,by omega,by omega⟩)⟩ hD ue hs hc (h:=x) Gn (by show bb≠iW.heap.size;omega) BZ.hs (fun a ha=>by have:=IZ a ha;show a.block≠iW.heap.size;omega) (by omega) (by
   show dA rN iW.heap.size _
   have e0:(fun y=>if y∈([]:List HT)then some (Value.int .i64 (nY ov (ju m.sz ch) y:Int))else none)=fun _=>none:=by funext y;simp
   rw [e0];exact R5) c1 fun xG r hr hFr ub=>⟨r,rfl,?_⟩
  replace ub:Kept (· =iW.heap.size) rN xG:=ub
  have Gh:r=ou k G.D (me k G s l i).wd x:=by rw [hr];exact CQ Ct c2 c3
  have NX: ∀j,aX E=some j->y.heap.size<=j/\j<v.heap.size:=fun j hj=>by obtain⟨g1,cur,g2⟩:=Row.bC hS.bl hj;exact⟨g1,aQ g2⟩
  have CA: ∀j,aX Ab=some j->y.heap.size<=j/\j<v.heap.size:=fun j hj=>by obtain⟨g1,cur,g2⟩:=Row.bC eV hj;exact⟨g1,aQ g2⟩
  have s17:=BL.size;have TB:=IV.Bx ub (by omega) (by omega) (fun j hj=>by have:=NX j hj;omega) (fun a ha=>by have:=(hS.mA a ha).1;omega);have H3:bQ xG y.heap.size Ab nb cb bl:=Row.aG BZ ub (fun j hj=>by have:=CA j hj;omega);have DW:Kept (fun j=>j=q\/j=sm\/j=bb) y xG:=zl.trans ub (fun j hj e=>by omega);have Nx:=ub.heap Gn (by omega);have Np:=ub.heap Gf (by omega);have SB:=ub.heap Nc (by omega);intro um;have BG:Kept Nil xG um:=(Kept.refl _ _).drew;clear_value um;have Cy:=TB.same BG;have uZ:=DW.trans BG (fun _ _ h=>h.elim);have vi: ∀ {u:World} {S:Nat->Prop},Kept S y u-> ¬S bs->u.cell? ⟨bs,0,none⟩=some (.pointer (some ⟨q,0,none⟩)):=fun ku hb=>by rw [az (ku.heap V.hs hb)];rfl
  have Fh: ¬(bs=q\/bs=sm\/bs=bb):=by omega
  have s21:=uZ.size;refine⟨_,vi uZ Fh,_,vi uZ Fh,E,e,ce,Cy.f34,?_⟩;intro jc;have pH:Kept Nil um jc:=(Kept.refl _ _).alloc _;have EF:jc.heap[um.heap.size]? =some (.cells #[.bool r] gP (0,0)):=aN um _;clear_value jc;have Cx:=Cy.same pH;have qJ:=uZ.trans pH (fun _ _ h=>h.elim);have Qb:=qJ.size;obtain⟨E',ug,u,LP,kE,Q0,Cw,k5,hE5⟩:=Cx.KO (by omega) (by omega) (x:=r) (b:=um.heap.size) (by rw [az EF];rfl);have Qp:Kept (fun j=>j=q\/j=sm\/j=bb) y u:=qJ.trans kE (fun j hj e=>by have:=NX j e.2;omega);refine⟨Cx.f34,vi qJ Fh,vi qJ Fh,E',e+1,ug,u,LP,vi Qp Fh,Q0,?_⟩;intro rL
  replace Cw:jt rL y.heap.size q sm bb _ ov A n cp E' (e+1) ug:=Cw
  replace k5:Kept (fun j=>j=q\/aX E=some j) jc rL:=k5
  clear_value rL;have Hg:Kept (fun j=>j=q\/j=sm\/j=bb) y rL:=qJ.trans k5 (fun j hj e=>by
   rcases e with e|e
   ·exact .inl e
   ·have:=NX j e;omega)
  have BH:Kept (fun j=>j=q\/aX E=some j) xG rL:=((BG.trans pH (fun _ _ h=>h)).mono fun _ _ h=>h.elim).trans k5 (fun _ _ h=>h);have UR:=(BG.trans pH (fun _ _ h=>h)).size;have s20:=ub.size;have BY:bQ rL y.heap.size Ab nb cb bl:=Row.aG H3 BH (fun j hj e=>by
   have:=CA j hj;rcases e with e|e
   ·omega
   ·exact WU j hj e)
  have Gm:=BH.heap Nx (fun e=>by
   rcases e with e|e
   ·exact hS.qs.2.1 e.symm
   ·have:=NX bb e;omega)
  have I0: ∀j,aX Ab=some j->aX E'≠some j:=fun j hj he=>by
   rcases hE5 j he with h1|h1
   ·exact WU j hj h1
   ·have:=CA j hj;omega
  have FI: ∀z∈bl,z∈(b7 G s l).take (i+1):=fun z hz=>by
   have h1:=qO z hz;rw [List.take_add_one];exact List.mem_append_left _ h1
  cases r with
  |false=>
   refine Split.yes rfl ?_;rw [e8 (n:=(i:Int)) (by omega) (by omega)];have tB:me k G s l (i+1)=⟨(me k G s l i).wd,(me k G s l i).bl++ [false]⟩:=by rw [pI,mK,<-Gh];rfl
   refine⟨(i:Int)+1,rfl,⟨i+1,rfl,eI,⟨ov,E',e+1,ug,Ab,nb,cb,bl,?_,Gm,BY,?_,I0,?_,?_,FI,by omega⟩,Hg⟩,by simp only;omega⟩
   ·rw [tB]
    simpa [List.count_append]using Cw
   ·rw [tB];exact JG
   ·rw [tB];exact hO
   ·rw [tB];exact fG
  |true=>
   refine Split.no rfl ?_;have IX:=hFr rfl
   replace IX:tZ xG iW.heap.size (nY ov (ju m.sz ch)) (kL G x bl ch):=IX
   have dw:=(lZ.1 hr.symm).2;have tH:=dC (m:=ids G.D) c1 (fun z hz=>by
    have h1:=(dv.1 ((c3 z).1 hz)).1;rw [JG]at h1;rcases List.mem_append.1 h1 with h1|h1
    ·rcases List.mem_append.1 h1 with h1|h1
     ·exact(((C.gN.wd s hs).2.1 z h1).mem W).1
     ·have:z=s:=by simpa using h1
      subst this;exact hs
    ·exact hM z (List.mem_of_mem_take (qO z h1)))
   rw [iF]at tH;generalize gE:kL G x bl ch=hZ at*;generalize Sc:nY ov (ju m.sz ch)=kn at*;have HV:G.score s<=5000:=by
    have h1:=(C.gN.wd s hs).2.2;have h2:=dC (m:=ids G.D) (C.gN.wd s hs).1 (fun b hb=>(((C.gN.wd s hs).2.1 b hb).mem W).1);rw [iF]at h2;omega
   have SK:(me k G s l i).bl.count true<=5000:=by
    have h1:=List.count_le_length (a:=true) (l:=(me k G s l i).bl);rw [Dv k G s l i (by omega)]at h1;omega
   generalize Ah:G.score s+1+(me k G s l i).bl.count true=sc at*;have ew:IntKind.u64.wrap ((sc:Int)+(1:Int))=((sc+1:Nat):Int):=by
    rw [show(sc:Int)+1=((sc+1:Nat):Int)by omega];exact iC (by omega)
   refine⟨_,vi Hg Fh,_,Cw.f32,Cw.wr (by omega),?_⟩;intro sq rK;have Tz:jt sq y.heap.size q sm bb ⟨s,sc+1,b7 G s l,(me k G s l i).bl++ [true]⟩ ov A n cp E' (e+1) ug:=by
    show jt (rL.setCell (((⟨q,0,none⟩:Addr).add 0).add 32) (.int .u64 (IntKind.u64.wrap ((sc:Int)+(1:Int))))) _ _ _ _ _ _ _ _ _ _ _ _
    rw [ew];exact(Cw.P5 (sc+1)).1
   have Fq:Kept (· =q) rL sq:=jt.KE (h:=Cw) 32 _;have BD:Kept Nil sq rK:=(Kept.refl _ _).drew;clear_value rK sq;have wY:=Tz.same BD;have x4:Kept (· =q) rL rK:=Fq.trans BD (fun _ _ h=>h.elim);have uY:=Hg.trans x4 (fun j hj e=>.inl e);have x5:Kept (fun j=>j=q\/aX E=some j) xG rK:=BH.trans x4 (fun j hj e=>.inl e);have CH: ∀j,v.heap.size<=j-> ¬(j=q\/aX E=some j):=fun j hj e=>by
    rcases e with e|e
    ·omega
    ·have:=NX j e;omega
   have Ge:=x5.heap Np (CH _ (Nat.le_refl _));have Nb:=x5.heap SB (CH _ (by omega));have NW:tZ rK iW.heap.size kn hZ:=IX.aG x5 (CH _ (by omega));have Im: ∀z,(if z∈hZ then some (Value.int .i64 (kn z:Int))else none)≠none↔z∈hZ:=fun z=>by
    by_cases hz:z∈hZ
    ·rw [if_pos hz];exact⟨fun _=>hz,fun _ e=>by cases e⟩
    ·rw [if_neg hz];exact⟨fun e=>absurd rfl e,fun e=>absurd e hz⟩
   obtain⟨rJ,Rs,NN,rC⟩:=wY.note x hZ.length;have XI:=x5.size;have Qr:=uY.trans rC (fun j hj e=>.inr (.inl e));have TI:tZ rJ iW.heap.size kn hZ:=NW.aG rC (by omega);have SA:=rC.heap Nb (by omega);have No:=rC.heap Ge (by omega);have HY:bQ rJ y.heap.size Ab nb cb bl:=Row.aG (Row.aG BY x4 (fun j hj e=>by have:=CA j hj;omega)) rC (fun j hj e=>by have:=CA j hj;omega);have Nv:=rC.heap (x4.heap Gm (fun e=>hS.qs.2.1 e.symm)) (fun e=>hS.qs.2.2 e.symm);obtain⟨UK,vV,Rr,hit,JA⟩:=TI.range nW;have UP:=rC.size;have s38:=JA.size;refine⟨_,vi uY Fh,some sm,wY.f35,x.1,⟨x.2.1,Cells.bC Ge⟩,some iW.heap.size,by rw [az Nb];rfl,hZ.length,NW.len nW gC c1 Im,rJ,Rs,some iW.heap.size,by rw [az SA];rfl,_,UK,Rr,?_⟩;refine ag.uU (I:=fun _ u=> ∃left vV Fg,kM u iW.heap.size rJ.heap.size (fun z=>if z∈hZ then some (Value.int .i64 (kn z:Int))else none) left vV/\jt u y.heap.size q sm bb ⟨s,sc+1,b7 G s l,(me k G s l i).bl++ [true]⟩ Fg A n cp E' (e+1) ug/\
    (∀z,(left z->z∈hZ)/\(z∈hZ-> ¬left z->Fg z=some (kn z+1))/\((z∉hZ\/left z)->Fg z=if z=x then some hZ.length else ov z))/\Kept (fun j=>j=sm\/j=rJ.heap.size) UK u) (μ:=fun _ u=>u.rangeLeft iW.heap.size rJ.heap.size) (s:=())
    ⟨_,vV,_,hit,NN.same JA,fun z=>⟨fun hz=>(Im z).1 hz,fun hz hl=>absurd ((Im z).2 hz) hl,fun _=>rfl⟩,Kept.refl _ _⟩ ?_
   rintro s1 u3 ⟨left,abl,Fg,Ik,IU,hinv,ku⟩;have su3:=ku.size;have lit:=Ik.lt;have Vd:Kept (fun j=>j=q\/j=sm\/j=bb) y u3:=(Qr.trans JA (fun _ _ h=>h.elim)).trans ku (fun j hj e=>by
    rcases e with e|e
    ·exact .inr (.inl e)
    ·omega)
   rcases Ik.next 0 with⟨h0',Mi,jw⟩|⟨z,val,u4,Uc,hl,Sw,jw,SD,Se,ck,k4⟩
   ·refine .inl ⟨u3,jw,?_⟩
    rw [aP,ag.Aw];unfold ag.xz;have Nw:=ku.heap (JA.heap Nv (fun h=>h)) (by have:=hS.qs;omega);have zF:=ku.heap (JA.heap No (fun h=>h)) (by omega);have LQ:bQ u3 y.heap.size Ab nb cb bl:=Row.aG (Row.aG HY JA (fun _ _ h=>h)) ku (fun j hj e=>by have:=CA j hj;omega);refine⟨Ab,nb,cb,by rw [az Nw];rfl,x.1,⟨x.2.1,Cells.bC zF⟩,x.2.1,?_⟩;intro C7;have Jz:Kept Nil u3 C7:=(Kept.refl _ _).alloc _;have QW:HS C7 (some ⟨u3.heap.size,0,none⟩) 1 [x]:=kV u3 x;clear_value C7;have s50:=Jz.size;have HW:bQ C7 y.heap.size Ab nb cb bl:=Row.aG LQ Jz (fun _ _ h=>h);obtain⟨A6,c6,Az,H5,Fc,g51,TN⟩:=fE aR HW (cx:=1) QW (by omega) (by omega);have OW:Kept (fun j=>aX Ab=some j) C7 Az:=(Kept.refl _ _).grown g51 fun j hj _=>hj;have Gl:=OW.heap (Jz.heap Nw (fun h=>h)) (fun e=>by have:=CA bb e;omega);refine⟨A6,nb+1,c6,Az,H5,dE Gl (by simp),?_⟩;intro E6;have Nu:E6.heap[bb]? =some (.cells #[.slice A6 (nb+1) c6] aR (0,0)):=by
     show(Az.setCell ⟨bb,0,none⟩ (.slice A6 (nb+1) c6)).heap[bb]? =_;rw [cQ Gl 0];rfl
    have BA:Kept (· =bb) Az E6:=Kept.setCell (S:=(· =bb)) (Kept.refl _ Az) (p:=⟨bb,0,none⟩) (fun _=>rfl) _;clear_value E6;have rW:Kept (fun j=>aX Ab=some j\/j=bb) u3 E6:=((Jz.mono fun _ _ h=>h.elim).trans OW (fun _ _ h=>.inl h):Kept (fun j=>aX Ab=some j\/j=bb) u3 Az).trans BA (fun _ _ h=>.inr h);have Ty:jt E6 y.heap.size q sm bb ⟨s,sc+1,b7 G s l,(me k G s l i).bl++ [true]⟩ Fg A n cp E' (e+1) ug:=IU.Bx rW
     (fun e=>e.elim (fun e=>by have:=CA q e;omega) (fun e=>hS.qs.2.1 e)) (fun e=>e.elim (fun e=>by have:=CA sm e;omega) (fun e=>hS.qs.2.2 e))
     (fun j hj e=>e.elim (fun e=>I0 j e hj) (fun e=>by have:=(Row.bC IU.bl hj).1;omega)) (fun a ha e=>e.elim (fun e=>by have:=CA _ e;have:=(hS.mA a ha).1;omega) (fun e=>(hS.mA a ha).2.2.2 e))
    have o7:bQ E6 y.heap.size A6 (nb+1) c6 (bl++ [x]):=Row.aG Fc BA (fun j hj e=>by have:=(Row.bC Fc hj).1;omega);rw [e8 (n:=(i:Int)) (by omega) (by omega)];have tB:me k G s l (i+1)=⟨(me k G s l i).wd++ [x],(me k G s l i).bl++ [true]⟩:=by rw [pI,mK,<-Gh];rfl
    have RJ:Fg=uL G.D (me k G s l i).wd ov (ju m.sz ch) x:=by
     funext z
     unfold uL;rw [Sc];by_cases hz:z∈hZ
     ·rw [if_pos ((c3 z).1 hz)]
      exact(hinv z).2.1 hz (Mi z)
     ·rw [if_neg (fun e=>hz ((c3 z).2 e)),(hinv z).2.2 (.inl hz),c2]
    refine⟨(i:Int)+1,rfl,⟨i+1,rfl,eI,⟨Fg,E',e+1,ug,A6,nb+1,c6,bl++ [x],?_,Nu,o7,?_,?_,?_,?_,?_,by omega⟩,?_⟩,by simp only;omega⟩
    ·rw [tB]
     have ec:G.score s+1+((me k G s l i).bl++ [true]).count true=sc+1:=by rw [List.count_append,<-Ah];simp;omega
     show jt E6 y.heap.size q sm bb ⟨s,G.score s+1+((me k G s l i).bl++ [true]).count true,b7 G s l,(me k G s l i).bl++ [true]⟩ Fg A n cp E' (e+1) ug
     rw [ec];exact Ty
    ·rw [tB]
     show(me k G s l i).wd++ [x]=_;rw [JG,List.append_assoc]
    ·intro j hj he
     rcases TN j hj with h1|h1
     ·exact I0 j h1 he
     ·obtain⟨_,cur,h2⟩:=Row.bC IU.bl he
      have:=aQ h2;omega
    ·rw [tB,RJ]
     exact hO.step VC
    ·rw [tB]
     exact List.nodup_append.2 ⟨fG,by simp,fun a ha b hb e=>by
      have:b=x:=by simpa using hb
      subst this;subst e;exact VC ha⟩
    ·intro z hz
     rcases List.mem_append.1 hz with hz|hz
     ·exact FI z hz
     ·have:z=x:=by simpa using hz
      subst this;rw [List.take_add_one,hx];simp
    ·exact Vd.trans rW (fun j hj e=>by
      rcases e with e|e
      ·have:=CA j e;omega
      ·exact .inr (.inr e))
   ·have QT:=(hinv z).1 hl
    rw [if_pos QT]at Sw;cases Sw;have hkz:=dw z QT;refine .inr ⟨_,_,u4,jw,z.1,(kn z:Int),SD,?_⟩;intro C6;obtain⟨HM,vo,oU⟩:=dU (w:=u4) (z:=bI.1) (cs:=z.1) (t:=ao) (by rw [z.2.1];rfl);refine⟨⟨z.2.1,z.2.one,fun j hj=>HM j (by rw [z.2.1];exact hj)⟩,?_⟩;intro OJ Jl
    replace vo:OJ.heap[u4.heap.size]? =some (.cells z.1 ao (0,0)):=vo
    replace oU:Kept Nil u4 OJ:=oU
    have OS:Kept Nil OJ Jl:=(Kept.refl _ _).drew;clear_value Jl OJ;have Td:=OS.heap vo (fun h=>h);have Fp:=oU.trans OS (fun _ _ h=>h);have xX:Kept (· =rJ.heap.size) u3 Jl:=k4.trans Fp (fun _ _ h=>h.elim);have hE3: ∀j,aX E'=some j->j≠rJ.heap.size:=fun j hj e=>by
     obtain⟨_,cur,h2⟩:=Row.bC NN.bl hj;have:=aQ h2;omega
    have NK:=IU.Bx xX (by omega) (by omega) (fun j hj e=>hE3 j hj e) (fun a ha e=>by have:=(hS.mA a ha).1;omega);have Qq:Kept (fun j=>j=q\/j=sm\/j=bb) y Jl:=Vd.trans xX (fun j hj e=>by omega);have F8:=Se.aG Fp (fun h=>h) (fun h=>h);obtain⟨yI,LX,NO,wG⟩:=NK.note z (kn z+1);have ekz:IntKind.i64.wrap ((kn z:Int)+(1:Int))=((kn z+1:Nat):Int):=by rw [e8 (n:=(kn z:Int)) (by omega) (by omega)];omega
    have s3:=xX.size;refine⟨_,vi Qq Fh,some sm,NK.f35,z.1,⟨z.2.1,Cells.bC Td⟩,yI,by rw [ekz];exact LX,?_⟩;refine⟨(),rfl,⟨_,Uc,_,F8.aG wG (by omega) (by omega),NO,fun y'=>?_,?_⟩,?_⟩
    ·obtain⟨i1,i2,i3⟩:=hinv y'
     refine⟨fun h=>i1 h.1,fun h1 h2=>?_,fun h=>?_⟩
     ·by_cases e:y'=z
      ·subst e;simp only [if_true]
      ·simp only [if_neg e]
       exact i2 h1 (fun h=>h2 ⟨h,e⟩)
     ·have e:y'≠z:=by
       rcases h with h|h
       ·exact fun e=>h (by rw [e];exact QT)
       ·exact h.2
      simp only [if_neg e];exact i3 (h.imp_right fun h=>h.1)
    ·exact(ku.trans xX (fun j hj e=>.inr e)).trans wG (fun j hj e=>.inl e)
    ·show yI.rangeLeft iW.heap.size rJ.heap.size<u3.rangeLeft iW.heap.size rJ.heap.size
     rw [Ik.left_eq,(F8.aG wG (by omega) (by omega)).left_eq];exact ck
 ·rw [aP,ag.jI]
  have:i=n:=by omega
  subst this;have e1:=Dw k G s l;rw [MF]at e1;rw [e1]at hS hO;have Y0:v.heap[bs]? =some (.cells #[.pointer (some ⟨q,0,none⟩)] df (0,0)):=kv.heap V.hs (by omega);exact⟨some ⟨q,0,none⟩,by rw [az Y0];rfl,hK v ov E e ce hS hO kv⟩
end
end Go.Proofs.YtnboahlopghcjaaGreatDoor
namespace Go.Proofs.YtnboahlopghcjaaGreatDoor
open Go.Proofs.Tryz
open Go Go.bp Go.RowKit
def yw(N:Nat):Prop:= ∀ {w:World} {F:Nat->Prop} {c k:Nat} {G:GS} {m:CM} {B:Nat} {A:Option Addr} {n cx:Nat} {l:List HT} {K:Value->World->Prop},CV w F c k G m->bQ w B A n cx l->n<=N->l.Nodup->(∀x∈l,x∈ids G.D)->
 (∀j,aX A=some j-> ¬m.own c j/\ ¬F j)->(∀l' w',SO G l'->(∀x,x∈l'↔x∈l)->bQ w' B A n cx l'->Kept (fun j=>aX A=some j) w w'->K (.tuple #[]) w')->
 aY prog fH.id #[.slice A n cx,.func (.func aS.id) #[.pointer (some ⟨c,0,none⟩)] #[]] w K
section
variable{y v w w':World}{F:Nat->Prop}{c k:Nat}{G:GS}{m:CM}{s:HT}{l ch:List HT}{bs bc bh q sm nL cL:Nat}{AL:Option Addr}{K:Value->World->Prop}
set_option maxHeartbeats 4000000 in
theorem v8{N:Nat}(vh:yw N)(hN:(pG G.D s l).length<=N)(C:CV y F c k G m)(hD:G.D.length<=5000)(ue:k<=1000)(hs:s∈ids G.D)(hc:cj G.D G.P s ch)(hl: ∀x∈l,x∈ids G.D)
 (V:VB y c s bs bc bh q sm (fun _=>none)) (hS:uh y y.heap.size q sm ⟨s,G.score s+1,[],[]⟩ (fun _=>none) none 0 0 none 0 0)
 (hL:HS y AL nL (cX (dM G.D l++l))) (hAL: ∀a,AL=some a->a.block≠q)
 (jb: ∀j,(m.own c j\/F j\/j=bs\/j=bc\/j=bh)->j≠q/\j≠sm)
 (hK: ∀v B bb ov A n cp E e ce,jt v B q sm bb (fg k G s l) ov A n cp E e ce->OV G.D (eE k G s l).wd ov (ju m.sz ch)->(∀a,A=some a->y.heap.size<=a.block)->(y.heap.size<=B/\B<=v.heap.size)->Kept (fun j=>j=q\/j=sm) y v->K (.pointer (some ⟨q,0,none⟩)) v):
 Holds none [] prog 153 (.loop (lB (bB (sR (sL (sR (sR (sR (body ag.fn))))))))) (ag.q1 K)
  [(3,.pointer (some ⟨bc,0,none⟩)),(4,.pointer (some ⟨bh,0,none⟩)),(6,.pointer none),(8,.pointer (some ⟨bs,0,none⟩)),(46,.slice AL nL cL),(47,.int .i64 (nL:Int)),(48,.int .i64 0)] y:=by
 have W:=C.gN.W;have Yc:=aQ V.hs;have Ye:=aQ V.hc;have Yd:=aQ V.hh;have Px:=jb bs (.inr (.inr (.inl rfl)));have Pz:=jb bc (.inr (.inr (.inr (.inl rfl))));have Py:=jb bh (.inr (.inr (.inr (.inr rfl))));have WR:=hL.len;have TC: ∀x∈cX (dM G.D l++l),x∈ids G.D:=fun x hx=>by
  rcases List.mem_append.1 (c9.1 hx)with h|h
  ·exact(iK.1 h).1
  ·exact hl x h
 have hLn:nL<=5000:=by
  have:=dC (gv _).nodup TC;rw [iF]at this;omega
 generalize hLL:cX (dM G.D l++l)=L at*;refine ag.bU (I:=fun s0 v=> ∃i:Nat,s0=(i:Int)/\i<=nL/\(∃A n cp,uh v y.heap.size q sm ⟨s,G.score s+1,(L.take i).filter fun h=>decide (h≠s/\ ¬eB G.D h s),[]⟩ (fun _=>none) A n cp none 0 0)/\Kept (· =q) y v) (μ:=fun s0 _=>((nL:Int)-s0).toNat) (s:=0) ⟨0,rfl,Nat.zero_le _,⟨none,0,0,hS⟩,Kept.refl _ _⟩ ?_;rintro s0 v ⟨i,rfl,hi,⟨A,n,cp,EI⟩,kv⟩;have sv:=kv.size;have MG:=bQ.len EI.mg;have Zz:n<=5000:=by
  have h1:=List.length_filter_le (fun h=>decide (h≠s/\ ¬eB G.D h s)) (L.take i);have h2:=List.length_take_le i L;have h3:((L.take i).filter fun h=>decide (h≠s/\ ¬eB G.D h s)).length=n:=MG;omega
 refine Split.dec (fun jE=>?_) (fun iy=>?_)
 ·have eI:i<nL:=by omega
  obtain⟨x,hx⟩: ∃x,L[i]? =some x:=⟨_,List.getElem?_eq_getElem (by omega)⟩;have T3:L.take (i+1)=L.take i++ [x]:=by rw [List.take_add_one,hx];rfl
  have hLv:HS v AL nL L:=hL.aG kv hAL;refine hLv.load (i:=(i:Int)) (by omega) hx ?_;intro jJ;obtain⟨nt,ij,ig⟩:=dU (w:=v) (z:=bI.1) (cs:=x.1) (t:=ao) (by rw [x.2.1];rfl);refine⟨⟨x.2.1,x.2.one,fun j hj=>nt j (by rw [x.2.1];exact hj)⟩,?_⟩;intro iW kF
  replace ij:iW.heap[v.heap.size]? =some (.cells x.1 ao (0,0)):=ij
  replace ig:Kept Nil v iW:=ig
  have pU:Kept Nil iW kF:=(Kept.refl _ _).drew;clear_value kF iW;have Cq:=pU.heap ij (fun h=>h);have Hi:=ig.trans pU (fun _ _ h=>h);have zm:Kept (· =q) y kF:=kv.trans Hi (fun _ _ h=>h.elim);have Xs:CV kF F c k G m:=C.aG zm (fun j hj e=>(jb j (.inl hj)).1 e) (fun j hj e=>(jb j (.inr (.inl hj))).1 e);have hcy: ∀ {u:World},Kept (· =q) y u->u.cell? ⟨bc,0,none⟩=some (.pointer (some ⟨c,0,none⟩)):=fun ku=>by rw [az (ku.heap V.hc Pz.1)];rfl
  have LL: ∀ {u:World},Kept (· =q) y u->u.cell? ⟨bs,0,none⟩=some (.pointer (some ⟨q,0,none⟩)):=fun ku=>by rw [az (ku.heap V.hs Px.1)];rfl
  have next: ∀ {u:World} {A':Option Addr} {n' tN:Nat},uh u y.heap.size q sm ⟨s,G.score s+1,(L.take (i+1)).filter fun h=>decide (h≠s/\ ¬eB G.D h s),[]⟩ (fun _=>none) A' n' tN none 0 0->Kept (· =q) y u->
   ∃s1:Int,IntKind.i64.wrap ((i:Int)+(1:Int))=s1/\(∃i':Nat,s1=(i':Int)/\i'<=nL/\(∃A n cp,uh u y.heap.size q sm ⟨s,G.score s+1,(L.take i').filter fun h=>decide (h≠s/\ ¬eB G.D h s),[]⟩ (fun _=>none) A n cp none 0 0)/\Kept (· =q) y u)/\((nL:Int)-s1).toNat<((nL:Int)-(i:Int)).toNat:=fun h1 h2=>by
   rw [e8 (n:=(i:Int)) (by omega) (by omega)];exact⟨(i:Int)+1,rfl,⟨i+1,rfl,eI,⟨_,_,_,h1⟩,h2⟩,by omega⟩
  refine⟨x.1,⟨x.2.1,Cells.bC Cq⟩,s.1,⟨s.2.1,Cells.bC (zm.heap V.hh Py.1)⟩,⟨x.2.ints,s.2.ints⟩,?_⟩;rw [eJ];by_cases Ef:x=s
  ·refine Split.no (by rw [decide_eq_true Ef];rfl) ?_
   obtain⟨s1,e1,e2,e3⟩:=next (u:=kF) (by
    rw [T3,List.filter_append];have: [x].filter (fun h=>decide (h≠s/\ ¬eB G.D h s))= []:=by rw [List.filter_cons_of_neg (by simp [Ef])];rfl
    rw [this,List.append_nil];exact EI.same Hi) zm
   rw [e1];exact⟨s1,rfl,e2,e3⟩
  ·refine Split.yes (by rw [decide_eq_false Ef];rfl) ⟨_,hcy zm,_,Xs.c1,x.1,⟨x.2.1,Cells.bC Cq⟩,s.1,⟨s.2.1,Cells.bC (zm.heap V.hh Py.1)⟩,?_⟩
   obtain⟨mx,X15,_⟩:=Xs.X;refine iY X15 hD x s fun xG r hr ub=>⟨r,rfl,?_⟩;have DW:Kept (· =q) y xG:=zm.trans ub (fun _ _ h=>h.elim);have K8:=Hi.trans ub (fun _ _ h=>h);cases r with
   |true=>
    refine Split.no rfl ?_;obtain⟨s1,e1,e2,e3⟩:=next (u:=xG) (by
     rw [T3,List.filter_append];have: [x].filter (fun h=>decide (h≠s/\ ¬eB G.D h s))= []:=by rw [List.filter_cons_of_neg (by simp [hr.1 rfl])];rfl
     rw [this,List.append_nil];exact EI.same K8) DW
    rw [e1];exact⟨s1,rfl,e2,e3⟩
   |false=>
    refine Split.yes rfl ?_;intro um;have BG:Kept Nil xG um:=(Kept.refl _ _).drew;clear_value um;have Qx:=K8.trans BG (fun _ _ h=>h);have uZ:Kept (· =q) y um:=DW.trans BG (fun _ _ h=>h.elim);have Cy:=EI.same Qx;refine⟨_,LL uZ,_,LL uZ,A,n,cp,Cy.f33,x.1,⟨x.2.1,Cells.bC ((ub.trans BG (fun _ _ h=>h)).heap Cq (fun h=>h))⟩,x.2.1,?_⟩;intro jc;have pH:Kept Nil um jc:=(Kept.refl _ _).alloc _;have QZ:HS jc (some ⟨um.heap.size,0,none⟩) 1 [x]:=kV um x;clear_value jc;have Cx:=Cy.same pH;have qJ:Kept (· =q) y jc:=uZ.trans pH (fun _ _ h=>h.elim);have Qb:=qJ.size;obtain⟨A',tN,u,LP,ku,Cw,k5,YL⟩:=Cx.KN Qb (by omega) QZ;have Qp:Kept (· =q) y u:=qJ.trans ku (fun j hj e=>by omega);refine⟨Cx.f33,LL qJ,LL qJ,A',n+1,tN,u,LP,LL Qp,YL,?_⟩;intro rL
    replace Cw:uh rL y.heap.size q sm _ (fun _=>none) A' (n+1) tN none 0 0:=Cw
    replace k5:Kept (fun j=>j=q\/y.heap.size<=j) jc rL:=k5
    clear_value rL;obtain⟨s1,e1,e2,e3⟩:=next (u:=rL) (by
     rw [T3,List.filter_append];have: [x].filter (fun h=>decide (h≠s/\ ¬eB G.D h s))= [x]:=by rw [List.filter_cons_of_pos (by simp only [decide_eq_true_eq];exact⟨Ef,fun e=>by have:=hr.2 e;cases this⟩)];rfl
     rw [this];exact Cw) (qJ.trans k5 (fun j hj e=>by
      rcases e with e|e
      ·exact e
      ·omega))
    rw [e1];exact⟨s1,rfl,e2,e3⟩
 ·rw [aP,ag.dD]
  have fY:i=nL:=by omega
  subst fY;rw [List.take_of_length_le (by omega)]at EI;unfold ag.cW;intro rK;have BD:Kept Nil v rK:=(Kept.refl _ _).drew;clear_value rK;have wY:=EI.same BD;have uY:Kept (· =q) y rK:=kv.trans BD (fun _ _ h=>h.elim);have C33:CV rK F c k G m:=C.aG uY (fun j hj e=>(jb j (.inl hj)).1 e) (fun j hj e=>(jb j (.inr (.inl hj))).1 e);have T7:(L.filter fun h=>decide (h≠s/\ ¬eB G.D h s))=pG G.D s l:=by unfold pG;rw [hLL]
  have wP:bQ rK y.heap.size A n cp (pG G.D s l):=by rw [<-T7];exact wY.mg
  have IZ: ∀j,aX A=some j->y.heap.size<=j/\j<rK.heap.size:=fun j hj=>by obtain⟨g1,cur,g2⟩:=Row.bC wP hj;exact⟨g1,aQ g2⟩
  refine⟨some ⟨q,0,none⟩,by rw [az (uY.heap V.hs Px.1)];rfl,A,n,cp,wY.f33,some ⟨c,0,none⟩,by rw [az (uY.heap V.hc Pz.1)];rfl,?_⟩;refine vh C33 wP (by have:=bQ.len wP;omega) (nf _ _ _) (fun x hx=>TC x (by rw [<-T7]at hx;exact(List.mem_filter.1 hx).1)) (fun j hj=>⟨fun e=>by have:=C.low j (.inl e);have:=(IZ j hj).1;omega,fun e=>by have:=C.low j (.inr e);have:=(IZ j hj).1;omega⟩) fun l' mW O4 jm BX Da=>⟨rfl,?_⟩;have el:l'=b7 G s l:=sF O4 jm;subst el;have qB:=EI.qB;have sB:=EI.sB;have Rw:=EI.qs;have XI:=uY.size;have K3:Kept (· =q) y mW:=uY.trans Da (fun j hj e=>by have:=(IZ j e).1;omega);have HR:=Da.heap wY.top (fun e=>by have:=(IZ q e).1;omega);have Ma:=wY.ov.aG Da (fun e=>by have:=(IZ sm e).1;omega);intro gI rJ;have lO:Kept Nil mW gI:=(Kept.refl _ _).alloc _;have NA:gI.heap[mW.heap.size]? =some (.cells #[.slice none 0 0] aR (0,0)):=aN mW _;have rC:Kept Nil gI rJ:=(Kept.refl _ _).alloc _;have Ij:rJ.heap[gI.heap.size]? =some (.cells #[.nilFunc] di (0,0)):=aN gI _;refine⟨dE Ij (by simp),?_⟩;intro AB;have MO:AB.heap[gI.heap.size]? =some (.cells #[.func (.func bk.id) #[] #[.pointer (some ⟨bs,0,none⟩),.pointer (some ⟨bc,0,none⟩),.pointer (some ⟨bh,0,none⟩)]] di (0,0)):=by
   show(rJ.setCell ⟨gI.heap.size,0,none⟩ _).heap[gI.heap.size]? =_;rw [cQ Ij 0];rfl
  have JB:Kept (· =gI.heap.size) rJ AB:=Kept.setCell (S:=(· =gI.heap.size)) (Kept.refl _ rJ) (p:=⟨gI.heap.size,0,none⟩) (fun _=>rfl) _;clear_value AB;have sQ:=lO.trans rC (fun _ _ h=>h);have Qa:=lO.size;have UP:=rC.size;have l35:=aQ NA;have l36:=aQ Ij;have xZ:Kept Nil mW AB:=⟨JB.os.trans sQ.os,JB.tape.trans sQ.tape,JB.output.trans sQ.output,Nat.le_trans sQ.size JB.size,fun j hj hn=>by rw [JB.block j (Nat.lt_of_lt_of_le hj sQ.size) (by omega),sQ.block j hj hn]⟩;have Tk:=JB.heap (rC.heap NA (fun h=>h)) (by omega);have l37:=aQ MO;clear_value rJ gI;have zk:Kept (· =q) y AB:=K3.trans xZ (fun _ _ h=>h.elim);have s34:=K3.size;have XG:=zk.size;have C37:CV AB F c k G m:=C.aG zk (fun j hj e=>(jb j (.inl hj)).1 e) (fun j hj e=>(jb j (.inr (.inl hj))).1 e);have BT:=xZ.heap HR (fun h=>h);have FU:=Ma.aG xZ (fun h=>h);have HX:bQ AB y.heap.size A n cp (b7 G s l):=Row.aG BX xZ (fun _ _ h=>h);have Xn:VB AB c s bs bc bh q sm (fun _=>none):=⟨zk.heap V.hs Px.1,zk.heap V.hc Pz.1,zk.heap V.hh Py.1,by rw [a7,az BT];exact(fz ..).2.2.2,FU⟩;have WV: ∀a,A=some a->y.heap.size<=a.block/\a.block<mW.heap.size:=fun a ha=>by
   subst ha;obtain⟨g1,cur,g2⟩:=Row.bC BX (k:=a.block) rfl;exact⟨g1,aQ g2⟩
  have NL:jt AB AB.heap.size q sm mW.heap.size ⟨s,G.score s+1,b7 G s l,[]⟩ (fun _=>none) A n cp none 0 0:=
   ⟨BT,HX.hs,fun a ha=>by have:=WV a ha;exact⟨by omega,by omega,by omega,by omega⟩,Row.nil _ _ _ _,FU,by omega,by omega,by omega,⟨Rw,by omega,by omega⟩⟩
  refine⟨some ⟨q,0,none⟩,by rw [az Xn.hs];rfl,A,n,cp,NL.f33,?_⟩;have LG:(me k G s l 0)=⟨G.world s++ [s],[]⟩:=rfl;refine v7 (l:=l) C37 hD ue hs hc (fun x hx=>TC x (by
   have h1:=(jm x).1 hx;rw [<-T7]at h1;exact(List.mem_filter.1 h1).1)) Xn MO (fun j hj=>?_) ⟨⟨fun _=>none,none,0,0,none,0,0,[],NL,Tk,bQ.nil _ _,by rw [LG,List.append_nil],fun j hj=>by simp [aX]at hj,by rw [LG];exact C.Z |>.ov hs hc,?_,fun z hz=>by simp at hz,rfl⟩,Kept.refl _ _⟩ Zz fun v' ov E e ce h1 h2 h3=>?_
  ·have h1:j<y.heap.size\/j=gI.heap.size:=by
    rcases hj with h|h|h|h|h|h
    ·exact .inl (C.low j (.inl h))
    ·exact .inl (C.low j (.inr h))
    ·exact .inl (by omega)
    ·exact .inl (by omega)
    ·exact .inl (by omega)
    ·exact .inr h
   rcases h1 with h1|h1
   ·have h2:j≠q/\j≠sm:=by
     rcases hj with h|h|h|h|h|h
     ·exact jb j (.inl h)
     ·exact jb j (.inr (.inl h))
     ·exact jb j (.inr (.inr (.inl h)))
     ·exact jb j (.inr (.inr (.inr (.inl h))))
     ·exact jb j (.inr (.inr (.inr (.inr h))))
     ·omega
    exact⟨h2.1,h2.2,by omega⟩
   ·exact⟨by omega,by omega,by omega⟩
  ·rw [LG]
   obtain⟨g1,g2,_⟩:=C.gN.wd s hs;exact List.nodup_append.2 ⟨g1,by simp,fun a ha b hb e=>by
    have:b=s:=by simpa using hb
    subst this;subst e;exact eB.irrefl W a (g2 a ha)⟩
  ·refine hK v' AB.heap.size mW.heap.size ov A n cp E e ce h1 h2 (fun a ha=>(WV a ha).1) ⟨XG,h3.size⟩ ?_
   exact(zk.mono fun _ _ h=>.inl h).trans h3 (fun j hj e=>by
    rcases e with e|e|e
    ·exact .inl e
    ·exact .inr e
    ·omega)
end
end Go.Proofs.YtnboahlopghcjaaGreatDoor
namespace Go.Proofs.YtnboahlopghcjaaGreatDoor
open Go.Proofs.Tryz
open Go Go.bp Go.RowKit
theorem I6:On prog bX=some ([(0,32),(32,1),(33,1),(34,1)],List.replicate 32 (.int .u8 0)++ [.int .u64 0,.slice none 0 0,.slice none 0 0]):=by kernel_rfl
theorem CP(h:HT)(z:Int):prog.built bX [(0,.agg h.1),(1,.int .u64 z)]=some (h.1++ #[.int .u64 z,.slice none 0 0,.slice none 0 0]):=by
 have hs:=h.2.1;rw [ot I6,iA (off:=0) (size:=32) rfl (by simpa [Value.cells]using hs) (by simp),iA (off:=32) (size:=1) rfl rfl (by
  rw [List.size_toArray,kc (by simp [Value.cells,hs])];simp)]
 simp only [Instr.fill,Option.some.injEq];apply Array.ext';unfold fh;simp [Value.cells,hs];rw [List.drop_append];simp [hs]
theorem EZ:On prog cI=some ([(0,35),(35,1)],List.replicate 32 (.int .u8 0)++ [.int .u64 0,.slice none 0 0,.slice none 0 0,.map none]):=by kernel_rfl
theorem tg(c:p8)(sm:Option Nat):prog.built cI [(0,.agg (dT c none 0 0 none 0 0)),(1,.map sm)]=some (dT c none 0 0 none 0 0++ #[.map sm]):=by
 have hs:=bM c none 0 0 none 0 0;rw [ot EZ,iA (off:=0) (size:=35) rfl (by simpa [Value.cells]using hs) (by simp),iA (off:=35) (size:=1) rfl rfl (by
  rw [List.size_toArray,kc (by simp [Value.cells,hs])];simp)]
 simp only [Instr.fill,Option.some.injEq];apply Array.ext';unfold fh;simp [Value.cells,hs]
section
variable{g1 v w w':World}{F:Nat->Prop}{c k:Nat}{G:GS}{m:CM}{s:HT}{l ch:List HT}{bs bc bh q sm n cx:Nat}{A:Option Addr}{K:Value->World->Prop}
theorem Dx{N:Nat}(vh:yw N)(hN:(pG G.D s l).length<=N)(C:CV g1 F c k G m)(hT:p6 g1)(hD:G.D.length<=5000)(ue:k<=1000)(hs:s∈ids G.D)(hc:cj G.D G.P s ch)(hl: ∀x∈l,x∈ids G.D)(Ak:HS g1 A n l)(hn:n<=5000)
 (V:VB g1 c s bs bc bh q sm (fun _=>none)) (hC:g1.heap[q]? =some (.cells (dT ⟨s,G.score s+1,[],[]⟩ none 0 0 none 0 0++ #[.map (some sm)]) cI (0,0)))
 (jb: ∀j,(m.own c j\/F j\/j=bs\/j=bc\/j=bh)->j≠q/\j≠sm) (Rw:q≠sm) {p:Nat} (hp: ∃mx,XV g1 m.FX m.x G.D G.P mx/\mx.g=p)
 (hK: ∀v B bb ov A n cp E e ce,jt v B q sm bb (fg k G s l) ov A n cp E e ce->OV G.D (eE k G s l).wd ov (ju m.sz ch)->(∀a,A=some a->g1.heap.size<=a.block)->(g1.heap.size<=B/\B<=v.heap.size)->Kept (fun j=>j=q\/j=sm) g1 v->K (.pointer (some ⟨q,0,none⟩)) v):
 aY prog aD.id #[.pointer (some ⟨p,0,none⟩),.slice A n cx] g1 fun i1 j1=> ∃k1:Option Addr,∃m1:Nat,∃n1:Nat,i1=.slice k1 m1 n1/\
  ∃(o1:Option Addr) (p1 q1:Nat) (r1:World),(Builtin.append_ #[aR,aR] aR #[.slice k1 m1 n1,.slice A n cx]).run prog j1=.ok (.slice o1 p1 q1) r1/\
  aY prog fR.id #[.slice o1 p1 q1] r1 fun t1 u1=> ∃v1:Option Addr,∃x1:Nat,∃y1:Nat,t1=.slice v1 x1 y1/\
  Holds none [] prog 153 (.loop (lB (bB (sR (sL (sR (sR (sR (body ag.fn))))))))) (ag.q1 K)
   [(3,.pointer (some ⟨bc,0,none⟩)),(4,.pointer (some ⟨bh,0,none⟩)),(6,.pointer none),(8,.pointer (some ⟨bs,0,none⟩)),(46,.slice v1 x1 y1),(47,.int .i64 (x1:Int)),(48,.int .i64 0)] u1:=by
 have W:=C.gN.W;obtain⟨mx,X,rfl⟩:=hp;obtain⟨bl,c',mb,M,GG⟩:=X.G;have lq:=aQ hC;have lsm:=V.ov.lt;refine rf GG W (by omega) hT Ak (by omega) fun A1 c1 w1 y5 k1=>⟨A1,_,c1,rfl,?_⟩;have pX:(dM G.D l).length<=5000:=Nat.le_trans (nQ _ _) hD;have s1:=k1.size;obtain⟨A2,c2,w2,jw,tm,g2,WW⟩:=fE aR y5 (cx:=cx) (Ak.same k1) (by omega) s1;have k2:Kept (fun j=>g1.heap.size<=j) w1 w2:=(Kept.refl _ _).grown g2 fun j hj _=>(Row.bC y5 hj).1;have mr:Kept Nil g1 w2:=k1.trans k2 (fun j hj e=>by omega);refine⟨A2,_,c2,w2,jw,?_⟩;refine fD tm.hs (by omega) fun A3 c3 w3 ql k3=>⟨A3,_,c3,rfl,?_⟩;have ph:=mr.trans k3 (fun _ _ h=>h);have XW:=mr.size;have UU:=ph.size;have V3:=V.same ph;refine v8 (l:=l) vh hN (C.same ph) hD ue hs hc hl V3 ⟨ph.heap hC (fun h=>h),bQ.nil _ _,Row.nil _ _ _ _,V3.ov,by omega,by omega,Rw,fun j hj=>by simp [aX]at hj⟩ ql.hs (fun a ha=>?_) jb fun v B bb ov A n cp E e ce h1 h2 h3 h4 h5=>?_
 ·subst ha
  have:=(Row.bC ql (k:=a.block) rfl).1;omega
 ·exact hK v B bb ov A n cp E e ce h1 h2 (fun a ha=>Nat.le_trans UU (h3 a ha)) ⟨Nat.le_trans UU h4.1,h4.2⟩ ((ph.mono fun _ _ h=>h.elim).trans h5 (fun _ _ h=>h))
end
end Go.Proofs.YtnboahlopghcjaaGreatDoor
namespace Go.Proofs.YtnboahlopghcjaaGreatDoor
open Go.Proofs.Tryz
open Go Go.bp Go.RowKit
section
variable{w w':World}{F:Nat->Prop}{c k:Nat}{G:GS}{m:CM}{s:HT}{l ch:List HT}{n cx:Nat}{A:Option Addr}{K:Value->World->Prop}
set_option maxHeartbeats 4000000 in
theorem xa{N:Nat}(vh:yw N)(hN:(pG G.D s l).length<=N)(C:CV w F c k G m)(hT:p6 w)(hD:G.D.length<=5000)(ue:k<=1000)(hs:s∈ids G.D)(hc:cj G.D G.P s ch)(hl: ∀x∈l,x∈ids G.D)(Ak:HS w A n l)(hn:n<=5000)
 (hK: ∀v q B sm bb ov A n cp E e ce,jt v B q sm bb (fg k G s l) ov A n cp E e ce->OV G.D (eE k G s l).wd ov (ju m.sz ch)->w.heap.size<=q->w.heap.size<=sm->(∀a,A=some a->w.heap.size<=a.block)->(w.heap.size<=B/\B<=v.heap.size)->Kept Nil w v->K (.pointer (some ⟨q,0,none⟩)) v):
 aY prog ag.id #[.pointer (some ⟨c,0,none⟩),.agg s.1,.slice A n cx] w K:=by
 refine ag.of ?_;unfold ag.W;intro w1 w2;have k1:Kept Nil w w1:=(Kept.refl _ _).alloc _;have WH:w1.heap[w.heap.size]? =some (.cells #[.pointer (some ⟨c,0,none⟩)] cN (0,0)):=aN w _;have k2:Kept Nil w1 w2:=(Kept.refl _ _).alloc _;have x8:w2.heap[w1.heap.size]? =some (.cells s.1 ao (0,0)):=aN w1 _;clear_value w2;have Gd:=k2.heap WH (fun h=>h);have mr:=k1.trans k2 (fun _ _ h=>h);have s1:=k1.size;have l1:=aQ WH;have l2:=aQ x8;clear_value w1;have C2:=C.same mr;obtain⟨U8,X2,_⟩:=C2.X;refine⟨some ⟨c,0,none⟩,by rw [az Gd];rfl,_,C2.c1,eM.of (Split.no rfl (Is.mk rfl ⟨_,X2.c0,⟨_,rfl,?_⟩⟩))⟩;intro w3;have k3:Kept Nil w2 w3:=(Kept.refl _ _).drew;clear_value w3;have ph:=mr.trans k3 (fun _ _ h=>h);have WG:=k3.heap Gd (fun h=>h);have Ek:=k3.heap x8 (fun h=>h);have C3:=C.same ph;obtain⟨A1,n1,c1,B1,m1,d1,s1',sa⟩:=C3.seen s hs;have HV:G.score s<=5000:=by
  have h1:=(C.gN.wd s hs).2.2;have h2:=dC (m:=ids G.D) (C.gN.wd s hs).1 (fun b hb=>(((C.gN.wd s hs).2.1 b hb).mem C.gN.W).1);rw [iF]at h2;omega
 have ew:IntKind.u64.wrap (((G.gF s).score:Int)+(1:Int))=((G.score s+1:Nat):Int):=by
  show IntKind.u64.wrap ((G.score s:Int)+(1:Int))=_
  rw [show(G.score s:Int)+1=((G.score s+1:Nat):Int)by omega];exact iC (by omega)
 have kI: ∀ {u:World},Kept Nil w3 u->u.cell? ⟨w.heap.size,0,none⟩=some (.pointer (some ⟨c,0,none⟩)):=fun ku=>by rw [az (ku.heap WG (fun h=>h))];rfl
 have tC: ∀ {u:World},Kept Nil w3 u-> ∃cs:Array Value,(.agg s.1:Value)=.agg cs/\cs.size=32/\Cells u ⟨w1.heap.size,0,none⟩ cs:=fun ku=>⟨s.1,rfl,s.2.1,Cells.bC (ku.heap Ek (fun h=>h))⟩;have lP: ∀ {u:World},Kept Nil w3 u->u.cell? (((⟨m.q s,0,none⟩:Addr).add 0).add 32)=some (.int .u64 ((G.gF s).score:Int)):=fun ku=>(sa.aG ku (fun _ _ h=>h)).Ol;have l3:=aQ Ek;have s3:=k3.size;refine⟨s.1,⟨s.2.1,Cells.bC Ek⟩,some ⟨c,0,none⟩,kI (Kept.refl _ _),_,C3.c2,s.1,⟨s.2.1,Cells.bC Ek⟩,_,C3.mO hs,_,lP (Kept.refl _ _),?_⟩;rw [ew];rw [CP s];refine Is.mk rfl ?_;have T8:(s.1++ #[.int .u64 ((G.score s+1:Nat):Int),.slice none 0 0,.slice none 0 0]:Array Value)=dT ⟨s,G.score s+1,[],[]⟩ none 0 0 none 0 0:=rfl;rw [T8];have go: ∀ {u:World} {q sm bs:Nat},Kept Nil w3 u->w3.heap.size<=q->w3.heap.size<=sm->w3.heap.size<=bs->q≠sm->bs≠q->bs≠sm->
  u.heap[q]? =some (.cells (dT ⟨s,G.score s+1,[],[]⟩ none 0 0 none 0 0++ #[.map (some sm)]) cI (0,0))->dA u sm (fun _=>none)->u.heap[bs]? =some (.cells #[.pointer (some ⟨q,0,none⟩)] df (0,0))->_:=
  fun {u q sm bs} ku hq zv Pn h1 h2 h3 hC Ic kV=>Dx (g1:=u) (bs:=bs) (bc:=w.heap.size) (bh:=w1.heap.size) (q:=q) (sm:=sm) (cx:=cx) (K:=K) (p:=U8.g) vh hN (C3.same ku) (hT.same (ph.trans ku (fun _ _ h=>h))) hD ue hs hc hl (Ak.same (ph.trans ku (fun _ _ h=>h))) hn
   ⟨kV,ku.heap WG (fun h=>h),ku.heap Ek (fun h=>h),by rw [a7,az hC];exact(fz ..).2.2.2,Ic⟩ hC
   (fun j hj=>by
     rcases hj with h|h|h|h|h
     ·have:=C.low j (.inl h);exact⟨by omega,by omega⟩
     ·have:=C.low j (.inr h);exact⟨by omega,by omega⟩
     ·exact⟨by omega,by omega⟩
     ·exact⟨by omega,by omega⟩
     ·exact⟨by omega,by omega⟩) h1 ⟨U8,X2.same (k3.trans ku (fun _ _ h=>h)),rfl⟩
   (fun v B bb ov A n cp E e ce t1 t2 t3 t4 t5=>hK v q B sm bb ov A n cp E e ce t1 t2 (by omega) (by omega) (fun a ha=>by have:=t3 a ha;have:=(ph.trans ku (fun _ _ h=>h)).size;omega) ⟨by have:=(ph.trans ku (fun _ _ h=>h)).size;have:=t4.1;omega,t4.2⟩ ((ph.trans ku (fun _ _ h=>h)).trans t5 (fun j hj e=>by omega)))
 have G3: ∀ {u0:World} {b q:Nat},u0.heap[b]? =some (.cells #[.pointer none] df (0,0))->Wr u0 ⟨b,0,none⟩/\ ∀u1,u1=u0.setCell ⟨b,0,none⟩ (.pointer (some ⟨q,0,none⟩))->u1.heap[b]? =some (.cells #[.pointer (some ⟨q,0,none⟩)] df (0,0))/\Kept (· =b) u0 u1:=fun {u0 b q} hb=>⟨dE hb (by simp),fun u1 e=>by
  subst e;refine⟨?_,Kept.setCell (S:=(· =b)) (Kept.refl _ u0) (p:=⟨b,0,none⟩) (fun _=>rfl) _⟩;rw [cQ hb 0];rfl⟩
 refine⟨?_,?_⟩
 ·intro w4
  have k4:Kept Nil w3 w4:=(Kept.refl _ _).alloc _;have R0:dA w4 w3.heap.size (fun _=>none):=dA.new w3;clear_value w4;have l4:=R0.lt;refine⟨lP k4,(C3.same k4).mO hs,tC k4,(C3.same k4).c2,kI k4,tC k4,?_⟩;rw [tg];refine Is.mk rfl ⟨?_,?_⟩
  ·intro w5 w6
   have k5:Kept Nil w4 w5:=(Kept.refl _ _).alloc _;have VZ:w5.heap[w4.heap.size]? =some (.cells (dT ⟨s,G.score s+1,[],[]⟩ none 0 0 none 0 0++ #[.map (some w3.heap.size)]) cI (0,0)):=aN w4 _;have k6:Kept Nil w5 w6:=(Kept.refl _ _).alloc _;have oV:w6.heap[w5.heap.size]? =some (.cells #[.pointer none] df (0,0)):=aN w5 _;clear_value w6;have LZ:=k6.heap VZ (fun h=>h);have l5:=aQ VZ;clear_value w5;have Lj:=k5.trans k6 (fun _ _ h=>h);have rC:=k4.trans Lj (fun _ _ h=>h);have UP:=rC.size;obtain⟨t1,t2⟩:=G3 (q:=w4.heap.size) oV;refine⟨t1,?_⟩;intro w7;obtain⟨t3,t4⟩:=t2 w7 rfl;clear_value w7;exact go (rC.trans t4 (fun j hj e=>by omega)) (by omega) (by omega) (by omega) (by omega) (by omega) (by omega) (t4.heap LZ (by omega)) ((R0.same Lj).aG t4 (by omega)) t3
  ·intro w5
   have k5:Kept Nil w4 w5:=(Kept.refl _ _).alloc _;have tI:w5.heap[w4.heap.size]? =some (.cells #[.pointer none] df (0,0)):=aN w4 _;clear_value w5;have l5:=aQ tI;have lO:=k4.trans k5 (fun _ _ h=>h);refine⟨lP lO,(C3.same lO).mO hs,tC lO,(C3.same lO).c2,kI lO,tC lO,?_⟩;intro w6;have k6:Kept Nil w5 w6:=(Kept.refl _ _).alloc _;have LZ:w6.heap[w5.heap.size]? =some (.cells (dT ⟨s,G.score s+1,[],[]⟩ none 0 0 none 0 0++ #[.map (some w3.heap.size)]) cI (0,0)):=aN w5 _;clear_value w6;have Lj:=k5.trans k6 (fun _ _ h=>h);have rC:=k4.trans Lj (fun _ _ h=>h);have Qa:=lO.size;obtain⟨t1,t2⟩:=G3 (q:=w5.heap.size) (k6.heap tI (fun h=>h));refine⟨t1,?_⟩;intro w7;obtain⟨t3,t4⟩:=t2 w7 rfl;clear_value w7;exact go (rC.trans t4 (fun j hj e=>by omega)) (by omega) (by omega) (by omega) (by omega) (by omega) (by omega) (t4.heap LZ (by omega)) ((R0.same Lj).aG t4 (by omega)) t3
 ·intro w4
  have k4:Kept Nil w3 w4:=(Kept.refl _ _).alloc _;have vU:w4.heap[w3.heap.size]? =some (.cells #[.pointer none] df (0,0)):=aN w3 _;clear_value w4;have l4:=aQ vU;refine⟨lP k4,(C3.same k4).mO hs,tC k4,(C3.same k4).c2,kI k4,tC k4,?_⟩;intro w5;have k5:Kept Nil w4 w5:=(Kept.refl _ _).alloc _;have We:dA w5 w4.heap.size (fun _=>none):=dA.new w4;clear_value w5;have l5:=We.lt;have lO:=k4.trans k5 (fun _ _ h=>h);refine⟨lP lO,(C3.same lO).mO hs,tC lO,(C3.same lO).c2,kI lO,tC lO,?_⟩;rw [tg];refine Is.mk rfl ?_;intro w6;have k6:Kept Nil w5 w6:=(Kept.refl _ _).alloc _;have LZ:w6.heap[w5.heap.size]? =some (.cells (dT ⟨s,G.score s+1,[],[]⟩ none 0 0 none 0 0++ #[.map (some w4.heap.size)]) cI (0,0)):=aN w5 _;clear_value w6;have rC:=lO.trans k6 (fun _ _ h=>h);have Qa:=lO.size;obtain⟨t1,t2⟩:=G3 (q:=w5.heap.size) ((k5.trans k6 (fun _ _ h=>h)).heap vU (fun h=>h));refine⟨t1,?_⟩;intro w7;obtain⟨t3,t4⟩:=t2 w7 rfl;clear_value w7;exact go (rC.trans t4 (fun j hj e=>by omega)) (by omega) (by omega) (by omega) (by omega) (by omega) (by omega) (t4.heap LZ (by omega)) ((We.same k6).aG t4 (by omega)) t3
end
end Go.Proofs.YtnboahlopghcjaaGreatDoor
