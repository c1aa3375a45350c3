import Derived.Test.YtnboahlopghcjaaGreatDoorMP
import Derived.Test.YtnboahlopghcjaaGreatDoorMG
open Go.IntKind (i64 u64)
set_option linter.unusedVariables false
namespace Go.Proofs.YtnboahlopghcjaaGreatDoor
open Go.Proofs.Tryz
open Go Go.bT Go.RowKit
theorem BF:yA prog gB gh 1 1:=⟨by kernel_rfl,by kernel_rfl⟩
abbrev oB(l:List Bool):List Value:=l.map .bool
structure yL(w:World)(B q sm:Nat)(c:oC)(ov:HT->Option Nat)(A:Option Addr)(n cp:Nat)(E:Option Addr)(e ce:Nat):Prop where
 top:w.heap[q]? =some (.cells (cF c A n cp E e ce++ #[.map (some sm)]) dV (0,0))
 mg:bL w B A n cp c.merge
 bl:Row w B gh 1 E e ce (oB c.dR)
 ov:fp w sm (Lm ov)
 qB:q<B
 sB:sm<B
 qs:q≠sm
 AE:∀j,aW A=some j->aW E≠some j
section
variable{w w':World}{B q sm:Nat}{c:oC}{ov:HT->Option Nat}{A E:Option Addr}{n cp e ce:Nat}{K:Value->World->Prop}
theorem yL.az{S:Nat->Prop}(h:yL w B q sm c ov A n cp E e ce)(hk:Kept S w w')(h1:¬S q)(h2:¬S sm)(h3:∀j,B<=j->¬S j):yL w' B q sm c ov A n cp E e ce:=
 ⟨hk.heap h.top h1,Row.az h.mg hk (fun j hj=>h3 j (Row.bz h.mg hj).1),Row.az h.bl hk (fun j hj=>h3 j (Row.bz h.bl hj).1),h.ov.az hk h2,h.qB,h.sB,h.qs,h.AE⟩
theorem yL.same(h:yL w B q sm c ov A n cp E e ce)(hk:Kept Nil w w'):yL w' B q sm c ov A n cp E e ce:=h.az hk (fun h=>h) (fun h=>h) (fun _ _ h=>h)
theorem yL.f33(h:yL w B q sm c ov A n cp E e ce):w.cell? (((⟨q,0,none⟩:Addr).add 0).add 33)=some (.slice A n cp):=by rw [add_zero,a8,ay h.top];exact(eW ..).2.1
theorem yL.afw(h:yL w B q sm c ov A n cp E e ce):∀j,aW A=some j\/aW E=some j->B<=j/\j<w.heap.size:=fun j hj=>by
 rcases hj with hj|hj
 ·obtain⟨h1,cur,h2⟩:=Row.bz h.mg hj;exact⟨h1,aO h2⟩
 ·obtain⟨h1,cur,h2⟩:=Row.bz h.bl hj;exact⟨h1,aO h2⟩
theorem qL(c:oC)(A:Option Addr)(n cp:Nat)(E:Option Addr)(e ce:Nat)(r:Array Value)(A':Option Addr)(n' wc:Nat):
 (cF c A n cp E e ce++r).setIfInBounds (0+33) (.slice A' n' wc)=cF c A' n' wc E e ce++r:=by
 have h0:c.jX.1.size=32:=c.jX.2.1;apply Array.ext';unfold cF;simp only [Array.toList_setIfInBounds,Array.toList_append,List.append_assoc];rw [List.set_append_right _ _ (by simp [h0])];simp [h0]
theorem qK(c:oC)(A:Option Addr)(n cp:Nat)(E:Option Addr)(e ce:Nat)(r:Array Value)(E':Option Addr)(n' wc:Nat):
 (cF c A n cp E e ce++r).setIfInBounds (0+34) (.slice E' n' wc)=cF c A n cp E' n' wc++r:=by
 have h0:c.jX.1.size=32:=c.jX.2.1;apply Array.ext';unfold cF;simp only [Array.toList_setIfInBounds,Array.toList_append,List.append_assoc];rw [List.set_append_right _ _ (by simp [h0])];simp [h0]
theorem vu(c:oC)(A:Option Addr)(n cp:Nat)(E:Option Addr)(e ce:Nat)(r:Array Value)(s:Nat):
 (cF c A n cp E e ce++r).setIfInBounds (0+32) (.int .u64 (s:Int))=cF {c with score:=s} A n cp E e ce++r:=by
 have h0:c.jX.1.size=32:=c.jX.2.1;apply Array.ext';unfold cF;simp only [Array.toList_setIfInBounds,Array.toList_append,List.append_assoc];rw [List.set_append_right _ _ (by simp [h0])];simp [h0]
theorem yL.Uc(h:yL w B q sm c ov A n cp E e ce)(hB:B<=w.heap.size)(hn:n<=100000){x:HT}{b:Nat}(hb:HS w (some ⟨b,0,none⟩) 1 [x]):
 ∃A' wc u,(Builtin.append_ #[aA,aA] aA #[.slice A n cp,.slice (some ⟨b,0,none⟩) 1 1]).run prog w=.ok (.slice A' (n+1) wc) u/\
  Kept (fun j=>B<=j) w u/\yL (u.setCell (((⟨q,0,none⟩:Addr).add 0).add 33) (.slice A' (n+1) wc)) B q sm {c with merge:=c.merge++ [x]} ov A' (n+1) wc E e ce/\
  Kept (fun j=>j=q\/B<=j) w (u.setCell (((⟨q,0,none⟩:Addr).add 0).add 33) (.slice A' (n+1) wc))/\Wr u (((⟨q,0,none⟩:Addr).add 0).add 33):=by
 obtain⟨A',wc,u,hr,eI,hg,hA⟩:=cO aA h.mg (cx:=1) hb (by omega) hB;have ku:Kept (fun j=>B<=j) w u:=(Kept.refl _ _).grown hg fun j hj _=>(Row.bz h.mg hj).1;have kA:Kept (fun j=>aW A=some j) w u:=(Kept.refl _ _).grown hg fun j hj _=>hj;have qB:=h.qB;have sB:=h.sB;have gJ:=ku.heap h.top (by omega);have Ai:Row u B gh 1 E e ce (oB c.dR):=Row.az h.bl kA (fun j hj e=>h.AE j e hj);have pW:Kept (· =q) u (u.setCell (((⟨q,0,none⟩:Addr).add 0).add 33) (.slice A' (n+1) wc)):=by
  rw [add_zero,a8];exact Kept.setCell (S:=(· =q)) (Kept.refl _ u) (p:=⟨q,0+33,none⟩) (fun _=>rfl) _
 have hU:∀ {X:Option Addr} {j:Nat},(∀k,aW X=some k->B<=k)->aW X=some j->¬j=q:=fun h hj e=>by have:=h _ hj;omega
 refine⟨A',wc,u,hr,ku,⟨?_,?_,?_,?_,qB,sB,h.qs,?_⟩,?_,?_⟩
 ·show(u.setCell (((⟨q,0,none⟩:Addr).add 0).add 33) (.slice A' (n+1) wc)).heap[q]? =_
  rw [add_zero,a8,cV gJ,qL];rfl
 ·exact Row.az eI pW (fun j hj=>hU (fun k hk=>(Row.bz eI hk).1) hj)
 ·exact Row.az Ai pW (fun j hj=>hU (fun k hk=>(Row.bz Ai hk).1) hj)
 ·exact(h.ov.az ku (by omega)).az pW (fun e=>h.qs e.symm)
 ·intro j hj he
  rcases hA j hj with h1|h1
  ·exact h.AE j h1 he
  ·have:=(h.afw j (.inr he)).2;omega
 ·exact(ku.mono fun _ _ h=>.inr h).trans pW (fun _ _ e=>.inl e)
 ·rw [add_zero,a8]
  exact dJ gJ (by rw [Array.size_append,aS];simp)
end
structure mc(w:World)(B q sm bb:Nat)(c:oC)(ov:HT->Option Nat)(A:Option Addr)(n cp:Nat)(E:Option Addr)(e ce:Nat):Prop where
 top:w.heap[q]? =some (.cells (cF c A n cp E e ce++ #[.map (some sm)]) dV (0,0))
 mg:HS w A n c.merge
 mA:∀a,A=some a->a.block<B/\a.block≠q/\a.block≠sm/\a.block≠bb
 bl:Row w B gh 1 E e ce (oB c.dR)
 ov:fp w sm (Lm ov)
 qB:q<B
 sB:sm<B
 bB:bb<B
 qs:q≠sm/\q≠bb/\sm≠bb
section
variable{w w':World}{B q sm bb:Nat}{c:oC}{ov:HT->Option Nat}{A E:Option Addr}{n cp e ce:Nat}{K:Value->World->Prop}
theorem mc.az{S:Nat->Prop}(h:mc w B q sm bb c ov A n cp E e ce)(hk:Kept S w w')(h1:¬S q)(h2:¬S sm)(h3:∀j,B<=j->j<w.heap.size->¬S j)(h4:∀a,A=some a->¬S a.block):mc w' B q sm bb c ov A n cp E e ce:=
 ⟨hk.heap h.top h1,h.mg.az hk h4,h.mA,Row.az h.bl hk (fun j hj=>by obtain⟨g1,cur,g2⟩:=Row.bz h.bl hj;exact h3 j g1 (aO g2)),h.ov.az hk h2,h.qB,h.sB,h.bB,h.qs⟩
theorem mc.same(h:mc w B q sm bb c ov A n cp E e ce)(hk:Kept Nil w w'):mc w' B q sm bb c ov A n cp E e ce:=h.az hk (fun h=>h) (fun h=>h) (fun _ _ _ h=>h) (fun _ _ h=>h)
theorem mc.f32(h:mc w B q sm bb c ov A n cp E e ce):w.cell? (((⟨q,0,none⟩:Addr).add 0).add 32)=some (.int .u64 (c.score:Int)):=by rw [add_zero,a8,ay h.top];exact(eW ..).1
theorem mc.f33(h:mc w B q sm bb c ov A n cp E e ce):w.cell? (((⟨q,0,none⟩:Addr).add 0).add 33)=some (.slice A n cp):=by rw [add_zero,a8,ay h.top];exact(eW ..).2.1
theorem mc.f34(h:mc w B q sm bb c ov A n cp E e ce):w.cell? (((⟨q,0,none⟩:Addr).add 0).add 34)=some (.slice E e ce):=by rw [add_zero,a8,ay h.top];exact(eW ..).2.2.1
theorem mc.f35(h:mc w B q sm bb c ov A n cp E e ce):w.cell? ((⟨q,0,none⟩:Addr).add 35)=some (.map (some sm)):=by rw [a8,ay h.top];exact(eW ..).2.2.2
theorem mc.wr(h:mc w B q sm bb c ov A n cp E e ce){j:Nat}(hj:j<36):Wr w (((⟨q,0,none⟩:Addr).add 0).add j):=by
 rw [add_zero,a8];exact dJ h.top (by rw [Array.size_append,aS];simp;omega)
theorem mc.TT{h:mc w B q sm bb c ov A n cp E e ce}(j:Nat)(v:Value):Kept (· =q) w (w.setCell (((⟨q,0,none⟩:Addr).add 0).add j) v):=by
 rw [add_zero,a8];exact Kept.setCell (S:=(· =q)) (Kept.refl _ w) (p:=⟨q,0+j,none⟩) (fun _=>rfl) _
theorem mc.HN(h:mc w B q sm bb c ov A n cp E e ce)(hB:B<=w.heap.size)(hn:e<=100000){x:Bool}{b:Nat}(hb:w.cell? ⟨b,0,none⟩=some (.bool x)):
 ∃E' rY u,(Builtin.append_ #[gB,gB] gB #[.slice E e ce,.slice (some ⟨b,0,none⟩) 1 1]).run prog w=.ok (.slice E' (e+1) rY) u/\
  Kept (fun j=>B<=j/\aW E=some j) w u/\Wr u (((⟨q,0,none⟩:Addr).add 0).add 34)/\
  mc (u.setCell (((⟨q,0,none⟩:Addr).add 0).add 34) (.slice E' (e+1) rY)) B q sm bb {c with dR:=c.dR++ [x]} ov A n cp E' (e+1) rY/\
  Kept (fun j=>j=q\/aW E=some j) w (u.setCell (((⟨q,0,none⟩:Addr).add 0).add 34) (.slice E' (e+1) rY))/\(∀j,aW E'=some j->aW E=some j\/w.heap.size<=j):=by
 obtain⟨E',rY,u,hr,eI,hg,hE⟩:=dS (P:=prog) (t:=gB) (bytes:=1) (ty:=gB) BF h.bl (a:=⟨b,0,none⟩) (m:=1) (cx:=1) (news:= [.bool x]) rfl (fun j v hj=>by
  cases j with
  |zero=>simp only [List.getElem?_cons_zero,Option.some.injEq]at hj;subst hj;rw [add_zero];exact hb
  |succ j=>simp at hj) (fun v hv=>by
  have:v=.bool x:=by simpa using hv
  subst this;rfl) (by omega) (by unfold maxLen;omega) hB
 have qB:=h.qB;have sB:=h.sB;have kE:Kept (fun j=>B<=j/\aW E=some j) w u:=(Kept.refl _ _).grown hg fun j hj _=>⟨(Row.bz h.bl hj).1,hj⟩;have gJ:=kE.heap h.top (by omega);have pW:Kept (· =q) u (u.setCell (((⟨q,0,none⟩:Addr).add 0).add 34) (.slice E' (e+1) rY)):=by
  rw [add_zero,a8];exact Kept.setCell (S:=(· =q)) (Kept.refl _ u) (p:=⟨q,0+34,none⟩) (fun _=>rfl) _
 refine⟨E',rY,u,hr,kE,?_,⟨?_,?_,h.mA,?_,?_,qB,sB,h.bB,h.qs⟩,?_,hE⟩
 ·rw [add_zero,a8]
  exact dJ gJ (by rw [Array.size_append,aS];simp)
 ·show(u.setCell (((⟨q,0,none⟩:Addr).add 0).add 34) (.slice E' (e+1) rY)).heap[q]? =_
  rw [add_zero,a8,cV gJ,qK];rfl
 ·exact(h.mg.az kE (fun a ha=>by have:=(h.mA a ha).1;omega)).az pW (fun a ha=>(h.mA a ha).2.1)
 ·have e1:oB (c.dR++ [x])=oB c.dR++ [.bool x]:=by simp [oB]
  show Row _ B gh 1 E' (e+1) rY (oB (c.dR++ [x]))
  rw [e1];exact Row.az eI pW (fun j hj=>by have:=(Row.bz eI hj).1;omega)
 ·exact(h.ov.az kE (by omega)).az pW (fun e=>h.qs.1 e.symm)
 ·exact(kE.mono fun _ _ h=>.inr h.2).trans pW (fun _ _ e=>.inl e)
theorem mc.PC(h:mc w B q sm bb c ov A n cp E e ce)(s:Nat):
 mc (w.setCell (((⟨q,0,none⟩:Addr).add 0).add 32) (.int .u64 (s:Int))) B q sm bb {c with score:=s} ov A n cp E e ce/\Kept (· =q) w (w.setCell (((⟨q,0,none⟩:Addr).add 0).add 32) (.int .u64 (s:Int))):=by
 have qB:=h.qB;have pW:=mc.TT (h:=h) 32 (.int .u64 (s:Int));refine⟨⟨?_,h.mg.az pW (fun a ha=>(h.mA a ha).2.1),h.mA,Row.az h.bl pW (fun j hj=>by have:=(Row.bz h.bl hj).1;omega),h.ov.az pW (fun e=>h.qs.1 e.symm),h.qB,h.sB,h.bB,h.qs⟩,pW⟩;rw [add_zero,a8,cV h.top,vu]
theorem mc.note(h:mc w B q sm bb c ov A n cp E e ce)(b:HT)(n0:Nat):
 ∃u,(Instr.mapUpdate cr (.map (some sm)) (.agg b.1) (.int .i64 (n0:Int))).run prog w=.ok () u/\mc u B q sm bb c (fun y=>if y=b then some n0 else ov y) A n cp E e ce/\Kept (· =sm) w u:=by
 have sB:=h.sB;obtain⟨u,hr,hm,hk⟩:=h.ov.put rk b (.int .i64 (n0:Int));refine⟨u,hr,⟨hk.heap h.top h.qs.1,h.mg.az hk (fun a ha=>(h.mA a ha).2.2.1),h.mA,Row.az h.bl hk (fun j hj=>by have:=(Row.bz h.bl hj).1;omega),?_,h.qB,h.sB,h.bB,h.qs⟩,hk⟩;have e1:Lm (fun y=>if y=b then some n0 else ov y)=fun x=>if x=b then some (.int .i64 (n0:Int))else Lm ov x:=by
  funext y
  unfold Lm;by_cases e:y=b
  ·simp only [if_pos e,Option.map_some]
  ·simp only [if_neg e]
 rw [e1];exact hm
end
noncomputable def jL(k:Nat)(G:GS)(s:HT)(l:List HT)(i:Nat):VS:=((cD G s l).take i).foldl (om k G.D) ⟨G.world s++ [s],[]⟩
structure V2(y v:World)(k:Nat)(G:GS)(s:HT)(l:List HT)(base:HT->Nat)(q sm bb:Nat)(A:Option Addr)(n cp i:Nat):Prop where
 ex:∃(ov:HT->Option Nat) (E:Option Addr) (e ce:Nat) (Ab:Option Addr) (nb cb:Nat) (bl:List HT),
  mc v y.heap.size q sm bb ⟨s,G.score s+1+(jL k G s l i).bl.count true,cD G s l,(jL k G s l i).bl⟩ ov A n cp E e ce/\
  v.heap[bb]? =some (.cells #[.slice Ab nb cb] aA (0,0))/\bL v y.heap.size Ab nb cb bl/\(jL k G s l i).wd=G.world s++ [s]++bl/\(∀j,aW Ab=some j->aW E≠some j)/\
  OV G.D (jL k G s l i).wd ov base/\(jL k G s l i).wd.Nodup/\(∀z∈bl,z∈(cD G s l).take i)/\e=i
 kp:Kept (fun j=>j=q\/j=sm\/j=bb) y v
theorem mc.Ie{w w':World}{B q sm bb:Nat}{c:oC}{ov:HT->Option Nat}{A E:Option Addr}{n cp e ce:Nat}{S:Nat->Prop}(h:mc w B q sm bb c ov A n cp E e ce)(hk:Kept S w w')(h1:¬S q)(h2:¬S sm)(h3:∀j,aW E=some j->¬S j)(h4:∀a,A=some a->¬S a.block):mc w' B q sm bb c ov A n cp E e ce:=
 ⟨hk.heap h.top h1,h.mg.az hk h4,h.mA,Row.az h.bl hk h3,h.ov.az hk h2,h.qB,h.sB,h.bB,h.qs⟩
theorem yU{k:Nat}{G:GS}{s:HT}{l:List HT}{i:Nat}{x:HT}(hx:(cD G s l)[i]? =some x):jL k G s l (i+1)=om k G.D (jL k G s l i) x:=by
 unfold jL;have e:(cD G s l).take (i+1)=(cD G s l).take i++ [x]:=by rw [List.take_add_one,hx];rfl
 rw [e,List.foldl_append];rfl
theorem Di(k:Nat)(G:GS)(s:HT)(l:List HT)(i:Nat)(hi:i<=(cD G s l).length):(jL k G s l i).bl.length=i:=by
 obtain⟨b,h1,h2⟩:=Hn k G.D (G.world s++ [s]) ((cD G s l).take i);unfold jL;rw [h2];show b.length=i
 rw [h1,List.length_take];omega
theorem Dj(k:Nat)(G:GS)(s:HT)(l:List HT):jL k G s l (cD G s l).length=fF k G s l:=by
 unfold jL fF;rw [List.take_of_length_le (Nat.le_refl _)]
section
variable{y v w w':World}{F:Nat->Prop}{c k:Nat}{G:GS}{m:CM}{s:HT}{l ch:List HT}{bs bc bh q sm bb kb n cp:Nat}{A:Option Addr}{K:Value->World->Prop}
set_option maxHeartbeats 4000000 in
theorem Bw(C:CV y F c k G m)(hD:G.D.length<=5000)(nW:k<=1000)(hs:s∈ids G.D)(hc:dh G.D G.P s ch)(hM:∀x∈cD G s l,x∈ids G.D)
 (V:VB y c s bs bc bh q sm (fun _=>none)) (OD:y.heap[kb]? =some (.cells #[.func (.func bR.id) #[] #[.pointer (some ⟨bs,0,none⟩),.pointer (some ⟨bc,0,none⟩),.pointer (some ⟨bh,0,none⟩)]] fu (0,0)))
 (hU:∀j,(m.own c j\/F j\/j=bs\/j=bc\/j=bh\/j=kb)->j≠q/\j≠sm/\j≠bb)
 (h0:V2 y y k G s l (mh m.sz ch) q sm bb A n cp 0) (hn:n<=5000)
 (hK:∀v ov E e ce,mc v y.heap.size q sm bb (cR k G s l) ov A n cp E e ce->OV G.D (fF k G s l).wd ov (mh m.sz ch)->Kept (fun j=>j=q\/j=sm\/j=bb) y v->K (.pointer (some ⟨q,0,none⟩)) v):
 Holds none [] prog 153 (.loop (lB (bB (sR (sL (sR (sR (sR (sR (sR (sR (sR (sR (body ai.fn)))))))))))))) (ai.q2 K)
  [(3,.pointer (some ⟨bc,0,none⟩)),(6,.pointer none),(8,.pointer (some ⟨bs,0,none⟩)),(11,.pointer (some ⟨bb,0,none⟩)),(12,.func (.func ag.id) #[] #[.pointer (some ⟨bb,0,none⟩),.pointer (some ⟨bc,0,none⟩),.pointer (some ⟨bh,0,none⟩)]),(13,.pointer (some ⟨kb,0,none⟩)),(92,.slice A n cp),(93,.int .i64 (n:Int)),(94,.int .i64 0)] y:=by
 have W:=C.fG.W;have hmn:(cD G s l).Nodup:=(kr G s l).nodup;have WA:(cD G s l).length=n:=by obtain⟨_,_,_,_,_,_,_,_,h,_⟩:=h0.ex;exact h.mg.len
 have lbs:=aO V.hs;have lbc:=aO V.hc;have lbh:=aO V.hh;have lkb:=aO OD;have Z4:=hU bs (.inr (.inr (.inl rfl)));have Z6:=hU bc (.inr (.inr (.inr (.inl rfl))));have Z5:=hU bh (.inr (.inr (.inr (.inr (.inl rfl)))));have fkb:=hU kb (.inr (.inr (.inr (.inr (.inr rfl)))));refine ai.gI (I:=fun s0 v=>∃i:Nat,s0=(i:Int)/\i<=n/\V2 y v k G s l (mh m.sz ch) q sm bb A n cp i) (μ:=fun s0 _=>((n:Int)-s0).toNat) (s:=0) ⟨0,rfl,Nat.zero_le _,h0⟩ ?_;rintro s0 v ⟨i,rfl,hi,hV⟩;obtain⟨ov,E,e,ce,Ab,nb,cb,bl,hS,vZ,eI,SP,ZW,hO,dW,uY,hie⟩:=hV.ex;have kv:=hV.kp;have sv:=kv.size;refine Split.dec (fun jc=>?_) (fun gq=>?_)
 ·have dQ:i<n:=by omega
  obtain⟨x,hx⟩:∃x,(cD G s l)[i]? =some x:=⟨_,List.getElem?_eq_getElem (by omega)⟩;have SM:=hM x (List.mem_of_getElem? hx);have Zo:x∉(jL k G s l i).wd:=by
   rw [SP];intro hm;obtain⟨_,g1,g2⟩:=iV.1 (List.mem_of_getElem? hx);rcases List.mem_append.1 hm with hm|hm
   ·rcases List.mem_append.1 hm with hm|hm
    ·exact g2 ((C.fG.wd s hs).2.1 x hm)
    ·exact g1 (by simpa using hm)
   ·have h1:=uY x hm
    obtain⟨j,hj⟩:=List.mem_iff_getElem?.1 h1;rw [List.getElem?_take]at hj;split at hj
    ·rename_i KG
     have h2:=(lgeS hj);have h3:=(lgeS hx);have:=(List.getElem_inj hmn).1 (h2.2.trans h3.2.symm);omega
    ·cases hj
  have pX:=yU (k:=k) hx;refine hS.mg.load (i:=(i:Int)) (by omega) hx ?_;intro lh;obtain⟨sM,jg,jk⟩:=gP (w:=v) (z:=dG.1) (cs:=x.1) (t:=aj) (by rw [x.2.1];rfl);refine⟨⟨x.2.1,x.2.one,fun j hj=>sM j (by rw [x.2.1];exact hj)⟩,?_⟩;intro ir
  replace jg:ir.heap[v.heap.size]? =some (.cells x.1 aj (0,0)):=jg
  replace jk:Kept Nil v ir:=jk
  clear_value ir;intro mQ jx;have tq:Kept Nil ir mQ:=(Kept.refl _ _).alloc _;have Wq:fp mQ ir.heap.size (fun _=>none):=fp.new ir;have ow:Kept Nil mQ jx:=(Kept.refl _ _).alloc _;have Rp:jx.heap[mQ.heap.size]? =some (.cells #[.map none] cr (0,0)):=aH mQ _;refine⟨dJ Rp (by simp),?_⟩;intro wz;have Xc:wz.heap[mQ.heap.size]? =some (.cells #[.map (some ir.heap.size)] cr (0,0)):=by
   show(jx.setCell ⟨mQ.heap.size,0,none⟩ (.map (some ir.heap.size))).heap[mQ.heap.size]? =_;rw [cV Rp 0];rfl
  have IA:Kept (· =mQ.heap.size) jx wz:=Kept.setCell (S:=(· =mQ.heap.size)) (Kept.refl _ jx) (p:=⟨mQ.heap.size,0,none⟩) (fun _=>rfl) _;clear_value wz;have s14:=jk.size;have s15:=tq.size;have l14:=aO jg;have l15:=Wq.lt;have l16:=aO Rp;have IE:Kept Nil ir wz:=⟨IA.os.trans (tq.tt ow).os,IA.tape.trans (tq.tt ow).tape,IA.output.trans (tq.tt ow).output,Nat.le_trans (tq.tt ow).size IA.size,fun j hj hn=>by rw [IA.block j (Nat.lt_of_lt_of_le hj (tq.tt ow).size) (by omega),(tq.tt ow).block j hj hn]⟩;have acZ:fp wz ir.heap.size (fun _=>none):=(Wq.same ow).az IA (by omega);have OL:=IE.heap jg (fun h=>h);clear_value jx mQ;have LA:Kept Nil v wz:=jk.tt IE;have FA:Kept (fun j=>j=q\/j=sm\/j=bb) y wz:=kv.trans LA (fun _ _ h=>h.elim);have RO:=hS.same LA;have C17:CV wz F c k G m:=C.az FA (fun j hj e=>by have:=hU j (.inl hj);omega) (fun j hj e=>by have:=hU j (.inr (.inl hj));omega);have V17:VB wz c s bs bc bh q sm ov:=⟨FA.heap V.hs (by omega),FA.heap V.hc (by omega),FA.heap V.hh (by omega),RO.f35,RO.ov⟩;have WI:=FA.heap OD (by omega);have I3:bL wz y.heap.size Ab nb cb bl:=Row.az eI LA (fun _ _ h=>h);have OT:=LA.heap vZ (fun h=>h);refine⟨x.1,⟨x.2.1,Cells.bz OL⟩,?_⟩;have qB:=hS.qB;have sB:=hS.sB;have bB:=hS.bB;have JB:∀b∈(jL k G s l i).wd,rz ov (mh m.sz ch) b=(bO G.D (jL k G s l i).wd b).length:=hO.kn;have tL:=dW;rw [SP]at tL;obtain⟨c1,c2,c3⟩:=MU C.fG (h:=x) hs hc tL;rw [<-SP]at c2 c3;have Xr:=eI.len;have We:nb<=5000:=by
   have h1:=cQ (m:=cD G s l) (List.nodup_append.1 tL).2.1 (fun z hz=>List.mem_of_mem_take (uY z hz));omega
  have RU:∀a,Ab=some a->a.block<ir.heap.size:=fun a ha=>by
   subst ha;obtain⟨_,cur,h1⟩:=Row.bz eI (k:=a.block) rfl;have:=aO h1;omega
  refine Al (p:=⟨bs,bc,bh,q,sm,kb,mQ.heap.size,ir.heap.size,0,0⟩) ⟨C17,V17,WI,Xc,(fun e=>by have:ir.heap.size<y.heap.size:=C.low _ (.inl e);omega),(fun e=>by have:ir.heap.size<y.heap.size:=C.low _ (.inr e);omega),(show bs≠ir.heap.size/\bc≠ir.heap.size/\bh≠ir.heap.size/\q≠ir.heap.size/\sm≠ir.heap.size/\kb≠ir.heap.size/\mQ.heap.size≠ir.heap.size from⟨by omega,by omega,by omega,by omega,by omega,by omega,by omega⟩)⟩ hD nW hs hc (h:=x) OT (by show bb≠ir.heap.size;omega) I3.hs (fun a ha=>by have:=RU a ha;show a.block≠ir.heap.size;omega) (by omega) (by
   show fp wz ir.heap.size _
   have e0:(fun y=>if y∈([]:List HT)then some (Value.int .i64 (rz ov (mh m.sz ch) y:Int))else none)=fun _=>none:=by funext y;simp
   rw [e0];exact acZ) c1 fun EB r hr hFr Bh=>⟨r,rfl,?_⟩
  replace Bh:Kept (· =ir.heap.size) wz EB:=Bh
  have ON:r=oA k G.D (jL k G s l i).wd x:=by rw [hr];exact JZ JB c2 c3
  have Yg:∀j,aW E=some j->y.heap.size<=j/\j<v.heap.size:=fun j hj=>by obtain⟨g1,cur,g2⟩:=Row.bz hS.bl hj;exact⟨g1,aO g2⟩
  have JJ:∀j,aW Ab=some j->y.heap.size<=j/\j<v.heap.size:=fun j hj=>by obtain⟨g1,cur,g2⟩:=Row.bz eI hj;exact⟨g1,aO g2⟩
  have s17:=IE.size;have aeq:=RO.Ie Bh (by omega) (by omega) (fun j hj=>by have:=Yg j hj;omega) (fun a ha=>by have:=(hS.mA a ha).1;omega);have QO:bL EB y.heap.size Ab nb cb bl:=Row.az I3 Bh (fun j hj=>by have:=JJ j hj;omega);have Lw:Kept (fun j=>j=q\/j=sm\/j=bb) y EB:=FA.trans Bh (fun j hj e=>by omega);have Xw:=Bh.heap OT (by omega);have Xn:=Bh.heap OL (by omega);have adD:=Bh.heap Xc (by omega);intro yR;have Iy:Kept Nil EB yR:=(Kept.refl _ _).drew;clear_value yR;have JG:=aeq.same Iy;have zF:=Lw.trans Iy (fun _ _ h=>h.elim);have zZ:∀ {u:World} {S:Nat->Prop},Kept S y u->¬S bs->u.cell? ⟨bs,0,none⟩=some (.pointer (some ⟨q,0,none⟩)):=fun ku hb=>by rw [ay (ku.heap V.hs hb)];rfl
  have Nu:¬(bs=q\/bs=sm\/bs=bb):=by omega
  have s21:=zF.size;refine⟨_,zZ zF Nu,_,zZ zF Nu,E,e,ce,JG.f34,?_⟩;intro lJ;have qh:Kept Nil yR lJ:=(Kept.refl _ _).alloc _;have MD:lJ.heap[yR.heap.size]? =some (.cells #[.bool r] gh (0,0)):=aH yR _;clear_value lJ;have JF:=JG.same qh;have uS:=zF.trans qh (fun _ _ h=>h.elim);have Y7:=uS.size;obtain⟨E',rY,u,Vx,kE,abR,JE,k5,hE5⟩:=JF.HN (by omega) (by omega) (x:=r) (b:=yR.heap.size) (by rw [ay MD];rfl);have kyu:Kept (fun j=>j=q\/j=sm\/j=bb) y u:=uS.trans kE (fun j hj e=>by have:=Yg j e.2;omega);refine⟨JF.f34,zZ uS Nu,zZ uS Nu,E',e+1,rY,u,Vx,zZ kyu Nu,abR,?_⟩;intro sd
  replace JE:mc sd y.heap.size q sm bb _ ov A n cp E' (e+1) rY:=JE
  replace k5:Kept (fun j=>j=q\/aW E=some j) lJ sd:=k5
  clear_value sd;have PU:Kept (fun j=>j=q\/j=sm\/j=bb) y sd:=uS.trans k5 (fun j hj e=>by
   rcases e with e|e
   ·exact .inl e
   ·have:=Yg j e;omega)
  have Iz:Kept (fun j=>j=q\/aW E=some j) EB sd:=((Iy.tt qh).mono fun _ _ h=>h.elim).tt k5;have afV:=(Iy.tt qh).size;have s20:=Bh.size;have I2:bL sd y.heap.size Ab nb cb bl:=Row.az QO Iz (fun j hj e=>by
   have:=JJ j hj;rcases e with e|e
   ·omega
   ·exact ZW j hj e)
  have OS:=Iz.heap Xw (fun e=>by
   rcases e with e|e
   ·exact hS.qs.2.1 e.symm
   ·have:=Yg bb e;omega)
  have RV:∀j,aW Ab=some j->aW E'≠some j:=fun j hj he=>by
   rcases hE5 j he with h1|h1
   ·exact ZW j hj h1
   ·have:=JJ j hj;omega
  have Od:∀z∈bl,z∈(cD G s l).take (i+1):=fun z hz=>by
   have h1:=uY z hz;rw [List.take_add_one];exact List.mem_append_left _ h1
  cases r with
  |false=>
   refine Split.yes rfl ?_;rw [dw (n:=(i:Int)) (by omega) (by omega)];have ya:jL k G s l (i+1)=⟨(jL k G s l i).wd,(jL k G s l i).bl++ [false]⟩:=by rw [pX,om,<-ON];rfl
   refine⟨(i:Int)+1,rfl,⟨i+1,rfl,dQ,⟨ov,E',e+1,rY,Ab,nb,cb,bl,?_,OS,I2,?_,RV,?_,?_,Od,by omega⟩,PU⟩,by simp only;omega⟩
   ·rw [ya]
    simpa [List.count_append]using JE
   ·rw [ya];exact SP
   ·rw [ya];exact hO
   ·rw [ya];exact dW
  |true=>
   refine Split.no rfl ?_;have RQ:=hFr rfl
   replace RQ:yD EB ir.heap.size (rz ov (mh m.sz ch)) (oz G x bl ch):=RQ
   have cZ:=(pr.1 hr.symm).2;have qH:=cQ (m:=ids G.D) c1 (fun z hz=>by
    have h1:=(fI.1 ((c3 z).1 hz)).1;rw [SP]at h1;rcases List.mem_append.1 h1 with h1|h1
    ·rcases List.mem_append.1 h1 with h1|h1
     ·exact(((C.fG.wd s hs).2.1 z h1).mem W).1
     ·have:z=s:=by simpa using h1
      subst this;exact hs
    ·exact hM z (List.mem_of_mem_take (uY z h1)))
   rw [fX]at qH;generalize jv:oz G x bl ch=jT at*;generalize ac7:rz ov (mh m.sz ch)=kn at*;have QJ:G.score s<=5000:=by
    have h1:=(C.fG.wd s hs).2.2;have h2:=cQ (m:=ids G.D) (C.fG.wd s hs).1 (fun b hb=>(((C.fG.wd s hs).2.1 b hb).mem W).1);rw [fX]at h2;omega
   have adJ:(jL k G s l i).bl.count true<=5000:=by
    have h1:=List.count_le_length (a:=true) (l:=(jL k G s l i).bl);rw [Di k G s l i (by omega)]at h1;omega
   generalize DV:G.score s+1+(jL k G s l i).bl.count true=sc at*;have ew:u64.wrap ((sc:Int)+(1:Int))=((sc+1:Nat):Int):=by
    rw [show(sc:Int)+1=((sc+1:Nat):Int)by omega];exact js (by omega)
   refine⟨_,zZ PU Nu,_,JE.f32,JE.wr (by omega),?_⟩;intro tV nJ;have aeo:mc tV y.heap.size q sm bb ⟨s,sc+1,cD G s l,(jL k G s l i).bl++ [true]⟩ ov A n cp E' (e+1) rY:=by
    show mc (sd.setCell (((⟨q,0,none⟩:Addr).add 0).add 32) (.int .u64 (u64.wrap ((sc:Int)+(1:Int))))) _ _ _ _ _ _ _ _ _ _ _ _
    rw [ew];exact(JE.PC (sc+1)).1
   have GP:Kept (· =q) sd tV:=mc.TT (h:=JE) 32 _;have wT:Kept Nil tV nJ:=(Kept.refl _ _).drew;clear_value nJ tV;have Cz:=aeo.same wT;have DM:Kept (· =q) sd nJ:=GP.trans wT (fun _ _ h=>h.elim);have zE:=PU.trans DM (fun j hj e=>.inl e);have DO:Kept (fun j=>j=q\/aW E=some j) EB nJ:=Iz.trans DM (fun j hj e=>.inl e);have JR:∀j,v.heap.size<=j->¬(j=q\/aW E=some j):=fun j hj e=>by
    rcases e with e|e
    ·omega
    ·have:=Yg j e;omega
   have OK:=DO.heap Xn (JR _ (Nat.le_refl _));have W9:=DO.heap adD (JR _ (by omega));have Ye:yD nJ ir.heap.size kn jT:=RQ.az DO (JR _ (by omega));have Rc:∀z,(if z∈jT then some (Value.int .i64 (kn z:Int))else none)≠none↔z∈jT:=fun z=>by
    by_cases hz:z∈jT
    ·rw [if_pos hz];exact⟨fun _=>hz,fun _ e=>by cases e⟩
    ·rw [if_neg hz];exact⟨fun e=>absurd rfl e,fun e=>absurd e hz⟩
   obtain⟨pU,acm,X0,rV⟩:=Cz.note x jT.length;have s33:=DO.size;have aa8:=zE.trans rV (fun j hj e=>.inr (.inl e));have aeC:yD pU ir.heap.size kn jT:=Ye.az rV (by omega);have adC:=rV.heap W9 (by omega);have Xm:=rV.heap OK (by omega);have QM:bL pU y.heap.size Ab nb cb bl:=Row.az (Row.az I2 DM (fun j hj e=>by have:=JJ j hj;omega)) rV (fun j hj e=>by have:=JJ j hj;omega);have Xu:=rV.heap (DM.heap OS (fun e=>hS.qs.2.1 e.symm)) (fun e=>hS.qs.2.2 e.symm);obtain⟨w38,xo,ack,hit,LP⟩:=aeC.range rk;have s36:=rV.size;have s38:=LP.size;refine⟨_,zZ zE Nu,some sm,Cz.f35,x.1,⟨x.2.1,Cells.bz OK⟩,some ir.heap.size,by rw [ay W9];rfl,jT.length,Ye.len rk iO c1 Rc,pU,acm,some ir.heap.size,by rw [ay adC];rfl,_,w38,ack,?_⟩;refine ai.rr (I:=fun _ u=>∃left xo Ns,nC u ir.heap.size pU.heap.size (fun z=>if z∈jT then some (Value.int .i64 (kn z:Int))else none) left xo/\mc u y.heap.size q sm bb ⟨s,sc+1,cD G s l,(jL k G s l i).bl++ [true]⟩ Ns A n cp E' (e+1) rY/\
    (∀z,(left z->z∈jT)/\(z∈jT->¬left z->Ns z=some (kn z+1))/\((z∉jT\/left z)->Ns z=if z=x then some jT.length else ov z))/\Kept (fun j=>j=sm\/j=pU.heap.size) w38 u) (μ:=fun _ u=>u.rangeLeft ir.heap.size pU.heap.size) (s:=())
    ⟨_,xo,_,hit,X0.same LP,fun z=>⟨fun hz=>(Rc z).1 hz,fun hz hl=>absurd ((Rc z).2 hz) hl,fun _=>rfl⟩,Kept.refl _ _⟩ ?_
   rintro s1 u3 ⟨left,ae3,Ns,Cu,RN,hinv,ku⟩;have su3:=ku.size;have lit:=Cu.lt;have ky3:Kept (fun j=>j=q\/j=sm\/j=bb) y u3:=(aa8.trans LP (fun _ _ h=>h.elim)).trans ku (fun j hj e=>by
    rcases e with e|e
    ·exact .inr (.inl e)
    ·omega)
   rcases Cu.next 0 with⟨h0',Jc,jj⟩|⟨z,val,u4,R1,hl,hfz,jj,Rr,Q7,cH,k4⟩
   ·refine .inl ⟨u3,jj,?_⟩
    rw [aP,ai.xD];unfold ai.rU;have Xv:=ku.heap (LP.heap Xu (fun h=>h)) (by have:=hS.qs;omega);have Gd:=ku.heap (LP.heap Xm (fun h=>h)) (by omega);have Vz:bL u3 y.heap.size Ab nb cb bl:=Row.az (Row.az QM LP (fun _ _ h=>h)) ku (fun j hj e=>by have:=JJ j hj;omega);refine⟨Ab,nb,cb,by rw [ay Xv];rfl,x.1,⟨x.2.1,Cells.bz Gd⟩,x.2.1,?_⟩;intro Kw;have SJ:Kept Nil u3 Kw:=(Kept.refl _ _).alloc _;have abL:HS Kw (some ⟨u3.heap.size,0,none⟩) 1 [x]:=jA u3 x;clear_value Kw;have s50:=SJ.size;have QK:bL Kw y.heap.size Ab nb cb bl:=Row.az Vz SJ (fun _ _ h=>h);obtain⟨A6,c6,Hk,QQ,Nn,g51,aeI⟩:=cO aA QK (cx:=1) abL (by omega) (by omega);have Zl:Kept (fun j=>aW Ab=some j) Kw Hk:=(Kept.refl _ _).grown g51 fun j hj _=>hj;have OR:=Zl.heap (SJ.heap Xv (fun h=>h)) (fun e=>by have:=JJ bb e;omega);refine⟨A6,nb+1,c6,Hk,QQ,dJ OR (by simp),?_⟩;intro Ni;have Xt:Ni.heap[bb]? =some (.cells #[.slice A6 (nb+1) c6] aA (0,0)):=by
     show(Hk.setCell ⟨bb,0,none⟩ (.slice A6 (nb+1) c6)).heap[bb]? =_;rw [cV OR 0];rfl
    have Io:Kept (· =bb) Hk Ni:=Kept.setCell (S:=(· =bb)) (Kept.refl _ Hk) (p:=⟨bb,0,none⟩) (fun _=>rfl) _;clear_value Ni;have vR:Kept (fun j=>aW Ab=some j\/j=bb) u3 Ni:=((SJ.mono fun _ _ h=>h.elim).trans Zl (fun _ _ h=>.inl h):Kept (fun j=>aW Ab=some j\/j=bb) u3 Hk).trans Io (fun _ _ h=>.inr h);have aen:mc Ni y.heap.size q sm bb ⟨s,sc+1,cD G s l,(jL k G s l i).bl++ [true]⟩ Ns A n cp E' (e+1) rY:=RN.Ie vR
     (fun e=>e.elim (fun e=>by have:=JJ q e;omega) (fun e=>hS.qs.2.1 e)) (fun e=>e.elim (fun e=>by have:=JJ sm e;omega) (fun e=>hS.qs.2.2 e))
     (fun j hj e=>e.elim (fun e=>RV j e hj) (fun e=>by have:=(Row.bz RN.bl hj).1;omega)) (fun a ha e=>e.elim (fun e=>by have:=JJ _ e;have:=(hS.mA a ha).1;omega) (fun e=>(hS.mA a ha).2.2.2 e))
    have tg:bL Ni y.heap.size A6 (nb+1) c6 (bl++ [x]):=Row.az Nn Io (fun j hj e=>by have:=(Row.bz Nn hj).1;omega);rw [dw (n:=(i:Int)) (by omega) (by omega)];have ya:jL k G s l (i+1)=⟨(jL k G s l i).wd++ [x],(jL k G s l i).bl++ [true]⟩:=by rw [pX,om,<-ON];rfl
    have acF:Ns=zo G.D (jL k G s l i).wd ov (mh m.sz ch) x:=by
     funext z
     unfold zo;rw [ac7];by_cases hz:z∈jT
     ·rw [if_pos ((c3 z).1 hz)]
      exact(hinv z).2.1 hz (Jc z)
     ·rw [if_neg (fun e=>hz ((c3 z).2 e)),(hinv z).2.2 (.inl hz),c2]
    refine⟨(i:Int)+1,rfl,⟨i+1,rfl,dQ,⟨Ns,E',e+1,rY,A6,nb+1,c6,bl++ [x],?_,Xt,tg,?_,?_,?_,?_,?_,by omega⟩,?_⟩,by simp only;omega⟩
    ·rw [ya]
     have ec:G.score s+1+((jL k G s l i).bl++ [true]).count true=sc+1:=by rw [List.count_append,<-DV];simp;omega
     show mc Ni y.heap.size q sm bb ⟨s,G.score s+1+((jL k G s l i).bl++ [true]).count true,cD G s l,(jL k G s l i).bl++ [true]⟩ Ns A n cp E' (e+1) rY
     rw [ec];exact aen
    ·rw [ya]
     show(jL k G s l i).wd++ [x]=_;rw [SP,List.append_assoc]
    ·intro j hj he
     rcases aeI j hj with h1|h1
     ·exact RV j h1 he
     ·obtain⟨_,cur,h2⟩:=Row.bz RN.bl he
      have:=aO h2;omega
    ·rw [ya,acF]
     exact hO.step Zo
    ·rw [ya]
     exact List.nodup_append.2 ⟨dW,by simp,fun a ha b hb e=>by
      have:b=x:=by simpa using hb
      subst this;subst e;exact Zo ha⟩
    ·intro z hz
     rcases List.mem_append.1 hz with hz|hz
     ·exact Od z hz
     ·have:z=x:=by simpa using hz
      subst this;rw [List.take_add_one,hx];simp
    ·exact ky3.trans vR (fun j hj e=>by
      rcases e with e|e
      ·have:=JJ j e;omega
      ·exact .inr (.inr e))
   ·have hzc:=(hinv z).1 hl
    rw [if_pos hzc]at hfz;cases hfz;have hkz:=cZ z hzc;refine .inr ⟨_,_,u4,jj,z.1,(kn z:Int),Rr,?_⟩;intro Hf;obtain⟨Qz,Ah,yg⟩:=gP (w:=u4) (z:=dG.1) (cs:=z.1) (t:=aj) (by rw [z.2.1];rfl);refine⟨⟨z.2.1,z.2.one,fun j hj=>Qz j (by rw [z.2.1];exact hj)⟩,?_⟩;intro KX GK
    replace Ah:KX.heap[u4.heap.size]? =some (.cells z.1 aj (0,0)):=Ah
    replace yg:Kept Nil u4 KX:=yg
    have P1:Kept Nil KX GK:=(Kept.refl _ _).drew;clear_value GK KX;have JC:=P1.heap Ah (fun h=>h);have NJ:=yg.tt P1;have DJ:Kept (· =pU.heap.size) u3 GK:=k4.trans NJ (fun _ _ h=>h.elim);have hE3:∀j,aW E'=some j->j≠pU.heap.size:=fun j hj e=>by
     obtain⟨_,cur,h2⟩:=Row.bz X0.bl hj;have:=aO h2;omega
    have XY:=RN.Ie DJ (by omega) (by omega) (fun j hj e=>hE3 j hj e) (fun a ha e=>by have:=(hS.mA a ha).1;omega);have aa7:Kept (fun j=>j=q\/j=sm\/j=bb) y GK:=ky3.trans DJ (fun j hj e=>by omega);have OE:=Q7.az NJ (fun h=>h) (fun h=>h);obtain⟨EG,VI,X1,BX⟩:=XY.note z (kn z+1);have ekz:i64.wrap ((kn z:Int)+(1:Int))=((kn z+1:Nat):Int):=by rw [dw (n:=(kn z:Int)) (by omega) (by omega)];omega
    have s3:=DJ.size;refine⟨_,zZ aa7 Nu,some sm,XY.f35,z.1,⟨z.2.1,Cells.bz JC⟩,EG,by rw [ekz];exact VI,?_⟩;refine⟨(),rfl,⟨_,R1,_,OE.az BX (by omega) (by omega),X1,fun y'=>?_,?_⟩,?_⟩
    ·obtain⟨i1,i2,i3⟩:=hinv y'
     refine⟨fun h=>i1 h.1,fun h1 h2=>?_,fun h=>?_⟩
     ·by_cases e:y'=z
      ·subst e;simp only [if_true]
      ·simp only [if_neg e]
       exact i2 h1 (fun h=>h2 ⟨h,e⟩)
     ·have e:y'≠z:=by
       rcases h with h|h
       ·exact fun e=>h (by rw [e];exact hzc)
       ·exact h.2
      simp only [if_neg e];exact i3 (h.imp_right fun h=>h.1)
    ·exact(ku.trans DJ (fun j hj e=>.inr e)).trans BX (fun j hj e=>.inl e)
    ·show EG.rangeLeft ir.heap.size pU.heap.size<u3.rangeLeft ir.heap.size pU.heap.size
     rw [Cu.left_eq,(OE.az BX (by omega) (by omega)).left_eq];exact cH
 ·rw [aP,ai.jJ]
  have:i=n:=by omega
  subst this;have e1:=Dj k G s l;rw [WA]at e1;rw [e1]at hS hO;have hsq:v.heap[bs]? =some (.cells #[.pointer (some ⟨q,0,none⟩)] fj (0,0)):=kv.heap V.hs (by omega);exact⟨some ⟨q,0,none⟩,by rw [ay hsq];rfl,hK v ov E e ce hS hO kv⟩
end
def En(N:Nat):Prop:=∀ {w:World} {F:Nat->Prop} {c k:Nat} {G:GS} {m:CM} {B:Nat} {A:Option Addr} {n cx:Nat} {l:List HT} {K:Value->World->Prop},CV w F c k G m->bL w B A n cx l->n<=N->l.Nodup->(∀x∈l,x∈ids G.D)->
 (∀j,aW A=some j->¬m.own c j/\¬F j)->(∀l' w',SO G l'->(∀x,x∈l'↔x∈l)->bL w' B A n cx l'->Kept (fun j=>aW A=some j) w w'->K (.tuple #[]) w')->
 bj prog iL.id #[.slice A n cx,.func (.func bp.id) #[.pointer (some ⟨c,0,none⟩)] #[]] w K
section
variable{y v w w':World}{F:Nat->Prop}{c k:Nat}{G:GS}{m:CM}{s:HT}{l ch:List HT}{bs bc bh q sm nL cL:Nat}{AL:Option Addr}{K:Value->World->Prop}
set_option maxHeartbeats 4000000 in
theorem Bz{N:Nat}(zX:En N)(hN:(sA G.D s l).length<=N)(C:CV y F c k G m)(hD:G.D.length<=5000)(nW:k<=1000)(hs:s∈ids G.D)(hc:dh G.D G.P s ch)(hl:∀x∈l,x∈ids G.D)
 (V:VB y c s bs bc bh q sm (fun _=>none)) (hS:yL y y.heap.size q sm ⟨s,G.score s+1,[],[]⟩ (fun _=>none) none 0 0 none 0 0)
 (hL:HS y AL nL (dv (dY G.D l++l))) (hAL:∀a,AL=some a->a.block≠q)
 (hU:∀j,(m.own c j\/F j\/j=bs\/j=bc\/j=bh)->j≠q/\j≠sm)
 (hK:∀v B bb ov A n cp E e ce,mc v B q sm bb (cR k G s l) ov A n cp E e ce->OV G.D (fF k G s l).wd ov (mh m.sz ch)->(∀a,A=some a->y.heap.size<=a.block)->(y.heap.size<=B/\B<=v.heap.size)->Kept (fun j=>j=q\/j=sm) y v->K (.pointer (some ⟨q,0,none⟩)) v):
 Holds none [] prog 153 (.loop (lB (bB (sR (sL (sR (sR (sR (body ai.fn))))))))) (ai.q1 K)
  [(3,.pointer (some ⟨bc,0,none⟩)),(4,.pointer (some ⟨bh,0,none⟩)),(6,.pointer none),(8,.pointer (some ⟨bs,0,none⟩)),(46,.slice AL nL cL),(47,.int .i64 (nL:Int)),(48,.int .i64 0)] y:=by
 have W:=C.fG.W;have lbs:=aO V.hs;have lbc:=aO V.hc;have lbh:=aO V.hh;have Z4:=hU bs (.inr (.inr (.inl rfl)));have Z6:=hU bc (.inr (.inr (.inr (.inl rfl))));have Z5:=hU bh (.inr (.inr (.inr (.inr rfl))));have ahM:=hL.len;have hLi:∀x∈dv (dY G.D l++l),x∈ids G.D:=fun x hx=>by
  rcases List.mem_append.1 (dF.1 hx)with h|h
  ·exact(jn.1 h).1
  ·exact hl x h
 have hLn:nL<=5000:=by
  have:=cQ (iK _).nodup hLi;rw [fX]at this;omega
 generalize hLL:dv (dY G.D l++l)=L at*;refine ai.b6 (I:=fun s0 v=>∃i:Nat,s0=(i:Int)/\i<=nL/\(∃A n cp,yL v y.heap.size q sm ⟨s,G.score s+1,(L.take i).filter fun h=>decide (h≠s/\¬fC G.D h s),[]⟩ (fun _=>none) A n cp none 0 0)/\Kept (· =q) y v) (μ:=fun s0 _=>((nL:Int)-s0).toNat) (s:=0) ⟨0,rfl,Nat.zero_le _,⟨none,0,0,hS⟩,Kept.refl _ _⟩ ?_;rintro s0 v ⟨i,rfl,hi,⟨A,n,cp,MG⟩,kv⟩;have sv:=kv.size;have WB:=bL.len MG.mg;have hnA:n<=5000:=by
  have h1:=List.length_filter_le (fun h=>decide (h≠s/\¬fC G.D h s)) (L.take i);have h2:=List.length_take_le i L;have h3:((L.take i).filter fun h=>decide (h≠s/\¬fC G.D h s)).length=n:=WB;omega
 refine Split.dec (fun jc=>?_) (fun gq=>?_)
 ·have dQ:i<nL:=by omega
  obtain⟨x,hx⟩:∃x,L[i]? =some x:=⟨_,List.getElem?_eq_getElem (by omega)⟩;have Gl:L.take (i+1)=L.take i++ [x]:=by rw [List.take_add_one,hx];rfl
  have hLv:HS v AL nL L:=hL.az kv hAL;refine hLv.load (i:=(i:Int)) (by omega) hx ?_;intro lh;obtain⟨sM,jg,jk⟩:=gP (w:=v) (z:=dG.1) (cs:=x.1) (t:=aj) (by rw [x.2.1];rfl);refine⟨⟨x.2.1,x.2.one,fun j hj=>sM j (by rw [x.2.1];exact hj)⟩,?_⟩;intro ir mQ
  replace jg:ir.heap[v.heap.size]? =some (.cells x.1 aj (0,0)):=jg
  replace jk:Kept Nil v ir:=jk
  have tq:Kept Nil ir mQ:=(Kept.refl _ _).drew;clear_value mQ ir;have Jx:=tq.heap jg (fun h=>h);have PZ:=jk.tt tq;have FB:Kept (· =q) y mQ:=kv.trans PZ (fun _ _ h=>h.elim);have C15:CV mQ F c k G m:=C.az FB (fun j hj e=>(hU j (.inl hj)).1 e) (fun j hj e=>(hU j (.inr (.inl hj))).1 e);have ZJ:∀ {u:World},Kept (· =q) y u->u.cell? ⟨bc,0,none⟩=some (.pointer (some ⟨c,0,none⟩)):=fun ku=>by rw [ay (ku.heap V.hc Z6.1)];rfl
  have QI:∀ {u:World},Kept (· =q) y u->u.cell? ⟨bs,0,none⟩=some (.pointer (some ⟨q,0,none⟩)):=fun ku=>by rw [ay (ku.heap V.hs Z4.1)];rfl
  have next:∀ {u:World} {A':Option Addr} {n' wc:Nat},yL u y.heap.size q sm ⟨s,G.score s+1,(L.take (i+1)).filter fun h=>decide (h≠s/\¬fC G.D h s),[]⟩ (fun _=>none) A' n' wc none 0 0->Kept (· =q) y u->
   ∃s1:Int,i64.wrap ((i:Int)+(1:Int))=s1/\(∃i':Nat,s1=(i':Int)/\i'<=nL/\(∃A n cp,yL u y.heap.size q sm ⟨s,G.score s+1,(L.take i').filter fun h=>decide (h≠s/\¬fC G.D h s),[]⟩ (fun _=>none) A n cp none 0 0)/\Kept (· =q) y u)/\((nL:Int)-s1).toNat<((nL:Int)-(i:Int)).toNat:=fun h1 h2=>by
   rw [dw (n:=(i:Int)) (by omega) (by omega)];exact⟨(i:Int)+1,rfl,⟨i+1,rfl,dQ,⟨_,_,_,h1⟩,h2⟩,by omega⟩
  refine⟨x.1,⟨x.2.1,Cells.bz Jx⟩,s.1,⟨s.2.1,Cells.bz (FB.heap V.hh Z5.1)⟩,⟨x.2.ints,s.2.ints⟩,?_⟩;rw [dL];by_cases LY:x=s
  ·refine Split.no (by rw [decide_eq_true LY];rfl) ?_
   obtain⟨s1,e1,e2,e3⟩:=next (u:=mQ) (by
    rw [Gl,List.filter_append];have: [x].filter (fun h=>decide (h≠s/\¬fC G.D h s))= []:=by rw [List.filter_cons_of_neg (by simp [LY])];rfl
    rw [this,List.append_nil];exact MG.same PZ) FB
   rw [e1];exact⟨s1,rfl,e2,e3⟩
  ·refine Split.yes (by rw [decide_eq_false LY];rfl) ⟨_,ZJ FB,_,C15.c1,x.1,⟨x.2.1,Cells.bz Jx⟩,s.1,⟨s.2.1,Cells.bz (FB.heap V.hh Z5.1)⟩,?_⟩
   obtain⟨mx,X15,_⟩:=C15.X;refine lD X15 hD x s fun EB r hr Bh=>⟨r,rfl,?_⟩;have Lw:Kept (· =q) y EB:=FB.trans Bh (fun _ _ h=>h.elim);have UB:=PZ.tt Bh;cases r with
   |true=>
    refine Split.no rfl ?_;obtain⟨s1,e1,e2,e3⟩:=next (u:=EB) (by
     rw [Gl,List.filter_append];have: [x].filter (fun h=>decide (h≠s/\¬fC G.D h s))= []:=by rw [List.filter_cons_of_neg (by simp [hr.1 rfl])];rfl
     rw [this,List.append_nil];exact MG.same UB) Lw
    rw [e1];exact⟨s1,rfl,e2,e3⟩
   |false=>
    refine Split.yes rfl ?_;intro yR;have Iy:Kept Nil EB yR:=(Kept.refl _ _).drew;clear_value yR;have abh:=UB.tt Iy;have zF:Kept (· =q) y yR:=Lw.trans Iy (fun _ _ h=>h.elim);have JG:=MG.same abh;refine⟨_,QI zF,_,QI zF,A,n,cp,JG.f33,x.1,⟨x.2.1,Cells.bz ((Bh.tt Iy).heap Jx (fun h=>h))⟩,x.2.1,?_⟩;intro lJ;have qh:Kept Nil yR lJ:=(Kept.refl _ _).alloc _;have abQ:HS lJ (some ⟨yR.heap.size,0,none⟩) 1 [x]:=jA yR x;clear_value lJ;have JF:=JG.same qh;have uS:Kept (· =q) y lJ:=zF.trans qh (fun _ _ h=>h.elim);have Y7:=uS.size;obtain⟨A',wc,u,Vx,ku,JE,k5,hw5⟩:=JF.Uc Y7 (by omega) abQ;have kyu:Kept (· =q) y u:=uS.trans ku (fun j hj e=>by omega);refine⟨JF.f33,QI uS,QI uS,A',n+1,wc,u,Vx,QI kyu,hw5,?_⟩;intro sd
    replace JE:yL sd y.heap.size q sm _ (fun _=>none) A' (n+1) wc none 0 0:=JE
    replace k5:Kept (fun j=>j=q\/y.heap.size<=j) lJ sd:=k5
    clear_value sd;obtain⟨s1,e1,e2,e3⟩:=next (u:=sd) (by
     rw [Gl,List.filter_append];have: [x].filter (fun h=>decide (h≠s/\¬fC G.D h s))= [x]:=by rw [List.filter_cons_of_pos (by simp only [decide_eq_true_eq];exact⟨LY,fun e=>by have:=hr.2 e;cases this⟩)];rfl
     rw [this];exact JE) (uS.trans k5 (fun j hj e=>by
      rcases e with e|e
      ·exact e
      ·omega))
    rw [e1];exact⟨s1,rfl,e2,e3⟩
 ·rw [aP,ai.cX]
  have fN:i=nL:=by omega
  subst fN;rw [List.take_of_length_le (by omega)]at MG;unfold ai.cI;intro nJ;have wT:Kept Nil v nJ:=(Kept.refl _ _).drew;clear_value nJ;have Cz:=MG.same wT;have zE:Kept (· =q) y nJ:=kv.trans wT (fun _ _ h=>h.elim);have C33:CV nJ F c k G m:=C.az zE (fun j hj e=>(hU j (.inl hj)).1 e) (fun j hj e=>(hU j (.inr (.inl hj))).1 e);have efl:(L.filter fun h=>decide (h≠s/\¬fC G.D h s))=sA G.D s l:=by unfold sA;rw [hLL]
  have Ck:bL nJ y.heap.size A n cp (sA G.D s l):=by rw [<-efl];exact Cz.mg
  have RU:∀j,aW A=some j->y.heap.size<=j/\j<nJ.heap.size:=fun j hj=>by obtain⟨g1,cur,g2⟩:=Row.bz Ck hj;exact⟨g1,aO g2⟩
  refine⟨some ⟨q,0,none⟩,by rw [ay (zE.heap V.hs Z4.1)];rfl,A,n,cp,Cz.f33,some ⟨c,0,none⟩,by rw [ay (zE.heap V.hc Z6.1)];rfl,?_⟩;refine zX C33 Ck (by have:=bL.len Ck;omega) (qx _ _ _) (fun x hx=>hLi x (by rw [<-efl]at hx;exact(List.mem_filter.1 hx).1)) (fun j hj=>⟨fun e=>by have:=C.low j (.inl e);have:=(RU j hj).1;omega,fun e=>by have:=C.low j (.inr e);have:=(RU j hj).1;omega⟩) fun l' nI FV ig I1 Bg=>⟨rfl,?_⟩;have el:l'=cD G s l:=sC FV ig;subst el;have qB:=MG.qB;have sB:=MG.sB;have hqs:=MG.qs;have s33:=zE.size;have Us:Kept (· =q) y nI:=zE.trans Bg (fun j hj e=>by have:=(RU j e).1;omega);have QF:=Bg.heap Cz.top (fun e=>by have:=(RU q e).1;omega);have VV:=Cz.ov.az Bg (fun e=>by have:=(RU sm e).1;omega);intro iS pU;have mF:Kept Nil nI iS:=(Kept.refl _ _).alloc _;have RE:iS.heap[nI.heap.size]? =some (.cells #[.slice none 0 0] aA (0,0)):=aH nI _;have rV:Kept Nil iS pU:=(Kept.refl _ _).alloc _;have Q6:pU.heap[iS.heap.size]? =some (.cells #[.nilFunc] fu (0,0)):=aH iS _;refine⟨dJ Q6 (by simp),?_⟩;intro wx;have WJ:wx.heap[iS.heap.size]? =some (.cells #[.func (.func bR.id) #[] #[.pointer (some ⟨bs,0,none⟩),.pointer (some ⟨bc,0,none⟩),.pointer (some ⟨bh,0,none⟩)]] fu (0,0)):=by
   show(pU.setCell ⟨iS.heap.size,0,none⟩ _).heap[iS.heap.size]? =_;rw [cV Q6 0];rfl
  have FI:Kept (· =iS.heap.size) pU wx:=Kept.setCell (S:=(· =iS.heap.size)) (Kept.refl _ pU) (p:=⟨iS.heap.size,0,none⟩) (fun _=>rfl) _;clear_value wx;have wS:=mF.tt rV;have s35:=mF.size;have s36:=rV.size;have l35:=aO RE;have l36:=aO Q6;have DL:Kept Nil nI wx:=⟨FI.os.trans wS.os,FI.tape.trans wS.tape,FI.output.trans wS.output,Nat.le_trans wS.size FI.size,fun j hj hn=>by rw [FI.block j (Nat.lt_of_lt_of_le hj wS.size) (by omega),wS.block j hj hn]⟩;have aea:=FI.heap (rV.heap RE (fun h=>h)) (by omega);have l37:=aO WJ;clear_value pU iS;have Fz:Kept (· =q) y wx:=Us.trans DL (fun _ _ h=>h.elim);have s34:=Us.size;have s37:=Fz.size;have C37:CV wx F c k G m:=C.az Fz (fun j hj e=>(hU j (.inl hj)).1 e) (fun j hj e=>(hU j (.inr (.inl hj))).1 e);have IS:=DL.heap QF (fun h=>h);have Ot:=VV.az DL (fun h=>h);have QL:bL wx y.heap.size A n cp (cD G s l):=Row.az I1 DL (fun _ _ h=>h);have V37:VB wx c s bs bc bh q sm (fun _=>none):=⟨Fz.heap V.hs Z4.1,Fz.heap V.hc Z6.1,Fz.heap V.hh Z5.1,by rw [a8,ay IS];exact(eW ..).2.2.2,Ot⟩;have ZX:∀a,A=some a->y.heap.size<=a.block/\a.block<nI.heap.size:=fun a ha=>by
   subst ha;obtain⟨g1,cur,g2⟩:=Row.bz I1 (k:=a.block) rfl;exact⟨g1,aO g2⟩
  have XZ:mc wx wx.heap.size q sm nI.heap.size ⟨s,G.score s+1,cD G s l,[]⟩ (fun _=>none) A n cp none 0 0:=
   ⟨IS,QL.hs,fun a ha=>by have:=ZX a ha;exact⟨by omega,by omega,by omega,by omega⟩,Row.nil _ _ _ _,Ot,by omega,by omega,by omega,⟨hqs,by omega,by omega⟩⟩
  refine⟨some ⟨q,0,none⟩,by rw [ay V37.hs];rfl,A,n,cp,XZ.f33,?_⟩;have Ve:(jL k G s l 0)=⟨G.world s++ [s],[]⟩:=rfl;refine Bw (l:=l) C37 hD nW hs hc (fun x hx=>hLi x (by
   have h1:=(ig x).1 hx;rw [<-efl]at h1;exact(List.mem_filter.1 h1).1)) V37 WJ (fun j hj=>?_) ⟨⟨fun _=>none,none,0,0,none,0,0,[],XZ,aea,bL.nil _ _,by rw [Ve,List.append_nil],fun j hj=>by simp [aW]at hj,by rw [Ve];exact C.Z |>.ov hs hc,?_,fun z hz=>by simp at hz,rfl⟩,Kept.refl _ _⟩ hnA fun v' ov E e ce h1 h2 h3=>?_
  ·have h1:j<y.heap.size\/j=iS.heap.size:=by
    rcases hj with h|h|h|h|h|h
    ·exact .inl (C.low j (.inl h))
    ·exact .inl (C.low j (.inr h))
    ·exact .inl (by omega)
    ·exact .inl (by omega)
    ·exact .inl (by omega)
    ·exact .inr h
   rcases h1 with h1|h1
   ·have h2:j≠q/\j≠sm:=by
     rcases hj with h|h|h|h|h|h
     ·exact hU j (.inl h)
     ·exact hU j (.inr (.inl h))
     ·exact hU j (.inr (.inr (.inl h)))
     ·exact hU j (.inr (.inr (.inr (.inl h))))
     ·exact hU j (.inr (.inr (.inr (.inr h))))
     ·omega
    exact⟨h2.1,h2.2,by omega⟩
   ·exact⟨by omega,by omega,by omega⟩
  ·rw [Ve]
   obtain⟨g1,g2,_⟩:=C.fG.wd s hs;exact List.nodup_append.2 ⟨g1,by simp,fun a ha b hb e=>by
    have:b=s:=by simpa using hb
    subst this;subst e;exact fC.irrefl W a (g2 a ha)⟩
  ·refine hK v' wx.heap.size nI.heap.size ov A n cp E e ce h1 h2 (fun a ha=>(ZX a ha).1) ⟨s37,h3.size⟩ ?_
   exact(Fz.mono fun _ _ h=>.inl h).trans h3 (fun j hj e=>by
    rcases e with e|e|e
    ·exact .inl e
    ·exact .inr e
    ·omega)
end
theorem R8:Tp prog bg=some ([(0,32),(32,1),(33,1),(34,1)],List.replicate 32 (.int .u8 0)++ [.int .u64 0,.slice none 0 0,.slice none 0 0]):=by kernel_rfl
theorem vx(h:HT)(z:Int):prog.built bg [(0,.agg h.1),(1,.int .u64 z)]=some (h.1++ #[.int .u64 z,.slice none 0 0,.slice none 0 0]):=by
 have hs:=h.2.1;rw [ns R8,iH (off:=0) (size:=32) rfl (by simpa [Value.cells]using hs) (by simp),iH (off:=32) (size:=1) rfl rfl (by
  rw [List.size_toArray,lO (by simp [Value.cells,hs])];simp)]
 simp only [Instr.fill,Option.some.injEq];apply Array.ext';unfold gH;simp [Value.cells,hs];rw [List.drop_append];simp [hs]
theorem M0:Tp prog dV=some ([(0,35),(35,1)],List.replicate 32 (.int .u8 0)++ [.int .u64 0,.slice none 0 0,.slice none 0 0,.map none]):=by kernel_rfl
theorem xq(c:oC)(sm:Option Nat):prog.built dV [(0,.agg (cF c none 0 0 none 0 0)),(1,.map sm)]=some (cF c none 0 0 none 0 0++ #[.map sm]):=by
 have hs:=aS c none 0 0 none 0 0;rw [ns M0,iH (off:=0) (size:=35) rfl (by simpa [Value.cells]using hs) (by simp),iH (off:=35) (size:=1) rfl rfl (by
  rw [List.size_toArray,lO (by simp [Value.cells,hs])];simp)]
 simp only [Instr.fill,Option.some.injEq];apply Array.ext';unfold gH;simp [Value.cells,hs]
section
variable{g1 v w w':World}{F:Nat->Prop}{c k:Nat}{G:GS}{m:CM}{s:HT}{l ch:List HT}{bs bc bh q sm n cx:Nat}{A:Option Addr}{K:Value->World->Prop}
theorem KZ{N:Nat}(zX:En N)(hN:(sA G.D s l).length<=N)(C:CV g1 F c k G m)(hT:rZ g1)(hD:G.D.length<=5000)(nW:k<=1000)(hs:s∈ids G.D)(hc:dh G.D G.P s ch)(hl:∀x∈l,x∈ids G.D)(DZ:HS g1 A n l)(hn:n<=5000)
 (V:VB g1 c s bs bc bh q sm (fun _=>none)) (gJ:g1.heap[q]? =some (.cells (cF ⟨s,G.score s+1,[],[]⟩ none 0 0 none 0 0++ #[.map (some sm)]) dV (0,0)))
 (hU:∀j,(m.own c j\/F j\/j=bs\/j=bc\/j=bh)->j≠q/\j≠sm) (hqs:q≠sm) {p:Nat} (hp:∃mx,XV g1 m.FX m.x G.D G.P mx/\mx.g=p)
 (hK:∀v B bb ov A n cp E e ce,mc v B q sm bb (cR k G s l) ov A n cp E e ce->OV G.D (fF k G s l).wd ov (mh m.sz ch)->(∀a,A=some a->g1.heap.size<=a.block)->(g1.heap.size<=B/\B<=v.heap.size)->Kept (fun j=>j=q\/j=sm) g1 v->K (.pointer (some ⟨q,0,none⟩)) v):
 bj prog aR.id #[.pointer (some ⟨p,0,none⟩),.slice A n cx] g1 fun i1 j1=>∃k1:Option Addr,∃m1 n1:Nat,i1=.slice k1 m1 n1/\
  ∃(o1:Option Addr) (p1 q1:Nat) (r1:World),(Builtin.append_ #[aA,aA] aA #[.slice k1 m1 n1,.slice A n cx]).run prog j1=.ok (.slice o1 p1 q1) r1/\
  bj prog iX.id #[.slice o1 p1 q1] r1 fun t1 u1=>∃v1:Option Addr,∃x1 y1:Nat,t1=.slice v1 x1 y1/\
  Holds none [] prog 153 (.loop (lB (bB (sR (sL (sR (sR (sR (body ai.fn))))))))) (ai.q1 K)
   [(3,.pointer (some ⟨bc,0,none⟩)),(4,.pointer (some ⟨bh,0,none⟩)),(6,.pointer none),(8,.pointer (some ⟨bs,0,none⟩)),(46,.slice v1 x1 y1),(47,.int .i64 (x1:Int)),(48,.int .i64 0)] u1:=by
 have W:=C.fG.W;obtain⟨mx,X,rfl⟩:=hp;obtain⟨bl,c',mb,M,GG⟩:=X.G;have lq:=aO gJ;have lsm:=V.ov.lt;refine vr GG W (by omega) hT DZ (by omega) fun A1 c1 w1 ke k1=>⟨A1,_,c1,rfl,?_⟩;have qk:(dY G.D l).length<=5000:=Nat.le_trans (lT _ _) hD;have s1:=k1.size;obtain⟨A2,c2,w2,jj,fW,g2,Yk⟩:=cO aA ke (cx:=cx) (DZ.same k1) (by omega) s1;have k2:Kept (fun j=>g1.heap.size<=j) w1 w2:=(Kept.refl _ _).grown g2 fun j hj _=>(Row.bz ke hj).1;have oI:Kept Nil g1 w2:=k1.trans k2 (fun j hj e=>by omega);refine⟨A2,_,c2,w2,jj,?_⟩;refine iI fW.hs (by omega) fun A3 c3 w3 mD k3=>⟨A3,_,c3,rfl,?_⟩;have nV:=oI.tt k3;have s02:=oI.size;have s03:=nV.size;have V3:=V.same nV;refine Bz (l:=l) zX hN (C.same nV) hD nW hs hc hl V3 ⟨nV.heap gJ (fun h=>h),bL.nil _ _,Row.nil _ _ _ _,V3.ov,by omega,by omega,hqs,fun j hj=>by simp [aW]at hj⟩ mD.hs (fun a ha=>?_) hU fun v B bb ov A n cp E e ce h1 h2 h3 h4 h5=>?_
 ·subst ha
  have:=(Row.bz mD (k:=a.block) rfl).1;omega
 ·exact hK v B bb ov A n cp E e ce h1 h2 (fun a ha=>Nat.le_trans s03 (h3 a ha)) ⟨Nat.le_trans s03 h4.1,h4.2⟩ ((nV.mono fun _ _ h=>h.elim).tt h5)
end
section
variable{w w':World}{F:Nat->Prop}{c k:Nat}{G:GS}{m:CM}{s:HT}{l ch:List HT}{n cx:Nat}{A:Option Addr}{K:Value->World->Prop}
set_option maxHeartbeats 4000000 in
theorem CB{N:Nat}(zX:En N)(hN:(sA G.D s l).length<=N)(C:CV w F c k G m)(hT:rZ w)(hD:G.D.length<=5000)(nW:k<=1000)(hs:s∈ids G.D)(hc:dh G.D G.P s ch)(hl:∀x∈l,x∈ids G.D)(DZ:HS w A n l)(hn:n<=5000)
 (hK:∀v q B sm bb ov A n cp E e ce,mc v B q sm bb (cR k G s l) ov A n cp E e ce->OV G.D (fF k G s l).wd ov (mh m.sz ch)->w.heap.size<=q->w.heap.size<=sm->(∀a,A=some a->w.heap.size<=a.block)->(w.heap.size<=B/\B<=v.heap.size)->Kept Nil w v->K (.pointer (some ⟨q,0,none⟩)) v):
 bj prog ai.id #[.pointer (some ⟨c,0,none⟩),.agg s.1,.slice A n cx] w K:=by
 refine ai.of ?_;unfold ai.W;intro w1 w2;have k1:Kept Nil w w1:=(Kept.refl _ _).alloc _;have Xk:w1.heap[w.heap.size]? =some (.cells #[.pointer (some ⟨c,0,none⟩)] gQ (0,0)):=aH w _;have k2:Kept Nil w1 w2:=(Kept.refl _ _).alloc _;have Ci:w2.heap[w1.heap.size]? =some (.cells s.1 aj (0,0)):=aH w1 _;clear_value w2;have OJ:=k2.heap Xk (fun h=>h);have oI:=k1.tt k2;have s1:=k1.size;have l1:=aO Xk;have l2:=aO Ci;clear_value w1;have C2:=C.same oI;obtain⟨mx2,X2,_⟩:=C2.X;refine⟨some ⟨c,0,none⟩,by rw [ay OJ];rfl,_,C2.c1,ek.of (Split.no rfl (Is.mk rfl ⟨_,X2.c0,⟨_,rfl,?_⟩⟩))⟩;intro w3;have k3:Kept Nil w2 w3:=(Kept.refl _ _).drew;clear_value w3;have nV:=oI.tt k3;have Tf:=k3.heap OJ (fun h=>h);have Cg:=k3.heap Ci (fun h=>h);have C3:=C.same nV;obtain⟨A1,n1,c1,B1,m1,d1,s1',sa⟩:=C3.seen s hs;have QJ:G.score s<=5000:=by
  have h1:=(C.fG.wd s hs).2.2;have h2:=cQ (m:=ids G.D) (C.fG.wd s hs).1 (fun b hb=>(((C.fG.wd s hs).2.1 b hb).mem C.fG.W).1);rw [fX]at h2;omega
 have ew:u64.wrap (((G.gR s).score:Int)+(1:Int))=((G.score s+1:Nat):Int):=by
  show u64.wrap ((G.score s:Int)+(1:Int))=_
  rw [show(G.score s:Int)+1=((G.score s+1:Nat):Int)by omega];exact js (by omega)
 have mK:∀ {u:World},Kept Nil w3 u->u.cell? ⟨w.heap.size,0,none⟩=some (.pointer (some ⟨c,0,none⟩)):=fun ku=>by rw [ay (ku.heap Tf (fun h=>h))];rfl
 have ua:∀ {u:World},Kept Nil w3 u->∃cs:Array Value,(.agg s.1:Value)=.agg cs/\cs.size=32/\Cells u ⟨w1.heap.size,0,none⟩ cs:=fun ku=>⟨s.1,rfl,s.2.1,Cells.bz (ku.heap Cg (fun h=>h))⟩;have la:∀ {u:World},Kept Nil w3 u->u.cell? (((⟨m.q s,0,none⟩:Addr).add 0).add 32)=some (.int .u64 ((G.gR s).score:Int)):=fun ku=>(sa.az ku (fun _ _ h=>h)).YD;have l3:=aO Cg;have s3:=k3.size;refine⟨s.1,⟨s.2.1,Cells.bz Cg⟩,some ⟨c,0,none⟩,mK (Kept.refl _ _),_,C3.c2,s.1,⟨s.2.1,Cells.bz Cg⟩,_,C3.ot hs,_,la (Kept.refl _ _),?_⟩;rw [ew];rw [vx s];refine Is.mk rfl ?_;have Gm:(s.1++ #[.int .u64 ((G.score s+1:Nat):Int),.slice none 0 0,.slice none 0 0]:Array Value)=cF ⟨s,G.score s+1,[],[]⟩ none 0 0 none 0 0:=rfl;rw [Gm];have go:∀ {u:World} {q sm bs:Nat},Kept Nil w3 u->w3.heap.size<=q->w3.heap.size<=sm->w3.heap.size<=bs->q≠sm->bs≠q->bs≠sm->
  u.heap[q]? =some (.cells (cF ⟨s,G.score s+1,[],[]⟩ none 0 0 none 0 0++ #[.map (some sm)]) dV (0,0))->fp u sm (fun _=>none)->u.heap[bs]? =some (.cells #[.pointer (some ⟨q,0,none⟩)] fj (0,0))->_:=
  fun {u q sm bs} ku hq vF ZO h1 h2 h3 gJ QZ jA=>KZ (g1:=u) (bs:=bs) (bc:=w.heap.size) (bh:=w1.heap.size) (q:=q) (sm:=sm) (cx:=cx) (K:=K) (p:=mx2.g) zX hN (C3.same ku) (hT.same (nV.tt ku)) hD nW hs hc hl (DZ.same (nV.tt ku)) hn
   ⟨jA,ku.heap Tf (fun h=>h),ku.heap Cg (fun h=>h),by rw [a8,ay gJ];exact(eW ..).2.2.2,QZ⟩ gJ
   (fun j hj=>by
     rcases hj with h|h|h|h|h
     ·have:=C.low j (.inl h);exact⟨by omega,by omega⟩
     ·have:=C.low j (.inr h);exact⟨by omega,by omega⟩
     ·exact⟨by omega,by omega⟩
     ·exact⟨by omega,by omega⟩
     ·exact⟨by omega,by omega⟩) h1 ⟨mx2,X2.same (k3.tt ku),rfl⟩
   (fun v B bb ov A n cp E e ce t1 t2 t3 t4 t5=>hK v q B sm bb ov A n cp E e ce t1 t2 (by omega) (by omega) (fun a ha=>by have:=t3 a ha;have:=(nV.tt ku).size;omega) ⟨by have:=(nV.tt ku).size;have:=t4.1;omega,t4.2⟩ ((nV.tt ku).trans t5 (fun j hj e=>by omega)))
 have PA:∀ {u0:World} {b q:Nat},u0.heap[b]? =some (.cells #[.pointer none] fj (0,0))->Wr u0 ⟨b,0,none⟩/\∀u1,u1=u0.setCell ⟨b,0,none⟩ (.pointer (some ⟨q,0,none⟩))->u1.heap[b]? =some (.cells #[.pointer (some ⟨q,0,none⟩)] fj (0,0))/\Kept (· =b) u0 u1:=fun {u0 b q} hb=>⟨dJ hb (by simp),fun u1 e=>by
  subst e;refine⟨?_,Kept.setCell (S:=(· =b)) (Kept.refl _ u0) (p:=⟨b,0,none⟩) (fun _=>rfl) _⟩;rw [cV hb 0];rfl⟩
 refine⟨?_,?_⟩
 ·intro w4
  have k4:Kept Nil w3 w4:=(Kept.refl _ _).alloc _;have hm4:fp w4 w3.heap.size (fun _=>none):=fp.new w3;clear_value w4;have l4:=hm4.lt;refine⟨la k4,(C3.same k4).ot hs,ua k4,(C3.same k4).c2,mK k4,ua k4,?_⟩;rw [xq];refine Is.mk rfl ⟨?_,?_⟩
  ·intro w5 w6
   have k5:Kept Nil w4 w5:=(Kept.refl _ _).alloc _;have hq5:w5.heap[w4.heap.size]? =some (.cells (cF ⟨s,G.score s+1,[],[]⟩ none 0 0 none 0 0++ #[.map (some w3.heap.size)]) dV (0,0)):=aH w4 _;have k6:Kept Nil w5 w6:=(Kept.refl _ _).alloc _;have p7:w6.heap[w5.heap.size]? =some (.cells #[.pointer none] fj (0,0)):=aH w5 _;clear_value w6;have VL:=k6.heap hq5 (fun h=>h);have l5:=aO hq5;clear_value w5;have Ip:=k5.tt k6;have rV:=k4.tt Ip;have s36:=rV.size;obtain⟨t1,t2⟩:=PA (q:=w4.heap.size) p7;refine⟨t1,?_⟩;intro w7;obtain⟨t3,t4⟩:=t2 w7 rfl;clear_value w7;exact go (rV.trans t4 (fun j hj e=>by omega)) (by omega) (by omega) (by omega) (by omega) (by omega) (by omega) (t4.heap VL (by omega)) ((hm4.same Ip).az t4 (by omega)) t3
  ·intro w5
   have k5:Kept Nil w4 w5:=(Kept.refl _ _).alloc _;have nY:w5.heap[w4.heap.size]? =some (.cells #[.pointer none] fj (0,0)):=aH w4 _;clear_value w5;have l5:=aO nY;have mF:=k4.tt k5;refine⟨la mF,(C3.same mF).ot hs,ua mF,(C3.same mF).c2,mK mF,ua mF,?_⟩;intro w6;have k6:Kept Nil w5 w6:=(Kept.refl _ _).alloc _;have VL:w6.heap[w5.heap.size]? =some (.cells (cF ⟨s,G.score s+1,[],[]⟩ none 0 0 none 0 0++ #[.map (some w3.heap.size)]) dV (0,0)):=aH w5 _;clear_value w6;have Ip:=k5.tt k6;have rV:=k4.tt Ip;have s35:=mF.size;obtain⟨t1,t2⟩:=PA (q:=w5.heap.size) (k6.heap nY (fun h=>h));refine⟨t1,?_⟩;intro w7;obtain⟨t3,t4⟩:=t2 w7 rfl;clear_value w7;exact go (rV.trans t4 (fun j hj e=>by omega)) (by omega) (by omega) (by omega) (by omega) (by omega) (by omega) (t4.heap VL (by omega)) ((hm4.same Ip).az t4 (by omega)) t3
 ·intro w4
  have k4:Kept Nil w3 w4:=(Kept.refl _ _).alloc _;have rX:w4.heap[w3.heap.size]? =some (.cells #[.pointer none] fj (0,0)):=aH w3 _;clear_value w4;have l4:=aO rX;refine⟨la k4,(C3.same k4).ot hs,ua k4,(C3.same k4).c2,mK k4,ua k4,?_⟩;intro w5;have k5:Kept Nil w4 w5:=(Kept.refl _ _).alloc _;have Tb:fp w5 w4.heap.size (fun _=>none):=fp.new w4;clear_value w5;have l5:=Tb.lt;have mF:=k4.tt k5;refine⟨la mF,(C3.same mF).ot hs,ua mF,(C3.same mF).c2,mK mF,ua mF,?_⟩;rw [xq];refine Is.mk rfl ?_;intro w6;have k6:Kept Nil w5 w6:=(Kept.refl _ _).alloc _;have VL:w6.heap[w5.heap.size]? =some (.cells (cF ⟨s,G.score s+1,[],[]⟩ none 0 0 none 0 0++ #[.map (some w4.heap.size)]) dV (0,0)):=aH w5 _;clear_value w6;have rV:=mF.tt k6;have s35:=mF.size;obtain⟨t1,t2⟩:=PA (q:=w5.heap.size) ((k5.tt k6).heap rX (fun h=>h));refine⟨t1,?_⟩;intro w7;obtain⟨t3,t4⟩:=t2 w7 rfl;clear_value w7;exact go (rV.trans t4 (fun j hj e=>by omega)) (by omega) (by omega) (by omega) (by omega) (by omega) (by omega) (t4.heap VL (by omega)) ((Tb.same k6).az t4 (by omega)) t3
end
end Go.Proofs.YtnboahlopghcjaaGreatDoor
