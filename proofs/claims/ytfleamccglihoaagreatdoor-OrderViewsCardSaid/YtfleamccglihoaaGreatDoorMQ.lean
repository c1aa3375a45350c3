import Derived.Test.YtfleamccglihoaaGreatDoorMP
import Derived.Test.YtfleamccglihoaaGreatDoorMG
open Go.IntKind (i64 u64)
set_option linter.unusedVariables false
namespace Go.Proofs.YtfleamccglihoaaGreatDoor
open Go.Proofs.Tryz
open Go Go.bT Go.RowKit
theorem Cs:zD prog gP iK 1 1:=⟨by kernel_rfl,by kernel_rfl⟩
abbrev sQ(l:List Bool):List Value:=l.map .bool
structure zE(w:World)(B q sm:Nat)(c:ou)(ov:HT->Option Nat)(A:Option Addr)(n cp:Nat)(E:Option Addr)(e ce:Nat):Prop where
 top:w.heap[q]? =some (.cells (cQ c A n cp E e ce++ #[.map (some sm)]) eh (0,0))
 mg:bK w B A n cp c.merge
 bl:Row w B iK 1 E e ce (sQ c.fh)
 ov:fR w sm (K1 ov)
 qB:q<B
 sB:sm<B
 qs:q≠sm
 AE:∀j,a8 A=some j->a8 E≠some j
section
variable{w w':World}{B q sm:Nat}{c:ou}{ov:HT->Option Nat}{A E:Option Addr}{n cp e ce:Nat}{K:Value->World->Prop}
theorem zE.aF{S:Nat->Prop}(h:zE w B q sm c ov A n cp E e ce)(hk:Kept S w w')(h1:¬S q)(h2:¬S sm)(h3:∀j,B<=j->¬S j):zE w' B q sm c ov A n cp E e ce:=
 ⟨hk.heap h.top h1,Row.aF h.mg hk (fun j hj=>h3 j (Row.bI h.mg hj).1),Row.aF h.bl hk (fun j hj=>h3 j (Row.bI h.bl hj).1),h.ov.aF hk h2,h.qB,h.sB,h.qs,h.AE⟩
theorem zE.same(h:zE w B q sm c ov A n cp E e ce)(hk:Kept Nil w w'):zE w' B q sm c ov A n cp E e ce:=h.aF hk (fun h=>h) (fun h=>h) (fun _ _ h=>h)
theorem zE.f33(h:zE w B q sm c ov A n cp E e ce):w.cell? (((⟨q,0,none⟩:Addr).add 0).add 33)=some (.slice A n cp):=by rw [add_zero,br,aD h.top];exact(gE ..).2.1
theorem zE.ad3(h:zE w B q sm c ov A n cp E e ce):∀j,a8 A=some j\/a8 E=some j->B<=j/\j<w.heap.size:=fun j hj=>by
 rcases hj with hj|hj
 ·obtain⟨h1,cur,h2⟩:=Row.bI h.mg hj;exact⟨h1,aQ h2⟩
 ·obtain⟨h1,cur,h2⟩:=Row.bI h.bl hj;exact⟨h1,aQ h2⟩
theorem rH(c:ou)(A:Option Addr)(n cp:Nat)(E:Option Addr)(e ce:Nat)(r:Array Value)(A':Option Addr)(n' xk:Nat):
 (cQ c A n cp E e ce++r).setIfInBounds (0+33) (.slice A' n' xk)=cQ c A' n' xk E e ce++r:=by
 have h0:c.iY.1.size=32:=c.iY.2.1;apply Array.ext';unfold cQ;simp only [Array.toList_setIfInBounds,Array.toList_append,List.append_assoc];rw [List.set_append_right _ _ (by simp [h0])];simp [h0]
theorem rG(c:ou)(A:Option Addr)(n cp:Nat)(E:Option Addr)(e ce:Nat)(r:Array Value)(E':Option Addr)(n' xk:Nat):
 (cQ c A n cp E e ce++r).setIfInBounds (0+34) (.slice E' n' xk)=cQ c A n cp E' n' xk++r:=by
 have h0:c.iY.1.size=32:=c.iY.2.1;apply Array.ext';unfold cQ;simp only [Array.toList_setIfInBounds,Array.toList_append,List.append_assoc];rw [List.set_append_right _ _ (by simp [h0])];simp [h0]
theorem wz(c:ou)(A:Option Addr)(n cp:Nat)(E:Option Addr)(e ce:Nat)(r:Array Value)(s:Nat):
 (cQ c A n cp E e ce++r).setIfInBounds (0+32) (.int .u64 (s:Int))=cQ {c with score:=s} A n cp E e ce++r:=by
 have h0:c.iY.1.size=32:=c.iY.2.1;apply Array.ext';unfold cQ;simp only [Array.toList_setIfInBounds,Array.toList_append,List.append_assoc];rw [List.set_append_right _ _ (by simp [h0])];simp [h0]
theorem zE.SM(h:zE w B q sm c ov A n cp E e ce)(hB:B<=w.heap.size)(hn:n<=100000){x:HT}{b:Nat}(hb:HS w (some ⟨b,0,none⟩) 1 [x]):
 ∃A' xk u,(Builtin.append_ #[ay,ay] ay #[.slice A n cp,.slice (some ⟨b,0,none⟩) 1 1]).run prog w=.ok (.slice A' (n+1) xk) u/\
  Kept (fun j=>B<=j) w u/\zE (u.setCell (((⟨q,0,none⟩:Addr).add 0).add 33) (.slice A' (n+1) xk)) B q sm {c with merge:=c.merge++ [x]} ov A' (n+1) xk E e ce/\
  Kept (fun j=>j=q\/B<=j) w (u.setCell (((⟨q,0,none⟩:Addr).add 0).add 33) (.slice A' (n+1) xk))/\Wr u (((⟨q,0,none⟩:Addr).add 0).add 33):=by
 obtain⟨A',xk,u,hr,fE,hg,hA⟩:=ct ay h.mg (cx:=1) hb (by omega) hB;have ku:Kept (fun j=>B<=j) w u:=(Kept.refl _ _).grown hg fun j hj _=>(Row.bI h.mg hj).1;have kA:Kept (fun j=>a8 A=some j) w u:=(Kept.refl _ _).grown hg fun j hj _=>hj;have qB:=h.qB;have sB:=h.sB;have jx:=ku.heap h.top (by omega);have Db:Row u B iK 1 E e ce (sQ c.fh):=Row.aF h.bl kA (fun j hj e=>h.AE j e hj);have qF:Kept (· =q) u (u.setCell (((⟨q,0,none⟩:Addr).add 0).add 33) (.slice A' (n+1) xk)):=by
  rw [add_zero,br];exact Kept.setCell (S:=(· =q)) (Kept.refl _ u) (p:=⟨q,0+33,none⟩) (fun _=>rfl) _
 have iC:∀ {X:Option Addr} {j:Nat},(∀k,a8 X=some k->B<=k)->a8 X=some j->¬j=q:=fun h hj e=>by have:=h _ hj;omega
 refine⟨A',xk,u,hr,ku,⟨?_,?_,?_,?_,qB,sB,h.qs,?_⟩,?_,?_⟩
 ·show(u.setCell (((⟨q,0,none⟩:Addr).add 0).add 33) (.slice A' (n+1) xk)).heap[q]? =_
  rw [add_zero,br,dh jx,rH];rfl
 ·exact Row.aF fE qF (fun j hj=>iC (fun k hk=>(Row.bI fE hk).1) hj)
 ·exact Row.aF Db qF (fun j hj=>iC (fun k hk=>(Row.bI Db hk).1) hj)
 ·exact(h.ov.aF ku (by omega)).aF qF (fun e=>h.qs e.symm)
 ·intro j hj he
  rcases hA j hj with h1|h1
  ·exact h.AE j h1 he
  ·have:=(h.ad3 j (.inr he)).2;omega
 ·exact(ku.mono fun _ _ h=>.inr h).trans qF (fun _ _ e=>.inl e)
 ·rw [add_zero,br]
  exact dY jx (by rw [Array.size_append,aZ];simp)
end
structure mT(w:World)(B q sm bb:Nat)(c:ou)(ov:HT->Option Nat)(A:Option Addr)(n cp:Nat)(E:Option Addr)(e ce:Nat):Prop where
 top:w.heap[q]? =some (.cells (cQ c A n cp E e ce++ #[.map (some sm)]) eh (0,0))
 mg:HS w A n c.merge
 mA:∀a,A=some a->a.block<B/\a.block≠q/\a.block≠sm/\a.block≠bb
 bl:Row w B iK 1 E e ce (sQ c.fh)
 ov:fR w sm (K1 ov)
 qB:q<B
 sB:sm<B
 bB:bb<B
 qs:q≠sm/\q≠bb/\sm≠bb
section
variable{w w':World}{B q sm bb:Nat}{c:ou}{ov:HT->Option Nat}{A E:Option Addr}{n cp e ce:Nat}{K:Value->World->Prop}
theorem mT.aF{S:Nat->Prop}(h:mT w B q sm bb c ov A n cp E e ce)(hk:Kept S w w')(h1:¬S q)(h2:¬S sm)(h3:∀j,B<=j->j<w.heap.size->¬S j)(h4:∀a,A=some a->¬S a.block):mT w' B q sm bb c ov A n cp E e ce:=
 ⟨hk.heap h.top h1,h.mg.aF hk h4,h.mA,Row.aF h.bl hk (fun j hj=>by obtain⟨g1,cur,g2⟩:=Row.bI h.bl hj;exact h3 j g1 (aQ g2)),h.ov.aF hk h2,h.qB,h.sB,h.bB,h.qs⟩
theorem mT.same(h:mT w B q sm bb c ov A n cp E e ce)(hk:Kept Nil w w'):mT w' B q sm bb c ov A n cp E e ce:=h.aF hk (fun h=>h) (fun h=>h) (fun _ _ _ h=>h) (fun _ _ h=>h)
theorem mT.f32(h:mT w B q sm bb c ov A n cp E e ce):w.cell? (((⟨q,0,none⟩:Addr).add 0).add 32)=some (.int .u64 (c.score:Int)):=by rw [add_zero,br,aD h.top];exact(gE ..).1
theorem mT.f33(h:mT w B q sm bb c ov A n cp E e ce):w.cell? (((⟨q,0,none⟩:Addr).add 0).add 33)=some (.slice A n cp):=by rw [add_zero,br,aD h.top];exact(gE ..).2.1
theorem mT.f34(h:mT w B q sm bb c ov A n cp E e ce):w.cell? (((⟨q,0,none⟩:Addr).add 0).add 34)=some (.slice E e ce):=by rw [add_zero,br,aD h.top];exact(gE ..).2.2.1
theorem mT.f35(h:mT w B q sm bb c ov A n cp E e ce):w.cell? ((⟨q,0,none⟩:Addr).add 35)=some (.map (some sm)):=by rw [br,aD h.top];exact(gE ..).2.2.2
theorem mT.wr(h:mT w B q sm bb c ov A n cp E e ce){j:Nat}(hj:j<36):Wr w (((⟨q,0,none⟩:Addr).add 0).add j):=by
 rw [add_zero,br];exact dY h.top (by rw [Array.size_append,aZ];simp;omega)
theorem mT.Sw{h:mT w B q sm bb c ov A n cp E e ce}(j:Nat)(v:Value):Kept (· =q) w (w.setCell (((⟨q,0,none⟩:Addr).add 0).add j) v):=by
 rw [add_zero,br];exact Kept.setCell (S:=(· =q)) (Kept.refl _ w) (p:=⟨q,0+j,none⟩) (fun _=>rfl) _
theorem mT.HZ(h:mT w B q sm bb c ov A n cp E e ce)(hB:B<=w.heap.size)(hn:e<=100000){x:Bool}{b:Nat}(hb:w.cell? ⟨b,0,none⟩=some (.bool x)):
 ∃E' sP u,(Builtin.append_ #[gP,gP] gP #[.slice E e ce,.slice (some ⟨b,0,none⟩) 1 1]).run prog w=.ok (.slice E' (e+1) sP) u/\
  Kept (fun j=>B<=j/\a8 E=some j) w u/\Wr u (((⟨q,0,none⟩:Addr).add 0).add 34)/\
  mT (u.setCell (((⟨q,0,none⟩:Addr).add 0).add 34) (.slice E' (e+1) sP)) B q sm bb {c with fh:=c.fh++ [x]} ov A n cp E' (e+1) sP/\
  Kept (fun j=>j=q\/a8 E=some j) w (u.setCell (((⟨q,0,none⟩:Addr).add 0).add 34) (.slice E' (e+1) sP))/\(∀j,a8 E'=some j->a8 E=some j\/w.heap.size<=j):=by
 obtain⟨E',sP,u,hr,fE,hg,hE⟩:=fP (P:=prog) (t:=gP) (bytes:=1) (ty:=gP) Cs h.bl (a:=⟨b,0,none⟩) (m:=1) (cx:=1) (news:= [.bool x]) rfl (fun j v hj=>by
  cases j with
  |zero=>simp only [List.getElem?_cons_zero,Option.some.injEq]at hj;subst hj;rw [add_zero];exact hb
  |succ j=>simp at hj) (fun v hv=>by
  have:v=.bool x:=by simpa using hv
  subst this;rfl) (by omega) (by unfold maxLen;omega) hB
 have qB:=h.qB;have sB:=h.sB;have kE:Kept (fun j=>B<=j/\a8 E=some j) w u:=(Kept.refl _ _).grown hg fun j hj _=>⟨(Row.bI h.bl hj).1,hj⟩;have jx:=kE.heap h.top (by omega);have qF:Kept (· =q) u (u.setCell (((⟨q,0,none⟩:Addr).add 0).add 34) (.slice E' (e+1) sP)):=by
  rw [add_zero,br];exact Kept.setCell (S:=(· =q)) (Kept.refl _ u) (p:=⟨q,0+34,none⟩) (fun _=>rfl) _
 refine⟨E',sP,u,hr,kE,?_,⟨?_,?_,h.mA,?_,?_,qB,sB,h.bB,h.qs⟩,?_,hE⟩
 ·rw [add_zero,br]
  exact dY jx (by rw [Array.size_append,aZ];simp)
 ·show(u.setCell (((⟨q,0,none⟩:Addr).add 0).add 34) (.slice E' (e+1) sP)).heap[q]? =_
  rw [add_zero,br,dh jx,rG];rfl
 ·exact(h.mg.aF kE (fun a ha=>by have:=(h.mA a ha).1;omega)).aF qF (fun a ha=>(h.mA a ha).2.1)
 ·have e1:sQ (c.fh++ [x])=sQ c.fh++ [.bool x]:=by simp [sQ]
  show Row _ B iK 1 E' (e+1) sP (sQ (c.fh++ [x]))
  rw [e1];exact Row.aF fE qF (fun j hj=>by have:=(Row.bI fE hj).1;omega)
 ·exact(h.ov.aF kE (by omega)).aF qF (fun e=>h.qs.1 e.symm)
 ·exact(kE.mono fun _ _ h=>.inr h.2).trans qF (fun _ _ e=>.inl e)
theorem mT.OM(h:mT w B q sm bb c ov A n cp E e ce)(s:Nat):
 mT (w.setCell (((⟨q,0,none⟩:Addr).add 0).add 32) (.int .u64 (s:Int))) B q sm bb {c with score:=s} ov A n cp E e ce/\Kept (· =q) w (w.setCell (((⟨q,0,none⟩:Addr).add 0).add 32) (.int .u64 (s:Int))):=by
 have qB:=h.qB;have qF:=mT.Sw (h:=h) 32 (.int .u64 (s:Int));refine⟨⟨?_,h.mg.aF qF (fun a ha=>(h.mA a ha).2.1),h.mA,Row.aF h.bl qF (fun j hj=>by have:=(Row.bI h.bl hj).1;omega),h.ov.aF qF (fun e=>h.qs.1 e.symm),h.qB,h.sB,h.bB,h.qs⟩,qF⟩;rw [add_zero,br,dh h.top,wz]
theorem mT.note(h:mT w B q sm bb c ov A n cp E e ce)(b:HT)(n0:Nat):
 ∃u,(Instr.mapUpdate cK (.map (some sm)) (.agg b.1) (.int .i64 (n0:Int))).run prog w=.ok () u/\mT u B q sm bb c (fun y=>if y=b then some n0 else ov y) A n cp E e ce/\Kept (· =sm) w u:=by
 have sB:=h.sB;obtain⟨u,hr,hm,hk⟩:=h.ov.put si b (.int .i64 (n0:Int));refine⟨u,hr,⟨hk.heap h.top h.qs.1,h.mg.aF hk (fun a ha=>(h.mA a ha).2.2.1),h.mA,Row.aF h.bl hk (fun j hj=>by have:=(Row.bI h.bl hj).1;omega),?_,h.qB,h.sB,h.bB,h.qs⟩,hk⟩;have e1:K1 (fun y=>if y=b then some n0 else ov y)=fun x=>if x=b then some (.int .i64 (n0:Int))else K1 ov x:=by
  funext y
  unfold K1;by_cases e:y=b
  ·simp only [if_pos e,Option.map_some]
  ·simp only [if_neg e]
 rw [e1];exact hm
end
noncomputable def kO(k:Nat)(G:GS)(s:HT)(l:List HT)(i:Nat):VS:=((cP G s l).take i).foldl (oL k G.D) ⟨G.world s++ [s],[]⟩
structure V2(y v:World)(k:Nat)(G:GS)(s:HT)(l:List HT)(base:HT->Nat)(q sm bb:Nat)(A:Option Addr)(n cp i:Nat):Prop where
 ex:∃(ov:HT->Option Nat) (E:Option Addr) (e ce:Nat) (Ab:Option Addr) (nb cb:Nat) (bl:List HT),
  mT v y.heap.size q sm bb ⟨s,G.score s+1+(kO k G s l i).bl.count true,cP G s l,(kO k G s l i).bl⟩ ov A n cp E e ce/\
  v.heap[bb]? =some (.cells #[.slice Ab nb cb] ay (0,0))/\bK v y.heap.size Ab nb cb bl/\(kO k G s l i).wd=G.world s++ [s]++bl/\(∀j,a8 Ab=some j->a8 E≠some j)/\
  OV G.D (kO k G s l i).wd ov base/\(kO k G s l i).wd.Nodup/\(∀z∈bl,z∈(cP G s l).take i)/\e=i
 kp:Kept (fun j=>j=q\/j=sm\/j=bb) y v
theorem mT.Ip{w w':World}{B q sm bb:Nat}{c:ou}{ov:HT->Option Nat}{A E:Option Addr}{n cp e ce:Nat}{S:Nat->Prop}(h:mT w B q sm bb c ov A n cp E e ce)(hk:Kept S w w')(h1:¬S q)(h2:¬S sm)(h3:∀j,a8 E=some j->¬S j)(h4:∀a,A=some a->¬S a.block):mT w' B q sm bb c ov A n cp E e ce:=
 ⟨hk.heap h.top h1,h.mg.aF hk h4,h.mA,Row.aF h.bl hk h3,h.ov.aF hk h2,h.qB,h.sB,h.bB,h.qs⟩
theorem zL{k:Nat}{G:GS}{s:HT}{l:List HT}{i:Nat}{x:HT}(hx:(cP G s l)[i]? =some x):kO k G s l (i+1)=oL k G.D (kO k G s l i) x:=by
 unfold kO;have e:(cP G s l).take (i+1)=(cP G s l).take i++ [x]:=by rw [List.take_add_one,hx];rfl
 rw [e,List.foldl_append];rfl
theorem DS(k:Nat)(G:GS)(s:HT)(l:List HT)(i:Nat)(hi:i<=(cP G s l).length):(kO k G s l i).bl.length=i:=by
 obtain⟨b,h1,h2⟩:=Hy k G.D (G.world s++ [s]) ((cP G s l).take i);unfold kO;rw [h2];show b.length=i
 rw [h1,List.length_take];omega
theorem DT(k:Nat)(G:GS)(s:HT)(l:List HT):kO k G s l (cP G s l).length=fK k G s l:=by
 unfold kO fK;rw [List.take_of_length_le (Nat.le_refl _)]
section
variable{y v w w':World}{F:Nat->Prop}{c k:Nat}{G:GS}{m:CM}{s:HT}{l ch:List HT}{bs bc bh q sm bb kb n cp:Nat}{A:Option Addr}{K:Value->World->Prop}
set_option maxHeartbeats 4000000 in
theorem Ck(C:CV y F c k G m)(hD:G.D.length<=5000)(qw:k<=1000)(hs:s∈ids G.D)(hc:cI G.D G.P s ch)(hM:∀x∈cP G s l,x∈ids G.D)
 (V:VB y c s bs bc bh q sm (fun _=>none)) (Ny:y.heap[kb]? =some (.cells #[.func (.func bX.id) #[] #[.pointer (some ⟨bs,0,none⟩),.pointer (some ⟨bc,0,none⟩),.pointer (some ⟨bh,0,none⟩)]] fC (0,0)))
 (iC:∀j,(m.own c j\/F j\/j=bs\/j=bc\/j=bh\/j=kb)->j≠q/\j≠sm/\j≠bb)
 (h0:V2 y y k G s l (mV m.sz ch) q sm bb A n cp 0) (hn:n<=5000)
 (hK:∀v ov E e ce,mT v y.heap.size q sm bb (cR k G s l) ov A n cp E e ce->OV G.D (fK k G s l).wd ov (mV m.sz ch)->Kept (fun j=>j=q\/j=sm\/j=bb) y v->K (.pointer (some ⟨q,0,none⟩)) v):
 Holds none [] prog 153 (.loop (lB (bB (sR (sL (sR (sR (sR (sR (sR (sR (sR (sR (body al.fn)))))))))))))) (al.q2 K)
  [(3,.pointer (some ⟨bc,0,none⟩)),(6,.pointer none),(8,.pointer (some ⟨bs,0,none⟩)),(11,.pointer (some ⟨bb,0,none⟩)),(12,.func (.func ag.id) #[] #[.pointer (some ⟨bb,0,none⟩),.pointer (some ⟨bc,0,none⟩),.pointer (some ⟨bh,0,none⟩)]),(13,.pointer (some ⟨kb,0,none⟩)),(92,.slice A n cp),(93,.int .i64 (n:Int)),(94,.int .i64 0)] y:=by
 have W:=C.fg.W;have hmn:(cP G s l).Nodup:=(lG G s l).nodup;have U9:(cP G s l).length=n:=by obtain⟨_,_,_,_,_,_,_,_,h,_⟩:=h0.ex;exact h.mg.len
 have lbs:=aQ V.hs;have lbc:=aQ V.hc;have lbh:=aQ V.hh;have lkb:=aQ Ny;have YF:=iC bs (.inr (.inr (.inl rfl)));have YH:=iC bc (.inr (.inr (.inr (.inl rfl))));have YG:=iC bh (.inr (.inr (.inr (.inr (.inl rfl)))));have fkb:=iC kb (.inr (.inr (.inr (.inr (.inr rfl)))));refine al.iq (I:=fun s0 v=>∃i:Nat,s0=(i:Int)/\i<=n/\V2 y v k G s l (mV m.sz ch) q sm bb A n cp i) (μ:=fun s0 _=>((n:Int)-s0).toNat) (s:=0) ⟨0,rfl,Nat.zero_le _,h0⟩ ?_;rintro s0 v ⟨i,rfl,hi,hV⟩;obtain⟨ov,E,e,ce,Ab,nb,cb,bl,hS,xg,fE,RH,hAE,hO,gB,vS,hie⟩:=hV.ex;have kv:=hV.kp;have sv:=kv.size;refine Split.dec (fun jN=>?_) (fun gH=>?_)
 ·have dV:i<n:=by omega
  obtain⟨x,hx⟩:∃x,(cP G s l)[i]? =some x:=⟨_,List.getElem?_eq_getElem (by omega)⟩;have RG:=hM x (List.mem_of_getElem? hx);have PJ:x∉(kO k G s l i).wd:=by
   rw [RH];intro hm;obtain⟨_,g1,g2⟩:=jw.1 (List.mem_of_getElem? hx);rcases List.mem_append.1 hm with hm|hm
   ·rcases List.mem_append.1 hm with hm|hm
    ·exact g2 ((C.fg.wd s hs).2.1 x hm)
    ·exact g1 (by simpa using hm)
   ·have h1:=vS x hm
    obtain⟨j,hj⟩:=List.mem_iff_getElem?.1 h1;rw [List.getElem?_take]at hj;split at hj
    ·rename_i KA
     have h2:=(lgeS hj);have h3:=(lgeS hx);have:=(List.getElem_inj hmn).1 (h2.2.trans h3.2.symm);omega
    ·cases hj
  have qG:=zL (k:=k) hx;refine hS.mg.load (i:=(i:Int)) (by omega) hx ?_;intro mz;obtain⟨tu,jP,ko⟩:=iu (w:=v) (z:=dX.1) (cs:=x.1) (t:=ah) (by rw [x.2.1];rfl);refine⟨⟨x.2.1,x.2.one,fun j hj=>tu j (by rw [x.2.1];exact hj)⟩,?_⟩;intro iP
  replace jP:iP.heap[v.heap.size]? =some (.cells x.1 ah (0,0)):=jP
  replace ko:Kept Nil v iP:=ko
  clear_value iP;intro nK jM;have uc:Kept Nil iP nK:=(Kept.refl _ _).alloc _;have U1:fR nK iP.heap.size (fun _=>none):=fR.new iP;have ns:Kept Nil nK jM:=(Kept.refl _ _).alloc _;have QB:jM.heap[nK.heap.size]? =some (.cells #[.map none] cK (0,0)):=aI nK _;refine⟨dY QB (by simp),?_⟩;intro xC;have VN:xC.heap[nK.heap.size]? =some (.cells #[.map (some iP.heap.size)] cK (0,0)):=by
   show(jM.setCell ⟨nK.heap.size,0,none⟩ (.map (some iP.heap.size))).heap[nK.heap.size]? =_;rw [dh QB 0];rfl
  have IB:Kept (· =nK.heap.size) jM xC:=Kept.setCell (S:=(· =nK.heap.size)) (Kept.refl _ jM) (p:=⟨nK.heap.size,0,none⟩) (fun _=>rfl) _;clear_value xC;have s14:=ko.size;have s15:=uc.size;have l14:=aQ jP;have l15:=U1.lt;have l16:=aQ QB;have IG:Kept Nil iP xC:=⟨IB.os.trans (uc.tt ns).os,IB.tape.trans (uc.tt ns).tape,IB.output.trans (uc.tt ns).output,Nat.le_trans (uc.tt ns).size IB.size,fun j hj hn=>by rw [IB.block j (Nat.lt_of_lt_of_le hj (uc.tt ns).size) (by omega),(uc.tt ns).block j hj hn]⟩;have aby:fR xC iP.heap.size (fun _=>none):=(U1.same ns).aF IB (by omega);have NH:=IG.heap jP (fun h=>h);clear_value jM nK;have Lc:Kept Nil v xC:=ko.tt IG;have F0:Kept (fun j=>j=q\/j=sm\/j=bb) y xC:=kv.trans Lc (fun _ _ h=>h.elim);have QX:=hS.same Lc;have C17:CV xC F c k G m:=C.aF F0 (fun j hj e=>by have:=iC j (.inl hj);omega) (fun j hj e=>by have:=iC j (.inr (.inl hj));omega);have V17:VB xC c s bs bc bh q sm ov:=⟨F0.heap V.hs (by omega),F0.heap V.hc (by omega),F0.heap V.hh (by omega),QX.f35,QX.ov⟩;have Vi:=F0.heap Ny (by omega);have I6:bK xC y.heap.size Ab nb cb bl:=Row.aF fE Lc (fun _ _ h=>h);have NR:=Lc.heap xg (fun h=>h);refine⟨x.1,⟨x.2.1,Cells.bI NH⟩,?_⟩;have qB:=hS.qB;have sB:=hS.sB;have bB:=hS.bB;have Jr:∀b∈(kO k G s l i).wd,sq ov (mV m.sz ch) b=(bV G.D (kO k G s l i).wd b).length:=hO.kn;have uD:=gB;rw [RH]at uD;obtain⟨c1,c2,c3⟩:=Mp C.fg (h:=x) hs hc uD;rw [<-RH]at c2 c3;have Wa:=fE.len;have UO:nb<=5000:=by
   have h1:=dc (m:=cP G s l) (List.nodup_append.1 uD).2.1 (fun z hz=>List.mem_of_mem_take (vS z hz));omega
  have Q2:∀a,Ab=some a->a.block<iP.heap.size:=fun a ha=>by
   subst ha;obtain⟨_,cur,h1⟩:=Row.bI fE (k:=a.block) rfl;have:=aQ h1;omega
  refine Br (p:=⟨bs,bc,bh,q,sm,kb,nK.heap.size,iP.heap.size,0,0⟩) ⟨C17,V17,Vi,VN,(fun e=>by have:iP.heap.size<y.heap.size:=C.low _ (.inl e);omega),(fun e=>by have:iP.heap.size<y.heap.size:=C.low _ (.inr e);omega),(show bs≠iP.heap.size/\bc≠iP.heap.size/\bh≠iP.heap.size/\q≠iP.heap.size/\sm≠iP.heap.size/\kb≠iP.heap.size/\nK.heap.size≠iP.heap.size from⟨by omega,by omega,by omega,by omega,by omega,by omega,by omega⟩)⟩ hD qw hs hc (h:=x) NR (by show bb≠iP.heap.size;omega) I6.hs (fun a ha=>by have:=Q2 a ha;show a.block≠iP.heap.size;omega) (by omega) (by
   show fR xC iP.heap.size _
   have e0:(fun y=>if y∈([]:List HT)then some (Value.int .i64 (sq ov (mV m.sz ch) y:Int))else none)=fun _=>none:=by funext y;simp
   rw [e0];exact aby) c1 fun E7 r hr hFr BX=>⟨r,rfl,?_⟩
  replace BX:Kept (· =iP.heap.size) xC E7:=BX
  have NJ:r=oV k G.D (kO k G s l i).wd x:=by rw [hr];exact JR Jr c2 c3
  have WN:∀j,a8 E=some j->y.heap.size<=j/\j<v.heap.size:=fun j hj=>by obtain⟨g1,cur,g2⟩:=Row.bI hS.bl hj;exact⟨g1,aQ g2⟩
  have JA:∀j,a8 Ab=some j->y.heap.size<=j/\j<v.heap.size:=fun j hj=>by obtain⟨g1,cur,g2⟩:=Row.bI fE hj;exact⟨g1,aQ g2⟩
  have s17:=IG.size;have ac0:=QX.Ip BX (by omega) (by omega) (fun j hj=>by have:=WN j hj;omega) (fun a ha=>by have:=(hS.mA a ha).1;omega);have P1:bK E7 y.heap.size Ab nb cb bl:=Row.aF I6 BX (fun j hj=>by have:=JA j hj;omega);have K9:Kept (fun j=>j=q\/j=sm\/j=bb) y E7:=F0.trans BX (fun j hj e=>by omega);have Wg:=BX.heap NR (by omega);have V7:=BX.heap NH (by omega);have ab7:=BX.heap VN (by omega);intro zI;have Iz:Kept Nil E7 zI:=(Kept.refl _ _).drew;clear_value zI;have Jw:=ac0.same Iz;have AM:=K9.trans Iz (fun _ _ h=>h.elim);have Bd:∀ {u:World} {S:Nat->Prop},Kept S y u->¬S bs->u.cell? ⟨bs,0,none⟩=some (.pointer (some ⟨q,0,none⟩)):=fun ku hb=>by rw [aD (ku.heap V.hs hb)];rfl
  have MI:¬(bs=q\/bs=sm\/bs=bb):=by omega
  have s21:=AM.size;refine⟨_,Bd AM MI,_,Bd AM MI,E,e,ce,Jw.f34,?_⟩;intro mu;have pT:Kept Nil zI mu:=(Kept.refl _ _).alloc _;have L6:mu.heap[zI.heap.size]? =some (.cells #[.bool r] iK (0,0)):=aI zI _;clear_value mu;have Jv:=Jw.same pT;have vO:=AM.trans pT (fun _ _ h=>h.elim);have XB:=vO.size;obtain⟨E',sP,u,Ui,kE,aan,Ju,k5,hE5⟩:=Jv.HZ (by omega) (by omega) (x:=r) (b:=zI.heap.size) (by rw [aD L6];rfl);have ZI:Kept (fun j=>j=q\/j=sm\/j=bb) y u:=vO.trans kE (fun j hj e=>by have:=WN j e.2;omega);refine⟨Jv.f34,Bd vO MI,Bd vO MI,E',e+1,sP,u,Ui,Bd ZI MI,aan,?_⟩;intro wL
  replace Ju:mT wL y.heap.size q sm bb _ ov A n cp E' (e+1) sP:=Ju
  replace k5:Kept (fun j=>j=q\/a8 E=some j) mu wL:=k5
  clear_value wL;have O1:Kept (fun j=>j=q\/j=sm\/j=bb) y wL:=vO.trans k5 (fun j hj e=>by
   rcases e with e|e
   ·exact .inl e
   ·have:=WN j e;omega)
  have IA:Kept (fun j=>j=q\/a8 E=some j) E7 wL:=((Iz.tt pT).mono fun _ _ h=>h.elim).tt k5;have aem:=(Iz.tt pT).size;have s20:=BX.size;have I5:bK wL y.heap.size Ab nb cb bl:=Row.aF P1 IA (fun j hj e=>by
   have:=JA j hj;rcases e with e|e
   ·omega
   ·exact hAE j hj e)
  have NQ:=IA.heap Wg (fun e=>by
   rcases e with e|e
   ·exact hS.qs.2.1 e.symm
   ·have:=WN bb e;omega)
  have Q3:∀j,a8 Ab=some j->a8 E'≠some j:=fun j hj he=>by
   rcases hE5 j he with h1|h1
   ·exact hAE j hj h1
   ·have:=JA j hj;omega
  have Nf:∀z∈bl,z∈(cP G s l).take (i+1):=fun z hz=>by
   have h1:=vS z hz;rw [List.take_add_one];exact List.mem_append_left _ h1
  cases r with
  |false=>
   refine Split.yes rfl ?_;rw [dW (n:=(i:Int)) (by omega) (by omega)];have yR:kO k G s l (i+1)=⟨(kO k G s l i).wd,(kO k G s l i).bl++ [false]⟩:=by rw [qG,oL,<-NJ];rfl
   refine⟨(i:Int)+1,rfl,⟨i+1,rfl,dV,⟨ov,E',e+1,sP,Ab,nb,cb,bl,?_,NQ,I5,?_,Q3,?_,?_,Nf,by omega⟩,O1⟩,by simp only;omega⟩
   ·rw [yR]
    simpa [List.count_append]using Ju
   ·rw [yR];exact RH
   ·rw [yR];exact hO
   ·rw [yR];exact gB
  |true=>
   refine Split.no rfl ?_;have QZ:=hFr rfl
   replace QZ:zp E7 iP.heap.size (sq ov (mV m.sz ch)) (oU G x bl ch):=QZ
   have di:=(p8.1 hr.symm).2;have qH:=dc (m:=ids G.D) c1 (fun z hz=>by
    have h1:=(fN.1 ((c3 z).1 hz)).1;rw [RH]at h1;rcases List.mem_append.1 h1 with h1|h1
    ·rcases List.mem_append.1 h1 with h1|h1
     ·exact(((C.fg.wd s hs).2.1 z h1).mem W).1
     ·have:z=s:=by simpa using h1
      subst this;exact hs
    ·exact hM z (List.mem_of_mem_take (vS z h1)))
   rw [gq]at qH;generalize jZ:oU G x bl ch=lf at*;generalize abG:sq ov (mV m.sz ch)=kn at*;have PU:G.score s<=5000:=by
    have h1:=(C.fg.wd s hs).2.2;have h2:=dc (m:=ids G.D) (C.fg.wd s hs).1 (fun b hb=>(((C.fg.wd s hs).2.1 b hb).mem W).1);rw [gq]at h2;omega
   have ace:(kO k G s l i).bl.count true<=5000:=by
    have h1:=List.count_le_length (a:=true) (l:=(kO k G s l i).bl);rw [DS k G s l i (by omega)]at h1;omega
   generalize Ew:G.score s+1+(kO k G s l i).bl.count true=sc at*;have ew:u64.wrap ((sc:Int)+(1:Int))=((sc+1:Nat):Int):=by
    rw [show(sc:Int)+1=((sc+1:Nat):Int)by omega];exact jW (by omega)
   refine⟨_,Bd O1 MI,_,Ju.f32,Ju.wr (by omega),?_⟩;intro uL sM;have acY:mT uL y.heap.size q sm bb ⟨s,sc+1,cP G s l,(kO k G s l i).bl++ [true]⟩ ov A n cp E' (e+1) sP:=by
    show mT (wL.setCell (((⟨q,0,none⟩:Addr).add 0).add 32) (.int .u64 (u64.wrap ((sc:Int)+(1:Int))))) _ _ _ _ _ _ _ _ _ _ _ _
    rw [ew];exact(Ju.OM (sc+1)).1
   have G6:Kept (· =q) wL uL:=mT.Sw (h:=Ju) 32 _;have CI:Kept Nil uL sM:=(Kept.refl _ _).drew;clear_value sM uL;have Dd:=acY.same CI;have En:Kept (· =q) wL sM:=G6.trans CI (fun _ _ h=>h.elim);have AK:=O1.trans En (fun j hj e=>.inl e);have Eo:Kept (fun j=>j=q\/a8 E=some j) E7 sM:=IA.trans En (fun j hj e=>.inl e);have JH:∀j,v.heap.size<=j->¬(j=q\/a8 E=some j):=fun j hj e=>by
    rcases e with e|e
    ·omega
    ·have:=WN j e;omega
   have NF:=Eo.heap V7 (JH _ (Nat.le_refl _));have VM:=Eo.heap ab7 (JH _ (by omega));have WL:zp sM iP.heap.size kn lf:=QZ.aF Eo (JH _ (by omega));have Qp:∀z,(if z∈lf then some (Value.int .i64 (kn z:Int))else none)≠none↔z∈lf:=fun z=>by
    by_cases hz:z∈lf
    ·rw [if_pos hz];exact⟨fun _=>hz,fun _ e=>by cases e⟩
    ·rw [if_neg hz];exact⟨fun e=>absurd rfl e,fun e=>absurd e hz⟩
   obtain⟨uv,aaT,WC,uA⟩:=Dd.note x lf.length;have s33:=Eo.size;have ZK:=AK.trans uA (fun j hj e=>.inr (.inl e));have adb:zp uv iP.heap.size kn lf:=WL.aF uA (by omega);have ab6:=uA.heap VM (by omega);have V1:=uA.heap NF (by omega);have PZ:bK uv y.heap.size Ab nb cb bl:=Row.aF (Row.aF I5 En (fun j hj e=>by have:=JA j hj;omega)) uA (fun j hj e=>by have:=JA j hj;omega);have We:=uA.heap (En.heap NQ (fun e=>hS.qs.2.1 e.symm)) (fun e=>hS.qs.2.2 e.symm);obtain⟨w38,Cd,aaS,hit,RD⟩:=adb.range si;have s36:=uA.size;have s38:=RD.size;refine⟨_,Bd AK MI,some sm,Dd.f35,x.1,⟨x.2.1,Cells.bI NF⟩,some iP.heap.size,by rw [aD VM];rfl,lf.length,WL.len si jV c1 Qp,uv,aaT,some iP.heap.size,by rw [aD ab6];rfl,_,w38,aaS,?_⟩;refine al.vM (I:=fun _ u=>∃left Cd MH,oW u iP.heap.size uv.heap.size (fun z=>if z∈lf then some (Value.int .i64 (kn z:Int))else none) left Cd/\mT u y.heap.size q sm bb ⟨s,sc+1,cP G s l,(kO k G s l i).bl++ [true]⟩ MH A n cp E' (e+1) sP/\
    (∀z,(left z->z∈lf)/\(z∈lf->¬left z->MH z=some (kn z+1))/\((z∉lf\/left z)->MH z=if z=x then some lf.length else ov z))/\Kept (fun j=>j=sm\/j=uv.heap.size) w38 u) (μ:=fun _ u=>u.rangeLeft iP.heap.size uv.heap.size) (s:=())
    ⟨_,Cd,_,hit,WC.same RD,fun z=>⟨fun hz=>(Qp z).1 hz,fun hz hl=>absurd ((Qp z).2 hz) hl,fun _=>rfl⟩,Kept.refl _ _⟩ ?_
   rintro s1 u3 ⟨left,alb,MH,Qk,QW,hinv,ku⟩;have Zf:=ku.size;have lit:=Qk.lt;have ky3:Kept (fun j=>j=q\/j=sm\/j=bb) y u3:=(ZK.trans RD (fun _ _ h=>h.elim)).trans ku (fun j hj e=>by
    rcases e with e|e
    ·exact .inr (.inl e)
    ·omega)
   rcases Qk.next 0 with⟨h0',UK,jF⟩|⟨z,val,u4,adD,hl,hfz,jF,ab9,abI,cU,k4⟩
   ·refine .inl ⟨u3,jF,?_⟩
    rw [aR,al.Cf];unfold al.xw;have Wf:=ku.heap (RD.heap We (fun h=>h)) (by have:=hS.qs;omega);have Gw:=ku.heap (RD.heap V1 (fun h=>h)) (by omega);have Uk:bK u3 y.heap.size Ab nb cb bl:=Row.aF (Row.aF PZ RD (fun _ _ h=>h)) ku (fun j hj e=>by have:=JA j hj;omega);refine⟨Ab,nb,cb,by rw [aD Wf];rfl,x.1,⟨x.2.1,Cells.bI Gw⟩,x.2.1,?_⟩;intro Kl;have RC:Kept Nil u3 Kl:=(Kept.refl _ _).alloc _;have aai:HS Kl (some ⟨u3.heap.size,0,none⟩) 1 [x]:=iL u3 x;clear_value Kl;have s50:=RC.size;have PX:bK Kl y.heap.size Ab nb cb bl:=Row.aF Uk RC (fun _ _ h=>h);obtain⟨A6,c6,Hv,P3,MD,g51,adj⟩:=ct ay PX (cx:=1) aai (by omega) (by omega);have XO:Kept (fun j=>a8 Ab=some j) Kl Hv:=(Kept.refl _ _).grown g51 fun j hj _=>hj;have NO:=XO.heap (RC.heap Wf (fun h=>h)) (fun e=>by have:=JA bb e;omega);refine⟨A6,nb+1,c6,Hv,P3,dY NO (by simp),?_⟩;intro Mx;have Wc:Mx.heap[bb]? =some (.cells #[.slice A6 (nb+1) c6] ay (0,0)):=by
     show(Hv.setCell ⟨bb,0,none⟩ (.slice A6 (nb+1) c6)).heap[bb]? =_;rw [dh NO 0];rfl
    have Ir:Kept (· =bb) Hv Mx:=Kept.setCell (S:=(· =bb)) (Kept.refl _ Hv) (p:=⟨bb,0,none⟩) (fun _=>rfl) _;clear_value Mx;have wU:Kept (fun j=>a8 Ab=some j\/j=bb) u3 Mx:=((RC.mono fun _ _ h=>h.elim).trans XO (fun _ _ h=>.inl h):Kept (fun j=>a8 Ab=some j\/j=bb) u3 Hv).trans Ir (fun _ _ h=>.inr h);have acX:mT Mx y.heap.size q sm bb ⟨s,sc+1,cP G s l,(kO k G s l i).bl++ [true]⟩ MH A n cp E' (e+1) sP:=QW.Ip wU
     (fun e=>e.elim (fun e=>by have:=JA q e;omega) (fun e=>hS.qs.2.1 e)) (fun e=>e.elim (fun e=>by have:=JA sm e;omega) (fun e=>hS.qs.2.2 e))
     (fun j hj e=>e.elim (fun e=>Q3 j e hj) (fun e=>by have:=(Row.bI QW.bl hj).1;omega)) (fun a ha e=>e.elim (fun e=>by have:=JA _ e;have:=(hS.mA a ha).1;omega) (fun e=>(hS.mA a ha).2.2.2 e))
    have tR:bK Mx y.heap.size A6 (nb+1) c6 (bl++ [x]):=Row.aF MD Ir (fun j hj e=>by have:=(Row.bI MD hj).1;omega);rw [dW (n:=(i:Int)) (by omega) (by omega)];have yR:kO k G s l (i+1)=⟨(kO k G s l i).wd++ [x],(kO k G s l i).bl++ [true]⟩:=by rw [qG,oL,<-NJ];rfl
    have abe:MH=An G.D (kO k G s l i).wd ov (mV m.sz ch) x:=by
     funext z
     unfold An;rw [abG];by_cases hz:z∈lf
     ·rw [if_pos ((c3 z).1 hz)]
      exact(hinv z).2.1 hz (UK z)
     ·rw [if_neg (fun e=>hz ((c3 z).2 e)),(hinv z).2.2 (.inl hz),c2]
    refine⟨(i:Int)+1,rfl,⟨i+1,rfl,dV,⟨MH,E',e+1,sP,A6,nb+1,c6,bl++ [x],?_,Wc,tR,?_,?_,?_,?_,?_,by omega⟩,?_⟩,by simp only;omega⟩
    ·rw [yR]
     have ec:G.score s+1+((kO k G s l i).bl++ [true]).count true=sc+1:=by rw [List.count_append,<-Ew];simp;omega
     show mT Mx y.heap.size q sm bb ⟨s,G.score s+1+((kO k G s l i).bl++ [true]).count true,cP G s l,(kO k G s l i).bl++ [true]⟩ MH A n cp E' (e+1) sP
     rw [ec];exact acX
    ·rw [yR]
     show(kO k G s l i).wd++ [x]=_;rw [RH,List.append_assoc]
    ·intro j hj he
     rcases adj j hj with h1|h1
     ·exact Q3 j h1 he
     ·obtain⟨_,cur,h2⟩:=Row.bI QW.bl he
      have:=aQ h2;omega
    ·rw [yR,abe]
     exact hO.step PJ
    ·rw [yR]
     exact List.nodup_append.2 ⟨gB,by simp,fun a ha b hb e=>by
      have:b=x:=by simpa using hb
      subst this;subst e;exact PJ ha⟩
    ·intro z hz
     rcases List.mem_append.1 hz with hz|hz
     ·exact Nf z hz
     ·have:z=x:=by simpa using hz
      subst this;rw [List.take_add_one,hx];simp
    ·exact ky3.trans wU (fun j hj e=>by
      rcases e with e|e
      ·have:=JA j e;omega
      ·exact .inr (.inr e))
   ·have hzc:=(hinv z).1 hl
    rw [if_pos hzc]at hfz;cases hfz;have hkz:=di z hzc;refine .inr ⟨_,_,u4,jF,z.1,(kn z:Int),ab9,?_⟩;intro Kk;obtain⟨PL,Bk,yW⟩:=iu (w:=u4) (z:=dX.1) (cs:=z.1) (t:=ah) (by rw [z.2.1];rfl);refine⟨⟨z.2.1,z.2.one,fun j hj=>PL j (by rw [z.2.1];exact hj)⟩,?_⟩;intro Xz Ro
    replace Bk:Xz.heap[u4.heap.size]? =some (.cells z.1 ah (0,0)):=Bk
    replace yW:Kept Nil u4 Xz:=yW
    have XH:Kept Nil Xz Ro:=(Kept.refl _ _).drew;clear_value Ro Xz;have acA:=XH.heap Bk (fun h=>h);have MS:=yW.tt XH;have Ek:Kept (· =uv.heap.size) u3 Ro:=k4.trans MS (fun _ _ h=>h.elim);have hE3:∀j,a8 E'=some j->j≠uv.heap.size:=fun j hj e=>by
     obtain⟨_,cur,h2⟩:=Row.bI WC.bl hj;have:=aQ h2;omega
    have WA:=QW.Ip Ek (by omega) (by omega) (fun j hj e=>hE3 j hj e) (fun a ha e=>by have:=(hS.mA a ha).1;omega);have ZJ:Kept (fun j=>j=q\/j=sm\/j=bb) y Ro:=ky3.trans Ek (fun j hj e=>by omega);have Nz:=abI.aF MS (fun h=>h) (fun h=>h);obtain⟨Fc,Us,WD,CJ⟩:=WA.note z (kn z+1);have ekz:i64.wrap ((kn z:Int)+(1:Int))=((kn z+1:Nat):Int):=by rw [dW (n:=(kn z:Int)) (by omega) (by omega)];omega
    have s3:=Ek.size;refine⟨_,Bd ZJ MI,some sm,WA.f35,z.1,⟨z.2.1,Cells.bI acA⟩,Fc,by rw [ekz];exact Us,?_⟩;refine⟨(),rfl,⟨_,adD,_,Nz.aF CJ (by omega) (by omega),WD,fun y'=>?_,?_⟩,?_⟩
    ·obtain⟨i1,i2,i3⟩:=hinv y'
     refine⟨fun h=>i1 h.1,fun h1 h2=>?_,fun h=>?_⟩
     ·by_cases e:y'=z
      ·subst e;simp only [if_true]
      ·simp only [if_neg e]
       exact i2 h1 (fun h=>h2 ⟨h,e⟩)
     ·have e:y'≠z:=by
       rcases h with h|h
       ·exact fun e=>h (by rw [e];exact hzc)
       ·exact h.2
      simp only [if_neg e];exact i3 (h.imp_right fun h=>h.1)
    ·exact(ku.trans Ek (fun j hj e=>.inr e)).trans CJ (fun j hj e=>.inl e)
    ·show Fc.rangeLeft iP.heap.size uv.heap.size<u3.rangeLeft iP.heap.size uv.heap.size
     rw [Qk.left_eq,(Nz.aF CJ (by omega) (by omega)).left_eq];exact cU
 ·rw [aR,al.kL]
  have:i=n:=by omega
  subst this;have e1:=DT k G s l;rw [U9]at e1;rw [e1]at hS hO;have X3:v.heap[bs]? =some (.cells #[.pointer (some ⟨q,0,none⟩)] fu (0,0)):=kv.heap V.hs (by omega);exact⟨some ⟨q,0,none⟩,by rw [aD X3];rfl,hK v ov E e ce hS hO kv⟩
end
def EU(N:Nat):Prop:=∀ {w:World} {F:Nat->Prop} {c k:Nat} {G:GS} {m:CM} {B:Nat} {A:Option Addr} {n cx:Nat} {l:List HT} {K:Value->World->Prop},CV w F c k G m->bK w B A n cx l->n<=N->l.Nodup->(∀x∈l,x∈ids G.D)->
 (∀j,a8 A=some j->¬m.own c j/\¬F j)->(∀l' w',SO G l'->(∀x,x∈l'↔x∈l)->bK w' B A n cx l'->Kept (fun j=>a8 A=some j) w w'->K (.tuple #[]) w')->
 bu prog ji.id #[.slice A n cx,.func (.func bD.id) #[.pointer (some ⟨c,0,none⟩)] #[]] w K
section
variable{y v w w':World}{F:Nat->Prop}{c k:Nat}{G:GS}{m:CM}{s:HT}{l ch:List HT}{bs bc bh q sm nL cL:Nat}{AL:Option Addr}{K:Value->World->Prop}
set_option maxHeartbeats 4000000 in
theorem Cl{N:Nat}(Bc:EU N)(hN:(tg G.D s l).length<=N)(C:CV y F c k G m)(hD:G.D.length<=5000)(qw:k<=1000)(hs:s∈ids G.D)(hc:cI G.D G.P s ch)(hl:∀x∈l,x∈ids G.D)
 (V:VB y c s bs bc bh q sm (fun _=>none)) (hS:zE y y.heap.size q sm ⟨s,G.score s+1,[],[]⟩ (fun _=>none) none 0 0 none 0 0)
 (hL:HS y AL nL (dw (eB G.D l++l))) (hAL:∀a,AL=some a->a.block≠q)
 (iC:∀j,(m.own c j\/F j\/j=bs\/j=bc\/j=bh)->j≠q/\j≠sm)
 (hK:∀v B bb ov A n cp E e ce,mT v B q sm bb (cR k G s l) ov A n cp E e ce->OV G.D (fK k G s l).wd ov (mV m.sz ch)->(∀a,A=some a->y.heap.size<=a.block)->(y.heap.size<=B/\B<=v.heap.size)->Kept (fun j=>j=q\/j=sm) y v->K (.pointer (some ⟨q,0,none⟩)) v):
 Holds none [] prog 153 (.loop (lB (bB (sR (sL (sR (sR (sR (body al.fn))))))))) (al.q1 K)
  [(3,.pointer (some ⟨bc,0,none⟩)),(4,.pointer (some ⟨bh,0,none⟩)),(6,.pointer none),(8,.pointer (some ⟨bs,0,none⟩)),(46,.slice AL nL cL),(47,.int .i64 (nL:Int)),(48,.int .i64 0)] y:=by
 have W:=C.fg.W;have lbs:=aQ V.hs;have lbc:=aQ V.hc;have lbh:=aQ V.hh;have YF:=iC bs (.inr (.inr (.inl rfl)));have YH:=iC bc (.inr (.inr (.inr (.inl rfl))));have YG:=iC bh (.inr (.inr (.inr (.inr rfl))));have af8:=hL.len;have hLi:∀x∈dw (eB G.D l++l),x∈ids G.D:=fun x hx=>by
  rcases List.mem_append.1 (dM.1 hx)with h|h
  ·exact(jS.1 h).1
  ·exact hl x h
 have hLn:nL<=5000:=by
  have:=dc (jh _).nodup hLi;rw [gq]at this;omega
 generalize hLL:dw (eB G.D l++l)=L at*;refine al.cy (I:=fun s0 v=>∃i:Nat,s0=(i:Int)/\i<=nL/\(∃A n cp,zE v y.heap.size q sm ⟨s,G.score s+1,(L.take i).filter fun h=>decide (h≠s/\¬fy G.D h s),[]⟩ (fun _=>none) A n cp none 0 0)/\Kept (· =q) y v) (μ:=fun s0 _=>((nL:Int)-s0).toNat) (s:=0) ⟨0,rfl,Nat.zero_le _,⟨none,0,0,hS⟩,Kept.refl _ _⟩ ?_;rintro s0 v ⟨i,rfl,hi,⟨A,n,cp,Ma⟩,kv⟩;have sv:=kv.size;have Va:=bK.len Ma.mg;have hnA:n<=5000:=by
  have h1:=List.length_filter_le (fun h=>decide (h≠s/\¬fy G.D h s)) (L.take i);have h2:=List.length_take_le i L;have h3:((L.take i).filter fun h=>decide (h≠s/\¬fy G.D h s)).length=n:=Va;omega
 refine Split.dec (fun jN=>?_) (fun gH=>?_)
 ·have dV:i<nL:=by omega
  obtain⟨x,hx⟩:∃x,L[i]? =some x:=⟨_,List.getElem?_eq_getElem (by omega)⟩;have GB:L.take (i+1)=L.take i++ [x]:=by rw [List.take_add_one,hx];rfl
  have hLv:HS v AL nL L:=hL.aF kv hAL;refine hLv.load (i:=(i:Int)) (by omega) hx ?_;intro mz;obtain⟨tu,jP,ko⟩:=iu (w:=v) (z:=dX.1) (cs:=x.1) (t:=ah) (by rw [x.2.1];rfl);refine⟨⟨x.2.1,x.2.one,fun j hj=>tu j (by rw [x.2.1];exact hj)⟩,?_⟩;intro iP nK
  replace jP:iP.heap[v.heap.size]? =some (.cells x.1 ah (0,0)):=jP
  replace ko:Kept Nil v iP:=ko
  have uc:Kept Nil iP nK:=(Kept.refl _ _).drew;clear_value nK iP;have Jp:=uc.heap jP (fun h=>h);have O8:=ko.tt uc;have F5:Kept (· =q) y nK:=kv.trans O8 (fun _ _ h=>h.elim);have C15:CV nK F c k G m:=C.aF F5 (fun j hj e=>(iC j (.inl hj)).1 e) (fun j hj e=>(iC j (.inr (.inl hj))).1 e);have hcy:∀ {u:World},Kept (· =q) y u->u.cell? ⟨bc,0,none⟩=some (.pointer (some ⟨c,0,none⟩)):=fun ku=>by rw [aD (ku.heap V.hc YH.1)];rfl
  have Uc:∀ {u:World},Kept (· =q) y u->u.cell? ⟨bs,0,none⟩=some (.pointer (some ⟨q,0,none⟩)):=fun ku=>by rw [aD (ku.heap V.hs YF.1)];rfl
  have next:∀ {u:World} {A':Option Addr} {n' xk:Nat},zE u y.heap.size q sm ⟨s,G.score s+1,(L.take (i+1)).filter fun h=>decide (h≠s/\¬fy G.D h s),[]⟩ (fun _=>none) A' n' xk none 0 0->Kept (· =q) y u->
   ∃s1:Int,i64.wrap ((i:Int)+(1:Int))=s1/\(∃i':Nat,s1=(i':Int)/\i'<=nL/\(∃A n cp,zE u y.heap.size q sm ⟨s,G.score s+1,(L.take i').filter fun h=>decide (h≠s/\¬fy G.D h s),[]⟩ (fun _=>none) A n cp none 0 0)/\Kept (· =q) y u)/\((nL:Int)-s1).toNat<((nL:Int)-(i:Int)).toNat:=fun h1 h2=>by
   rw [dW (n:=(i:Int)) (by omega) (by omega)];exact⟨(i:Int)+1,rfl,⟨i+1,rfl,dV,⟨_,_,_,h1⟩,h2⟩,by omega⟩
  refine⟨x.1,⟨x.2.1,Cells.bI Jp⟩,s.1,⟨s.2.1,Cells.bI (F5.heap V.hh YG.1)⟩,⟨x.2.ints,s.2.ints⟩,?_⟩;rw [dO];by_cases Ls:x=s
  ·refine Split.no (by rw [decide_eq_true Ls];rfl) ?_
   obtain⟨s1,e1,e2,e3⟩:=next (u:=nK) (by
    rw [GB,List.filter_append];have: [x].filter (fun h=>decide (h≠s/\¬fy G.D h s))= []:=by rw [List.filter_cons_of_neg (by simp [Ls])];rfl
    rw [this,List.append_nil];exact Ma.same O8) F5
   rw [e1];exact⟨s1,rfl,e2,e3⟩
  ·refine Split.yes (by rw [decide_eq_false Ls];rfl) ⟨_,hcy F5,_,C15.c1,x.1,⟨x.2.1,Cells.bI Jp⟩,s.1,⟨s.2.1,Cells.bI (F5.heap V.hh YG.1)⟩,?_⟩
   obtain⟨mx,X15,_⟩:=C15.X;refine ml X15 hD x s fun E7 r hr BX=>⟨r,rfl,?_⟩;have K9:Kept (· =q) y E7:=F5.trans BX (fun _ _ h=>h.elim);have Ts:=O8.tt BX;cases r with
   |true=>
    refine Split.no rfl ?_;obtain⟨s1,e1,e2,e3⟩:=next (u:=E7) (by
     rw [GB,List.filter_append];have: [x].filter (fun h=>decide (h≠s/\¬fy G.D h s))= []:=by rw [List.filter_cons_of_neg (by simp [hr.1 rfl])];rfl
     rw [this,List.append_nil];exact Ma.same Ts) K9
    rw [e1];exact⟨s1,rfl,e2,e3⟩
   |false=>
    refine Split.yes rfl ?_;intro zI;have Iz:Kept Nil E7 zI:=(Kept.refl _ _).drew;clear_value zI;have ZQ:=Ts.tt Iz;have AM:Kept (· =q) y zI:=K9.trans Iz (fun _ _ h=>h.elim);have Jw:=Ma.same ZQ;refine⟨_,Uc AM,_,Uc AM,A,n,cp,Jw.f33,x.1,⟨x.2.1,Cells.bI ((BX.tt Iz).heap Jp (fun h=>h))⟩,x.2.1,?_⟩;intro mu;have pT:Kept Nil zI mu:=(Kept.refl _ _).alloc _;have aam:HS mu (some ⟨zI.heap.size,0,none⟩) 1 [x]:=iL zI x;clear_value mu;have Jv:=Jw.same pT;have vO:Kept (· =q) y mu:=AM.trans pT (fun _ _ h=>h.elim);have XB:=vO.size;obtain⟨A',xk,u,Ui,ku,Ju,k5,hw5⟩:=Jv.SM XB (by omega) aam;have ZI:Kept (· =q) y u:=vO.trans ku (fun j hj e=>by omega);refine⟨Jv.f33,Uc vO,Uc vO,A',n+1,xk,u,Ui,Uc ZI,hw5,?_⟩;intro wL
    replace Ju:zE wL y.heap.size q sm _ (fun _=>none) A' (n+1) xk none 0 0:=Ju
    replace k5:Kept (fun j=>j=q\/y.heap.size<=j) mu wL:=k5
    clear_value wL;obtain⟨s1,e1,e2,e3⟩:=next (u:=wL) (by
     rw [GB,List.filter_append];have: [x].filter (fun h=>decide (h≠s/\¬fy G.D h s))= [x]:=by rw [List.filter_cons_of_pos (by simp only [decide_eq_true_eq];exact⟨Ls,fun e=>by have:=hr.2 e;cases this⟩)];rfl
     rw [this];exact Ju) (vO.trans k5 (fun j hj e=>by
      rcases e with e|e
      ·exact e
      ·omega))
    rw [e1];exact⟨s1,rfl,e2,e3⟩
 ·rw [aR,al.df]
  have fJ:i=nL:=by omega
  subst fJ;rw [List.take_of_length_le (by omega)]at Ma;unfold al.cV;intro sM;have CI:Kept Nil v sM:=(Kept.refl _ _).drew;clear_value sM;have Dd:=Ma.same CI;have AK:Kept (· =q) y sM:=kv.trans CI (fun _ _ h=>h.elim);have C33:CV sM F c k G m:=C.aF AK (fun j hj e=>(iC j (.inl hj)).1 e) (fun j hj e=>(iC j (.inr (.inl hj))).1 e);have efl:(L.filter fun h=>decide (h≠s/\¬fy G.D h s))=tg G.D s l:=by unfold tg;rw [hLL]
  have CT:bK sM y.heap.size A n cp (tg G.D s l):=by rw [<-efl];exact Dd.mg
  have Q2:∀j,a8 A=some j->y.heap.size<=j/\j<sM.heap.size:=fun j hj=>by obtain⟨g1,cur,g2⟩:=Row.bI CT hj;exact⟨g1,aQ g2⟩
  refine⟨some ⟨q,0,none⟩,by rw [aD (AK.heap V.hs YF.1)];rfl,A,n,cp,Dd.f33,some ⟨c,0,none⟩,by rw [aD (AK.heap V.hc YH.1)];rfl,?_⟩;refine Bc C33 CT (by have:=bK.len CT;omega) (rh _ _ _) (fun x hx=>hLi x (by rw [<-efl]at hx;exact(List.mem_filter.1 hx).1)) (fun j hj=>⟨fun e=>by have:=C.low j (.inl e);have:=(Q2 j hj).1;omega,fun e=>by have:=C.low j (.inr e);have:=(Q2 j hj).1;omega⟩) fun l' oq Gk iV I4 AR=>⟨rfl,?_⟩;have el:l'=cP G s l:=th Gk iV;subst el;have qB:=Ma.qB;have sB:=Ma.sB;have hqs:=Ma.qs;have s33:=AK.size;have Th:Kept (· =q) y oq:=AK.trans AR (fun j hj e=>by have:=(Q2 j e).1;omega);have PS:=AR.heap Dd.top (fun e=>by have:=(Q2 q e).1;omega);have UB:=Dd.ov.aF AR (fun e=>by have:=(Q2 sm e).1;omega);intro kh uv;have ot:Kept Nil oq kh:=(Kept.refl _ _).alloc _;have Wk:kh.heap[oq.heap.size]? =some (.cells #[.slice none 0 0] ay (0,0)):=aI oq _;have uA:Kept Nil kh uv:=(Kept.refl _ _).alloc _;have Qj:uv.heap[kh.heap.size]? =some (.cells #[.nilFunc] fC (0,0)):=aI kh _;refine⟨dY Qj (by simp),?_⟩;intro xA;have Vj:xA.heap[kh.heap.size]? =some (.cells #[.func (.func bX.id) #[] #[.pointer (some ⟨bs,0,none⟩),.pointer (some ⟨bc,0,none⟩),.pointer (some ⟨bh,0,none⟩)]] fC (0,0)):=by
   show(uv.setCell ⟨kh.heap.size,0,none⟩ _).heap[kh.heap.size]? =_;rw [dh Qj 0];rfl
  have Gd:Kept (· =kh.heap.size) uv xA:=Kept.setCell (S:=(· =kh.heap.size)) (Kept.refl _ uv) (p:=⟨kh.heap.size,0,none⟩) (fun _=>rfl) _;clear_value xA;have xU:=ot.tt uA;have Zm:=ot.size;have s36:=uA.size;have l35:=aQ Wk;have l36:=aQ Qj;have Em:Kept Nil oq xA:=⟨Gd.os.trans xU.os,Gd.tape.trans xU.tape,Gd.output.trans xU.output,Nat.le_trans xU.size Gd.size,fun j hj hn=>by rw [Gd.block j (Nat.lt_of_lt_of_le hj xU.size) (by omega),xU.block j hj hn]⟩;have acH:=Gd.heap (uA.heap Wk (fun h=>h)) (by omega);have l37:=aQ Vj;clear_value uv kh;have FZ:Kept (· =q) y xA:=Th.trans Em (fun _ _ h=>h.elim);have s34:=Th.size;have s37:=FZ.size;have C37:CV xA F c k G m:=C.aF FZ (fun j hj e=>(iC j (.inl hj)).1 e) (fun j hj e=>(iC j (.inr (.inl hj))).1 e);have IU:=Em.heap PS (fun h=>h);have Nq:=UB.aF Em (fun h=>h);have PY:bK xA y.heap.size A n cp (cP G s l):=Row.aF I4 Em (fun _ _ h=>h);have V37:VB xA c s bs bc bh q sm (fun _=>none):=⟨FZ.heap V.hs YF.1,FZ.heap V.hc YH.1,FZ.heap V.hh YG.1,by rw [br,aD IU];exact(gE ..).2.2.2,Nq⟩;have Yx:∀a,A=some a->y.heap.size<=a.block/\a.block<oq.heap.size:=fun a ha=>by
   subst ha;obtain⟨g1,cur,g2⟩:=Row.bI I4 (k:=a.block) rfl;exact⟨g1,aQ g2⟩
  have WB:mT xA xA.heap.size q sm oq.heap.size ⟨s,G.score s+1,cP G s l,[]⟩ (fun _=>none) A n cp none 0 0:=
   ⟨IU,PY.hs,fun a ha=>by have:=Yx a ha;exact⟨by omega,by omega,by omega,by omega⟩,Row.nil _ _ _ _,Nq,by omega,by omega,by omega,⟨hqs,by omega,by omega⟩⟩
  refine⟨some ⟨q,0,none⟩,by rw [aD V37.hs];rfl,A,n,cp,WB.f33,?_⟩;have T7:(kO k G s l 0)=⟨G.world s++ [s],[]⟩:=rfl;refine Ck (l:=l) C37 hD qw hs hc (fun x hx=>hLi x (by
   have h1:=(iV x).1 hx;rw [<-efl]at h1;exact(List.mem_filter.1 h1).1)) V37 Vj (fun j hj=>?_) ⟨⟨fun _=>none,none,0,0,none,0,0,[],WB,acH,bK.nil _ _,by rw [T7,List.append_nil],fun j hj=>by simp [a8]at hj,by rw [T7];exact C.Z |>.ov hs hc,?_,fun z hz=>by simp at hz,rfl⟩,Kept.refl _ _⟩ hnA fun v' ov E e ce h1 h2 h3=>?_
  ·have h1:j<y.heap.size\/j=kh.heap.size:=by
    rcases hj with h|h|h|h|h|h
    ·exact .inl (C.low j (.inl h))
    ·exact .inl (C.low j (.inr h))
    ·exact .inl (by omega)
    ·exact .inl (by omega)
    ·exact .inl (by omega)
    ·exact .inr h
   rcases h1 with h1|h1
   ·have h2:j≠q/\j≠sm:=by
     rcases hj with h|h|h|h|h|h
     ·exact iC j (.inl h)
     ·exact iC j (.inr (.inl h))
     ·exact iC j (.inr (.inr (.inl h)))
     ·exact iC j (.inr (.inr (.inr (.inl h))))
     ·exact iC j (.inr (.inr (.inr (.inr h))))
     ·omega
    exact⟨h2.1,h2.2,by omega⟩
   ·exact⟨by omega,by omega,by omega⟩
  ·rw [T7]
   obtain⟨g1,g2,_⟩:=C.fg.wd s hs;exact List.nodup_append.2 ⟨g1,by simp,fun a ha b hb e=>by
    have:b=s:=by simpa using hb
    subst this;subst e;exact fy.irrefl W a (g2 a ha)⟩
  ·refine hK v' xA.heap.size oq.heap.size ov A n cp E e ce h1 h2 (fun a ha=>(Yx a ha).1) ⟨s37,h3.size⟩ ?_
   exact(FZ.mono fun _ _ h=>.inl h).trans h3 (fun j hj e=>by
    rcases e with e|e|e
    ·exact .inl e
    ·exact .inr e
    ·omega)
end
theorem Ra:R6 prog bn=some ([(0,32),(32,1),(33,1),(34,1)],List.replicate 32 (.int .u8 0)++ [.int .u64 0,.slice none 0 0,.slice none 0 0]):=by kernel_rfl
theorem wC(h:HT)(z:Int):prog.built bn [(0,.agg h.1),(1,.int .u64 z)]=some (h.1++ #[.int .u64 z,.slice none 0 0,.slice none 0 0]):=by
 have hs:=h.2.1;rw [nV Ra,jc (off:=0) (size:=32) rfl (by simpa [Value.cells]using hs) (by simp),jc (off:=32) (size:=1) rfl rfl (by
  rw [List.size_toArray,mC (by simp [Value.cells,hs])];simp)]
 simp only [Instr.fill,Option.some.injEq];apply Array.ext';unfold hU;simp [Value.cells,hs];rw [List.drop_append];simp [hs]
theorem Mr:R6 prog eh=some ([(0,35),(35,1)],List.replicate 32 (.int .u8 0)++ [.int .u64 0,.slice none 0 0,.slice none 0 0,.map none]):=by kernel_rfl
theorem yl(c:ou)(sm:Option Nat):prog.built eh [(0,.agg (cQ c none 0 0 none 0 0)),(1,.map sm)]=some (cQ c none 0 0 none 0 0++ #[.map sm]):=by
 have hs:=aZ c none 0 0 none 0 0;rw [nV Mr,jc (off:=0) (size:=35) rfl (by simpa [Value.cells]using hs) (by simp),jc (off:=35) (size:=1) rfl rfl (by
  rw [List.size_toArray,mC (by simp [Value.cells,hs])];simp)]
 simp only [Instr.fill,Option.some.injEq];apply Array.ext';unfold hU;simp [Value.cells,hs]
section
variable{g1 v w w':World}{F:Nat->Prop}{c k:Nat}{G:GS}{m:CM}{s:HT}{l ch:List HT}{bs bc bh q sm n cx:Nat}{A:Option Addr}{K:Value->World->Prop}
theorem KO{N:Nat}(Bc:EU N)(hN:(tg G.D s l).length<=N)(C:CV g1 F c k G m)(hT:tJ g1)(hD:G.D.length<=5000)(qw:k<=1000)(hs:s∈ids G.D)(hc:cI G.D G.P s ch)(hl:∀x∈l,x∈ids G.D)(zy:HS g1 A n l)(hn:n<=5000)
 (V:VB g1 c s bs bc bh q sm (fun _=>none)) (jx:g1.heap[q]? =some (.cells (cQ ⟨s,G.score s+1,[],[]⟩ none 0 0 none 0 0++ #[.map (some sm)]) eh (0,0)))
 (iC:∀j,(m.own c j\/F j\/j=bs\/j=bc\/j=bh)->j≠q/\j≠sm) (hqs:q≠sm) {p:Nat} (hp:∃mx,XV g1 m.FX m.x G.D G.P mx/\mx.g=p)
 (hK:∀v B bb ov A n cp E e ce,mT v B q sm bb (cR k G s l) ov A n cp E e ce->OV G.D (fK k G s l).wd ov (mV m.sz ch)->(∀a,A=some a->g1.heap.size<=a.block)->(g1.heap.size<=B/\B<=v.heap.size)->Kept (fun j=>j=q\/j=sm) g1 v->K (.pointer (some ⟨q,0,none⟩)) v):
 bu prog aS.id #[.pointer (some ⟨p,0,none⟩),.slice A n cx] g1 fun i1 j1=>∃k1:Option Addr,∃m1 n1:Nat,i1=.slice k1 m1 n1/\
  ∃(o1:Option Addr) (p1 q1:Nat) (r1:World),(Builtin.append_ #[ay,ay] ay #[.slice k1 m1 n1,.slice A n cx]).run prog j1=.ok (.slice o1 p1 q1) r1/\
  bu prog jA.id #[.slice o1 p1 q1] r1 fun t1 u1=>∃v1:Option Addr,∃x1 y1:Nat,t1=.slice v1 x1 y1/\
  Holds none [] prog 153 (.loop (lB (bB (sR (sL (sR (sR (sR (body al.fn))))))))) (al.q1 K)
   [(3,.pointer (some ⟨bc,0,none⟩)),(4,.pointer (some ⟨bh,0,none⟩)),(6,.pointer none),(8,.pointer (some ⟨bs,0,none⟩)),(46,.slice v1 x1 y1),(47,.int .i64 (x1:Int)),(48,.int .i64 0)] u1:=by
 have W:=C.fg.W;obtain⟨mx,X,rfl⟩:=hp;obtain⟨bl,c',mb,M,GG⟩:=X.G;have lq:=aQ jx;have lsm:=V.ov.lt;refine wv GG W (by omega) hT zy (by omega) fun A1 c1 w1 lN k1=>⟨A1,_,c1,rfl,?_⟩;have rL:(eB G.D l).length<=5000:=Nat.le_trans (nO _ _) hD;have s1:=k1.size;obtain⟨A2,c2,w2,jF,fD,g2,NX⟩:=ct ay lN (cx:=cx) (zy.same k1) (by omega) s1;have k2:Kept (fun j=>g1.heap.size<=j) w1 w2:=(Kept.refl _ _).grown g2 fun j hj _=>(Row.bI lN hj).1;have js:Kept Nil g1 w2:=k1.trans k2 (fun j hj e=>by omega);refine⟨A2,_,c2,w2,jF,?_⟩;refine jf fD.hs (by omega) fun A3 c3 w3 jR k3=>⟨A3,_,c3,rfl,?_⟩;have jY:=js.tt k3;have s02:=js.size;have Zp:=jY.size;have V3:=V.same jY;refine Cl (l:=l) Bc hN (C.same jY) hD qw hs hc hl V3 ⟨jY.heap jx (fun h=>h),bK.nil _ _,Row.nil _ _ _ _,V3.ov,by omega,by omega,hqs,fun j hj=>by simp [a8]at hj⟩ jR.hs (fun a ha=>?_) iC fun v B bb ov A n cp E e ce h1 h2 h3 h4 h5=>?_
 ·subst ha
  have:=(Row.bI jR (k:=a.block) rfl).1;omega
 ·exact hK v B bb ov A n cp E e ce h1 h2 (fun a ha=>Nat.le_trans Zp (h3 a ha)) ⟨Nat.le_trans Zp h4.1,h4.2⟩ ((jY.mono fun _ _ h=>h.elim).tt h5)
end
section
variable{w w':World}{F:Nat->Prop}{c k:Nat}{G:GS}{m:CM}{s:HT}{l ch:List HT}{n cx:Nat}{A:Option Addr}{K:Value->World->Prop}
set_option maxHeartbeats 4000000 in
theorem we{N:Nat}(Bc:EU N)(hN:(tg G.D s l).length<=N)(C:CV w F c k G m)(hT:tJ w)(hD:G.D.length<=5000)(qw:k<=1000)(hs:s∈ids G.D)(hc:cI G.D G.P s ch)(hl:∀x∈l,x∈ids G.D)(zy:HS w A n l)(hn:n<=5000)
 (hK:∀v q B sm bb ov A n cp E e ce,mT v B q sm bb (cR k G s l) ov A n cp E e ce->OV G.D (fK k G s l).wd ov (mV m.sz ch)->w.heap.size<=q->w.heap.size<=sm->(∀a,A=some a->w.heap.size<=a.block)->(w.heap.size<=B/\B<=v.heap.size)->Kept Nil w v->K (.pointer (some ⟨q,0,none⟩)) v):
 bu prog al.id #[.pointer (some ⟨c,0,none⟩),.agg s.1,.slice A n cx] w K:=by
 refine al.of ?_;unfold al.W;intro w1 w2;have k1:Kept Nil w w1:=(Kept.refl _ _).alloc _;have VY:w1.heap[w.heap.size]? =some (.cells #[.pointer (some ⟨c,0,none⟩)] eN (0,0)):=aI w _;have k2:Kept Nil w1 w2:=(Kept.refl _ _).alloc _;have uS:w2.heap[w1.heap.size]? =some (.cells s.1 ah (0,0)):=aI w1 _;clear_value w2;have KB:=k2.heap VY (fun h=>h);have js:=k1.tt k2;have s1:=k1.size;have l1:=aQ VY;have l2:=aQ uS;clear_value w1;have C2:=C.same js;obtain⟨mx2,X2,_⟩:=C2.X;refine⟨some ⟨c,0,none⟩,by rw [aD KB];rfl,_,C2.c1,gh.of (Split.no rfl (Is.mk rfl ⟨_,X2.c0,⟨_,rfl,?_⟩⟩))⟩;intro w3;have k3:Kept Nil w2 w3:=(Kept.refl _ _).drew;clear_value w3;have jY:=js.tt k3;have QH:=k3.heap KB (fun h=>h);have CR:=k3.heap uS (fun h=>h);have C3:=C.same jY;obtain⟨A1,n1,c1,B1,m1,d1,s1',sa⟩:=C3.seen s hs;have PU:G.score s<=5000:=by
  have h1:=(C.fg.wd s hs).2.2;have h2:=dc (m:=ids G.D) (C.fg.wd s hs).1 (fun b hb=>(((C.fg.wd s hs).2.1 b hb).mem C.fg.W).1);rw [gq]at h2;omega
 have ew:u64.wrap (((G.gF s).score:Int)+(1:Int))=((G.score s+1:Nat):Int):=by
  show u64.wrap ((G.score s:Int)+(1:Int))=_
  rw [show(G.score s:Int)+1=((G.score s+1:Nat):Int)by omega];exact jW (by omega)
 have ny:∀ {u:World},Kept Nil w3 u->u.cell? ⟨w.heap.size,0,none⟩=some (.pointer (some ⟨c,0,none⟩)):=fun ku=>by rw [aD (ku.heap QH (fun h=>h))];rfl
 have uR:∀ {u:World},Kept Nil w3 u->∃cs:Array Value,(.agg s.1:Value)=.agg cs/\cs.size=32/\Cells u ⟨w1.heap.size,0,none⟩ cs:=fun ku=>⟨s.1,rfl,s.2.1,Cells.bI (ku.heap CR (fun h=>h))⟩;have mq:∀ {u:World},Kept Nil w3 u->u.cell? (((⟨m.q s,0,none⟩:Addr).add 0).add 32)=some (.int .u64 ((G.gF s).score:Int)):=fun ku=>(sa.aF ku (fun _ _ h=>h)).Xb;have l3:=aQ CR;have s3:=k3.size;refine⟨s.1,⟨s.2.1,Cells.bI CR⟩,some ⟨c,0,none⟩,ny (Kept.refl _ _),_,C3.c2,s.1,⟨s.2.1,Cells.bI CR⟩,_,C3.oO hs,_,mq (Kept.refl _ _),?_⟩;rw [ew];rw [wC s];refine Is.mk rfl ?_;have BD:(s.1++ #[.int .u64 ((G.score s+1:Nat):Int),.slice none 0 0,.slice none 0 0]:Array Value)=cQ ⟨s,G.score s+1,[],[]⟩ none 0 0 none 0 0:=rfl;rw [BD];have go:∀ {u:World} {q sm bs:Nat},Kept Nil w3 u->w3.heap.size<=q->w3.heap.size<=sm->w3.heap.size<=bs->q≠sm->bs≠q->bs≠sm->
  u.heap[q]? =some (.cells (cQ ⟨s,G.score s+1,[],[]⟩ none 0 0 none 0 0++ #[.map (some sm)]) eh (0,0))->fR u sm (fun _=>none)->u.heap[bs]? =some (.cells #[.pointer (some ⟨q,0,none⟩)] fu (0,0))->_:=
  fun {u q sm bs} ku hq vT Yp h1 h2 h3 jx Qd iL=>KO (g1:=u) (bs:=bs) (bc:=w.heap.size) (bh:=w1.heap.size) (q:=q) (sm:=sm) (cx:=cx) (K:=K) (p:=mx2.g) Bc hN (C3.same ku) (hT.same (jY.tt ku)) hD qw hs hc hl (zy.same (jY.tt ku)) hn
   ⟨iL,ku.heap QH (fun h=>h),ku.heap CR (fun h=>h),by rw [br,aD jx];exact(gE ..).2.2.2,Qd⟩ jx
   (fun j hj=>by
     rcases hj with h|h|h|h|h
     ·have:=C.low j (.inl h);exact⟨by omega,by omega⟩
     ·have:=C.low j (.inr h);exact⟨by omega,by omega⟩
     ·exact⟨by omega,by omega⟩
     ·exact⟨by omega,by omega⟩
     ·exact⟨by omega,by omega⟩) h1 ⟨mx2,X2.same (k3.tt ku),rfl⟩
   (fun v B bb ov A n cp E e ce t1 t2 t3 t4 t5=>hK v q B sm bb ov A n cp E e ce t1 t2 (by omega) (by omega) (fun a ha=>by have:=t3 a ha;have:=(jY.tt ku).size;omega) ⟨by have:=(jY.tt ku).size;have:=t4.1;omega,t4.2⟩ ((jY.tt ku).trans t5 (fun j hj e=>by omega)))
 have OL:∀ {u0:World} {b q:Nat},u0.heap[b]? =some (.cells #[.pointer none] fu (0,0))->Wr u0 ⟨b,0,none⟩/\∀u1,u1=u0.setCell ⟨b,0,none⟩ (.pointer (some ⟨q,0,none⟩))->u1.heap[b]? =some (.cells #[.pointer (some ⟨q,0,none⟩)] fu (0,0))/\Kept (· =b) u0 u1:=fun {u0 b q} hb=>⟨dY hb (by simp),fun u1 e=>by
  subst e;refine⟨?_,Kept.setCell (S:=(· =b)) (Kept.refl _ u0) (p:=⟨b,0,none⟩) (fun _=>rfl) _⟩;rw [dh hb 0];rfl⟩
 refine⟨?_,?_⟩
 ·intro w4
  have k4:Kept Nil w3 w4:=(Kept.refl _ _).alloc _;have hm4:fR w4 w3.heap.size (fun _=>none):=fR.new w3;clear_value w4;have l4:=hm4.lt;refine⟨mq k4,(C3.same k4).oO hs,uR k4,(C3.same k4).c2,ny k4,uR k4,?_⟩;rw [yl];refine Is.mk rfl ⟨?_,?_⟩
  ·intro w5 w6
   have k5:Kept Nil w4 w5:=(Kept.refl _ _).alloc _;have Yc:w5.heap[w4.heap.size]? =some (.cells (cQ ⟨s,G.score s+1,[],[]⟩ none 0 0 none 0 0++ #[.map (some w3.heap.size)]) eh (0,0)):=aI w4 _;have k6:Kept Nil w5 w6:=(Kept.refl _ _).alloc _;have qJ:w6.heap[w5.heap.size]? =some (.cells #[.pointer none] fu (0,0)):=aI w5 _;clear_value w6;have Uu:=k6.heap Yc (fun h=>h);have l5:=aQ Yc;clear_value w5;have Ej:=k5.tt k6;have uA:=k4.tt Ej;have s36:=uA.size;obtain⟨t1,t2⟩:=OL (q:=w4.heap.size) qJ;refine⟨t1,?_⟩;intro w7;obtain⟨t3,t4⟩:=t2 w7 rfl;clear_value w7;exact go (uA.trans t4 (fun j hj e=>by omega)) (by omega) (by omega) (by omega) (by omega) (by omega) (by omega) (t4.heap Uu (by omega)) ((hm4.same Ej).aF t4 (by omega)) t3
  ·intro w5
   have k5:Kept Nil w4 w5:=(Kept.refl _ _).alloc _;have oS:w5.heap[w4.heap.size]? =some (.cells #[.pointer none] fu (0,0)):=aI w4 _;clear_value w5;have l5:=aQ oS;have ot:=k4.tt k5;refine⟨mq ot,(C3.same ot).oO hs,uR ot,(C3.same ot).c2,ny ot,uR ot,?_⟩;intro w6;have k6:Kept Nil w5 w6:=(Kept.refl _ _).alloc _;have Uu:w6.heap[w5.heap.size]? =some (.cells (cQ ⟨s,G.score s+1,[],[]⟩ none 0 0 none 0 0++ #[.map (some w3.heap.size)]) eh (0,0)):=aI w5 _;clear_value w6;have Ej:=k5.tt k6;have uA:=k4.tt Ej;have Zm:=ot.size;obtain⟨t1,t2⟩:=OL (q:=w5.heap.size) (k6.heap oS (fun h=>h));refine⟨t1,?_⟩;intro w7;obtain⟨t3,t4⟩:=t2 w7 rfl;clear_value w7;exact go (uA.trans t4 (fun j hj e=>by omega)) (by omega) (by omega) (by omega) (by omega) (by omega) (by omega) (t4.heap Uu (by omega)) ((hm4.same Ej).aF t4 (by omega)) t3
 ·intro w4
  have k4:Kept Nil w3 w4:=(Kept.refl _ _).alloc _;have rD:w4.heap[w3.heap.size]? =some (.cells #[.pointer none] fu (0,0)):=aI w3 _;clear_value w4;have l4:=aQ rD;refine⟨mq k4,(C3.same k4).oO hs,uR k4,(C3.same k4).c2,ny k4,uR k4,?_⟩;intro w5;have k5:Kept Nil w4 w5:=(Kept.refl _ _).alloc _;have hm5:fR w5 w4.heap.size (fun _=>none):=fR.new w4;clear_value w5;have l5:=hm5.lt;have ot:=k4.tt k5;refine⟨mq ot,(C3.same ot).oO hs,uR ot,(C3.same ot).c2,ny ot,uR ot,?_⟩;rw [yl];refine Is.mk rfl ?_;intro w6;have k6:Kept Nil w5 w6:=(Kept.refl _ _).alloc _;have Uu:w6.heap[w5.heap.size]? =some (.cells (cQ ⟨s,G.score s+1,[],[]⟩ none 0 0 none 0 0++ #[.map (some w4.heap.size)]) eh (0,0)):=aI w5 _;clear_value w6;have uA:=ot.tt k6;have Zm:=ot.size;obtain⟨t1,t2⟩:=OL (q:=w5.heap.size) ((k5.tt k6).heap rD (fun h=>h));refine⟨t1,?_⟩;intro w7;obtain⟨t3,t4⟩:=t2 w7 rfl;clear_value w7;exact go (uA.trans t4 (fun j hj e=>by omega)) (by omega) (by omega) (by omega) (by omega) (by omega) (by omega) (t4.heap Uu (by omega)) ((hm5.same k6).aF t4 (by omega)) t3
end
end Go.Proofs.YtfleamccglihoaaGreatDoor
