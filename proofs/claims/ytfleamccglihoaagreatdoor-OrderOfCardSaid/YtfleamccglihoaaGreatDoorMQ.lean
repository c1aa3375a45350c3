import Derived.Test.YtfleamccglihoaaGreatDoorMP
import Derived.Test.YtfleamccglihoaaGreatDoorMG
open Go.IntKind (i64 u64)
set_option linter.unusedVariables false
namespace Go.Proofs.YtfleamccglihoaaGreatDoor
open Go.Proofs.Tryz
open Go Go.bW Go.RowKit
theorem Cl:zE prog gQ gZ 1 1:=⟨by kernel_rfl,by kernel_rfl⟩
abbrev sD(l:List Bool):List Value:=l.map .bool
structure zF(w:World)(B q sm:Nat)(c:ou)(ov:HT->Option Nat)(A:Option Addr)(n cp:Nat)(E:Option Addr)(e ce:Nat):Prop where
 top:w.heap[q]? =some (.cells (cS c A n cp E e ce++ #[.map (some sm)]) eB (0,0))
 mg:bI w B A n cp c.merge
 bl:Row w B gZ 1 E e ce (sD c.fK)
 ov:fR w sm (K4 ov)
 qB:q<B
 sB:sm<B
 qs:q≠sm
 AE:∀j,bn A=some j->bn E≠some j
section
variable{w w':World}{B q sm:Nat}{c:ou}{ov:HT->Option Nat}{A E:Option Addr}{n cp e ce:Nat}{K:Value->World->Prop}
theorem zF.aF{S:Nat->Prop}(h:zF w B q sm c ov A n cp E e ce)(hk:Kept S w w')(h1:¬S q)(h2:¬S sm)(h3:∀j,B<=j->¬S j):zF w' B q sm c ov A n cp E e ce:=
 ⟨hk.heap h.top h1,Row.aF h.mg hk (fun j hj=>h3 j (Row.bL h.mg hj).1),Row.aF h.bl hk (fun j hj=>h3 j (Row.bL h.bl hj).1),h.ov.aF hk h2,h.qB,h.sB,h.qs,h.AE⟩
theorem zF.same(h:zF w B q sm c ov A n cp E e ce)(hk:Kept Nil w w'):zF w' B q sm c ov A n cp E e ce:=h.aF hk (fun h=>h) (fun h=>h) (fun _ _ h=>h)
theorem zF.f33(h:zF w B q sm c ov A n cp E e ce):w.cell? (((⟨q,0,none⟩:Addr).add 0).add 33)=some (.slice A n cp):=by rw [add_zero,bt,aD h.top];exact(gJ ..).2.1
theorem zF.aen(h:zF w B q sm c ov A n cp E e ce):∀j,bn A=some j\/bn E=some j->B<=j/\j<w.heap.size:=fun j hj=>by
 rcases hj with hj|hj
 ·obtain⟨h1,cur,h2⟩:=Row.bL h.mg hj;exact⟨h1,aU h2⟩
 ·obtain⟨h1,cur,h2⟩:=Row.bL h.bl hj;exact⟨h1,aU h2⟩
theorem rk(c:ou)(A:Option Addr)(n cp:Nat)(E:Option Addr)(e ce:Nat)(r:Array Value)(A':Option Addr)(n' xj:Nat):
 (cS c A n cp E e ce++r).setIfInBounds (0+33) (.slice A' n' xj)=cS c A' n' xj E e ce++r:=by
 have h0:c.iA.1.size=32:=c.iA.2.1;apply Array.ext';unfold cS;simp only [Array.toList_setIfInBounds,Array.toList_append,List.append_assoc];rw [List.set_append_right _ _ (by simp [h0])];simp [h0]
theorem ri(c:ou)(A:Option Addr)(n cp:Nat)(E:Option Addr)(e ce:Nat)(r:Array Value)(E':Option Addr)(n' xj:Nat):
 (cS c A n cp E e ce++r).setIfInBounds (0+34) (.slice E' n' xj)=cS c A n cp E' n' xj++r:=by
 have h0:c.iA.1.size=32:=c.iA.2.1;apply Array.ext';unfold cS;simp only [Array.toList_setIfInBounds,Array.toList_append,List.append_assoc];rw [List.set_append_right _ _ (by simp [h0])];simp [h0]
theorem wA(c:ou)(A:Option Addr)(n cp:Nat)(E:Option Addr)(e ce:Nat)(r:Array Value)(s:Nat):
 (cS c A n cp E e ce++r).setIfInBounds (0+32) (.int .u64 (s:Int))=cS {c with score:=s} A n cp E e ce++r:=by
 have h0:c.iA.1.size=32:=c.iA.2.1;apply Array.ext';unfold cS;simp only [Array.toList_setIfInBounds,Array.toList_append,List.append_assoc];rw [List.set_append_right _ _ (by simp [h0])];simp [h0]
theorem zF.Tp(h:zF w B q sm c ov A n cp E e ce)(hB:B<=w.heap.size)(hn:n<=100000){x:HT}{b:Nat}(hb:HS w (some ⟨b,0,none⟩) 1 [x]):
 ∃A' xj u,(Builtin.append_ #[ay,ay] ay #[.slice A n cp,.slice (some ⟨b,0,none⟩) 1 1]).run prog w=.ok (.slice A' (n+1) xj) u/\
  Kept (fun j=>B<=j) w u/\zF (u.setCell (((⟨q,0,none⟩:Addr).add 0).add 33) (.slice A' (n+1) xj)) B q sm {c with merge:=c.merge++ [x]} ov A' (n+1) xj E e ce/\
  Kept (fun j=>j=q\/B<=j) w (u.setCell (((⟨q,0,none⟩:Addr).add 0).add 33) (.slice A' (n+1) xj))/\Wr u (((⟨q,0,none⟩:Addr).add 0).add 33):=by
 obtain⟨A',xj,u,hr,fF,hg,hA⟩:=cK ay h.mg (cx:=1) hb (by omega) hB;have ku:Kept (fun j=>B<=j) w u:=(Kept.refl _ _).grown hg fun j hj _=>(Row.bL h.mg hj).1;have kA:Kept (fun j=>bn A=some j) w u:=(Kept.refl _ _).grown hg fun j hj _=>hj;have qB:=h.qB;have sB:=h.sB;have jv:=ku.heap h.top (by omega);have C6:Row u B gZ 1 E e ce (sD c.fK):=Row.aF h.bl kA (fun j hj e=>h.AE j e hj);have qx:Kept (· =q) u (u.setCell (((⟨q,0,none⟩:Addr).add 0).add 33) (.slice A' (n+1) xj)):=by
  rw [add_zero,bt];exact Kept.setCell (S:=(· =q)) (Kept.refl _ u) (p:=⟨q,0+33,none⟩) (fun _=>rfl) _
 have iG:∀ {X:Option Addr} {j:Nat},(∀k,bn X=some k->B<=k)->bn X=some j->¬j=q:=fun h hj e=>by have:=h _ hj;omega
 refine⟨A',xj,u,hr,ku,⟨?_,?_,?_,?_,qB,sB,h.qs,?_⟩,?_,?_⟩
 ·show(u.setCell (((⟨q,0,none⟩:Addr).add 0).add 33) (.slice A' (n+1) xj)).heap[q]? =_
  rw [add_zero,bt,cV jv,rk];rfl
 ·exact Row.aF fF qx (fun j hj=>iG (fun k hk=>(Row.bL fF hk).1) hj)
 ·exact Row.aF C6 qx (fun j hj=>iG (fun k hk=>(Row.bL C6 hk).1) hj)
 ·exact(h.ov.aF ku (by omega)).aF qx (fun e=>h.qs e.symm)
 ·intro j hj he
  rcases hA j hj with h1|h1
  ·exact h.AE j h1 he
  ·have:=(h.aen j (.inr he)).2;omega
 ·exact(ku.mono fun _ _ h=>.inr h).trans qx (fun _ _ e=>.inl e)
 ·rw [add_zero,bt]
  exact dm jv (by rw [Array.size_append,a8];simp)
end
structure mS(w:World)(B q sm bb:Nat)(c:ou)(ov:HT->Option Nat)(A:Option Addr)(n cp:Nat)(E:Option Addr)(e ce:Nat):Prop where
 top:w.heap[q]? =some (.cells (cS c A n cp E e ce++ #[.map (some sm)]) eB (0,0))
 mg:HS w A n c.merge
 mA:∀a,A=some a->a.block<B/\a.block≠q/\a.block≠sm/\a.block≠bb
 bl:Row w B gZ 1 E e ce (sD c.fK)
 ov:fR w sm (K4 ov)
 qB:q<B
 sB:sm<B
 bB:bb<B
 qs:q≠sm/\q≠bb/\sm≠bb
section
variable{w w':World}{B q sm bb:Nat}{c:ou}{ov:HT->Option Nat}{A E:Option Addr}{n cp e ce:Nat}{K:Value->World->Prop}
theorem mS.aF{S:Nat->Prop}(h:mS w B q sm bb c ov A n cp E e ce)(hk:Kept S w w')(h1:¬S q)(h2:¬S sm)(h3:∀j,B<=j->j<w.heap.size->¬S j)(h4:∀a,A=some a->¬S a.block):mS w' B q sm bb c ov A n cp E e ce:=
 ⟨hk.heap h.top h1,h.mg.aF hk h4,h.mA,Row.aF h.bl hk (fun j hj=>by obtain⟨g1,cur,g2⟩:=Row.bL h.bl hj;exact h3 j g1 (aU g2)),h.ov.aF hk h2,h.qB,h.sB,h.bB,h.qs⟩
theorem mS.same(h:mS w B q sm bb c ov A n cp E e ce)(hk:Kept Nil w w'):mS w' B q sm bb c ov A n cp E e ce:=h.aF hk (fun h=>h) (fun h=>h) (fun _ _ _ h=>h) (fun _ _ h=>h)
theorem mS.f32(h:mS w B q sm bb c ov A n cp E e ce):w.cell? (((⟨q,0,none⟩:Addr).add 0).add 32)=some (.int .u64 (c.score:Int)):=by rw [add_zero,bt,aD h.top];exact(gJ ..).1
theorem mS.f33(h:mS w B q sm bb c ov A n cp E e ce):w.cell? (((⟨q,0,none⟩:Addr).add 0).add 33)=some (.slice A n cp):=by rw [add_zero,bt,aD h.top];exact(gJ ..).2.1
theorem mS.f34(h:mS w B q sm bb c ov A n cp E e ce):w.cell? (((⟨q,0,none⟩:Addr).add 0).add 34)=some (.slice E e ce):=by rw [add_zero,bt,aD h.top];exact(gJ ..).2.2.1
theorem mS.f35(h:mS w B q sm bb c ov A n cp E e ce):w.cell? ((⟨q,0,none⟩:Addr).add 35)=some (.map (some sm)):=by rw [bt,aD h.top];exact(gJ ..).2.2.2
theorem mS.wr(h:mS w B q sm bb c ov A n cp E e ce){j:Nat}(hj:j<36):Wr w (((⟨q,0,none⟩:Addr).add 0).add j):=by
 rw [add_zero,bt];exact dm h.top (by rw [Array.size_append,a8];simp;omega)
theorem mS.Tb{h:mS w B q sm bb c ov A n cp E e ce}(j:Nat)(v:Value):Kept (· =q) w (w.setCell (((⟨q,0,none⟩:Addr).add 0).add j) v):=by
 rw [add_zero,bt];exact Kept.setCell (S:=(· =q)) (Kept.refl _ w) (p:=⟨q,0+j,none⟩) (fun _=>rfl) _
theorem mS.HU(h:mS w B q sm bb c ov A n cp E e ce)(hB:B<=w.heap.size)(hn:e<=100000){x:Bool}{b:Nat}(hb:w.cell? ⟨b,0,none⟩=some (.bool x)):
 ∃E' sC u,(Builtin.append_ #[gQ,gQ] gQ #[.slice E e ce,.slice (some ⟨b,0,none⟩) 1 1]).run prog w=.ok (.slice E' (e+1) sC) u/\
  Kept (fun j=>B<=j/\bn E=some j) w u/\Wr u (((⟨q,0,none⟩:Addr).add 0).add 34)/\
  mS (u.setCell (((⟨q,0,none⟩:Addr).add 0).add 34) (.slice E' (e+1) sC)) B q sm bb {c with fK:=c.fK++ [x]} ov A n cp E' (e+1) sC/\
  Kept (fun j=>j=q\/bn E=some j) w (u.setCell (((⟨q,0,none⟩:Addr).add 0).add 34) (.slice E' (e+1) sC))/\(∀j,bn E'=some j->bn E=some j\/w.heap.size<=j):=by
 obtain⟨E',sC,u,hr,fF,hg,hE⟩:=fP (P:=prog) (t:=gQ) (bytes:=1) (ty:=gQ) Cl h.bl (a:=⟨b,0,none⟩) (m:=1) (cx:=1) (news:= [.bool x]) rfl (fun j v hj=>by
  cases j with
  |zero=>simp only [List.getElem?_cons_zero,Option.some.injEq]at hj;subst hj;rw [add_zero];exact hb
  |succ j=>simp at hj) (fun v hv=>by
  have:v=.bool x:=by simpa using hv
  subst this;rfl) (by omega) (by unfold maxLen;omega) hB
 have qB:=h.qB;have sB:=h.sB;have kE:Kept (fun j=>B<=j/\bn E=some j) w u:=(Kept.refl _ _).grown hg fun j hj _=>⟨(Row.bL h.bl hj).1,hj⟩;have jv:=kE.heap h.top (by omega);have qx:Kept (· =q) u (u.setCell (((⟨q,0,none⟩:Addr).add 0).add 34) (.slice E' (e+1) sC)):=by
  rw [add_zero,bt];exact Kept.setCell (S:=(· =q)) (Kept.refl _ u) (p:=⟨q,0+34,none⟩) (fun _=>rfl) _
 refine⟨E',sC,u,hr,kE,?_,⟨?_,?_,h.mA,?_,?_,qB,sB,h.bB,h.qs⟩,?_,hE⟩
 ·rw [add_zero,bt]
  exact dm jv (by rw [Array.size_append,a8];simp)
 ·show(u.setCell (((⟨q,0,none⟩:Addr).add 0).add 34) (.slice E' (e+1) sC)).heap[q]? =_
  rw [add_zero,bt,cV jv,ri];rfl
 ·exact(h.mg.aF kE (fun a ha=>by have:=(h.mA a ha).1;omega)).aF qx (fun a ha=>(h.mA a ha).2.1)
 ·have e1:sD (c.fK++ [x])=sD c.fK++ [.bool x]:=by simp [sD]
  show Row _ B gZ 1 E' (e+1) sC (sD (c.fK++ [x]))
  rw [e1];exact Row.aF fF qx (fun j hj=>by have:=(Row.bL fF hj).1;omega)
 ·exact(h.ov.aF kE (by omega)).aF qx (fun e=>h.qs.1 e.symm)
 ·exact(kE.mono fun _ _ h=>.inr h.2).trans qx (fun _ _ e=>.inl e)
theorem mS.O1(h:mS w B q sm bb c ov A n cp E e ce)(s:Nat):
 mS (w.setCell (((⟨q,0,none⟩:Addr).add 0).add 32) (.int .u64 (s:Int))) B q sm bb {c with score:=s} ov A n cp E e ce/\Kept (· =q) w (w.setCell (((⟨q,0,none⟩:Addr).add 0).add 32) (.int .u64 (s:Int))):=by
 have qB:=h.qB;have qx:=mS.Tb (h:=h) 32 (.int .u64 (s:Int));refine⟨⟨?_,h.mg.aF qx (fun a ha=>(h.mA a ha).2.1),h.mA,Row.aF h.bl qx (fun j hj=>by have:=(Row.bL h.bl hj).1;omega),h.ov.aF qx (fun e=>h.qs.1 e.symm),h.qB,h.sB,h.bB,h.qs⟩,qx⟩;rw [add_zero,bt,cV h.top,wA]
theorem mS.note(h:mS w B q sm bb c ov A n cp E e ce)(b:HT)(n0:Nat):
 ∃u,(Instr.mapUpdate cO (.map (some sm)) (.agg b.1) (.int .i64 (n0:Int))).run prog w=.ok () u/\mS u B q sm bb c (fun y=>if y=b then some n0 else ov y) A n cp E e ce/\Kept (· =sm) w u:=by
 have sB:=h.sB;obtain⟨u,hr,hm,hk⟩:=h.ov.put rW b (.int .i64 (n0:Int));refine⟨u,hr,⟨hk.heap h.top h.qs.1,h.mg.aF hk (fun a ha=>(h.mA a ha).2.2.1),h.mA,Row.aF h.bl hk (fun j hj=>by have:=(Row.bL h.bl hj).1;omega),?_,h.qB,h.sB,h.bB,h.qs⟩,hk⟩;have e1:K4 (fun y=>if y=b then some n0 else ov y)=fun x=>if x=b then some (.int .i64 (n0:Int))else K4 ov x:=by
  funext y
  unfold K4;by_cases e:y=b
  ·simp only [if_pos e,Option.map_some]
  ·simp only [if_neg e]
 rw [e1];exact hm
end
noncomputable def kW(k:Nat)(G:GS)(s:HT)(l:List HT)(i:Nat):VS:=((cR G s l).take i).foldl (oO k G.D) ⟨G.world s++ [s],[]⟩
structure V2(y v:World)(k:Nat)(G:GS)(s:HT)(l:List HT)(base:HT->Nat)(q sm bb:Nat)(A:Option Addr)(n cp i:Nat):Prop where
 ex:∃(ov:HT->Option Nat) (E:Option Addr) (e ce:Nat) (Ab:Option Addr) (nb cb:Nat) (bl:List HT),
  mS v y.heap.size q sm bb ⟨s,G.score s+1+(kW k G s l i).bl.count true,cR G s l,(kW k G s l i).bl⟩ ov A n cp E e ce/\
  v.heap[bb]? =some (.cells #[.slice Ab nb cb] ay (0,0))/\bI v y.heap.size Ab nb cb bl/\(kW k G s l i).wd=G.world s++ [s]++bl/\(∀j,bn Ab=some j->bn E≠some j)/\
  OV G.D (kW k G s l i).wd ov base/\(kW k G s l i).wd.Nodup/\(∀z∈bl,z∈(cR G s l).take i)/\e=i
 kp:Kept (fun j=>j=q\/j=sm\/j=bb) y v
theorem mS.Ik{w w':World}{B q sm bb:Nat}{c:ou}{ov:HT->Option Nat}{A E:Option Addr}{n cp e ce:Nat}{S:Nat->Prop}(h:mS w B q sm bb c ov A n cp E e ce)(hk:Kept S w w')(h1:¬S q)(h2:¬S sm)(h3:∀j,bn E=some j->¬S j)(h4:∀a,A=some a->¬S a.block):mS w' B q sm bb c ov A n cp E e ce:=
 ⟨hk.heap h.top h1,h.mg.aF hk h4,h.mA,Row.aF h.bl hk h3,h.ov.aF hk h2,h.qB,h.sB,h.bB,h.qs⟩
theorem zM{k:Nat}{G:GS}{s:HT}{l:List HT}{i:Nat}{x:HT}(hx:(cR G s l)[i]? =some x):kW k G s l (i+1)=oO k G.D (kW k G s l i) x:=by
 unfold kW;have e:(cR G s l).take (i+1)=(cR G s l).take i++ [x]:=by rw [List.take_add_one,hx];rfl
 rw [e,List.foldl_append];rfl
theorem DK(k:Nat)(G:GS)(s:HT)(l:List HT)(i:Nat)(hi:i<=(cR G s l).length):(kW k G s l i).bl.length=i:=by
 obtain⟨b,h1,h2⟩:=Hs k G.D (G.world s++ [s]) ((cR G s l).take i);unfold kW;rw [h2];show b.length=i
 rw [h1,List.length_take];omega
theorem DL(k:Nat)(G:GS)(s:HT)(l:List HT):kW k G s l (cR G s l).length=fU k G s l:=by
 unfold kW fU;rw [List.take_of_length_le (Nat.le_refl _)]
section
variable{y v w w':World}{F:Nat->Prop}{c k:Nat}{G:GS}{m:CM}{s:HT}{l ch:List HT}{bs bc bh q sm bb kb n cp:Nat}{A:Option Addr}{K:Value->World->Prop}
set_option maxHeartbeats 4000000 in
theorem Cd(C:CV y F c k G m)(hD:G.D.length<=5000)(rz:k<=1000)(hs:s∈ids G.D)(hc:cI G.D G.P s ch)(hM:∀x∈cR G s l,x∈ids G.D)
 (V:VB y c s bs bc bh q sm (fun _=>none)) (NN:y.heap[kb]? =some (.cells #[.func (.func b7.id) #[] #[.pointer (some ⟨bs,0,none⟩),.pointer (some ⟨bc,0,none⟩),.pointer (some ⟨bh,0,none⟩)]] fE (0,0)))
 (iG:∀j,(m.own c j\/F j\/j=bs\/j=bc\/j=bh\/j=kb)->j≠q/\j≠sm/\j≠bb)
 (h0:V2 y y k G s l (mV m.sz ch) q sm bb A n cp 0) (hn:n<=5000)
 (hK:∀v ov E e ce,mS v y.heap.size q sm bb (dg k G s l) ov A n cp E e ce->OV G.D (fU k G s l).wd ov (mV m.sz ch)->Kept (fun j=>j=q\/j=sm\/j=bb) y v->K (.pointer (some ⟨q,0,none⟩)) v):
 Holds none [] prog 153 (.loop (lB (bB (sR (sL (fk (body ak.fn))))))) (ak.q2 K)
  [(3,.pointer (some ⟨bc,0,none⟩)),(6,.pointer none),(8,.pointer (some ⟨bs,0,none⟩)),(11,.pointer (some ⟨bb,0,none⟩)),(12,.func (.func ah.id) #[] #[.pointer (some ⟨bb,0,none⟩),.pointer (some ⟨bc,0,none⟩),.pointer (some ⟨bh,0,none⟩)]),(13,.pointer (some ⟨kb,0,none⟩)),(92,.slice A n cp),(93,.int .i64 (n:Int)),(94,.int .i64 0)] y:=by
 have W:=C.fc.W;have hmn:(cR G s l).Nodup:=(mr G s l).nodup;have VP:(cR G s l).length=n:=by obtain⟨_,_,_,_,_,_,_,_,h,_⟩:=h0.ex;exact h.mg.len
 have lbs:=aU V.hs;have lbc:=aU V.hc;have lbh:=aU V.hh;have lkb:=aU NN;have Y9:=iG bs (.inr (.inr (.inl rfl)));have Zb:=iG bc (.inr (.inr (.inr (.inl rfl))));have Za:=iG bh (.inr (.inr (.inr (.inr (.inl rfl)))));have fkb:=iG kb (.inr (.inr (.inr (.inr (.inr rfl)))));refine ak.gU (I:=fun s0 v=>∃i:Nat,s0=(i:Int)/\i<=n/\V2 y v k G s l (mV m.sz ch) q sm bb A n cp i) (μ:=fun s0 _=>((n:Int)-s0).toNat) (s:=0) ⟨0,rfl,Nat.zero_le _,h0⟩ ?_;rintro s0 v ⟨i,rfl,hi,hV⟩;obtain⟨ov,E,e,ce,Ab,nb,cb,bl,hS,xg,fF,R0,hAE,hO,gu,vT,hie⟩:=hV.ex;have kv:=hV.kp;have sv:=kv.size;refine Split.dec (fun jK=>?_) (fun gA=>?_)
 ·have dS:i<n:=by omega
  obtain⟨x,hx⟩:∃x,(cR G s l)[i]? =some x:=⟨_,List.getElem?_eq_getElem (by omega)⟩;have RZ:=hM x (List.mem_of_getElem? hx);have Yr:x∉(kW k G s l i).wd:=by
   rw [R0];intro hm;obtain⟨_,g1,g2⟩:=ko.1 (List.mem_of_getElem? hx);rcases List.mem_append.1 hm with hm|hm
   ·rcases List.mem_append.1 hm with hm|hm
    ·exact g2 ((C.fc.wd s hs).2.1 x hm)
    ·exact g1 (by simpa using hm)
   ·have h1:=vT x hm
    obtain⟨j,hj⟩:=List.mem_iff_getElem?.1 h1;rw [List.getElem?_take]at hj;split at hj
    ·rename_i KB
     have h2:=(lgeS hj);have h3:=(lgeS hx);have:=(List.getElem_inj hmn).1 (h2.2.trans h3.2.symm);omega
    ·cases hj
  have qy:=zM (k:=k) hx;refine hS.mg.load (i:=(i:Int)) (by omega) hx ?_;intro mT;obtain⟨tf,jM,kz⟩:=iy (w:=v) (z:=eN.1) (cs:=x.1) (t:=ag) (by rw [x.2.1];rfl);refine⟨⟨x.2.1,x.2.one,fun j hj=>tf j (by rw [x.2.1];exact hj)⟩,?_⟩;intro iR
  replace jM:iR.heap[v.heap.size]? =some (.cells x.1 ag (0,0)):=jM
  replace kz:Kept Nil v iR:=kz
  clear_value iR;intro nM jH;have tP:Kept Nil iR nM:=(Kept.refl _ _).alloc _;have VH:fR nM iR.heap.size (fun _=>none):=fR.new iR;have nt:Kept Nil nM jH:=(Kept.refl _ _).alloc _;have QP:jH.heap[nM.heap.size]? =some (.cells #[.map none] cO (0,0)):=aH nM _;refine⟨dm QP (by simp),?_⟩;intro xA;have Ws:xA.heap[nM.heap.size]? =some (.cells #[.map (some iR.heap.size)] cO (0,0)):=by
   show(jH.setCell ⟨nM.heap.size,0,none⟩ (.map (some iR.heap.size))).heap[nM.heap.size]? =_;rw [cV QP 0];rfl
  have Iy:Kept (· =nM.heap.size) jH xA:=Kept.setCell (S:=(· =nM.heap.size)) (Kept.refl _ jH) (p:=⟨nM.heap.size,0,none⟩) (fun _=>rfl) _;clear_value xA;have s14:=kz.size;have s15:=tP.size;have l14:=aU jM;have l15:=VH.lt;have l16:=aU QP;have ID:Kept Nil iR xA:=⟨Iy.os.trans (tP.tt nt).os,Iy.tape.trans (tP.tt nt).tape,Iy.output.trans (tP.tt nt).output,Nat.le_trans (tP.tt nt).size Iy.size,fun j hj hn=>by rw [Iy.block j (Nat.lt_of_lt_of_le hj (tP.tt nt).size) (by omega),(tP.tt nt).block j hj hn]⟩;have abW:fR xA iR.heap.size (fun _=>none):=(VH.same nt).aF Iy (by omega);have NX:=ID.heap jM (fun h=>h);clear_value jH nM;have Li:Kept Nil v xA:=kz.tt ID;have FY:Kept (fun j=>j=q\/j=sm\/j=bb) y xA:=kv.trans Li (fun _ _ h=>h.elim);have Rb:=hS.same Li;have C17:CV xA F c k G m:=C.aF FY (fun j hj e=>by have:=iG j (.inl hj);omega) (fun j hj e=>by have:=iG j (.inr (.inl hj));omega);have V17:VB xA c s bs bc bh q sm ov:=⟨FY.heap V.hs (by omega),FY.heap V.hc (by omega),FY.heap V.hh (by omega),Rb.f35,Rb.ov⟩;have VX:=FY.heap NN (by omega);have I5:bI xA y.heap.size Ab nb cb bl:=Row.aF fF Li (fun _ _ h=>h);have Of:=Li.heap xg (fun h=>h);refine⟨x.1,⟨x.2.1,Cells.bL NX⟩,?_⟩;have qB:=hS.qB;have sB:=hS.sB;have bB:=hS.bB;have Jt:∀b∈(kW k G s l i).wd,r6 ov (mV m.sz ch) b=(bZ G.D (kW k G s l i).wd b).length:=hO.kn;have uu:=gu;rw [R0]at uu;obtain⟨c1,c2,c3⟩:=MB C.fc (h:=x) hs hc uu;rw [<-R0]at c2 c3;have WJ:=fF.len;have Ew:nb<=5000:=by
   have h1:=dq (m:=cR G s l) (List.nodup_append.1 uu).2.1 (fun z hz=>List.mem_of_mem_take (vT z hz));omega
  have Ri:∀a,Ab=some a->a.block<iR.heap.size:=fun a ha=>by
   subst ha;obtain⟨_,cur,h1⟩:=Row.bL fF (k:=a.block) rfl;have:=aU h1;omega
  refine Bm (p:=⟨bs,bc,bh,q,sm,kb,nM.heap.size,iR.heap.size,0,0⟩) ⟨C17,V17,VX,Ws,(fun e=>by have:iR.heap.size<y.heap.size:=C.low _ (.inl e);omega),(fun e=>by have:iR.heap.size<y.heap.size:=C.low _ (.inr e);omega),(show bs≠iR.heap.size/\bc≠iR.heap.size/\bh≠iR.heap.size/\q≠iR.heap.size/\sm≠iR.heap.size/\kb≠iR.heap.size/\nM.heap.size≠iR.heap.size from⟨by omega,by omega,by omega,by omega,by omega,by omega,by omega⟩)⟩ hD rz hs hc (h:=x) Of (by show bb≠iR.heap.size;omega) I5.hs (fun a ha=>by have:=Ri a ha;show a.block≠iR.heap.size;omega) (by omega) (by
   show fR xA iR.heap.size _
   have e0:(fun y=>if y∈([]:List HT)then some (Value.int .i64 (r6 ov (mV m.sz ch) y:Int))else none)=fun _=>none:=by funext y;simp
   rw [e0];exact abW) c1 fun E0 r hr hFr BS=>⟨r,rfl,?_⟩
  replace BS:Kept (· =iR.heap.size) xA E0:=BS
  have NZ:r=oV k G.D (kW k G s l i).wd x:=by rw [hr];exact JU Jt c2 c3
  have Xo:∀j,bn E=some j->y.heap.size<=j/\j<v.heap.size:=fun j hj=>by obtain⟨g1,cur,g2⟩:=Row.bL hS.bl hj;exact⟨g1,aU g2⟩
  have JC:∀j,bn Ab=some j->y.heap.size<=j/\j<v.heap.size:=fun j hj=>by obtain⟨g1,cur,g2⟩:=Row.bL fF hj;exact⟨g1,aU g2⟩
  have s17:=ID.size;have ado:=Rb.Ik BS (by omega) (by omega) (fun j hj=>by have:=Xo j hj;omega) (fun a ha=>by have:=(hS.mA a ha).1;omega);have Qg:bI E0 y.heap.size Ab nb cb bl:=Row.aF I5 BS (fun j hj=>by have:=JC j hj;omega);have Le:Kept (fun j=>j=q\/j=sm\/j=bb) y E0:=FY.trans BS (fun j hj e=>by omega);have WO:=BS.heap Of (by omega);have WG:=BS.heap NX (by omega);have acz:=BS.heap Ws (by omega);intro zJ;have Iw:Kept Nil E0 zJ:=(Kept.refl _ _).drew;clear_value zJ;have Jy:=ado.same Iw;have AJ:=Le.trans Iw (fun _ _ h=>h.elim);have Ba:∀ {u:World} {S:Nat->Prop},Kept S y u->¬S bs->u.cell? ⟨bs,0,none⟩=some (.pointer (some ⟨q,0,none⟩)):=fun ku hb=>by rw [aD (ku.heap V.hs hb)];rfl
  have MU:¬(bs=q\/bs=sm\/bs=bb):=by omega
  have s21:=AJ.size;refine⟨_,Ba AJ MU,_,Ba AJ MU,E,e,ce,Jy.f34,?_⟩;intro mo;have mX:Kept Nil zJ mo:=(Kept.refl _ _).alloc _;have Mh:mo.heap[zJ.heap.size]? =some (.cells #[.bool r] gZ (0,0)):=aH zJ _;clear_value mo;have Jx:=Jy.same mX;have vO:=AJ.trans mX (fun _ _ h=>h.elim);have Yc:=vO.size;obtain⟨E',sC,u,UO,kE,aaN,Jw,k5,hE5⟩:=Jx.HU (by omega) (by omega) (x:=r) (b:=zJ.heap.size) (by rw [aD Mh];rfl);have Z6:Kept (fun j=>j=q\/j=sm\/j=bb) y u:=vO.trans kE (fun j hj e=>by have:=Xo j e.2;omega);refine⟨Jx.f34,Ba vO MU,Ba vO MU,E',e+1,sC,u,UO,Ba Z6 MU,aaN,?_⟩;intro wL
  replace Jw:mS wL y.heap.size q sm bb _ ov A n cp E' (e+1) sC:=Jw
  replace k5:Kept (fun j=>j=q\/bn E=some j) mo wL:=k5
  clear_value wL;have Pe:Kept (fun j=>j=q\/j=sm\/j=bb) y wL:=vO.trans k5 (fun j hj e=>by
   rcases e with e|e
   ·exact .inl e
   ·have:=Xo j e;omega)
  have Ix:Kept (fun j=>j=q\/bn E=some j) E0 wL:=((Iw.tt mX).mono fun _ _ h=>h.elim).tt k5;have aeG:=(Iw.tt mX).size;have s20:=BS.size;have I4:bI wL y.heap.size Ab nb cb bl:=Row.aF Qg Ix (fun j hj e=>by
   have:=JC j hj;rcases e with e|e
   ·omega
   ·exact hAE j hj e)
  have Oe:=Ix.heap WO (fun e=>by
   rcases e with e|e
   ·exact hS.qs.2.1 e.symm
   ·have:=Xo bb e;omega)
  have Rj:∀j,bn Ab=some j->bn E'≠some j:=fun j hj he=>by
   rcases hE5 j he with h1|h1
   ·exact hAE j hj h1
   ·have:=JC j hj;omega
  have Ns:∀z∈bl,z∈(cR G s l).take (i+1):=fun z hz=>by
   have h1:=vT z hz;rw [List.take_add_one];exact List.mem_append_left _ h1
  cases r with
  |false=>
   refine Split.yes rfl ?_;rw [dM (n:=(i:Int)) (by omega) (by omega)];have yR:kW k G s l (i+1)=⟨(kW k G s l i).wd,(kW k G s l i).bl++ [false]⟩:=by rw [qy,oO,<-NZ];rfl
   refine⟨(i:Int)+1,rfl,⟨i+1,rfl,dS,⟨ov,E',e+1,sC,Ab,nb,cb,bl,?_,Oe,I4,?_,Rj,?_,?_,Ns,by omega⟩,Pe⟩,by simp only;omega⟩
   ·rw [yR]
    simpa [List.count_append]using Jw
   ·rw [yR];exact R0
   ·rw [yR];exact hO
   ·rw [yR];exact gu
  |true=>
   refine Split.no rfl ?_;have Rf:=hFr rfl
   replace Rf:zt E0 iR.heap.size (r6 ov (mV m.sz ch)) (oU G x bl ch):=Rf
   have dt:=(p7.1 hr.symm).2;have qC:=dq (m:=ids G.D) c1 (fun z hz=>by
    have h1:=(fO.1 ((c3 z).1 hz)).1;rw [R0]at h1;rcases List.mem_append.1 h1 with h1|h1
    ·rcases List.mem_append.1 h1 with h1|h1
     ·exact(((C.fc.wd s hs).2.1 z h1).mem W).1
     ·have:z=s:=by simpa using h1
      subst this;exact hs
    ·exact hM z (List.mem_of_mem_take (vT z h1)))
   rw [gz]at qC;generalize jX:oU G x bl ch=lh at*;generalize ab5:r6 ov (mV m.sz ch)=kn at*;have Qa:G.score s<=5000:=by
    have h1:=(C.fc.wd s hs).2.2;have h2:=dq (m:=ids G.D) (C.fc.wd s hs).1 (fun b hb=>(((C.fc.wd s hs).2.1 b hb).mem W).1);rw [gz]at h2;omega
   have acF:(kW k G s l i).bl.count true<=5000:=by
    have h1:=List.count_le_length (a:=true) (l:=(kW k G s l i).bl);rw [DK k G s l i (by omega)]at h1;omega
   generalize Er:G.score s+1+(kW k G s l i).bl.count true=sc at*;have ew:u64.wrap ((sc:Int)+(1:Int))=((sc+1:Nat):Int):=by
    rw [show(sc:Int)+1=((sc+1:Nat):Int)by omega];exact jU (by omega)
   refine⟨_,Ba Pe MU,_,Jw.f32,Jw.wr (by omega),?_⟩;intro uE sx;have adm:mS uE y.heap.size q sm bb ⟨s,sc+1,cR G s l,(kW k G s l i).bl++ [true]⟩ ov A n cp E' (e+1) sC:=by
    show mS (wL.setCell (((⟨q,0,none⟩:Addr).add 0).add 32) (.int .u64 (u64.wrap ((sc:Int)+(1:Int))))) _ _ _ _ _ _ _ _ _ _ _ _
    rw [ew];exact(Jw.O1 (sc+1)).1
   have G6:Kept (· =q) wL uE:=mS.Tb (h:=Jw) 32 _;have Cy:Kept Nil uE sx:=(Kept.refl _ _).drew;clear_value sx uE;have C8:=adm.same Cy;have Eg:Kept (· =q) wL sx:=G6.trans Cy (fun _ _ h=>h.elim);have AI:=Pe.trans Eg (fun j hj e=>.inl e);have Ei:Kept (fun j=>j=q\/bn E=some j) E0 sx:=Ix.trans Eg (fun j hj e=>.inl e);have JK:∀j,v.heap.size<=j->¬(j=q\/bn E=some j):=fun j hj e=>by
    rcases e with e|e
    ·omega
    ·have:=Xo j e;omega
   have NW:=Ei.heap WG (JK _ (Nat.le_refl _));have Wq:=Ei.heap acz (JK _ (by omega));have Xm:zt sx iR.heap.size kn lh:=Rf.aF Ei (JK _ (by omega));have QD:∀z,(if z∈lh then some (Value.int .i64 (kn z:Int))else none)≠none↔z∈lh:=fun z=>by
    by_cases hz:z∈lh
    ·rw [if_pos hz];exact⟨fun _=>hz,fun _ e=>by cases e⟩
    ·rw [if_neg hz];exact⟨fun e=>absurd rfl e,fun e=>absurd e hz⟩
   obtain⟨ug,abi,Xe,uk⟩:=C8.note x lh.length;have s33:=Ei.size;have Z8:=AI.trans uk (fun j hj e=>.inr (.inl e));have adz:zt ug iR.heap.size kn lh:=Xm.aF uk (by omega);have acy:=uk.heap Wq (by omega);have WE:=uk.heap NW (by omega);have Qe:bI ug y.heap.size Ab nb cb bl:=Row.aF (Row.aF I4 Eg (fun j hj e=>by have:=JC j hj;omega)) uk (fun j hj e=>by have:=JC j hj;omega);have WM:=uk.heap (Eg.heap Oe (fun e=>hS.qs.2.1 e.symm)) (fun e=>hS.qs.2.2 e.symm);obtain⟨w38,B7,abh,hit,RV⟩:=adz.range rW;have s36:=uk.size;have s38:=RV.size;refine⟨_,Ba AI MU,some sm,C8.f35,x.1,⟨x.2.1,Cells.bL NW⟩,some iR.heap.size,by rw [aD Wq];rfl,lh.length,Xm.len rW eW c1 QD,ug,abi,some iR.heap.size,by rw [aD acy];rfl,_,w38,abh,?_⟩;refine ak.vM (I:=fun _ u=>∃left B7 MT,oW u iR.heap.size ug.heap.size (fun z=>if z∈lh then some (Value.int .i64 (kn z:Int))else none) left B7/\mS u y.heap.size q sm bb ⟨s,sc+1,cR G s l,(kW k G s l i).bl++ [true]⟩ MT A n cp E' (e+1) sC/\
    (∀z,(left z->z∈lh)/\(z∈lh->¬left z->MT z=some (kn z+1))/\((z∉lh\/left z)->MT z=if z=x then some lh.length else ov z))/\Kept (fun j=>j=sm\/j=ug.heap.size) w38 u) (μ:=fun _ u=>u.rangeLeft iR.heap.size ug.heap.size) (s:=())
    ⟨_,B7,_,hit,Xe.same RV,fun z=>⟨fun hz=>(QD z).1 hz,fun hz hl=>absurd ((QD z).2 hz) hl,fun _=>rfl⟩,Kept.refl _ _⟩ ?_
   rintro s1 u3 ⟨left,alx,MT,Qz,Ra,hinv,ku⟩;have ZH:=ku.size;have lit:=Qz.lt;have ky3:Kept (fun j=>j=q\/j=sm\/j=bb) y u3:=(Z8.trans RV (fun _ _ h=>h.elim)).trans ku (fun j hj e=>by
    rcases e with e|e
    ·exact .inr (.inl e)
    ·omega)
   rcases Qz.next 0 with⟨h0',Vo,jJ⟩|⟨z,val,u4,adZ,hl,hfz,jJ,acB,ab7,cY,k4⟩
   ·refine .inl ⟨u3,jJ,?_⟩
    rw [aR,ak.Ca];unfold ak.xu;have WN:=ku.heap (RV.heap WM (fun h=>h)) (by have:=hS.qs;omega);have Gu:=ku.heap (RV.heap WE (fun h=>h)) (by omega);have UQ:bI u3 y.heap.size Ab nb cb bl:=Row.aF (Row.aF Qe RV (fun _ _ h=>h)) ku (fun j hj e=>by have:=JC j hj;omega);refine⟨Ab,nb,cb,by rw [aD WN];rfl,x.1,⟨x.2.1,Cells.bL Gu⟩,x.2.1,?_⟩;intro Ko;have RU:Kept Nil u3 Ko:=(Kept.refl _ _).alloc _;have aaI:HS Ko (some ⟨u3.heap.size,0,none⟩) 1 [x]:=jf u3 x;clear_value Ko;have s50:=RU.size;have Qc:bI Ko y.heap.size Ab nb cb bl:=Row.aF UQ RU (fun _ _ h=>h);obtain⟨A6,c6,Hp,Qi,MP,g51,adF⟩:=cK ay Qc (cx:=1) aaI (by omega) (by omega);have Ym:Kept (fun j=>bn Ab=some j) Ko Hp:=(Kept.refl _ _).grown g51 fun j hj _=>hj;have Od:=Ym.heap (RU.heap WN (fun h=>h)) (fun e=>by have:=JC bb e;omega);refine⟨A6,nb+1,c6,Hp,Qi,dm Od (by simp),?_⟩;intro ML;have WL:ML.heap[bb]? =some (.cells #[.slice A6 (nb+1) c6] ay (0,0)):=by
     show(Hp.setCell ⟨bb,0,none⟩ (.slice A6 (nb+1) c6)).heap[bb]? =_;rw [cV Od 0];rfl
    have Io:Kept (· =bb) Hp ML:=Kept.setCell (S:=(· =bb)) (Kept.refl _ Hp) (p:=⟨bb,0,none⟩) (fun _=>rfl) _;clear_value ML;have wU:Kept (fun j=>bn Ab=some j\/j=bb) u3 ML:=((RU.mono fun _ _ h=>h.elim).trans Ym (fun _ _ h=>.inl h):Kept (fun j=>bn Ab=some j\/j=bb) u3 Hp).trans Io (fun _ _ h=>.inr h);have adl:mS ML y.heap.size q sm bb ⟨s,sc+1,cR G s l,(kW k G s l i).bl++ [true]⟩ MT A n cp E' (e+1) sC:=Ra.Ik wU
     (fun e=>e.elim (fun e=>by have:=JC q e;omega) (fun e=>hS.qs.2.1 e)) (fun e=>e.elim (fun e=>by have:=JC sm e;omega) (fun e=>hS.qs.2.2 e))
     (fun j hj e=>e.elim (fun e=>Rj j e hj) (fun e=>by have:=(Row.bL Ra.bl hj).1;omega)) (fun a ha e=>e.elim (fun e=>by have:=JC _ e;have:=(hS.mA a ha).1;omega) (fun e=>(hS.mA a ha).2.2.2 e))
    have tG:bI ML y.heap.size A6 (nb+1) c6 (bl++ [x]):=Row.aF MP Io (fun j hj e=>by have:=(Row.bL MP hj).1;omega);rw [dM (n:=(i:Int)) (by omega) (by omega)];have yR:kW k G s l (i+1)=⟨(kW k G s l i).wd++ [x],(kW k G s l i).bl++ [true]⟩:=by rw [qy,oO,<-NZ];rfl
    have abB:MT=Aj G.D (kW k G s l i).wd ov (mV m.sz ch) x:=by
     funext z
     unfold Aj;rw [ab5];by_cases hz:z∈lh
     ·rw [if_pos ((c3 z).1 hz)]
      exact(hinv z).2.1 hz (Vo z)
     ·rw [if_neg (fun e=>hz ((c3 z).2 e)),(hinv z).2.2 (.inl hz),c2]
    refine⟨(i:Int)+1,rfl,⟨i+1,rfl,dS,⟨MT,E',e+1,sC,A6,nb+1,c6,bl++ [x],?_,WL,tG,?_,?_,?_,?_,?_,by omega⟩,?_⟩,by simp only;omega⟩
    ·rw [yR]
     have ec:G.score s+1+((kW k G s l i).bl++ [true]).count true=sc+1:=by rw [List.count_append,<-Er];simp;omega
     show mS ML y.heap.size q sm bb ⟨s,G.score s+1+((kW k G s l i).bl++ [true]).count true,cR G s l,(kW k G s l i).bl++ [true]⟩ MT A n cp E' (e+1) sC
     rw [ec];exact adl
    ·rw [yR]
     show(kW k G s l i).wd++ [x]=_;rw [R0,List.append_assoc]
    ·intro j hj he
     rcases adF j hj with h1|h1
     ·exact Rj j h1 he
     ·obtain⟨_,cur,h2⟩:=Row.bL Ra.bl he
      have:=aU h2;omega
    ·rw [yR,abB]
     exact hO.step Yr
    ·rw [yR]
     exact List.nodup_append.2 ⟨gu,by simp,fun a ha b hb e=>by
      have:b=x:=by simpa using hb
      subst this;subst e;exact Yr ha⟩
    ·intro z hz
     rcases List.mem_append.1 hz with hz|hz
     ·exact Ns z hz
     ·have:z=x:=by simpa using hz
      subst this;rw [List.take_add_one,hx];simp
    ·exact ky3.trans wU (fun j hj e=>by
      rcases e with e|e
      ·have:=JC j e;omega
      ·exact .inr (.inr e))
   ·have hzc:=(hinv z).1 hl
    rw [if_pos hzc]at hfz;cases hfz;have hkz:=dt z hzc;refine .inr ⟨_,_,u4,jJ,z.1,(kn z:Int),acB,?_⟩;intro Kn;obtain⟨P0,Bh,yZ⟩:=iy (w:=u4) (z:=eN.1) (cs:=z.1) (t:=ag) (by rw [z.2.1];rfl);refine⟨⟨z.2.1,z.2.one,fun j hj=>P0 j (by rw [z.2.1];exact hj)⟩,?_⟩;intro X8 RF
    replace Bh:X8.heap[u4.heap.size]? =some (.cells z.1 ag (0,0)):=Bh
    replace yZ:Kept Nil u4 X8:=yZ
    have Yi:Kept Nil X8 RF:=(Kept.refl _ _).drew;clear_value RF X8;have acY:=Yi.heap Bh (fun h=>h);have M4:=yZ.tt Yi;have Ed:Kept (· =ug.heap.size) u3 RF:=k4.trans M4 (fun _ _ h=>h.elim);have hE3:∀j,bn E'=some j->j≠ug.heap.size:=fun j hj e=>by
     obtain⟨_,cur,h2⟩:=Row.bL Xe.bl hj;have:=aU h2;omega
    have Xc:=Ra.Ik Ed (by omega) (by omega) (fun j hj e=>hE3 j hj e) (fun a ha e=>by have:=(hS.mA a ha).1;omega);have Z7:Kept (fun j=>j=q\/j=sm\/j=bb) y RF:=ky3.trans Ed (fun j hj e=>by omega);have NO:=ab7.aF M4 (fun h=>h) (fun h=>h);obtain⟨Fa,UZ,Xf,CB⟩:=Xc.note z (kn z+1);have ekz:i64.wrap ((kn z:Int)+(1:Int))=((kn z+1:Nat):Int):=by rw [dM (n:=(kn z:Int)) (by omega) (by omega)];omega
    have s3:=Ed.size;refine⟨_,Ba Z7 MU,some sm,Xc.f35,z.1,⟨z.2.1,Cells.bL acY⟩,Fa,by rw [ekz];exact UZ,?_⟩;refine⟨(),rfl,⟨_,adZ,_,NO.aF CB (by omega) (by omega),Xf,fun y'=>?_,?_⟩,?_⟩
    ·obtain⟨i1,i2,i3⟩:=hinv y'
     refine⟨fun h=>i1 h.1,fun h1 h2=>?_,fun h=>?_⟩
     ·by_cases e:y'=z
      ·subst e;simp only [if_true]
      ·simp only [if_neg e]
       exact i2 h1 (fun h=>h2 ⟨h,e⟩)
     ·have e:y'≠z:=by
       rcases h with h|h
       ·exact fun e=>h (by rw [e];exact hzc)
       ·exact h.2
      simp only [if_neg e];exact i3 (h.imp_right fun h=>h.1)
    ·exact(ku.trans Ed (fun j hj e=>.inr e)).trans CB (fun j hj e=>.inl e)
    ·show Fa.rangeLeft iR.heap.size ug.heap.size<u3.rangeLeft iR.heap.size ug.heap.size
     rw [Qz.left_eq,(NO.aF CB (by omega) (by omega)).left_eq];exact cY
 ·rw [aR,ak.jN]
  have:i=n:=by omega
  subst this;have e1:=DL k G s l;rw [VP]at e1;rw [e1]at hS hO;have hsq:v.heap[bs]? =some (.cells #[.pointer (some ⟨q,0,none⟩)] fw (0,0)):=kv.heap V.hs (by omega);exact⟨some ⟨q,0,none⟩,by rw [aD hsq];rfl,hK v ov E e ce hS hO kv⟩
end
def ES(N:Nat):Prop:=∀ {w:World} {F:Nat->Prop} {c k:Nat} {G:GS} {m:CM} {B:Nat} {A:Option Addr} {n cx:Nat} {l:List HT} {K:Value->World->Prop},CV w F c k G m->bI w B A n cx l->n<=N->l.Nodup->(∀x∈l,x∈ids G.D)->
 (∀j,bn A=some j->¬m.own c j/\¬F j)->(∀l' w',SO G l'->(∀x,x∈l'↔x∈l)->bI w' B A n cx l'->Kept (fun j=>bn A=some j) w w'->K (.tuple #[]) w')->
 bC prog jm.id #[.slice A n cx,.func (.func bE.id) #[.pointer (some ⟨c,0,none⟩)] #[]] w K
section
variable{y v w w':World}{F:Nat->Prop}{c k:Nat}{G:GS}{m:CM}{s:HT}{l ch:List HT}{bs bc bh q sm nL cL:Nat}{AL:Option Addr}{K:Value->World->Prop}
set_option maxHeartbeats 4000000 in
theorem Ce{N:Nat}(A9:ES N)(hN:(sT G.D s l).length<=N)(C:CV y F c k G m)(hD:G.D.length<=5000)(rz:k<=1000)(hs:s∈ids G.D)(hc:cI G.D G.P s ch)(hl:∀x∈l,x∈ids G.D)
 (V:VB y c s bs bc bh q sm (fun _=>none)) (hS:zF y y.heap.size q sm ⟨s,G.score s+1,[],[]⟩ (fun _=>none) none 0 0 none 0 0)
 (hL:HS y AL nL (dD (eF G.D l++l))) (hAL:∀a,AL=some a->a.block≠q)
 (iG:∀j,(m.own c j\/F j\/j=bs\/j=bc\/j=bh)->j≠q/\j≠sm)
 (hK:∀v B bb ov A n cp E e ce,mS v B q sm bb (dg k G s l) ov A n cp E e ce->OV G.D (fU k G s l).wd ov (mV m.sz ch)->(∀a,A=some a->y.heap.size<=a.block)->(y.heap.size<=B/\B<=v.heap.size)->Kept (fun j=>j=q\/j=sm) y v->K (.pointer (some ⟨q,0,none⟩)) v):
 Holds none [] prog 153 (.loop (lB (bB (sR (sL (aQ (sR (body ak.fn)))))))) (ak.q1 K)
  [(3,.pointer (some ⟨bc,0,none⟩)),(4,.pointer (some ⟨bh,0,none⟩)),(6,.pointer none),(8,.pointer (some ⟨bs,0,none⟩)),(46,.slice AL nL cL),(47,.int .i64 (nL:Int)),(48,.int .i64 0)] y:=by
 have W:=C.fc.W;have lbs:=aU V.hs;have lbc:=aU V.hc;have lbh:=aU V.hh;have Y9:=iG bs (.inr (.inr (.inl rfl)));have Zb:=iG bc (.inr (.inr (.inr (.inl rfl))));have Za:=iG bh (.inr (.inr (.inr (.inr rfl))));have ags:=hL.len;have hLi:∀x∈dD (eF G.D l++l),x∈ids G.D:=fun x hx=>by
  rcases List.mem_append.1 (dV.1 hx)with h|h
  ·exact(jQ.1 h).1
  ·exact hl x h
 have hLn:nL<=5000:=by
  have:=dq (jl _).nodup hLi;rw [gz]at this;omega
 generalize hLL:dD (eF G.D l++l)=L at*;refine ak.cC (I:=fun s0 v=>∃i:Nat,s0=(i:Int)/\i<=nL/\(∃A n cp,zF v y.heap.size q sm ⟨s,G.score s+1,(L.take i).filter fun h=>decide (h≠s/\¬fz G.D h s),[]⟩ (fun _=>none) A n cp none 0 0)/\Kept (· =q) y v) (μ:=fun s0 _=>((nL:Int)-s0).toNat) (s:=0) ⟨0,rfl,Nat.zero_le _,⟨none,0,0,hS⟩,Kept.refl _ _⟩ ?_;rintro s0 v ⟨i,rfl,hi,⟨A,n,cp,Ml⟩,kv⟩;have sv:=kv.size;have VQ:=bI.len Ml.mg;have hnA:n<=5000:=by
  have h1:=List.length_filter_le (fun h=>decide (h≠s/\¬fz G.D h s)) (L.take i);have h2:=List.length_take_le i L;have h3:((L.take i).filter fun h=>decide (h≠s/\¬fz G.D h s)).length=n:=VQ;omega
 refine Split.dec (fun jK=>?_) (fun gA=>?_)
 ·have dS:i<nL:=by omega
  obtain⟨x,hx⟩:∃x,L[i]? =some x:=⟨_,List.getElem?_eq_getElem (by omega)⟩;have GA:L.take (i+1)=L.take i++ [x]:=by rw [List.take_add_one,hx];rfl
  have hLv:HS v AL nL L:=hL.aF kv hAL;refine hLv.load (i:=(i:Int)) (by omega) hx ?_;intro mT;obtain⟨tf,jM,kz⟩:=iy (w:=v) (z:=eN.1) (cs:=x.1) (t:=ag) (by rw [x.2.1];rfl);refine⟨⟨x.2.1,x.2.one,fun j hj=>tf j (by rw [x.2.1];exact hj)⟩,?_⟩;intro iR nM
  replace jM:iR.heap[v.heap.size]? =some (.cells x.1 ag (0,0)):=jM
  replace kz:Kept Nil v iR:=kz
  have tP:Kept Nil iR nM:=(Kept.refl _ _).drew;clear_value nM iR;have Jr:=tP.heap jM (fun h=>h);have Pm:=kz.tt tP;have FZ:Kept (· =q) y nM:=kv.trans Pm (fun _ _ h=>h.elim);have C15:CV nM F c k G m:=C.aF FZ (fun j hj e=>(iG j (.inl hj)).1 e) (fun j hj e=>(iG j (.inr (.inl hj))).1 e);have hcy:∀ {u:World},Kept (· =q) y u->u.cell? ⟨bc,0,none⟩=some (.pointer (some ⟨c,0,none⟩)):=fun ku=>by rw [aD (ku.heap V.hc Zb.1)];rfl
  have UH:∀ {u:World},Kept (· =q) y u->u.cell? ⟨bs,0,none⟩=some (.pointer (some ⟨q,0,none⟩)):=fun ku=>by rw [aD (ku.heap V.hs Y9.1)];rfl
  have next:∀ {u:World} {A':Option Addr} {n' xj:Nat},zF u y.heap.size q sm ⟨s,G.score s+1,(L.take (i+1)).filter fun h=>decide (h≠s/\¬fz G.D h s),[]⟩ (fun _=>none) A' n' xj none 0 0->Kept (· =q) y u->
   ∃s1:Int,i64.wrap ((i:Int)+(1:Int))=s1/\(∃i':Nat,s1=(i':Int)/\i'<=nL/\(∃A n cp,zF u y.heap.size q sm ⟨s,G.score s+1,(L.take i').filter fun h=>decide (h≠s/\¬fz G.D h s),[]⟩ (fun _=>none) A n cp none 0 0)/\Kept (· =q) y u)/\((nL:Int)-s1).toNat<((nL:Int)-(i:Int)).toNat:=fun h1 h2=>by
   rw [dM (n:=(i:Int)) (by omega) (by omega)];exact⟨(i:Int)+1,rfl,⟨i+1,rfl,dS,⟨_,_,_,h1⟩,h2⟩,by omega⟩
  refine⟨x.1,⟨x.2.1,Cells.bL Jr⟩,s.1,⟨s.2.1,Cells.bL (FZ.heap V.hh Za.1)⟩,⟨x.2.ints,s.2.ints⟩,?_⟩;rw [dF];by_cases LB:x=s
  ·refine Split.no (by rw [decide_eq_true LB];rfl) ?_
   obtain⟨s1,e1,e2,e3⟩:=next (u:=nM) (by
    rw [GA,List.filter_append];have: [x].filter (fun h=>decide (h≠s/\¬fz G.D h s))= []:=by rw [List.filter_cons_of_neg (by simp [LB])];rfl
    rw [this,List.append_nil];exact Ml.same Pm) FZ
   rw [e1];exact⟨s1,rfl,e2,e3⟩
  ·refine Split.yes (by rw [decide_eq_false LB];rfl) ⟨_,hcy FZ,_,C15.c1,x.1,⟨x.2.1,Cells.bL Jr⟩,s.1,⟨s.2.1,Cells.bL (FZ.heap V.hh Za.1)⟩,?_⟩
   obtain⟨mx,X15,_⟩:=C15.X;refine mh X15 hD x s fun E0 r hr BS=>⟨r,rfl,?_⟩;have Le:Kept (· =q) y E0:=FZ.trans BS (fun _ _ h=>h.elim);have TZ:=Pm.tt BS;cases r with
   |true=>
    refine Split.no rfl ?_;obtain⟨s1,e1,e2,e3⟩:=next (u:=E0) (by
     rw [GA,List.filter_append];have: [x].filter (fun h=>decide (h≠s/\¬fz G.D h s))= []:=by rw [List.filter_cons_of_neg (by simp [hr.1 rfl])];rfl
     rw [this,List.append_nil];exact Ml.same TZ) Le
    rw [e1];exact⟨s1,rfl,e2,e3⟩
   |false=>
    refine Split.yes rfl ?_;intro zJ;have Iw:Kept Nil E0 zJ:=(Kept.refl _ _).drew;clear_value zJ;have aae:=TZ.tt Iw;have AJ:Kept (· =q) y zJ:=Le.trans Iw (fun _ _ h=>h.elim);have Jy:=Ml.same aae;refine⟨_,UH AJ,_,UH AJ,A,n,cp,Jy.f33,x.1,⟨x.2.1,Cells.bL ((BS.tt Iw).heap Jr (fun h=>h))⟩,x.2.1,?_⟩;intro mo;have mX:Kept Nil zJ mo:=(Kept.refl _ _).alloc _;have aaM:HS mo (some ⟨zJ.heap.size,0,none⟩) 1 [x]:=jf zJ x;clear_value mo;have Jx:=Jy.same mX;have vO:Kept (· =q) y mo:=AJ.trans mX (fun _ _ h=>h.elim);have Yc:=vO.size;obtain⟨A',xj,u,UO,ku,Jw,k5,P1⟩:=Jx.Tp Yc (by omega) aaM;have Z6:Kept (· =q) y u:=vO.trans ku (fun j hj e=>by omega);refine⟨Jx.f33,UH vO,UH vO,A',n+1,xj,u,UO,UH Z6,P1,?_⟩;intro wL
    replace Jw:zF wL y.heap.size q sm _ (fun _=>none) A' (n+1) xj none 0 0:=Jw
    replace k5:Kept (fun j=>j=q\/y.heap.size<=j) mo wL:=k5
    clear_value wL;obtain⟨s1,e1,e2,e3⟩:=next (u:=wL) (by
     rw [GA,List.filter_append];have: [x].filter (fun h=>decide (h≠s/\¬fz G.D h s))= [x]:=by rw [List.filter_cons_of_pos (by simp only [decide_eq_true_eq];exact⟨LB,fun e=>by have:=hr.2 e;cases this⟩)];rfl
     rw [this];exact Jw) (vO.trans k5 (fun j hj e=>by
      rcases e with e|e
      ·exact e
      ·omega))
    rw [e1];exact⟨s1,rfl,e2,e3⟩
 ·rw [aR,ak.df]
  have gK:i=nL:=by omega
  subst gK;rw [List.take_of_length_le (by omega)]at Ml;unfold ak.cU;intro sx;have Cy:Kept Nil v sx:=(Kept.refl _ _).drew;clear_value sx;have C8:=Ml.same Cy;have AI:Kept (· =q) y sx:=kv.trans Cy (fun _ _ h=>h.elim);have C33:CV sx F c k G m:=C.aF AI (fun j hj e=>(iG j (.inl hj)).1 e) (fun j hj e=>(iG j (.inr (.inl hj))).1 e);have efl:(L.filter fun h=>decide (h≠s/\¬fz G.D h s))=sT G.D s l:=by unfold sT;rw [hLL]
  have CN:bI sx y.heap.size A n cp (sT G.D s l):=by rw [<-efl];exact C8.mg
  have Ri:∀j,bn A=some j->y.heap.size<=j/\j<sx.heap.size:=fun j hj=>by obtain⟨g1,cur,g2⟩:=Row.bL CN hj;exact⟨g1,aU g2⟩
  refine⟨some ⟨q,0,none⟩,by rw [aD (AI.heap V.hs Y9.1)];rfl,A,n,cp,C8.f33,some ⟨c,0,none⟩,by rw [aD (AI.heap V.hc Zb.1)];rfl,?_⟩;refine A9 C33 CN (by have:=bI.len CN;omega) (qV _ _ _) (fun x hx=>hLi x (by rw [<-efl]at hx;exact(List.mem_filter.1 hx).1)) (fun j hj=>⟨fun e=>by have:=C.low j (.inl e);have:=(Ri j hj).1;omega,fun e=>by have:=C.low j (.inr e);have:=(Ri j hj).1;omega⟩) fun l' ot Gh iY I3 BR=>⟨rfl,?_⟩;have el:l'=cR G s l:=sU Gh iY;subst el;have qB:=Ml.qB;have sB:=Ml.sB;have hqs:=Ml.qs;have s33:=AI.size;have TN:Kept (· =q) y ot:=AI.trans BR (fun j hj e=>by have:=(Ri j e).1;omega);have P7:=BR.heap C8.top (fun e=>by have:=(Ri q e).1;omega);have Vc:=C8.ov.aF BR (fun e=>by have:=(Ri sm e).1;omega);intro kc ug;have mW:Kept Nil ot kc:=(Kept.refl _ _).alloc _;have WT:kc.heap[ot.heap.size]? =some (.cells #[.slice none 0 0] ay (0,0)):=aH ot _;have uk:Kept Nil kc ug:=(Kept.refl _ _).alloc _;have Qy:ug.heap[kc.heap.size]? =some (.cells #[.nilFunc] fE (0,0)):=aH kc _;refine⟨dm Qy (by simp),?_⟩;intro xz;have VY:xz.heap[kc.heap.size]? =some (.cells #[.func (.func b7.id) #[] #[.pointer (some ⟨bs,0,none⟩),.pointer (some ⟨bc,0,none⟩),.pointer (some ⟨bh,0,none⟩)]] fE (0,0)):=by
   show(ug.setCell ⟨kc.heap.size,0,none⟩ _).heap[kc.heap.size]? =_;rw [cV Qy 0];rfl
  have Ga:Kept (· =kc.heap.size) ug xz:=Kept.setCell (S:=(· =kc.heap.size)) (Kept.refl _ ug) (p:=⟨kc.heap.size,0,none⟩) (fun _=>rfl) _;clear_value xz;have xT:=mW.tt uk;have Yb:=mW.size;have s36:=uk.size;have l35:=aU WT;have l36:=aU Qy;have Ef:Kept Nil ot xz:=⟨Ga.os.trans xT.os,Ga.tape.trans xT.tape,Ga.output.trans xT.output,Nat.le_trans xT.size Ga.size,fun j hj hn=>by rw [Ga.block j (Nat.lt_of_lt_of_le hj xT.size) (by omega),xT.block j hj hn]⟩;have ac4:=Ga.heap (uk.heap WT (fun h=>h)) (by omega);have l37:=aU VY;clear_value ug kc;have FW:Kept (· =q) y xz:=TN.trans Ef (fun _ _ h=>h.elim);have s34:=TN.size;have s37:=FW.size;have C37:CV xz F c k G m:=C.aF FW (fun j hj e=>(iG j (.inl hj)).1 e) (fun j hj e=>(iG j (.inr (.inl hj))).1 e);have IS:=Ef.heap P7 (fun h=>h);have NC:=Vc.aF Ef (fun h=>h);have Qd:bI xz y.heap.size A n cp (cR G s l):=Row.aF I3 Ef (fun _ _ h=>h);have V37:VB xz c s bs bc bh q sm (fun _=>none):=⟨FW.heap V.hs Y9.1,FW.heap V.hc Zb.1,FW.heap V.hh Za.1,by rw [bt,aD IS];exact(gJ ..).2.2.2,NC⟩;have Y0:∀a,A=some a->y.heap.size<=a.block/\a.block<ot.heap.size:=fun a ha=>by
   subst ha;obtain⟨g1,cur,g2⟩:=Row.bL I3 (k:=a.block) rfl;exact⟨g1,aU g2⟩
  have Xd:mS xz xz.heap.size q sm ot.heap.size ⟨s,G.score s+1,cR G s l,[]⟩ (fun _=>none) A n cp none 0 0:=
   ⟨IS,Qd.hs,fun a ha=>by have:=Y0 a ha;exact⟨by omega,by omega,by omega,by omega⟩,Row.nil _ _ _ _,NC,by omega,by omega,by omega,⟨hqs,by omega,by omega⟩⟩
  refine⟨some ⟨q,0,none⟩,by rw [aD V37.hs];rfl,A,n,cp,Xd.f33,?_⟩;have UD:(kW k G s l 0)=⟨G.world s++ [s],[]⟩:=rfl;refine Cd (l:=l) C37 hD rz hs hc (fun x hx=>hLi x (by
   have h1:=(iY x).1 hx;rw [<-efl]at h1;exact(List.mem_filter.1 h1).1)) V37 VY (fun j hj=>?_) ⟨⟨fun _=>none,none,0,0,none,0,0,[],Xd,ac4,bI.nil _ _,by rw [UD,List.append_nil],fun j hj=>by simp [bn]at hj,by rw [UD];exact C.Z |>.ov hs hc,?_,fun z hz=>by simp at hz,rfl⟩,Kept.refl _ _⟩ hnA fun v' ov E e ce h1 h2 h3=>?_
  ·have h1:j<y.heap.size\/j=kc.heap.size:=by
    rcases hj with h|h|h|h|h|h
    ·exact .inl (C.low j (.inl h))
    ·exact .inl (C.low j (.inr h))
    ·exact .inl (by omega)
    ·exact .inl (by omega)
    ·exact .inl (by omega)
    ·exact .inr h
   rcases h1 with h1|h1
   ·have h2:j≠q/\j≠sm:=by
     rcases hj with h|h|h|h|h|h
     ·exact iG j (.inl h)
     ·exact iG j (.inr (.inl h))
     ·exact iG j (.inr (.inr (.inl h)))
     ·exact iG j (.inr (.inr (.inr (.inl h))))
     ·exact iG j (.inr (.inr (.inr (.inr h))))
     ·omega
    exact⟨h2.1,h2.2,by omega⟩
   ·exact⟨by omega,by omega,by omega⟩
  ·rw [UD]
   obtain⟨g1,g2,_⟩:=C.fc.wd s hs;exact List.nodup_append.2 ⟨g1,by simp,fun a ha b hb e=>by
    have:b=s:=by simpa using hb
    subst this;subst e;exact fz.irrefl W a (g2 a ha)⟩
  ·refine hK v' xz.heap.size ot.heap.size ov A n cp E e ce h1 h2 (fun a ha=>(Y0 a ha).1) ⟨s37,h3.size⟩ ?_
   exact(FW.mono fun _ _ h=>.inl h).trans h3 (fun j hj e=>by
    rcases e with e|e|e
    ·exact .inl e
    ·exact .inr e
    ·omega)
end
theorem Rs:Sy prog br=some ([(0,32),(32,1),(33,1),(34,1)],List.replicate 32 (.int .u8 0)++ [.int .u64 0,.slice none 0 0,.slice none 0 0]):=by kernel_rfl
theorem wD(h:HT)(z:Int):prog.built br [(0,.agg h.1),(1,.int .u64 z)]=some (h.1++ #[.int .u64 z,.slice none 0 0,.slice none 0 0]):=by
 have hs:=h.2.1;rw [nW Rs,jh (off:=0) (size:=32) rfl (by simpa [Value.cells]using hs) (by simp),jh (off:=32) (size:=1) rfl rfl (by
  rw [List.size_toArray,mv (by simp [Value.cells,hs])];simp)]
 simp only [Instr.fill,Option.some.injEq];apply Array.ext';unfold im;simp [Value.cells,hs];rw [List.drop_append];simp [hs]
theorem ME:Sy prog eB=some ([(0,35),(35,1)],List.replicate 32 (.int .u8 0)++ [.int .u64 0,.slice none 0 0,.slice none 0 0,.map none]):=by kernel_rfl
theorem yj(c:ou)(sm:Option Nat):prog.built eB [(0,.agg (cS c none 0 0 none 0 0)),(1,.map sm)]=some (cS c none 0 0 none 0 0++ #[.map sm]):=by
 have hs:=a8 c none 0 0 none 0 0;rw [nW ME,jh (off:=0) (size:=35) rfl (by simpa [Value.cells]using hs) (by simp),jh (off:=35) (size:=1) rfl rfl (by
  rw [List.size_toArray,mv (by simp [Value.cells,hs])];simp)]
 simp only [Instr.fill,Option.some.injEq];apply Array.ext';unfold im;simp [Value.cells,hs]
section
variable{g1 v w w':World}{F:Nat->Prop}{c k:Nat}{G:GS}{m:CM}{s:HT}{l ch:List HT}{bs bc bh q sm n cx:Nat}{A:Option Addr}{K:Value->World->Prop}
theorem KP{N:Nat}(A9:ES N)(hN:(sT G.D s l).length<=N)(C:CV g1 F c k G m)(hT:uA g1)(hD:G.D.length<=5000)(rz:k<=1000)(hs:s∈ids G.D)(hc:cI G.D G.P s ch)(hl:∀x∈l,x∈ids G.D)(G9:HS g1 A n l)(hn:n<=5000)
 (V:VB g1 c s bs bc bh q sm (fun _=>none)) (jv:g1.heap[q]? =some (.cells (cS ⟨s,G.score s+1,[],[]⟩ none 0 0 none 0 0++ #[.map (some sm)]) eB (0,0)))
 (iG:∀j,(m.own c j\/F j\/j=bs\/j=bc\/j=bh)->j≠q/\j≠sm) (hqs:q≠sm) {p:Nat} (hp:∃mx,XV g1 m.FX m.x G.D G.P mx/\mx.g=p)
 (hK:∀v B bb ov A n cp E e ce,mS v B q sm bb (dg k G s l) ov A n cp E e ce->OV G.D (fU k G s l).wd ov (mV m.sz ch)->(∀a,A=some a->g1.heap.size<=a.block)->(g1.heap.size<=B/\B<=v.heap.size)->Kept (fun j=>j=q\/j=sm) g1 v->K (.pointer (some ⟨q,0,none⟩)) v):
 bC prog aV.id #[.pointer (some ⟨p,0,none⟩),.slice A n cx] g1 fun i1 j1=>∃k1:Option Addr,∃m1 n1:Nat,i1=.slice k1 m1 n1/\
  ∃(o1:Option Addr) (p1 q1:Nat) (r1:World),(Builtin.append_ #[ay,ay] ay #[.slice k1 m1 n1,.slice A n cx]).run prog j1=.ok (.slice o1 p1 q1) r1/\
  bC prog jx.id #[.slice o1 p1 q1] r1 fun t1 u1=>∃v1:Option Addr,∃x1 y1:Nat,t1=.slice v1 x1 y1/\
  Holds none [] prog 153 (.loop (lB (bB (sR (sL (aQ (sR (body ak.fn)))))))) (ak.q1 K)
   [(3,.pointer (some ⟨bc,0,none⟩)),(4,.pointer (some ⟨bh,0,none⟩)),(6,.pointer none),(8,.pointer (some ⟨bs,0,none⟩)),(46,.slice v1 x1 y1),(47,.int .i64 (x1:Int)),(48,.int .i64 0)] u1:=by
 have W:=C.fc.W;obtain⟨mx,X,rfl⟩:=hp;obtain⟨bl,c',mb,M,GG⟩:=X.G;have lq:=aU jv;have lsm:=V.ov.lt;refine wx GG W (by omega) hT G9 (by omega) fun A1 c1 w1 lM k1=>⟨A1,_,c1,rfl,?_⟩;have ry:(eF G.D l).length<=5000:=Nat.le_trans (nO _ _) hD;have s1:=k1.size;obtain⟨A2,c2,w2,jJ,fV,g2,Ol⟩:=cK ay lM (cx:=cx) (G9.same k1) (by omega) s1;have k2:Kept (fun j=>g1.heap.size<=j) w1 w2:=(Kept.refl _ _).grown g2 fun j hj _=>(Row.bL lM hj).1;have jE:Kept Nil g1 w2:=k1.trans k2 (fun j hj e=>by omega);refine⟨A2,_,c2,w2,jJ,?_⟩;refine ji fV.hs (by omega) fun A3 c3 w3 lj k3=>⟨A3,_,c3,rfl,?_⟩;have kP:=jE.tt k3;have s02:=jE.size;have ZP:=kP.size;have V3:=V.same kP;refine Ce (l:=l) A9 hN (C.same kP) hD rz hs hc hl V3 ⟨kP.heap jv (fun h=>h),bI.nil _ _,Row.nil _ _ _ _,V3.ov,by omega,by omega,hqs,fun j hj=>by simp [bn]at hj⟩ lj.hs (fun a ha=>?_) iG fun v B bb ov A n cp E e ce h1 h2 h3 h4 h5=>?_
 ·subst ha
  have:=(Row.bL lj (k:=a.block) rfl).1;omega
 ·exact hK v B bb ov A n cp E e ce h1 h2 (fun a ha=>Nat.le_trans ZP (h3 a ha)) ⟨Nat.le_trans ZP h4.1,h4.2⟩ ((kP.mono fun _ _ h=>h.elim).tt h5)
end
section
variable{w w':World}{F:Nat->Prop}{c k:Nat}{G:GS}{m:CM}{s:HT}{l ch:List HT}{n cx:Nat}{A:Option Addr}{K:Value->World->Prop}
set_option maxHeartbeats 4000000 in
theorem C9{N:Nat}(A9:ES N)(hN:(sT G.D s l).length<=N)(C:CV w F c k G m)(hT:uA w)(hD:G.D.length<=5000)(rz:k<=1000)(hs:s∈ids G.D)(hc:cI G.D G.P s ch)(hl:∀x∈l,x∈ids G.D)(G9:HS w A n l)(hn:n<=5000)
 (hK:∀v q B sm bb ov A n cp E e ce,mS v B q sm bb (dg k G s l) ov A n cp E e ce->OV G.D (fU k G s l).wd ov (mV m.sz ch)->w.heap.size<=q->w.heap.size<=sm->(∀a,A=some a->w.heap.size<=a.block)->(w.heap.size<=B/\B<=v.heap.size)->Kept Nil w v->K (.pointer (some ⟨q,0,none⟩)) v):
 bC prog ak.id #[.pointer (some ⟨c,0,none⟩),.agg s.1,.slice A n cx] w K:=by
 refine ak.of ?_;unfold ak.W;intro w1 w2;have k1:Kept Nil w w1:=(Kept.refl _ _).alloc _;have WB:w1.heap[w.heap.size]? =some (.cells #[.pointer (some ⟨c,0,none⟩)] dQ (0,0)):=aH w _;have k2:Kept Nil w1 w2:=(Kept.refl _ _).alloc _;have yS:w2.heap[w1.heap.size]? =some (.cells s.1 ag (0,0)):=aH w1 _;clear_value w2;have KC:=k2.heap WB (fun h=>h);have jE:=k1.tt k2;have s1:=k1.size;have l1:=aU WB;have l2:=aU yS;clear_value w1;have C2:=C.same jE;obtain⟨mx2,X2,_⟩:=C2.X;refine⟨some ⟨c,0,none⟩,by rw [aD KC];rfl,_,C2.c1,gv.of (Split.no rfl (Is.mk rfl ⟨_,X2.c0,⟨_,rfl,?_⟩⟩))⟩;intro w3;have k3:Kept Nil w2 w3:=(Kept.refl _ _).drew;clear_value w3;have kP:=jE.tt k3;have QV:=k3.heap KC (fun h=>h);have CK:=k3.heap yS (fun h=>h);have C3:=C.same kP;obtain⟨A1,n1,c1,B1,m1,d1,s1',sa⟩:=C3.seen s hs;have Qa:G.score s<=5000:=by
  have h1:=(C.fc.wd s hs).2.2;have h2:=dq (m:=ids G.D) (C.fc.wd s hs).1 (fun b hb=>(((C.fc.wd s hs).2.1 b hb).mem C.fc.W).1);rw [gz]at h2;omega
 have ew:u64.wrap (((G.fZ s).score:Int)+(1:Int))=((G.score s+1:Nat):Int):=by
  show u64.wrap ((G.score s:Int)+(1:Int))=_
  rw [show(G.score s:Int)+1=((G.score s+1:Nat):Int)by omega];exact jU (by omega)
 have nf:∀ {u:World},Kept Nil w3 u->u.cell? ⟨w.heap.size,0,none⟩=some (.pointer (some ⟨c,0,none⟩)):=fun ku=>by rw [aD (ku.heap QV (fun h=>h))];rfl
 have uM:∀ {u:World},Kept Nil w3 u->∃cs:Array Value,(.agg s.1:Value)=.agg cs/\cs.size=32/\Cells u ⟨w1.heap.size,0,none⟩ cs:=fun ku=>⟨s.1,rfl,s.2.1,Cells.bL (ku.heap CK (fun h=>h))⟩;have ml:∀ {u:World},Kept Nil w3 u->u.cell? (((⟨m.q s,0,none⟩:Addr).add 0).add 32)=some (.int .u64 ((G.fZ s).score:Int)):=fun ku=>(sa.aF ku (fun _ _ h=>h)).XG;have l3:=aU CK;have s3:=k3.size;refine⟨s.1,⟨s.2.1,Cells.bL CK⟩,some ⟨c,0,none⟩,nf (Kept.refl _ _),_,C3.c2,s.1,⟨s.2.1,Cells.bL CK⟩,_,C3.oQ hs,_,ml (Kept.refl _ _),?_⟩;rw [ew];rw [wD s];refine Is.mk rfl ?_;have Bx:(s.1++ #[.int .u64 ((G.score s+1:Nat):Int),.slice none 0 0,.slice none 0 0]:Array Value)=cS ⟨s,G.score s+1,[],[]⟩ none 0 0 none 0 0:=rfl;rw [Bx];have go:∀ {u:World} {q sm bs:Nat},Kept Nil w3 u->w3.heap.size<=q->w3.heap.size<=sm->w3.heap.size<=bs->q≠sm->bs≠q->bs≠sm->
  u.heap[q]? =some (.cells (cS ⟨s,G.score s+1,[],[]⟩ none 0 0 none 0 0++ #[.map (some sm)]) eB (0,0))->fR u sm (fun _=>none)->u.heap[bs]? =some (.cells #[.pointer (some ⟨q,0,none⟩)] fw (0,0))->_:=
  fun {u q sm bs} ku hq vU YR h1 h2 h3 jv Qs jf=>KP (g1:=u) (bs:=bs) (bc:=w.heap.size) (bh:=w1.heap.size) (q:=q) (sm:=sm) (cx:=cx) (K:=K) (p:=mx2.g) A9 hN (C3.same ku) (hT.same (kP.tt ku)) hD rz hs hc hl (G9.same (kP.tt ku)) hn
   ⟨jf,ku.heap QV (fun h=>h),ku.heap CK (fun h=>h),by rw [bt,aD jv];exact(gJ ..).2.2.2,Qs⟩ jv
   (fun j hj=>by
     rcases hj with h|h|h|h|h
     ·have:=C.low j (.inl h);exact⟨by omega,by omega⟩
     ·have:=C.low j (.inr h);exact⟨by omega,by omega⟩
     ·exact⟨by omega,by omega⟩
     ·exact⟨by omega,by omega⟩
     ·exact⟨by omega,by omega⟩) h1 ⟨mx2,X2.same (k3.tt ku),rfl⟩
   (fun v B bb ov A n cp E e ce t1 t2 t3 t4 t5=>hK v q B sm bb ov A n cp E e ce t1 t2 (by omega) (by omega) (fun a ha=>by have:=t3 a ha;have:=(kP.tt ku).size;omega) ⟨by have:=(kP.tt ku).size;have:=t4.1;omega,t4.2⟩ ((kP.tt ku).trans t5 (fun j hj e=>by omega)))
 have O0:∀ {u0:World} {b q:Nat},u0.heap[b]? =some (.cells #[.pointer none] fw (0,0))->Wr u0 ⟨b,0,none⟩/\∀u1,u1=u0.setCell ⟨b,0,none⟩ (.pointer (some ⟨q,0,none⟩))->u1.heap[b]? =some (.cells #[.pointer (some ⟨q,0,none⟩)] fw (0,0))/\Kept (· =b) u0 u1:=fun {u0 b q} hb=>⟨dm hb (by simp),fun u1 e=>by
  subst e;refine⟨?_,Kept.setCell (S:=(· =b)) (Kept.refl _ u0) (p:=⟨b,0,none⟩) (fun _=>rfl) _⟩;rw [cV hb 0];rfl⟩
 refine⟨?_,?_⟩
 ·intro w4
  have k4:Kept Nil w3 w4:=(Kept.refl _ _).alloc _;have hm4:fR w4 w3.heap.size (fun _=>none):=fR.new w3;clear_value w4;have l4:=hm4.lt;refine⟨ml k4,(C3.same k4).oQ hs,uM k4,(C3.same k4).c2,nf k4,uM k4,?_⟩;rw [yj];refine Is.mk rfl ⟨?_,?_⟩
  ·intro w5 w6
   have k5:Kept Nil w4 w5:=(Kept.refl _ _).alloc _;have YB:w5.heap[w4.heap.size]? =some (.cells (cS ⟨s,G.score s+1,[],[]⟩ none 0 0 none 0 0++ #[.map (some w3.heap.size)]) eB (0,0)):=aH w4 _;have k6:Kept Nil w5 w6:=(Kept.refl _ _).alloc _;have qE:w6.heap[w5.heap.size]? =some (.cells #[.pointer none] fw (0,0)):=aH w5 _;clear_value w6;have U2:=k6.heap YB (fun h=>h);have l5:=aU YB;clear_value w5;have Ec:=k5.tt k6;have uk:=k4.tt Ec;have s36:=uk.size;obtain⟨t1,t2⟩:=O0 (q:=w4.heap.size) qE;refine⟨t1,?_⟩;intro w7;obtain⟨t3,t4⟩:=t2 w7 rfl;clear_value w7;exact go (uk.trans t4 (fun j hj e=>by omega)) (by omega) (by omega) (by omega) (by omega) (by omega) (by omega) (t4.heap U2 (by omega)) ((hm4.same Ec).aF t4 (by omega)) t3
  ·intro w5
   have k5:Kept Nil w4 w5:=(Kept.refl _ _).alloc _;have oS:w5.heap[w4.heap.size]? =some (.cells #[.pointer none] fw (0,0)):=aH w4 _;clear_value w5;have l5:=aU oS;have mW:=k4.tt k5;refine⟨ml mW,(C3.same mW).oQ hs,uM mW,(C3.same mW).c2,nf mW,uM mW,?_⟩;intro w6;have k6:Kept Nil w5 w6:=(Kept.refl _ _).alloc _;have U2:w6.heap[w5.heap.size]? =some (.cells (cS ⟨s,G.score s+1,[],[]⟩ none 0 0 none 0 0++ #[.map (some w3.heap.size)]) eB (0,0)):=aH w5 _;clear_value w6;have Ec:=k5.tt k6;have uk:=k4.tt Ec;have Yb:=mW.size;obtain⟨t1,t2⟩:=O0 (q:=w5.heap.size) (k6.heap oS (fun h=>h));refine⟨t1,?_⟩;intro w7;obtain⟨t3,t4⟩:=t2 w7 rfl;clear_value w7;exact go (uk.trans t4 (fun j hj e=>by omega)) (by omega) (by omega) (by omega) (by omega) (by omega) (by omega) (t4.heap U2 (by omega)) ((hm4.same Ec).aF t4 (by omega)) t3
 ·intro w4
  have k4:Kept Nil w3 w4:=(Kept.refl _ _).alloc _;have ph:w4.heap[w3.heap.size]? =some (.cells #[.pointer none] fw (0,0)):=aH w3 _;clear_value w4;have l4:=aU ph;refine⟨ml k4,(C3.same k4).oQ hs,uM k4,(C3.same k4).c2,nf k4,uM k4,?_⟩;intro w5;have k5:Kept Nil w4 w5:=(Kept.refl _ _).alloc _;have hm5:fR w5 w4.heap.size (fun _=>none):=fR.new w4;clear_value w5;have l5:=hm5.lt;have mW:=k4.tt k5;refine⟨ml mW,(C3.same mW).oQ hs,uM mW,(C3.same mW).c2,nf mW,uM mW,?_⟩;rw [yj];refine Is.mk rfl ?_;intro w6;have k6:Kept Nil w5 w6:=(Kept.refl _ _).alloc _;have U2:w6.heap[w5.heap.size]? =some (.cells (cS ⟨s,G.score s+1,[],[]⟩ none 0 0 none 0 0++ #[.map (some w4.heap.size)]) eB (0,0)):=aH w5 _;clear_value w6;have uk:=mW.tt k6;have Yb:=mW.size;obtain⟨t1,t2⟩:=O0 (q:=w5.heap.size) ((k5.tt k6).heap ph (fun h=>h));refine⟨t1,?_⟩;intro w7;obtain⟨t3,t4⟩:=t2 w7 rfl;clear_value w7;exact go (uk.trans t4 (fun j hj e=>by omega)) (by omega) (by omega) (by omega) (by omega) (by omega) (by omega) (t4.heap U2 (by omega)) ((hm5.same k6).aF t4 (by omega)) t3
end
end Go.Proofs.YtfleamccglihoaaGreatDoor
