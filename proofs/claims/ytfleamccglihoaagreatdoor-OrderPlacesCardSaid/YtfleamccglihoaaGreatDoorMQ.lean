import Derived.Test.YtfleamccglihoaaGreatDoorMP
import Derived.Test.YtfleamccglihoaaGreatDoorMG
open Go.IntKind (i64 u64)
set_option linter.unusedVariables false
namespace Go.Proofs.YtfleamccglihoaaGreatDoor
open Go.Proofs.Tryz
open Go Go.bV Go.RowKit
theorem Cn:zI prog gN iK 1 1:=⟨by kernel_rfl,by kernel_rfl⟩
abbrev sS(l:List Bool):List Value:=l.map .bool
structure zJ(w:World)(B q sm:Nat)(c:oE)(ov:HT->Option Nat)(A:Option Addr)(n cp:Nat)(E:Option Addr)(e ce:Nat):Prop where
 top:w.heap[q]? =some (.cells (cQ c A n cp E e ce++ #[.map (some sm)]) eA (0,0))
 mg:bM w B A n cp c.merge
 bl:Row w B iK 1 E e ce (sS c.fL)
 ov:fV w sm (K7 ov)
 qB:q<B
 sB:sm<B
 qs:q≠sm
 AE:∀j,bn A=some j->bn E≠some j
section
variable{w w':World}{B q sm:Nat}{c:oE}{ov:HT->Option Nat}{A E:Option Addr}{n cp e ce:Nat}{K:Value->World->Prop}
theorem zJ.aF{S:Nat->Prop}(h:zJ w B q sm c ov A n cp E e ce)(hk:Kept S w w')(h1:¬S q)(h2:¬S sm)(h3:∀j,B<=j->¬S j):zJ w' B q sm c ov A n cp E e ce:=
 ⟨hk.heap h.top h1,Row.aF h.mg hk (fun j hj=>h3 j (Row.bJ h.mg hj).1),Row.aF h.bl hk (fun j hj=>h3 j (Row.bJ h.bl hj).1),h.ov.aF hk h2,h.qB,h.sB,h.qs,h.AE⟩
theorem zJ.same(h:zJ w B q sm c ov A n cp E e ce)(hk:Kept Nil w w'):zJ w' B q sm c ov A n cp E e ce:=h.aF hk (fun h=>h) (fun h=>h) (fun _ _ h=>h)
theorem zJ.f33(h:zJ w B q sm c ov A n cp E e ce):w.cell? (((⟨q,0,none⟩:Addr).add 0).add 33)=some (.slice A n cp):=by rw [add_zero,bt,aD h.top];exact(gD ..).2.1
theorem zJ.aef(h:zJ w B q sm c ov A n cp E e ce):∀j,bn A=some j\/bn E=some j->B<=j/\j<w.heap.size:=fun j hj=>by
 rcases hj with hj|hj
 ·obtain⟨h1,cur,h2⟩:=Row.bJ h.mg hj;exact⟨h1,aV h2⟩
 ·obtain⟨h1,cur,h2⟩:=Row.bJ h.bl hj;exact⟨h1,aV h2⟩
theorem rJ(c:oE)(A:Option Addr)(n cp:Nat)(E:Option Addr)(e ce:Nat)(r:Array Value)(A':Option Addr)(n' xt:Nat):
 (cQ c A n cp E e ce++r).setIfInBounds (0+33) (.slice A' n' xt)=cQ c A' n' xt E e ce++r:=by
 have h0:c.gQ.1.size=32:=c.gQ.2.1;apply Array.ext';unfold cQ;simp only [Array.toList_setIfInBounds,Array.toList_append,List.append_assoc];rw [List.set_append_right _ _ (by simp [h0])];simp [h0]
theorem rI(c:oE)(A:Option Addr)(n cp:Nat)(E:Option Addr)(e ce:Nat)(r:Array Value)(E':Option Addr)(n' xt:Nat):
 (cQ c A n cp E e ce++r).setIfInBounds (0+34) (.slice E' n' xt)=cQ c A n cp E' n' xt++r:=by
 have h0:c.gQ.1.size=32:=c.gQ.2.1;apply Array.ext';unfold cQ;simp only [Array.toList_setIfInBounds,Array.toList_append,List.append_assoc];rw [List.set_append_right _ _ (by simp [h0])];simp [h0]
theorem wE(c:oE)(A:Option Addr)(n cp:Nat)(E:Option Addr)(e ce:Nat)(r:Array Value)(s:Nat):
 (cQ c A n cp E e ce++r).setIfInBounds (0+32) (.int .u64 (s:Int))=cQ {c with score:=s} A n cp E e ce++r:=by
 have h0:c.gQ.1.size=32:=c.gQ.2.1;apply Array.ext';unfold cQ;simp only [Array.toList_setIfInBounds,Array.toList_append,List.append_assoc];rw [List.set_append_right _ _ (by simp [h0])];simp [h0]
theorem zJ.Tk(h:zJ w B q sm c ov A n cp E e ce)(hB:B<=w.heap.size)(hn:n<=100000){x:HT}{b:Nat}(hb:HS w (some ⟨b,0,none⟩) 1 [x]):
 ∃A' xt u,(Builtin.append_ #[ay,ay] ay #[.slice A n cp,.slice (some ⟨b,0,none⟩) 1 1]).run prog w=.ok (.slice A' (n+1) xt) u/\
  Kept (fun j=>B<=j) w u/\zJ (u.setCell (((⟨q,0,none⟩:Addr).add 0).add 33) (.slice A' (n+1) xt)) B q sm {c with merge:=c.merge++ [x]} ov A' (n+1) xt E e ce/\
  Kept (fun j=>j=q\/B<=j) w (u.setCell (((⟨q,0,none⟩:Addr).add 0).add 33) (.slice A' (n+1) xt))/\Wr u (((⟨q,0,none⟩:Addr).add 0).add 33):=by
 obtain⟨A',xt,u,hr,fG,hg,hA⟩:=cK ay h.mg (cx:=1) hb (by omega) hB;have ku:Kept (fun j=>B<=j) w u:=(Kept.refl _ _).grown hg fun j hj _=>(Row.bJ h.mg hj).1;have kA:Kept (fun j=>bn A=some j) w u:=(Kept.refl _ _).grown hg fun j hj _=>hj;have qB:=h.qB;have sB:=h.sB;have jx:=ku.heap h.top (by omega);have Dd:Row u B iK 1 E e ce (sS c.fL):=Row.aF h.bl kA (fun j hj e=>h.AE j e hj);have qL:Kept (· =q) u (u.setCell (((⟨q,0,none⟩:Addr).add 0).add 33) (.slice A' (n+1) xt)):=by
  rw [add_zero,bt];exact Kept.setCell (S:=(· =q)) (Kept.refl _ u) (p:=⟨q,0+33,none⟩) (fun _=>rfl) _
 have iC:∀ {X:Option Addr} {j:Nat},(∀k,bn X=some k->B<=k)->bn X=some j->¬j=q:=fun h hj e=>by have:=h _ hj;omega
 refine⟨A',xt,u,hr,ku,⟨?_,?_,?_,?_,qB,sB,h.qs,?_⟩,?_,?_⟩
 ·show(u.setCell (((⟨q,0,none⟩:Addr).add 0).add 33) (.slice A' (n+1) xt)).heap[q]? =_
  rw [add_zero,bt,di jx,rJ];rfl
 ·exact Row.aF fG qL (fun j hj=>iC (fun k hk=>(Row.bJ fG hk).1) hj)
 ·exact Row.aF Dd qL (fun j hj=>iC (fun k hk=>(Row.bJ Dd hk).1) hj)
 ·exact(h.ov.aF ku (by omega)).aF qL (fun e=>h.qs e.symm)
 ·intro j hj he
  rcases hA j hj with h1|h1
  ·exact h.AE j h1 he
  ·have:=(h.aef j (.inr he)).2;omega
 ·exact(ku.mono fun _ _ h=>.inr h).trans qL (fun _ _ e=>.inl e)
 ·rw [add_zero,bt]
  exact dS jx (by rw [Array.size_append,a8];simp)
end
structure nh(w:World)(B q sm bb:Nat)(c:oE)(ov:HT->Option Nat)(A:Option Addr)(n cp:Nat)(E:Option Addr)(e ce:Nat):Prop where
 top:w.heap[q]? =some (.cells (cQ c A n cp E e ce++ #[.map (some sm)]) eA (0,0))
 mg:HS w A n c.merge
 mA:∀a,A=some a->a.block<B/\a.block≠q/\a.block≠sm/\a.block≠bb
 bl:Row w B iK 1 E e ce (sS c.fL)
 ov:fV w sm (K7 ov)
 qB:q<B
 sB:sm<B
 bB:bb<B
 qs:q≠sm/\q≠bb/\sm≠bb
section
variable{w w':World}{B q sm bb:Nat}{c:oE}{ov:HT->Option Nat}{A E:Option Addr}{n cp e ce:Nat}{K:Value->World->Prop}
theorem nh.aF{S:Nat->Prop}(h:nh w B q sm bb c ov A n cp E e ce)(hk:Kept S w w')(h1:¬S q)(h2:¬S sm)(h3:∀j,B<=j->j<w.heap.size->¬S j)(h4:∀a,A=some a->¬S a.block):nh w' B q sm bb c ov A n cp E e ce:=
 ⟨hk.heap h.top h1,h.mg.aF hk h4,h.mA,Row.aF h.bl hk (fun j hj=>by obtain⟨g1,cur,g2⟩:=Row.bJ h.bl hj;exact h3 j g1 (aV g2)),h.ov.aF hk h2,h.qB,h.sB,h.bB,h.qs⟩
theorem nh.same(h:nh w B q sm bb c ov A n cp E e ce)(hk:Kept Nil w w'):nh w' B q sm bb c ov A n cp E e ce:=h.aF hk (fun h=>h) (fun h=>h) (fun _ _ _ h=>h) (fun _ _ h=>h)
theorem nh.f32(h:nh w B q sm bb c ov A n cp E e ce):w.cell? (((⟨q,0,none⟩:Addr).add 0).add 32)=some (.int .u64 (c.score:Int)):=by rw [add_zero,bt,aD h.top];exact(gD ..).1
theorem nh.f33(h:nh w B q sm bb c ov A n cp E e ce):w.cell? (((⟨q,0,none⟩:Addr).add 0).add 33)=some (.slice A n cp):=by rw [add_zero,bt,aD h.top];exact(gD ..).2.1
theorem nh.f34(h:nh w B q sm bb c ov A n cp E e ce):w.cell? (((⟨q,0,none⟩:Addr).add 0).add 34)=some (.slice E e ce):=by rw [add_zero,bt,aD h.top];exact(gD ..).2.2.1
theorem nh.f35(h:nh w B q sm bb c ov A n cp E e ce):w.cell? ((⟨q,0,none⟩:Addr).add 35)=some (.map (some sm)):=by rw [bt,aD h.top];exact(gD ..).2.2.2
theorem nh.wr(h:nh w B q sm bb c ov A n cp E e ce){j:Nat}(hj:j<36):Wr w (((⟨q,0,none⟩:Addr).add 0).add j):=by
 rw [add_zero,bt];exact dS h.top (by rw [Array.size_append,a8];simp;omega)
theorem nh.S6{h:nh w B q sm bb c ov A n cp E e ce}(j:Nat)(v:Value):Kept (· =q) w (w.setCell (((⟨q,0,none⟩:Addr).add 0).add j) v):=by
 rw [add_zero,bt];exact Kept.setCell (S:=(· =q)) (Kept.refl _ w) (p:=⟨q,0+j,none⟩) (fun _=>rfl) _
theorem nh.HX(h:nh w B q sm bb c ov A n cp E e ce)(hB:B<=w.heap.size)(hn:e<=100000){x:Bool}{b:Nat}(hb:w.cell? ⟨b,0,none⟩=some (.bool x)):
 ∃E' sQ u,(Builtin.append_ #[gN,gN] gN #[.slice E e ce,.slice (some ⟨b,0,none⟩) 1 1]).run prog w=.ok (.slice E' (e+1) sQ) u/\
  Kept (fun j=>B<=j/\bn E=some j) w u/\Wr u (((⟨q,0,none⟩:Addr).add 0).add 34)/\
  nh (u.setCell (((⟨q,0,none⟩:Addr).add 0).add 34) (.slice E' (e+1) sQ)) B q sm bb {c with fL:=c.fL++ [x]} ov A n cp E' (e+1) sQ/\
  Kept (fun j=>j=q\/bn E=some j) w (u.setCell (((⟨q,0,none⟩:Addr).add 0).add 34) (.slice E' (e+1) sQ))/\(∀j,bn E'=some j->bn E=some j\/w.heap.size<=j):=by
 obtain⟨E',sQ,u,hr,fG,hg,hE⟩:=fR (P:=prog) (t:=gN) (bytes:=1) (ty:=gN) Cn h.bl (a:=⟨b,0,none⟩) (m:=1) (cx:=1) (news:= [.bool x]) rfl (fun j v hj=>by
  cases j with
  |zero=>simp only [List.getElem?_cons_zero,Option.some.injEq]at hj;subst hj;rw [add_zero];exact hb
  |succ j=>simp at hj) (fun v hv=>by
  have:v=.bool x:=by simpa using hv
  subst this;rfl) (by omega) (by unfold maxLen;omega) hB
 have qB:=h.qB;have sB:=h.sB;have kE:Kept (fun j=>B<=j/\bn E=some j) w u:=(Kept.refl _ _).grown hg fun j hj _=>⟨(Row.bJ h.bl hj).1,hj⟩;have jx:=kE.heap h.top (by omega);have qL:Kept (· =q) u (u.setCell (((⟨q,0,none⟩:Addr).add 0).add 34) (.slice E' (e+1) sQ)):=by
  rw [add_zero,bt];exact Kept.setCell (S:=(· =q)) (Kept.refl _ u) (p:=⟨q,0+34,none⟩) (fun _=>rfl) _
 refine⟨E',sQ,u,hr,kE,?_,⟨?_,?_,h.mA,?_,?_,qB,sB,h.bB,h.qs⟩,?_,hE⟩
 ·rw [add_zero,bt]
  exact dS jx (by rw [Array.size_append,a8];simp)
 ·show(u.setCell (((⟨q,0,none⟩:Addr).add 0).add 34) (.slice E' (e+1) sQ)).heap[q]? =_
  rw [add_zero,bt,di jx,rI];rfl
 ·exact(h.mg.aF kE (fun a ha=>by have:=(h.mA a ha).1;omega)).aF qL (fun a ha=>(h.mA a ha).2.1)
 ·have e1:sS (c.fL++ [x])=sS c.fL++ [.bool x]:=by simp [sS]
  show Row _ B iK 1 E' (e+1) sQ (sS (c.fL++ [x]))
  rw [e1];exact Row.aF fG qL (fun j hj=>by have:=(Row.bJ fG hj).1;omega)
 ·exact(h.ov.aF kE (by omega)).aF qL (fun e=>h.qs.1 e.symm)
 ·exact(kE.mono fun _ _ h=>.inr h.2).trans qL (fun _ _ e=>.inl e)
theorem nh.O5(h:nh w B q sm bb c ov A n cp E e ce)(s:Nat):
 nh (w.setCell (((⟨q,0,none⟩:Addr).add 0).add 32) (.int .u64 (s:Int))) B q sm bb {c with score:=s} ov A n cp E e ce/\Kept (· =q) w (w.setCell (((⟨q,0,none⟩:Addr).add 0).add 32) (.int .u64 (s:Int))):=by
 have qB:=h.qB;have qL:=nh.S6 (h:=h) 32 (.int .u64 (s:Int));refine⟨⟨?_,h.mg.aF qL (fun a ha=>(h.mA a ha).2.1),h.mA,Row.aF h.bl qL (fun j hj=>by have:=(Row.bJ h.bl hj).1;omega),h.ov.aF qL (fun e=>h.qs.1 e.symm),h.qB,h.sB,h.bB,h.qs⟩,qL⟩;rw [add_zero,bt,di h.top,wE]
theorem nh.note(h:nh w B q sm bb c ov A n cp E e ce)(b:HT)(n0:Nat):
 ∃u,(Instr.mapUpdate cJ (.map (some sm)) (.agg b.1) (.int .i64 (n0:Int))).run prog w=.ok () u/\nh u B q sm bb c (fun y=>if y=b then some n0 else ov y) A n cp E e ce/\Kept (· =sm) w u:=by
 have sB:=h.sB;obtain⟨u,hr,hm,hk⟩:=h.ov.put sj b (.int .i64 (n0:Int));refine⟨u,hr,⟨hk.heap h.top h.qs.1,h.mg.aF hk (fun a ha=>(h.mA a ha).2.2.1),h.mA,Row.aF h.bl hk (fun j hj=>by have:=(Row.bJ h.bl hj).1;omega),?_,h.qB,h.sB,h.bB,h.qs⟩,hk⟩;have e1:K7 (fun y=>if y=b then some n0 else ov y)=fun x=>if x=b then some (.int .i64 (n0:Int))else K7 ov x:=by
  funext y
  unfold K7;by_cases e:y=b
  ·simp only [if_pos e,Option.map_some]
  ·simp only [if_neg e]
 rw [e1];exact hm
end
noncomputable def la(k:Nat)(G:GS)(s:HT)(l:List HT)(i:Nat):VS:=((cG G s l).take i).foldl (jV k G.D) ⟨G.world s++ [s],[]⟩
structure V2(y v:World)(k:Nat)(G:GS)(s:HT)(l:List HT)(base:HT->Nat)(q sm bb:Nat)(A:Option Addr)(n cp i:Nat):Prop where
 ex:∃(ov:HT->Option Nat) (E:Option Addr) (e ce:Nat) (Ab:Option Addr) (nb cb:Nat) (bl:List HT),
  nh v y.heap.size q sm bb ⟨s,G.score s+1+(la k G s l i).bl.count true,cG G s l,(la k G s l i).bl⟩ ov A n cp E e ce/\
  v.heap[bb]? =some (.cells #[.slice Ab nb cb] ay (0,0))/\bM v y.heap.size Ab nb cb bl/\(la k G s l i).wd=G.world s++ [s]++bl/\(∀j,bn Ab=some j->bn E≠some j)/\
  OV G.D (la k G s l i).wd ov base/\(la k G s l i).wd.Nodup/\(∀z∈bl,z∈(cG G s l).take i)/\e=i
 kp:Kept (fun j=>j=q\/j=sm\/j=bb) y v
theorem nh.Im{w w':World}{B q sm bb:Nat}{c:oE}{ov:HT->Option Nat}{A E:Option Addr}{n cp e ce:Nat}{S:Nat->Prop}(h:nh w B q sm bb c ov A n cp E e ce)(hk:Kept S w w')(h1:¬S q)(h2:¬S sm)(h3:∀j,bn E=some j->¬S j)(h4:∀a,A=some a->¬S a.block):nh w' B q sm bb c ov A n cp E e ce:=
 ⟨hk.heap h.top h1,h.mg.aF hk h4,h.mA,Row.aF h.bl hk h3,h.ov.aF hk h2,h.qB,h.sB,h.bB,h.qs⟩
theorem zP{k:Nat}{G:GS}{s:HT}{l:List HT}{i:Nat}{x:HT}(hx:(cG G s l)[i]? =some x):la k G s l (i+1)=jV k G.D (la k G s l i) x:=by
 unfold la;have e:(cG G s l).take (i+1)=(cG G s l).take i++ [x]:=by rw [List.take_add_one,hx];rfl
 rw [e,List.foldl_append];rfl
theorem DT(k:Nat)(G:GS)(s:HT)(l:List HT)(i:Nat)(hi:i<=(cG G s l).length):(la k G s l i).bl.length=i:=by
 obtain⟨b,h1,h2⟩:=Hy k G.D (G.world s++ [s]) ((cG G s l).take i);unfold la;rw [h2];show b.length=i
 rw [h1,List.length_take];omega
theorem DU(k:Nat)(G:GS)(s:HT)(l:List HT):la k G s l (cG G s l).length=dP k G s l:=by
 unfold la dP;rw [List.take_of_length_le (Nat.le_refl _)]
section
variable{y v w w':World}{F:Nat->Prop}{c k:Nat}{G:GS}{m:CM}{s:HT}{l ch:List HT}{bs bc bh q sm bb kb n cp:Nat}{A:Option Addr}{K:Value->World->Prop}
set_option maxHeartbeats 4000000 in
theorem Cf(C:CV y F c k G m)(hD:G.D.length<=5000)(rP:k<=1000)(hs:s∈ids G.D)(hc:cF G.D G.P s ch)(hM:∀x∈cG G s l,x∈ids G.D)
 (V:VB y c s bs bc bh q sm (fun _=>none)) (NV:y.heap[kb]? =some (.cells #[.func (.func b0.id) #[] #[.pointer (some ⟨bs,0,none⟩),.pointer (some ⟨bc,0,none⟩),.pointer (some ⟨bh,0,none⟩)]] fF (0,0)))
 (iC:∀j,(m.own c j\/F j\/j=bs\/j=bc\/j=bh\/j=kb)->j≠q/\j≠sm/\j≠bb)
 (h0:V2 y y k G s l (nx m.sz ch) q sm bb A n cp 0) (hn:n<=5000)
 (hK:∀v ov E e ce,nh v y.heap.size q sm bb (cX k G s l) ov A n cp E e ce->OV G.D (dP k G s l).wd ov (nx m.sz ch)->Kept (fun j=>j=q\/j=sm\/j=bb) y v->K (.pointer (some ⟨q,0,none⟩)) v):
 Holds none [] prog 153 (.loop (lB (bB (sR (sL (fX (body ak.fn))))))) (ak.q2 K)
  [(3,.pointer (some ⟨bc,0,none⟩)),(6,.pointer none),(8,.pointer (some ⟨bs,0,none⟩)),(11,.pointer (some ⟨bb,0,none⟩)),(12,.func (.func ah.id) #[] #[.pointer (some ⟨bb,0,none⟩),.pointer (some ⟨bc,0,none⟩),.pointer (some ⟨bh,0,none⟩)]),(13,.pointer (some ⟨kb,0,none⟩)),(92,.slice A n cp),(93,.int .i64 (n:Int)),(94,.int .i64 0)] y:=by
 have W:=C.fk.W;have hmn:(cG G s l).Nodup:=(jM G s l).nodup;have VE:(cG G s l).length=n:=by obtain⟨_,_,_,_,_,_,_,_,h,_⟩:=h0.ex;exact h.mg.len
 have lbs:=aV V.hs;have lbc:=aV V.hc;have lbh:=aV V.hh;have lkb:=aV NV;have YZ:=iC bs (.inr (.inr (.inl rfl)));have Y2:=iC bc (.inr (.inr (.inr (.inl rfl))));have Y0:=iC bh (.inr (.inr (.inr (.inr (.inl rfl)))));have fkb:=iC kb (.inr (.inr (.inr (.inr (.inr rfl)))));refine ak.gS (I:=fun s0 v=>∃i:Nat,s0=(i:Int)/\i<=n/\V2 y v k G s l (nx m.sz ch) q sm bb A n cp i) (μ:=fun s0 _=>((n:Int)-s0).toNat) (s:=0) ⟨0,rfl,Nat.zero_le _,h0⟩ ?_;rintro s0 v ⟨i,rfl,hi,hV⟩;obtain⟨ov,E,e,ce,Ab,nb,cb,bl,hS,wR,fG,R0,hAE,hO,ft,vX,hie⟩:=hV.ex;have kv:=hV.kp;have sv:=kv.size;refine Split.dec (fun jQ=>?_) (fun gE=>?_)
 ·have dY:i<n:=by omega
  obtain⟨x,hx⟩:∃x,(cG G s l)[i]? =some x:=⟨_,List.getElem?_eq_getElem (by omega)⟩;have RY:=hM x (List.mem_of_getElem? hx);have Nt:x∉(la k G s l i).wd:=by
   rw [R0];intro hm;obtain⟨_,g1,g2⟩:=iX.1 (List.mem_of_getElem? hx);rcases List.mem_append.1 hm with hm|hm
   ·rcases List.mem_append.1 hm with hm|hm
    ·exact g2 ((C.fk.wd s hs).2.1 x hm)
    ·exact g1 (by simpa using hm)
   ·have h1:=vX x hm
    obtain⟨j,hj⟩:=List.mem_iff_getElem?.1 h1;rw [List.getElem?_take]at hj;split at hj
    ·rename_i KB
     have h2:=(lgeS hj);have h3:=(lgeS hx);have:=(List.getElem_inj hmn).1 (h2.2.trans h3.2.symm);omega
    ·cases hj
  have qN:=zP (k:=k) hx;refine hS.mg.load (i:=(i:Int)) (by omega) hx ?_;intro nn;obtain⟨tz,jT,kL⟩:=iu (w:=v) (z:=dz.1) (cs:=x.1) (t:=ag) (by rw [x.2.1];rfl);refine⟨⟨x.2.1,x.2.one,fun j hj=>tz j (by rw [x.2.1];exact hj)⟩,?_⟩;intro iQ
  replace jT:iQ.heap[v.heap.size]? =some (.cells x.1 ag (0,0)):=jT
  replace kL:Kept Nil v iQ:=kL
  clear_value iQ;intro nS jO;have uh:Kept Nil iQ nS:=(Kept.refl _ _).alloc _;have Vx:fV nS iQ.heap.size (fun _=>none):=fV.new iQ;have nM:Kept Nil nS jO:=(Kept.refl _ _).alloc _;have QT:jO.heap[nS.heap.size]? =some (.cells #[.map none] cJ (0,0)):=aI nS _;refine⟨dS QT (by simp),?_⟩;intro xI;have Wk:xI.heap[nS.heap.size]? =some (.cells #[.map (some iQ.heap.size)] cJ (0,0)):=by
   show(jO.setCell ⟨nS.heap.size,0,none⟩ (.map (some iQ.heap.size))).heap[nS.heap.size]? =_;rw [di QT 0];rfl
  have IA:Kept (· =nS.heap.size) jO xI:=Kept.setCell (S:=(· =nS.heap.size)) (Kept.refl _ jO) (p:=⟨nS.heap.size,0,none⟩) (fun _=>rfl) _;clear_value xI;have s14:=kL.size;have s15:=uh.size;have l14:=aV jT;have l15:=Vx.lt;have l16:=aV QT;have IF:Kept Nil iQ xI:=⟨IA.os.trans (uh.tt nM).os,IA.tape.trans (uh.tt nM).tape,IA.output.trans (uh.tt nM).output,Nat.le_trans (uh.tt nM).size IA.size,fun j hj hn=>by rw [IA.block j (Nat.lt_of_lt_of_le hj (uh.tt nM).size) (by omega),(uh.tt nM).block j hj hn]⟩;have abK:fV xI iQ.heap.size (fun _=>none):=(Vx.same nM).aF IA (by omega);have Oc:=IF.heap jT (fun h=>h);clear_value jO nS;have Ll:Kept Nil v xI:=kL.tt IF;have F5:Kept (fun j=>j=q\/j=sm\/j=bb) y xI:=kv.trans Ll (fun _ _ h=>h.elim);have Rf:=hS.same Ll;have C17:CV xI F c k G m:=C.aF F5 (fun j hj e=>by have:=iC j (.inl hj);omega) (fun j hj e=>by have:=iC j (.inr (.inl hj));omega);have V17:VB xI c s bs bc bh q sm ov:=⟨F5.heap V.hs (by omega),F5.heap V.hc (by omega),F5.heap V.hh (by omega),Rf.f35,Rf.ov⟩;have VO:=F5.heap NV (by omega);have I5:bM xI y.heap.size Ab nb cb bl:=Row.aF fG Ll (fun _ _ h=>h);have Ol:=Ll.heap wR (fun h=>h);refine⟨x.1,⟨x.2.1,Cells.bJ Oc⟩,?_⟩;have qB:=hS.qB;have sB:=hS.sB;have bB:=hS.bB;have Jr:∀b∈(la k G s l i).wd,sx ov (nx m.sz ch) b=(bS G.D (la k G s l i).wd b).length:=hO.kn;have om:=ft;rw [R0]at om;obtain⟨c1,c2,c3⟩:=MH C.fk (h:=x) hs hc om;rw [<-R0]at c2 c3;have WB:=fG.len;have Vg:nb<=5000:=by
   have h1:=cZ (m:=cG G s l) (List.nodup_append.1 om).2.1 (fun z hz=>List.mem_of_mem_take (vX z hz));omega
  have Rk:∀a,Ab=some a->a.block<iQ.heap.size:=fun a ha=>by
   subst ha;obtain⟨_,cur,h1⟩:=Row.bJ fG (k:=a.block) rfl;have:=aV h1;omega
  refine Bq (p:=⟨bs,bc,bh,q,sm,kb,nS.heap.size,iQ.heap.size,0,0⟩) ⟨C17,V17,VO,Wk,(fun e=>by have:iQ.heap.size<y.heap.size:=C.low _ (.inl e);omega),(fun e=>by have:iQ.heap.size<y.heap.size:=C.low _ (.inr e);omega),(show bs≠iQ.heap.size/\bc≠iQ.heap.size/\bh≠iQ.heap.size/\q≠iQ.heap.size/\sm≠iQ.heap.size/\kb≠iQ.heap.size/\nS.heap.size≠iQ.heap.size from⟨by omega,by omega,by omega,by omega,by omega,by omega,by omega⟩)⟩ hD rP hs hc (h:=x) Ol (by show bb≠iQ.heap.size;omega) I5.hs (fun a ha=>by have:=Rk a ha;show a.block≠iQ.heap.size;omega) (by omega) (by
   show fV xI iQ.heap.size _
   have e0:(fun y=>if y∈([]:List HT)then some (Value.int .i64 (sx ov (nx m.sz ch) y:Int))else none)=fun _=>none:=by funext y;simp
   rw [e0];exact abK) c1 fun E0 r hr hFr BV=>⟨r,rfl,?_⟩
  replace BV:Kept (· =iQ.heap.size) xI E0:=BV
  have Oe:r=mf k G.D (la k G s l i).wd x:=by rw [hr];exact JQ Jr c2 c3
  have Xg:∀j,bn E=some j->y.heap.size<=j/\j<v.heap.size:=fun j hj=>by obtain⟨g1,cur,g2⟩:=Row.bJ hS.bl hj;exact⟨g1,aV g2⟩
  have Jz:∀j,bn Ab=some j->y.heap.size<=j/\j<v.heap.size:=fun j hj=>by obtain⟨g1,cur,g2⟩:=Row.bJ fG hj;exact⟨g1,aV g2⟩
  have s17:=IF.size;have adg:=Rf.Im BV (by omega) (by omega) (fun j hj=>by have:=Xg j hj;omega) (fun a ha=>by have:=(hS.mA a ha).1;omega);have Qk:bM E0 y.heap.size Ab nb cb bl:=Row.aF I5 BV (fun j hj=>by have:=Jz j hj;omega);have Lh:Kept (fun j=>j=q\/j=sm\/j=bb) y E0:=F5.trans BV (fun j hj e=>by omega);have WH:=BV.heap Ol (by omega);have Wy:=BV.heap Oc (by omega);have acp:=BV.heap Wk (by omega);intro zM;have Iy:Kept Nil E0 zM:=(Kept.refl _ _).drew;clear_value zM;have Jv:=adg.same Iy;have AP:=Lh.trans Iy (fun _ _ h=>h.elim);have Bf:∀ {u:World} {S:Nat->Prop},Kept S y u->¬S bs->u.cell? ⟨bs,0,none⟩=some (.pointer (some ⟨q,0,none⟩)):=fun ku hb=>by rw [aD (ku.heap V.hs hb)];rfl
  have M0:¬(bs=q\/bs=sm\/bs=bb):=by omega
  have s21:=AP.size;refine⟨_,Bf AP M0,_,Bf AP M0,E,e,ce,Jv.f34,?_⟩;intro mB;have p9:Kept Nil zM mB:=(Kept.refl _ _).alloc _;have Mn:mB.heap[zM.heap.size]? =some (.cells #[.bool r] iK (0,0)):=aI zM _;clear_value mB;have Ju:=Jv.same p9;have vT:=AP.trans p9 (fun _ _ h=>h.elim);have X1:=vT.size;obtain⟨E',sQ,u,UG,kE,aay,Jt,k5,hE5⟩:=Ju.HX (by omega) (by omega) (x:=r) (b:=zM.heap.size) (by rw [aD Mn];rfl);have ZW:Kept (fun j=>j=q\/j=sm\/j=bb) y u:=vT.trans kE (fun j hj e=>by have:=Xg j e.2;omega);refine⟨Ju.f34,Bf vT M0,Bf vT M0,E',e+1,sQ,u,UG,Bf ZW M0,aay,?_⟩;intro wT
  replace Jt:nh wT y.heap.size q sm bb _ ov A n cp E' (e+1) sQ:=Jt
  replace k5:Kept (fun j=>j=q\/bn E=some j) mB wT:=k5
  clear_value wT;have Pk:Kept (fun j=>j=q\/j=sm\/j=bb) y wT:=vT.trans k5 (fun j hj e=>by
   rcases e with e|e
   ·exact .inl e
   ·have:=Xg j e;omega)
  have Iz:Kept (fun j=>j=q\/bn E=some j) E0 wT:=((Iy.tt p9).mono fun _ _ h=>h.elim).tt k5;have aez:=(Iy.tt p9).size;have s20:=BV.size;have I4:bM wT y.heap.size Ab nb cb bl:=Row.aF Qk Iz (fun j hj e=>by
   have:=Jz j hj;rcases e with e|e
   ·omega
   ·exact hAE j hj e)
  have Oj:=Iz.heap WH (fun e=>by
   rcases e with e|e
   ·exact hS.qs.2.1 e.symm
   ·have:=Xg bb e;omega)
  have Rl:∀j,bn Ab=some j->bn E'≠some j:=fun j hj he=>by
   rcases hE5 j he with h1|h1
   ·exact hAE j hj h1
   ·have:=Jz j hj;omega
  have NA:∀z∈bl,z∈(cG G s l).take (i+1):=fun z hz=>by
   have h1:=vX z hz;rw [List.take_add_one];exact List.mem_append_left _ h1
  cases r with
  |false=>
   refine Split.yes rfl ?_;rw [dH (n:=(i:Int)) (by omega) (by omega)];have yW:la k G s l (i+1)=⟨(la k G s l i).wd,(la k G s l i).bl++ [false]⟩:=by rw [qN,jV,<-Oe];rfl
   refine⟨(i:Int)+1,rfl,⟨i+1,rfl,dY,⟨ov,E',e+1,sQ,Ab,nb,cb,bl,?_,Oj,I4,?_,Rl,?_,?_,NA,by omega⟩,Pk⟩,by simp only;omega⟩
   ·rw [yW]
    simpa [List.count_append]using Jt
   ·rw [yW];exact R0
   ·rw [yW];exact hO
   ·rw [yW];exact ft
  |true=>
   refine Split.no rfl ?_;have Rh:=hFr rfl
   replace Rh:zw E0 iQ.heap.size (sx ov (nx m.sz ch)) (o5 G x bl ch):=Rh
   have dm:=(qj.1 hr.symm).2;have qP:=cZ (m:=ids G.D) c1 (fun z hz=>by
    have h1:=(eF.1 ((c3 z).1 hz)).1;rw [R0]at h1;rcases List.mem_append.1 h1 with h1|h1
    ·rcases List.mem_append.1 h1 with h1|h1
     ·exact(((C.fk.wd s hs).2.1 z h1).mem W).1
     ·have:z=s:=by simpa using h1
      subst this;exact hs
    ·exact hM z (List.mem_of_mem_take (vX z h1)))
   rw [gF]at qP;generalize kl:o5 G x bl ch=lA at*;generalize abU:sx ov (nx m.sz ch)=kn at*;have Qe:G.score s<=5000:=by
    have h1:=(C.fk.wd s hs).2.2;have h2:=cZ (m:=ids G.D) (C.fk.wd s hs).1 (fun b hb=>(((C.fk.wd s hs).2.1 b hb).mem W).1);rw [gF]at h2;omega
   have acw:(la k G s l i).bl.count true<=5000:=by
    have h1:=List.count_le_length (a:=true) (l:=(la k G s l i).bl);rw [DT k G s l i (by omega)]at h1;omega
   generalize Eu:G.score s+1+(la k G s l i).bl.count true=sc at*;have ew:u64.wrap ((sc:Int)+(1:Int))=((sc+1:Nat):Int):=by
    rw [show(sc:Int)+1=((sc+1:Nat):Int)by omega];exact kc (by omega)
   refine⟨_,Bf Pk M0,_,Jt.f32,Jt.wr (by omega),?_⟩;intro uO sM;have ade:nh uO y.heap.size q sm bb ⟨s,sc+1,cG G s l,(la k G s l i).bl++ [true]⟩ ov A n cp E' (e+1) sQ:=by
    show nh (wT.setCell (((⟨q,0,none⟩:Addr).add 0).add 32) (.int .u64 (u64.wrap ((sc:Int)+(1:Int))))) _ _ _ _ _ _ _ _ _ _ _ _
    rw [ew];exact(Jt.O5 (sc+1)).1
   have Ha:Kept (· =q) wT uO:=nh.S6 (h:=Jt) 32 _;have CF:Kept Nil uO sM:=(Kept.refl _ _).drew;clear_value sM uO;have Dg:=ade.same CF;have Ej:Kept (· =q) wT sM:=Ha.trans CF (fun _ _ h=>h.elim);have AO:=Pk.trans Ej (fun j hj e=>.inl e);have El:Kept (fun j=>j=q\/bn E=some j) E0 sM:=Iz.trans Ej (fun j hj e=>.inl e);have JH:∀j,v.heap.size<=j->¬(j=q\/bn E=some j):=fun j hj e=>by
    rcases e with e|e
    ·omega
    ·have:=Xg j e;omega
   have Ob:=El.heap Wy (JH _ (Nat.le_refl _));have Wj:=El.heap acp (JH _ (by omega));have Xe:zw sM iQ.heap.size kn lA:=Rh.aF El (JH _ (by omega));have QG:∀z,(if z∈lA then some (Value.int .i64 (kn z:Int))else none)≠none↔z∈lA:=fun z=>by
    by_cases hz:z∈lA
    ·rw [if_pos hz];exact⟨fun _=>hz,fun _ e=>by cases e⟩
    ·rw [if_neg hz];exact⟨fun e=>absurd rfl e,fun e=>absurd e hz⟩
   obtain⟨uz,aa5,W6,uC⟩:=Dg.note x lA.length;have s33:=El.size;have ZY:=AO.trans uC (fun j hj e=>.inr (.inl e));have adr:zw uz iQ.heap.size kn lA:=Xe.aF uC (by omega);have aco:=uC.heap Wj (by omega);have Wx:=uC.heap Ob (by omega);have Qi:bM uz y.heap.size Ab nb cb bl:=Row.aF (Row.aF I4 Ej (fun j hj e=>by have:=Jz j hj;omega)) uC (fun j hj e=>by have:=Jz j hj;omega);have WE:=uC.heap (Ej.heap Oj (fun e=>hS.qs.2.1 e.symm)) (fun e=>hS.qs.2.2 e.symm);obtain⟨w38,Cc,aa4,hit,RV⟩:=adr.range sj;have s36:=uC.size;have s38:=RV.size;refine⟨_,Bf AO M0,some sm,Dg.f35,x.1,⟨x.2.1,Cells.bJ Ob⟩,some iQ.heap.size,by rw [aD Wj];rfl,lA.length,Xe.len sj j0 c1 QG,uz,aa5,some iQ.heap.size,by rw [aD aco];rfl,_,w38,aa4,?_⟩;refine ak.sk (I:=fun _ u=>∃left Cc MZ,o6 u iQ.heap.size uz.heap.size (fun z=>if z∈lA then some (Value.int .i64 (kn z:Int))else none) left Cc/\nh u y.heap.size q sm bb ⟨s,sc+1,cG G s l,(la k G s l i).bl++ [true]⟩ MZ A n cp E' (e+1) sQ/\
    (∀z,(left z->z∈lA)/\(z∈lA->¬left z->MZ z=some (kn z+1))/\((z∉lA\/left z)->MZ z=if z=x then some lA.length else ov z))/\Kept (fun j=>j=sm\/j=uz.heap.size) w38 u) (μ:=fun _ u=>u.rangeLeft iQ.heap.size uz.heap.size) (s:=())
    ⟨_,Cc,_,hit,W6.same RV,fun z=>⟨fun hz=>(QG z).1 hz,fun hz hl=>absurd ((QG z).2 hz) hl,fun _=>rfl⟩,Kept.refl _ _⟩ ?_
   rintro s1 u3 ⟨left,alo,MZ,QC,Re,hinv,ku⟩;have Zw:=ku.size;have lit:=QC.lt;have ky3:Kept (fun j=>j=q\/j=sm\/j=bb) y u3:=(ZY.trans RV (fun _ _ h=>h.elim)).trans ku (fun j hj e=>by
    rcases e with e|e
    ·exact .inr (.inl e)
    ·omega)
   rcases QC.next 0 with⟨h0',Va,jP⟩|⟨z,val,u4,adQ,hl,hfz,jP,acr,abW,cU,k4⟩
   ·refine .inl ⟨u3,jP,?_⟩
    rw [aS,ak.yz];unfold ak.sK;have WG:=ku.heap (RV.heap WE (fun h=>h)) (by have:=hS.qs;omega);have Gx:=ku.heap (RV.heap Wx (fun h=>h)) (by omega);have UI:bM u3 y.heap.size Ab nb cb bl:=Row.aF (Row.aF Qi RV (fun _ _ h=>h)) ku (fun j hj e=>by have:=Jz j hj;omega);refine⟨Ab,nb,cb,by rw [aD WG];rfl,x.1,⟨x.2.1,Cells.bJ Gx⟩,x.2.1,?_⟩;intro Kl;have RU:Kept Nil u3 Kl:=(Kept.refl _ _).alloc _;have aat:HS Kl (some ⟨u3.heap.size,0,none⟩) 1 [x]:=jq u3 x;clear_value Kl;have s50:=RU.size;have Qg:bM Kl y.heap.size Ab nb cb bl:=Row.aF UI RU (fun _ _ h=>h);obtain⟨A6,c6,Hu,Qm,MU,g51,adx⟩:=cK ay Qg (cx:=1) aat (by omega) (by omega);have Yf:Kept (fun j=>bn Ab=some j) Kl Hu:=(Kept.refl _ _).grown g51 fun j hj _=>hj;have Oi:=Yf.heap (RU.heap WG (fun h=>h)) (fun e=>by have:=Jz bb e;omega);refine⟨A6,nb+1,c6,Hu,Qm,dS Oi (by simp),?_⟩;intro MQ;have WD:MQ.heap[bb]? =some (.cells #[.slice A6 (nb+1) c6] ay (0,0)):=by
     show(Hu.setCell ⟨bb,0,none⟩ (.slice A6 (nb+1) c6)).heap[bb]? =_;rw [di Oi 0];rfl
    have Iq:Kept (· =bb) Hu MQ:=Kept.setCell (S:=(· =bb)) (Kept.refl _ Hu) (p:=⟨bb,0,none⟩) (fun _=>rfl) _;clear_value MQ;have xf:Kept (fun j=>bn Ab=some j\/j=bb) u3 MQ:=((RU.mono fun _ _ h=>h.elim).trans Yf (fun _ _ h=>.inl h):Kept (fun j=>bn Ab=some j\/j=bb) u3 Hu).trans Iq (fun _ _ h=>.inr h);have adb:nh MQ y.heap.size q sm bb ⟨s,sc+1,cG G s l,(la k G s l i).bl++ [true]⟩ MZ A n cp E' (e+1) sQ:=Re.Im xf
     (fun e=>e.elim (fun e=>by have:=Jz q e;omega) (fun e=>hS.qs.2.1 e)) (fun e=>e.elim (fun e=>by have:=Jz sm e;omega) (fun e=>hS.qs.2.2 e))
     (fun j hj e=>e.elim (fun e=>Rl j e hj) (fun e=>by have:=(Row.bJ Re.bl hj).1;omega)) (fun a ha e=>e.elim (fun e=>by have:=Jz _ e;have:=(hS.mA a ha).1;omega) (fun e=>(hS.mA a ha).2.2.2 e))
    have tT:bM MQ y.heap.size A6 (nb+1) c6 (bl++ [x]):=Row.aF MU Iq (fun j hj e=>by have:=(Row.bJ MU hj).1;omega);rw [dH (n:=(i:Int)) (by omega) (by omega)];have yW:la k G s l (i+1)=⟨(la k G s l i).wd++ [x],(la k G s l i).bl++ [true]⟩:=by rw [qN,jV,<-Oe];rfl
    have abq:MZ=Ay G.D (la k G s l i).wd ov (nx m.sz ch) x:=by
     funext z
     unfold Ay;rw [abU];by_cases hz:z∈lA
     ·rw [if_pos ((c3 z).1 hz)]
      exact(hinv z).2.1 hz (Va z)
     ·rw [if_neg (fun e=>hz ((c3 z).2 e)),(hinv z).2.2 (.inl hz),c2]
    refine⟨(i:Int)+1,rfl,⟨i+1,rfl,dY,⟨MZ,E',e+1,sQ,A6,nb+1,c6,bl++ [x],?_,WD,tT,?_,?_,?_,?_,?_,by omega⟩,?_⟩,by simp only;omega⟩
    ·rw [yW]
     have ec:G.score s+1+((la k G s l i).bl++ [true]).count true=sc+1:=by rw [List.count_append,<-Eu];simp;omega
     show nh MQ y.heap.size q sm bb ⟨s,G.score s+1+((la k G s l i).bl++ [true]).count true,cG G s l,(la k G s l i).bl++ [true]⟩ MZ A n cp E' (e+1) sQ
     rw [ec];exact adb
    ·rw [yW]
     show(la k G s l i).wd++ [x]=_;rw [R0,List.append_assoc]
    ·intro j hj he
     rcases adx j hj with h1|h1
     ·exact Rl j h1 he
     ·obtain⟨_,cur,h2⟩:=Row.bJ Re.bl he
      have:=aV h2;omega
    ·rw [yW,abq]
     exact hO.step Nt
    ·rw [yW]
     exact List.nodup_append.2 ⟨ft,by simp,fun a ha b hb e=>by
      have:b=x:=by simpa using hb
      subst this;subst e;exact Nt ha⟩
    ·intro z hz
     rcases List.mem_append.1 hz with hz|hz
     ·exact NA z hz
     ·have:z=x:=by simpa using hz
      subst this;rw [List.take_add_one,hx];simp
    ·exact ky3.trans xf (fun j hj e=>by
      rcases e with e|e
      ·have:=Jz j e;omega
      ·exact .inr (.inr e))
   ·have hzc:=(hinv z).1 hl
    rw [if_pos hzc]at hfz;cases hfz;have hkz:=dm z hzc;refine .inr ⟨_,_,u4,jP,z.1,(kn z:Int),acr,?_⟩;intro Kk;obtain⟨P6,Bl,y8⟩:=iu (w:=u4) (z:=dz.1) (cs:=z.1) (t:=ag) (by rw [z.2.1];rfl);refine⟨⟨z.2.1,z.2.one,fun j hj=>P6 j (by rw [z.2.1];exact hj)⟩,?_⟩;intro XZ RH
    replace Bl:XZ.heap[u4.heap.size]? =some (.cells z.1 ag (0,0)):=Bl
    replace y8:Kept Nil u4 XZ:=y8
    have Yb:Kept Nil XZ RH:=(Kept.refl _ _).drew;clear_value RH XZ;have acO:=Yb.heap Bl (fun h=>h);have Nc:=y8.tt Yb;have Eg:Kept (· =uz.heap.size) u3 RH:=k4.trans Nc (fun _ _ h=>h.elim);have hE3:∀j,bn E'=some j->j≠uz.heap.size:=fun j hj e=>by
     obtain⟨_,cur,h2⟩:=Row.bJ W6.bl hj;have:=aV h2;omega
    have W4:=Re.Im Eg (by omega) (by omega) (fun j hj e=>hE3 j hj e) (fun a ha e=>by have:=(hS.mA a ha).1;omega);have ZX:Kept (fun j=>j=q\/j=sm\/j=bb) y RH:=ky3.trans Eg (fun j hj e=>by omega);have NW:=abW.aF Nc (fun h=>h) (fun h=>h);obtain⟨Fa,UP,W7,CH⟩:=W4.note z (kn z+1);have ekz:i64.wrap ((kn z:Int)+(1:Int))=((kn z+1:Nat):Int):=by rw [dH (n:=(kn z:Int)) (by omega) (by omega)];omega
    have s3:=Eg.size;refine⟨_,Bf ZX M0,some sm,W4.f35,z.1,⟨z.2.1,Cells.bJ acO⟩,Fa,by rw [ekz];exact UP,?_⟩;refine⟨(),rfl,⟨_,adQ,_,NW.aF CH (by omega) (by omega),W7,fun y'=>?_,?_⟩,?_⟩
    ·obtain⟨i1,i2,i3⟩:=hinv y'
     refine⟨fun h=>i1 h.1,fun h1 h2=>?_,fun h=>?_⟩
     ·by_cases e:y'=z
      ·subst e;simp only [if_true]
      ·simp only [if_neg e]
       exact i2 h1 (fun h=>h2 ⟨h,e⟩)
     ·have e:y'≠z:=by
       rcases h with h|h
       ·exact fun e=>h (by rw [e];exact hzc)
       ·exact h.2
      simp only [if_neg e];exact i3 (h.imp_right fun h=>h.1)
    ·exact(ku.trans Eg (fun j hj e=>.inr e)).trans CH (fun j hj e=>.inl e)
    ·show Fa.rangeLeft iQ.heap.size uz.heap.size<u3.rangeLeft iQ.heap.size uz.heap.size
     rw [QC.left_eq,(NW.aF CH (by omega) (by omega)).left_eq];exact cU
 ·rw [aS,ak.jU]
  have:i=n:=by omega
  subst this;have e1:=DU k G s l;rw [VE]at e1;rw [e1]at hS hO;have hsq:v.heap[bs]? =some (.cells #[.pointer (some ⟨q,0,none⟩)] fz (0,0)):=kv.heap V.hs (by omega);exact⟨some ⟨q,0,none⟩,by rw [aD hsq];rfl,hK v ov E e ce hS hO kv⟩
end
def ET(N:Nat):Prop:=∀ {w:World} {F:Nat->Prop} {c k:Nat} {G:GS} {m:CM} {B:Nat} {A:Option Addr} {n cx:Nat} {l:List HT} {K:Value->World->Prop},CV w F c k G m->bM w B A n cx l->n<=N->l.Nodup->(∀x∈l,x∈ids G.D)->
 (∀j,bn A=some j->¬m.own c j/\¬F j)->(∀l' w',SO G l'->(∀x,x∈l'↔x∈l)->bM w' B A n cx l'->Kept (fun j=>bn A=some j) w w'->K (.tuple #[]) w')->
 bz prog ji.id #[.slice A n cx,.func (.func bE.id) #[.pointer (some ⟨c,0,none⟩)] #[]] w K
section
variable{y v w w':World}{F:Nat->Prop}{c k:Nat}{G:GS}{m:CM}{s:HT}{l ch:List HT}{bs bc bh q sm nL cL:Nat}{AL:Option Addr}{K:Value->World->Prop}
set_option maxHeartbeats 4000000 in
theorem Cg{N:Nat}(Be:ET N)(hN:(pZ G.D s l).length<=N)(C:CV y F c k G m)(hD:G.D.length<=5000)(rP:k<=1000)(hs:s∈ids G.D)(hc:cF G.D G.P s ch)(hl:∀x∈l,x∈ids G.D)
 (V:VB y c s bs bc bh q sm (fun _=>none)) (hS:zJ y y.heap.size q sm ⟨s,G.score s+1,[],[]⟩ (fun _=>none) none 0 0 none 0 0)
 (hL:HS y AL nL (dA (dG G.D l++l))) (hAL:∀a,AL=some a->a.block≠q)
 (iC:∀j,(m.own c j\/F j\/j=bs\/j=bc\/j=bh)->j≠q/\j≠sm)
 (hK:∀v B bb ov A n cp E e ce,nh v B q sm bb (cX k G s l) ov A n cp E e ce->OV G.D (dP k G s l).wd ov (nx m.sz ch)->(∀a,A=some a->y.heap.size<=a.block)->(y.heap.size<=B/\B<=v.heap.size)->Kept (fun j=>j=q\/j=sm) y v->K (.pointer (some ⟨q,0,none⟩)) v):
 Holds none [] prog 153 (.loop (lB (bB (sR (sL (aQ (sR (body ak.fn)))))))) (ak.q1 K)
  [(3,.pointer (some ⟨bc,0,none⟩)),(4,.pointer (some ⟨bh,0,none⟩)),(6,.pointer none),(8,.pointer (some ⟨bs,0,none⟩)),(46,.slice AL nL cL),(47,.int .i64 (nL:Int)),(48,.int .i64 0)] y:=by
 have W:=C.fk.W;have lbs:=aV V.hs;have lbc:=aV V.hc;have lbh:=aV V.hh;have YZ:=iC bs (.inr (.inr (.inl rfl)));have Y2:=iC bc (.inr (.inr (.inr (.inl rfl))));have Y0:=iC bh (.inr (.inr (.inr (.inr rfl))));have agq:=hL.len;have hLi:∀x∈dA (dG G.D l++l),x∈ids G.D:=fun x hx=>by
  rcases List.mem_append.1 (dt.1 hx)with h|h
  ·exact(jv.1 h).1
  ·exact hl x h
 have hLn:nL<=5000:=by
  have:=cZ (iL _).nodup hLi;rw [gF]at this;omega
 generalize hLL:dA (dG G.D l++l)=L at*;refine ak.cy (I:=fun s0 v=>∃i:Nat,s0=(i:Int)/\i<=nL/\(∃A n cp,zJ v y.heap.size q sm ⟨s,G.score s+1,(L.take i).filter fun h=>decide (h≠s/\¬eB G.D h s),[]⟩ (fun _=>none) A n cp none 0 0)/\Kept (· =q) y v) (μ:=fun s0 _=>((nL:Int)-s0).toNat) (s:=0) ⟨0,rfl,Nat.zero_le _,⟨none,0,0,hS⟩,Kept.refl _ _⟩ ?_;rintro s0 v ⟨i,rfl,hi,⟨A,n,cp,Mr⟩,kv⟩;have sv:=kv.size;have VF:=bM.len Mr.mg;have hnA:n<=5000:=by
  have h1:=List.length_filter_le (fun h=>decide (h≠s/\¬eB G.D h s)) (L.take i);have h2:=List.length_take_le i L;have h3:((L.take i).filter fun h=>decide (h≠s/\¬eB G.D h s)).length=n:=VF;omega
 refine Split.dec (fun jQ=>?_) (fun gE=>?_)
 ·have dY:i<nL:=by omega
  obtain⟨x,hx⟩:∃x,L[i]? =some x:=⟨_,List.getElem?_eq_getElem (by omega)⟩;have GD:L.take (i+1)=L.take i++ [x]:=by rw [List.take_add_one,hx];rfl
  have hLv:HS v AL nL L:=hL.aF kv hAL;refine hLv.load (i:=(i:Int)) (by omega) hx ?_;intro nn;obtain⟨tz,jT,kL⟩:=iu (w:=v) (z:=dz.1) (cs:=x.1) (t:=ag) (by rw [x.2.1];rfl);refine⟨⟨x.2.1,x.2.one,fun j hj=>tz j (by rw [x.2.1];exact hj)⟩,?_⟩;intro iQ nS
  replace jT:iQ.heap[v.heap.size]? =some (.cells x.1 ag (0,0)):=jT
  replace kL:Kept Nil v iQ:=kL
  have uh:Kept Nil iQ nS:=(Kept.refl _ _).drew;clear_value nS iQ;have Jp:=uh.heap jT (fun h=>h);have Ps:=kL.tt uh;have F6:Kept (· =q) y nS:=kv.trans Ps (fun _ _ h=>h.elim);have C15:CV nS F c k G m:=C.aF F6 (fun j hj e=>(iC j (.inl hj)).1 e) (fun j hj e=>(iC j (.inr (.inl hj))).1 e);have hcy:∀ {u:World},Kept (· =q) y u->u.cell? ⟨bc,0,none⟩=some (.pointer (some ⟨c,0,none⟩)):=fun ku=>by rw [aD (ku.heap V.hc Y2.1)];rfl
  have Uz:∀ {u:World},Kept (· =q) y u->u.cell? ⟨bs,0,none⟩=some (.pointer (some ⟨q,0,none⟩)):=fun ku=>by rw [aD (ku.heap V.hs YZ.1)];rfl
  have next:∀ {u:World} {A':Option Addr} {n' xt:Nat},zJ u y.heap.size q sm ⟨s,G.score s+1,(L.take (i+1)).filter fun h=>decide (h≠s/\¬eB G.D h s),[]⟩ (fun _=>none) A' n' xt none 0 0->Kept (· =q) y u->
   ∃s1:Int,i64.wrap ((i:Int)+(1:Int))=s1/\(∃i':Nat,s1=(i':Int)/\i'<=nL/\(∃A n cp,zJ u y.heap.size q sm ⟨s,G.score s+1,(L.take i').filter fun h=>decide (h≠s/\¬eB G.D h s),[]⟩ (fun _=>none) A n cp none 0 0)/\Kept (· =q) y u)/\((nL:Int)-s1).toNat<((nL:Int)-(i:Int)).toNat:=fun h1 h2=>by
   rw [dH (n:=(i:Int)) (by omega) (by omega)];exact⟨(i:Int)+1,rfl,⟨i+1,rfl,dY,⟨_,_,_,h1⟩,h2⟩,by omega⟩
  refine⟨x.1,⟨x.2.1,Cells.bJ Jp⟩,s.1,⟨s.2.1,Cells.bJ (F6.heap V.hh Y0.1)⟩,⟨x.2.ints,s.2.ints⟩,?_⟩;rw [dC];by_cases LG:x=s
  ·refine Split.no (by rw [decide_eq_true LG];rfl) ?_
   obtain⟨s1,e1,e2,e3⟩:=next (u:=nS) (by
    rw [GD,List.filter_append];have: [x].filter (fun h=>decide (h≠s/\¬eB G.D h s))= []:=by rw [List.filter_cons_of_neg (by simp [LG])];rfl
    rw [this,List.append_nil];exact Mr.same Ps) F6
   rw [e1];exact⟨s1,rfl,e2,e3⟩
  ·refine Split.yes (by rw [decide_eq_false LG];rfl) ⟨_,hcy F6,_,C15.c1,x.1,⟨x.2.1,Cells.bJ Jp⟩,s.1,⟨s.2.1,Cells.bJ (F6.heap V.hh Y0.1)⟩,?_⟩
   obtain⟨mx,X15,_⟩:=C15.X;refine mo X15 hD x s fun E0 r hr BV=>⟨r,rfl,?_⟩;have Lh:Kept (· =q) y E0:=F6.trans BV (fun _ _ h=>h.elim);have TN:=Ps.tt BV;cases r with
   |true=>
    refine Split.no rfl ?_;obtain⟨s1,e1,e2,e3⟩:=next (u:=E0) (by
     rw [GD,List.filter_append];have: [x].filter (fun h=>decide (h≠s/\¬eB G.D h s))= []:=by rw [List.filter_cons_of_neg (by simp [hr.1 rfl])];rfl
     rw [this,List.append_nil];exact Mr.same TN) Lh
    rw [e1];exact⟨s1,rfl,e2,e3⟩
   |false=>
    refine Split.yes rfl ?_;intro zM;have Iy:Kept Nil E0 zM:=(Kept.refl _ _).drew;clear_value zM;have Z4:=TN.tt Iy;have AP:Kept (· =q) y zM:=Lh.trans Iy (fun _ _ h=>h.elim);have Jv:=Mr.same Z4;refine⟨_,Uz AP,_,Uz AP,A,n,cp,Jv.f33,x.1,⟨x.2.1,Cells.bJ ((BV.tt Iy).heap Jp (fun h=>h))⟩,x.2.1,?_⟩;intro mB;have p9:Kept Nil zM mB:=(Kept.refl _ _).alloc _;have aax:HS mB (some ⟨zM.heap.size,0,none⟩) 1 [x]:=jq zM x;clear_value mB;have Ju:=Jv.same p9;have vT:Kept (· =q) y mB:=AP.trans p9 (fun _ _ h=>h.elim);have X1:=vT.size;obtain⟨A',xt,u,UG,ku,Jt,k5,hw5⟩:=Ju.Tk X1 (by omega) aax;have ZW:Kept (· =q) y u:=vT.trans ku (fun j hj e=>by omega);refine⟨Ju.f33,Uz vT,Uz vT,A',n+1,xt,u,UG,Uz ZW,hw5,?_⟩;intro wT
    replace Jt:zJ wT y.heap.size q sm _ (fun _=>none) A' (n+1) xt none 0 0:=Jt
    replace k5:Kept (fun j=>j=q\/y.heap.size<=j) mB wT:=k5
    clear_value wT;obtain⟨s1,e1,e2,e3⟩:=next (u:=wT) (by
     rw [GD,List.filter_append];have: [x].filter (fun h=>decide (h≠s/\¬eB G.D h s))= [x]:=by rw [List.filter_cons_of_pos (by simp only [decide_eq_true_eq];exact⟨LG,fun e=>by have:=hr.2 e;cases this⟩)];rfl
     rw [this];exact Jt) (vT.trans k5 (fun j hj e=>by
      rcases e with e|e
      ·exact e
      ·omega))
    rw [e1];exact⟨s1,rfl,e2,e3⟩
 ·rw [aS,ak.dq]
  have fQ:i=nL:=by omega
  subst fQ;rw [List.take_of_length_le (by omega)]at Mr;unfold ak.cV;intro sM;have CF:Kept Nil v sM:=(Kept.refl _ _).drew;clear_value sM;have Dg:=Mr.same CF;have AO:Kept (· =q) y sM:=kv.trans CF (fun _ _ h=>h.elim);have C33:CV sM F c k G m:=C.aF AO (fun j hj e=>(iC j (.inl hj)).1 e) (fun j hj e=>(iC j (.inr (.inl hj))).1 e);have efl:(L.filter fun h=>decide (h≠s/\¬eB G.D h s))=pZ G.D s l:=by unfold pZ;rw [hLL]
  have CT:bM sM y.heap.size A n cp (pZ G.D s l):=by rw [<-efl];exact Dg.mg
  have Rk:∀j,bn A=some j->y.heap.size<=j/\j<sM.heap.size:=fun j hj=>by obtain⟨g1,cur,g2⟩:=Row.bJ CT hj;exact⟨g1,aV g2⟩
  refine⟨some ⟨q,0,none⟩,by rw [aD (AO.heap V.hs YZ.1)];rfl,A,n,cp,Dg.f33,some ⟨c,0,none⟩,by rw [aD (AO.heap V.hc Y2.1)];rfl,?_⟩;refine Be C33 CT (by have:=bM.len CT;omega) (ry _ _ _) (fun x hx=>hLi x (by rw [<-efl]at hx;exact(List.mem_filter.1 hx).1)) (fun j hj=>⟨fun e=>by have:=C.low j (.inl e);have:=(Rk j hj).1;omega,fun e=>by have:=C.low j (.inr e);have:=(Rk j hj).1;omega⟩) fun l' oB CQ iY I3 BU=>⟨rfl,?_⟩;have el:l'=cG G s l:=nW CQ iY;subst el;have qB:=Mr.qB;have sB:=Mr.sB;have hqs:=Mr.qs;have s33:=AO.size;have TE:Kept (· =q) y oB:=AO.trans BU (fun j hj e=>by have:=(Rk j e).1;omega);have Qb:=BU.heap Dg.top (fun e=>by have:=(Rk q e).1;omega);have U0:=Dg.ov.aF BU (fun e=>by have:=(Rk sm e).1;omega);intro kr uz;have oC:Kept Nil oB kr:=(Kept.refl _ _).alloc _;have WL:kr.heap[oB.heap.size]? =some (.cells #[.slice none 0 0] ay (0,0)):=aI oB _;have uC:Kept Nil kr uz:=(Kept.refl _ _).alloc _;have QB:uz.heap[kr.heap.size]? =some (.cells #[.nilFunc] fF (0,0)):=aI kr _;refine⟨dS QB (by simp),?_⟩;intro xH;have VP:xH.heap[kr.heap.size]? =some (.cells #[.func (.func b0.id) #[] #[.pointer (some ⟨bs,0,none⟩),.pointer (some ⟨bc,0,none⟩),.pointer (some ⟨bh,0,none⟩)]] fF (0,0)):=by
   show(uz.setCell ⟨kr.heap.size,0,none⟩ _).heap[kr.heap.size]? =_;rw [di QB 0];rfl
  have Gd:Kept (· =kr.heap.size) uz xH:=Kept.setCell (S:=(· =kr.heap.size)) (Kept.refl _ uz) (p:=⟨kr.heap.size,0,none⟩) (fun _=>rfl) _;clear_value xH;have x8:=oC.tt uC;have ZD:=oC.size;have s36:=uC.size;have l35:=aV WL;have l36:=aV QB;have Ei:Kept Nil oB xH:=⟨Gd.os.trans x8.os,Gd.tape.trans x8.tape,Gd.output.trans x8.output,Nat.le_trans x8.size Gd.size,fun j hj hn=>by rw [Gd.block j (Nat.lt_of_lt_of_le hj x8.size) (by omega),x8.block j hj hn]⟩;have acV:=Gd.heap (uC.heap WL (fun h=>h)) (by omega);have l37:=aV VP;clear_value uz kr;have F0:Kept (· =q) y xH:=TE.trans Ei (fun _ _ h=>h.elim);have s34:=TE.size;have s37:=F0.size;have C37:CV xH F c k G m:=C.aF F0 (fun j hj e=>(iC j (.inl hj)).1 e) (fun j hj e=>(iC j (.inr (.inl hj))).1 e);have IT:=Ei.heap Qb (fun h=>h);have NK:=U0.aF Ei (fun h=>h);have Qh:bM xH y.heap.size A n cp (cG G s l):=Row.aF I3 Ei (fun _ _ h=>h);have V37:VB xH c s bs bc bh q sm (fun _=>none):=⟨F0.heap V.hs YZ.1,F0.heap V.hc Y2.1,F0.heap V.hh Y0.1,by rw [bt,aD IT];exact(gD ..).2.2.2,NK⟩;have YQ:∀a,A=some a->y.heap.size<=a.block/\a.block<oB.heap.size:=fun a ha=>by
   subst ha;obtain⟨g1,cur,g2⟩:=Row.bJ I3 (k:=a.block) rfl;exact⟨g1,aV g2⟩
  have W5:nh xH xH.heap.size q sm oB.heap.size ⟨s,G.score s+1,cG G s l,[]⟩ (fun _=>none) A n cp none 0 0:=
   ⟨IT,Qh.hs,fun a ha=>by have:=YQ a ha;exact⟨by omega,by omega,by omega,by omega⟩,Row.nil _ _ _ _,NK,by omega,by omega,by omega,⟨hqs,by omega,by omega⟩⟩
  refine⟨some ⟨q,0,none⟩,by rw [aD V37.hs];rfl,A,n,cp,W5.f33,?_⟩;have Uu:(la k G s l 0)=⟨G.world s++ [s],[]⟩:=rfl;refine Cf (l:=l) C37 hD rP hs hc (fun x hx=>hLi x (by
   have h1:=(iY x).1 hx;rw [<-efl]at h1;exact(List.mem_filter.1 h1).1)) V37 VP (fun j hj=>?_) ⟨⟨fun _=>none,none,0,0,none,0,0,[],W5,acV,bM.nil _ _,by rw [Uu,List.append_nil],fun j hj=>by simp [bn]at hj,by rw [Uu];exact C.Z |>.ov hs hc,?_,fun z hz=>by simp at hz,rfl⟩,Kept.refl _ _⟩ hnA fun v' ov E e ce h1 h2 h3=>?_
  ·have h1:j<y.heap.size\/j=kr.heap.size:=by
    rcases hj with h|h|h|h|h|h
    ·exact .inl (C.low j (.inl h))
    ·exact .inl (C.low j (.inr h))
    ·exact .inl (by omega)
    ·exact .inl (by omega)
    ·exact .inl (by omega)
    ·exact .inr h
   rcases h1 with h1|h1
   ·have h2:j≠q/\j≠sm:=by
     rcases hj with h|h|h|h|h|h
     ·exact iC j (.inl h)
     ·exact iC j (.inr (.inl h))
     ·exact iC j (.inr (.inr (.inl h)))
     ·exact iC j (.inr (.inr (.inr (.inl h))))
     ·exact iC j (.inr (.inr (.inr (.inr h))))
     ·omega
    exact⟨h2.1,h2.2,by omega⟩
   ·exact⟨by omega,by omega,by omega⟩
  ·rw [Uu]
   obtain⟨g1,g2,_⟩:=C.fk.wd s hs;exact List.nodup_append.2 ⟨g1,by simp,fun a ha b hb e=>by
    have:b=s:=by simpa using hb
    subst this;subst e;exact eB.irrefl W a (g2 a ha)⟩
  ·refine hK v' xH.heap.size oB.heap.size ov A n cp E e ce h1 h2 (fun a ha=>(YQ a ha).1) ⟨s37,h3.size⟩ ?_
   exact(F0.mono fun _ _ h=>.inl h).trans h3 (fun j hj e=>by
    rcases e with e|e|e
    ·exact .inl e
    ·exact .inr e
    ·omega)
end
theorem Ru:Ss prog br=some ([(0,32),(32,1),(33,1),(34,1)],List.replicate 32 (.int .u8 0)++ [.int .u64 0,.slice none 0 0,.slice none 0 0]):=by kernel_rfl
theorem wH(h:HT)(z:Int):prog.built br [(0,.agg h.1),(1,.int .u64 z)]=some (h.1++ #[.int .u64 z,.slice none 0 0,.slice none 0 0]):=by
 have hs:=h.2.1;rw [ou Ru,jf (off:=0) (size:=32) rfl (by simpa [Value.cells]using hs) (by simp),jf (off:=32) (size:=1) rfl rfl (by
  rw [List.size_toArray,mH (by simp [Value.cells,hs])];simp)]
 simp only [Instr.fill,Option.some.injEq];apply Array.ext';unfold ig;simp [Value.cells,hs];rw [List.drop_append];simp [hs]
theorem MJ:Ss prog eA=some ([(0,35),(35,1)],List.replicate 32 (.int .u8 0)++ [.int .u64 0,.slice none 0 0,.slice none 0 0,.map none]):=by kernel_rfl
theorem yr(c:oE)(sm:Option Nat):prog.built eA [(0,.agg (cQ c none 0 0 none 0 0)),(1,.map sm)]=some (cQ c none 0 0 none 0 0++ #[.map sm]):=by
 have hs:=a8 c none 0 0 none 0 0;rw [ou MJ,jf (off:=0) (size:=35) rfl (by simpa [Value.cells]using hs) (by simp),jf (off:=35) (size:=1) rfl rfl (by
  rw [List.size_toArray,mH (by simp [Value.cells,hs])];simp)]
 simp only [Instr.fill,Option.some.injEq];apply Array.ext';unfold ig;simp [Value.cells,hs]
section
variable{g1 v w w':World}{F:Nat->Prop}{c k:Nat}{G:GS}{m:CM}{s:HT}{l ch:List HT}{bs bc bh q sm n cx:Nat}{A:Option Addr}{K:Value->World->Prop}
theorem KQ{N:Nat}(Be:ET N)(hN:(pZ G.D s l).length<=N)(C:CV g1 F c k G m)(hT:uK g1)(hD:G.D.length<=5000)(rP:k<=1000)(hs:s∈ids G.D)(hc:cF G.D G.P s ch)(hl:∀x∈l,x∈ids G.D)(He:HS g1 A n l)(hn:n<=5000)
 (V:VB g1 c s bs bc bh q sm (fun _=>none)) (jx:g1.heap[q]? =some (.cells (cQ ⟨s,G.score s+1,[],[]⟩ none 0 0 none 0 0++ #[.map (some sm)]) eA (0,0)))
 (iC:∀j,(m.own c j\/F j\/j=bs\/j=bc\/j=bh)->j≠q/\j≠sm) (hqs:q≠sm) {p:Nat} (hp:∃mx,XV g1 m.FX m.x G.D G.P mx/\mx.g=p)
 (hK:∀v B bb ov A n cp E e ce,nh v B q sm bb (cX k G s l) ov A n cp E e ce->OV G.D (dP k G s l).wd ov (nx m.sz ch)->(∀a,A=some a->g1.heap.size<=a.block)->(g1.heap.size<=B/\B<=v.heap.size)->Kept (fun j=>j=q\/j=sm) g1 v->K (.pointer (some ⟨q,0,none⟩)) v):
 bz prog aU.id #[.pointer (some ⟨p,0,none⟩),.slice A n cx] g1 fun i1 j1=>∃k1:Option Addr,∃m1 n1:Nat,i1=.slice k1 m1 n1/\
  ∃(o1:Option Addr) (p1 q1:Nat) (r1:World),(Builtin.append_ #[ay,ay] ay #[.slice k1 m1 n1,.slice A n cx]).run prog j1=.ok (.slice o1 p1 q1) r1/\
  bz prog jA.id #[.slice o1 p1 q1] r1 fun t1 u1=>∃v1:Option Addr,∃x1 y1:Nat,t1=.slice v1 x1 y1/\
  Holds none [] prog 153 (.loop (lB (bB (sR (sL (aQ (sR (body ak.fn)))))))) (ak.q1 K)
   [(3,.pointer (some ⟨bc,0,none⟩)),(4,.pointer (some ⟨bh,0,none⟩)),(6,.pointer none),(8,.pointer (some ⟨bs,0,none⟩)),(46,.slice v1 x1 y1),(47,.int .i64 (x1:Int)),(48,.int .i64 0)] u1:=by
 have W:=C.fk.W;obtain⟨mx,X,rfl⟩:=hp;obtain⟨bl,c',mb,M,GG⟩:=X.G;have lq:=aV jx;have lsm:=V.ov.lt;refine wB GG W (by omega) hT He (by omega) fun A1 c1 w1 lM k1=>⟨A1,_,c1,rfl,?_⟩;have rO:(dG G.D l).length<=5000:=Nat.le_trans (mL _ _) hD;have s1:=k1.size;obtain⟨A2,c2,w2,jP,gm,g2,Oq⟩:=cK ay lM (cx:=cx) (He.same k1) (by omega) s1;have k2:Kept (fun j=>g1.heap.size<=j) w1 w2:=(Kept.refl _ _).grown g2 fun j hj _=>(Row.bJ lM hj).1;have jS:Kept Nil g1 w2:=k1.trans k2 (fun j hj e=>by omega);refine⟨A2,_,c2,w2,jP,?_⟩;refine jg gm.hs (by omega) fun A3 c3 w3 mn k3=>⟨A3,_,c3,rfl,?_⟩;have lD:=jS.tt k3;have s02:=jS.size;have ZE:=lD.size;have V3:=V.same lD;refine Cg (l:=l) Be hN (C.same lD) hD rP hs hc hl V3 ⟨lD.heap jx (fun h=>h),bM.nil _ _,Row.nil _ _ _ _,V3.ov,by omega,by omega,hqs,fun j hj=>by simp [bn]at hj⟩ mn.hs (fun a ha=>?_) iC fun v B bb ov A n cp E e ce h1 h2 h3 h4 h5=>?_
 ·subst ha
  have:=(Row.bJ mn (k:=a.block) rfl).1;omega
 ·exact hK v B bb ov A n cp E e ce h1 h2 (fun a ha=>Nat.le_trans ZE (h3 a ha)) ⟨Nat.le_trans ZE h4.1,h4.2⟩ ((lD.mono fun _ _ h=>h.elim).tt h5)
end
section
variable{w w':World}{F:Nat->Prop}{c k:Nat}{G:GS}{m:CM}{s:HT}{l ch:List HT}{n cx:Nat}{A:Option Addr}{K:Value->World->Prop}
set_option maxHeartbeats 4000000 in
theorem Dh{N:Nat}(Be:ET N)(hN:(pZ G.D s l).length<=N)(C:CV w F c k G m)(hT:uK w)(hD:G.D.length<=5000)(rP:k<=1000)(hs:s∈ids G.D)(hc:cF G.D G.P s ch)(hl:∀x∈l,x∈ids G.D)(He:HS w A n l)(hn:n<=5000)
 (hK:∀v q B sm bb ov A n cp E e ce,nh v B q sm bb (cX k G s l) ov A n cp E e ce->OV G.D (dP k G s l).wd ov (nx m.sz ch)->w.heap.size<=q->w.heap.size<=sm->(∀a,A=some a->w.heap.size<=a.block)->(w.heap.size<=B/\B<=v.heap.size)->Kept Nil w v->K (.pointer (some ⟨q,0,none⟩)) v):
 bz prog ak.id #[.pointer (some ⟨c,0,none⟩),.agg s.1,.slice A n cx] w K:=by
 refine ak.of ?_;unfold ak.W;intro w1 w2;have k1:Kept Nil w w1:=(Kept.refl _ _).alloc _;have Wu:w1.heap[w.heap.size]? =some (.cells #[.pointer (some ⟨c,0,none⟩)] eU (0,0)):=aI w _;have k2:Kept Nil w1 w2:=(Kept.refl _ _).alloc _;have yX:w2.heap[w1.heap.size]? =some (.cells s.1 ag (0,0)):=aI w1 _;clear_value w2;have KC:=k2.heap Wu (fun h=>h);have jS:=k1.tt k2;have s1:=k1.size;have l1:=aV Wu;have l2:=aV yX;clear_value w1;have C2:=C.same jS;obtain⟨mx2,X2,_⟩:=C2.X;refine⟨some ⟨c,0,none⟩,by rw [aD KC];rfl,_,C2.c1,gq.of (Split.no rfl (Is.mk rfl ⟨_,X2.c0,⟨_,rfl,?_⟩⟩))⟩;intro w3;have k3:Kept Nil w2 w3:=(Kept.refl _ _).drew;clear_value w3;have lD:=jS.tt k3;have QZ:=k3.heap KC (fun h=>h);have CR:=k3.heap yX (fun h=>h);have C3:=C.same lD;obtain⟨A1,n1,c1,B1,m1,d1,s1',sa⟩:=C3.seen s hs;have Qe:G.score s<=5000:=by
  have h1:=(C.fk.wd s hs).2.2;have h2:=cZ (m:=ids G.D) (C.fk.wd s hs).1 (fun b hb=>(((C.fk.wd s hs).2.1 b hb).mem C.fk.W).1);rw [gF]at h2;omega
 have ew:u64.wrap (((G.fM s).score:Int)+(1:Int))=((G.score s+1:Nat):Int):=by
  show u64.wrap ((G.score s:Int)+(1:Int))=_
  rw [show(G.score s:Int)+1=((G.score s+1:Nat):Int)by omega];exact kc (by omega)
 have nv:∀ {u:World},Kept Nil w3 u->u.cell? ⟨w.heap.size,0,none⟩=some (.pointer (some ⟨c,0,none⟩)):=fun ku=>by rw [aD (ku.heap QZ (fun h=>h))];rfl
 have uT:∀ {u:World},Kept Nil w3 u->∃cs:Array Value,(.agg s.1:Value)=.agg cs/\cs.size=32/\Cells u ⟨w1.heap.size,0,none⟩ cs:=fun ku=>⟨s.1,rfl,s.2.1,Cells.bJ (ku.heap CR (fun h=>h))⟩;have mu:∀ {u:World},Kept Nil w3 u->u.cell? (((⟨m.q s,0,none⟩:Addr).add 0).add 32)=some (.int .u64 ((G.fM s).score:Int)):=fun ku=>(sa.aF ku (fun _ _ h=>h)).Xy;have l3:=aV CR;have s3:=k3.size;refine⟨s.1,⟨s.2.1,Cells.bJ CR⟩,some ⟨c,0,none⟩,nv (Kept.refl _ _),_,C3.c2,s.1,⟨s.2.1,Cells.bJ CR⟩,_,C3.oW hs,_,mu (Kept.refl _ _),?_⟩;rw [ew];rw [wH s];refine Is.mk rfl ?_;have BC:(s.1++ #[.int .u64 ((G.score s+1:Nat):Int),.slice none 0 0,.slice none 0 0]:Array Value)=cQ ⟨s,G.score s+1,[],[]⟩ none 0 0 none 0 0:=rfl;rw [BC];have go:∀ {u:World} {q sm bs:Nat},Kept Nil w3 u->w3.heap.size<=q->w3.heap.size<=sm->w3.heap.size<=bs->q≠sm->bs≠q->bs≠sm->
  u.heap[q]? =some (.cells (cQ ⟨s,G.score s+1,[],[]⟩ none 0 0 none 0 0++ #[.map (some sm)]) eA (0,0))->fV u sm (fun _=>none)->u.heap[bs]? =some (.cells #[.pointer (some ⟨q,0,none⟩)] fz (0,0))->_:=
  fun {u q sm bs} ku hq vY YH h1 h2 h3 jx Qv jq=>KQ (g1:=u) (bs:=bs) (bc:=w.heap.size) (bh:=w1.heap.size) (q:=q) (sm:=sm) (cx:=cx) (K:=K) (p:=mx2.g) Be hN (C3.same ku) (hT.same (lD.tt ku)) hD rP hs hc hl (He.same (lD.tt ku)) hn
   ⟨jq,ku.heap QZ (fun h=>h),ku.heap CR (fun h=>h),by rw [bt,aD jx];exact(gD ..).2.2.2,Qv⟩ jx
   (fun j hj=>by
     rcases hj with h|h|h|h|h
     ·have:=C.low j (.inl h);exact⟨by omega,by omega⟩
     ·have:=C.low j (.inr h);exact⟨by omega,by omega⟩
     ·exact⟨by omega,by omega⟩
     ·exact⟨by omega,by omega⟩
     ·exact⟨by omega,by omega⟩) h1 ⟨mx2,X2.same (k3.tt ku),rfl⟩
   (fun v B bb ov A n cp E e ce t1 t2 t3 t4 t5=>hK v q B sm bb ov A n cp E e ce t1 t2 (by omega) (by omega) (fun a ha=>by have:=t3 a ha;have:=(lD.tt ku).size;omega) ⟨by have:=(lD.tt ku).size;have:=t4.1;omega,t4.2⟩ ((lD.tt ku).trans t5 (fun j hj e=>by omega)))
 have O4:∀ {u0:World} {b q:Nat},u0.heap[b]? =some (.cells #[.pointer none] fz (0,0))->Wr u0 ⟨b,0,none⟩/\∀u1,u1=u0.setCell ⟨b,0,none⟩ (.pointer (some ⟨q,0,none⟩))->u1.heap[b]? =some (.cells #[.pointer (some ⟨q,0,none⟩)] fz (0,0))/\Kept (· =b) u0 u1:=fun {u0 b q} hb=>⟨dS hb (by simp),fun u1 e=>by
  subst e;refine⟨?_,Kept.setCell (S:=(· =b)) (Kept.refl _ u0) (p:=⟨b,0,none⟩) (fun _=>rfl) _⟩;rw [di hb 0];rfl⟩
 refine⟨?_,?_⟩
 ·intro w4
  have k4:Kept Nil w3 w4:=(Kept.refl _ _).alloc _;have hm4:fV w4 w3.heap.size (fun _=>none):=fV.new w3;clear_value w4;have l4:=hm4.lt;refine⟨mu k4,(C3.same k4).oW hs,uT k4,(C3.same k4).c2,nv k4,uT k4,?_⟩;rw [yr];refine Is.mk rfl ⟨?_,?_⟩
  ·intro w5 w6
   have k5:Kept Nil w4 w5:=(Kept.refl _ _).alloc _;have Yu:w5.heap[w4.heap.size]? =some (.cells (cQ ⟨s,G.score s+1,[],[]⟩ none 0 0 none 0 0++ #[.map (some w3.heap.size)]) eA (0,0)):=aI w4 _;have k6:Kept Nil w5 w6:=(Kept.refl _ _).alloc _;have qR:w6.heap[w5.heap.size]? =some (.cells #[.pointer none] fz (0,0)):=aI w5 _;clear_value w6;have UR:=k6.heap Yu (fun h=>h);have l5:=aV Yu;clear_value w5;have uB:=k5.tt k6;have uC:=k4.tt uB;have s36:=uC.size;obtain⟨t1,t2⟩:=O4 (q:=w4.heap.size) qR;refine⟨t1,?_⟩;intro w7;obtain⟨t3,t4⟩:=t2 w7 rfl;clear_value w7;exact go (uC.trans t4 (fun j hj e=>by omega)) (by omega) (by omega) (by omega) (by omega) (by omega) (by omega) (t4.heap UR (by omega)) ((hm4.same uB).aF t4 (by omega)) t3
  ·intro w5
   have k5:Kept Nil w4 w5:=(Kept.refl _ _).alloc _;have oD:w5.heap[w4.heap.size]? =some (.cells #[.pointer none] fz (0,0)):=aI w4 _;clear_value w5;have l5:=aV oD;have oC:=k4.tt k5;refine⟨mu oC,(C3.same oC).oW hs,uT oC,(C3.same oC).c2,nv oC,uT oC,?_⟩;intro w6;have k6:Kept Nil w5 w6:=(Kept.refl _ _).alloc _;have UR:w6.heap[w5.heap.size]? =some (.cells (cQ ⟨s,G.score s+1,[],[]⟩ none 0 0 none 0 0++ #[.map (some w3.heap.size)]) eA (0,0)):=aI w5 _;clear_value w6;have uB:=k5.tt k6;have uC:=k4.tt uB;have ZD:=oC.size;obtain⟨t1,t2⟩:=O4 (q:=w5.heap.size) (k6.heap oD (fun h=>h));refine⟨t1,?_⟩;intro w7;obtain⟨t3,t4⟩:=t2 w7 rfl;clear_value w7;exact go (uC.trans t4 (fun j hj e=>by omega)) (by omega) (by omega) (by omega) (by omega) (by omega) (by omega) (t4.heap UR (by omega)) ((hm4.same uB).aF t4 (by omega)) t3
 ·intro w4
  have k4:Kept Nil w3 w4:=(Kept.refl _ _).alloc _;have pg:w4.heap[w3.heap.size]? =some (.cells #[.pointer none] fz (0,0)):=aI w3 _;clear_value w4;have l4:=aV pg;refine⟨mu k4,(C3.same k4).oW hs,uT k4,(C3.same k4).c2,nv k4,uT k4,?_⟩;intro w5;have k5:Kept Nil w4 w5:=(Kept.refl _ _).alloc _;have hm5:fV w5 w4.heap.size (fun _=>none):=fV.new w4;clear_value w5;have l5:=hm5.lt;have oC:=k4.tt k5;refine⟨mu oC,(C3.same oC).oW hs,uT oC,(C3.same oC).c2,nv oC,uT oC,?_⟩;rw [yr];refine Is.mk rfl ?_;intro w6;have k6:Kept Nil w5 w6:=(Kept.refl _ _).alloc _;have UR:w6.heap[w5.heap.size]? =some (.cells (cQ ⟨s,G.score s+1,[],[]⟩ none 0 0 none 0 0++ #[.map (some w4.heap.size)]) eA (0,0)):=aI w5 _;clear_value w6;have uC:=oC.tt k6;have ZD:=oC.size;obtain⟨t1,t2⟩:=O4 (q:=w5.heap.size) ((k5.tt k6).heap pg (fun h=>h));refine⟨t1,?_⟩;intro w7;obtain⟨t3,t4⟩:=t2 w7 rfl;clear_value w7;exact go (uC.trans t4 (fun j hj e=>by omega)) (by omega) (by omega) (by omega) (by omega) (by omega) (by omega) (t4.heap UR (by omega)) ((hm5.same k6).aF t4 (by omega)) t3
end
end Go.Proofs.YtfleamccglihoaaGreatDoor
