import Derived.Test.YtfleamccglihoaaGreatDoorMP
import Derived.Test.YtfleamccglihoaaGreatDoorMG
open Go.IntKind (i64 u64)
set_option linter.unusedVariables false
namespace Go.Proofs.YtfleamccglihoaaGreatDoor
open Go.Proofs.Tryz
open Go Go.b0 Go.RowKit
theorem Ci:zF prog iy jv 1 1:=⟨by kernel_rfl,by kernel_rfl⟩
abbrev tH(l:List Bool):List Value:=l.map .bool
structure zG(w:World)(B q sm:Nat)(c:pB)(ov:HT->Option Nat)(A:Option Addr)(n cp:Nat)(E:Option Addr)(e ce:Nat):Prop where
 top:w.heap[q]? =some (.cells (dp c A n cp E e ce++ #[.map (some sm)]) eK (0,0))
 mg:cf w B A n cp c.merge
 bl:Row w B jv 1 E e ce (tH c.gu)
 ov:gh w sm (KM ov)
 qB:q<B
 sB:sm<B
 qs:q≠sm
 AE:∀j,bI A=some j->bI E≠some j
section
variable{w w':World}{B q sm:Nat}{c:pB}{ov:HT->Option Nat}{A E:Option Addr}{n cp e ce:Nat}{K:Value->World->Prop}
theorem zG.aK{S:Nat->Prop}(h:zG w B q sm c ov A n cp E e ce)(hk:Kept S w w')(h1:¬S q)(h2:¬S sm)(h3:∀j,B<=j->¬S j):zG w' B q sm c ov A n cp E e ce:=
 ⟨hk.heap h.top h1,Row.aK h.mg hk (fun j hj=>h3 j (Row.bV h.mg hj).1),Row.aK h.bl hk (fun j hj=>h3 j (Row.bV h.bl hj).1),h.ov.aK hk h2,h.qB,h.sB,h.qs,h.AE⟩
theorem zG.same(h:zG w B q sm c ov A n cp E e ce)(hk:Kept Nil w w'):zG w' B q sm c ov A n cp E e ce:=h.aK hk (fun h=>h) (fun h=>h) (fun _ _ h=>h)
theorem zG.f33(h:zG w B q sm c ov A n cp E e ce):w.cell? (((⟨q,0,none⟩:Addr).add 0).add 33)=some (.slice A n cp):=by rw [add_zero,bE,aE h.top];exact(gU ..).2.1
theorem zG.adT(h:zG w B q sm c ov A n cp E e ce):∀j,bI A=some j\/bI E=some j->B<=j/\j<w.heap.size:=fun j hj=>by
 rcases hj with hj|hj
 ·obtain⟨h1,cur,h2⟩:=Row.bV h.mg hj;exact⟨h1,bf h2⟩
 ·obtain⟨h1,cur,h2⟩:=Row.bV h.bl hj;exact⟨h1,bf h2⟩
theorem rG(c:pB)(A:Option Addr)(n cp:Nat)(E:Option Addr)(e ce:Nat)(r:Array Value)(A':Option Addr)(n' xn:Nat):
 (dp c A n cp E e ce++r).setIfInBounds (0+33) (.slice A' n' xn)=dp c A' n' xn E e ce++r:=by
 have h0:c.nz.1.size=32:=c.nz.2.1;apply Array.ext';unfold dp;simp only [Array.toList_setIfInBounds,Array.toList_append,List.append_assoc];rw [List.set_append_right _ _ (by simp [h0])];simp [h0]
theorem rF(c:pB)(A:Option Addr)(n cp:Nat)(E:Option Addr)(e ce:Nat)(r:Array Value)(E':Option Addr)(n' xn:Nat):
 (dp c A n cp E e ce++r).setIfInBounds (0+34) (.slice E' n' xn)=dp c A n cp E' n' xn++r:=by
 have h0:c.nz.1.size=32:=c.nz.2.1;apply Array.ext';unfold dp;simp only [Array.toList_setIfInBounds,Array.toList_append,List.append_assoc];rw [List.set_append_right _ _ (by simp [h0])];simp [h0]
theorem wx(c:pB)(A:Option Addr)(n cp:Nat)(E:Option Addr)(e ce:Nat)(r:Array Value)(s:Nat):
 (dp c A n cp E e ce++r).setIfInBounds (0+32) (.int .u64 (s:Int))=dp {c with score:=s} A n cp E e ce++r:=by
 have h0:c.nz.1.size=32:=c.nz.2.1;apply Array.ext';unfold dp;simp only [Array.toList_setIfInBounds,Array.toList_append,List.append_assoc];rw [List.set_append_right _ _ (by simp [h0])];simp [h0]
theorem zG.SP(h:zG w B q sm c ov A n cp E e ce)(hB:B<=w.heap.size)(hn:n<=100000){x:HT}{b:Nat}(hb:HS w (some ⟨b,0,none⟩) 1 [x]):
 ∃A' xn u,(Builtin.append_ #[aF,aF] aF #[.slice A n cp,.slice (some ⟨b,0,none⟩) 1 1]).run prog w=.ok (.slice A' (n+1) xn) u/\
  Kept (fun j=>B<=j) w u/\zG (u.setCell (((⟨q,0,none⟩:Addr).add 0).add 33) (.slice A' (n+1) xn)) B q sm {c with merge:=c.merge++ [x]} ov A' (n+1) xn E e ce/\
  Kept (fun j=>j=q\/B<=j) w (u.setCell (((⟨q,0,none⟩:Addr).add 0).add 33) (.slice A' (n+1) xn))/\Wr u (((⟨q,0,none⟩:Addr).add 0).add 33):=by
 obtain⟨A',xn,u,hr,fP,hg,hA⟩:=dd aF h.mg (cx:=1) hb (by omega) hB;have ku:Kept (fun j=>B<=j) w u:=(Kept.refl _ _).grown hg fun j hj _=>(Row.bV h.mg hj).1;have kA:Kept (fun j=>bI A=some j) w u:=(Kept.refl _ _).grown hg fun j hj _=>hj;have qB:=h.qB;have sB:=h.sB;have jK:=ku.heap h.top (by omega);have C9:Row u B jv 1 E e ce (tH c.gu):=Row.aK h.bl kA (fun j hj e=>h.AE j e hj);have qM:Kept (· =q) u (u.setCell (((⟨q,0,none⟩:Addr).add 0).add 33) (.slice A' (n+1) xn)):=by
  rw [add_zero,bE];exact Kept.setCell (S:=(· =q)) (Kept.refl _ u) (p:=⟨q,0+33,none⟩) (fun _=>rfl) _
 have iX:∀ {X:Option Addr} {j:Nat},(∀k,bI X=some k->B<=k)->bI X=some j->¬j=q:=fun h hj e=>by have:=h _ hj;omega
 refine⟨A',xn,u,hr,ku,⟨?_,?_,?_,?_,qB,sB,h.qs,?_⟩,?_,?_⟩
 ·show(u.setCell (((⟨q,0,none⟩:Addr).add 0).add 33) (.slice A' (n+1) xn)).heap[q]? =_
  rw [add_zero,bE,du jK,rG];rfl
 ·exact Row.aK fP qM (fun j hj=>iX (fun k hk=>(Row.bV fP hk).1) hj)
 ·exact Row.aK C9 qM (fun j hj=>iX (fun k hk=>(Row.bV C9 hk).1) hj)
 ·exact(h.ov.aK ku (by omega)).aK qM (fun e=>h.qs e.symm)
 ·intro j hj he
  rcases hA j hj with h1|h1
  ·exact h.AE j h1 he
  ·have:=(h.adT j (.inr he)).2;omega
 ·exact(ku.mono fun _ _ h=>.inr h).trans qM (fun _ _ e=>.inl e)
 ·rw [add_zero,bE]
  exact dQ jK (by rw [Array.size_append,bJ];simp)
end
structure mZ(w:World)(B q sm bb:Nat)(c:pB)(ov:HT->Option Nat)(A:Option Addr)(n cp:Nat)(E:Option Addr)(e ce:Nat):Prop where
 top:w.heap[q]? =some (.cells (dp c A n cp E e ce++ #[.map (some sm)]) eK (0,0))
 mg:HS w A n c.merge
 mA:∀a,A=some a->a.block<B/\a.block≠q/\a.block≠sm/\a.block≠bb
 bl:Row w B jv 1 E e ce (tH c.gu)
 ov:gh w sm (KM ov)
 qB:q<B
 sB:sm<B
 bB:bb<B
 qs:q≠sm/\q≠bb/\sm≠bb
section
variable{w w':World}{B q sm bb:Nat}{c:pB}{ov:HT->Option Nat}{A E:Option Addr}{n cp e ce:Nat}{K:Value->World->Prop}
theorem mZ.aK{S:Nat->Prop}(h:mZ w B q sm bb c ov A n cp E e ce)(hk:Kept S w w')(h1:¬S q)(h2:¬S sm)(h3:∀j,B<=j->j<w.heap.size->¬S j)(h4:∀a,A=some a->¬S a.block):mZ w' B q sm bb c ov A n cp E e ce:=
 ⟨hk.heap h.top h1,h.mg.aK hk h4,h.mA,Row.aK h.bl hk (fun j hj=>by obtain⟨g1,cur,g2⟩:=Row.bV h.bl hj;exact h3 j g1 (bf g2)),h.ov.aK hk h2,h.qB,h.sB,h.bB,h.qs⟩
theorem mZ.same(h:mZ w B q sm bb c ov A n cp E e ce)(hk:Kept Nil w w'):mZ w' B q sm bb c ov A n cp E e ce:=h.aK hk (fun h=>h) (fun h=>h) (fun _ _ _ h=>h) (fun _ _ h=>h)
theorem mZ.f32(h:mZ w B q sm bb c ov A n cp E e ce):w.cell? (((⟨q,0,none⟩:Addr).add 0).add 32)=some (.int .u64 (c.score:Int)):=by rw [add_zero,bE,aE h.top];exact(gU ..).1
theorem mZ.f33(h:mZ w B q sm bb c ov A n cp E e ce):w.cell? (((⟨q,0,none⟩:Addr).add 0).add 33)=some (.slice A n cp):=by rw [add_zero,bE,aE h.top];exact(gU ..).2.1
theorem mZ.f34(h:mZ w B q sm bb c ov A n cp E e ce):w.cell? (((⟨q,0,none⟩:Addr).add 0).add 34)=some (.slice E e ce):=by rw [add_zero,bE,aE h.top];exact(gU ..).2.2.1
theorem mZ.f35(h:mZ w B q sm bb c ov A n cp E e ce):w.cell? ((⟨q,0,none⟩:Addr).add 35)=some (.map (some sm)):=by rw [bE,aE h.top];exact(gU ..).2.2.2
theorem mZ.wr(h:mZ w B q sm bb c ov A n cp E e ce){j:Nat}(hj:j<36):Wr w (((⟨q,0,none⟩:Addr).add 0).add j):=by
 rw [add_zero,bE];exact dQ h.top (by rw [Array.size_append,bJ];simp;omega)
theorem mZ.SC{h:mZ w B q sm bb c ov A n cp E e ce}(j:Nat)(v:Value):Kept (· =q) w (w.setCell (((⟨q,0,none⟩:Addr).add 0).add j) v):=by
 rw [add_zero,bE];exact Kept.setCell (S:=(· =q)) (Kept.refl _ w) (p:=⟨q,0+j,none⟩) (fun _=>rfl) _
theorem mZ.HP(h:mZ w B q sm bb c ov A n cp E e ce)(hB:B<=w.heap.size)(hn:e<=100000){x:Bool}{b:Nat}(hb:w.cell? ⟨b,0,none⟩=some (.bool x)):
 ∃E' sU u,(Builtin.append_ #[iy,iy] iy #[.slice E e ce,.slice (some ⟨b,0,none⟩) 1 1]).run prog w=.ok (.slice E' (e+1) sU) u/\
  Kept (fun j=>B<=j/\bI E=some j) w u/\Wr u (((⟨q,0,none⟩:Addr).add 0).add 34)/\
  mZ (u.setCell (((⟨q,0,none⟩:Addr).add 0).add 34) (.slice E' (e+1) sU)) B q sm bb {c with gu:=c.gu++ [x]} ov A n cp E' (e+1) sU/\
  Kept (fun j=>j=q\/bI E=some j) w (u.setCell (((⟨q,0,none⟩:Addr).add 0).add 34) (.slice E' (e+1) sU))/\(∀j,bI E'=some j->bI E=some j\/w.heap.size<=j):=by
 obtain⟨E',sU,u,hr,fP,hg,hE⟩:=fZ (P:=prog) (t:=iy) (bytes:=1) (ty:=iy) Ci h.bl (a:=⟨b,0,none⟩) (m:=1) (cx:=1) (news:= [.bool x]) rfl (fun j v hj=>by
  cases j with
  |zero=>simp only [List.getElem?_cons_zero,Option.some.injEq]at hj;subst hj;rw [add_zero];exact hb
  |succ j=>simp at hj) (fun v hv=>by
  have:v=.bool x:=by simpa using hv
  subst this;rfl) (by omega) (by unfold maxLen;omega) hB
 have qB:=h.qB;have sB:=h.sB;have kE:Kept (fun j=>B<=j/\bI E=some j) w u:=(Kept.refl _ _).grown hg fun j hj _=>⟨(Row.bV h.bl hj).1,hj⟩;have jK:=kE.heap h.top (by omega);have qM:Kept (· =q) u (u.setCell (((⟨q,0,none⟩:Addr).add 0).add 34) (.slice E' (e+1) sU)):=by
  rw [add_zero,bE];exact Kept.setCell (S:=(· =q)) (Kept.refl _ u) (p:=⟨q,0+34,none⟩) (fun _=>rfl) _
 refine⟨E',sU,u,hr,kE,?_,⟨?_,?_,h.mA,?_,?_,qB,sB,h.bB,h.qs⟩,?_,hE⟩
 ·rw [add_zero,bE]
  exact dQ jK (by rw [Array.size_append,bJ];simp)
 ·show(u.setCell (((⟨q,0,none⟩:Addr).add 0).add 34) (.slice E' (e+1) sU)).heap[q]? =_
  rw [add_zero,bE,du jK,rF];rfl
 ·exact(h.mg.aK kE (fun a ha=>by have:=(h.mA a ha).1;omega)).aK qM (fun a ha=>(h.mA a ha).2.1)
 ·have e1:tH (c.gu++ [x])=tH c.gu++ [.bool x]:=by simp [tH]
  show Row _ B jv 1 E' (e+1) sU (tH (c.gu++ [x]))
  rw [e1];exact Row.aK fP qM (fun j hj=>by have:=(Row.bV fP hj).1;omega)
 ·exact(h.ov.aK kE (by omega)).aK qM (fun e=>h.qs.1 e.symm)
 ·exact(kE.mono fun _ _ h=>.inr h.2).trans qM (fun _ _ e=>.inl e)
theorem mZ.OQ(h:mZ w B q sm bb c ov A n cp E e ce)(s:Nat):
 mZ (w.setCell (((⟨q,0,none⟩:Addr).add 0).add 32) (.int .u64 (s:Int))) B q sm bb {c with score:=s} ov A n cp E e ce/\Kept (· =q) w (w.setCell (((⟨q,0,none⟩:Addr).add 0).add 32) (.int .u64 (s:Int))):=by
 have qB:=h.qB;have qM:=mZ.SC (h:=h) 32 (.int .u64 (s:Int));refine⟨⟨?_,h.mg.aK qM (fun a ha=>(h.mA a ha).2.1),h.mA,Row.aK h.bl qM (fun j hj=>by have:=(Row.bV h.bl hj).1;omega),h.ov.aK qM (fun e=>h.qs.1 e.symm),h.qB,h.sB,h.bB,h.qs⟩,qM⟩;rw [add_zero,bE,du h.top,wx]
theorem mZ.note(h:mZ w B q sm bb c ov A n cp E e ce)(b:HT)(n0:Nat):
 ∃u,(Instr.mapUpdate cV (.map (some sm)) (.agg b.1) (.int .i64 (n0:Int))).run prog w=.ok () u/\mZ u B q sm bb c (fun y=>if y=b then some n0 else ov y) A n cp E e ce/\Kept (· =sm) w u:=by
 have sB:=h.sB;obtain⟨u,hr,hm,hk⟩:=h.ov.put sk b (.int .i64 (n0:Int));refine⟨u,hr,⟨hk.heap h.top h.qs.1,h.mg.aK hk (fun a ha=>(h.mA a ha).2.2.1),h.mA,Row.aK h.bl hk (fun j hj=>by have:=(Row.bV h.bl hj).1;omega),?_,h.qB,h.sB,h.bB,h.qs⟩,hk⟩;have e1:KM (fun y=>if y=b then some n0 else ov y)=fun x=>if x=b then some (.int .i64 (n0:Int))else KM ov x:=by
  funext y
  unfold KM;by_cases e:y=b
  ·simp only [if_pos e,Option.map_some]
  ·simp only [if_neg e]
 rw [e1];exact hm
end
noncomputable def lf(k:Nat)(G:GS)(s:HT)(l:List HT)(i:Nat):VS:=((cR G s l).take i).foldl (rT k G.D) ⟨G.world s++ [s],[]⟩
structure V2(y v:World)(k:Nat)(G:GS)(s:HT)(l:List HT)(base:HT->Nat)(q sm bb:Nat)(A:Option Addr)(n cp i:Nat):Prop where
 ex:∃(ov:HT->Option Nat) (E:Option Addr) (e ce:Nat) (Ab:Option Addr) (nb cb:Nat) (bl:List HT),
  mZ v y.heap.size q sm bb ⟨s,G.score s+1+(lf k G s l i).bl.count true,cR G s l,(lf k G s l i).bl⟩ ov A n cp E e ce/\
  v.heap[bb]? =some (.cells #[.slice Ab nb cb] aF (0,0))/\cf v y.heap.size Ab nb cb bl/\(lf k G s l i).wd=G.world s++ [s]++bl/\(∀j,bI Ab=some j->bI E≠some j)/\
  OV G.D (lf k G s l i).wd ov base/\(lf k G s l i).wd.Nodup/\(∀z∈bl,z∈(cR G s l).take i)/\e=i
 kp:Kept (fun j=>j=q\/j=sm\/j=bb) y v
theorem mZ.H8{w w':World}{B q sm bb:Nat}{c:pB}{ov:HT->Option Nat}{A E:Option Addr}{n cp e ce:Nat}{S:Nat->Prop}(h:mZ w B q sm bb c ov A n cp E e ce)(hk:Kept S w w')(h1:¬S q)(h2:¬S sm)(h3:∀j,bI E=some j->¬S j)(h4:∀a,A=some a->¬S a.block):mZ w' B q sm bb c ov A n cp E e ce:=
 ⟨hk.heap h.top h1,h.mg.aK hk h4,h.mA,Row.aK h.bl hk h3,h.ov.aK hk h2,h.qB,h.sB,h.bB,h.qs⟩
theorem zO{k:Nat}{G:GS}{s:HT}{l:List HT}{i:Nat}{x:HT}(hx:(cR G s l)[i]? =some x):lf k G s l (i+1)=rT k G.D (lf k G s l i) x:=by
 unfold lf;have e:(cR G s l).take (i+1)=(cR G s l).take i++ [x]:=by rw [List.take_add_one,hx];rfl
 rw [e,List.foldl_append];rfl
theorem DV(k:Nat)(G:GS)(s:HT)(l:List HT)(i:Nat)(hi:i<=(cR G s l).length):(lf k G s l i).bl.length=i:=by
 obtain⟨b,h1,h2⟩:=Ht k G.D (G.world s++ [s]) ((cR G s l).take i);unfold lf;rw [h2];show b.length=i
 rw [h1,List.length_take];omega
theorem DW(k:Nat)(G:GS)(s:HT)(l:List HT):lf k G s l (cR G s l).length=iz k G s l:=by
 unfold lf iz;rw [List.take_of_length_le (Nat.le_refl _)]
section
variable{y v w w':World}{F:Nat->Prop}{c k:Nat}{G:GS}{m:CM}{s:HT}{l ch:List HT}{bs bc bh q sm bb kb n cp:Nat}{A:Option Addr}{K:Value->World->Prop}
set_option maxHeartbeats 4000000 in
theorem Ca(C:CV y F c k G m)(hD:G.D.length<=5000)(o6:k<=1000)(hs:s∈ids G.D)(hc:dH G.D G.P s ch)(hM:∀x∈cR G s l,x∈ids G.D)
 (V:VB y c s bs bc bh q sm (fun _=>none)) (NC:y.heap[kb]? =some (.cells #[.func (.func ct.id) #[] #[.pointer (some ⟨bs,0,none⟩),.pointer (some ⟨bc,0,none⟩),.pointer (some ⟨bh,0,none⟩)]] fO (0,0)))
 (iX:∀j,(m.own c j\/F j\/j=bs\/j=bc\/j=bh\/j=kb)->j≠q/\j≠sm/\j≠bb)
 (h0:V2 y y k G s l (nt m.sz ch) q sm bb A n cp 0) (hn:n<=5000)
 (hK:∀v ov E e ce,mZ v y.heap.size q sm bb (dr k G s l) ov A n cp E e ce->OV G.D (iz k G s l).wd ov (nt m.sz ch)->Kept (fun j=>j=q\/j=sm\/j=bb) y v->K (.pointer (some ⟨q,0,none⟩)) v):
 Holds none [] prog 153 (.loop (lB (bB (sR (sL (fU (body ai.fn))))))) (ai.q2 K)
  [(3,.pointer (some ⟨bc,0,none⟩)),(6,.pointer none),(8,.pointer (some ⟨bs,0,none⟩)),(11,.pointer (some ⟨bb,0,none⟩)),(12,.func (.func ag.id) #[] #[.pointer (some ⟨bb,0,none⟩),.pointer (some ⟨bc,0,none⟩),.pointer (some ⟨bh,0,none⟩)]),(13,.pointer (some ⟨kb,0,none⟩)),(92,.slice A n cp),(93,.int .i64 (n:Int)),(94,.int .i64 0)] y:=by
 have W:=C.iC.W;have hmn:(cR G s l).Nodup:=(mI G s l).nodup;have U8:(cR G s l).length=n:=by obtain⟨_,_,_,_,_,_,_,_,h,_⟩:=h0.ex;exact h.mg.len
 have lbs:=bf V.hs;have lbc:=bf V.hc;have lbh:=bf V.hh;have lkb:=bf NC;have YM:=iX bs (.inr (.inr (.inl rfl)));have YO:=iX bc (.inr (.inr (.inr (.inl rfl))));have YN:=iX bh (.inr (.inr (.inr (.inr (.inl rfl)))));have fkb:=iX kb (.inr (.inr (.inr (.inr (.inr rfl)))));refine ai.iB (I:=fun s0 v=>∃i:Nat,s0=(i:Int)/\i<=n/\V2 y v k G s l (nt m.sz ch) q sm bb A n cp i) (μ:=fun s0 _=>((n:Int)-s0).toNat) (s:=0) ⟨0,rfl,Nat.zero_le _,h0⟩ ?_;rintro s0 v ⟨i,rfl,hi,hV⟩;obtain⟨ov,E,e,ce,Ab,nb,cb,bl,hS,xl,fP,RM,hAE,hO,gQ,vR,hie⟩:=hV.ex;have kv:=hV.kp;have sv:=kv.size;refine Split.dec (fun jZ=>?_) (fun gH=>?_)
 ·have dX:i<n:=by omega
  obtain⟨x,hx⟩:∃x,(cR G s l)[i]? =some x:=⟨_,List.getElem?_eq_getElem (by omega)⟩;have RK:=hM x (List.mem_of_getElem? hx);have XY:x∉(lf k G s l i).wd:=by
   rw [RM];intro hm;obtain⟨_,g1,g2⟩:=kO.1 (List.mem_of_getElem? hx);rcases List.mem_append.1 hm with hm|hm
   ·rcases List.mem_append.1 hm with hm|hm
    ·exact g2 ((C.iC.wd s hs).2.1 x hm)
    ·exact g1 (by simpa using hm)
   ·have h1:=vR x hm
    obtain⟨j,hj⟩:=List.mem_iff_getElem?.1 h1;rw [List.getElem?_take]at hj;split at hj
    ·rename_i Kj
     have h2:=(lgeS hj);have h3:=(lgeS hx);have:=(List.getElem_inj hmn).1 (h2.2.trans h3.2.symm);omega
    ·cases hj
  have nu:=zO (k:=k) hx;refine hS.mg.load (i:=(i:Int)) (by omega) hx ?_;intro pD;obtain⟨tA,kh,kH⟩:=iP (w:=v) (z:=fH.1) (cs:=x.1) (t:=al) (by rw [x.2.1];rfl);refine⟨⟨x.2.1,x.2.one,fun j hj=>tA j (by rw [x.2.1];exact hj)⟩,?_⟩;intro jl
  replace kh:jl.heap[v.heap.size]? =some (.cells x.1 al (0,0)):=kh
  replace kH:Kept Nil v jl:=kH
  clear_value jl;intro nX nh;have uc:Kept Nil jl nX:=(Kept.refl _ _).alloc _;have U2:gh nX jl.heap.size (fun _=>none):=gh.new jl;have rv:Kept Nil nX nh:=(Kept.refl _ _).alloc _;have QC:nh.heap[nX.heap.size]? =some (.cells #[.map none] cV (0,0)):=aM nX _;refine⟨dQ QC (by simp),?_⟩;intro xE;have VL:xE.heap[nX.heap.size]? =some (.cells #[.map (some jl.heap.size)] cV (0,0)):=by
   show(nh.setCell ⟨nX.heap.size,0,none⟩ (.map (some jl.heap.size))).heap[nX.heap.size]? =_;rw [du QC 0];rfl
  have Ij:Kept (· =nX.heap.size) nh xE:=Kept.setCell (S:=(· =nX.heap.size)) (Kept.refl _ nh) (p:=⟨nX.heap.size,0,none⟩) (fun _=>rfl) _;clear_value xE;have s14:=kH.size;have s15:=uc.size;have l14:=bf kh;have l15:=U2.lt;have l16:=bf QC;have Io:Kept Nil jl xE:=⟨Ij.os.trans (uc.tt rv).os,Ij.tape.trans (uc.tt rv).tape,Ij.output.trans (uc.tt rv).output,Nat.le_trans (uc.tt rv).size Ij.size,fun j hj hn=>by rw [Ij.block j (Nat.lt_of_lt_of_le hj (uc.tt rv).size) (by omega),(uc.tt rv).block j hj hn]⟩;have abo:gh xE jl.heap.size (fun _=>none):=(U2.same rv).aK Ij (by omega);have NO:=Io.heap kh (fun h=>h);clear_value nh nX;have K0:Kept Nil v xE:=kH.tt Io;have F0:Kept (fun j=>j=q\/j=sm\/j=bb) y xE:=kv.trans K0 (fun _ _ h=>h.elim);have QU:=hS.same K0;have C17:CV xE F c k G m:=C.aK F0 (fun j hj e=>by have:=iX j (.inl hj);omega) (fun j hj e=>by have:=iX j (.inr (.inl hj));omega);have V17:VB xE c s bs bc bh q sm ov:=⟨F0.heap V.hs (by omega),F0.heap V.hc (by omega),F0.heap V.hh (by omega),QU.f35,QU.ov⟩;have Vg:=F0.heap NC (by omega);have IL:cf xE y.heap.size Ab nb cb bl:=Row.aK fP K0 (fun _ _ h=>h);have NY:=K0.heap xl (fun h=>h);refine⟨x.1,⟨x.2.1,Cells.bV NO⟩,?_⟩;have qB:=hS.qB;have sB:=hS.sB;have bB:=hS.bB;have I8:∀b∈(lf k G s l i).wd,sx ov (nt m.sz ch) b=(cr G.D (lf k G s l i).wd b).length:=hO.kn;have uG:=gQ;rw [RM]at uG;obtain⟨c1,c2,c3⟩:=Mp C.iC (h:=x) hs hc uG;rw [<-RM]at c2 c3;have V9:=fP.len;have P8:nb<=5000:=by
   have h1:=dL (m:=cR G s l) (List.nodup_append.1 uG).2.1 (fun z hz=>List.mem_of_mem_take (vR z hz));omega
  have QZ:∀a,Ab=some a->a.block<jl.heap.size:=fun a ha=>by
   subst ha;obtain⟨_,cur,h1⟩:=Row.bV fP (k:=a.block) rfl;have:=bf h1;omega
  refine Bl (p:=⟨bs,bc,bh,q,sm,kb,nX.heap.size,jl.heap.size,0,0⟩) ⟨C17,V17,Vg,VL,(fun e=>by have:jl.heap.size<y.heap.size:=C.low _ (.inl e);omega),(fun e=>by have:jl.heap.size<y.heap.size:=C.low _ (.inr e);omega),(show bs≠jl.heap.size/\bc≠jl.heap.size/\bh≠jl.heap.size/\q≠jl.heap.size/\sm≠jl.heap.size/\kb≠jl.heap.size/\nX.heap.size≠jl.heap.size from⟨by omega,by omega,by omega,by omega,by omega,by omega,by omega⟩)⟩ hD o6 hs hc (h:=x) NY (by show bb≠jl.heap.size;omega) IL.hs (fun a ha=>by have:=QZ a ha;show a.block≠jl.heap.size;omega) (by omega) (by
   show gh xE jl.heap.size _
   have e0:(fun y=>if y∈([]:List HT)then some (Value.int .i64 (sx ov (nt m.sz ch) y:Int))else none)=fun _=>none:=by funext y;simp
   rw [e0];exact abo) c1 fun Fc r hr hFr BO=>⟨r,rfl,?_⟩
  replace BO:Kept (· =jl.heap.size) xE Fc:=BO
  have NR:r=qX k G.D (lf k G s l i).wd x:=by rw [hr];exact Jy I8 c2 c3
  have WN:∀j,bI E=some j->y.heap.size<=j/\j<v.heap.size:=fun j hj=>by obtain⟨g1,cur,g2⟩:=Row.bV hS.bl hj;exact⟨g1,bf g2⟩
  have Jj:∀j,bI Ab=some j->y.heap.size<=j/\j<v.heap.size:=fun j hj=>by obtain⟨g1,cur,g2⟩:=Row.bV fP hj;exact⟨g1,bf g2⟩
  have s17:=Io.size;have acO:=QU.H8 BO (by omega) (by omega) (fun j hj=>by have:=WN j hj;omega) (fun a ha=>by have:=(hS.mA a ha).1;omega);have PY:cf Fc y.heap.size Ab nb cb bl:=Row.aK IL BO (fun j hj=>by have:=Jj j hj;omega);have KV:Kept (fun j=>j=q\/j=sm\/j=bb) y Fc:=F0.trans BO (fun j hj e=>by omega);have Wf:=BO.heap NY (by omega);have V0:=BO.heap NO (by omega);have abW:=BO.heap VL (by omega);intro zL;have Ih:Kept Nil Fc zL:=(Kept.refl _ _).drew;clear_value zL;have Jg:=acO.same Ih;have AK:=KV.trans Ih (fun _ _ h=>h.elim);have AY:∀ {u:World} {S:Nat->Prop},Kept S y u->¬S bs->u.cell? ⟨bs,0,none⟩=some (.pointer (some ⟨q,0,none⟩)):=fun ku hb=>by rw [aE (ku.heap V.hs hb)];rfl
  have MK:¬(bs=q\/bs=sm\/bs=bb):=by omega
  have s21:=AK.size;refine⟨_,AY AK MK,_,AY AK MK,E,e,ce,Jg.f34,?_⟩;intro mD;have rO:Kept Nil zL mD:=(Kept.refl _ _).alloc _;have LZ:mD.heap[zL.heap.size]? =some (.cells #[.bool r] jv (0,0)):=aM zL _;clear_value mD;have Jf:=Jg.same rO;have vN:=AK.trans rO (fun _ _ h=>h.elim);have Zr:=vN.size;obtain⟨E',sU,u,Ug,kE,aai,Je,k5,hE5⟩:=Jf.HP (by omega) (by omega) (x:=r) (b:=zL.heap.size) (by rw [aE LZ];rfl);have ZG:Kept (fun j=>j=q\/j=sm\/j=bb) y u:=vN.trans kE (fun j hj e=>by have:=WN j e.2;omega);refine⟨Jf.f34,AY vN MK,AY vN MK,E',e+1,sU,u,Ug,AY ZG MK,aai,?_⟩;intro wP
  replace Je:mZ wP y.heap.size q sm bb _ ov A n cp E' (e+1) sU:=Je
  replace k5:Kept (fun j=>j=q\/bI E=some j) mD wP:=k5
  clear_value wP;have O5:Kept (fun j=>j=q\/j=sm\/j=bb) y wP:=vN.trans k5 (fun j hj e=>by
   rcases e with e|e
   ·exact .inl e
   ·have:=WN j e;omega)
  have Ii:Kept (fun j=>j=q\/bI E=some j) Fc wP:=((Ih.tt rO).mono fun _ _ h=>h.elim).tt k5;have aea:=(Ih.tt rO).size;have s20:=BO.size;have IK:cf wP y.heap.size Ab nb cb bl:=Row.aK PY Ii (fun j hj e=>by
   have:=Jj j hj;rcases e with e|e
   ·omega
   ·exact hAE j hj e)
  have NX:=Ii.heap Wf (fun e=>by
   rcases e with e|e
   ·exact hS.qs.2.1 e.symm
   ·have:=WN bb e;omega)
  have Q0:∀j,bI Ab=some j->bI E'≠some j:=fun j hj he=>by
   rcases hE5 j he with h1|h1
   ·exact hAE j hj h1
   ·have:=Jj j hj;omega
  have Ng:∀z∈bl,z∈(cR G s l).take (i+1):=fun z hz=>by
   have h1:=vR z hz;rw [List.take_add_one];exact List.mem_append_left _ h1
  cases r with
  |false=>
   refine Split.yes rfl ?_;rw [dF (n:=(i:Int)) (by omega) (by omega)];have yX:lf k G s l (i+1)=⟨(lf k G s l i).wd,(lf k G s l i).bl++ [false]⟩:=by rw [nu,rT,<-NR];rfl
   refine⟨(i:Int)+1,rfl,⟨i+1,rfl,dX,⟨ov,E',e+1,sU,Ab,nb,cb,bl,?_,NX,IK,?_,Q0,?_,?_,Ng,by omega⟩,O5⟩,by simp only;omega⟩
   ·rw [yX]
    simpa [List.count_append]using Je
   ·rw [yX];exact RM
   ·rw [yX];exact hO
   ·rw [yX];exact gQ
  |true=>
   refine Split.no rfl ?_;have QW:=hFr rfl
   replace QW:zt Fc jl.heap.size (sx ov (nt m.sz ch)) (o9 G x bl ch):=QW
   have cY:=(qi.1 hr.symm).2;have rR:=dL (m:=ids G.D) c1 (fun z hz=>by
    have h1:=(gL.1 ((c3 z).1 hz)).1;rw [RM]at h1;rcases List.mem_append.1 h1 with h1|h1
    ·rcases List.mem_append.1 h1 with h1|h1
     ·exact(((C.iC.wd s hs).2.1 z h1).mem W).1
     ·have:z=s:=by simpa using h1
      subst this;exact hs
    ·exact hM z (List.mem_of_mem_take (vR z h1)))
   rw [iM]at rR;generalize kI:o9 G x bl ch=lA at*;generalize abw:sx ov (nt m.sz ch)=kn at*;have PT:G.score s<=5000:=by
    have h1:=(C.iC.wd s hs).2.2;have h2:=dL (m:=ids G.D) (C.iC.wd s hs).1 (fun b hb=>(((C.iC.wd s hs).2.1 b hb).mem W).1);rw [iM]at h2;omega
   have ab3:(lf k G s l i).bl.count true<=5000:=by
    have h1:=List.count_le_length (a:=true) (l:=(lf k G s l i).bl);rw [DV k G s l i (by omega)]at h1;omega
   generalize EA:G.score s+1+(lf k G s l i).bl.count true=sc at*;have ew:u64.wrap ((sc:Int)+(1:Int))=((sc+1:Nat):Int):=by
    rw [show(sc:Int)+1=((sc+1:Nat):Int)by omega];exact kz (by omega)
   refine⟨_,AY O5 MK,_,Je.f32,Je.wr (by omega),?_⟩;intro uR qt;have acM:mZ uR y.heap.size q sm bb ⟨s,sc+1,cR G s l,(lf k G s l i).bl++ [true]⟩ ov A n cp E' (e+1) sU:=by
    show mZ (wP.setCell (((⟨q,0,none⟩:Addr).add 0).add 32) (.int .u64 (u64.wrap ((sc:Int)+(1:Int))))) _ _ _ _ _ _ _ _ _ _ _ _
    rw [ew];exact(Je.OQ (sc+1)).1
   have G8:Kept (· =q) wP uR:=mZ.SC (h:=Je) 32 _;have zv:Kept Nil uR qt:=(Kept.refl _ _).drew;clear_value qt uR;have Dc:=acM.same zv;have Es:Kept (· =q) wP qt:=G8.trans zv (fun _ _ h=>h.elim);have AJ:=O5.trans Es (fun j hj e=>.inl e);have Et:Kept (fun j=>j=q\/bI E=some j) Fc qt:=Ii.trans Es (fun j hj e=>.inl e);have Jq:∀j,v.heap.size<=j->¬(j=q\/bI E=some j):=fun j hj e=>by
    rcases e with e|e
    ·omega
    ·have:=WN j e;omega
   have NN:=Et.heap V0 (Jq _ (Nat.le_refl _));have VK:=Et.heap abW (Jq _ (by omega));have WL:zt qt jl.heap.size kn lA:=QW.aK Et (Jq _ (by omega));have Qq:∀z,(if z∈lA then some (Value.int .i64 (kn z:Int))else none)≠none↔z∈lA:=fun z=>by
    by_cases hz:z∈lA
    ·rw [if_pos hz];exact⟨fun _=>hz,fun _ e=>by cases e⟩
    ·rw [if_neg hz];exact⟨fun e=>absurd rfl e,fun e=>absurd e hz⟩
   obtain⟨rM,aaO,WC,rN⟩:=Dc.note x lA.length;have s33:=Et.size;have ZI:=AJ.trans rN (fun j hj e=>.inr (.inl e));have acZ:zt rM jl.heap.size kn lA:=WL.aK rN (by omega);have abV:=rN.heap VK (by omega);have VZ:=rN.heap NN (by omega);have PW:cf rM y.heap.size Ab nb cb bl:=Row.aK (Row.aK IK Es (fun j hj e=>by have:=Jj j hj;omega)) rN (fun j hj e=>by have:=Jj j hj;omega);have Wc:=rN.heap (Es.heap NX (fun e=>hS.qs.2.1 e.symm)) (fun e=>hS.qs.2.2 e.symm);obtain⟨w38,BY,aaN,hit,RH⟩:=acZ.range sk;have s36:=rN.size;have s38:=RH.size;refine⟨_,AY AJ MK,some sm,Dc.f35,x.1,⟨x.2.1,Cells.bV NN⟩,some jl.heap.size,by rw [aE VK];rfl,lA.length,WL.len sk iu c1 Qq,rM,aaO,some jl.heap.size,by rw [aE abV];rfl,_,w38,aaN,?_⟩;refine ai.sn (I:=fun _ u=>∃left BY MI,pf u jl.heap.size rM.heap.size (fun z=>if z∈lA then some (Value.int .i64 (kn z:Int))else none) left BY/\mZ u y.heap.size q sm bb ⟨s,sc+1,cR G s l,(lf k G s l i).bl++ [true]⟩ MI A n cp E' (e+1) sU/\
    (∀z,(left z->z∈lA)/\(z∈lA->¬left z->MI z=some (kn z+1))/\((z∉lA\/left z)->MI z=if z=x then some lA.length else ov z))/\Kept (fun j=>j=sm\/j=rM.heap.size) w38 u) (μ:=fun _ u=>u.rangeLeft jl.heap.size rM.heap.size) (s:=())
    ⟨_,BY,_,hit,WC.same RH,fun z=>⟨fun hz=>(Qq z).1 hz,fun hz hl=>absurd ((Qq z).2 hz) hl,fun _=>rfl⟩,Kept.refl _ _⟩ ?_
   rintro s1 u3 ⟨left,alg,MI,Ql,QT,hinv,ku⟩;have Zj:=ku.size;have lit:=Ql.lt;have ky3:Kept (fun j=>j=q\/j=sm\/j=bb) y u3:=(ZI.trans RH (fun _ _ h=>h.elim)).trans ku (fun j hj e=>by
    rcases e with e|e
    ·exact .inr (.inl e)
    ·omega)
   rcases Ql.next 0 with⟨h0',UM,jY⟩|⟨z,val,u4,adu,hl,hfz,jY,abY,abx,di,k4⟩
   ·refine .inl ⟨u3,jY,?_⟩
    rw [aU,ai.yz];unfold ai.tM;have We:=ku.heap (RH.heap Wc (fun h=>h)) (by have:=hS.qs;omega);have Gx:=ku.heap (RH.heap VZ (fun h=>h)) (by omega);have Ui:cf u3 y.heap.size Ab nb cb bl:=Row.aK (Row.aK PW RH (fun _ _ h=>h)) ku (fun j hj e=>by have:=Jj j hj;omega);refine⟨Ab,nb,cb,by rw [aE We];rfl,x.1,⟨x.2.1,Cells.bV Gx⟩,x.2.1,?_⟩;intro JT;have RG:Kept Nil u3 JT:=(Kept.refl _ _).alloc _;have aad:HS JT (some ⟨u3.heap.size,0,none⟩) 1 [x]:=jE u3 x;clear_value JT;have s50:=RG.size;have PU:cf JT y.heap.size Ab nb cb bl:=Row.aK Ui RG (fun _ _ h=>h);obtain⟨A6,c6,Hp,P3,ME,g51,ac7⟩:=dd aF PU (cx:=1) aad (by omega) (by omega);have XR:Kept (fun j=>bI Ab=some j) JT Hp:=(Kept.refl _ _).grown g51 fun j hj _=>hj;have NW:=XR.heap (RG.heap We (fun h=>h)) (fun e=>by have:=Jj bb e;omega);refine⟨A6,nb+1,c6,Hp,P3,dQ NW (by simp),?_⟩;intro My;have Wb:My.heap[bb]? =some (.cells #[.slice A6 (nb+1) c6] aF (0,0)):=by
     show(Hp.setCell ⟨bb,0,none⟩ (.slice A6 (nb+1) c6)).heap[bb]? =_;rw [du NW 0];rfl
    have Ia:Kept (· =bb) Hp My:=Kept.setCell (S:=(· =bb)) (Kept.refl _ Hp) (p:=⟨bb,0,none⟩) (fun _=>rfl) _;clear_value My;have wX:Kept (fun j=>bI Ab=some j\/j=bb) u3 My:=((RG.mono fun _ _ h=>h.elim).trans XR (fun _ _ h=>.inl h):Kept (fun j=>bI Ab=some j\/j=bb) u3 Hp).trans Ia (fun _ _ h=>.inr h);have acL:mZ My y.heap.size q sm bb ⟨s,sc+1,cR G s l,(lf k G s l i).bl++ [true]⟩ MI A n cp E' (e+1) sU:=QT.H8 wX
     (fun e=>e.elim (fun e=>by have:=Jj q e;omega) (fun e=>hS.qs.2.1 e)) (fun e=>e.elim (fun e=>by have:=Jj sm e;omega) (fun e=>hS.qs.2.2 e))
     (fun j hj e=>e.elim (fun e=>Q0 j e hj) (fun e=>by have:=(Row.bV QT.bl hj).1;omega)) (fun a ha e=>e.elim (fun e=>by have:=Jj _ e;have:=(hS.mA a ha).1;omega) (fun e=>(hS.mA a ha).2.2.2 e))
    have tT:cf My y.heap.size A6 (nb+1) c6 (bl++ [x]):=Row.aK ME Ia (fun j hj e=>by have:=(Row.bV ME hj).1;omega);rw [dF (n:=(i:Int)) (by omega) (by omega)];have yX:lf k G s l (i+1)=⟨(lf k G s l i).wd++ [x],(lf k G s l i).bl++ [true]⟩:=by rw [nu,rT,<-NR];rfl
    have aa5:MI=An G.D (lf k G s l i).wd ov (nt m.sz ch) x:=by
     funext z
     unfold An;rw [abw];by_cases hz:z∈lA
     ·rw [if_pos ((c3 z).1 hz)]
      exact(hinv z).2.1 hz (UM z)
     ·rw [if_neg (fun e=>hz ((c3 z).2 e)),(hinv z).2.2 (.inl hz),c2]
    refine⟨(i:Int)+1,rfl,⟨i+1,rfl,dX,⟨MI,E',e+1,sU,A6,nb+1,c6,bl++ [x],?_,Wb,tT,?_,?_,?_,?_,?_,by omega⟩,?_⟩,by simp only;omega⟩
    ·rw [yX]
     have ec:G.score s+1+((lf k G s l i).bl++ [true]).count true=sc+1:=by rw [List.count_append,<-EA];simp;omega
     show mZ My y.heap.size q sm bb ⟨s,G.score s+1+((lf k G s l i).bl++ [true]).count true,cR G s l,(lf k G s l i).bl++ [true]⟩ MI A n cp E' (e+1) sU
     rw [ec];exact acL
    ·rw [yX]
     show(lf k G s l i).wd++ [x]=_;rw [RM,List.append_assoc]
    ·intro j hj he
     rcases ac7 j hj with h1|h1
     ·exact Q0 j h1 he
     ·obtain⟨_,cur,h2⟩:=Row.bV QT.bl he
      have:=bf h2;omega
    ·rw [yX,aa5]
     exact hO.step XY
    ·rw [yX]
     exact List.nodup_append.2 ⟨gQ,by simp,fun a ha b hb e=>by
      have:b=x:=by simpa using hb
      subst this;subst e;exact XY ha⟩
    ·intro z hz
     rcases List.mem_append.1 hz with hz|hz
     ·exact Ng z hz
     ·have:z=x:=by simpa using hz
      subst this;rw [List.take_add_one,hx];simp
    ·exact ky3.trans wX (fun j hj e=>by
      rcases e with e|e
      ·have:=Jj j e;omega
      ·exact .inr (.inr e))
   ·have Z6:=(hinv z).1 hl
    rw [if_pos Z6]at hfz;cases hfz;have hkz:=cY z Z6;refine .inr ⟨_,_,u4,jY,z.1,(kn z:Int),abY,?_⟩;intro JS;obtain⟨PI,Bh,y5⟩:=iP (w:=u4) (z:=fH.1) (cs:=z.1) (t:=al) (by rw [z.2.1];rfl);refine⟨⟨z.2.1,z.2.one,fun j hj=>PI j (by rw [z.2.1];exact hj)⟩,?_⟩;intro Xz Rr
    replace Bh:Xz.heap[u4.heap.size]? =some (.cells z.1 al (0,0)):=Bh
    replace y5:Kept Nil u4 Xz:=y5
    have XL:Kept Nil Xz Rr:=(Kept.refl _ _).drew;clear_value Rr Xz;have acp:=XL.heap Bh (fun h=>h);have MU:=y5.tt XL;have Eo:Kept (· =rM.heap.size) u3 Rr:=k4.trans MU (fun _ _ h=>h.elim);have hE3:∀j,bI E'=some j->j≠rM.heap.size:=fun j hj e=>by
     obtain⟨_,cur,h2⟩:=Row.bV WC.bl hj;have:=bf h2;omega
    have WA:=QT.H8 Eo (by omega) (by omega) (fun j hj e=>hE3 j hj e) (fun a ha e=>by have:=(hS.mA a ha).1;omega);have ZH:Kept (fun j=>j=q\/j=sm\/j=bb) y Rr:=ky3.trans Eo (fun j hj e=>by omega);have ND:=abx.aK MU (fun h=>h) (fun h=>h);obtain⟨Fi,Uq,WD,CE⟩:=WA.note z (kn z+1);have ekz:i64.wrap ((kn z:Int)+(1:Int))=((kn z+1:Nat):Int):=by rw [dF (n:=(kn z:Int)) (by omega) (by omega)];omega
    have s3:=Eo.size;refine⟨_,AY ZH MK,some sm,WA.f35,z.1,⟨z.2.1,Cells.bV acp⟩,Fi,by rw [ekz];exact Uq,?_⟩;refine⟨(),rfl,⟨_,adu,_,ND.aK CE (by omega) (by omega),WD,fun y'=>?_,?_⟩,?_⟩
    ·obtain⟨i1,i2,i3⟩:=hinv y'
     refine⟨fun h=>i1 h.1,fun h1 h2=>?_,fun h=>?_⟩
     ·by_cases e:y'=z
      ·subst e;simp only [if_true]
      ·simp only [if_neg e]
       exact i2 h1 (fun h=>h2 ⟨h,e⟩)
     ·have e:y'≠z:=by
       rcases h with h|h
       ·exact fun e=>h (by rw [e];exact Z6)
       ·exact h.2
      simp only [if_neg e];exact i3 (h.imp_right fun h=>h.1)
    ·exact(ku.trans Eo (fun j hj e=>.inr e)).trans CE (fun j hj e=>.inl e)
    ·show Fi.rangeLeft jl.heap.size rM.heap.size<u3.rangeLeft jl.heap.size rM.heap.size
     rw [Ql.left_eq,(ND.aK CE (by omega) (by omega)).left_eq];exact di
 ·rw [aU,ai.ki]
  have:i=n:=by omega
  subst this;have e1:=DW k G s l;rw [U8]at e1;rw [e1]at hS hO;have hsq:v.heap[bs]? =some (.cells #[.pointer (some ⟨q,0,none⟩)] fL (0,0)):=kv.heap V.hs (by omega);exact⟨some ⟨q,0,none⟩,by rw [aE hsq];rfl,hK v ov E e ce hS hO kv⟩
end
def E0(N:Nat):Prop:=∀ {w:World} {F:Nat->Prop} {c k:Nat} {G:GS} {m:CM} {B:Nat} {A:Option Addr} {n cx:Nat} {l:List HT} {K:Value->World->Prop},CV w F c k G m->cf w B A n cx l->n<=N->l.Nodup->(∀x∈l,x∈ids G.D)->
 (∀j,bI A=some j->¬m.own c j/\¬F j)->(∀l' w',SO G l'->(∀x,x∈l'↔x∈l)->cf w' B A n cx l'->Kept (fun j=>bI A=some j) w w'->K (.tuple #[]) w')->
 bG prog gY.id #[.slice A n cx,.func (.func dv.id) #[.pointer (some ⟨c,0,none⟩)] #[]] w K
section
variable{y v w w':World}{F:Nat->Prop}{c k:Nat}{G:GS}{m:CM}{s:HT}{l ch:List HT}{bs bc bh q sm nL cL:Nat}{AL:Option Addr}{K:Value->World->Prop}
set_option maxHeartbeats 4000000 in
theorem Cb{N:Nat}(AX:E0 N)(hN:(tm G.D s l).length<=N)(C:CV y F c k G m)(hD:G.D.length<=5000)(o6:k<=1000)(hs:s∈ids G.D)(hc:dH G.D G.P s ch)(hl:∀x∈l,x∈ids G.D)
 (V:VB y c s bs bc bh q sm (fun _=>none)) (hS:zG y y.heap.size q sm ⟨s,G.score s+1,[],[]⟩ (fun _=>none) none 0 0 none 0 0)
 (hL:HS y AL nL (dC (eN G.D l++l))) (hAL:∀a,AL=some a->a.block≠q)
 (iX:∀j,(m.own c j\/F j\/j=bs\/j=bc\/j=bh)->j≠q/\j≠sm)
 (hK:∀v B bb ov A n cp E e ce,mZ v B q sm bb (dr k G s l) ov A n cp E e ce->OV G.D (iz k G s l).wd ov (nt m.sz ch)->(∀a,A=some a->y.heap.size<=a.block)->(y.heap.size<=B/\B<=v.heap.size)->Kept (fun j=>j=q\/j=sm) y v->K (.pointer (some ⟨q,0,none⟩)) v):
 Holds none [] prog 153 (.loop (lB (bB (sR (sL (aS (sR (body ai.fn)))))))) (ai.q1 K)
  [(3,.pointer (some ⟨bc,0,none⟩)),(4,.pointer (some ⟨bh,0,none⟩)),(6,.pointer none),(8,.pointer (some ⟨bs,0,none⟩)),(46,.slice AL nL cL),(47,.int .i64 (nL:Int)),(48,.int .i64 0)] y:=by
 have W:=C.iC.W;have lbs:=bf V.hs;have lbc:=bf V.hc;have lbh:=bf V.hh;have YM:=iX bs (.inr (.inr (.inl rfl)));have YO:=iX bc (.inr (.inr (.inr (.inl rfl))));have YN:=iX bh (.inr (.inr (.inr (.inr rfl))));have af4:=hL.len;have hLi:∀x∈dC (eN G.D l++l),x∈ids G.D:=fun x hx=>by
  rcases List.mem_append.1 (dW.1 hx)with h|h
  ·exact(km.1 h).1
  ·exact hl x h
 have hLn:nL<=5000:=by
  have:=dL (jz _).nodup hLi;rw [iM]at this;omega
 generalize hLL:dC (eN G.D l++l)=L at*;refine ai.cJ (I:=fun s0 v=>∃i:Nat,s0=(i:Int)/\i<=nL/\(∃A n cp,zG v y.heap.size q sm ⟨s,G.score s+1,(L.take i).filter fun h=>decide (h≠s/\¬fI G.D h s),[]⟩ (fun _=>none) A n cp none 0 0)/\Kept (· =q) y v) (μ:=fun s0 _=>((nL:Int)-s0).toNat) (s:=0) ⟨0,rfl,Nat.zero_le _,⟨none,0,0,hS⟩,Kept.refl _ _⟩ ?_;rintro s0 v ⟨i,rfl,hi,⟨A,n,cp,L7⟩,kv⟩;have sv:=kv.size;have U9:=cf.len L7.mg;have hnA:n<=5000:=by
  have h1:=List.length_filter_le (fun h=>decide (h≠s/\¬fI G.D h s)) (L.take i);have h2:=List.length_take_le i L;have h3:((L.take i).filter fun h=>decide (h≠s/\¬fI G.D h s)).length=n:=U9;omega
 refine Split.dec (fun jZ=>?_) (fun gH=>?_)
 ·have dX:i<nL:=by omega
  obtain⟨x,hx⟩:∃x,L[i]? =some x:=⟨_,List.getElem?_eq_getElem (by omega)⟩;have GF:L.take (i+1)=L.take i++ [x]:=by rw [List.take_add_one,hx];rfl
  have hLv:HS v AL nL L:=hL.aK kv hAL;refine hLv.load (i:=(i:Int)) (by omega) hx ?_;intro pD;obtain⟨tA,kh,kH⟩:=iP (w:=v) (z:=fH.1) (cs:=x.1) (t:=al) (by rw [x.2.1];rfl);refine⟨⟨x.2.1,x.2.one,fun j hj=>tA j (by rw [x.2.1];exact hj)⟩,?_⟩;intro jl nX
  replace kh:jl.heap[v.heap.size]? =some (.cells x.1 al (0,0)):=kh
  replace kH:Kept Nil v jl:=kH
  have uc:Kept Nil jl nX:=(Kept.refl _ _).drew;clear_value nX jl;have I6:=uc.heap kh (fun h=>h);have Pa:=kH.tt uc;have F5:Kept (· =q) y nX:=kv.trans Pa (fun _ _ h=>h.elim);have C15:CV nX F c k G m:=C.aK F5 (fun j hj e=>(iX j (.inl hj)).1 e) (fun j hj e=>(iX j (.inr (.inl hj))).1 e);have hcy:∀ {u:World},Kept (· =q) y u->u.cell? ⟨bc,0,none⟩=some (.pointer (some ⟨c,0,none⟩)):=fun ku=>by rw [aE (ku.heap V.hc YO.1)];rfl
  have Ua:∀ {u:World},Kept (· =q) y u->u.cell? ⟨bs,0,none⟩=some (.pointer (some ⟨q,0,none⟩)):=fun ku=>by rw [aE (ku.heap V.hs YM.1)];rfl
  have next:∀ {u:World} {A':Option Addr} {n' xn:Nat},zG u y.heap.size q sm ⟨s,G.score s+1,(L.take (i+1)).filter fun h=>decide (h≠s/\¬fI G.D h s),[]⟩ (fun _=>none) A' n' xn none 0 0->Kept (· =q) y u->
   ∃s1:Int,i64.wrap ((i:Int)+(1:Int))=s1/\(∃i':Nat,s1=(i':Int)/\i'<=nL/\(∃A n cp,zG u y.heap.size q sm ⟨s,G.score s+1,(L.take i').filter fun h=>decide (h≠s/\¬fI G.D h s),[]⟩ (fun _=>none) A n cp none 0 0)/\Kept (· =q) y u)/\((nL:Int)-s1).toNat<((nL:Int)-(i:Int)).toNat:=fun h1 h2=>by
   rw [dF (n:=(i:Int)) (by omega) (by omega)];exact⟨(i:Int)+1,rfl,⟨i+1,rfl,dX,⟨_,_,_,h1⟩,h2⟩,by omega⟩
  refine⟨x.1,⟨x.2.1,Cells.bV I6⟩,s.1,⟨s.2.1,Cells.bV (F5.heap V.hh YN.1)⟩,⟨x.2.ints,s.2.ints⟩,?_⟩;rw [fz];by_cases Li:x=s
  ·refine Split.no (by rw [decide_eq_true Li];rfl) ?_
   obtain⟨s1,e1,e2,e3⟩:=next (u:=nX) (by
    rw [GF,List.filter_append];have: [x].filter (fun h=>decide (h≠s/\¬fI G.D h s))= []:=by rw [List.filter_cons_of_neg (by simp [Li])];rfl
    rw [this,List.append_nil];exact L7.same Pa) F5
   rw [e1];exact⟨s1,rfl,e2,e3⟩
  ·refine Split.yes (by rw [decide_eq_false Li];rfl) ⟨_,hcy F5,_,C15.c1,x.1,⟨x.2.1,Cells.bV I6⟩,s.1,⟨s.2.1,Cells.bV (F5.heap V.hh YN.1)⟩,?_⟩
   obtain⟨mx,X15,_⟩:=C15.X;refine lu X15 hD x s fun Fc r hr BO=>⟨r,rfl,?_⟩;have KV:Kept (· =q) y Fc:=F5.trans BO (fun _ _ h=>h.elim);have Ts:=Pa.tt BO;cases r with
   |true=>
    refine Split.no rfl ?_;obtain⟨s1,e1,e2,e3⟩:=next (u:=Fc) (by
     rw [GF,List.filter_append];have: [x].filter (fun h=>decide (h≠s/\¬fI G.D h s))= []:=by rw [List.filter_cons_of_neg (by simp [hr.1 rfl])];rfl
     rw [this,List.append_nil];exact L7.same Ts) KV
    rw [e1];exact⟨s1,rfl,e2,e3⟩
   |false=>
    refine Split.yes rfl ?_;intro zL;have Ih:Kept Nil Fc zL:=(Kept.refl _ _).drew;clear_value zL;have ZO:=Ts.tt Ih;have AK:Kept (· =q) y zL:=KV.trans Ih (fun _ _ h=>h.elim);have Jg:=L7.same ZO;refine⟨_,Ua AK,_,Ua AK,A,n,cp,Jg.f33,x.1,⟨x.2.1,Cells.bV ((BO.tt Ih).heap I6 (fun h=>h))⟩,x.2.1,?_⟩;intro mD;have rO:Kept Nil zL mD:=(Kept.refl _ _).alloc _;have aah:HS mD (some ⟨zL.heap.size,0,none⟩) 1 [x]:=jE zL x;clear_value mD;have Jf:=Jg.same rO;have vN:Kept (· =q) y mD:=AK.trans rO (fun _ _ h=>h.elim);have Zr:=vN.size;obtain⟨A',xn,u,Ug,ku,Je,k5,hw5⟩:=Jf.SP Zr (by omega) aah;have ZG:Kept (· =q) y u:=vN.trans ku (fun j hj e=>by omega);refine⟨Jf.f33,Ua vN,Ua vN,A',n+1,xn,u,Ug,Ua ZG,hw5,?_⟩;intro wP
    replace Je:zG wP y.heap.size q sm _ (fun _=>none) A' (n+1) xn none 0 0:=Je
    replace k5:Kept (fun j=>j=q\/y.heap.size<=j) mD wP:=k5
    clear_value wP;obtain⟨s1,e1,e2,e3⟩:=next (u:=wP) (by
     rw [GF,List.filter_append];have: [x].filter (fun h=>decide (h≠s/\¬fI G.D h s))= [x]:=by rw [List.filter_cons_of_pos (by simp only [decide_eq_true_eq];exact⟨Li,fun e=>by have:=hr.2 e;cases this⟩)];rfl
     rw [this];exact Je) (vN.trans k5 (fun j hj e=>by
      rcases e with e|e
      ·exact e
      ·omega))
    rw [e1];exact⟨s1,rfl,e2,e3⟩
 ·rw [aU,ai.dz]
  have gD:i=nL:=by omega
  subst gD;rw [List.take_of_length_le (by omega)]at L7;unfold ai.df;intro qt;have zv:Kept Nil v qt:=(Kept.refl _ _).drew;clear_value qt;have Dc:=L7.same zv;have AJ:Kept (· =q) y qt:=kv.trans zv (fun _ _ h=>h.elim);have C33:CV qt F c k G m:=C.aK AJ (fun j hj e=>(iX j (.inl hj)).1 e) (fun j hj e=>(iX j (.inr (.inl hj))).1 e);have efl:(L.filter fun h=>decide (h≠s/\¬fI G.D h s))=tm G.D s l:=by unfold tm;rw [hLL]
  have CR:cf qt y.heap.size A n cp (tm G.D s l):=by rw [<-efl];exact Dc.mg
  have QZ:∀j,bI A=some j->y.heap.size<=j/\j<qt.heap.size:=fun j hj=>by obtain⟨g1,cur,g2⟩:=Row.bV CR hj;exact⟨g1,bf g2⟩
  refine⟨some ⟨q,0,none⟩,by rw [aE (AJ.heap V.hs YM.1)];rfl,A,n,cp,Dc.f33,some ⟨c,0,none⟩,by rw [aE (AJ.heap V.hc YO.1)];rfl,?_⟩;refine AX C33 CR (by have:=cf.len CR;omega) (ri _ _ _) (fun x hx=>hLi x (by rw [<-efl]at hx;exact(List.mem_filter.1 hx).1)) (fun j hj=>⟨fun e=>by have:=C.low j (.inl e);have:=(QZ j hj).1;omega,fun e=>by have:=C.low j (.inr e);have:=(QZ j hj).1;omega⟩) fun l' nf Gj jc IJ wL=>⟨rfl,?_⟩;have el:l'=cR G s l:=xP Gj jc;subst el;have qB:=L7.qB;have sB:=L7.sB;have hqs:=L7.qs;have s33:=AJ.size;have Tg:Kept (· =q) y nf:=AJ.trans wL (fun j hj e=>by have:=(QZ j e).1;omega);have PO:=wL.heap Dc.top (fun e=>by have:=(QZ q e).1;omega);have UD:=Dc.ov.aK wL (fun e=>by have:=(QZ sm e).1;omega);intro jG rM;have nn:Kept Nil nf jG:=(Kept.refl _ _).alloc _;have LY:jG.heap[nf.heap.size]? =some (.cells #[.slice none 0 0] aF (0,0)):=aM nf _;have rN:Kept Nil jG rM:=(Kept.refl _ _).alloc _;have Qk:rM.heap[jG.heap.size]? =some (.cells #[.nilFunc] fO (0,0)):=aM jG _;refine⟨dQ Qk (by simp),?_⟩;intro wK;have Vh:wK.heap[jG.heap.size]? =some (.cells #[.func (.func ct.id) #[] #[.pointer (some ⟨bs,0,none⟩),.pointer (some ⟨bc,0,none⟩),.pointer (some ⟨bh,0,none⟩)]] fO (0,0)):=by
   show(rM.setCell ⟨jG.heap.size,0,none⟩ _).heap[jG.heap.size]? =_;rw [du Qk 0];rfl
  have yR:Kept (· =jG.heap.size) rM wK:=Kept.setCell (S:=(· =jG.heap.size)) (Kept.refl _ rM) (p:=⟨jG.heap.size,0,none⟩) (fun _=>rfl) _;clear_value wK;have x7:=nn.tt rN;have Zq:=nn.size;have s36:=rN.size;have l35:=bf LY;have l36:=bf Qk;have Er:Kept Nil nf wK:=⟨yR.os.trans x7.os,yR.tape.trans x7.tape,yR.output.trans x7.output,Nat.le_trans x7.size yR.size,fun j hj hn=>by rw [yR.block j (Nat.lt_of_lt_of_le hj x7.size) (by omega),x7.block j hj hn]⟩;have acx:=yR.heap (rN.heap LY (fun h=>h)) (by omega);have l37:=bf Vh;clear_value rM jG;have FZ:Kept (· =q) y wK:=Tg.trans Er (fun _ _ h=>h.elim);have s34:=Tg.size;have s37:=FZ.size;have C37:CV wK F c k G m:=C.aK FZ (fun j hj e=>(iX j (.inl hj)).1 e) (fun j hj e=>(iX j (.inr (.inl hj))).1 e);have Iz:=Er.heap PO (fun h=>h);have Nr:=UD.aK Er (fun h=>h);have PV:cf wK y.heap.size A n cp (cR G s l):=Row.aK IJ Er (fun _ _ h=>h);have V37:VB wK c s bs bc bh q sm (fun _=>none):=⟨FZ.heap V.hs YM.1,FZ.heap V.hc YO.1,FZ.heap V.hh YN.1,by rw [bE,aE Iz];exact(gU ..).2.2.2,Nr⟩;have YF:∀a,A=some a->y.heap.size<=a.block/\a.block<nf.heap.size:=fun a ha=>by
   subst ha;obtain⟨g1,cur,g2⟩:=Row.bV IJ (k:=a.block) rfl;exact⟨g1,bf g2⟩
  have WB:mZ wK wK.heap.size q sm nf.heap.size ⟨s,G.score s+1,cR G s l,[]⟩ (fun _=>none) A n cp none 0 0:=
   ⟨Iz,PV.hs,fun a ha=>by have:=YF a ha;exact⟨by omega,by omega,by omega,by omega⟩,Row.nil _ _ _ _,Nr,by omega,by omega,by omega,⟨hqs,by omega,by omega⟩⟩
  refine⟨some ⟨q,0,none⟩,by rw [aE V37.hs];rfl,A,n,cp,WB.f33,?_⟩;have T4:(lf k G s l 0)=⟨G.world s++ [s],[]⟩:=rfl;refine Ca (l:=l) C37 hD o6 hs hc (fun x hx=>hLi x (by
   have h1:=(jc x).1 hx;rw [<-efl]at h1;exact(List.mem_filter.1 h1).1)) V37 Vh (fun j hj=>?_) ⟨⟨fun _=>none,none,0,0,none,0,0,[],WB,acx,cf.nil _ _,by rw [T4,List.append_nil],fun j hj=>by simp [bI]at hj,by rw [T4];exact C.Z |>.ov hs hc,?_,fun z hz=>by simp at hz,rfl⟩,Kept.refl _ _⟩ hnA fun v' ov E e ce h1 h2 h3=>?_
  ·have h1:j<y.heap.size\/j=jG.heap.size:=by
    rcases hj with h|h|h|h|h|h
    ·exact .inl (C.low j (.inl h))
    ·exact .inl (C.low j (.inr h))
    ·exact .inl (by omega)
    ·exact .inl (by omega)
    ·exact .inl (by omega)
    ·exact .inr h
   rcases h1 with h1|h1
   ·have h2:j≠q/\j≠sm:=by
     rcases hj with h|h|h|h|h|h
     ·exact iX j (.inl h)
     ·exact iX j (.inr (.inl h))
     ·exact iX j (.inr (.inr (.inl h)))
     ·exact iX j (.inr (.inr (.inr (.inl h))))
     ·exact iX j (.inr (.inr (.inr (.inr h))))
     ·omega
    exact⟨h2.1,h2.2,by omega⟩
   ·exact⟨by omega,by omega,by omega⟩
  ·rw [T4]
   obtain⟨g1,g2,_⟩:=C.iC.wd s hs;exact List.nodup_append.2 ⟨g1,by simp,fun a ha b hb e=>by
    have:b=s:=by simpa using hb
    subst this;subst e;exact fI.irrefl W a (g2 a ha)⟩
  ·refine hK v' wK.heap.size nf.heap.size ov A n cp E e ce h1 h2 (fun a ha=>(YF a ha).1) ⟨s37,h3.size⟩ ?_
   exact(FZ.mono fun _ _ h=>.inl h).trans h3 (fun j hj e=>by
    rcases e with e|e|e
    ·exact .inl e
    ·exact .inr e
    ·omega)
end
theorem Rc:Sd prog bL=some ([(0,32),(32,1),(33,1),(34,1)],List.replicate 32 (.int .u8 0)++ [.int .u64 0,.slice none 0 0,.slice none 0 0]):=by kernel_rfl
theorem wB(h:HT)(z:Int):prog.built bL [(0,.agg h.1),(1,.int .u64 z)]=some (h.1++ #[.int .u64 z,.slice none 0 0,.slice none 0 0]):=by
 have hs:=h.2.1;rw [ox Rc,jx (off:=0) (size:=32) rfl (by simpa [Value.cells]using hs) (by simp),jx (off:=32) (size:=1) rfl rfl (by
  rw [List.size_toArray,mK (by simp [Value.cells,hs])];simp)]
 simp only [Instr.fill,Option.some.injEq];apply Array.ext';unfold iI;simp [Value.cells,hs];rw [List.drop_append];simp [hs]
theorem Ms:Sd prog eK=some ([(0,35),(35,1)],List.replicate 32 (.int .u8 0)++ [.int .u64 0,.slice none 0 0,.slice none 0 0,.map none]):=by kernel_rfl
theorem yu(c:pB)(sm:Option Nat):prog.built eK [(0,.agg (dp c none 0 0 none 0 0)),(1,.map sm)]=some (dp c none 0 0 none 0 0++ #[.map sm]):=by
 have hs:=bJ c none 0 0 none 0 0;rw [ox Ms,jx (off:=0) (size:=35) rfl (by simpa [Value.cells]using hs) (by simp),jx (off:=35) (size:=1) rfl rfl (by
  rw [List.size_toArray,mK (by simp [Value.cells,hs])];simp)]
 simp only [Instr.fill,Option.some.injEq];apply Array.ext';unfold iI;simp [Value.cells,hs]
section
variable{g1 v w w':World}{F:Nat->Prop}{c k:Nat}{G:GS}{m:CM}{s:HT}{l ch:List HT}{bs bc bh q sm n cx:Nat}{A:Option Addr}{K:Value->World->Prop}
theorem Kz{N:Nat}(AX:E0 N)(hN:(tm G.D s l).length<=N)(C:CV g1 F c k G m)(hT:sS g1)(hD:G.D.length<=5000)(o6:k<=1000)(hs:s∈ids G.D)(hc:dH G.D G.P s ch)(hl:∀x∈l,x∈ids G.D)(CZ:HS g1 A n l)(hn:n<=5000)
 (V:VB g1 c s bs bc bh q sm (fun _=>none)) (jK:g1.heap[q]? =some (.cells (dp ⟨s,G.score s+1,[],[]⟩ none 0 0 none 0 0++ #[.map (some sm)]) eK (0,0)))
 (iX:∀j,(m.own c j\/F j\/j=bs\/j=bc\/j=bh)->j≠q/\j≠sm) (hqs:q≠sm) {p:Nat} (hp:∃mx,XV g1 m.FX m.x G.D G.P mx/\mx.g=p)
 (hK:∀v B bb ov A n cp E e ce,mZ v B q sm bb (dr k G s l) ov A n cp E e ce->OV G.D (iz k G s l).wd ov (nt m.sz ch)->(∀a,A=some a->g1.heap.size<=a.block)->(g1.heap.size<=B/\B<=v.heap.size)->Kept (fun j=>j=q\/j=sm) g1 v->K (.pointer (some ⟨q,0,none⟩)) v):
 bG prog aY.id #[.pointer (some ⟨p,0,none⟩),.slice A n cx] g1 fun i1 j1=>∃k1:Option Addr,∃m1 n1:Nat,i1=.slice k1 m1 n1/\
  ∃(o1:Option Addr) (p1 q1:Nat) (r1:World),(Builtin.append_ #[aF,aF] aF #[.slice k1 m1 n1,.slice A n cx]).run prog j1=.ok (.slice o1 p1 q1) r1/\
  bG prog jM.id #[.slice o1 p1 q1] r1 fun t1 u1=>∃v1:Option Addr,∃x1 y1:Nat,t1=.slice v1 x1 y1/\
  Holds none [] prog 153 (.loop (lB (bB (sR (sL (aS (sR (body ai.fn)))))))) (ai.q1 K)
   [(3,.pointer (some ⟨bc,0,none⟩)),(4,.pointer (some ⟨bh,0,none⟩)),(6,.pointer none),(8,.pointer (some ⟨bs,0,none⟩)),(46,.slice v1 x1 y1),(47,.int .i64 (x1:Int)),(48,.int .i64 0)] u1:=by
 have W:=C.iC.W;obtain⟨mx,X,rfl⟩:=hp;obtain⟨bl,c',mb,M,GG⟩:=X.G;have lq:=bf jK;have lsm:=V.ov.lt;refine wu GG W (by omega) hT CZ (by omega) fun A1 c1 w1 og k1=>⟨A1,_,c1,rfl,?_⟩;have rQ:(eN G.D l).length<=5000:=Nat.le_trans (oh _ _) hD;have s1:=k1.size;obtain⟨A2,c2,w2,jY,iw,g2,WQ⟩:=dd aF og (cx:=cx) (CZ.same k1) (by omega) s1;have k2:Kept (fun j=>g1.heap.size<=j) w1 w2:=(Kept.refl _ _).grown g2 fun j hj _=>(Row.bV og hj).1;have mu:Kept Nil g1 w2:=k1.trans k2 (fun j hj e=>by omega);refine⟨A2,_,c2,w2,jY,?_⟩;refine iT iw.hs (by omega) fun A3 c3 w3 nK k3=>⟨A3,_,c3,rfl,?_⟩;have jF:=mu.tt k3;have s02:=mu.size;have s03:=jF.size;have V3:=V.same jF;refine Cb (l:=l) AX hN (C.same jF) hD o6 hs hc hl V3 ⟨jF.heap jK (fun h=>h),cf.nil _ _,Row.nil _ _ _ _,V3.ov,by omega,by omega,hqs,fun j hj=>by simp [bI]at hj⟩ nK.hs (fun a ha=>?_) iX fun v B bb ov A n cp E e ce h1 h2 h3 h4 h5=>?_
 ·subst ha
  have:=(Row.bV nK (k:=a.block) rfl).1;omega
 ·exact hK v B bb ov A n cp E e ce h1 h2 (fun a ha=>Nat.le_trans s03 (h3 a ha)) ⟨Nat.le_trans s03 h4.1,h4.2⟩ ((jF.mono fun _ _ h=>h.elim).tt h5)
end
section
variable{w w':World}{F:Nat->Prop}{c k:Nat}{G:GS}{m:CM}{s:HT}{l ch:List HT}{n cx:Nat}{A:Option Addr}{K:Value->World->Prop}
set_option maxHeartbeats 4000000 in
theorem wc{N:Nat}(AX:E0 N)(hN:(tm G.D s l).length<=N)(C:CV w F c k G m)(hT:sS w)(hD:G.D.length<=5000)(o6:k<=1000)(hs:s∈ids G.D)(hc:dH G.D G.P s ch)(hl:∀x∈l,x∈ids G.D)(CZ:HS w A n l)(hn:n<=5000)
 (hK:∀v q B sm bb ov A n cp E e ce,mZ v B q sm bb (dr k G s l) ov A n cp E e ce->OV G.D (iz k G s l).wd ov (nt m.sz ch)->w.heap.size<=q->w.heap.size<=sm->(∀a,A=some a->w.heap.size<=a.block)->(w.heap.size<=B/\B<=v.heap.size)->Kept Nil w v->K (.pointer (some ⟨q,0,none⟩)) v):
 bG prog ai.id #[.pointer (some ⟨c,0,none⟩),.agg s.1,.slice A n cx] w K:=by
 refine ai.of ?_;unfold ai.W;intro w1 w2;have k1:Kept Nil w w1:=(Kept.refl _ _).alloc _;have VW:w1.heap[w.heap.size]? =some (.cells #[.pointer (some ⟨c,0,none⟩)] dG (0,0)):=aM w _;have k2:Kept Nil w1 w2:=(Kept.refl _ _).alloc _;have zA:w2.heap[w1.heap.size]? =some (.cells s.1 al (0,0)):=aM w1 _;clear_value w2;have I3:=k2.heap VW (fun h=>h);have mu:=k1.tt k2;have s1:=k1.size;have l1:=bf VW;have l2:=bf zA;clear_value w1;have C2:=C.same mu;obtain⟨mx2,X2,_⟩:=C2.X;refine⟨some ⟨c,0,none⟩,by rw [aE I3];rfl,_,C2.c1,gI.of (Split.no rfl (Is.mk rfl ⟨_,X2.c0,⟨_,rfl,?_⟩⟩))⟩;intro w3;have k3:Kept Nil w2 w3:=(Kept.refl _ _).drew;clear_value w3;have jF:=mu.tt k3;have VT:=k3.heap I3 (fun h=>h);have CP:=k3.heap zA (fun h=>h);have C3:=C.same jF;obtain⟨A1,n1,c1,B1,m1,d1,s1',sa⟩:=C3.seen s hs;have PT:G.score s<=5000:=by
  have h1:=(C.iC.wd s hs).2.2;have h2:=dL (m:=ids G.D) (C.iC.wd s hs).1 (fun b hb=>(((C.iC.wd s hs).2.1 b hb).mem C.iC.W).1);rw [iM]at h2;omega
 have ew:u64.wrap (((G.kr s).score:Int)+(1:Int))=((G.score s+1:Nat):Int):=by
  show u64.wrap ((G.score s:Int)+(1:Int))=_
  rw [show(G.score s:Int)+1=((G.score s+1:Nat):Int)by omega];exact kz (by omega)
 have nW:∀ {u:World},Kept Nil w3 u->u.cell? ⟨w.heap.size,0,none⟩=some (.pointer (some ⟨c,0,none⟩)):=fun ku=>by rw [aE (ku.heap VT (fun h=>h))];rfl
 have uU:∀ {u:World},Kept Nil w3 u->∃cs:Array Value,(.agg s.1:Value)=.agg cs/\cs.size=32/\Cells u ⟨w1.heap.size,0,none⟩ cs:=fun ku=>⟨s.1,rfl,s.2.1,Cells.bV (ku.heap CP (fun h=>h))⟩;have mG:∀ {u:World},Kept Nil w3 u->u.cell? (((⟨m.q s,0,none⟩:Addr).add 0).add 32)=some (.int .u64 ((G.kr s).score:Int)):=fun ku=>(sa.aK ku (fun _ _ h=>h)).Xd;have l3:=bf CP;have s3:=k3.size;refine⟨s.1,⟨s.2.1,Cells.bV CP⟩,some ⟨c,0,none⟩,nW (Kept.refl _ _),_,C3.c2,s.1,⟨s.2.1,Cells.bV CP⟩,_,C3.qT hs,_,mG (Kept.refl _ _),?_⟩;rw [ew];rw [wB s];refine Is.mk rfl ?_;have GH:(s.1++ #[.int .u64 ((G.score s+1:Nat):Int),.slice none 0 0,.slice none 0 0]:Array Value)=dp ⟨s,G.score s+1,[],[]⟩ none 0 0 none 0 0:=rfl;rw [GH];have go:∀ {u:World} {q sm bs:Nat},Kept Nil w3 u->w3.heap.size<=q->w3.heap.size<=sm->w3.heap.size<=bs->q≠sm->bs≠q->bs≠sm->
  u.heap[q]? =some (.cells (dp ⟨s,G.score s+1,[],[]⟩ none 0 0 none 0 0++ #[.map (some sm)]) eK (0,0))->gh u sm (fun _=>none)->u.heap[bs]? =some (.cells #[.pointer (some ⟨q,0,none⟩)] fL (0,0))->_:=
  fun {u q sm bs} ku hq vS Yw h1 h2 h3 jK Qe jE=>Kz (g1:=u) (bs:=bs) (bc:=w.heap.size) (bh:=w1.heap.size) (q:=q) (sm:=sm) (cx:=cx) (K:=K) (p:=mx2.g) AX hN (C3.same ku) (hT.same (jF.tt ku)) hD o6 hs hc hl (CZ.same (jF.tt ku)) hn
   ⟨jE,ku.heap VT (fun h=>h),ku.heap CP (fun h=>h),by rw [bE,aE jK];exact(gU ..).2.2.2,Qe⟩ jK
   (fun j hj=>by
     rcases hj with h|h|h|h|h
     ·have:=C.low j (.inl h);exact⟨by omega,by omega⟩
     ·have:=C.low j (.inr h);exact⟨by omega,by omega⟩
     ·exact⟨by omega,by omega⟩
     ·exact⟨by omega,by omega⟩
     ·exact⟨by omega,by omega⟩) h1 ⟨mx2,X2.same (k3.tt ku),rfl⟩
   (fun v B bb ov A n cp E e ce t1 t2 t3 t4 t5=>hK v q B sm bb ov A n cp E e ce t1 t2 (by omega) (by omega) (fun a ha=>by have:=t3 a ha;have:=(jF.tt ku).size;omega) ⟨by have:=(jF.tt ku).size;have:=t4.1;omega,t4.2⟩ ((jF.tt ku).trans t5 (fun j hj e=>by omega)))
 have OP:∀ {u0:World} {b q:Nat},u0.heap[b]? =some (.cells #[.pointer none] fL (0,0))->Wr u0 ⟨b,0,none⟩/\∀u1,u1=u0.setCell ⟨b,0,none⟩ (.pointer (some ⟨q,0,none⟩))->u1.heap[b]? =some (.cells #[.pointer (some ⟨q,0,none⟩)] fL (0,0))/\Kept (· =b) u0 u1:=fun {u0 b q} hb=>⟨dQ hb (by simp),fun u1 e=>by
  subst e;refine⟨?_,Kept.setCell (S:=(· =b)) (Kept.refl _ u0) (p:=⟨b,0,none⟩) (fun _=>rfl) _⟩;rw [du hb 0];rfl⟩
 refine⟨?_,?_⟩
 ·intro w4
  have k4:Kept Nil w3 w4:=(Kept.refl _ _).alloc _;have hm4:gh w4 w3.heap.size (fun _=>none):=gh.new w3;clear_value w4;have l4:=hm4.lt;refine⟨mG k4,(C3.same k4).qT hs,uU k4,(C3.same k4).c2,nW k4,uU k4,?_⟩;rw [yu];refine Is.mk rfl ⟨?_,?_⟩
  ·intro w5 w6
   have k5:Kept Nil w4 w5:=(Kept.refl _ _).alloc _;have hq5:w5.heap[w4.heap.size]? =some (.cells (dp ⟨s,G.score s+1,[],[]⟩ none 0 0 none 0 0++ #[.map (some w3.heap.size)]) eK (0,0)):=aM w4 _;have k6:Kept Nil w5 w6:=(Kept.refl _ _).alloc _;have p7:w6.heap[w5.heap.size]? =some (.cells #[.pointer none] fL (0,0)):=aM w5 _;clear_value w6;have Us:=k6.heap hq5 (fun h=>h);have l5:=bf hq5;clear_value w5;have JX:=k5.tt k6;have rN:=k4.tt JX;have s36:=rN.size;obtain⟨t1,t2⟩:=OP (q:=w4.heap.size) p7;refine⟨t1,?_⟩;intro w7;obtain⟨t3,t4⟩:=t2 w7 rfl;clear_value w7;exact go (rN.trans t4 (fun j hj e=>by omega)) (by omega) (by omega) (by omega) (by omega) (by omega) (by omega) (t4.heap Us (by omega)) ((hm4.same JX).aK t4 (by omega)) t3
  ·intro w5
   have k5:Kept Nil w4 w5:=(Kept.refl _ _).alloc _;have pF:w5.heap[w4.heap.size]? =some (.cells #[.pointer none] fL (0,0)):=aM w4 _;clear_value w5;have l5:=bf pF;have nn:=k4.tt k5;refine⟨mG nn,(C3.same nn).qT hs,uU nn,(C3.same nn).c2,nW nn,uU nn,?_⟩;intro w6;have k6:Kept Nil w5 w6:=(Kept.refl _ _).alloc _;have Us:w6.heap[w5.heap.size]? =some (.cells (dp ⟨s,G.score s+1,[],[]⟩ none 0 0 none 0 0++ #[.map (some w3.heap.size)]) eK (0,0)):=aM w5 _;clear_value w6;have JX:=k5.tt k6;have rN:=k4.tt JX;have Zq:=nn.size;obtain⟨t1,t2⟩:=OP (q:=w5.heap.size) (k6.heap pF (fun h=>h));refine⟨t1,?_⟩;intro w7;obtain⟨t3,t4⟩:=t2 w7 rfl;clear_value w7;exact go (rN.trans t4 (fun j hj e=>by omega)) (by omega) (by omega) (by omega) (by omega) (by omega) (by omega) (t4.heap Us (by omega)) ((hm4.same JX).aK t4 (by omega)) t3
 ·intro w4
  have k4:Kept Nil w3 w4:=(Kept.refl _ _).alloc _;have ui:w4.heap[w3.heap.size]? =some (.cells #[.pointer none] fL (0,0)):=aM w3 _;clear_value w4;have l4:=bf ui;refine⟨mG k4,(C3.same k4).qT hs,uU k4,(C3.same k4).c2,nW k4,uU k4,?_⟩;intro w5;have k5:Kept Nil w4 w5:=(Kept.refl _ _).alloc _;have hm5:gh w5 w4.heap.size (fun _=>none):=gh.new w4;clear_value w5;have l5:=hm5.lt;have nn:=k4.tt k5;refine⟨mG nn,(C3.same nn).qT hs,uU nn,(C3.same nn).c2,nW nn,uU nn,?_⟩;rw [yu];refine Is.mk rfl ?_;intro w6;have k6:Kept Nil w5 w6:=(Kept.refl _ _).alloc _;have Us:w6.heap[w5.heap.size]? =some (.cells (dp ⟨s,G.score s+1,[],[]⟩ none 0 0 none 0 0++ #[.map (some w4.heap.size)]) eK (0,0)):=aM w5 _;clear_value w6;have rN:=nn.tt k6;have Zq:=nn.size;obtain⟨t1,t2⟩:=OP (q:=w5.heap.size) ((k5.tt k6).heap ui (fun h=>h));refine⟨t1,?_⟩;intro w7;obtain⟨t3,t4⟩:=t2 w7 rfl;clear_value w7;exact go (rN.trans t4 (fun j hj e=>by omega)) (by omega) (by omega) (by omega) (by omega) (by omega) (by omega) (t4.heap Us (by omega)) ((hm5.same k6).aK t4 (by omega)) t3
end
end Go.Proofs.YtfleamccglihoaaGreatDoor
