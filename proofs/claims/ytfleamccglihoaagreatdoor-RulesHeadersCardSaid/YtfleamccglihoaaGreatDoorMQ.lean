import Derived.Test.YtfleamccglihoaaGreatDoorMP
import Derived.Test.YtfleamccglihoaaGreatDoorMG
open Go.IntKind (i64 u64)
set_option linter.unusedVariables false
namespace Go.Proofs.YtfleamccglihoaaGreatDoor
open Go.Proofs.Tryz
open Go Go.b0 Go.RowKit
theorem Cj:zI prog iu ju 1 1:=⟨by kernel_rfl,by kernel_rfl⟩
abbrev tH(l:List Bool):List Value:=l.map .bool
structure zJ(w:World)(B q sm:Nat)(c:pz)(ov:HT->Option Nat)(A:Option Addr)(n cp:Nat)(E:Option Addr)(e ce:Nat):Prop where
 top:w.heap[q]? =some (.cells (dp c A n cp E e ce++ #[.map (some sm)]) eJ (0,0))
 mg:cr w B A n cp c.merge
 bl:Row w B ju 1 E e ce (tH c.gm)
 ov:gg w sm (KJ ov)
 qB:q<B
 sB:sm<B
 qs:q≠sm
 AE:∀j,bH A=some j->bH E≠some j
section
variable{w w':World}{B q sm:Nat}{c:pz}{ov:HT->Option Nat}{A E:Option Addr}{n cp e ce:Nat}{K:Value->World->Prop}
theorem zJ.aK{S:Nat->Prop}(h:zJ w B q sm c ov A n cp E e ce)(hk:Kept S w w')(h1:¬S q)(h2:¬S sm)(h3:∀j,B<=j->¬S j):zJ w' B q sm c ov A n cp E e ce:=
 ⟨hk.heap h.top h1,Row.aK h.mg hk (fun j hj=>h3 j (Row.bV h.mg hj).1),Row.aK h.bl hk (fun j hj=>h3 j (Row.bV h.bl hj).1),h.ov.aK hk h2,h.qB,h.sB,h.qs,h.AE⟩
theorem zJ.same(h:zJ w B q sm c ov A n cp E e ce)(hk:Kept Nil w w'):zJ w' B q sm c ov A n cp E e ce:=h.aK hk (fun h=>h) (fun h=>h) (fun _ _ h=>h)
theorem zJ.f33(h:zJ w B q sm c ov A n cp E e ce):w.cell? (((⟨q,0,none⟩:Addr).add 0).add 33)=some (.slice A n cp):=by rw [add_zero,bD,aE h.top];exact(gR ..).2.1
theorem zJ.adO(h:zJ w B q sm c ov A n cp E e ce):∀j,bH A=some j\/bH E=some j->B<=j/\j<w.heap.size:=fun j hj=>by
 rcases hj with hj|hj
 ·obtain⟨h1,cur,h2⟩:=Row.bV h.mg hj;exact⟨h1,bf h2⟩
 ·obtain⟨h1,cur,h2⟩:=Row.bV h.bl hj;exact⟨h1,bf h2⟩
theorem rI(c:pz)(A:Option Addr)(n cp:Nat)(E:Option Addr)(e ce:Nat)(r:Array Value)(A':Option Addr)(n' xo:Nat):
 (dp c A n cp E e ce++r).setIfInBounds (0+33) (.slice A' n' xo)=dp c A' n' xo E e ce++r:=by
 have h0:c.ns.1.size=32:=c.ns.2.1;apply Array.ext';unfold dp;simp only [Array.toList_setIfInBounds,Array.toList_append,List.append_assoc];rw [List.set_append_right _ _ (by simp [h0])];simp [h0]
theorem rH(c:pz)(A:Option Addr)(n cp:Nat)(E:Option Addr)(e ce:Nat)(r:Array Value)(E':Option Addr)(n' xo:Nat):
 (dp c A n cp E e ce++r).setIfInBounds (0+34) (.slice E' n' xo)=dp c A n cp E' n' xo++r:=by
 have h0:c.ns.1.size=32:=c.ns.2.1;apply Array.ext';unfold dp;simp only [Array.toList_setIfInBounds,Array.toList_append,List.append_assoc];rw [List.set_append_right _ _ (by simp [h0])];simp [h0]
theorem wy(c:pz)(A:Option Addr)(n cp:Nat)(E:Option Addr)(e ce:Nat)(r:Array Value)(s:Nat):
 (dp c A n cp E e ce++r).setIfInBounds (0+32) (.int .u64 (s:Int))=dp {c with score:=s} A n cp E e ce++r:=by
 have h0:c.ns.1.size=32:=c.ns.2.1;apply Array.ext';unfold dp;simp only [Array.toList_setIfInBounds,Array.toList_append,List.append_assoc];rw [List.set_append_right _ _ (by simp [h0])];simp [h0]
theorem zJ.SJ(h:zJ w B q sm c ov A n cp E e ce)(hB:B<=w.heap.size)(hn:n<=100000){x:HT}{b:Nat}(hb:HS w (some ⟨b,0,none⟩) 1 [x]):
 ∃A' xo u,(Builtin.append_ #[aF,aF] aF #[.slice A n cp,.slice (some ⟨b,0,none⟩) 1 1]).run prog w=.ok (.slice A' (n+1) xo) u/\
  Kept (fun j=>B<=j) w u/\zJ (u.setCell (((⟨q,0,none⟩:Addr).add 0).add 33) (.slice A' (n+1) xo)) B q sm {c with merge:=c.merge++ [x]} ov A' (n+1) xo E e ce/\
  Kept (fun j=>j=q\/B<=j) w (u.setCell (((⟨q,0,none⟩:Addr).add 0).add 33) (.slice A' (n+1) xo))/\Wr u (((⟨q,0,none⟩:Addr).add 0).add 33):=by
 obtain⟨A',xo,u,hr,fO,hg,hA⟩:=dd aF h.mg (cx:=1) hb (by omega) hB;have ku:Kept (fun j=>B<=j) w u:=(Kept.refl _ _).grown hg fun j hj _=>(Row.bV h.mg hj).1;have kA:Kept (fun j=>bH A=some j) w u:=(Kept.refl _ _).grown hg fun j hj _=>hj;have qB:=h.qB;have sB:=h.sB;have jJ:=ku.heap h.top (by omega);have C6:Row u B ju 1 E e ce (tH c.gm):=Row.aK h.bl kA (fun j hj e=>h.AE j e hj);have qN:Kept (· =q) u (u.setCell (((⟨q,0,none⟩:Addr).add 0).add 33) (.slice A' (n+1) xo)):=by
  rw [add_zero,bD];exact Kept.setCell (S:=(· =q)) (Kept.refl _ u) (p:=⟨q,0+33,none⟩) (fun _=>rfl) _
 have iV:∀ {X:Option Addr} {j:Nat},(∀k,bH X=some k->B<=k)->bH X=some j->¬j=q:=fun h hj e=>by have:=h _ hj;omega
 refine⟨A',xo,u,hr,ku,⟨?_,?_,?_,?_,qB,sB,h.qs,?_⟩,?_,?_⟩
 ·show(u.setCell (((⟨q,0,none⟩:Addr).add 0).add 33) (.slice A' (n+1) xo)).heap[q]? =_
  rw [add_zero,bD,du jJ,rI];rfl
 ·exact Row.aK fO qN (fun j hj=>iV (fun k hk=>(Row.bV fO hk).1) hj)
 ·exact Row.aK C6 qN (fun j hj=>iV (fun k hk=>(Row.bV C6 hk).1) hj)
 ·exact(h.ov.aK ku (by omega)).aK qN (fun e=>h.qs e.symm)
 ·intro j hj he
  rcases hA j hj with h1|h1
  ·exact h.AE j h1 he
  ·have:=(h.adO j (.inr he)).2;omega
 ·exact(ku.mono fun _ _ h=>.inr h).trans qN (fun _ _ e=>.inl e)
 ·rw [add_zero,bD]
  exact dP jJ (by rw [Array.size_append,bI];simp)
end
structure mY(w:World)(B q sm bb:Nat)(c:pz)(ov:HT->Option Nat)(A:Option Addr)(n cp:Nat)(E:Option Addr)(e ce:Nat):Prop where
 top:w.heap[q]? =some (.cells (dp c A n cp E e ce++ #[.map (some sm)]) eJ (0,0))
 mg:HS w A n c.merge
 mA:∀a,A=some a->a.block<B/\a.block≠q/\a.block≠sm/\a.block≠bb
 bl:Row w B ju 1 E e ce (tH c.gm)
 ov:gg w sm (KJ ov)
 qB:q<B
 sB:sm<B
 bB:bb<B
 qs:q≠sm/\q≠bb/\sm≠bb
section
variable{w w':World}{B q sm bb:Nat}{c:pz}{ov:HT->Option Nat}{A E:Option Addr}{n cp e ce:Nat}{K:Value->World->Prop}
theorem mY.aK{S:Nat->Prop}(h:mY w B q sm bb c ov A n cp E e ce)(hk:Kept S w w')(h1:¬S q)(h2:¬S sm)(h3:∀j,B<=j->j<w.heap.size->¬S j)(h4:∀a,A=some a->¬S a.block):mY w' B q sm bb c ov A n cp E e ce:=
 ⟨hk.heap h.top h1,h.mg.aK hk h4,h.mA,Row.aK h.bl hk (fun j hj=>by obtain⟨g1,cur,g2⟩:=Row.bV h.bl hj;exact h3 j g1 (bf g2)),h.ov.aK hk h2,h.qB,h.sB,h.bB,h.qs⟩
theorem mY.same(h:mY w B q sm bb c ov A n cp E e ce)(hk:Kept Nil w w'):mY w' B q sm bb c ov A n cp E e ce:=h.aK hk (fun h=>h) (fun h=>h) (fun _ _ _ h=>h) (fun _ _ h=>h)
theorem mY.f32(h:mY w B q sm bb c ov A n cp E e ce):w.cell? (((⟨q,0,none⟩:Addr).add 0).add 32)=some (.int .u64 (c.score:Int)):=by rw [add_zero,bD,aE h.top];exact(gR ..).1
theorem mY.f33(h:mY w B q sm bb c ov A n cp E e ce):w.cell? (((⟨q,0,none⟩:Addr).add 0).add 33)=some (.slice A n cp):=by rw [add_zero,bD,aE h.top];exact(gR ..).2.1
theorem mY.f34(h:mY w B q sm bb c ov A n cp E e ce):w.cell? (((⟨q,0,none⟩:Addr).add 0).add 34)=some (.slice E e ce):=by rw [add_zero,bD,aE h.top];exact(gR ..).2.2.1
theorem mY.f35(h:mY w B q sm bb c ov A n cp E e ce):w.cell? ((⟨q,0,none⟩:Addr).add 35)=some (.map (some sm)):=by rw [bD,aE h.top];exact(gR ..).2.2.2
theorem mY.wr(h:mY w B q sm bb c ov A n cp E e ce){j:Nat}(hj:j<36):Wr w (((⟨q,0,none⟩:Addr).add 0).add j):=by
 rw [add_zero,bD];exact dP h.top (by rw [Array.size_append,bI];simp;omega)
theorem mY.Sw{h:mY w B q sm bb c ov A n cp E e ce}(j:Nat)(v:Value):Kept (· =q) w (w.setCell (((⟨q,0,none⟩:Addr).add 0).add j) v):=by
 rw [add_zero,bD];exact Kept.setCell (S:=(· =q)) (Kept.refl _ w) (p:=⟨q,0+j,none⟩) (fun _=>rfl) _
theorem mY.HN(h:mY w B q sm bb c ov A n cp E e ce)(hB:B<=w.heap.size)(hn:e<=100000){x:Bool}{b:Nat}(hb:w.cell? ⟨b,0,none⟩=some (.bool x)):
 ∃E' sU u,(Builtin.append_ #[iu,iu] iu #[.slice E e ce,.slice (some ⟨b,0,none⟩) 1 1]).run prog w=.ok (.slice E' (e+1) sU) u/\
  Kept (fun j=>B<=j/\bH E=some j) w u/\Wr u (((⟨q,0,none⟩:Addr).add 0).add 34)/\
  mY (u.setCell (((⟨q,0,none⟩:Addr).add 0).add 34) (.slice E' (e+1) sU)) B q sm bb {c with gm:=c.gm++ [x]} ov A n cp E' (e+1) sU/\
  Kept (fun j=>j=q\/bH E=some j) w (u.setCell (((⟨q,0,none⟩:Addr).add 0).add 34) (.slice E' (e+1) sU))/\(∀j,bH E'=some j->bH E=some j\/w.heap.size<=j):=by
 obtain⟨E',sU,u,hr,fO,hg,hE⟩:=fY (P:=prog) (t:=iu) (bytes:=1) (ty:=iu) Cj h.bl (a:=⟨b,0,none⟩) (m:=1) (cx:=1) (news:= [.bool x]) rfl (fun j v hj=>by
  cases j with
  |zero=>simp only [List.getElem?_cons_zero,Option.some.injEq]at hj;subst hj;rw [add_zero];exact hb
  |succ j=>simp at hj) (fun v hv=>by
  have:v=.bool x:=by simpa using hv
  subst this;rfl) (by omega) (by unfold maxLen;omega) hB
 have qB:=h.qB;have sB:=h.sB;have kE:Kept (fun j=>B<=j/\bH E=some j) w u:=(Kept.refl _ _).grown hg fun j hj _=>⟨(Row.bV h.bl hj).1,hj⟩;have jJ:=kE.heap h.top (by omega);have qN:Kept (· =q) u (u.setCell (((⟨q,0,none⟩:Addr).add 0).add 34) (.slice E' (e+1) sU)):=by
  rw [add_zero,bD];exact Kept.setCell (S:=(· =q)) (Kept.refl _ u) (p:=⟨q,0+34,none⟩) (fun _=>rfl) _
 refine⟨E',sU,u,hr,kE,?_,⟨?_,?_,h.mA,?_,?_,qB,sB,h.bB,h.qs⟩,?_,hE⟩
 ·rw [add_zero,bD]
  exact dP jJ (by rw [Array.size_append,bI];simp)
 ·show(u.setCell (((⟨q,0,none⟩:Addr).add 0).add 34) (.slice E' (e+1) sU)).heap[q]? =_
  rw [add_zero,bD,du jJ,rH];rfl
 ·exact(h.mg.aK kE (fun a ha=>by have:=(h.mA a ha).1;omega)).aK qN (fun a ha=>(h.mA a ha).2.1)
 ·have e1:tH (c.gm++ [x])=tH c.gm++ [.bool x]:=by simp [tH]
  show Row _ B ju 1 E' (e+1) sU (tH (c.gm++ [x]))
  rw [e1];exact Row.aK fO qN (fun j hj=>by have:=(Row.bV fO hj).1;omega)
 ·exact(h.ov.aK kE (by omega)).aK qN (fun e=>h.qs.1 e.symm)
 ·exact(kE.mono fun _ _ h=>.inr h.2).trans qN (fun _ _ e=>.inl e)
theorem mY.OM(h:mY w B q sm bb c ov A n cp E e ce)(s:Nat):
 mY (w.setCell (((⟨q,0,none⟩:Addr).add 0).add 32) (.int .u64 (s:Int))) B q sm bb {c with score:=s} ov A n cp E e ce/\Kept (· =q) w (w.setCell (((⟨q,0,none⟩:Addr).add 0).add 32) (.int .u64 (s:Int))):=by
 have qB:=h.qB;have qN:=mY.Sw (h:=h) 32 (.int .u64 (s:Int));refine⟨⟨?_,h.mg.aK qN (fun a ha=>(h.mA a ha).2.1),h.mA,Row.aK h.bl qN (fun j hj=>by have:=(Row.bV h.bl hj).1;omega),h.ov.aK qN (fun e=>h.qs.1 e.symm),h.qB,h.sB,h.bB,h.qs⟩,qN⟩;rw [add_zero,bD,du h.top,wy]
theorem mY.note(h:mY w B q sm bb c ov A n cp E e ce)(b:HT)(n0:Nat):
 ∃u,(Instr.mapUpdate cV (.map (some sm)) (.agg b.1) (.int .i64 (n0:Int))).run prog w=.ok () u/\mY u B q sm bb c (fun y=>if y=b then some n0 else ov y) A n cp E e ce/\Kept (· =sm) w u:=by
 have sB:=h.sB;obtain⟨u,hr,hm,hk⟩:=h.ov.put sq b (.int .i64 (n0:Int));refine⟨u,hr,⟨hk.heap h.top h.qs.1,h.mg.aK hk (fun a ha=>(h.mA a ha).2.2.1),h.mA,Row.aK h.bl hk (fun j hj=>by have:=(Row.bV h.bl hj).1;omega),?_,h.qB,h.sB,h.bB,h.qs⟩,hk⟩;have e1:KJ (fun y=>if y=b then some n0 else ov y)=fun x=>if x=b then some (.int .i64 (n0:Int))else KJ ov x:=by
  funext y
  unfold KJ;by_cases e:y=b
  ·simp only [if_pos e,Option.map_some]
  ·simp only [if_neg e]
 rw [e1];exact hm
end
noncomputable def la(k:Nat)(G:GS)(s:HT)(l:List HT)(i:Nat):VS:=((cP G s l).take i).foldl (rV k G.D) ⟨G.world s++ [s],[]⟩
structure V2(y v:World)(k:Nat)(G:GS)(s:HT)(l:List HT)(base:HT->Nat)(q sm bb:Nat)(A:Option Addr)(n cp i:Nat):Prop where
 ex:∃(ov:HT->Option Nat) (E:Option Addr) (e ce:Nat) (Ab:Option Addr) (nb cb:Nat) (bl:List HT),
  mY v y.heap.size q sm bb ⟨s,G.score s+1+(la k G s l i).bl.count true,cP G s l,(la k G s l i).bl⟩ ov A n cp E e ce/\
  v.heap[bb]? =some (.cells #[.slice Ab nb cb] aF (0,0))/\cr v y.heap.size Ab nb cb bl/\(la k G s l i).wd=G.world s++ [s]++bl/\(∀j,bH Ab=some j->bH E≠some j)/\
  OV G.D (la k G s l i).wd ov base/\(la k G s l i).wd.Nodup/\(∀z∈bl,z∈(cP G s l).take i)/\e=i
 kp:Kept (fun j=>j=q\/j=sm\/j=bb) y v
theorem mY.H6{w w':World}{B q sm bb:Nat}{c:pz}{ov:HT->Option Nat}{A E:Option Addr}{n cp e ce:Nat}{S:Nat->Prop}(h:mY w B q sm bb c ov A n cp E e ce)(hk:Kept S w w')(h1:¬S q)(h2:¬S sm)(h3:∀j,bH E=some j->¬S j)(h4:∀a,A=some a->¬S a.block):mY w' B q sm bb c ov A n cp E e ce:=
 ⟨hk.heap h.top h1,h.mg.aK hk h4,h.mA,Row.aK h.bl hk h3,h.ov.aK hk h2,h.qB,h.sB,h.bB,h.qs⟩
theorem zQ{k:Nat}{G:GS}{s:HT}{l:List HT}{i:Nat}{x:HT}(hx:(cP G s l)[i]? =some x):la k G s l (i+1)=rV k G.D (la k G s l i) x:=by
 unfold la;have e:(cP G s l).take (i+1)=(cP G s l).take i++ [x]:=by rw [List.take_add_one,hx];rfl
 rw [e,List.foldl_append];rfl
theorem DU(k:Nat)(G:GS)(s:HT)(l:List HT)(i:Nat)(hi:i<=(cP G s l).length):(la k G s l i).bl.length=i:=by
 obtain⟨b,h1,h2⟩:=Hr k G.D (G.world s++ [s]) ((cP G s l).take i);unfold la;rw [h2];show b.length=i
 rw [h1,List.length_take];omega
theorem DV(k:Nat)(G:GS)(s:HT)(l:List HT):la k G s l (cP G s l).length=iw k G s l:=by
 unfold la iw;rw [List.take_of_length_le (Nat.le_refl _)]
section
variable{y v w w':World}{F:Nat->Prop}{c k:Nat}{G:GS}{m:CM}{s:HT}{l ch:List HT}{bs bc bh q sm bb kb n cp:Nat}{A:Option Addr}{K:Value->World->Prop}
set_option maxHeartbeats 4000000 in
theorem Cb(C:CV y F c k G m)(hD:G.D.length<=5000)(o5:k<=1000)(hs:s∈ids G.D)(hc:dG G.D G.P s ch)(hM:∀x∈cP G s l,x∈ids G.D)
 (V:VB y c s bs bc bh q sm (fun _=>none)) (Ny:y.heap[kb]? =some (.cells #[.func (.func ct.id) #[] #[.pointer (some ⟨bs,0,none⟩),.pointer (some ⟨bc,0,none⟩),.pointer (some ⟨bh,0,none⟩)]] fN (0,0)))
 (iV:∀j,(m.own c j\/F j\/j=bs\/j=bc\/j=bh\/j=kb)->j≠q/\j≠sm/\j≠bb)
 (h0:V2 y y k G s l (nt m.sz ch) q sm bb A n cp 0) (hn:n<=5000)
 (hK:∀v ov E e ce,mY v y.heap.size q sm bb (dr k G s l) ov A n cp E e ce->OV G.D (iw k G s l).wd ov (nt m.sz ch)->Kept (fun j=>j=q\/j=sm\/j=bb) y v->K (.pointer (some ⟨q,0,none⟩)) v):
 Holds none [] prog 153 (.loop (lB (bB (sR (sL (fT (body ai.fn))))))) (ai.q2 K)
  [(3,.pointer (some ⟨bc,0,none⟩)),(6,.pointer none),(8,.pointer (some ⟨bs,0,none⟩)),(11,.pointer (some ⟨bb,0,none⟩)),(12,.func (.func ag.id) #[] #[.pointer (some ⟨bb,0,none⟩),.pointer (some ⟨bc,0,none⟩),.pointer (some ⟨bh,0,none⟩)]),(13,.pointer (some ⟨kb,0,none⟩)),(92,.slice A n cp),(93,.int .i64 (n:Int)),(94,.int .i64 0)] y:=by
 have W:=C.iA.W;have hmn:(cP G s l).Nodup:=(mH G s l).nodup;have U3:(cP G s l).length=n:=by obtain⟨_,_,_,_,_,_,_,_,h,_⟩:=h0.ex;exact h.mg.len
 have lbs:=bf V.hs;have lbc:=bf V.hc;have lbh:=bf V.hh;have lkb:=bf Ny;have YH:=iV bs (.inr (.inr (.inl rfl)));have YJ:=iV bc (.inr (.inr (.inr (.inl rfl))));have YI:=iV bh (.inr (.inr (.inr (.inr (.inl rfl)))));have fkb:=iV kb (.inr (.inr (.inr (.inr (.inr rfl)))));refine ai.iz (I:=fun s0 v=>∃i:Nat,s0=(i:Int)/\i<=n/\V2 y v k G s l (nt m.sz ch) q sm bb A n cp i) (μ:=fun s0 _=>((n:Int)-s0).toNat) (s:=0) ⟨0,rfl,Nat.zero_le _,h0⟩ ?_;rintro s0 v ⟨i,rfl,hi,hV⟩;obtain⟨ov,E,e,ce,Ab,nb,cb,bl,hS,xm,fO,RH,hAE,hO,gU,vQ,hie⟩:=hV.ex;have kv:=hV.kp;have sv:=kv.size;refine Split.dec (fun jY=>?_) (fun gF=>?_)
 ·have dW:i<n:=by omega
  obtain⟨x,hx⟩:∃x,(cP G s l)[i]? =some x:=⟨_,List.getElem?_eq_getElem (by omega)⟩;have RF:=hM x (List.mem_of_getElem? hx);have XR:x∉(la k G s l i).wd:=by
   rw [RH];intro hm;obtain⟨_,g1,g2⟩:=kO.1 (List.mem_of_getElem? hx);rcases List.mem_append.1 hm with hm|hm
   ·rcases List.mem_append.1 hm with hm|hm
    ·exact g2 ((C.iA.wd s hs).2.1 x hm)
    ·exact g1 (by simpa using hm)
   ·have h1:=vQ x hm
    obtain⟨j,hj⟩:=List.mem_iff_getElem?.1 h1;rw [List.getElem?_take]at hj;split at hj
    ·rename_i Kh
     have h2:=(lgeS hj);have h3:=(lgeS hx);have:=(List.getElem_inj hmn).1 (h2.2.trans h3.2.symm);omega
    ·cases hj
  have nu:=zQ (k:=k) hx;refine hS.mg.load (i:=(i:Int)) (by omega) hx ?_;intro pC;obtain⟨tA,kh,kH⟩:=iN (w:=v) (z:=fG.1) (cs:=x.1) (t:=al) (by rw [x.2.1];rfl);refine⟨⟨x.2.1,x.2.one,fun j hj=>tA j (by rw [x.2.1];exact hj)⟩,?_⟩;intro jh
  replace kh:jh.heap[v.heap.size]? =some (.cells x.1 al (0,0)):=kh
  replace kH:Kept Nil v jh:=kH
  clear_value jh;intro nW nf;have uc:Kept Nil jh nW:=(Kept.refl _ _).alloc _;have UX:gg nW jh.heap.size (fun _=>none):=gg.new jh;have ry:Kept Nil nW nf:=(Kept.refl _ _).alloc _;have Qy:nf.heap[nW.heap.size]? =some (.cells #[.map none] cV (0,0)):=aM nW _;refine⟨dP Qy (by simp),?_⟩;intro xF;have VF:xF.heap[nW.heap.size]? =some (.cells #[.map (some jh.heap.size)] cV (0,0)):=by
   show(nf.setCell ⟨nW.heap.size,0,none⟩ (.map (some jh.heap.size))).heap[nW.heap.size]? =_;rw [du Qy 0];rfl
  have Ih:Kept (· =nW.heap.size) nf xF:=Kept.setCell (S:=(· =nW.heap.size)) (Kept.refl _ nf) (p:=⟨nW.heap.size,0,none⟩) (fun _=>rfl) _;clear_value xF;have s14:=kH.size;have s15:=uc.size;have l14:=bf kh;have l15:=UX.lt;have l16:=bf Qy;have Il:Kept Nil jh xF:=⟨Ih.os.trans (uc.tt ry).os,Ih.tape.trans (uc.tt ry).tape,Ih.output.trans (uc.tt ry).output,Nat.le_trans (uc.tt ry).size Ih.size,fun j hj hn=>by rw [Ih.block j (Nat.lt_of_lt_of_le hj (uc.tt ry).size) (by omega),(uc.tt ry).block j hj hn]⟩;have abj:gg xF jh.heap.size (fun _=>none):=(UX.same ry).aK Ih (by omega);have NJ:=Il.heap kh (fun h=>h);clear_value nf nW;have KX:Kept Nil v xF:=kH.tt Il;have F0:Kept (fun j=>j=q\/j=sm\/j=bb) y xF:=kv.trans KX (fun _ _ h=>h.elim);have QQ:=hS.same KX;have C17:CV xF F c k G m:=C.aK F0 (fun j hj e=>by have:=iV j (.inl hj);omega) (fun j hj e=>by have:=iV j (.inr (.inl hj));omega);have V17:VB xF c s bs bc bh q sm ov:=⟨F0.heap V.hs (by omega),F0.heap V.hc (by omega),F0.heap V.hh (by omega),QQ.f35,QQ.ov⟩;have Va:=F0.heap Ny (by omega);have IJ:cr xF y.heap.size Ab nb cb bl:=Row.aK fO KX (fun _ _ h=>h);have NU:=KX.heap xm (fun h=>h);refine⟨x.1,⟨x.2.1,Cells.bV NJ⟩,?_⟩;have qB:=hS.qB;have sB:=hS.sB;have bB:=hS.bB;have I6:∀b∈(la k G s l i).wd,sA ov (nt m.sz ch) b=(cg G.D (la k G s l i).wd b).length:=hO.kn;have uF:=gU;rw [RH]at uF;obtain⟨c1,c2,c3⟩:=Ml C.iA (h:=x) hs hc uF;rw [<-RH]at c2 c3;have VZ:=fO.len;have P4:nb<=5000:=by
   have h1:=dK (m:=cP G s l) (List.nodup_append.1 uF).2.1 (fun z hz=>List.mem_of_mem_take (vQ z hz));omega
  have QV:∀a,Ab=some a->a.block<jh.heap.size:=fun a ha=>by
   subst ha;obtain⟨_,cur,h1⟩:=Row.bV fO (k:=a.block) rfl;have:=bf h1;omega
  refine Bm (p:=⟨bs,bc,bh,q,sm,kb,nW.heap.size,jh.heap.size,0,0⟩) ⟨C17,V17,Va,VF,(fun e=>by have:jh.heap.size<y.heap.size:=C.low _ (.inl e);omega),(fun e=>by have:jh.heap.size<y.heap.size:=C.low _ (.inr e);omega),(show bs≠jh.heap.size/\bc≠jh.heap.size/\bh≠jh.heap.size/\q≠jh.heap.size/\sm≠jh.heap.size/\kb≠jh.heap.size/\nW.heap.size≠jh.heap.size from⟨by omega,by omega,by omega,by omega,by omega,by omega,by omega⟩)⟩ hD o5 hs hc (h:=x) NU (by show bb≠jh.heap.size;omega) IJ.hs (fun a ha=>by have:=QV a ha;show a.block≠jh.heap.size;omega) (by omega) (by
   show gg xF jh.heap.size _
   have e0:(fun y=>if y∈([]:List HT)then some (Value.int .i64 (sA ov (nt m.sz ch) y:Int))else none)=fun _=>none:=by funext y;simp
   rw [e0];exact abj) c1 fun Fc r hr hFr BP=>⟨r,rfl,?_⟩
  replace BP:Kept (· =jh.heap.size) xF Fc:=BP
  have NL:r=qY k G.D (la k G s l i).wd x:=by rw [hr];exact Jw I6 c2 c3
  have WI:∀j,bH E=some j->y.heap.size<=j/\j<v.heap.size:=fun j hj=>by obtain⟨g1,cur,g2⟩:=Row.bV hS.bl hj;exact⟨g1,bf g2⟩
  have Jh:∀j,bH Ab=some j->y.heap.size<=j/\j<v.heap.size:=fun j hj=>by obtain⟨g1,cur,g2⟩:=Row.bV fO hj;exact⟨g1,bf g2⟩
  have s17:=Il.size;have acJ:=QQ.H6 BP (by omega) (by omega) (fun j hj=>by have:=WI j hj;omega) (fun a ha=>by have:=(hS.mA a ha).1;omega);have PU:cr Fc y.heap.size Ab nb cb bl:=Row.aK IJ BP (fun j hj=>by have:=Jh j hj;omega);have KR:Kept (fun j=>j=q\/j=sm\/j=bb) y Fc:=F0.trans BP (fun j hj e=>by omega);have V9:=BP.heap NU (by omega);have VV:=BP.heap NJ (by omega);have abR:=BP.heap VF (by omega);intro zN;have Ie:Kept Nil Fc zN:=(Kept.refl _ _).drew;clear_value zN;have Je:=acJ.same Ie;have AN:=KR.trans Ie (fun _ _ h=>h.elim);have AZ:∀ {u:World} {S:Nat->Prop},Kept S y u->¬S bs->u.cell? ⟨bs,0,none⟩=some (.pointer (some ⟨q,0,none⟩)):=fun ku hb=>by rw [aE (ku.heap V.hs hb)];rfl
  have MG:¬(bs=q\/bs=sm\/bs=bb):=by omega
  have s21:=AN.size;refine⟨_,AZ AN MG,_,AZ AN MG,E,e,ce,Je.f34,?_⟩;intro mC;have rQ:Kept Nil zN mC:=(Kept.refl _ _).alloc _;have LW:mC.heap[zN.heap.size]? =some (.cells #[.bool r] ju (0,0)):=aM zN _;clear_value mC;have Jc:=Je.same rQ;have vM:=AN.trans rQ (fun _ _ h=>h.elim);have Zm:=vM.size;obtain⟨E',sU,u,Ub,kE,aad,Jb,k5,hE5⟩:=Jc.HN (by omega) (by omega) (x:=r) (b:=zN.heap.size) (by rw [aE LW];rfl);have ZB:Kept (fun j=>j=q\/j=sm\/j=bb) y u:=vM.trans kE (fun j hj e=>by have:=WI j e.2;omega);refine⟨Jc.f34,AZ vM MG,AZ vM MG,E',e+1,sU,u,Ub,AZ ZB MG,aad,?_⟩;intro wQ
  replace Jb:mY wQ y.heap.size q sm bb _ ov A n cp E' (e+1) sU:=Jb
  replace k5:Kept (fun j=>j=q\/bH E=some j) mC wQ:=k5
  clear_value wQ;have O1:Kept (fun j=>j=q\/j=sm\/j=bb) y wQ:=vM.trans k5 (fun j hj e=>by
   rcases e with e|e
   ·exact .inl e
   ·have:=WI j e;omega)
  have Ig:Kept (fun j=>j=q\/bH E=some j) Fc wQ:=((Ie.tt rQ).mono fun _ _ h=>h.elim).tt k5;have ad5:=(Ie.tt rQ).size;have s20:=BP.size;have II:cr wQ y.heap.size Ab nb cb bl:=Row.aK PU Ig (fun j hj e=>by
   have:=Jh j hj;rcases e with e|e
   ·omega
   ·exact hAE j hj e)
  have NT:=Ig.heap V9 (fun e=>by
   rcases e with e|e
   ·exact hS.qs.2.1 e.symm
   ·have:=WI bb e;omega)
  have QW:∀j,bH Ab=some j->bH E'≠some j:=fun j hj he=>by
   rcases hE5 j he with h1|h1
   ·exact hAE j hj h1
   ·have:=Jh j hj;omega
  have Na:∀z∈bl,z∈(cP G s l).take (i+1):=fun z hz=>by
   have h1:=vQ z hz;rw [List.take_add_one];exact List.mem_append_left _ h1
  cases r with
  |false=>
   refine Split.yes rfl ?_;rw [dE (n:=(i:Int)) (by omega) (by omega)];have yY:la k G s l (i+1)=⟨(la k G s l i).wd,(la k G s l i).bl++ [false]⟩:=by rw [nu,rV,<-NL];rfl
   refine⟨(i:Int)+1,rfl,⟨i+1,rfl,dW,⟨ov,E',e+1,sU,Ab,nb,cb,bl,?_,NT,II,?_,QW,?_,?_,Na,by omega⟩,O1⟩,by simp only;omega⟩
   ·rw [yY]
    simpa [List.count_append]using Jb
   ·rw [yY];exact RH
   ·rw [yY];exact hO
   ·rw [yY];exact gU
  |true=>
   refine Split.no rfl ?_;have QS:=hFr rfl
   replace QS:zv Fc jh.heap.size (sA ov (nt m.sz ch)) (o8 G x bl ch):=QS
   have cY:=(ql.1 hr.symm).2;have rU:=dK (m:=ids G.D) c1 (fun z hz=>by
    have h1:=(gK.1 ((c3 z).1 hz)).1;rw [RH]at h1;rcases List.mem_append.1 h1 with h1|h1
    ·rcases List.mem_append.1 h1 with h1|h1
     ·exact(((C.iA.wd s hs).2.1 z h1).mem W).1
     ·have:z=s:=by simpa using h1
      subst this;exact hs
    ·exact hM z (List.mem_of_mem_take (vQ z h1)))
   rw [iK]at rU;generalize kI:o8 G x bl ch=ly at*;generalize abq:sA ov (nt m.sz ch)=kn at*;have PO:G.score s<=5000:=by
    have h1:=(C.iA.wd s hs).2.2;have h2:=dK (m:=ids G.D) (C.iA.wd s hs).1 (fun b hb=>(((C.iA.wd s hs).2.1 b hb).mem W).1);rw [iK]at h2;omega
   have abY:(la k G s l i).bl.count true<=5000:=by
    have h1:=List.count_le_length (a:=true) (l:=(la k G s l i).bl);rw [DU k G s l i (by omega)]at h1;omega
   generalize EA:G.score s+1+(la k G s l i).bl.count true=sc at*;have ew:u64.wrap ((sc:Int)+(1:Int))=((sc+1:Nat):Int):=by
    rw [show(sc:Int)+1=((sc+1:Nat):Int)by omega];exact kz (by omega)
   refine⟨_,AZ O1 MG,_,Jb.f32,Jb.wr (by omega),?_⟩;intro uR qu;have acH:mY uR y.heap.size q sm bb ⟨s,sc+1,cP G s l,(la k G s l i).bl++ [true]⟩ ov A n cp E' (e+1) sU:=by
    show mY (wQ.setCell (((⟨q,0,none⟩:Addr).add 0).add 32) (.int .u64 (u64.wrap ((sc:Int)+(1:Int))))) _ _ _ _ _ _ _ _ _ _ _ _
    rw [ew];exact(Jb.OM (sc+1)).1
   have G6:Kept (· =q) wQ uR:=mY.Sw (h:=Jb) 32 _;have zx:Kept Nil uR qu:=(Kept.refl _ _).drew;clear_value qu uR;have Da:=acH.same zx;have Er:Kept (· =q) wQ qu:=G6.trans zx (fun _ _ h=>h.elim);have AM:=O1.trans Er (fun j hj e=>.inl e);have Es:Kept (fun j=>j=q\/bH E=some j) Fc qu:=Ig.trans Er (fun j hj e=>.inl e);have Jo:∀j,v.heap.size<=j->¬(j=q\/bH E=some j):=fun j hj e=>by
    rcases e with e|e
    ·omega
    ·have:=WI j e;omega
   have NI:=Es.heap VV (Jo _ (Nat.le_refl _));have VE:=Es.heap abR (Jo _ (by omega));have WG:zv qu jh.heap.size kn ly:=QS.aK Es (Jo _ (by omega));have Ql:∀z,(if z∈ly then some (Value.int .i64 (kn z:Int))else none)≠none↔z∈ly:=fun z=>by
    by_cases hz:z∈ly
    ·rw [if_pos hz];exact⟨fun _=>hz,fun _ e=>by cases e⟩
    ·rw [if_neg hz];exact⟨fun e=>absurd rfl e,fun e=>absurd e hz⟩
   obtain⟨rO,aaJ,Wx,rP⟩:=Da.note x ly.length;have s33:=Es.size;have ZD:=AM.trans rP (fun j hj e=>.inr (.inl e));have acU:zv rO jh.heap.size kn ly:=WG.aK rP (by omega);have abQ:=rP.heap VE (by omega);have VU:=rP.heap NI (by omega);have PS:cr rO y.heap.size Ab nb cb bl:=Row.aK (Row.aK II Er (fun j hj e=>by have:=Jh j hj;omega)) rP (fun j hj e=>by have:=Jh j hj;omega);have V7:=rP.heap (Er.heap NT (fun e=>hS.qs.2.1 e.symm)) (fun e=>hS.qs.2.2 e.symm);obtain⟨w38,BZ,aaI,hit,RC⟩:=acU.range sq;have s36:=rP.size;have s38:=RC.size;refine⟨_,AZ AM MG,some sm,Da.f35,x.1,⟨x.2.1,Cells.bV NI⟩,some jh.heap.size,by rw [aE VE];rfl,ly.length,WG.len sq im c1 Ql,rO,aaJ,some jh.heap.size,by rw [aE abQ];rfl,_,w38,aaI,?_⟩;refine ai.sr (I:=fun _ u=>∃left BZ ME,o9 u jh.heap.size rO.heap.size (fun z=>if z∈ly then some (Value.int .i64 (kn z:Int))else none) left BZ/\mY u y.heap.size q sm bb ⟨s,sc+1,cP G s l,(la k G s l i).bl++ [true]⟩ ME A n cp E' (e+1) sU/\
    (∀z,(left z->z∈ly)/\(z∈ly->¬left z->ME z=some (kn z+1))/\((z∉ly\/left z)->ME z=if z=x then some ly.length else ov z))/\Kept (fun j=>j=sm\/j=rO.heap.size) w38 u) (μ:=fun _ u=>u.rangeLeft jh.heap.size rO.heap.size) (s:=())
    ⟨_,BZ,_,hit,Wx.same RC,fun z=>⟨fun hz=>(Ql z).1 hz,fun hz hl=>absurd ((Ql z).2 hz) hl,fun _=>rfl⟩,Kept.refl _ _⟩ ?_
   rintro s1 u3 ⟨left,ala,ME,Qh,QP,hinv,ku⟩;have Ze:=ku.size;have lit:=Qh.lt;have ky3:Kept (fun j=>j=q\/j=sm\/j=bb) y u3:=(ZD.trans RC (fun _ _ h=>h.elim)).trans ku (fun j hj e=>by
    rcases e with e|e
    ·exact .inr (.inl e)
    ·omega)
   rcases Qh.next 0 with⟨h0',UH,jX⟩|⟨z,val,u4,adp,hl,hfz,jX,abT,abr,di,k4⟩
   ·refine .inl ⟨u3,jX,?_⟩
    rw [aU,ai.yA];unfold ai.tM;have V8:=ku.heap (RC.heap V7 (fun h=>h)) (by have:=hS.qs;omega);have Gx:=ku.heap (RC.heap VU (fun h=>h)) (by omega);have Ud:cr u3 y.heap.size Ab nb cb bl:=Row.aK (Row.aK PS RC (fun _ _ h=>h)) ku (fun j hj e=>by have:=Jh j hj;omega);refine⟨Ab,nb,cb,by rw [aE V8];rfl,x.1,⟨x.2.1,Cells.bV Gx⟩,x.2.1,?_⟩;intro JR;have RB:Kept Nil u3 JR:=(Kept.refl _ _).alloc _;have Z8:HS JR (some ⟨u3.heap.size,0,none⟩) 1 [x]:=jE u3 x;clear_value JR;have s50:=RB.size;have PQ:cr JR y.heap.size Ab nb cb bl:=Row.aK Ud RB (fun _ _ h=>h);obtain⟨A6,c6,Hn,PX,Mz,g51,ac2⟩:=dd aF PQ (cx:=1) Z8 (by omega) (by omega);have XK:Kept (fun j=>bH Ab=some j) JR Hn:=(Kept.refl _ _).grown g51 fun j hj _=>hj;have NR:=XK.heap (RB.heap V8 (fun h=>h)) (fun e=>by have:=Jh bb e;omega);refine⟨A6,nb+1,c6,Hn,PX,dP NR (by simp),?_⟩;intro Mu;have V1:Mu.heap[bb]? =some (.cells #[.slice A6 (nb+1) c6] aF (0,0)):=by
     show(Hn.setCell ⟨bb,0,none⟩ (.slice A6 (nb+1) c6)).heap[bb]? =_;rw [du NR 0];rfl
    have H8:Kept (· =bb) Hn Mu:=Kept.setCell (S:=(· =bb)) (Kept.refl _ Hn) (p:=⟨bb,0,none⟩) (fun _=>rfl) _;clear_value Mu;have wY:Kept (fun j=>bH Ab=some j\/j=bb) u3 Mu:=((RB.mono fun _ _ h=>h.elim).trans XK (fun _ _ h=>.inl h):Kept (fun j=>bH Ab=some j\/j=bb) u3 Hn).trans H8 (fun _ _ h=>.inr h);have acG:mY Mu y.heap.size q sm bb ⟨s,sc+1,cP G s l,(la k G s l i).bl++ [true]⟩ ME A n cp E' (e+1) sU:=QP.H6 wY
     (fun e=>e.elim (fun e=>by have:=Jh q e;omega) (fun e=>hS.qs.2.1 e)) (fun e=>e.elim (fun e=>by have:=Jh sm e;omega) (fun e=>hS.qs.2.2 e))
     (fun j hj e=>e.elim (fun e=>QW j e hj) (fun e=>by have:=(Row.bV QP.bl hj).1;omega)) (fun a ha e=>e.elim (fun e=>by have:=Jh _ e;have:=(hS.mA a ha).1;omega) (fun e=>(hS.mA a ha).2.2.2 e))
    have tT:cr Mu y.heap.size A6 (nb+1) c6 (bl++ [x]):=Row.aK Mz H8 (fun j hj e=>by have:=(Row.bV Mz hj).1;omega);rw [dE (n:=(i:Int)) (by omega) (by omega)];have yY:la k G s l (i+1)=⟨(la k G s l i).wd++ [x],(la k G s l i).bl++ [true]⟩:=by rw [nu,rV,<-NL];rfl
    have aa0:ME=Ap G.D (la k G s l i).wd ov (nt m.sz ch) x:=by
     funext z
     unfold Ap;rw [abq];by_cases hz:z∈ly
     ·rw [if_pos ((c3 z).1 hz)]
      exact(hinv z).2.1 hz (UH z)
     ·rw [if_neg (fun e=>hz ((c3 z).2 e)),(hinv z).2.2 (.inl hz),c2]
    refine⟨(i:Int)+1,rfl,⟨i+1,rfl,dW,⟨ME,E',e+1,sU,A6,nb+1,c6,bl++ [x],?_,V1,tT,?_,?_,?_,?_,?_,by omega⟩,?_⟩,by simp only;omega⟩
    ·rw [yY]
     have ec:G.score s+1+((la k G s l i).bl++ [true]).count true=sc+1:=by rw [List.count_append,<-EA];simp;omega
     show mY Mu y.heap.size q sm bb ⟨s,G.score s+1+((la k G s l i).bl++ [true]).count true,cP G s l,(la k G s l i).bl++ [true]⟩ ME A n cp E' (e+1) sU
     rw [ec];exact acG
    ·rw [yY]
     show(la k G s l i).wd++ [x]=_;rw [RH,List.append_assoc]
    ·intro j hj he
     rcases ac2 j hj with h1|h1
     ·exact QW j h1 he
     ·obtain⟨_,cur,h2⟩:=Row.bV QP.bl he
      have:=bf h2;omega
    ·rw [yY,aa0]
     exact hO.step XR
    ·rw [yY]
     exact List.nodup_append.2 ⟨gU,by simp,fun a ha b hb e=>by
      have:b=x:=by simpa using hb
      subst this;subst e;exact XR ha⟩
    ·intro z hz
     rcases List.mem_append.1 hz with hz|hz
     ·exact Na z hz
     ·have:z=x:=by simpa using hz
      subst this;rw [List.take_add_one,hx];simp
    ·exact ky3.trans wY (fun j hj e=>by
      rcases e with e|e
      ·have:=Jh j e;omega
      ·exact .inr (.inr e))
   ·have Z1:=(hinv z).1 hl
    rw [if_pos Z1]at hfz;cases hfz;have hkz:=cY z Z1;refine .inr ⟨_,_,u4,jX,z.1,(kn z:Int),abT,?_⟩;intro JQ;obtain⟨PD,Bi,y7⟩:=iN (w:=u4) (z:=fG.1) (cs:=z.1) (t:=al) (by rw [z.2.1];rfl);refine⟨⟨z.2.1,z.2.one,fun j hj=>PD j (by rw [z.2.1];exact hj)⟩,?_⟩;intro Xt Rm
    replace Bi:Xt.heap[u4.heap.size]? =some (.cells z.1 al (0,0)):=Bi
    replace y7:Kept Nil u4 Xt:=y7
    have XF:Kept Nil Xt Rm:=(Kept.refl _ _).drew;clear_value Rm Xt;have acj:=XF.heap Bi (fun h=>h);have MQ:=y7.tt XF;have En:Kept (· =rO.heap.size) u3 Rm:=k4.trans MQ (fun _ _ h=>h.elim);have hE3:∀j,bH E'=some j->j≠rO.heap.size:=fun j hj e=>by
     obtain⟨_,cur,h2⟩:=Row.bV Wx.bl hj;have:=bf h2;omega
    have Wv:=QP.H6 En (by omega) (by omega) (fun j hj e=>hE3 j hj e) (fun a ha e=>by have:=(hS.mA a ha).1;omega);have ZC:Kept (fun j=>j=q\/j=sm\/j=bb) y Rm:=ky3.trans En (fun j hj e=>by omega);have Nz:=abr.aK MQ (fun h=>h) (fun h=>h);obtain⟨Fi,Uk,Wy,CE⟩:=Wv.note z (kn z+1);have ekz:i64.wrap ((kn z:Int)+(1:Int))=((kn z+1:Nat):Int):=by rw [dE (n:=(kn z:Int)) (by omega) (by omega)];omega
    have s3:=En.size;refine⟨_,AZ ZC MG,some sm,Wv.f35,z.1,⟨z.2.1,Cells.bV acj⟩,Fi,by rw [ekz];exact Uk,?_⟩;refine⟨(),rfl,⟨_,adp,_,Nz.aK CE (by omega) (by omega),Wy,fun y'=>?_,?_⟩,?_⟩
    ·obtain⟨i1,i2,i3⟩:=hinv y'
     refine⟨fun h=>i1 h.1,fun h1 h2=>?_,fun h=>?_⟩
     ·by_cases e:y'=z
      ·subst e;simp only [if_true]
      ·simp only [if_neg e]
       exact i2 h1 (fun h=>h2 ⟨h,e⟩)
     ·have e:y'≠z:=by
       rcases h with h|h
       ·exact fun e=>h (by rw [e];exact Z1)
       ·exact h.2
      simp only [if_neg e];exact i3 (h.imp_right fun h=>h.1)
    ·exact(ku.trans En (fun j hj e=>.inr e)).trans CE (fun j hj e=>.inl e)
    ·show Fi.rangeLeft jh.heap.size rO.heap.size<u3.rangeLeft jh.heap.size rO.heap.size
     rw [Qh.left_eq,(Nz.aK CE (by omega) (by omega)).left_eq];exact di
 ·rw [aU,ai.ki]
  have:i=n:=by omega
  subst this;have e1:=DV k G s l;rw [U3]at e1;rw [e1]at hS hO;have hsq:v.heap[bs]? =some (.cells #[.pointer (some ⟨q,0,none⟩)] fK (0,0)):=kv.heap V.hs (by omega);exact⟨some ⟨q,0,none⟩,by rw [aE hsq];rfl,hK v ov E e ce hS hO kv⟩
end
def E5(N:Nat):Prop:=∀ {w:World} {F:Nat->Prop} {c k:Nat} {G:GS} {m:CM} {B:Nat} {A:Option Addr} {n cx:Nat} {l:List HT} {K:Value->World->Prop},CV w F c k G m->cr w B A n cx l->n<=N->l.Nodup->(∀x∈l,x∈ids G.D)->
 (∀j,bH A=some j->¬m.own c j/\¬F j)->(∀l' w',SO G l'->(∀x,x∈l'↔x∈l)->cr w' B A n cx l'->Kept (fun j=>bH A=some j) w w'->K (.tuple #[]) w')->
 bE prog jz.id #[.slice A n cx,.func (.func bL.id) #[.pointer (some ⟨c,0,none⟩)] #[]] w K
section
variable{y v w w':World}{F:Nat->Prop}{c k:Nat}{G:GS}{m:CM}{s:HT}{l ch:List HT}{bs bc bh q sm nL cL:Nat}{AL:Option Addr}{K:Value->World->Prop}
set_option maxHeartbeats 4000000 in
theorem Cc{N:Nat}(AY:E5 N)(hN:(tm G.D s l).length<=N)(C:CV y F c k G m)(hD:G.D.length<=5000)(o5:k<=1000)(hs:s∈ids G.D)(hc:dG G.D G.P s ch)(hl:∀x∈l,x∈ids G.D)
 (V:VB y c s bs bc bh q sm (fun _=>none)) (hS:zJ y y.heap.size q sm ⟨s,G.score s+1,[],[]⟩ (fun _=>none) none 0 0 none 0 0)
 (hL:HS y AL nL (dB (eM G.D l++l))) (hAL:∀a,AL=some a->a.block≠q)
 (iV:∀j,(m.own c j\/F j\/j=bs\/j=bc\/j=bh)->j≠q/\j≠sm)
 (hK:∀v B bb ov A n cp E e ce,mY v B q sm bb (dr k G s l) ov A n cp E e ce->OV G.D (iw k G s l).wd ov (nt m.sz ch)->(∀a,A=some a->y.heap.size<=a.block)->(y.heap.size<=B/\B<=v.heap.size)->Kept (fun j=>j=q\/j=sm) y v->K (.pointer (some ⟨q,0,none⟩)) v):
 Holds none [] prog 153 (.loop (lB (bB (sR (sL (aS (sR (body ai.fn)))))))) (ai.q1 K)
  [(3,.pointer (some ⟨bc,0,none⟩)),(4,.pointer (some ⟨bh,0,none⟩)),(6,.pointer none),(8,.pointer (some ⟨bs,0,none⟩)),(46,.slice AL nL cL),(47,.int .i64 (nL:Int)),(48,.int .i64 0)] y:=by
 have W:=C.iA.W;have lbs:=bf V.hs;have lbc:=bf V.hc;have lbh:=bf V.hh;have YH:=iV bs (.inr (.inr (.inl rfl)));have YJ:=iV bc (.inr (.inr (.inr (.inl rfl))));have YI:=iV bh (.inr (.inr (.inr (.inr rfl))));have afZ:=hL.len;have hLi:∀x∈dB (eM G.D l++l),x∈ids G.D:=fun x hx=>by
  rcases List.mem_append.1 (dV.1 hx)with h|h
  ·exact(km.1 h).1
  ·exact hl x h
 have hLn:nL<=5000:=by
  have:=dK (jy _).nodup hLi;rw [iK]at this;omega
 generalize hLL:dB (eM G.D l++l)=L at*;refine ai.cJ (I:=fun s0 v=>∃i:Nat,s0=(i:Int)/\i<=nL/\(∃A n cp,zJ v y.heap.size q sm ⟨s,G.score s+1,(L.take i).filter fun h=>decide (h≠s/\¬fH G.D h s),[]⟩ (fun _=>none) A n cp none 0 0)/\Kept (· =q) y v) (μ:=fun s0 _=>((nL:Int)-s0).toNat) (s:=0) ⟨0,rfl,Nat.zero_le _,⟨none,0,0,hS⟩,Kept.refl _ _⟩ ?_;rintro s0 v ⟨i,rfl,hi,⟨A,n,cp,L4⟩,kv⟩;have sv:=kv.size;have U4:=cr.len L4.mg;have hnA:n<=5000:=by
  have h1:=List.length_filter_le (fun h=>decide (h≠s/\¬fH G.D h s)) (L.take i);have h2:=List.length_take_le i L;have h3:((L.take i).filter fun h=>decide (h≠s/\¬fH G.D h s)).length=n:=U4;omega
 refine Split.dec (fun jY=>?_) (fun gF=>?_)
 ·have dW:i<nL:=by omega
  obtain⟨x,hx⟩:∃x,L[i]? =some x:=⟨_,List.getElem?_eq_getElem (by omega)⟩;have GF:L.take (i+1)=L.take i++ [x]:=by rw [List.take_add_one,hx];rfl
  have hLv:HS v AL nL L:=hL.aK kv hAL;refine hLv.load (i:=(i:Int)) (by omega) hx ?_;intro pC;obtain⟨tA,kh,kH⟩:=iN (w:=v) (z:=fG.1) (cs:=x.1) (t:=al) (by rw [x.2.1];rfl);refine⟨⟨x.2.1,x.2.one,fun j hj=>tA j (by rw [x.2.1];exact hj)⟩,?_⟩;intro jh nW
  replace kh:jh.heap[v.heap.size]? =some (.cells x.1 al (0,0)):=kh
  replace kH:Kept Nil v jh:=kH
  have uc:Kept Nil jh nW:=(Kept.refl _ _).drew;clear_value nW jh;have I4:=uc.heap kh (fun h=>h);have O6:=kH.tt uc;have F5:Kept (· =q) y nW:=kv.trans O6 (fun _ _ h=>h.elim);have C15:CV nW F c k G m:=C.aK F5 (fun j hj e=>(iV j (.inl hj)).1 e) (fun j hj e=>(iV j (.inr (.inl hj))).1 e);have hcy:∀ {u:World},Kept (· =q) y u->u.cell? ⟨bc,0,none⟩=some (.pointer (some ⟨c,0,none⟩)):=fun ku=>by rw [aE (ku.heap V.hc YJ.1)];rfl
  have T5:∀ {u:World},Kept (· =q) y u->u.cell? ⟨bs,0,none⟩=some (.pointer (some ⟨q,0,none⟩)):=fun ku=>by rw [aE (ku.heap V.hs YH.1)];rfl
  have next:∀ {u:World} {A':Option Addr} {n' xo:Nat},zJ u y.heap.size q sm ⟨s,G.score s+1,(L.take (i+1)).filter fun h=>decide (h≠s/\¬fH G.D h s),[]⟩ (fun _=>none) A' n' xo none 0 0->Kept (· =q) y u->
   ∃s1:Int,i64.wrap ((i:Int)+(1:Int))=s1/\(∃i':Nat,s1=(i':Int)/\i'<=nL/\(∃A n cp,zJ u y.heap.size q sm ⟨s,G.score s+1,(L.take i').filter fun h=>decide (h≠s/\¬fH G.D h s),[]⟩ (fun _=>none) A n cp none 0 0)/\Kept (· =q) y u)/\((nL:Int)-s1).toNat<((nL:Int)-(i:Int)).toNat:=fun h1 h2=>by
   rw [dE (n:=(i:Int)) (by omega) (by omega)];exact⟨(i:Int)+1,rfl,⟨i+1,rfl,dW,⟨_,_,_,h1⟩,h2⟩,by omega⟩
  refine⟨x.1,⟨x.2.1,Cells.bV I4⟩,s.1,⟨s.2.1,Cells.bV (F5.heap V.hh YI.1)⟩,⟨x.2.ints,s.2.ints⟩,?_⟩;rw [fy];by_cases Lf:x=s
  ·refine Split.no (by rw [decide_eq_true Lf];rfl) ?_
   obtain⟨s1,e1,e2,e3⟩:=next (u:=nW) (by
    rw [GF,List.filter_append];have: [x].filter (fun h=>decide (h≠s/\¬fH G.D h s))= []:=by rw [List.filter_cons_of_neg (by simp [Lf])];rfl
    rw [this,List.append_nil];exact L4.same O6) F5
   rw [e1];exact⟨s1,rfl,e2,e3⟩
  ·refine Split.yes (by rw [decide_eq_false Lf];rfl) ⟨_,hcy F5,_,C15.c1,x.1,⟨x.2.1,Cells.bV I4⟩,s.1,⟨s.2.1,Cells.bV (F5.heap V.hh YI.1)⟩,?_⟩
   obtain⟨mx,X15,_⟩:=C15.X;refine lr X15 hD x s fun Fc r hr BP=>⟨r,rfl,?_⟩;have KR:Kept (· =q) y Fc:=F5.trans BP (fun _ _ h=>h.elim);have Tl:=O6.tt BP;cases r with
   |true=>
    refine Split.no rfl ?_;obtain⟨s1,e1,e2,e3⟩:=next (u:=Fc) (by
     rw [GF,List.filter_append];have: [x].filter (fun h=>decide (h≠s/\¬fH G.D h s))= []:=by rw [List.filter_cons_of_neg (by simp [hr.1 rfl])];rfl
     rw [this,List.append_nil];exact L4.same Tl) KR
    rw [e1];exact⟨s1,rfl,e2,e3⟩
   |false=>
    refine Split.yes rfl ?_;intro zN;have Ie:Kept Nil Fc zN:=(Kept.refl _ _).drew;clear_value zN;have ZJ:=Tl.tt Ie;have AN:Kept (· =q) y zN:=KR.trans Ie (fun _ _ h=>h.elim);have Je:=L4.same ZJ;refine⟨_,T5 AN,_,T5 AN,A,n,cp,Je.f33,x.1,⟨x.2.1,Cells.bV ((BP.tt Ie).heap I4 (fun h=>h))⟩,x.2.1,?_⟩;intro mC;have rQ:Kept Nil zN mC:=(Kept.refl _ _).alloc _;have aac:HS mC (some ⟨zN.heap.size,0,none⟩) 1 [x]:=jE zN x;clear_value mC;have Jc:=Je.same rQ;have vM:Kept (· =q) y mC:=AN.trans rQ (fun _ _ h=>h.elim);have Zm:=vM.size;obtain⟨A',xo,u,Ub,ku,Jb,k5,hw5⟩:=Jc.SJ Zm (by omega) aac;have ZB:Kept (· =q) y u:=vM.trans ku (fun j hj e=>by omega);refine⟨Jc.f33,T5 vM,T5 vM,A',n+1,xo,u,Ub,T5 ZB,hw5,?_⟩;intro wQ
    replace Jb:zJ wQ y.heap.size q sm _ (fun _=>none) A' (n+1) xo none 0 0:=Jb
    replace k5:Kept (fun j=>j=q\/y.heap.size<=j) mC wQ:=k5
    clear_value wQ;obtain⟨s1,e1,e2,e3⟩:=next (u:=wQ) (by
     rw [GF,List.filter_append];have: [x].filter (fun h=>decide (h≠s/\¬fH G.D h s))= [x]:=by rw [List.filter_cons_of_pos (by simp only [decide_eq_true_eq];exact⟨Lf,fun e=>by have:=hr.2 e;cases this⟩)];rfl
     rw [this];exact Jb) (vM.trans k5 (fun j hj e=>by
      rcases e with e|e
      ·exact e
      ·omega))
    rw [e1];exact⟨s1,rfl,e2,e3⟩
 ·rw [aU,ai.dw]
  have gC:i=nL:=by omega
  subst gC;rw [List.take_of_length_le (by omega)]at L4;unfold ai.df;intro qu;have zx:Kept Nil v qu:=(Kept.refl _ _).drew;clear_value qu;have Da:=L4.same zx;have AM:Kept (· =q) y qu:=kv.trans zx (fun _ _ h=>h.elim);have C33:CV qu F c k G m:=C.aK AM (fun j hj e=>(iV j (.inl hj)).1 e) (fun j hj e=>(iV j (.inr (.inl hj))).1 e);have efl:(L.filter fun h=>decide (h≠s/\¬fH G.D h s))=tm G.D s l:=by unfold tm;rw [hLL]
  have CP:cr qu y.heap.size A n cp (tm G.D s l):=by rw [<-efl];exact Da.mg
  have QV:∀j,bH A=some j->y.heap.size<=j/\j<qu.heap.size:=fun j hj=>by obtain⟨g1,cur,g2⟩:=Row.bV CP hj;exact⟨g1,bf g2⟩
  refine⟨some ⟨q,0,none⟩,by rw [aE (AM.heap V.hs YH.1)];rfl,A,n,cp,Da.f33,some ⟨c,0,none⟩,by rw [aE (AM.heap V.hc YJ.1)];rfl,?_⟩;refine AY C33 CP (by have:=cr.len CP;omega) (rl _ _ _) (fun x hx=>hLi x (by rw [<-efl]at hx;exact(List.mem_filter.1 hx).1)) (fun j hj=>⟨fun e=>by have:=C.low j (.inl e);have:=(QV j hj).1;omega,fun e=>by have:=C.low j (.inr e);have:=(QV j hj).1;omega⟩) fun l' mZ Gj jo IH wM=>⟨rfl,?_⟩;have el:l'=cP G s l:=xQ Gj jo;subst el;have qB:=L4.qB;have sB:=L4.sB;have hqs:=L4.qs;have s33:=AM.size;have Ta:Kept (· =q) y mZ:=AM.trans wM (fun j hj e=>by have:=(QV j e).1;omega);have PJ:=wM.heap Da.top (fun e=>by have:=(QV q e).1;omega);have Uy:=Da.ov.aK wM (fun e=>by have:=(QV sm e).1;omega);intro jG rO;have nh:Kept Nil mZ jG:=(Kept.refl _ _).alloc _;have LV:jG.heap[mZ.heap.size]? =some (.cells #[.slice none 0 0] aF (0,0)):=aM mZ _;have rP:Kept Nil jG rO:=(Kept.refl _ _).alloc _;have Qg:rO.heap[jG.heap.size]? =some (.cells #[.nilFunc] fN (0,0)):=aM jG _;refine⟨dP Qg (by simp),?_⟩;intro wL;have Vb:wL.heap[jG.heap.size]? =some (.cells #[.func (.func ct.id) #[] #[.pointer (some ⟨bs,0,none⟩),.pointer (some ⟨bc,0,none⟩),.pointer (some ⟨bh,0,none⟩)]] fN (0,0)):=by
   show(rO.setCell ⟨jG.heap.size,0,none⟩ _).heap[jG.heap.size]? =_;rw [du Qg 0];rfl
  have yS:Kept (· =jG.heap.size) rO wL:=Kept.setCell (S:=(· =jG.heap.size)) (Kept.refl _ rO) (p:=⟨jG.heap.size,0,none⟩) (fun _=>rfl) _;clear_value wL;have x8:=nh.tt rP;have Zl:=nh.size;have s36:=rP.size;have l35:=bf LV;have l36:=bf Qg;have Ep:Kept Nil mZ wL:=⟨yS.os.trans x8.os,yS.tape.trans x8.tape,yS.output.trans x8.output,Nat.le_trans x8.size yS.size,fun j hj hn=>by rw [yS.block j (Nat.lt_of_lt_of_le hj x8.size) (by omega),x8.block j hj hn]⟩;have acr:=yS.heap (rP.heap LV (fun h=>h)) (by omega);have l37:=bf Vb;clear_value rO jG;have FZ:Kept (· =q) y wL:=Ta.trans Ep (fun _ _ h=>h.elim);have s34:=Ta.size;have s37:=FZ.size;have C37:CV wL F c k G m:=C.aK FZ (fun j hj e=>(iV j (.inl hj)).1 e) (fun j hj e=>(iV j (.inr (.inl hj))).1 e);have Ix:=Ep.heap PJ (fun h=>h);have Nn:=Uy.aK Ep (fun h=>h);have PR:cr wL y.heap.size A n cp (cP G s l):=Row.aK IH Ep (fun _ _ h=>h);have V37:VB wL c s bs bc bh q sm (fun _=>none):=⟨FZ.heap V.hs YH.1,FZ.heap V.hc YJ.1,FZ.heap V.hh YI.1,by rw [bD,aE Ix];exact(gR ..).2.2.2,Nn⟩;have YA:∀a,A=some a->y.heap.size<=a.block/\a.block<mZ.heap.size:=fun a ha=>by
   subst ha;obtain⟨g1,cur,g2⟩:=Row.bV IH (k:=a.block) rfl;exact⟨g1,bf g2⟩
  have Ww:mY wL wL.heap.size q sm mZ.heap.size ⟨s,G.score s+1,cP G s l,[]⟩ (fun _=>none) A n cp none 0 0:=
   ⟨Ix,PR.hs,fun a ha=>by have:=YA a ha;exact⟨by omega,by omega,by omega,by omega⟩,Row.nil _ _ _ _,Nn,by omega,by omega,by omega,⟨hqs,by omega,by omega⟩⟩
  refine⟨some ⟨q,0,none⟩,by rw [aE V37.hs];rfl,A,n,cp,Ww.f33,?_⟩;have TW:(la k G s l 0)=⟨G.world s++ [s],[]⟩:=rfl;refine Cb (l:=l) C37 hD o5 hs hc (fun x hx=>hLi x (by
   have h1:=(jo x).1 hx;rw [<-efl]at h1;exact(List.mem_filter.1 h1).1)) V37 Vb (fun j hj=>?_) ⟨⟨fun _=>none,none,0,0,none,0,0,[],Ww,acr,cr.nil _ _,by rw [TW,List.append_nil],fun j hj=>by simp [bH]at hj,by rw [TW];exact C.Z |>.ov hs hc,?_,fun z hz=>by simp at hz,rfl⟩,Kept.refl _ _⟩ hnA fun v' ov E e ce h1 h2 h3=>?_
  ·have h1:j<y.heap.size\/j=jG.heap.size:=by
    rcases hj with h|h|h|h|h|h
    ·exact .inl (C.low j (.inl h))
    ·exact .inl (C.low j (.inr h))
    ·exact .inl (by omega)
    ·exact .inl (by omega)
    ·exact .inl (by omega)
    ·exact .inr h
   rcases h1 with h1|h1
   ·have h2:j≠q/\j≠sm:=by
     rcases hj with h|h|h|h|h|h
     ·exact iV j (.inl h)
     ·exact iV j (.inr (.inl h))
     ·exact iV j (.inr (.inr (.inl h)))
     ·exact iV j (.inr (.inr (.inr (.inl h))))
     ·exact iV j (.inr (.inr (.inr (.inr h))))
     ·omega
    exact⟨h2.1,h2.2,by omega⟩
   ·exact⟨by omega,by omega,by omega⟩
  ·rw [TW]
   obtain⟨g1,g2,_⟩:=C.iA.wd s hs;exact List.nodup_append.2 ⟨g1,by simp,fun a ha b hb e=>by
    have:b=s:=by simpa using hb
    subst this;subst e;exact fH.irrefl W a (g2 a ha)⟩
  ·refine hK v' wL.heap.size mZ.heap.size ov A n cp E e ce h1 h2 (fun a ha=>(YA a ha).1) ⟨s37,h3.size⟩ ?_
   exact(FZ.mono fun _ _ h=>.inl h).trans h3 (fun j hj e=>by
    rcases e with e|e|e
    ·exact .inl e
    ·exact .inr e
    ·omega)
end
theorem Q7:R8 prog bK=some ([(0,32),(32,1),(33,1),(34,1)],List.replicate 32 (.int .u8 0)++ [.int .u64 0,.slice none 0 0,.slice none 0 0]):=by kernel_rfl
theorem wC(h:HT)(z:Int):prog.built bK [(0,.agg h.1),(1,.int .u64 z)]=some (h.1++ #[.int .u64 z,.slice none 0 0,.slice none 0 0]):=by
 have hs:=h.2.1;rw [ow Q7,jw (off:=0) (size:=32) rfl (by simpa [Value.cells]using hs) (by simp),jw (off:=32) (size:=1) rfl rfl (by
  rw [List.size_toArray,mJ (by simp [Value.cells,hs])];simp)]
 simp only [Instr.fill,Option.some.injEq];apply Array.ext';unfold iG;simp [Value.cells,hs];rw [List.drop_append];simp [hs]
theorem Mo:R8 prog eJ=some ([(0,35),(35,1)],List.replicate 32 (.int .u8 0)++ [.int .u64 0,.slice none 0 0,.slice none 0 0,.map none]):=by kernel_rfl
theorem yv(c:pz)(sm:Option Nat):prog.built eJ [(0,.agg (dp c none 0 0 none 0 0)),(1,.map sm)]=some (dp c none 0 0 none 0 0++ #[.map sm]):=by
 have hs:=bI c none 0 0 none 0 0;rw [ow Mo,jw (off:=0) (size:=35) rfl (by simpa [Value.cells]using hs) (by simp),jw (off:=35) (size:=1) rfl rfl (by
  rw [List.size_toArray,mJ (by simp [Value.cells,hs])];simp)]
 simp only [Instr.fill,Option.some.injEq];apply Array.ext';unfold iG;simp [Value.cells,hs]
section
variable{g1 v w w':World}{F:Nat->Prop}{c k:Nat}{G:GS}{m:CM}{s:HT}{l ch:List HT}{bs bc bh q sm n cx:Nat}{A:Option Addr}{K:Value->World->Prop}
theorem Kw{N:Nat}(AY:E5 N)(hN:(tm G.D s l).length<=N)(C:CV g1 F c k G m)(hT:sS g1)(hD:G.D.length<=5000)(o5:k<=1000)(hs:s∈ids G.D)(hc:dG G.D G.P s ch)(hl:∀x∈l,x∈ids G.D)(CX:HS g1 A n l)(hn:n<=5000)
 (V:VB g1 c s bs bc bh q sm (fun _=>none)) (jJ:g1.heap[q]? =some (.cells (dp ⟨s,G.score s+1,[],[]⟩ none 0 0 none 0 0++ #[.map (some sm)]) eJ (0,0)))
 (iV:∀j,(m.own c j\/F j\/j=bs\/j=bc\/j=bh)->j≠q/\j≠sm) (hqs:q≠sm) {p:Nat} (hp:∃mx,XV g1 m.FX m.x G.D G.P mx/\mx.g=p)
 (hK:∀v B bb ov A n cp E e ce,mY v B q sm bb (dr k G s l) ov A n cp E e ce->OV G.D (iw k G s l).wd ov (nt m.sz ch)->(∀a,A=some a->g1.heap.size<=a.block)->(g1.heap.size<=B/\B<=v.heap.size)->Kept (fun j=>j=q\/j=sm) g1 v->K (.pointer (some ⟨q,0,none⟩)) v):
 bE prog aY.id #[.pointer (some ⟨p,0,none⟩),.slice A n cx] g1 fun i1 j1=>∃k1:Option Addr,∃m1 n1:Nat,i1=.slice k1 m1 n1/\
  ∃(o1:Option Addr) (p1 q1:Nat) (r1:World),(Builtin.append_ #[aF,aF] aF #[.slice k1 m1 n1,.slice A n cx]).run prog j1=.ok (.slice o1 p1 q1) r1/\
  bE prog jL.id #[.slice o1 p1 q1] r1 fun t1 u1=>∃v1:Option Addr,∃x1 y1:Nat,t1=.slice v1 x1 y1/\
  Holds none [] prog 153 (.loop (lB (bB (sR (sL (aS (sR (body ai.fn)))))))) (ai.q1 K)
   [(3,.pointer (some ⟨bc,0,none⟩)),(4,.pointer (some ⟨bh,0,none⟩)),(6,.pointer none),(8,.pointer (some ⟨bs,0,none⟩)),(46,.slice v1 x1 y1),(47,.int .i64 (x1:Int)),(48,.int .i64 0)] u1:=by
 have W:=C.iA.W;obtain⟨mx,X,rfl⟩:=hp;obtain⟨bl,c',mb,M,GG⟩:=X.G;have lq:=bf jJ;have lsm:=V.ov.lt;refine wv GG W (by omega) hT CX (by omega) fun A1 c1 w1 nZ k1=>⟨A1,_,c1,rfl,?_⟩;have rT:(eM G.D l).length<=5000:=Nat.le_trans (og _ _) hD;have s1:=k1.size;obtain⟨A2,c2,w2,jX,ir,g2,WK⟩:=dd aF nZ (cx:=cx) (CX.same k1) (by omega) s1;have k2:Kept (fun j=>g1.heap.size<=j) w1 w2:=(Kept.refl _ _).grown g2 fun j hj _=>(Row.bV nZ hj).1;have mr:Kept Nil g1 w2:=k1.trans k2 (fun j hj e=>by omega);refine⟨A2,_,c2,w2,jX,?_⟩;refine iR ir.hs (by omega) fun A3 c3 w3 nJ k3=>⟨A3,_,c3,rfl,?_⟩;have jF:=mr.tt k3;have s02:=mr.size;have s03:=jF.size;have V3:=V.same jF;refine Cc (l:=l) AY hN (C.same jF) hD o5 hs hc hl V3 ⟨jF.heap jJ (fun h=>h),cr.nil _ _,Row.nil _ _ _ _,V3.ov,by omega,by omega,hqs,fun j hj=>by simp [bH]at hj⟩ nJ.hs (fun a ha=>?_) iV fun v B bb ov A n cp E e ce h1 h2 h3 h4 h5=>?_
 ·subst ha
  have:=(Row.bV nJ (k:=a.block) rfl).1;omega
 ·exact hK v B bb ov A n cp E e ce h1 h2 (fun a ha=>Nat.le_trans s03 (h3 a ha)) ⟨Nat.le_trans s03 h4.1,h4.2⟩ ((jF.mono fun _ _ h=>h.elim).tt h5)
end
section
variable{w w':World}{F:Nat->Prop}{c k:Nat}{G:GS}{m:CM}{s:HT}{l ch:List HT}{n cx:Nat}{A:Option Addr}{K:Value->World->Prop}
set_option maxHeartbeats 4000000 in
theorem we{N:Nat}(AY:E5 N)(hN:(tm G.D s l).length<=N)(C:CV w F c k G m)(hT:sS w)(hD:G.D.length<=5000)(o5:k<=1000)(hs:s∈ids G.D)(hc:dG G.D G.P s ch)(hl:∀x∈l,x∈ids G.D)(CX:HS w A n l)(hn:n<=5000)
 (hK:∀v q B sm bb ov A n cp E e ce,mY v B q sm bb (dr k G s l) ov A n cp E e ce->OV G.D (iw k G s l).wd ov (nt m.sz ch)->w.heap.size<=q->w.heap.size<=sm->(∀a,A=some a->w.heap.size<=a.block)->(w.heap.size<=B/\B<=v.heap.size)->Kept Nil w v->K (.pointer (some ⟨q,0,none⟩)) v):
 bE prog ai.id #[.pointer (some ⟨c,0,none⟩),.agg s.1,.slice A n cx] w K:=by
 refine ai.of ?_;unfold ai.W;intro w1 w2;have k1:Kept Nil w w1:=(Kept.refl _ _).alloc _;have VQ:w1.heap[w.heap.size]? =some (.cells #[.pointer (some ⟨c,0,none⟩)] dF (0,0)):=aM w _;have k2:Kept Nil w1 w2:=(Kept.refl _ _).alloc _;have zD:w2.heap[w1.heap.size]? =some (.cells s.1 al (0,0)):=aM w1 _;clear_value w2;have I1:=k2.heap VQ (fun h=>h);have mr:=k1.tt k2;have s1:=k1.size;have l1:=bf VQ;have l2:=bf zD;clear_value w1;have C2:=C.same mr;obtain⟨mx2,X2,_⟩:=C2.X;refine⟨some ⟨c,0,none⟩,by rw [aE I1];rfl,_,C2.c1,gH.of (Split.no rfl (Is.mk rfl ⟨_,X2.c0,⟨_,rfl,?_⟩⟩))⟩;intro w3;have k3:Kept Nil w2 w3:=(Kept.refl _ _).drew;clear_value w3;have jF:=mr.tt k3;have VN:=k3.heap I1 (fun h=>h);have CN:=k3.heap zD (fun h=>h);have C3:=C.same jF;obtain⟨A1,n1,c1,B1,m1,d1,s1',sa⟩:=C3.seen s hs;have PO:G.score s<=5000:=by
  have h1:=(C.iA.wd s hs).2.2;have h2:=dK (m:=ids G.D) (C.iA.wd s hs).1 (fun b hb=>(((C.iA.wd s hs).2.1 b hb).mem C.iA.W).1);rw [iK]at h2;omega
 have ew:u64.wrap (((G.jZ s).score:Int)+(1:Int))=((G.score s+1:Nat):Int):=by
  show u64.wrap ((G.score s:Int)+(1:Int))=_
  rw [show(G.score s:Int)+1=((G.score s+1:Nat):Int)by omega];exact kz (by omega)
 have nV:∀ {u:World},Kept Nil w3 u->u.cell? ⟨w.heap.size,0,none⟩=some (.pointer (some ⟨c,0,none⟩)):=fun ku=>by rw [aE (ku.heap VN (fun h=>h))];rfl
 have uU:∀ {u:World},Kept Nil w3 u->∃cs:Array Value,(.agg s.1:Value)=.agg cs/\cs.size=32/\Cells u ⟨w1.heap.size,0,none⟩ cs:=fun ku=>⟨s.1,rfl,s.2.1,Cells.bV (ku.heap CN (fun h=>h))⟩;have mF:∀ {u:World},Kept Nil w3 u->u.cell? (((⟨m.q s,0,none⟩:Addr).add 0).add 32)=some (.int .u64 ((G.jZ s).score:Int)):=fun ku=>(sa.aK ku (fun _ _ h=>h)).W8;have l3:=bf CN;have s3:=k3.size;refine⟨s.1,⟨s.2.1,Cells.bV CN⟩,some ⟨c,0,none⟩,nV (Kept.refl _ _),_,C3.c2,s.1,⟨s.2.1,Cells.bV CN⟩,_,C3.qU hs,_,mF (Kept.refl _ _),?_⟩;rw [ew];rw [wC s];refine Is.mk rfl ?_;have GH:(s.1++ #[.int .u64 ((G.score s+1:Nat):Int),.slice none 0 0,.slice none 0 0]:Array Value)=dp ⟨s,G.score s+1,[],[]⟩ none 0 0 none 0 0:=rfl;rw [GH];have go:∀ {u:World} {q sm bs:Nat},Kept Nil w3 u->w3.heap.size<=q->w3.heap.size<=sm->w3.heap.size<=bs->q≠sm->bs≠q->bs≠sm->
  u.heap[q]? =some (.cells (dp ⟨s,G.score s+1,[],[]⟩ none 0 0 none 0 0++ #[.map (some sm)]) eJ (0,0))->gg u sm (fun _=>none)->u.heap[bs]? =some (.cells #[.pointer (some ⟨q,0,none⟩)] fK (0,0))->_:=
  fun {u q sm bs} ku hq vR Yr h1 h2 h3 jJ Qa jE=>Kw (g1:=u) (bs:=bs) (bc:=w.heap.size) (bh:=w1.heap.size) (q:=q) (sm:=sm) (cx:=cx) (K:=K) (p:=mx2.g) AY hN (C3.same ku) (hT.same (jF.tt ku)) hD o5 hs hc hl (CX.same (jF.tt ku)) hn
   ⟨jE,ku.heap VN (fun h=>h),ku.heap CN (fun h=>h),by rw [bD,aE jJ];exact(gR ..).2.2.2,Qa⟩ jJ
   (fun j hj=>by
     rcases hj with h|h|h|h|h
     ·have:=C.low j (.inl h);exact⟨by omega,by omega⟩
     ·have:=C.low j (.inr h);exact⟨by omega,by omega⟩
     ·exact⟨by omega,by omega⟩
     ·exact⟨by omega,by omega⟩
     ·exact⟨by omega,by omega⟩) h1 ⟨mx2,X2.same (k3.tt ku),rfl⟩
   (fun v B bb ov A n cp E e ce t1 t2 t3 t4 t5=>hK v q B sm bb ov A n cp E e ce t1 t2 (by omega) (by omega) (fun a ha=>by have:=t3 a ha;have:=(jF.tt ku).size;omega) ⟨by have:=(jF.tt ku).size;have:=t4.1;omega,t4.2⟩ ((jF.tt ku).trans t5 (fun j hj e=>by omega)))
 have OL:∀ {u0:World} {b q:Nat},u0.heap[b]? =some (.cells #[.pointer none] fK (0,0))->Wr u0 ⟨b,0,none⟩/\∀u1,u1=u0.setCell ⟨b,0,none⟩ (.pointer (some ⟨q,0,none⟩))->u1.heap[b]? =some (.cells #[.pointer (some ⟨q,0,none⟩)] fK (0,0))/\Kept (· =b) u0 u1:=fun {u0 b q} hb=>⟨dP hb (by simp),fun u1 e=>by
  subst e;refine⟨?_,Kept.setCell (S:=(· =b)) (Kept.refl _ u0) (p:=⟨b,0,none⟩) (fun _=>rfl) _⟩;rw [du hb 0];rfl⟩
 refine⟨?_,?_⟩
 ·intro w4
  have k4:Kept Nil w3 w4:=(Kept.refl _ _).alloc _;have hm4:gg w4 w3.heap.size (fun _=>none):=gg.new w3;clear_value w4;have l4:=hm4.lt;refine⟨mF k4,(C3.same k4).qU hs,uU k4,(C3.same k4).c2,nV k4,uU k4,?_⟩;rw [yv];refine Is.mk rfl ⟨?_,?_⟩
  ·intro w5 w6
   have k5:Kept Nil w4 w5:=(Kept.refl _ _).alloc _;have hq5:w5.heap[w4.heap.size]? =some (.cells (dp ⟨s,G.score s+1,[],[]⟩ none 0 0 none 0 0++ #[.map (some w3.heap.size)]) eJ (0,0)):=aM w4 _;have k6:Kept Nil w5 w6:=(Kept.refl _ _).alloc _;have pZ:w6.heap[w5.heap.size]? =some (.cells #[.pointer none] fK (0,0)):=aM w5 _;clear_value w6;have Um:=k6.heap hq5 (fun h=>h);have l5:=bf hq5;clear_value w5;have JV:=k5.tt k6;have rP:=k4.tt JV;have s36:=rP.size;obtain⟨t1,t2⟩:=OL (q:=w4.heap.size) pZ;refine⟨t1,?_⟩;intro w7;obtain⟨t3,t4⟩:=t2 w7 rfl;clear_value w7;exact go (rP.trans t4 (fun j hj e=>by omega)) (by omega) (by omega) (by omega) (by omega) (by omega) (by omega) (t4.heap Um (by omega)) ((hm4.same JV).aK t4 (by omega)) t3
  ·intro w5
   have k5:Kept Nil w4 w5:=(Kept.refl _ _).alloc _;have pE:w5.heap[w4.heap.size]? =some (.cells #[.pointer none] fK (0,0)):=aM w4 _;clear_value w5;have l5:=bf pE;have nh:=k4.tt k5;refine⟨mF nh,(C3.same nh).qU hs,uU nh,(C3.same nh).c2,nV nh,uU nh,?_⟩;intro w6;have k6:Kept Nil w5 w6:=(Kept.refl _ _).alloc _;have Um:w6.heap[w5.heap.size]? =some (.cells (dp ⟨s,G.score s+1,[],[]⟩ none 0 0 none 0 0++ #[.map (some w3.heap.size)]) eJ (0,0)):=aM w5 _;clear_value w6;have JV:=k5.tt k6;have rP:=k4.tt JV;have Zl:=nh.size;obtain⟨t1,t2⟩:=OL (q:=w5.heap.size) (k6.heap pE (fun h=>h));refine⟨t1,?_⟩;intro w7;obtain⟨t3,t4⟩:=t2 w7 rfl;clear_value w7;exact go (rP.trans t4 (fun j hj e=>by omega)) (by omega) (by omega) (by omega) (by omega) (by omega) (by omega) (t4.heap Um (by omega)) ((hm4.same JV).aK t4 (by omega)) t3
 ·intro w4
  have k4:Kept Nil w3 w4:=(Kept.refl _ _).alloc _;have ui:w4.heap[w3.heap.size]? =some (.cells #[.pointer none] fK (0,0)):=aM w3 _;clear_value w4;have l4:=bf ui;refine⟨mF k4,(C3.same k4).qU hs,uU k4,(C3.same k4).c2,nV k4,uU k4,?_⟩;intro w5;have k5:Kept Nil w4 w5:=(Kept.refl _ _).alloc _;have hm5:gg w5 w4.heap.size (fun _=>none):=gg.new w4;clear_value w5;have l5:=hm5.lt;have nh:=k4.tt k5;refine⟨mF nh,(C3.same nh).qU hs,uU nh,(C3.same nh).c2,nV nh,uU nh,?_⟩;rw [yv];refine Is.mk rfl ?_;intro w6;have k6:Kept Nil w5 w6:=(Kept.refl _ _).alloc _;have Um:w6.heap[w5.heap.size]? =some (.cells (dp ⟨s,G.score s+1,[],[]⟩ none 0 0 none 0 0++ #[.map (some w4.heap.size)]) eJ (0,0)):=aM w5 _;clear_value w6;have rP:=nh.tt k6;have Zl:=nh.size;obtain⟨t1,t2⟩:=OL (q:=w5.heap.size) ((k5.tt k6).heap ui (fun h=>h));refine⟨t1,?_⟩;intro w7;obtain⟨t3,t4⟩:=t2 w7 rfl;clear_value w7;exact go (rP.trans t4 (fun j hj e=>by omega)) (by omega) (by omega) (by omega) (by omega) (by omega) (by omega) (t4.heap Um (by omega)) ((hm5.same k6).aK t4 (by omega)) t3
end
end Go.Proofs.YtfleamccglihoaaGreatDoor
