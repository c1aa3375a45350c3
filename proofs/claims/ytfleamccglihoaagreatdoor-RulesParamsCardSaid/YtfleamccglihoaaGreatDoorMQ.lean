import Derived.Test.YtfleamccglihoaaGreatDoorMP
import Derived.Test.YtfleamccglihoaaGreatDoorMG
open Go.IntKind (i64 u64)
set_option linter.unusedVariables false
namespace Go.Proofs.YtfleamccglihoaaGreatDoor
open Go.Proofs.Tryz
open Go Go.bE Go.RowKit
theorem Dx:AZ prog jb iW 1 1:=⟨by kernel_rfl,by kernel_rfl⟩
abbrev vc(l:List Bool):List Value:=l.map .bool
structure vY(w:World)(B q sm:Nat)(c:rl)(ov:HT->Option Nat)(A:Option Addr)(n cp:Nat)(E:Option Addr)(e ce:Nat):Prop where
 top:w.heap[q]? =some (.cells (dT c A n cp E e ce++ #[.map (some sm)]) dg (0,0))
 mg:cg w B A n cp c.merge
 bl:Row w B iW 1 E e ce (vc c.iJ)
 ov:dX w sm (Gs ov)
 qB:q<B
 sB:sm<B
 qs:q≠sm
 AE:∀j,bp A=some j->bp E≠some j
section
variable{w w':World}{B q sm:Nat}{c:rl}{ov:HT->Option Nat}{A E:Option Addr}{n cp e ce:Nat}{K:Value->World->Prop}
theorem vY.aK{S:Nat->Prop}(h:vY w B q sm c ov A n cp E e ce)(hk:Kept S w w')(h1:¬S q)(h2:¬S sm)(h3:∀j,B<=j->¬S j):vY w' B q sm c ov A n cp E e ce:=
 ⟨hk.heap h.top h1,Row.aK h.mg hk (fun j hj=>h3 j (Row.bS h.mg hj).1),Row.aK h.bl hk (fun j hj=>h3 j (Row.bS h.bl hj).1),h.ov.aK hk h2,h.qB,h.sB,h.qs,h.AE⟩
theorem vY.same(h:vY w B q sm c ov A n cp E e ce)(hk:Kept Nil w w'):vY w' B q sm c ov A n cp E e ce:=h.aK hk (fun h=>h) (fun h=>h) (fun _ _ h=>h)
theorem vY.f33(h:vY w B q sm c ov A n cp E e ce):w.cell? (((⟨q,0,none⟩:Addr).add 0).add 33)=some (.slice A n cp):=by rw [add_zero,bu,aD h.top];exact(gN ..).2.1
theorem vY.Xr(h:vY w B q sm c ov A n cp E e ce):∀j,bp A=some j\/bp E=some j->B<=j/\j<w.heap.size:=fun j hj=>by
 rcases hj with hj|hj
 ·obtain⟨h1,cur,h2⟩:=Row.bS h.mg hj;exact⟨h1,bf h2⟩
 ·obtain⟨h1,cur,h2⟩:=Row.bS h.bl hj;exact⟨h1,bf h2⟩
theorem tn(c:rl)(A:Option Addr)(n cp:Nat)(E:Option Addr)(e ce:Nat)(r:Array Value)(A':Option Addr)(n' vH:Nat):
 (dT c A n cp E e ce++r).setIfInBounds (0+33) (.slice A' n' vH)=dT c A' n' vH E e ce++r:=by
 have h0:c.ml.1.size=32:=c.ml.2.1;apply Array.ext';unfold dT;simp only [Array.toList_setIfInBounds,Array.toList_append,List.append_assoc];rw [List.set_append_right _ _ (by simp [h0])];simp [h0]
theorem tm(c:rl)(A:Option Addr)(n cp:Nat)(E:Option Addr)(e ce:Nat)(r:Array Value)(E':Option Addr)(n' vH:Nat):
 (dT c A n cp E e ce++r).setIfInBounds (0+34) (.slice E' n' vH)=dT c A n cp E' n' vH++r:=by
 have h0:c.ml.1.size=32:=c.ml.2.1;apply Array.ext';unfold dT;simp only [Array.toList_setIfInBounds,Array.toList_append,List.append_assoc];rw [List.set_append_right _ _ (by simp [h0])];simp [h0]
theorem zw(c:rl)(A:Option Addr)(n cp:Nat)(E:Option Addr)(e ce:Nat)(r:Array Value)(s:Nat):
 (dT c A n cp E e ce++r).setIfInBounds (0+32) (.int .u64 (s:Int))=dT {c with score:=s} A n cp E e ce++r:=by
 have h0:c.ml.1.size=32:=c.ml.2.1;apply Array.ext';unfold dT;simp only [Array.toList_setIfInBounds,Array.toList_append,List.append_assoc];rw [List.set_append_right _ _ (by simp [h0])];simp [h0]
theorem vY.Nl(h:vY w B q sm c ov A n cp E e ce)(hB:B<=w.heap.size)(hn:n<=100000){x:HT}{b:Nat}(hb:HS w (some ⟨b,0,none⟩) 1 [x]):
 ∃A' vH u,(Builtin.append_ #[aW,aW] aW #[.slice A n cp,.slice (some ⟨b,0,none⟩) 1 1]).run prog w=.ok (.slice A' (n+1) vH) u/\
  Kept (fun j=>B<=j) w u/\vY (u.setCell (((⟨q,0,none⟩:Addr).add 0).add 33) (.slice A' (n+1) vH)) B q sm {c with merge:=c.merge++ [x]} ov A' (n+1) vH E e ce/\
  Kept (fun j=>j=q\/B<=j) w (u.setCell (((⟨q,0,none⟩:Addr).add 0).add 33) (.slice A' (n+1) vH))/\Wr u (((⟨q,0,none⟩:Addr).add 0).add 33):=by
 obtain⟨A',vH,u,hr,fW,hg,hA⟩:=gz aW h.mg (cx:=1) hb (by omega) hB;have ku:Kept (fun j=>B<=j) w u:=(Kept.refl _ _).grown hg fun j hj _=>(Row.bS h.mg hj).1;have kA:Kept (fun j=>bp A=some j) w u:=(Kept.refl _ _).grown hg fun j hj _=>hj;have qB:=h.qB;have sB:=h.sB;have jr:=ku.heap h.top (by omega);have Cm:Row u B iW 1 E e ce (vc c.iJ):=Row.aK h.bl kA (fun j hj e=>h.AE j e hj);have oC:Kept (· =q) u (u.setCell (((⟨q,0,none⟩:Addr).add 0).add 33) (.slice A' (n+1) vH)):=by
  rw [add_zero,bu];exact Kept.setCell (S:=(· =q)) (Kept.refl _ u) (p:=⟨q,0+33,none⟩) (fun _=>rfl) _
 have kV:∀ {X:Option Addr} {j:Nat},(∀k,bp X=some k->B<=k)->bp X=some j->¬j=q:=fun h hj e=>by have:=h _ hj;omega
 refine⟨A',vH,u,hr,ku,⟨?_,?_,?_,?_,qB,sB,h.qs,?_⟩,?_,?_⟩
 ·show(u.setCell (((⟨q,0,none⟩:Addr).add 0).add 33) (.slice A' (n+1) vH)).heap[q]? =_
  rw [add_zero,bu,cY jr,tn];rfl
 ·exact Row.aK fW oC (fun j hj=>kV (fun k hk=>(Row.bS fW hk).1) hj)
 ·exact Row.aK Cm oC (fun j hj=>kV (fun k hk=>(Row.bS Cm hk).1) hj)
 ·exact(h.ov.aK ku (by omega)).aK oC (fun e=>h.qs e.symm)
 ·intro j hj he
  rcases hA j hj with h1|h1
  ·exact h.AE j h1 he
  ·have:=(h.Xr j (.inr he)).2;omega
 ·exact(ku.mono fun _ _ h=>.inr h).trans oC (fun _ _ e=>.inl e)
 ·rw [add_zero,bu]
  exact dL jr (by rw [Array.size_append,bX];simp)
end
structure la(w:World)(B q sm bb:Nat)(c:rl)(ov:HT->Option Nat)(A:Option Addr)(n cp:Nat)(E:Option Addr)(e ce:Nat):Prop where
 top:w.heap[q]? =some (.cells (dT c A n cp E e ce++ #[.map (some sm)]) dg (0,0))
 mg:HS w A n c.merge
 mA:∀a,A=some a->a.block<B/\a.block≠q/\a.block≠sm/\a.block≠bb
 bl:Row w B iW 1 E e ce (vc c.iJ)
 ov:dX w sm (Gs ov)
 qB:q<B
 sB:sm<B
 bB:bb<B
 qs:q≠sm/\q≠bb/\sm≠bb
section
variable{w w':World}{B q sm bb:Nat}{c:rl}{ov:HT->Option Nat}{A E:Option Addr}{n cp e ce:Nat}{K:Value->World->Prop}
theorem la.aK{S:Nat->Prop}(h:la w B q sm bb c ov A n cp E e ce)(hk:Kept S w w')(h1:¬S q)(h2:¬S sm)(h3:∀j,B<=j->j<w.heap.size->¬S j)(h4:∀a,A=some a->¬S a.block):la w' B q sm bb c ov A n cp E e ce:=
 ⟨hk.heap h.top h1,h.mg.aK hk h4,h.mA,Row.aK h.bl hk (fun j hj=>by obtain⟨g1,cur,g2⟩:=Row.bS h.bl hj;exact h3 j g1 (bf g2)),h.ov.aK hk h2,h.qB,h.sB,h.bB,h.qs⟩
theorem la.same(h:la w B q sm bb c ov A n cp E e ce)(hk:Kept Nil w w'):la w' B q sm bb c ov A n cp E e ce:=h.aK hk (fun h=>h) (fun h=>h) (fun _ _ _ h=>h) (fun _ _ h=>h)
theorem la.f32(h:la w B q sm bb c ov A n cp E e ce):w.cell? (((⟨q,0,none⟩:Addr).add 0).add 32)=some (.int .u64 (c.score:Int)):=by rw [add_zero,bu,aD h.top];exact(gN ..).1
theorem la.f33(h:la w B q sm bb c ov A n cp E e ce):w.cell? (((⟨q,0,none⟩:Addr).add 0).add 33)=some (.slice A n cp):=by rw [add_zero,bu,aD h.top];exact(gN ..).2.1
theorem la.f34(h:la w B q sm bb c ov A n cp E e ce):w.cell? (((⟨q,0,none⟩:Addr).add 0).add 34)=some (.slice E e ce):=by rw [add_zero,bu,aD h.top];exact(gN ..).2.2.1
theorem la.f35(h:la w B q sm bb c ov A n cp E e ce):w.cell? ((⟨q,0,none⟩:Addr).add 35)=some (.map (some sm)):=by rw [bu,aD h.top];exact(gN ..).2.2.2
theorem la.wr(h:la w B q sm bb c ov A n cp E e ce){j:Nat}(hj:j<36):Wr w (((⟨q,0,none⟩:Addr).add 0).add j):=by
 rw [add_zero,bu];exact dL h.top (by rw [Array.size_append,bX];simp;omega)
theorem la.Nb{h:la w B q sm bb c ov A n cp E e ce}(j:Nat)(v:Value):Kept (· =q) w (w.setCell (((⟨q,0,none⟩:Addr).add 0).add j) v):=by
 rw [add_zero,bu];exact Kept.setCell (S:=(· =q)) (Kept.refl _ w) (p:=⟨q,0+j,none⟩) (fun _=>rfl) _
theorem la.Nn(h:la w B q sm bb c ov A n cp E e ce)(hB:B<=w.heap.size)(hn:e<=100000){x:Bool}{b:Nat}(hb:w.cell? ⟨b,0,none⟩=some (.bool x)):
 ∃E' vX u,(Builtin.append_ #[jb,jb] jb #[.slice E e ce,.slice (some ⟨b,0,none⟩) 1 1]).run prog w=.ok (.slice E' (e+1) vX) u/\
  Kept (fun j=>B<=j/\bp E=some j) w u/\Wr u (((⟨q,0,none⟩:Addr).add 0).add 34)/\
  la (u.setCell (((⟨q,0,none⟩:Addr).add 0).add 34) (.slice E' (e+1) vX)) B q sm bb {c with iJ:=c.iJ++ [x]} ov A n cp E' (e+1) vX/\
  Kept (fun j=>j=q\/bp E=some j) w (u.setCell (((⟨q,0,none⟩:Addr).add 0).add 34) (.slice E' (e+1) vX))/\(∀j,bp E'=some j->bp E=some j\/w.heap.size<=j):=by
 obtain⟨E',vX,u,hr,fW,hg,hE⟩:=iu (P:=prog) (t:=jb) (bytes:=1) (ty:=jb) Dx h.bl (a:=⟨b,0,none⟩) (m:=1) (cx:=1) (news:= [.bool x]) rfl (fun j v hj=>by
  cases j with
  |zero=>simp only [List.getElem?_cons_zero,Option.some.injEq]at hj;subst hj;rw [add_zero];exact hb
  |succ j=>simp at hj) (fun v hv=>by
  have:v=.bool x:=by simpa using hv
  subst this;rfl) (by omega) (by unfold maxLen;omega) hB
 have qB:=h.qB;have sB:=h.sB;have kE:Kept (fun j=>B<=j/\bp E=some j) w u:=(Kept.refl _ _).grown hg fun j hj _=>⟨(Row.bS h.bl hj).1,hj⟩;have jr:=kE.heap h.top (by omega);have oC:Kept (· =q) u (u.setCell (((⟨q,0,none⟩:Addr).add 0).add 34) (.slice E' (e+1) vX)):=by
  rw [add_zero,bu];exact Kept.setCell (S:=(· =q)) (Kept.refl _ u) (p:=⟨q,0+34,none⟩) (fun _=>rfl) _
 refine⟨E',vX,u,hr,kE,?_,⟨?_,?_,h.mA,?_,?_,qB,sB,h.bB,h.qs⟩,?_,hE⟩
 ·rw [add_zero,bu]
  exact dL jr (by rw [Array.size_append,bX];simp)
 ·show(u.setCell (((⟨q,0,none⟩:Addr).add 0).add 34) (.slice E' (e+1) vX)).heap[q]? =_
  rw [add_zero,bu,cY jr,tm];rfl
 ·exact(h.mg.aK kE (fun a ha=>by have:=(h.mA a ha).1;omega)).aK oC (fun a ha=>(h.mA a ha).2.1)
 ·have e1:vc (c.iJ++ [x])=vc c.iJ++ [.bool x]:=by simp [vc]
  show Row _ B iW 1 E' (e+1) vX (vc (c.iJ++ [x]))
  rw [e1];exact Row.aK fW oC (fun j hj=>by have:=(Row.bS fW hj).1;omega)
 ·exact(h.ov.aK kE (by omega)).aK oC (fun e=>h.qs.1 e.symm)
 ·exact(kE.mono fun _ _ h=>.inr h.2).trans oC (fun _ _ e=>.inl e)
theorem la.S6(h:la w B q sm bb c ov A n cp E e ce)(s:Nat):
 la (w.setCell (((⟨q,0,none⟩:Addr).add 0).add 32) (.int .u64 (s:Int))) B q sm bb {c with score:=s} ov A n cp E e ce/\Kept (· =q) w (w.setCell (((⟨q,0,none⟩:Addr).add 0).add 32) (.int .u64 (s:Int))):=by
 have qB:=h.qB;have oC:=la.Nb (h:=h) 32 (.int .u64 (s:Int));refine⟨⟨?_,h.mg.aK oC (fun a ha=>(h.mA a ha).2.1),h.mA,Row.aK h.bl oC (fun j hj=>by have:=(Row.bS h.bl hj).1;omega),h.ov.aK oC (fun e=>h.qs.1 e.symm),h.qB,h.sB,h.bB,h.qs⟩,oC⟩;rw [add_zero,bu,cY h.top,zw]
theorem la.note(h:la w B q sm bb c ov A n cp E e ce)(b:HT)(n0:Nat):
 ∃u,(Instr.mapUpdate b0 (.map (some sm)) (.agg b.1) (.int .i64 (n0:Int))).run prog w=.ok () u/\la u B q sm bb c (fun y=>if y=b then some n0 else ov y) A n cp E e ce/\Kept (· =sm) w u:=by
 have sB:=h.sB;obtain⟨u,hr,hm,hk⟩:=h.ov.put pH b (.int .i64 (n0:Int));refine⟨u,hr,⟨hk.heap h.top h.qs.1,h.mg.aK hk (fun a ha=>(h.mA a ha).2.2.1),h.mA,Row.aK h.bl hk (fun j hj=>by have:=(Row.bS h.bl hj).1;omega),?_,h.qB,h.sB,h.bB,h.qs⟩,hk⟩;have e1:Gs (fun y=>if y=b then some n0 else ov y)=fun x=>if x=b then some (.int .i64 (n0:Int))else Gs ov x:=by
  funext y
  unfold Gs;by_cases e:y=b
  ·simp only [if_pos e,Option.map_some]
  ·simp only [if_neg e]
 rw [e1];exact hm
end
noncomputable def nX(k:Nat)(G:GS)(s:HT)(l:List HT)(i:Nat):VS:=((ct G s l).take i).foldl (rS k G.D) ⟨G.world s++ [s],[]⟩
structure V2(y v:World)(k:Nat)(G:GS)(s:HT)(l:List HT)(base:HT->Nat)(q sm bb:Nat)(A:Option Addr)(n cp i:Nat):Prop where
 ex:∃(ov:HT->Option Nat) (E:Option Addr) (e ce:Nat) (Ab:Option Addr) (nb cb:Nat) (bl:List HT),
  la v y.heap.size q sm bb ⟨s,G.score s+1+(nX k G s l i).bl.count true,ct G s l,(nX k G s l i).bl⟩ ov A n cp E e ce/\
  v.heap[bb]? =some (.cells #[.slice Ab nb cb] aW (0,0))/\cg v y.heap.size Ab nb cb bl/\(nX k G s l i).wd=G.world s++ [s]++bl/\(∀j,bp Ab=some j->bp E≠some j)/\
  OV G.D (nX k G s l i).wd ov base/\(nX k G s l i).wd.Nodup/\(∀z∈bl,z∈(ct G s l).take i)/\e=i
 kp:Kept (fun j=>j=q\/j=sm\/j=bb) y v
theorem la.DZ{w w':World}{B q sm bb:Nat}{c:rl}{ov:HT->Option Nat}{A E:Option Addr}{n cp e ce:Nat}{S:Nat->Prop}(h:la w B q sm bb c ov A n cp E e ce)(hk:Kept S w w')(h1:¬S q)(h2:¬S sm)(h3:∀j,bp E=some j->¬S j)(h4:∀a,A=some a->¬S a.block):la w' B q sm bb c ov A n cp E e ce:=
 ⟨hk.heap h.top h1,h.mg.aK hk h4,h.mA,Row.aK h.bl hk h3,h.ov.aK hk h2,h.qB,h.sB,h.bB,h.qs⟩
theorem Dh{k:Nat}{G:GS}{s:HT}{l:List HT}{i:Nat}{x:HT}(hx:(ct G s l)[i]? =some x):nX k G s l (i+1)=rS k G.D (nX k G s l i) x:=by
 unfold nX;have e:(ct G s l).take (i+1)=(ct G s l).take i++ [x]:=by rw [List.take_add_one,hx];rfl
 rw [e,List.foldl_append];rfl
theorem Gc(k:Nat)(G:GS)(s:HT)(l:List HT)(i:Nat)(hi:i<=(ct G s l).length):(nX k G s l i).bl.length=i:=by
 obtain⟨b,h1,h2⟩:=HX k G.D (G.world s++ [s]) ((ct G s l).take i);unfold nX;rw [h2];show b.length=i
 rw [h1,List.length_take];omega
theorem Gd(k:Nat)(G:GS)(s:HT)(l:List HT):nX k G s l (ct G s l).length=gK k G s l:=by
 unfold nX gK;rw [List.take_of_length_le (Nat.le_refl _)]
section
variable{y v w w':World}{F:Nat->Prop}{c k:Nat}{G:GS}{m:CM}{s:HT}{l ch:List HT}{bs bc bh q sm bb kb n cp:Nat}{A:Option Addr}{K:Value->World->Prop}
set_option maxHeartbeats 4000000 in
theorem yi(C:CV y F c k G m)(hD:G.D.length<=5000)(rO:k<=1000)(hs:s∈ids G.D)(hc:cN G.D G.P s ch)(hM:∀x∈ct G s l,x∈ids G.D)
 (V:VB y c s bs bc bh q sm (fun _=>none)) (IM:y.heap[kb]? =some (.cells #[.func (.func bH.id) #[] #[.pointer (some ⟨bs,0,none⟩),.pointer (some ⟨bc,0,none⟩),.pointer (some ⟨bh,0,none⟩)]] dS (0,0)))
 (kV:∀j,(m.own c j\/F j\/j=bs\/j=bc\/j=bh\/j=kb)->j≠q/\j≠sm/\j≠bb)
 (h0:V2 y y k G s l (lh m.sz ch) q sm bb A n cp 0) (hn:n<=5000)
 (hK:∀v ov E e ce,la v y.heap.size q sm bb (fO k G s l) ov A n cp E e ce->OV G.D (gK k G s l).wd ov (lh m.sz ch)->Kept (fun j=>j=q\/j=sm\/j=bb) y v->K (.pointer (some ⟨q,0,none⟩)) v):
 Holds none [] prog 153 (.loop (lB (bB (sR (sL (dZ (body ah.fn))))))) (ah.q2 K)
  [(3,.pointer (some ⟨bc,0,none⟩)),(6,.pointer none),(8,.pointer (some ⟨bs,0,none⟩)),(11,.pointer (some ⟨bb,0,none⟩)),(12,.func (.func af.id) #[] #[.pointer (some ⟨bb,0,none⟩),.pointer (some ⟨bc,0,none⟩),.pointer (some ⟨bh,0,none⟩)]),(13,.pointer (some ⟨kb,0,none⟩)),(92,.slice A n cp),(93,.int .i64 (n:Int)),(94,.int .i64 0)] y:=by
 have W:=C.iP.W;have hmn:(ct G s l).Nodup:=(lW G s l).nodup;have Ps:(ct G s l).length=n:=by obtain⟨_,_,_,_,_,_,_,_,h,_⟩:=h0.ex;exact h.mg.len
 have lbs:=bf V.hs;have lbc:=bf V.hc;have lbh:=bf V.hh;have lkb:=bf IM;have Sn:=kV bs (.inr (.inr (.inl rfl)));have Sq:=kV bc (.inr (.inr (.inr (.inl rfl))));have Sp:=kV bh (.inr (.inr (.inr (.inr (.inl rfl)))));have fkb:=kV kb (.inr (.inr (.inr (.inr (.inr rfl)))));refine ah.iN (I:=fun s0 v=>∃i:Nat,s0=(i:Int)/\i<=n/\V2 y v k G s l (lh m.sz ch) q sm bb A n cp i) (μ:=fun s0 _=>((n:Int)-s0).toNat) (s:=0) ⟨0,rfl,Nat.zero_le _,h0⟩ ?_;rintro s0 v ⟨i,rfl,hi,hV⟩;obtain⟨ov,E,e,ce,Ab,nb,cb,bl,hS,Cn,fW,Mn,ZQ,hO,gL,sI,Zj⟩:=hV.ex;have kv:=hV.kp;have sv:=kv.size;refine Split.dec (fun lH=>?_) (fun iK=>?_)
 ·have fg:i<n:=by omega
  obtain⟨x,hx⟩:∃x,(ct G s l)[i]? =some x:=⟨_,List.getElem?_eq_getElem (by omega)⟩;have Mm:=hM x (List.mem_of_getElem? hx);have Yw:x∉(nX k G s l i).wd:=by
   rw [Mn];intro hm;obtain⟨_,g1,g2⟩:=iV.1 (List.mem_of_getElem? hx);rcases List.mem_append.1 hm with hm|hm
   ·rcases List.mem_append.1 hm with hm|hm
    ·exact g2 ((C.iP.wd s hs).2.1 x hm)
    ·exact g1 (by simpa using hm)
   ·have h1:=sI x hm
    obtain⟨j,hj⟩:=List.mem_iff_getElem?.1 h1;rw [List.getElem?_take]at hj;split at hj
    ·rename_i FQ
     have h2:=(lgeS hj);have h3:=(lgeS hx);have:=(List.getElem_inj hmn).1 (h2.2.trans h3.2.symm);omega
    ·cases hj
  have ou:=Dh (k:=k) hx;refine hS.mg.load (i:=(i:Int)) (by omega) hx ?_;intro p5;obtain⟨ry,jv,jf⟩:=gh (w:=v) (z:=fI.1) (cs:=x.1) (t:=ax) (by rw [x.2.1];rfl);refine⟨⟨x.2.1,x.2.one,fun j hj=>ry j (by rw [x.2.1];exact hj)⟩,?_⟩;intro kz
  replace jv:kz.heap[v.heap.size]? =some (.cells x.1 ax (0,0)):=jv
  replace jf:Kept Nil v kz:=jf
  clear_value kz;intro np lr;have uQ:Kept Nil kz np:=(Kept.refl _ _).alloc _;have Pm:dX np kz.heap.size (fun _=>none):=dX.new kz;have tT:Kept Nil np lr:=(Kept.refl _ _).alloc _;have Lb:lr.heap[np.heap.size]? =some (.cells #[.map none] b0 (0,0)):=aR np _;refine⟨dL Lb (by simp),?_⟩;intro uw;have P7:uw.heap[np.heap.size]? =some (.cells #[.map (some kz.heap.size)] b0 (0,0)):=by
   show(lr.setCell ⟨np.heap.size,0,none⟩ (.map (some kz.heap.size))).heap[np.heap.size]? =_;rw [cY Lb 0];rfl
  have D9:Kept (· =np.heap.size) lr uw:=Kept.setCell (S:=(· =np.heap.size)) (Kept.refl _ lr) (p:=⟨np.heap.size,0,none⟩) (fun _=>rfl) _;clear_value uw;have s14:=jf.size;have s15:=uQ.size;have l14:=bf jv;have l15:=Pm.lt;have l16:=bf Lb;have Ec:Kept Nil kz uw:=⟨D9.os.trans (uQ.tt tT).os,D9.tape.trans (uQ.tt tT).tape,D9.output.trans (uQ.tt tT).output,Nat.le_trans (uQ.tt tT).size D9.size,fun j hj hn=>by rw [D9.block j (Nat.lt_of_lt_of_le hj (uQ.tt tT).size) (by omega),(uQ.tt tT).block j hj hn]⟩;have U8:dX uw kz.heap.size (fun _=>none):=(Pm.same tT).aK D9 (by omega);have IX:=Ec.heap jv (fun h=>h);clear_value lr np;have GB:Kept Nil v uw:=jf.tt Ec;have BW:Kept (fun j=>j=q\/j=sm\/j=bb) y uw:=kv.trans GB (fun _ _ h=>h.elim);have Ls:=hS.same GB;have C17:CV uw F c k G m:=C.aK BW (fun j hj e=>by have:=kV j (.inl hj);omega) (fun j hj e=>by have:=kV j (.inr (.inl hj));omega);have V17:VB uw c s bs bc bh q sm ov:=⟨BW.heap V.hs (by omega),BW.heap V.hc (by omega),BW.heap V.hh (by omega),Ls.f35,Ls.ov⟩;have PA:=BW.heap IM (by omega);have Es:cg uw y.heap.size Ab nb cb bl:=Row.aK fW GB (fun _ _ h=>h);have I5:=GB.heap Cn (fun h=>h);refine⟨x.1,⟨x.2.1,Cells.bS IX⟩,?_⟩;have qB:=hS.qB;have sB:=hS.sB;have bB:=hS.bB;have EO:∀b∈(nX k G s l i).wd,pJ ov (lh m.sz ch) b=(bY G.D (nX k G s l i).wd b).length:=hO.kn;have sJ:=gL;rw [Mn]at sJ;obtain⟨c1,c2,c3⟩:=HN C.iP (h:=x) hs hc sJ;rw [<-Mn]at c2 c3;have Ql:=fW.len;have KO:nb<=5000:=by
   have h1:=eo (m:=ct G s l) (List.nodup_append.1 sJ).2.1 (fun z hz=>List.mem_of_mem_take (sI z hz));omega
  have Lw:∀a,Ab=some a->a.block<kz.heap.size:=fun a ha=>by
   subst ha;obtain⟨_,cur,h1⟩:=Row.bS fW (k:=a.block) rfl;have:=bf h1;omega
  refine xz (p:=⟨bs,bc,bh,q,sm,kb,np.heap.size,kz.heap.size,0,0⟩) ⟨C17,V17,PA,P7,(fun e=>by have:kz.heap.size<y.heap.size:=C.low _ (.inl e);omega),(fun e=>by have:kz.heap.size<y.heap.size:=C.low _ (.inr e);omega),(show bs≠kz.heap.size/\bc≠kz.heap.size/\bh≠kz.heap.size/\q≠kz.heap.size/\sm≠kz.heap.size/\kb≠kz.heap.size/\np.heap.size≠kz.heap.size from⟨by omega,by omega,by omega,by omega,by omega,by omega,by omega⟩)⟩ hD rO hs hc (h:=x) I5 (by show bb≠kz.heap.size;omega) Es.hs (fun a ha=>by have:=Lw a ha;show a.block≠kz.heap.size;omega) (by omega) (by
   show dX uw kz.heap.size _
   have e0:(fun y=>if y∈([]:List HT)then some (Value.int .i64 (pJ ov (lh m.sz ch) y:Int))else none)=fun _=>none:=by funext y;simp
   rw [e0];exact U8) c1 fun Bf r hr hFr xY=>⟨r,rfl,?_⟩
  replace xY:Kept (· =kz.heap.size) uw Bf:=xY
  have IZ:r=tw k G.D (nX k G s l i).wd x:=by rw [hr];exact Fg EO c2 c3
  have QP:∀j,bp E=some j->y.heap.size<=j/\j<v.heap.size:=fun j hj=>by obtain⟨g1,cur,g2⟩:=Row.bS hS.bl hj;exact⟨g1,bf g2⟩
  have EX:∀j,bp Ab=some j->y.heap.size<=j/\j<v.heap.size:=fun j hj=>by obtain⟨g1,cur,g2⟩:=Row.bS fW hj;exact⟨g1,bf g2⟩
  have s17:=Ec.size;have Ws:=Ls.DZ xY (by omega) (by omega) (fun j hj=>by have:=QP j hj;omega) (fun a ha=>by have:=(hS.mA a ha).1;omega);have KH:cg Bf y.heap.size Ab nb cb bl:=Row.aK Es xY (fun j hj=>by have:=EX j hj;omega);have Gy:Kept (fun j=>j=q\/j=sm\/j=bb) y Bf:=BW.trans xY (fun j hj e=>by omega);have Qr:=xY.heap I5 (by omega);have Qi:=xY.heap IX (by omega);have VC:=xY.heap P7 (by omega);intro wa;have D7:Kept Nil Bf wa:=(Kept.refl _ _).drew;clear_value wa;have EV:=Ws.same D7;have wY:=Gy.trans D7 (fun _ _ h=>h.elim);have xo:∀ {u:World} {S:Nat->Prop},Kept S y u->¬S bs->u.cell? ⟨bs,0,none⟩=some (.pointer (some ⟨q,0,none⟩)):=fun ku hb=>by rw [aD (ku.heap V.hs hb)];rfl
  have H7:¬(bs=q\/bs=sm\/bs=bb):=by omega
  have s21:=wY.size;refine⟨_,xo wY H7,_,xo wY H7,E,e,ce,EV.f34,?_⟩;intro kr;have rv:Kept Nil wa kr:=(Kept.refl _ _).alloc _;have Ht:kr.heap[wa.heap.size]? =some (.cells #[.bool r] iW (0,0)):=aR wa _;clear_value kr;have EU:=EV.same rv;have sD:=wY.trans rv (fun _ _ h=>h.elim);have Tc:=sD.size;obtain⟨E',vX,u,OF,kE,TY,ET,k5,hE5⟩:=EU.Nn (by omega) (by omega) (x:=r) (b:=wa.heap.size) (by rw [aD Ht];rfl);have Tm:Kept (fun j=>j=q\/j=sm\/j=bb) y u:=sD.trans kE (fun j hj e=>by have:=QP j e.2;omega);refine⟨EU.f34,xo sD H7,xo sD H7,E',e+1,vX,u,OF,xo Tm H7,TY,?_⟩;intro tK
  replace ET:la tK y.heap.size q sm bb _ ov A n cp E' (e+1) vX:=ET
  replace k5:Kept (fun j=>j=q\/bp E=some j) kr tK:=k5
  clear_value tK;have JP:Kept (fun j=>j=q\/j=sm\/j=bb) y tK:=sD.trans k5 (fun j hj e=>by
   rcases e with e|e
   ·exact .inl e
   ·have:=QP j e;omega)
  have D8:Kept (fun j=>j=q\/bp E=some j) Bf tK:=((D7.tt rv).mono fun _ _ h=>h.elim).tt k5;have XI:=(D7.tt rv).size;have s20:=xY.size;have Er:cg tK y.heap.size Ab nb cb bl:=Row.aK KH D8 (fun j hj e=>by
   have:=EX j hj;rcases e with e|e
   ·omega
   ·exact ZQ j hj e)
  have I4:=D8.heap Qr (fun e=>by
   rcases e with e|e
   ·exact hS.qs.2.1 e.symm
   ·have:=QP bb e;omega)
  have Lx:∀j,bp Ab=some j->bp E'≠some j:=fun j hj he=>by
   rcases hE5 j he with h1|h1
   ·exact ZQ j hj h1
   ·have:=EX j hj;omega
  have Iy:∀z∈bl,z∈(ct G s l).take (i+1):=fun z hz=>by
   have h1:=sI z hz;rw [List.take_add_one];exact List.mem_append_left _ h1
  cases r with
  |false=>
   refine Split.yes rfl ?_;rw [eK (n:=(i:Int)) (by omega) (by omega)];have vu:nX k G s l (i+1)=⟨(nX k G s l i).wd,(nX k G s l i).bl++ [false]⟩:=by rw [ou,rS,<-IZ];rfl
   refine⟨(i:Int)+1,rfl,⟨i+1,rfl,fg,⟨ov,E',e+1,vX,Ab,nb,cb,bl,?_,I4,Er,?_,Lx,?_,?_,Iy,by omega⟩,JP⟩,by simp only;omega⟩
   ·rw [vu]
    simpa [List.count_append]using ET
   ·rw [vu];exact Mn
   ·rw [vu];exact hO
   ·rw [vu];exact gL
  |true=>
   refine Split.no rfl ?_;have Lu:=hFr rfl
   replace Lu:vR Bf kz.heap.size (pJ ov (lh m.sz ch)) (mK G x bl ch):=Lu
   have cP:=(nV.1 hr.symm).2;have vC:=eo (m:=ids G.D) c1 (fun z hz=>by
    have h1:=(eU.1 ((c3 z).1 hz)).1;rw [Mn]at h1;rcases List.mem_append.1 h1 with h1|h1
    ·rcases List.mem_append.1 h1 with h1|h1
     ·exact(((C.iP.wd s hs).2.1 z h1).mem W).1
     ·have:z=s:=by simpa using h1
      subst this;exact hs
    ·exact hM z (List.mem_of_mem_take (sI z h1)))
   rw [jG]at vC;generalize iQ:mK G x bl ch=jt at*;generalize Ve:pJ ov (lh m.sz ch)=kn at*;have KC:G.score s<=5000:=by
    have h1:=(C.iP.wd s hs).2.2;have h2:=eo (m:=ids G.D) (C.iP.wd s hs).1 (fun b hb=>(((C.iP.wd s hs).2.1 b hb).mem W).1);rw [jG]at h2;omega
   have VJ:(nX k G s l i).bl.count true<=5000:=by
    have h1:=List.count_le_length (a:=true) (l:=(nX k G s l i).bl);rw [Gc k G s l i (by omega)]at h1;omega
   generalize CT:G.score s+1+(nX k G s l i).bl.count true=sc at*;have ew:u64.wrap ((sc:Int)+(1:Int))=((sc+1:Nat):Int):=by
    rw [show(sc:Int)+1=((sc+1:Nat):Int)by omega];exact jD (by omega)
   refine⟨_,xo JP H7,_,ET.f32,ET.wr (by omega),?_⟩;intro uv p8;have Wp:la uv y.heap.size q sm bb ⟨s,sc+1,ct G s l,(nX k G s l i).bl++ [true]⟩ ov A n cp E' (e+1) vX:=by
    show la (tK.setCell (((⟨q,0,none⟩:Addr).add 0).add 32) (.int .u64 (u64.wrap ((sc:Int)+(1:Int))))) _ _ _ _ _ _ _ _ _ _ _ _
    rw [ew];exact(ET.S6 (sc+1)).1
   have Ii:Kept (· =q) tK uv:=la.Nb (h:=ET) 32 _;have Ap:Kept Nil uv p8:=(Kept.refl _ _).drew;clear_value p8 uv;have zg:=Wp.same Ap;have Ar:Kept (· =q) tK p8:=Ii.trans Ap (fun _ _ h=>h.elim);have wX:=JP.trans Ar (fun j hj e=>.inl e);have Au:Kept (fun j=>j=q\/bp E=some j) Bf p8:=D8.trans Ar (fun j hj e=>.inl e);have E7:∀j,v.heap.size<=j->¬(j=q\/bp E=some j):=fun j hj e=>by
    rcases e with e|e
    ·omega
    ·have:=QP j e;omega
   have IW:=Au.heap Qi (E7 _ (Nat.le_refl _));have P6:=Au.heap VC (E7 _ (by omega));have QO:vR p8 kz.heap.size kn jt:=Lu.aK Au (E7 _ (by omega));have K1:∀z,(if z∈jt then some (Value.int .i64 (kn z:Int))else none)≠none↔z∈jt:=fun z=>by
    by_cases hz:z∈jt
    ·rw [if_pos hz];exact⟨fun _=>hz,fun _ e=>by cases e⟩
    ·rw [if_neg hz];exact⟨fun e=>absurd rfl e,fun e=>absurd e hz⟩
   obtain⟨qH,Uv,QH,qv⟩:=zg.note x jt.length;have s33:=Au.size;have To:=wX.trans qv (fun j hj e=>.inr (.inl e));have Wz:vR qH kz.heap.size kn jt:=QO.aK qv (by omega);have VA:=qv.heap P6 (by omega);have Qh:=qv.heap IW (by omega);have KF:cg qH y.heap.size Ab nb cb bl:=Row.aK (Row.aK Er Ar (fun j hj e=>by have:=EX j hj;omega)) qv (fun j hj e=>by have:=EX j hj;omega);have Qp:=qv.heap (Ar.heap I4 (fun e=>hS.qs.2.1 e.symm)) (fun e=>hS.qs.2.2 e.symm);obtain⟨XA,x9,Uu,hit,Mg⟩:=Wz.range pH;have XG:=qv.size;have s38:=Mg.size;refine⟨_,xo wX H7,some sm,zg.f35,x.1,⟨x.2.1,Cells.bS IW⟩,some kz.heap.size,by rw [aD P6];rfl,jt.length,QO.len pH fE c1 K1,qH,Uv,some kz.heap.size,by rw [aD VA];rfl,_,XA,Uu,?_⟩;refine ah.wT (I:=fun _ u=>∃left x9 H5,mL u kz.heap.size qH.heap.size (fun z=>if z∈jt then some (Value.int .i64 (kn z:Int))else none) left x9/\la u y.heap.size q sm bb ⟨s,sc+1,ct G s l,(nX k G s l i).bl++ [true]⟩ H5 A n cp E' (e+1) vX/\
    (∀z,(left z->z∈jt)/\(z∈jt->¬left z->H5 z=some (kn z+1))/\((z∉jt\/left z)->H5 z=if z=x then some jt.length else ov z))/\Kept (fun j=>j=sm\/j=qH.heap.size) XA u) (μ:=fun _ u=>u.rangeLeft kz.heap.size qH.heap.size) (s:=())
    ⟨_,x9,_,hit,QH.same Mg,fun z=>⟨fun hz=>(K1 z).1 hz,fun hz hl=>absurd ((K1 z).2 hz) hl,fun _=>rfl⟩,Kept.refl _ _⟩ ?_
   rintro s1 u3 ⟨left,aes,H5,KZ,Lr,hinv,ku⟩;have su3:=ku.size;have lit:=KZ.lt;have Yb:Kept (fun j=>j=q\/j=sm\/j=bb) y u3:=(To.trans Mg (fun _ _ h=>h.elim)).trans ku (fun j hj e=>by
    rcases e with e|e
    ·exact .inr (.inl e)
    ·omega)
   rcases KZ.next 0 with⟨h0',O7,lg⟩|⟨z,val,u4,W3,hl,Vw,lg,VE,Vg,cK,k4⟩
   ·refine .inl ⟨u3,lg,?_⟩
    rw [aY,ah.Db];unfold ah.zM;have Qq:=ku.heap (Mg.heap Qp (fun h=>h)) (by have:=hS.qs;omega);have Cl:=ku.heap (Mg.heap Qh (fun h=>h)) (by omega);have OG:cg u3 y.heap.size Ab nb cb bl:=Row.aK (Row.aK KF Mg (fun _ _ h=>h)) ku (fun j hj e=>by have:=EX j hj;omega);refine⟨Ab,nb,cb,by rw [aD Qq];rfl,x.1,⟨x.2.1,Cells.bS Cl⟩,x.2.1,?_⟩;intro Fy;have Mf:Kept Nil u3 Fy:=(Kept.refl _ _).alloc _;have TU:HS Fy (some ⟨u3.heap.size,0,none⟩) 1 [x]:=ln u3 x;clear_value Fy;have s50:=Mf.size;have KD:cg Fy y.heap.size Ab nb cb bl:=Row.aK OG Mf (fun _ _ h=>h);obtain⟨A6,c6,De,KK,H0,g51,WH⟩:=gz aW KD (cx:=1) TU (by omega) (by omega);have RH:Kept (fun j=>bp Ab=some j) Fy De:=(Kept.refl _ _).grown g51 fun j hj _=>hj;have I3:=RH.heap (Mf.heap Qq (fun h=>h)) (fun e=>by have:=EX bb e;omega);refine⟨A6,nb+1,c6,De,KK,dL I3 (by simp),?_⟩;intro HV;have Qn:HV.heap[bb]? =some (.cells #[.slice A6 (nb+1) c6] aW (0,0)):=by
     show(De.setCell ⟨bb,0,none⟩ (.slice A6 (nb+1) c6)).heap[bb]? =_;rw [cY I3 0];rfl
    have D4:Kept (· =bb) De HV:=Kept.setCell (S:=(· =bb)) (Kept.refl _ De) (p:=⟨bb,0,none⟩) (fun _=>rfl) _;clear_value HV;have tR:Kept (fun j=>bp Ab=some j\/j=bb) u3 HV:=((Mf.mono fun _ _ h=>h.elim).trans RH (fun _ _ h=>.inl h):Kept (fun j=>bp Ab=some j\/j=bb) u3 De).trans D4 (fun _ _ h=>.inr h);have Wo:la HV y.heap.size q sm bb ⟨s,sc+1,ct G s l,(nX k G s l i).bl++ [true]⟩ H5 A n cp E' (e+1) vX:=Lr.DZ tR
     (fun e=>e.elim (fun e=>by have:=EX q e;omega) (fun e=>hS.qs.2.1 e)) (fun e=>e.elim (fun e=>by have:=EX sm e;omega) (fun e=>hS.qs.2.2 e))
     (fun j hj e=>e.elim (fun e=>Lx j e hj) (fun e=>by have:=(Row.bS Lr.bl hj).1;omega)) (fun a ha e=>e.elim (fun e=>by have:=EX _ e;have:=(hS.mA a ha).1;omega) (fun e=>(hS.mA a ha).2.2.2 e))
    have qL:cg HV y.heap.size A6 (nb+1) c6 (bl++ [x]):=Row.aK H0 D4 (fun j hj e=>by have:=(Row.bS H0 hj).1;omega);rw [eK (n:=(i:Int)) (by omega) (by omega)];have vu:nX k G s l (i+1)=⟨(nX k G s l i).wd++ [x],(nX k G s l i).bl++ [true]⟩:=by rw [ou,rS,<-IZ];rfl
    have UK:H5=wI G.D (nX k G s l i).wd ov (lh m.sz ch) x:=by
     funext z
     unfold wI;rw [Ve];by_cases hz:z∈jt
     ·rw [if_pos ((c3 z).1 hz)]
      exact(hinv z).2.1 hz (O7 z)
     ·rw [if_neg (fun e=>hz ((c3 z).2 e)),(hinv z).2.2 (.inl hz),c2]
    refine⟨(i:Int)+1,rfl,⟨i+1,rfl,fg,⟨H5,E',e+1,vX,A6,nb+1,c6,bl++ [x],?_,Qn,qL,?_,?_,?_,?_,?_,by omega⟩,?_⟩,by simp only;omega⟩
    ·rw [vu]
     have ec:G.score s+1+((nX k G s l i).bl++ [true]).count true=sc+1:=by rw [List.count_append,<-CT];simp;omega
     show la HV y.heap.size q sm bb ⟨s,G.score s+1+((nX k G s l i).bl++ [true]).count true,ct G s l,(nX k G s l i).bl++ [true]⟩ H5 A n cp E' (e+1) vX
     rw [ec];exact Wo
    ·rw [vu]
     show(nX k G s l i).wd++ [x]=_;rw [Mn,List.append_assoc]
    ·intro j hj he
     rcases WH j hj with h1|h1
     ·exact Lx j h1 he
     ·obtain⟨_,cur,h2⟩:=Row.bS Lr.bl he
      have:=bf h2;omega
    ·rw [vu,UK]
     exact hO.step Yw
    ·rw [vu]
     exact List.nodup_append.2 ⟨gL,by simp,fun a ha b hb e=>by
      have:b=x:=by simpa using hb
      subst this;subst e;exact Yw ha⟩
    ·intro z hz
     rcases List.mem_append.1 hz with hz|hz
     ·exact Iy z hz
     ·have:z=x:=by simpa using hz
      subst this;rw [List.take_add_one,hx];simp
    ·exact Yb.trans tR (fun j hj e=>by
      rcases e with e|e
      ·have:=EX j e;omega
      ·exact .inr (.inr e))
   ·have TP:=(hinv z).1 hl
    rw [if_pos TP]at Vw;cases Vw;have hkz:=cP z TP;refine .inr ⟨_,_,u4,lg,z.1,(kn z:Int),VE,?_⟩;intro Fx;obtain⟨Kv,xw,vA⟩:=gh (w:=u4) (z:=fI.1) (cs:=z.1) (t:=ax) (by rw [z.2.1];rfl);refine⟨⟨z.2.1,z.2.one,fun j hj=>Kv j (by rw [z.2.1];exact hj)⟩,?_⟩;intro Ru LZ
    replace xw:Ru.heap[u4.heap.size]? =some (.cells z.1 ax (0,0)):=xw
    replace vA:Kept Nil u4 Ru:=vA
    have RE:Kept Nil Ru LZ:=(Kept.refl _ _).drew;clear_value LZ Ru;have V1:=RE.heap xw (fun h=>h);have Ig:=vA.tt RE;have Al:Kept (· =qH.heap.size) u3 LZ:=k4.trans Ig (fun _ _ h=>h.elim);have hE3:∀j,bp E'=some j->j≠qH.heap.size:=fun j hj e=>by
     obtain⟨_,cur,h2⟩:=Row.bS QH.bl hj;have:=bf h2;omega
    have QF:=Lr.DZ Al (by omega) (by omega) (fun j hj e=>hE3 j hj e) (fun a ha e=>by have:=(hS.mA a ha).1;omega);have Tn:Kept (fun j=>j=q\/j=sm\/j=bb) y LZ:=Yb.trans Al (fun j hj e=>by omega);have IN:=Vg.aK Ig (fun h=>h) (fun h=>h);obtain⟨Bl,OM,QI,yL⟩:=QF.note z (kn z+1);have ekz:i64.wrap ((kn z:Int)+(1:Int))=((kn z+1:Nat):Int):=by rw [eK (n:=(kn z:Int)) (by omega) (by omega)];omega
    have s3:=Al.size;refine⟨_,xo Tn H7,some sm,QF.f35,z.1,⟨z.2.1,Cells.bS V1⟩,Bl,by rw [ekz];exact OM,?_⟩;refine⟨(),rfl,⟨_,W3,_,IN.aK yL (by omega) (by omega),QI,fun y'=>?_,?_⟩,?_⟩
    ·obtain⟨i1,i2,i3⟩:=hinv y'
     refine⟨fun h=>i1 h.1,fun h1 h2=>?_,fun h=>?_⟩
     ·by_cases e:y'=z
      ·subst e;simp only [if_true]
      ·simp only [if_neg e]
       exact i2 h1 (fun h=>h2 ⟨h,e⟩)
     ·have e:y'≠z:=by
       rcases h with h|h
       ·exact fun e=>h (by rw [e];exact TP)
       ·exact h.2
      simp only [if_neg e];exact i3 (h.imp_right fun h=>h.1)
    ·exact(ku.trans Al (fun j hj e=>.inr e)).trans yL (fun j hj e=>.inl e)
    ·show Bl.rangeLeft kz.heap.size qH.heap.size<u3.rangeLeft kz.heap.size qH.heap.size
     rw [KZ.left_eq,(IN.aK yL (by omega) (by omega)).left_eq];exact cK
 ·rw [aY,ah.lL]
  have:i=n:=by omega
  subst this;have e1:=Gd k G s l;rw [Ps]at e1;rw [e1]at hS hO;have hsq:v.heap[bs]? =some (.cells #[.pointer (some ⟨q,0,none⟩)] dP (0,0)):=kv.heap V.hs (by omega);exact⟨some ⟨q,0,none⟩,by rw [aD hsq];rfl,hK v ov E e ce hS hO kv⟩
end
def AY(N:Nat):Prop:=∀ {w:World} {F:Nat->Prop} {c k:Nat} {G:GS} {m:CM} {B:Nat} {A:Option Addr} {n cx:Nat} {l:List HT} {K:Value->World->Prop},CV w F c k G m->cg w B A n cx l->n<=N->l.Nodup->(∀x∈l,x∈ids G.D)->
 (∀j,bp A=some j->¬m.own c j/\¬F j)->(∀l' w',SO G l'->(∀x,x∈l'↔x∈l)->cg w' B A n cx l'->Kept (fun j=>bp A=some j) w w'->K (.tuple #[]) w')->
 bm prog ft.id #[.slice A n cx,.func (.func cC.id) #[.pointer (some ⟨c,0,none⟩)] #[]] w K
section
variable{y v w w':World}{F:Nat->Prop}{c k:Nat}{G:GS}{m:CM}{s:HT}{l ch:List HT}{bs bc bh q sm nL cL:Nat}{AL:Option Addr}{K:Value->World->Prop}
set_option maxHeartbeats 4000000 in
theorem yl{N:Nat}(xn:AY N)(hN:(ru G.D s l).length<=N)(C:CV y F c k G m)(hD:G.D.length<=5000)(rO:k<=1000)(hs:s∈ids G.D)(hc:cN G.D G.P s ch)(hl:∀x∈l,x∈ids G.D)
 (V:VB y c s bs bc bh q sm (fun _=>none)) (hS:vY y y.heap.size q sm ⟨s,G.score s+1,[],[]⟩ (fun _=>none) none 0 0 none 0 0)
 (hL:HS y AL nL (dh (eT G.D l++l))) (hAL:∀a,AL=some a->a.block≠q)
 (kV:∀j,(m.own c j\/F j\/j=bs\/j=bc\/j=bh)->j≠q/\j≠sm)
 (hK:∀v B bb ov A n cp E e ce,la v B q sm bb (fO k G s l) ov A n cp E e ce->OV G.D (gK k G s l).wd ov (lh m.sz ch)->(∀a,A=some a->y.heap.size<=a.block)->(y.heap.size<=B/\B<=v.heap.size)->Kept (fun j=>j=q\/j=sm) y v->K (.pointer (some ⟨q,0,none⟩)) v):
 Holds none [] prog 153 (.loop (lB (bB (sR (sL (aZ (sR (body ah.fn)))))))) (ah.q1 K)
  [(3,.pointer (some ⟨bc,0,none⟩)),(4,.pointer (some ⟨bh,0,none⟩)),(6,.pointer none),(8,.pointer (some ⟨bs,0,none⟩)),(46,.slice AL nL cL),(47,.int .i64 (nL:Int)),(48,.int .i64 0)] y:=by
 have W:=C.iP.W;have lbs:=bf V.hs;have lbc:=bf V.hc;have lbh:=bf V.hh;have Sn:=kV bs (.inr (.inr (.inl rfl)));have Sq:=kV bc (.inr (.inr (.inr (.inl rfl))));have Sp:=kV bh (.inr (.inr (.inr (.inr rfl))));have ZN:=hL.len;have Wt:∀x∈dh (eT G.D l++l),x∈ids G.D:=fun x hx=>by
  rcases List.mem_append.1 (dJ.1 hx)with h|h
  ·exact(jL.1 h).1
  ·exact hl x h
 have hLn:nL<=5000:=by
  have:=eo (iL _).nodup Wt;rw [jG]at this;omega
 generalize hLL:dh (eT G.D l++l)=L at*;refine ah.cf (I:=fun s0 v=>∃i:Nat,s0=(i:Int)/\i<=nL/\(∃A n cp,vY v y.heap.size q sm ⟨s,G.score s+1,(L.take i).filter fun h=>decide (h≠s/\¬fG G.D h s),[]⟩ (fun _=>none) A n cp none 0 0)/\Kept (· =q) y v) (μ:=fun s0 _=>((nL:Int)-s0).toNat) (s:=0) ⟨0,rfl,Nat.zero_le _,⟨none,0,0,hS⟩,Kept.refl _ _⟩ ?_;rintro s0 v ⟨i,rfl,hi,⟨A,n,cp,Hw⟩,kv⟩;have sv:=kv.size;have Pt:=cg.len Hw.mg;have hnA:n<=5000:=by
  have h1:=List.length_filter_le (fun h=>decide (h≠s/\¬fG G.D h s)) (L.take i);have h2:=List.length_take_le i L;have h3:((L.take i).filter fun h=>decide (h≠s/\¬fG G.D h s)).length=n:=Pt;omega
 refine Split.dec (fun lH=>?_) (fun iK=>?_)
 ·have fg:i<nL:=by omega
  obtain⟨x,hx⟩:∃x,L[i]? =some x:=⟨_,List.getElem?_eq_getElem (by omega)⟩;have WU:L.take (i+1)=L.take i++ [x]:=by rw [List.take_add_one,hx];rfl
  have hLv:HS v AL nL L:=hL.aK kv hAL;refine hLv.load (i:=(i:Int)) (by omega) hx ?_;intro p5;obtain⟨ry,jv,jf⟩:=gh (w:=v) (z:=fI.1) (cs:=x.1) (t:=ax) (by rw [x.2.1];rfl);refine⟨⟨x.2.1,x.2.one,fun j hj=>ry j (by rw [x.2.1];exact hj)⟩,?_⟩;intro kz np
  replace jv:kz.heap[v.heap.size]? =some (.cells x.1 ax (0,0)):=jv
  replace jf:Kept Nil v kz:=jf
  have uQ:Kept Nil kz np:=(Kept.refl _ _).drew;clear_value np kz;have EL:=uQ.heap jv (fun h=>h);have JR:=jf.tt uQ;have BX:Kept (· =q) y np:=kv.trans JR (fun _ _ h=>h.elim);have C15:CV np F c k G m:=C.aK BX (fun j hj e=>(kV j (.inl hj)).1 e) (fun j hj e=>(kV j (.inr (.inl hj))).1 e);have hcy:∀ {u:World},Kept (· =q) y u->u.cell? ⟨bc,0,none⟩=some (.pointer (some ⟨c,0,none⟩)):=fun ku=>by rw [aD (ku.heap V.hc Sq.1)];rfl
  have OB:∀ {u:World},Kept (· =q) y u->u.cell? ⟨bs,0,none⟩=some (.pointer (some ⟨q,0,none⟩)):=fun ku=>by rw [aD (ku.heap V.hs Sn.1)];rfl
  have next:∀ {u:World} {A':Option Addr} {n' vH:Nat},vY u y.heap.size q sm ⟨s,G.score s+1,(L.take (i+1)).filter fun h=>decide (h≠s/\¬fG G.D h s),[]⟩ (fun _=>none) A' n' vH none 0 0->Kept (· =q) y u->
   ∃s1:Int,i64.wrap ((i:Int)+(1:Int))=s1/\(∃i':Nat,s1=(i':Int)/\i'<=nL/\(∃A n cp,vY u y.heap.size q sm ⟨s,G.score s+1,(L.take i').filter fun h=>decide (h≠s/\¬fG G.D h s),[]⟩ (fun _=>none) A n cp none 0 0)/\Kept (· =q) y u)/\((nL:Int)-s1).toNat<((nL:Int)-(i:Int)).toNat:=fun h1 h2=>by
   rw [eK (n:=(i:Int)) (by omega) (by omega)];exact⟨(i:Int)+1,rfl,⟨i+1,rfl,fg,⟨_,_,_,h1⟩,h2⟩,by omega⟩
  refine⟨x.1,⟨x.2.1,Cells.bS EL⟩,s.1,⟨s.2.1,Cells.bS (BX.heap V.hh Sp.1)⟩,⟨x.2.ints,s.2.ints⟩,?_⟩;rw [gB];by_cases GW:x=s
  ·refine Split.no (by rw [decide_eq_true GW];rfl) ?_
   obtain⟨s1,e1,e2,e3⟩:=next (u:=np) (by
    rw [WU,List.filter_append];have: [x].filter (fun h=>decide (h≠s/\¬fG G.D h s))= []:=by rw [List.filter_cons_of_neg (by simp [GW])];rfl
    rw [this,List.append_nil];exact Hw.same JR) BX
   rw [e1];exact⟨s1,rfl,e2,e3⟩
  ·refine Split.yes (by rw [decide_eq_false GW];rfl) ⟨_,hcy BX,_,C15.c1,x.1,⟨x.2.1,Cells.bS EL⟩,s.1,⟨s.2.1,Cells.bS (BX.heap V.hh Sp.1)⟩,?_⟩
   obtain⟨mx,X15,_⟩:=C15.X;refine jo X15 hD x s fun Bf r hr xY=>⟨r,rfl,?_⟩;have Gy:Kept (· =q) y Bf:=BX.trans xY (fun _ _ h=>h.elim);have NI:=JR.tt xY;cases r with
   |true=>
    refine Split.no rfl ?_;obtain⟨s1,e1,e2,e3⟩:=next (u:=Bf) (by
     rw [WU,List.filter_append];have: [x].filter (fun h=>decide (h≠s/\¬fG G.D h s))= []:=by rw [List.filter_cons_of_neg (by simp [hr.1 rfl])];rfl
     rw [this,List.append_nil];exact Hw.same NI) Gy
    rw [e1];exact⟨s1,rfl,e2,e3⟩
   |false=>
    refine Split.yes rfl ?_;intro wa;have D7:Kept Nil Bf wa:=(Kept.refl _ _).drew;clear_value wa;have Tv:=NI.tt D7;have wY:Kept (· =q) y wa:=Gy.trans D7 (fun _ _ h=>h.elim);have EV:=Hw.same Tv;refine⟨_,OB wY,_,OB wY,A,n,cp,EV.f33,x.1,⟨x.2.1,Cells.bS ((xY.tt D7).heap EL (fun h=>h))⟩,x.2.1,?_⟩;intro kr;have rv:Kept Nil wa kr:=(Kept.refl _ _).alloc _;have TX:HS kr (some ⟨wa.heap.size,0,none⟩) 1 [x]:=ln wa x;clear_value kr;have EU:=EV.same rv;have sD:Kept (· =q) y kr:=wY.trans rv (fun _ _ h=>h.elim);have Tc:=sD.size;obtain⟨A',vH,u,OF,ku,ET,k5,hw5⟩:=EU.Nl Tc (by omega) TX;have Tm:Kept (· =q) y u:=sD.trans ku (fun j hj e=>by omega);refine⟨EU.f33,OB sD,OB sD,A',n+1,vH,u,OF,OB Tm,hw5,?_⟩;intro tK
    replace ET:vY tK y.heap.size q sm _ (fun _=>none) A' (n+1) vH none 0 0:=ET
    replace k5:Kept (fun j=>j=q\/y.heap.size<=j) kr tK:=k5
    clear_value tK;obtain⟨s1,e1,e2,e3⟩:=next (u:=tK) (by
     rw [WU,List.filter_append];have: [x].filter (fun h=>decide (h≠s/\¬fG G.D h s))= [x]:=by rw [List.filter_cons_of_pos (by simp only [decide_eq_true_eq];exact⟨GW,fun e=>by have:=hr.2 e;cases this⟩)];rfl
     rw [this];exact ET) (sD.trans k5 (fun j hj e=>by
      rcases e with e|e
      ·exact e
      ·omega))
    rw [e1];exact⟨s1,rfl,e2,e3⟩
 ·rw [aY,ah.dB]
  have gM:i=nL:=by omega
  subst gM;rw [List.take_of_length_le (by omega)]at Hw;unfold ah.cX;intro p8;have Ap:Kept Nil v p8:=(Kept.refl _ _).drew;clear_value p8;have zg:=Hw.same Ap;have wX:Kept (· =q) y p8:=kv.trans Ap (fun _ _ h=>h.elim);have C33:CV p8 F c k G m:=C.aK wX (fun j hj e=>(kV j (.inl hj)).1 e) (fun j hj e=>(kV j (.inr (.inl hj))).1 e);have WY:(L.filter fun h=>decide (h≠s/\¬fG G.D h s))=ru G.D s l:=by unfold ru;rw [hLL]
  have yV:cg p8 y.heap.size A n cp (ru G.D s l):=by rw [<-WY];exact zg.mg
  have Lw:∀j,bp A=some j->y.heap.size<=j/\j<p8.heap.size:=fun j hj=>by obtain⟨g1,cur,g2⟩:=Row.bS yV hj;exact⟨g1,bf g2⟩
  refine⟨some ⟨q,0,none⟩,by rw [aD (wX.heap V.hs Sn.1)];rfl,A,n,cp,zg.f33,some ⟨c,0,none⟩,by rw [aD (wX.heap V.hc Sq.1)];rfl,?_⟩;refine xn C33 yV (by have:=cg.len yV;omega) (oS _ _ _) (fun x hx=>Wt x (by rw [<-WY]at hx;exact(List.mem_filter.1 hx).1)) (fun j hj=>⟨fun e=>by have:=C.low j (.inl e);have:=(Lw j hj).1;omega,fun e=>by have:=C.low j (.inr e);have:=(Lw j hj).1;omega⟩) fun l' mN RO jX Ep xX=>⟨rfl,?_⟩;have el:l'=ct G s l:=BR RO jX;subst el;have qB:=Hw.qB;have sB:=Hw.sB;have Uz:=Hw.qs;have s33:=wX.size;have NB:Kept (· =q) y mN:=wX.trans xX (fun j hj e=>by have:=(Lw j e).1;omega);have Kz:=xX.heap zg.top (fun e=>by have:=(Lw q e).1;omega);have OZ:=zg.ov.aK xX (fun e=>by have:=(Lw sm e).1;omega);intro gY qH;have lQ:Kept Nil mN gY:=(Kept.refl _ _).alloc _;have Hs:gY.heap[mN.heap.size]? =some (.cells #[.slice none 0 0] aW (0,0)):=aR mN _;have qv:Kept Nil gY qH:=(Kept.refl _ _).alloc _;have KY:qH.heap[gY.heap.size]? =some (.cells #[.nilFunc] dS (0,0)):=aR gY _;refine⟨dL KY (by simp),?_⟩;intro Bd;have PB:Bd.heap[gY.heap.size]? =some (.cells #[.func (.func bH.id) #[] #[.pointer (some ⟨bs,0,none⟩),.pointer (some ⟨bc,0,none⟩),.pointer (some ⟨bh,0,none⟩)]] dS (0,0)):=by
   show(qH.setCell ⟨gY.heap.size,0,none⟩ _).heap[gY.heap.size]? =_;rw [cY KY 0];rfl
  have CR:Kept (· =gY.heap.size) qH Bd:=Kept.setCell (S:=(· =gY.heap.size)) (Kept.refl _ qH) (p:=⟨gY.heap.size,0,none⟩) (fun _=>rfl) _;clear_value Bd;have uP:=lQ.tt qv;have Tb:=lQ.size;have XG:=qv.size;have l35:=bf Hs;have l36:=bf KY;have Ao:Kept Nil mN Bd:=⟨CR.os.trans uP.os,CR.tape.trans uP.tape,CR.output.trans uP.output,Nat.le_trans uP.size CR.size,fun j hj hn=>by rw [CR.block j (Nat.lt_of_lt_of_le hj uP.size) (by omega),uP.block j hj hn]⟩;have Wa:=CR.heap (qv.heap Hs (fun h=>h)) (by omega);have l37:=bf PB;clear_value qH gY;have BV:Kept (· =q) y Bd:=NB.trans Ao (fun _ _ h=>h.elim);have s34:=NB.size;have s37:=BV.size;have C37:CV Bd F c k G m:=C.aK BV (fun j hj e=>(kV j (.inl hj)).1 e) (fun j hj e=>(kV j (.inr (.inl hj))).1 e);have El:=Ao.heap Kz (fun h=>h);have IF:=OZ.aK Ao (fun h=>h);have KE:cg Bd y.heap.size A n cp (ct G s l):=Row.aK Ep Ao (fun _ _ h=>h);have V37:VB Bd c s bs bc bh q sm (fun _=>none):=⟨BV.heap V.hs Sn.1,BV.heap V.hc Sq.1,BV.heap V.hh Sp.1,by rw [bu,aD El];exact(gN ..).2.2.2,IF⟩;have ZR:∀a,A=some a->y.heap.size<=a.block/\a.block<mN.heap.size:=fun a ha=>by
   subst ha;obtain⟨g1,cur,g2⟩:=Row.bS Ep (k:=a.block) rfl;exact⟨g1,bf g2⟩
  have QG:la Bd Bd.heap.size q sm mN.heap.size ⟨s,G.score s+1,ct G s l,[]⟩ (fun _=>none) A n cp none 0 0:=
   ⟨El,KE.hs,fun a ha=>by have:=ZR a ha;exact⟨by omega,by omega,by omega,by omega⟩,Row.nil _ _ _ _,IF,by omega,by omega,by omega,⟨Uz,by omega,by omega⟩⟩
  refine⟨some ⟨q,0,none⟩,by rw [aD V37.hs];rfl,A,n,cp,QG.f33,?_⟩;have Ov:(nX k G s l 0)=⟨G.world s++ [s],[]⟩:=rfl;refine yi (l:=l) C37 hD rO hs hc (fun x hx=>Wt x (by
   have h1:=(jX x).1 hx;rw [<-WY]at h1;exact(List.mem_filter.1 h1).1)) V37 PB (fun j hj=>?_) ⟨⟨fun _=>none,none,0,0,none,0,0,[],QG,Wa,cg.nil _ _,by rw [Ov,List.append_nil],fun j hj=>by simp [bp]at hj,by rw [Ov];exact C.Z |>.ov hs hc,?_,fun z hz=>by simp at hz,rfl⟩,Kept.refl _ _⟩ hnA fun v' ov E e ce h1 h2 h3=>?_
  ·have h1:j<y.heap.size\/j=gY.heap.size:=by
    rcases hj with h|h|h|h|h|h
    ·exact .inl (C.low j (.inl h))
    ·exact .inl (C.low j (.inr h))
    ·exact .inl (by omega)
    ·exact .inl (by omega)
    ·exact .inl (by omega)
    ·exact .inr h
   rcases h1 with h1|h1
   ·have h2:j≠q/\j≠sm:=by
     rcases hj with h|h|h|h|h|h
     ·exact kV j (.inl h)
     ·exact kV j (.inr (.inl h))
     ·exact kV j (.inr (.inr (.inl h)))
     ·exact kV j (.inr (.inr (.inr (.inl h))))
     ·exact kV j (.inr (.inr (.inr (.inr h))))
     ·omega
    exact⟨h2.1,h2.2,by omega⟩
   ·exact⟨by omega,by omega,by omega⟩
  ·rw [Ov]
   obtain⟨g1,g2,_⟩:=C.iP.wd s hs;exact List.nodup_append.2 ⟨g1,by simp,fun a ha b hb e=>by
    have:b=s:=by simpa using hb
    subst this;subst e;exact fG.irrefl W a (g2 a ha)⟩
  ·refine hK v' Bd.heap.size mN.heap.size ov A n cp E e ce h1 h2 (fun a ha=>(ZR a ha).1) ⟨s37,h3.size⟩ ?_
   exact(BV.mono fun _ _ h=>.inl h).trans h3 (fun j hj e=>by
    rcases e with e|e|e
    ·exact .inl e
    ·exact .inr e
    ·omega)
end
theorem LK:Rc prog cB=some ([(0,32),(32,1),(33,1),(34,1)],List.replicate 32 (.int .u8 0)++ [.int .u64 0,.slice none 0 0,.slice none 0 0]):=by kernel_rfl
theorem Ff(h:HT)(z:Int):prog.built cB [(0,.agg h.1),(1,.int .u64 z)]=some (h.1++ #[.int .u64 z,.slice none 0 0,.slice none 0 0]):=by
 have hs:=h.2.1;rw [pX LK,jB (off:=0) (size:=32) rfl (by simpa [Value.cells]using hs) (by simp),jB (off:=32) (size:=1) rfl rfl (by
  rw [List.size_toArray,mf (by simp [Value.cells,hs])];simp)]
 simp only [Instr.fill,Option.some.injEq];apply Array.ext';unfold gu;simp [Value.cells,hs];rw [List.drop_append];simp [hs]
theorem HP:Rc prog dg=some ([(0,35),(35,1)],List.replicate 32 (.int .u8 0)++ [.int .u64 0,.slice none 0 0,.slice none 0 0,.map none]):=by kernel_rfl
theorem u9(c:rl)(sm:Option Nat):prog.built dg [(0,.agg (dT c none 0 0 none 0 0)),(1,.map sm)]=some (dT c none 0 0 none 0 0++ #[.map sm]):=by
 have hs:=bX c none 0 0 none 0 0;rw [pX HP,jB (off:=0) (size:=35) rfl (by simpa [Value.cells]using hs) (by simp),jB (off:=35) (size:=1) rfl rfl (by
  rw [List.size_toArray,mf (by simp [Value.cells,hs])];simp)]
 simp only [Instr.fill,Option.some.injEq];apply Array.ext';unfold gu;simp [Value.cells,hs]
section
variable{g1 v w w':World}{F:Nat->Prop}{c k:Nat}{G:GS}{m:CM}{s:HT}{l ch:List HT}{bs bc bh q sm n cx:Nat}{A:Option Addr}{K:Value->World->Prop}
theorem Ge{N:Nat}(xn:AY N)(hN:(ru G.D s l).length<=N)(C:CV g1 F c k G m)(hT:p6 g1)(hD:G.D.length<=5000)(rO:k<=1000)(hs:s∈ids G.D)(hc:cN G.D G.P s ch)(hl:∀x∈l,x∈ids G.D)(y5:HS g1 A n l)(hn:n<=5000)
 (V:VB g1 c s bs bc bh q sm (fun _=>none)) (jr:g1.heap[q]? =some (.cells (dT ⟨s,G.score s+1,[],[]⟩ none 0 0 none 0 0++ #[.map (some sm)]) dg (0,0)))
 (kV:∀j,(m.own c j\/F j\/j=bs\/j=bc\/j=bh)->j≠q/\j≠sm) (Uz:q≠sm) {p:Nat} (hp:∃mx,XV g1 m.FX m.x G.D G.P mx/\mx.g=p)
 (hK:∀v B bb ov A n cp E e ce,la v B q sm bb (fO k G s l) ov A n cp E e ce->OV G.D (gK k G s l).wd ov (lh m.sz ch)->(∀a,A=some a->g1.heap.size<=a.block)->(g1.heap.size<=B/\B<=v.heap.size)->Kept (fun j=>j=q\/j=sm) g1 v->K (.pointer (some ⟨q,0,none⟩)) v):
 bm prog aJ.id #[.pointer (some ⟨p,0,none⟩),.slice A n cx] g1 fun i1 j1=>∃k1:Option Addr,∃m1 n1:Nat,i1=.slice k1 m1 n1/\
  ∃(o1:Option Addr) (p1 q1:Nat) (r1:World),(Builtin.append_ #[aW,aW] aW #[.slice k1 m1 n1,.slice A n cx]).run prog j1=.ok (.slice o1 p1 q1) r1/\
  bm prog ir.id #[.slice o1 p1 q1] r1 fun t1 u1=>∃v1:Option Addr,∃x1 y1:Nat,t1=.slice v1 x1 y1/\
  Holds none [] prog 153 (.loop (lB (bB (sR (sL (aZ (sR (body ah.fn)))))))) (ah.q1 K)
   [(3,.pointer (some ⟨bc,0,none⟩)),(4,.pointer (some ⟨bh,0,none⟩)),(6,.pointer none),(8,.pointer (some ⟨bs,0,none⟩)),(46,.slice v1 x1 y1),(47,.int .i64 (x1:Int)),(48,.int .i64 0)] u1:=by
 have W:=C.iP.W;obtain⟨mx,X,rfl⟩:=hp;obtain⟨bl,c',mb,M,GG⟩:=X.G;have lq:=bf jr;have lsm:=V.ov.lt;refine ti GG W (by omega) hT y5 (by omega) fun A1 c1 w1 BJ k1=>⟨A1,_,c1,rfl,?_⟩;have rM:(eT G.D l).length<=5000:=Nat.le_trans (pC _ _) hD;have s1:=k1.size;obtain⟨A2,c2,w2,lg,r7,g2,ZS⟩:=gz aW BJ (cx:=cx) (y5.same k1) (by omega) s1;have k2:Kept (fun j=>g1.heap.size<=j) w1 w2:=(Kept.refl _ _).grown g2 fun j hj _=>(Row.bS BJ hj).1;have oD:Kept Nil g1 w2:=k1.trans k2 (fun j hj e=>by omega);refine⟨A2,_,c2,w2,lg,?_⟩;refine fX r7.hs (by omega) fun A3 c3 w3 rp k3=>⟨A3,_,c3,rfl,?_⟩;have km:=oD.tt k3;have s02:=oD.size;have XK:=km.size;have V3:=V.same km;refine yl (l:=l) xn hN (C.same km) hD rO hs hc hl V3 ⟨km.heap jr (fun h=>h),cg.nil _ _,Row.nil _ _ _ _,V3.ov,by omega,by omega,Uz,fun j hj=>by simp [bp]at hj⟩ rp.hs (fun a ha=>?_) kV fun v B bb ov A n cp E e ce h1 h2 h3 h4 h5=>?_
 ·subst ha
  have:=(Row.bS rp (k:=a.block) rfl).1;omega
 ·exact hK v B bb ov A n cp E e ce h1 h2 (fun a ha=>Nat.le_trans XK (h3 a ha)) ⟨Nat.le_trans XK h4.1,h4.2⟩ ((km.mono fun _ _ h=>h.elim).tt h5)
end
section
variable{w w':World}{F:Nat->Prop}{c k:Nat}{G:GS}{m:CM}{s:HT}{l ch:List HT}{n cx:Nat}{A:Option Addr}{K:Value->World->Prop}
set_option maxHeartbeats 4000000 in
theorem sT{N:Nat}(xn:AY N)(hN:(ru G.D s l).length<=N)(C:CV w F c k G m)(hT:p6 w)(hD:G.D.length<=5000)(rO:k<=1000)(hs:s∈ids G.D)(hc:cN G.D G.P s ch)(hl:∀x∈l,x∈ids G.D)(y5:HS w A n l)(hn:n<=5000)
 (hK:∀v q B sm bb ov A n cp E e ce,la v B q sm bb (fO k G s l) ov A n cp E e ce->OV G.D (gK k G s l).wd ov (lh m.sz ch)->w.heap.size<=q->w.heap.size<=sm->(∀a,A=some a->w.heap.size<=a.block)->(w.heap.size<=B/\B<=v.heap.size)->Kept Nil w v->K (.pointer (some ⟨q,0,none⟩)) v):
 bm prog ah.id #[.pointer (some ⟨c,0,none⟩),.agg s.1,.slice A n cx] w K:=by
 refine ah.of ?_;unfold ah.W;intro w1 w2;have k1:Kept Nil w w1:=(Kept.refl _ _).alloc _;have ZB:w1.heap[w.heap.size]? =some (.cells #[.pointer (some ⟨c,0,none⟩)] cM (0,0)):=aR w _;have k2:Kept Nil w1 w2:=(Kept.refl _ _).alloc _;have yT:w2.heap[w1.heap.size]? =some (.cells s.1 ax (0,0)):=aR w1 _;clear_value w2;have EI:=k2.heap ZB (fun h=>h);have oD:=k1.tt k2;have s1:=k1.size;have l1:=bf ZB;have l2:=bf yT;clear_value w1;have C2:=C.same oD;obtain⟨X1,X2,_⟩:=C2.X;refine⟨some ⟨c,0,none⟩,by rw [aD EI];rfl,_,C2.c1,eM.of (Split.no rfl (Is.mk rfl ⟨_,X2.c0,⟨_,rfl,?_⟩⟩))⟩;intro w3;have k3:Kept Nil w2 w3:=(Kept.refl _ _).drew;clear_value w3;have km:=oD.tt k3;have ZA:=k3.heap EI (fun h=>h);have G3:=k3.heap yT (fun h=>h);have C3:=C.same km;obtain⟨A1,n1,c1,B1,m1,d1,s1',sa⟩:=C3.seen s hs;have KC:G.score s<=5000:=by
  have h1:=(C.iP.wd s hs).2.2;have h2:=eo (m:=ids G.D) (C.iP.wd s hs).1 (fun b hb=>(((C.iP.wd s hs).2.1 b hb).mem C.iP.W).1);rw [jG]at h2;omega
 have ew:u64.wrap (((G.iZ s).score:Int)+(1:Int))=((G.score s+1:Nat):Int):=by
  show u64.wrap ((G.score s:Int)+(1:Int))=_
  rw [show(G.score s:Int)+1=((G.score s+1:Nat):Int)by omega];exact jD (by omega)
 have mH:∀ {u:World},Kept Nil w3 u->u.cell? ⟨w.heap.size,0,none⟩=some (.pointer (some ⟨c,0,none⟩)):=fun ku=>by rw [aD (ku.heap ZA (fun h=>h))];rfl
 have vv:∀ {u:World},Kept Nil w3 u->∃cs:Array Value,(.agg s.1:Value)=.agg cs/\cs.size=32/\Cells u ⟨w1.heap.size,0,none⟩ cs:=fun ku=>⟨s.1,rfl,s.2.1,Cells.bS (ku.heap G3 (fun h=>h))⟩;have nN:∀ {u:World},Kept Nil w3 u->u.cell? (((⟨m.q s,0,none⟩:Addr).add 0).add 32)=some (.int .u64 ((G.iZ s).score:Int)):=fun ku=>(sa.aK ku (fun _ _ h=>h)).Ra;have l3:=bf G3;have s3:=k3.size;refine⟨s.1,⟨s.2.1,Cells.bS G3⟩,some ⟨c,0,none⟩,mH (Kept.refl _ _),_,C3.c2,s.1,⟨s.2.1,Cells.bS G3⟩,_,C3.oK hs,_,nN (Kept.refl _ _),?_⟩;rw [ew];rw [Ff s];refine Is.mk rfl ?_;have WZ:(s.1++ #[.int .u64 ((G.score s+1:Nat):Int),.slice none 0 0,.slice none 0 0]:Array Value)=dT ⟨s,G.score s+1,[],[]⟩ none 0 0 none 0 0:=rfl;rw [WZ];have go:∀ {u:World} {q sm bs:Nat},Kept Nil w3 u->w3.heap.size<=q->w3.heap.size<=sm->w3.heap.size<=bs->q≠sm->bs≠q->bs≠sm->
  u.heap[q]? =some (.cells (dT ⟨s,G.score s+1,[],[]⟩ none 0 0 none 0 0++ #[.map (some sm)]) dg (0,0))->dX u sm (fun _=>none)->u.heap[bs]? =some (.cells #[.pointer (some ⟨q,0,none⟩)] dP (0,0))->_:=
  fun {u q sm bs} ku hq Cb Sc h1 h2 h3 jr KS ln=>Ge (g1:=u) (bs:=bs) (bc:=w.heap.size) (bh:=w1.heap.size) (q:=q) (sm:=sm) (cx:=cx) (K:=K) (p:=X1.g) xn hN (C3.same ku) (hT.same (km.tt ku)) hD rO hs hc hl (y5.same (km.tt ku)) hn
   ⟨ln,ku.heap ZA (fun h=>h),ku.heap G3 (fun h=>h),by rw [bu,aD jr];exact(gN ..).2.2.2,KS⟩ jr
   (fun j hj=>by
     rcases hj with h|h|h|h|h
     ·have:=C.low j (.inl h);exact⟨by omega,by omega⟩
     ·have:=C.low j (.inr h);exact⟨by omega,by omega⟩
     ·exact⟨by omega,by omega⟩
     ·exact⟨by omega,by omega⟩
     ·exact⟨by omega,by omega⟩) h1 ⟨X1,X2.same (k3.tt ku),rfl⟩
   (fun v B bb ov A n cp E e ce t1 t2 t3 t4 t5=>hK v q B sm bb ov A n cp E e ce t1 t2 (by omega) (by omega) (fun a ha=>by have:=t3 a ha;have:=(km.tt ku).size;omega) ⟨by have:=(km.tt ku).size;have:=t4.1;omega,t4.2⟩ ((km.tt ku).trans t5 (fun j hj e=>by omega)))
 have JD:∀ {u0:World} {b q:Nat},u0.heap[b]? =some (.cells #[.pointer none] dP (0,0))->Wr u0 ⟨b,0,none⟩/\∀u1,u1=u0.setCell ⟨b,0,none⟩ (.pointer (some ⟨q,0,none⟩))->u1.heap[b]? =some (.cells #[.pointer (some ⟨q,0,none⟩)] dP (0,0))/\Kept (· =b) u0 u1:=fun {u0 b q} hb=>⟨dL hb (by simp),fun u1 e=>by
  subst e;refine⟨?_,Kept.setCell (S:=(· =b)) (Kept.refl _ u0) (p:=⟨b,0,none⟩) (fun _=>rfl) _⟩;rw [cY hb 0];rfl⟩
 refine⟨?_,?_⟩
 ·intro w4
  have k4:Kept Nil w3 w4:=(Kept.refl _ _).alloc _;have U5:dX w4 w3.heap.size (fun _=>none):=dX.new w3;clear_value w4;have l4:=U5.lt;refine⟨nN k4,(C3.same k4).oK hs,vv k4,(C3.same k4).c2,mH k4,vv k4,?_⟩;rw [u9];refine Is.mk rfl ⟨?_,?_⟩
  ·intro w5 w6
   have k5:Kept Nil w4 w5:=(Kept.refl _ _).alloc _;have YT:w5.heap[w4.heap.size]? =some (.cells (dT ⟨s,G.score s+1,[],[]⟩ none 0 0 none 0 0++ #[.map (some w3.heap.size)]) dg (0,0)):=aR w4 _;have k6:Kept Nil w5 w6:=(Kept.refl _ _).alloc _;have pQ:w6.heap[w5.heap.size]? =some (.cells #[.pointer none] dP (0,0)):=aR w5 _;clear_value w6;have OO:=k6.heap YT (fun h=>h);have l5:=bf YT;clear_value w5;have Ih:=k5.tt k6;have qv:=k4.tt Ih;have XG:=qv.size;obtain⟨t1,t2⟩:=JD (q:=w4.heap.size) pQ;refine⟨t1,?_⟩;intro w7;obtain⟨t3,t4⟩:=t2 w7 rfl;clear_value w7;exact go (qv.trans t4 (fun j hj e=>by omega)) (by omega) (by omega) (by omega) (by omega) (by omega) (by omega) (t4.heap OO (by omega)) ((U5.same Ih).aK t4 (by omega)) t3
  ·intro w5
   have k5:Kept Nil w4 w5:=(Kept.refl _ _).alloc _;have vD:w5.heap[w4.heap.size]? =some (.cells #[.pointer none] dP (0,0)):=aR w4 _;clear_value w5;have l5:=bf vD;have lQ:=k4.tt k5;refine⟨nN lQ,(C3.same lQ).oK hs,vv lQ,(C3.same lQ).c2,mH lQ,vv lQ,?_⟩;intro w6;have k6:Kept Nil w5 w6:=(Kept.refl _ _).alloc _;have OO:w6.heap[w5.heap.size]? =some (.cells (dT ⟨s,G.score s+1,[],[]⟩ none 0 0 none 0 0++ #[.map (some w3.heap.size)]) dg (0,0)):=aR w5 _;clear_value w6;have Ih:=k5.tt k6;have qv:=k4.tt Ih;have Tb:=lQ.size;obtain⟨t1,t2⟩:=JD (q:=w5.heap.size) (k6.heap vD (fun h=>h));refine⟨t1,?_⟩;intro w7;obtain⟨t3,t4⟩:=t2 w7 rfl;clear_value w7;exact go (qv.trans t4 (fun j hj e=>by omega)) (by omega) (by omega) (by omega) (by omega) (by omega) (by omega) (t4.heap OO (by omega)) ((U5.same Ih).aK t4 (by omega)) t3
 ·intro w4
  have k4:Kept Nil w3 w4:=(Kept.refl _ _).alloc _;have AO:w4.heap[w3.heap.size]? =some (.cells #[.pointer none] dP (0,0)):=aR w3 _;clear_value w4;have l4:=bf AO;refine⟨nN k4,(C3.same k4).oK hs,vv k4,(C3.same k4).c2,mH k4,vv k4,?_⟩;intro w5;have k5:Kept Nil w4 w5:=(Kept.refl _ _).alloc _;have Y8:dX w5 w4.heap.size (fun _=>none):=dX.new w4;clear_value w5;have l5:=Y8.lt;have lQ:=k4.tt k5;refine⟨nN lQ,(C3.same lQ).oK hs,vv lQ,(C3.same lQ).c2,mH lQ,vv lQ,?_⟩;rw [u9];refine Is.mk rfl ?_;intro w6;have k6:Kept Nil w5 w6:=(Kept.refl _ _).alloc _;have OO:w6.heap[w5.heap.size]? =some (.cells (dT ⟨s,G.score s+1,[],[]⟩ none 0 0 none 0 0++ #[.map (some w4.heap.size)]) dg (0,0)):=aR w5 _;clear_value w6;have qv:=lQ.tt k6;have Tb:=lQ.size;obtain⟨t1,t2⟩:=JD (q:=w5.heap.size) ((k5.tt k6).heap AO (fun h=>h));refine⟨t1,?_⟩;intro w7;obtain⟨t3,t4⟩:=t2 w7 rfl;clear_value w7;exact go (qv.trans t4 (fun j hj e=>by omega)) (by omega) (by omega) (by omega) (by omega) (by omega) (by omega) (t4.heap OO (by omega)) ((Y8.same k6).aK t4 (by omega)) t3
end
end Go.Proofs.YtfleamccglihoaaGreatDoor
