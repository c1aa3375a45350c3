import Derived.Test.YtfleamccglihoaaGreatDoorMP
import Derived.Test.YtfleamccglihoaaGreatDoorMG
open Go.IntKind (i64 u64)
set_option linter.unusedVariables false
namespace Go.Proofs.YtfleamccglihoaaGreatDoor
open Go.Proofs.Tryz
open Go Go.b0 Go.RowKit
theorem Cd:zD prog ig jo 1 1:=⟨by kernel_rfl,by kernel_rfl⟩
abbrev tC(l:List Bool):List Value:=l.map .bool
structure zE(w:World)(B q sm:Nat)(c:pr)(ov:HT->Option Nat)(A:Option Addr)(n cp:Nat)(E:Option Addr)(e ce:Nat):Prop where
 top:w.heap[q]? =some (.cells (di c A n cp E e ce++ #[.map (some sm)]) eE (0,0))
 mg:cC w B A n cp c.merge
 bl:Row w B jo 1 E e ce (tC c.fX)
 ov:fU w sm (KK ov)
 qB:q<B
 sB:sm<B
 qs:q≠sm
 AE:∀j,bG A=some j->bG E≠some j
section
variable{w w':World}{B q sm:Nat}{c:pr}{ov:HT->Option Nat}{A E:Option Addr}{n cp e ce:Nat}{K:Value->World->Prop}
theorem zE.aJ{S:Nat->Prop}(h:zE w B q sm c ov A n cp E e ce)(hk:Kept S w w')(h1:¬S q)(h2:¬S sm)(h3:∀j,B<=j->¬S j):zE w' B q sm c ov A n cp E e ce:=
 ⟨hk.heap h.top h1,Row.aJ h.mg hk (fun j hj=>h3 j (Row.bV h.mg hj).1),Row.aJ h.bl hk (fun j hj=>h3 j (Row.bV h.bl hj).1),h.ov.aJ hk h2,h.qB,h.sB,h.qs,h.AE⟩
theorem zE.same(h:zE w B q sm c ov A n cp E e ce)(hk:Kept Nil w w'):zE w' B q sm c ov A n cp E e ce:=h.aJ hk (fun h=>h) (fun h=>h) (fun _ _ h=>h)
theorem zE.f33(h:zE w B q sm c ov A n cp E e ce):w.cell? (((⟨q,0,none⟩:Addr).add 0).add 33)=some (.slice A n cp):=by rw [add_zero,bC,aE h.top];exact(gN ..).2.1
theorem zE.adP(h:zE w B q sm c ov A n cp E e ce):∀j,bG A=some j\/bG E=some j->B<=j/\j<w.heap.size:=fun j hj=>by
 rcases hj with hj|hj
 ·obtain⟨h1,cur,h2⟩:=Row.bV h.mg hj;exact⟨h1,aY h2⟩
 ·obtain⟨h1,cur,h2⟩:=Row.bV h.bl hj;exact⟨h1,aY h2⟩
theorem rJ(c:pr)(A:Option Addr)(n cp:Nat)(E:Option Addr)(e ce:Nat)(r:Array Value)(A':Option Addr)(n' xh:Nat):
 (di c A n cp E e ce++r).setIfInBounds (0+33) (.slice A' n' xh)=di c A' n' xh E e ce++r:=by
 have h0:c.np.1.size=32:=c.np.2.1;apply Array.ext';unfold di;simp only [Array.toList_setIfInBounds,Array.toList_append,List.append_assoc];rw [List.set_append_right _ _ (by simp [h0])];simp [h0]
theorem rI(c:pr)(A:Option Addr)(n cp:Nat)(E:Option Addr)(e ce:Nat)(r:Array Value)(E':Option Addr)(n' xh:Nat):
 (di c A n cp E e ce++r).setIfInBounds (0+34) (.slice E' n' xh)=di c A n cp E' n' xh++r:=by
 have h0:c.np.1.size=32:=c.np.2.1;apply Array.ext';unfold di;simp only [Array.toList_setIfInBounds,Array.toList_append,List.append_assoc];rw [List.set_append_right _ _ (by simp [h0])];simp [h0]
theorem wm(c:pr)(A:Option Addr)(n cp:Nat)(E:Option Addr)(e ce:Nat)(r:Array Value)(s:Nat):
 (di c A n cp E e ce++r).setIfInBounds (0+32) (.int .u64 (s:Int))=di {c with score:=s} A n cp E e ce++r:=by
 have h0:c.np.1.size=32:=c.np.2.1;apply Array.ext';unfold di;simp only [Array.toList_setIfInBounds,Array.toList_append,List.append_assoc];rw [List.set_append_right _ _ (by simp [h0])];simp [h0]
theorem zE.SH(h:zE w B q sm c ov A n cp E e ce)(hB:B<=w.heap.size)(hn:n<=100000){x:HT}{b:Nat}(hb:HS w (some ⟨b,0,none⟩) 1 [x]):
 ∃A' xh u,(Builtin.append_ #[aF,aF] aF #[.slice A n cp,.slice (some ⟨b,0,none⟩) 1 1]).run prog w=.ok (.slice A' (n+1) xh) u/\
  Kept (fun j=>B<=j) w u/\zE (u.setCell (((⟨q,0,none⟩:Addr).add 0).add 33) (.slice A' (n+1) xh)) B q sm {c with merge:=c.merge++ [x]} ov A' (n+1) xh E e ce/\
  Kept (fun j=>j=q\/B<=j) w (u.setCell (((⟨q,0,none⟩:Addr).add 0).add 33) (.slice A' (n+1) xh))/\Wr u (((⟨q,0,none⟩:Addr).add 0).add 33):=by
 obtain⟨A',xh,u,hr,fJ,hg,hA⟩:=dc aF h.mg (cx:=1) hb (by omega) hB;have ku:Kept (fun j=>B<=j) w u:=(Kept.refl _ _).grown hg fun j hj _=>(Row.bV h.mg hj).1;have kA:Kept (fun j=>bG A=some j) w u:=(Kept.refl _ _).grown hg fun j hj _=>hj;have qB:=h.qB;have sB:=h.sB;have jE:=ku.heap h.top (by omega);have CZ:Row u B jo 1 E e ce (tC c.fX):=Row.aJ h.bl kA (fun j hj e=>h.AE j e hj);have qL:Kept (· =q) u (u.setCell (((⟨q,0,none⟩:Addr).add 0).add 33) (.slice A' (n+1) xh)):=by
  rw [add_zero,bC];exact Kept.setCell (S:=(· =q)) (Kept.refl _ u) (p:=⟨q,0+33,none⟩) (fun _=>rfl) _
 have iT:∀ {X:Option Addr} {j:Nat},(∀k,bG X=some k->B<=k)->bG X=some j->¬j=q:=fun h hj e=>by have:=h _ hj;omega
 refine⟨A',xh,u,hr,ku,⟨?_,?_,?_,?_,qB,sB,h.qs,?_⟩,?_,?_⟩
 ·show(u.setCell (((⟨q,0,none⟩:Addr).add 0).add 33) (.slice A' (n+1) xh)).heap[q]? =_
  rw [add_zero,bC,dp jE,rJ];rfl
 ·exact Row.aJ fJ qL (fun j hj=>iT (fun k hk=>(Row.bV fJ hk).1) hj)
 ·exact Row.aJ CZ qL (fun j hj=>iT (fun k hk=>(Row.bV CZ hk).1) hj)
 ·exact(h.ov.aJ ku (by omega)).aJ qL (fun e=>h.qs e.symm)
 ·intro j hj he
  rcases hA j hj with h1|h1
  ·exact h.AE j h1 he
  ·have:=(h.adP j (.inr he)).2;omega
 ·exact(ku.mono fun _ _ h=>.inr h).trans qL (fun _ _ e=>.inl e)
 ·rw [add_zero,bC]
  exact dN jE (by rw [Array.size_append,bH];simp)
end
structure nf(w:World)(B q sm bb:Nat)(c:pr)(ov:HT->Option Nat)(A:Option Addr)(n cp:Nat)(E:Option Addr)(e ce:Nat):Prop where
 top:w.heap[q]? =some (.cells (di c A n cp E e ce++ #[.map (some sm)]) eE (0,0))
 mg:HS w A n c.merge
 mA:∀a,A=some a->a.block<B/\a.block≠q/\a.block≠sm/\a.block≠bb
 bl:Row w B jo 1 E e ce (tC c.fX)
 ov:fU w sm (KK ov)
 qB:q<B
 sB:sm<B
 bB:bb<B
 qs:q≠sm/\q≠bb/\sm≠bb
section
variable{w w':World}{B q sm bb:Nat}{c:pr}{ov:HT->Option Nat}{A E:Option Addr}{n cp e ce:Nat}{K:Value->World->Prop}
theorem nf.aJ{S:Nat->Prop}(h:nf w B q sm bb c ov A n cp E e ce)(hk:Kept S w w')(h1:¬S q)(h2:¬S sm)(h3:∀j,B<=j->j<w.heap.size->¬S j)(h4:∀a,A=some a->¬S a.block):nf w' B q sm bb c ov A n cp E e ce:=
 ⟨hk.heap h.top h1,h.mg.aJ hk h4,h.mA,Row.aJ h.bl hk (fun j hj=>by obtain⟨g1,cur,g2⟩:=Row.bV h.bl hj;exact h3 j g1 (aY g2)),h.ov.aJ hk h2,h.qB,h.sB,h.bB,h.qs⟩
theorem nf.same(h:nf w B q sm bb c ov A n cp E e ce)(hk:Kept Nil w w'):nf w' B q sm bb c ov A n cp E e ce:=h.aJ hk (fun h=>h) (fun h=>h) (fun _ _ _ h=>h) (fun _ _ h=>h)
theorem nf.f32(h:nf w B q sm bb c ov A n cp E e ce):w.cell? (((⟨q,0,none⟩:Addr).add 0).add 32)=some (.int .u64 (c.score:Int)):=by rw [add_zero,bC,aE h.top];exact(gN ..).1
theorem nf.f33(h:nf w B q sm bb c ov A n cp E e ce):w.cell? (((⟨q,0,none⟩:Addr).add 0).add 33)=some (.slice A n cp):=by rw [add_zero,bC,aE h.top];exact(gN ..).2.1
theorem nf.f34(h:nf w B q sm bb c ov A n cp E e ce):w.cell? (((⟨q,0,none⟩:Addr).add 0).add 34)=some (.slice E e ce):=by rw [add_zero,bC,aE h.top];exact(gN ..).2.2.1
theorem nf.f35(h:nf w B q sm bb c ov A n cp E e ce):w.cell? ((⟨q,0,none⟩:Addr).add 35)=some (.map (some sm)):=by rw [bC,aE h.top];exact(gN ..).2.2.2
theorem nf.wr(h:nf w B q sm bb c ov A n cp E e ce){j:Nat}(hj:j<36):Wr w (((⟨q,0,none⟩:Addr).add 0).add j):=by
 rw [add_zero,bC];exact dN h.top (by rw [Array.size_append,bH];simp;omega)
theorem nf.St{h:nf w B q sm bb c ov A n cp E e ce}(j:Nat)(v:Value):Kept (· =q) w (w.setCell (((⟨q,0,none⟩:Addr).add 0).add j) v):=by
 rw [add_zero,bC];exact Kept.setCell (S:=(· =q)) (Kept.refl _ w) (p:=⟨q,0+j,none⟩) (fun _=>rfl) _
theorem nf.HL(h:nf w B q sm bb c ov A n cp E e ce)(hB:B<=w.heap.size)(hn:e<=100000){x:Bool}{b:Nat}(hb:w.cell? ⟨b,0,none⟩=some (.bool x)):
 ∃E' sQ u,(Builtin.append_ #[ig,ig] ig #[.slice E e ce,.slice (some ⟨b,0,none⟩) 1 1]).run prog w=.ok (.slice E' (e+1) sQ) u/\
  Kept (fun j=>B<=j/\bG E=some j) w u/\Wr u (((⟨q,0,none⟩:Addr).add 0).add 34)/\
  nf (u.setCell (((⟨q,0,none⟩:Addr).add 0).add 34) (.slice E' (e+1) sQ)) B q sm bb {c with fX:=c.fX++ [x]} ov A n cp E' (e+1) sQ/\
  Kept (fun j=>j=q\/bG E=some j) w (u.setCell (((⟨q,0,none⟩:Addr).add 0).add 34) (.slice E' (e+1) sQ))/\(∀j,bG E'=some j->bG E=some j\/w.heap.size<=j):=by
 obtain⟨E',sQ,u,hr,fJ,hg,hE⟩:=fR (P:=prog) (t:=ig) (bytes:=1) (ty:=ig) Cd h.bl (a:=⟨b,0,none⟩) (m:=1) (cx:=1) (news:= [.bool x]) rfl (fun j v hj=>by
  cases j with
  |zero=>simp only [List.getElem?_cons_zero,Option.some.injEq]at hj;subst hj;rw [add_zero];exact hb
  |succ j=>simp at hj) (fun v hv=>by
  have:v=.bool x:=by simpa using hv
  subst this;rfl) (by omega) (by unfold maxLen;omega) hB
 have qB:=h.qB;have sB:=h.sB;have kE:Kept (fun j=>B<=j/\bG E=some j) w u:=(Kept.refl _ _).grown hg fun j hj _=>⟨(Row.bV h.bl hj).1,hj⟩;have jE:=kE.heap h.top (by omega);have qL:Kept (· =q) u (u.setCell (((⟨q,0,none⟩:Addr).add 0).add 34) (.slice E' (e+1) sQ)):=by
  rw [add_zero,bC];exact Kept.setCell (S:=(· =q)) (Kept.refl _ u) (p:=⟨q,0+34,none⟩) (fun _=>rfl) _
 refine⟨E',sQ,u,hr,kE,?_,⟨?_,?_,h.mA,?_,?_,qB,sB,h.bB,h.qs⟩,?_,hE⟩
 ·rw [add_zero,bC]
  exact dN jE (by rw [Array.size_append,bH];simp)
 ·show(u.setCell (((⟨q,0,none⟩:Addr).add 0).add 34) (.slice E' (e+1) sQ)).heap[q]? =_
  rw [add_zero,bC,dp jE,rI];rfl
 ·exact(h.mg.aJ kE (fun a ha=>by have:=(h.mA a ha).1;omega)).aJ qL (fun a ha=>(h.mA a ha).2.1)
 ·have e1:tC (c.fX++ [x])=tC c.fX++ [.bool x]:=by simp [tC]
  show Row _ B jo 1 E' (e+1) sQ (tC (c.fX++ [x]))
  rw [e1];exact Row.aJ fJ qL (fun j hj=>by have:=(Row.bV fJ hj).1;omega)
 ·exact(h.ov.aJ kE (by omega)).aJ qL (fun e=>h.qs.1 e.symm)
 ·exact(kE.mono fun _ _ h=>.inr h.2).trans qL (fun _ _ e=>.inl e)
theorem nf.OJ(h:nf w B q sm bb c ov A n cp E e ce)(s:Nat):
 nf (w.setCell (((⟨q,0,none⟩:Addr).add 0).add 32) (.int .u64 (s:Int))) B q sm bb {c with score:=s} ov A n cp E e ce/\Kept (· =q) w (w.setCell (((⟨q,0,none⟩:Addr).add 0).add 32) (.int .u64 (s:Int))):=by
 have qB:=h.qB;have qL:=nf.St (h:=h) 32 (.int .u64 (s:Int));refine⟨⟨?_,h.mg.aJ qL (fun a ha=>(h.mA a ha).2.1),h.mA,Row.aJ h.bl qL (fun j hj=>by have:=(Row.bV h.bl hj).1;omega),h.ov.aJ qL (fun e=>h.qs.1 e.symm),h.qB,h.sB,h.bB,h.qs⟩,qL⟩;rw [add_zero,bC,dp h.top,wm]
theorem nf.note(h:nf w B q sm bb c ov A n cp E e ce)(b:HT)(n0:Nat):
 ∃u,(Instr.mapUpdate cU (.map (some sm)) (.agg b.1) (.int .i64 (n0:Int))).run prog w=.ok () u/\nf u B q sm bb c (fun y=>if y=b then some n0 else ov y) A n cp E e ce/\Kept (· =sm) w u:=by
 have sB:=h.sB;obtain⟨u,hr,hm,hk⟩:=h.ov.put sj b (.int .i64 (n0:Int));refine⟨u,hr,⟨hk.heap h.top h.qs.1,h.mg.aJ hk (fun a ha=>(h.mA a ha).2.2.1),h.mA,Row.aJ h.bl hk (fun j hj=>by have:=(Row.bV h.bl hj).1;omega),?_,h.qB,h.sB,h.bB,h.qs⟩,hk⟩;have e1:KK (fun y=>if y=b then some n0 else ov y)=fun x=>if x=b then some (.int .i64 (n0:Int))else KK ov x:=by
  funext y
  unfold KK;by_cases e:y=b
  ·simp only [if_pos e,Option.map_some]
  ·simp only [if_neg e]
 rw [e1];exact hm
end
noncomputable def la(k:Nat)(G:GS)(s:HT)(l:List HT)(i:Nat):VS:=((cI G s l).take i).foldl (rV k G.D) ⟨G.world s++ [s],[]⟩
structure V2(y v:World)(k:Nat)(G:GS)(s:HT)(l:List HT)(base:HT->Nat)(q sm bb:Nat)(A:Option Addr)(n cp i:Nat):Prop where
 ex:∃(ov:HT->Option Nat) (E:Option Addr) (e ce:Nat) (Ab:Option Addr) (nb cb:Nat) (bl:List HT),
  nf v y.heap.size q sm bb ⟨s,G.score s+1+(la k G s l i).bl.count true,cI G s l,(la k G s l i).bl⟩ ov A n cp E e ce/\
  v.heap[bb]? =some (.cells #[.slice Ab nb cb] aF (0,0))/\cC v y.heap.size Ab nb cb bl/\(la k G s l i).wd=G.world s++ [s]++bl/\(∀j,bG Ab=some j->bG E≠some j)/\
  OV G.D (la k G s l i).wd ov base/\(la k G s l i).wd.Nodup/\(∀z∈bl,z∈(cI G s l).take i)/\e=i
 kp:Kept (fun j=>j=q\/j=sm\/j=bb) y v
theorem nf.H5{w w':World}{B q sm bb:Nat}{c:pr}{ov:HT->Option Nat}{A E:Option Addr}{n cp e ce:Nat}{S:Nat->Prop}(h:nf w B q sm bb c ov A n cp E e ce)(hk:Kept S w w')(h1:¬S q)(h2:¬S sm)(h3:∀j,bG E=some j->¬S j)(h4:∀a,A=some a->¬S a.block):nf w' B q sm bb c ov A n cp E e ce:=
 ⟨hk.heap h.top h1,h.mg.aJ hk h4,h.mA,Row.aJ h.bl hk h3,h.ov.aJ hk h2,h.qB,h.sB,h.bB,h.qs⟩
theorem zM{k:Nat}{G:GS}{s:HT}{l:List HT}{i:Nat}{x:HT}(hx:(cI G s l)[i]? =some x):la k G s l (i+1)=rV k G.D (la k G s l i) x:=by
 unfold la;have e:(cI G s l).take (i+1)=(cI G s l).take i++ [x]:=by rw [List.take_add_one,hx];rfl
 rw [e,List.foldl_append];rfl
theorem DR(k:Nat)(G:GS)(s:HT)(l:List HT)(i:Nat)(hi:i<=(cI G s l).length):(la k G s l i).bl.length=i:=by
 obtain⟨b,h1,h2⟩:=Hp k G.D (G.world s++ [s]) ((cI G s l).take i);unfold la;rw [h2];show b.length=i
 rw [h1,List.length_take];omega
theorem DS(k:Nat)(G:GS)(s:HT)(l:List HT):la k G s l (cI G s l).length=im k G s l:=by
 unfold la im;rw [List.take_of_length_le (Nat.le_refl _)]
section
variable{y v w w':World}{F:Nat->Prop}{c k:Nat}{G:GS}{m:CM}{s:HT}{l ch:List HT}{bs bc bh q sm bb kb n cp:Nat}{A:Option Addr}{K:Value->World->Prop}
set_option maxHeartbeats 4000000 in
theorem BZ(C:CV y F c k G m)(hD:G.D.length<=5000)(pB:k<=1000)(hs:s∈ids G.D)(hc:dD G.D G.P s ch)(hM:∀x∈cI G s l,x∈ids G.D)
 (V:VB y c s bs bc bh q sm (fun _=>none)) (Nw:y.heap[kb]? =some (.cells #[.func (.func cr.id) #[] #[.pointer (some ⟨bs,0,none⟩),.pointer (some ⟨bc,0,none⟩),.pointer (some ⟨bh,0,none⟩)]] fI (0,0)))
 (iT:∀j,(m.own c j\/F j\/j=bs\/j=bc\/j=bh\/j=kb)->j≠q/\j≠sm/\j≠bb)
 (h0:V2 y y k G s l (nu m.sz ch) q sm bb A n cp 0) (hn:n<=5000)
 (hK:∀v ov E e ce,nf v y.heap.size q sm bb (dr k G s l) ov A n cp E e ce->OV G.D (im k G s l).wd ov (nu m.sz ch)->Kept (fun j=>j=q\/j=sm\/j=bb) y v->K (.pointer (some ⟨q,0,none⟩)) v):
 Holds none [] prog 153 (.loop (lB (bB (sR (sL (fW (body ai.fn))))))) (ai.q2 K)
  [(3,.pointer (some ⟨bc,0,none⟩)),(6,.pointer none),(8,.pointer (some ⟨bs,0,none⟩)),(11,.pointer (some ⟨bb,0,none⟩)),(12,.func (.func ag.id) #[] #[.pointer (some ⟨bb,0,none⟩),.pointer (some ⟨bc,0,none⟩),.pointer (some ⟨bh,0,none⟩)]),(13,.pointer (some ⟨kb,0,none⟩)),(92,.slice A n cp),(93,.int .i64 (n:Int)),(94,.int .i64 0)] y:=by
 have W:=C.hZ.W;have hmn:(cI G s l).Nodup:=(lM G s l).nodup;have U3:(cI G s l).length=n:=by obtain⟨_,_,_,_,_,_,_,_,h,_⟩:=h0.ex;exact h.mg.len
 have lbs:=aY V.hs;have lbc:=aY V.hc;have lbh:=aY V.hh;have lkb:=aY Nw;have YH:=iT bs (.inr (.inr (.inl rfl)));have YJ:=iT bc (.inr (.inr (.inr (.inl rfl))));have YI:=iT bh (.inr (.inr (.inr (.inr (.inl rfl)))));have fkb:=iT kb (.inr (.inr (.inr (.inr (.inr rfl)))));refine ai.iG (I:=fun s0 v=>∃i:Nat,s0=(i:Int)/\i<=n/\V2 y v k G s l (nu m.sz ch) q sm bb A n cp i) (μ:=fun s0 _=>((n:Int)-s0).toNat) (s:=0) ⟨0,rfl,Nat.zero_le _,h0⟩ ?_;rintro s0 v ⟨i,rfl,hi,hV⟩;obtain⟨ov,E,e,ce,Ab,nb,cb,bl,hS,xc,fJ,RD,hAE,hO,gA,vK,hie⟩:=hV.ex;have kv:=hV.kp;have sv:=kv.size;refine Split.dec (fun jV=>?_) (fun gK=>?_)
 ·have eh:i<n:=by omega
  obtain⟨x,hx⟩:∃x,(cI G s l)[i]? =some x:=⟨_,List.getElem?_eq_getElem (by omega)⟩;have RB:=hM x (List.mem_of_getElem? hx);have XT:x∉(la k G s l i).wd:=by
   rw [RD];intro hm;obtain⟨_,g1,g2⟩:=jD.1 (List.mem_of_getElem? hx);rcases List.mem_append.1 hm with hm|hm
   ·rcases List.mem_append.1 hm with hm|hm
    ·exact g2 ((C.hZ.wd s hs).2.1 x hm)
    ·exact g1 (by simpa using hm)
   ·have h1:=vK x hm
    obtain⟨j,hj⟩:=List.mem_iff_getElem?.1 h1;rw [List.getElem?_take]at hj;split at hj
    ·rename_i Kh
     have h2:=(lgeS hj);have h3:=(lgeS hx);have:=(List.getElem_inj hmn).1 (h2.2.trans h3.2.symm);omega
    ·cases hj
  have oU:=zM (k:=k) hx;refine hS.mg.load (i:=(i:Int)) (by omega) hx ?_;intro pw;obtain⟨tq,j0,kz⟩:=iL (w:=v) (z:=fz.1) (cs:=x.1) (t:=al) (by rw [x.2.1];rfl);refine⟨⟨x.2.1,x.2.one,fun j hj=>tq j (by rw [x.2.1];exact hj)⟩,?_⟩;intro jb
  replace j0:jb.heap[v.heap.size]? =some (.cells x.1 al (0,0)):=j0
  replace kz:Kept Nil v jb:=kz
  clear_value jb;intro nS nn;have tX:Kept Nil jb nS:=(Kept.refl _ _).alloc _;have UW:fU nS jb.heap.size (fun _=>none):=fU.new jb;have rz:Kept Nil nS nn:=(Kept.refl _ _).alloc _;have Qs:nn.heap[nS.heap.size]? =some (.cells #[.map none] cU (0,0)):=aM nS _;refine⟨dN Qs (by simp),?_⟩;intro xA;have VH:xA.heap[nS.heap.size]? =some (.cells #[.map (some jb.heap.size)] cU (0,0)):=by
   show(nn.setCell ⟨nS.heap.size,0,none⟩ (.map (some jb.heap.size))).heap[nS.heap.size]? =_;rw [dp Qs 0];rfl
  have Ig:Kept (· =nS.heap.size) nn xA:=Kept.setCell (S:=(· =nS.heap.size)) (Kept.refl _ nn) (p:=⟨nS.heap.size,0,none⟩) (fun _=>rfl) _;clear_value xA;have s14:=kz.size;have s15:=tX.size;have l14:=aY j0;have l15:=UW.lt;have l16:=aY Qs;have Ik:Kept Nil jb xA:=⟨Ig.os.trans (tX.tt rz).os,Ig.tape.trans (tX.tt rz).tape,Ig.output.trans (tX.tt rz).output,Nat.le_trans (tX.tt rz).size Ig.size,fun j hj hn=>by rw [Ig.block j (Nat.lt_of_lt_of_le hj (tX.tt rz).size) (by omega),(tX.tt rz).block j hj hn]⟩;have abk:fU xA jb.heap.size (fun _=>none):=(UW.same rz).aJ Ig (by omega);have NI:=Ik.heap j0 (fun h=>h);clear_value nn nS;have KX:Kept Nil v xA:=kz.tt Ik;have FT:Kept (fun j=>j=q\/j=sm\/j=bb) y xA:=kv.trans KX (fun _ _ h=>h.elim);have QK:=hS.same KX;have C17:CV xA F c k G m:=C.aJ FT (fun j hj e=>by have:=iT j (.inl hj);omega) (fun j hj e=>by have:=iT j (.inr (.inl hj));omega);have V17:VB xA c s bs bc bh q sm ov:=⟨FT.heap V.hs (by omega),FT.heap V.hc (by omega),FT.heap V.hh (by omega),QK.f35,QK.ov⟩;have Vb:=FT.heap Nw (by omega);have IH:cC xA y.heap.size Ab nb cb bl:=Row.aJ fJ KX (fun _ _ h=>h);have NR:=KX.heap xc (fun h=>h);refine⟨x.1,⟨x.2.1,Cells.bV NI⟩,?_⟩;have qB:=hS.qB;have sB:=hS.sB;have bB:=hS.bB;have I6:∀b∈(la k G s l i).wd,sr ov (nu m.sz ch) b=(cg G.D (la k G s l i).wd b).length:=hO.kn;have uz:=gA;rw [RD]at uz;obtain⟨c1,c2,c3⟩:=Ml C.hZ (h:=x) hs hc uz;rw [<-RD]at c2 c3;have V1:=fJ.len;have PY:nb<=5000:=by
   have h1:=dJ (m:=cI G s l) (List.nodup_append.1 uz).2.1 (fun z hz=>List.mem_of_mem_take (vK z hz));omega
  have QP:∀a,Ab=some a->a.block<jb.heap.size:=fun a ha=>by
   subst ha;obtain⟨_,cur,h1⟩:=Row.bV fJ (k:=a.block) rfl;have:=aY h1;omega
  refine Bh (p:=⟨bs,bc,bh,q,sm,kb,nS.heap.size,jb.heap.size,0,0⟩) ⟨C17,V17,Vb,VH,(fun e=>by have:jb.heap.size<y.heap.size:=C.low _ (.inl e);omega),(fun e=>by have:jb.heap.size<y.heap.size:=C.low _ (.inr e);omega),(show bs≠jb.heap.size/\bc≠jb.heap.size/\bh≠jb.heap.size/\q≠jb.heap.size/\sm≠jb.heap.size/\kb≠jb.heap.size/\nS.heap.size≠jb.heap.size from⟨by omega,by omega,by omega,by omega,by omega,by omega,by omega⟩)⟩ hD pB hs hc (h:=x) NR (by show bb≠jb.heap.size;omega) IH.hs (fun a ha=>by have:=QP a ha;show a.block≠jb.heap.size;omega) (by omega) (by
   show fU xA jb.heap.size _
   have e0:(fun y=>if y∈([]:List HT)then some (Value.int .i64 (sr ov (nu m.sz ch) y:Int))else none)=fun _=>none:=by funext y;simp
   rw [e0];exact abk) c1 fun EZ r hr hFr BK=>⟨r,rfl,?_⟩
  replace BK:Kept (· =jb.heap.size) xA EZ:=BK
  have NK:r=qX k G.D (la k G s l i).wd x:=by rw [hr];exact Ju I6 c2 c3
  have WK:∀j,bG E=some j->y.heap.size<=j/\j<v.heap.size:=fun j hj=>by obtain⟨g1,cur,g2⟩:=Row.bV hS.bl hj;exact⟨g1,aY g2⟩
  have Jg:∀j,bG Ab=some j->y.heap.size<=j/\j<v.heap.size:=fun j hj=>by obtain⟨g1,cur,g2⟩:=Row.bV fJ hj;exact⟨g1,aY g2⟩
  have s17:=Ik.size;have acL:=QK.H5 BK (by omega) (by omega) (fun j hj=>by have:=WK j hj;omega) (fun a ha=>by have:=(hS.mA a ha).1;omega);have PO:cC EZ y.heap.size Ab nb cb bl:=Row.aJ IH BK (fun j hj=>by have:=Jg j hj;omega);have KS:Kept (fun j=>j=q\/j=sm\/j=bb) y EZ:=FT.trans BK (fun j hj e=>by omega);have Wb:=BK.heap NR (by omega);have VX:=BK.heap NI (by omega);have abT:=BK.heap VH (by omega);intro zJ;have Ic:Kept Nil EZ zJ:=(Kept.refl _ _).drew;clear_value zJ;have Jc:=acL.same Ic;have AH:=KS.trans Ic (fun _ _ h=>h.elim);have AU:∀ {u:World} {S:Nat->Prop},Kept S y u->¬S bs->u.cell? ⟨bs,0,none⟩=some (.pointer (some ⟨q,0,none⟩)):=fun ku hb=>by rw [aE (ku.heap V.hs hb)];rfl
  have MG:¬(bs=q\/bs=sm\/bs=bb):=by omega
  have s21:=AH.size;refine⟨_,AU AH MG,_,AU AH MG,E,e,ce,Jc.f34,?_⟩;intro mC;have qT:Kept Nil zJ mC:=(Kept.refl _ _).alloc _;have LU:mC.heap[zJ.heap.size]? =some (.cells #[.bool r] jo (0,0)):=aM zJ _;clear_value mC;have Jb:=Jc.same qT;have vE:=AH.trans qT (fun _ _ h=>h.elim);have Zm:=vE.size;obtain⟨E',sQ,u,T8,kE,aae,Ja,k5,hE5⟩:=Jb.HL (by omega) (by omega) (x:=r) (b:=zJ.heap.size) (by rw [aE LU];rfl);have ZC:Kept (fun j=>j=q\/j=sm\/j=bb) y u:=vE.trans kE (fun j hj e=>by have:=WK j e.2;omega);refine⟨Jb.f34,AU vE MG,AU vE MG,E',e+1,sQ,u,T8,AU ZC MG,aae,?_⟩;intro wI
  replace Ja:nf wI y.heap.size q sm bb _ ov A n cp E' (e+1) sQ:=Ja
  replace k5:Kept (fun j=>j=q\/bG E=some j) mC wI:=k5
  clear_value wI;have OY:Kept (fun j=>j=q\/j=sm\/j=bb) y wI:=vE.trans k5 (fun j hj e=>by
   rcases e with e|e
   ·exact .inl e
   ·have:=WK j e;omega)
  have Ie:Kept (fun j=>j=q\/bG E=some j) EZ wI:=((Ic.tt qT).mono fun _ _ h=>h.elim).tt k5;have ad6:=(Ic.tt qT).size;have s20:=BK.size;have IG:cC wI y.heap.size Ab nb cb bl:=Row.aJ PO Ie (fun j hj e=>by
   have:=Jg j hj;rcases e with e|e
   ·omega
   ·exact hAE j hj e)
  have NQ:=Ie.heap Wb (fun e=>by
   rcases e with e|e
   ·exact hS.qs.2.1 e.symm
   ·have:=WK bb e;omega)
  have QQ:∀j,bG Ab=some j->bG E'≠some j:=fun j hj he=>by
   rcases hE5 j he with h1|h1
   ·exact hAE j hj h1
   ·have:=Jg j hj;omega
  have M8:∀z∈bl,z∈(cI G s l).take (i+1):=fun z hz=>by
   have h1:=vK z hz;rw [List.take_add_one];exact List.mem_append_left _ h1
  cases r with
  |false=>
   refine Split.yes rfl ?_;rw [dH (n:=(i:Int)) (by omega) (by omega)];have yT:la k G s l (i+1)=⟨(la k G s l i).wd,(la k G s l i).bl++ [false]⟩:=by rw [oU,rV,<-NK];rfl
   refine⟨(i:Int)+1,rfl,⟨i+1,rfl,eh,⟨ov,E',e+1,sQ,Ab,nb,cb,bl,?_,NQ,IG,?_,QQ,?_,?_,M8,by omega⟩,OY⟩,by simp only;omega⟩
   ·rw [yT]
    simpa [List.count_append]using Ja
   ·rw [yT];exact RD
   ·rw [yT];exact hO
   ·rw [yT];exact gA
  |true=>
   refine Split.no rfl ?_;have QM:=hFr rfl
   replace QM:zp EZ jb.heap.size (sr ov (nu m.sz ch)) (oY G x bl ch):=QM
   have cZ:=(qo.1 hr.symm).2;have rU:=dJ (m:=ids G.D) c1 (fun z hz=>by
    have h1:=(gF.1 ((c3 z).1 hz)).1;rw [RD]at h1;rcases List.mem_append.1 h1 with h1|h1
    ·rcases List.mem_append.1 h1 with h1|h1
     ·exact(((C.hZ.wd s hs).2.1 z h1).mem W).1
     ·have:z=s:=by simpa using h1
      subst this;exact hs
    ·exact hM z (List.mem_of_mem_take (vK z h1)))
   rw [iI]at rU;generalize kF:oY G x bl ch=ly at*;generalize abr:sr ov (nu m.sz ch)=kn at*;have PI:G.score s<=5000:=by
    have h1:=(C.hZ.wd s hs).2.2;have h2:=dJ (m:=ids G.D) (C.hZ.wd s hs).1 (fun b hb=>(((C.hZ.wd s hs).2.1 b hb).mem W).1);rw [iI]at h2;omega
   have ab0:(la k G s l i).bl.count true<=5000:=by
    have h1:=List.count_le_length (a:=true) (l:=(la k G s l i).bl);rw [DR k G s l i (by omega)]at h1;omega
   generalize Ew:G.score s+1+(la k G s l i).bl.count true=sc at*;have ew:u64.wrap ((sc:Int)+(1:Int))=((sc+1:Nat):Int):=by
    rw [show(sc:Int)+1=((sc+1:Nat):Int)by omega];exact km (by omega)
   refine⟨_,AU OY MG,_,Ja.f32,Ja.wr (by omega),?_⟩;intro uJ qx;have acJ:nf uJ y.heap.size q sm bb ⟨s,sc+1,cI G s l,(la k G s l i).bl++ [true]⟩ ov A n cp E' (e+1) sQ:=by
    show nf (wI.setCell (((⟨q,0,none⟩:Addr).add 0).add 32) (.int .u64 (u64.wrap ((sc:Int)+(1:Int))))) _ _ _ _ _ _ _ _ _ _ _ _
    rw [ew];exact(Ja.OJ (sc+1)).1
   have G0:Kept (· =q) wI uJ:=nf.St (h:=Ja) 32 _;have zr:Kept Nil uJ qx:=(Kept.refl _ _).drew;clear_value qx uJ;have C5:=acJ.same zr;have Em:Kept (· =q) wI qx:=G0.trans zr (fun _ _ h=>h.elim);have AG:=OY.trans Em (fun j hj e=>.inl e);have Eo:Kept (fun j=>j=q\/bG E=some j) EZ qx:=Ie.trans Em (fun j hj e=>.inl e);have Jm:∀j,v.heap.size<=j->¬(j=q\/bG E=some j):=fun j hj e=>by
    rcases e with e|e
    ·omega
    ·have:=WK j e;omega
   have NH:=Eo.heap VX (Jm _ (Nat.le_refl _));have VG:=Eo.heap abT (Jm _ (by omega));have WI:zp qx jb.heap.size kn ly:=QM.aJ Eo (Jm _ (by omega));have Qf:∀z,(if z∈ly then some (Value.int .i64 (kn z:Int))else none)≠none↔z∈ly:=fun z=>by
    by_cases hz:z∈ly
    ·rw [if_pos hz];exact⟨fun _=>hz,fun _ e=>by cases e⟩
    ·rw [if_neg hz];exact⟨fun e=>absurd rfl e,fun e=>absurd e hz⟩
   obtain⟨rP,aaK,Wz,rQ⟩:=C5.note x ly.length;have s33:=Eo.size;have ZE:=AG.trans rQ (fun j hj e=>.inr (.inl e));have acW:zp rP jb.heap.size kn ly:=WI.aJ rQ (by omega);have abS:=rQ.heap VG (by omega);have VW:=rQ.heap NH (by omega);have PL:cC rP y.heap.size Ab nb cb bl:=Row.aJ (Row.aJ IG Em (fun j hj e=>by have:=Jg j hj;omega)) rQ (fun j hj e=>by have:=Jg j hj;omega);have V9:=rQ.heap (Em.heap NQ (fun e=>hS.qs.2.1 e.symm)) (fun e=>hS.qs.2.2 e.symm);obtain⟨w38,BT,aaJ,hit,Ry⟩:=acW.range sj;have s36:=rQ.size;have s38:=Ry.size;refine⟨_,AU AG MG,some sm,C5.f35,x.1,⟨x.2.1,Cells.bV NH⟩,some jb.heap.size,by rw [aE VG];rfl,ly.length,WI.len sj gZ c1 Qf,rP,aaK,some jb.heap.size,by rw [aE abS];rfl,_,w38,aaJ,?_⟩;refine ai.vC (I:=fun _ u=>∃left BT ME,oZ u jb.heap.size rP.heap.size (fun z=>if z∈ly then some (Value.int .i64 (kn z:Int))else none) left BT/\nf u y.heap.size q sm bb ⟨s,sc+1,cI G s l,(la k G s l i).bl++ [true]⟩ ME A n cp E' (e+1) sQ/\
    (∀z,(left z->z∈ly)/\(z∈ly->¬left z->ME z=some (kn z+1))/\((z∉ly\/left z)->ME z=if z=x then some ly.length else ov z))/\Kept (fun j=>j=sm\/j=rP.heap.size) w38 u) (μ:=fun _ u=>u.rangeLeft jb.heap.size rP.heap.size) (s:=())
    ⟨_,BT,_,hit,Wz.same Ry,fun z=>⟨fun hz=>(Qf z).1 hz,fun hz hl=>absurd ((Qf z).2 hz) hl,fun _=>rfl⟩,Kept.refl _ _⟩ ?_
   rintro s1 u3 ⟨left,ald,ME,Qc,QJ,hinv,ku⟩;have Ze:=ku.size;have lit:=Qc.lt;have ky3:Kept (fun j=>j=q\/j=sm\/j=bb) y u3:=(ZE.trans Ry (fun _ _ h=>h.elim)).trans ku (fun j hj e=>by
    rcases e with e|e
    ·exact .inr (.inl e)
    ·omega)
   rcases Qc.next 0 with⟨h0',UE,jU⟩|⟨z,val,u4,adq,hl,hfz,jU,abV,abt,dg,k4⟩
   ·refine .inl ⟨u3,jU,?_⟩
    rw [aX,ai.BV];unfold ai.xu;have Wa:=ku.heap (Ry.heap V9 (fun h=>h)) (by have:=hS.qs;omega);have Gr:=ku.heap (Ry.heap VW (fun h=>h)) (by omega);have Ua:cC u3 y.heap.size Ab nb cb bl:=Row.aJ (Row.aJ PL Ry (fun _ _ h=>h)) ku (fun j hj e=>by have:=Jg j hj;omega);refine⟨Ab,nb,cb,by rw [aE Wa];rfl,x.1,⟨x.2.1,Cells.bV Gr⟩,x.2.1,?_⟩;intro JP;have Rx:Kept Nil u3 JP:=(Kept.refl _ _).alloc _;have Z9:HS JP (some ⟨u3.heap.size,0,none⟩) 1 [x]:=jF u3 x;clear_value JP;have s50:=Rx.size;have PJ:cC JP y.heap.size Ab nb cb bl:=Row.aJ Ua Rx (fun _ _ h=>h);obtain⟨A6,c6,Hl,PS,Mz,g51,ac3⟩:=dc aF PJ (cx:=1) Z9 (by omega) (by omega);have XK:Kept (fun j=>bG Ab=some j) JP Hl:=(Kept.refl _ _).grown g51 fun j hj _=>hj;have NO:=XK.heap (Rx.heap Wa (fun h=>h)) (fun e=>by have:=Jg bb e;omega);refine⟨A6,nb+1,c6,Hl,PS,dN NO (by simp),?_⟩;intro Mu;have V8:Mu.heap[bb]? =some (.cells #[.slice A6 (nb+1) c6] aF (0,0)):=by
     show(Hl.setCell ⟨bb,0,none⟩ (.slice A6 (nb+1) c6)).heap[bb]? =_;rw [dp NO 0];rfl
    have H8:Kept (· =bb) Hl Mu:=Kept.setCell (S:=(· =bb)) (Kept.refl _ Hl) (p:=⟨bb,0,none⟩) (fun _=>rfl) _;clear_value Mu;have wR:Kept (fun j=>bG Ab=some j\/j=bb) u3 Mu:=((Rx.mono fun _ _ h=>h.elim).trans XK (fun _ _ h=>.inl h):Kept (fun j=>bG Ab=some j\/j=bb) u3 Hl).trans H8 (fun _ _ h=>.inr h);have acI:nf Mu y.heap.size q sm bb ⟨s,sc+1,cI G s l,(la k G s l i).bl++ [true]⟩ ME A n cp E' (e+1) sQ:=QJ.H5 wR
     (fun e=>e.elim (fun e=>by have:=Jg q e;omega) (fun e=>hS.qs.2.1 e)) (fun e=>e.elim (fun e=>by have:=Jg sm e;omega) (fun e=>hS.qs.2.2 e))
     (fun j hj e=>e.elim (fun e=>QQ j e hj) (fun e=>by have:=(Row.bV QJ.bl hj).1;omega)) (fun a ha e=>e.elim (fun e=>by have:=Jg _ e;have:=(hS.mA a ha).1;omega) (fun e=>(hS.mA a ha).2.2.2 e))
    have tO:cC Mu y.heap.size A6 (nb+1) c6 (bl++ [x]):=Row.aJ Mz H8 (fun j hj e=>by have:=(Row.bV Mz hj).1;omega);rw [dH (n:=(i:Int)) (by omega) (by omega)];have yT:la k G s l (i+1)=⟨(la k G s l i).wd++ [x],(la k G s l i).bl++ [true]⟩:=by rw [oU,rV,<-NK];rfl
    have aa1:ME=Al G.D (la k G s l i).wd ov (nu m.sz ch) x:=by
     funext z
     unfold Al;rw [abr];by_cases hz:z∈ly
     ·rw [if_pos ((c3 z).1 hz)]
      exact(hinv z).2.1 hz (UE z)
     ·rw [if_neg (fun e=>hz ((c3 z).2 e)),(hinv z).2.2 (.inl hz),c2]
    refine⟨(i:Int)+1,rfl,⟨i+1,rfl,eh,⟨ME,E',e+1,sQ,A6,nb+1,c6,bl++ [x],?_,V8,tO,?_,?_,?_,?_,?_,by omega⟩,?_⟩,by simp only;omega⟩
    ·rw [yT]
     have ec:G.score s+1+((la k G s l i).bl++ [true]).count true=sc+1:=by rw [List.count_append,<-Ew];simp;omega
     show nf Mu y.heap.size q sm bb ⟨s,G.score s+1+((la k G s l i).bl++ [true]).count true,cI G s l,(la k G s l i).bl++ [true]⟩ ME A n cp E' (e+1) sQ
     rw [ec];exact acI
    ·rw [yT]
     show(la k G s l i).wd++ [x]=_;rw [RD,List.append_assoc]
    ·intro j hj he
     rcases ac3 j hj with h1|h1
     ·exact QQ j h1 he
     ·obtain⟨_,cur,h2⟩:=Row.bV QJ.bl he
      have:=aY h2;omega
    ·rw [yT,aa1]
     exact hO.step XT
    ·rw [yT]
     exact List.nodup_append.2 ⟨gA,by simp,fun a ha b hb e=>by
      have:b=x:=by simpa using hb
      subst this;subst e;exact XT ha⟩
    ·intro z hz
     rcases List.mem_append.1 hz with hz|hz
     ·exact M8 z hz
     ·have:z=x:=by simpa using hz
      subst this;rw [List.take_add_one,hx];simp
    ·exact ky3.trans wR (fun j hj e=>by
      rcases e with e|e
      ·have:=Jg j e;omega
      ·exact .inr (.inr e))
   ·have Z2:=(hinv z).1 hl
    rw [if_pos Z2]at hfz;cases hfz;have hkz:=cZ z Z2;refine .inr ⟨_,_,u4,jU,z.1,(kn z:Int),abV,?_⟩;intro JO;obtain⟨Px,Bd,yY⟩:=iL (w:=u4) (z:=fz.1) (cs:=z.1) (t:=al) (by rw [z.2.1];rfl);refine⟨⟨z.2.1,z.2.one,fun j hj=>Px j (by rw [z.2.1];exact hj)⟩,?_⟩;intro Xt Rg
    replace Bd:Xt.heap[u4.heap.size]? =some (.cells z.1 al (0,0)):=Bd
    replace yY:Kept Nil u4 Xt:=yY
    have XF:Kept Nil Xt Rg:=(Kept.refl _ _).drew;clear_value Rg Xt;have acm:=XF.heap Bd (fun h=>h);have MP:=yY.tt XF;have Ej:Kept (· =rP.heap.size) u3 Rg:=k4.trans MP (fun _ _ h=>h.elim);have hE3:∀j,bG E'=some j->j≠rP.heap.size:=fun j hj e=>by
     obtain⟨_,cur,h2⟩:=Row.bV Wz.bl hj;have:=aY h2;omega
    have Wx:=QJ.H5 Ej (by omega) (by omega) (fun j hj e=>hE3 j hj e) (fun a ha e=>by have:=(hS.mA a ha).1;omega);have ZD:Kept (fun j=>j=q\/j=sm\/j=bb) y Rg:=ky3.trans Ej (fun j hj e=>by omega);have Nx:=abt.aJ MP (fun h=>h) (fun h=>h);obtain⟨E9,Uh,WA,CA⟩:=Wx.note z (kn z+1);have ekz:i64.wrap ((kn z:Int)+(1:Int))=((kn z+1:Nat):Int):=by rw [dH (n:=(kn z:Int)) (by omega) (by omega)];omega
    have s3:=Ej.size;refine⟨_,AU ZD MG,some sm,Wx.f35,z.1,⟨z.2.1,Cells.bV acm⟩,E9,by rw [ekz];exact Uh,?_⟩;refine⟨(),rfl,⟨_,adq,_,Nx.aJ CA (by omega) (by omega),WA,fun y'=>?_,?_⟩,?_⟩
    ·obtain⟨i1,i2,i3⟩:=hinv y'
     refine⟨fun h=>i1 h.1,fun h1 h2=>?_,fun h=>?_⟩
     ·by_cases e:y'=z
      ·subst e;simp only [if_true]
      ·simp only [if_neg e]
       exact i2 h1 (fun h=>h2 ⟨h,e⟩)
     ·have e:y'≠z:=by
       rcases h with h|h
       ·exact fun e=>h (by rw [e];exact Z2)
       ·exact h.2
      simp only [if_neg e];exact i3 (h.imp_right fun h=>h.1)
    ·exact(ku.trans Ej (fun j hj e=>.inr e)).trans CA (fun j hj e=>.inl e)
    ·show E9.rangeLeft jb.heap.size rP.heap.size<u3.rangeLeft jb.heap.size rP.heap.size
     rw [Qc.left_eq,(Nx.aJ CA (by omega) (by omega)).left_eq];exact dg
 ·rw [aX,ai.kW]
  have:i=n:=by omega
  subst this;have e1:=DS k G s l;rw [U3]at e1;rw [e1]at hS hO;have hsq:v.heap[bs]? =some (.cells #[.pointer (some ⟨q,0,none⟩)] fF (0,0)):=kv.heap V.hs (by omega);exact⟨some ⟨q,0,none⟩,by rw [aE hsq];rfl,hK v ov E e ce hS hO kv⟩
end
def ES(N:Nat):Prop:=∀ {w:World} {F:Nat->Prop} {c k:Nat} {G:GS} {m:CM} {B:Nat} {A:Option Addr} {n cx:Nat} {l:List HT} {K:Value->World->Prop},CV w F c k G m->cC w B A n cx l->n<=N->l.Nodup->(∀x∈l,x∈ids G.D)->
 (∀j,bG A=some j->¬m.own c j/\¬F j)->(∀l' w',SO G l'->(∀x,x∈l'↔x∈l)->cC w' B A n cx l'->Kept (fun j=>bG A=some j) w w'->K (.tuple #[]) w')->
 bD prog jv.id #[.slice A n cx,.func (.func bK.id) #[.pointer (some ⟨c,0,none⟩)] #[]] w K
section
variable{y v w w':World}{F:Nat->Prop}{c k:Nat}{G:GS}{m:CM}{s:HT}{l ch:List HT}{bs bc bh q sm nL cL:Nat}{AL:Option Addr}{K:Value->World->Prop}
set_option maxHeartbeats 4000000 in
theorem B7{N:Nat}(AT:ES N)(hN:(pX G.D s l).length<=N)(C:CV y F c k G m)(hD:G.D.length<=5000)(pB:k<=1000)(hs:s∈ids G.D)(hc:dD G.D G.P s ch)(hl:∀x∈l,x∈ids G.D)
 (V:VB y c s bs bc bh q sm (fun _=>none)) (hS:zE y y.heap.size q sm ⟨s,G.score s+1,[],[]⟩ (fun _=>none) none 0 0 none 0 0)
 (hL:HS y AL nL (dB (eF G.D l++l))) (hAL:∀a,AL=some a->a.block≠q)
 (iT:∀j,(m.own c j\/F j\/j=bs\/j=bc\/j=bh)->j≠q/\j≠sm)
 (hK:∀v B bb ov A n cp E e ce,nf v B q sm bb (dr k G s l) ov A n cp E e ce->OV G.D (im k G s l).wd ov (nu m.sz ch)->(∀a,A=some a->y.heap.size<=a.block)->(y.heap.size<=B/\B<=v.heap.size)->Kept (fun j=>j=q\/j=sm) y v->K (.pointer (some ⟨q,0,none⟩)) v):
 Holds none [] prog 153 (.loop (lB (bB (sR (sL (aS (sR (body ai.fn)))))))) (ai.q1 K)
  [(3,.pointer (some ⟨bc,0,none⟩)),(4,.pointer (some ⟨bh,0,none⟩)),(6,.pointer none),(8,.pointer (some ⟨bs,0,none⟩)),(46,.slice AL nL cL),(47,.int .i64 (nL:Int)),(48,.int .i64 0)] y:=by
 have W:=C.hZ.W;have lbs:=aY V.hs;have lbc:=aY V.hc;have lbh:=aY V.hh;have YH:=iT bs (.inr (.inr (.inl rfl)));have YJ:=iT bc (.inr (.inr (.inr (.inl rfl))));have YI:=iT bh (.inr (.inr (.inr (.inr rfl))));have afZ:=hL.len;have hLi:∀x∈dB (eF G.D l++l),x∈ids G.D:=fun x hx=>by
  rcases List.mem_append.1 (dT.1 hx)with h|h
  ·exact(ki.1 h).1
  ·exact hl x h
 have hLn:nL<=5000:=by
  have:=dJ (ju _).nodup hLi;rw [iI]at this;omega
 generalize hLL:dB (eF G.D l++l)=L at*;refine ai.cJ (I:=fun s0 v=>∃i:Nat,s0=(i:Int)/\i<=nL/\(∃A n cp,zE v y.heap.size q sm ⟨s,G.score s+1,(L.take i).filter fun h=>decide (h≠s/\¬fw G.D h s),[]⟩ (fun _=>none) A n cp none 0 0)/\Kept (· =q) y v) (μ:=fun s0 _=>((nL:Int)-s0).toNat) (s:=0) ⟨0,rfl,Nat.zero_le _,⟨none,0,0,hS⟩,Kept.refl _ _⟩ ?_;rintro s0 v ⟨i,rfl,hi,⟨A,n,cp,LY⟩,kv⟩;have sv:=kv.size;have U4:=cC.len LY.mg;have hnA:n<=5000:=by
  have h1:=List.length_filter_le (fun h=>decide (h≠s/\¬fw G.D h s)) (L.take i);have h2:=List.length_take_le i L;have h3:((L.take i).filter fun h=>decide (h≠s/\¬fw G.D h s)).length=n:=U4;omega
 refine Split.dec (fun jV=>?_) (fun gK=>?_)
 ·have eh:i<nL:=by omega
  obtain⟨x,hx⟩:∃x,L[i]? =some x:=⟨_,List.getElem?_eq_getElem (by omega)⟩;have Gz:L.take (i+1)=L.take i++ [x]:=by rw [List.take_add_one,hx];rfl
  have hLv:HS v AL nL L:=hL.aJ kv hAL;refine hLv.load (i:=(i:Int)) (by omega) hx ?_;intro pw;obtain⟨tq,j0,kz⟩:=iL (w:=v) (z:=fz.1) (cs:=x.1) (t:=al) (by rw [x.2.1];rfl);refine⟨⟨x.2.1,x.2.one,fun j hj=>tq j (by rw [x.2.1];exact hj)⟩,?_⟩;intro jb nS
  replace j0:jb.heap[v.heap.size]? =some (.cells x.1 al (0,0)):=j0
  replace kz:Kept Nil v jb:=kz
  have tX:Kept Nil jb nS:=(Kept.refl _ _).drew;clear_value nS jb;have I4:=tX.heap j0 (fun h=>h);have O2:=kz.tt tX;have FU:Kept (· =q) y nS:=kv.trans O2 (fun _ _ h=>h.elim);have C15:CV nS F c k G m:=C.aJ FU (fun j hj e=>(iT j (.inl hj)).1 e) (fun j hj e=>(iT j (.inr (.inl hj))).1 e);have hcy:∀ {u:World},Kept (· =q) y u->u.cell? ⟨bc,0,none⟩=some (.pointer (some ⟨c,0,none⟩)):=fun ku=>by rw [aE (ku.heap V.hc YJ.1)];rfl
  have TZ:∀ {u:World},Kept (· =q) y u->u.cell? ⟨bs,0,none⟩=some (.pointer (some ⟨q,0,none⟩)):=fun ku=>by rw [aE (ku.heap V.hs YH.1)];rfl
  have next:∀ {u:World} {A':Option Addr} {n' xh:Nat},zE u y.heap.size q sm ⟨s,G.score s+1,(L.take (i+1)).filter fun h=>decide (h≠s/\¬fw G.D h s),[]⟩ (fun _=>none) A' n' xh none 0 0->Kept (· =q) y u->
   ∃s1:Int,i64.wrap ((i:Int)+(1:Int))=s1/\(∃i':Nat,s1=(i':Int)/\i'<=nL/\(∃A n cp,zE u y.heap.size q sm ⟨s,G.score s+1,(L.take i').filter fun h=>decide (h≠s/\¬fw G.D h s),[]⟩ (fun _=>none) A n cp none 0 0)/\Kept (· =q) y u)/\((nL:Int)-s1).toNat<((nL:Int)-(i:Int)).toNat:=fun h1 h2=>by
   rw [dH (n:=(i:Int)) (by omega) (by omega)];exact⟨(i:Int)+1,rfl,⟨i+1,rfl,eh,⟨_,_,_,h1⟩,h2⟩,by omega⟩
  refine⟨x.1,⟨x.2.1,Cells.bV I4⟩,s.1,⟨s.2.1,Cells.bV (FU.heap V.hh YI.1)⟩,⟨x.2.ints,s.2.ints⟩,?_⟩;rw [fL];by_cases Lh:x=s
  ·refine Split.no (by rw [decide_eq_true Lh];rfl) ?_
   obtain⟨s1,e1,e2,e3⟩:=next (u:=nS) (by
    rw [Gz,List.filter_append];have: [x].filter (fun h=>decide (h≠s/\¬fw G.D h s))= []:=by rw [List.filter_cons_of_neg (by simp [Lh])];rfl
    rw [this,List.append_nil];exact LY.same O2) FU
   rw [e1];exact⟨s1,rfl,e2,e3⟩
  ·refine Split.yes (by rw [decide_eq_false Lh];rfl) ⟨_,hcy FU,_,C15.c1,x.1,⟨x.2.1,Cells.bV I4⟩,s.1,⟨s.2.1,Cells.bV (FU.heap V.hh YI.1)⟩,?_⟩
   obtain⟨mx,X15,_⟩:=C15.X;refine lr X15 hD x s fun EZ r hr BK=>⟨r,rfl,?_⟩;have KS:Kept (· =q) y EZ:=FU.trans BK (fun _ _ h=>h.elim);have Tj:=O2.tt BK;cases r with
   |true=>
    refine Split.no rfl ?_;obtain⟨s1,e1,e2,e3⟩:=next (u:=EZ) (by
     rw [Gz,List.filter_append];have: [x].filter (fun h=>decide (h≠s/\¬fw G.D h s))= []:=by rw [List.filter_cons_of_neg (by simp [hr.1 rfl])];rfl
     rw [this,List.append_nil];exact LY.same Tj) KS
    rw [e1];exact⟨s1,rfl,e2,e3⟩
   |false=>
    refine Split.yes rfl ?_;intro zJ;have Ic:Kept Nil EZ zJ:=(Kept.refl _ _).drew;clear_value zJ;have ZJ:=Tj.tt Ic;have AH:Kept (· =q) y zJ:=KS.trans Ic (fun _ _ h=>h.elim);have Jc:=LY.same ZJ;refine⟨_,TZ AH,_,TZ AH,A,n,cp,Jc.f33,x.1,⟨x.2.1,Cells.bV ((BK.tt Ic).heap I4 (fun h=>h))⟩,x.2.1,?_⟩;intro mC;have qT:Kept Nil zJ mC:=(Kept.refl _ _).alloc _;have aad:HS mC (some ⟨zJ.heap.size,0,none⟩) 1 [x]:=jF zJ x;clear_value mC;have Jb:=Jc.same qT;have vE:Kept (· =q) y mC:=AH.trans qT (fun _ _ h=>h.elim);have Zm:=vE.size;obtain⟨A',xh,u,T8,ku,Ja,k5,hw5⟩:=Jb.SH Zm (by omega) aad;have ZC:Kept (· =q) y u:=vE.trans ku (fun j hj e=>by omega);refine⟨Jb.f33,TZ vE,TZ vE,A',n+1,xh,u,T8,TZ ZC,hw5,?_⟩;intro wI
    replace Ja:zE wI y.heap.size q sm _ (fun _=>none) A' (n+1) xh none 0 0:=Ja
    replace k5:Kept (fun j=>j=q\/y.heap.size<=j) mC wI:=k5
    clear_value wI;obtain⟨s1,e1,e2,e3⟩:=next (u:=wI) (by
     rw [Gz,List.filter_append];have: [x].filter (fun h=>decide (h≠s/\¬fw G.D h s))= [x]:=by rw [List.filter_cons_of_pos (by simp only [decide_eq_true_eq];exact⟨Lh,fun e=>by have:=hr.2 e;cases this⟩)];rfl
     rw [this];exact Ja) (vE.trans k5 (fun j hj e=>by
      rcases e with e|e
      ·exact e
      ·omega))
    rw [e1];exact⟨s1,rfl,e2,e3⟩
 ·rw [aX,ai.dv]
  have gB:i=nL:=by omega
  subst gB;rw [List.take_of_length_le (by omega)]at LY;unfold ai.dd;intro qx;have zr:Kept Nil v qx:=(Kept.refl _ _).drew;clear_value qx;have C5:=LY.same zr;have AG:Kept (· =q) y qx:=kv.trans zr (fun _ _ h=>h.elim);have C33:CV qx F c k G m:=C.aJ AG (fun j hj e=>(iT j (.inl hj)).1 e) (fun j hj e=>(iT j (.inr (.inl hj))).1 e);have efl:(L.filter fun h=>decide (h≠s/\¬fw G.D h s))=pX G.D s l:=by unfold pX;rw [hLL]
  have CK:cC qx y.heap.size A n cp (pX G.D s l):=by rw [<-efl];exact C5.mg
  have QP:∀j,bG A=some j->y.heap.size<=j/\j<qx.heap.size:=fun j hj=>by obtain⟨g1,cur,g2⟩:=Row.bV CK hj;exact⟨g1,aY g2⟩
  refine⟨some ⟨q,0,none⟩,by rw [aE (AG.heap V.hs YH.1)];rfl,A,n,cp,C5.f33,some ⟨c,0,none⟩,by rw [aE (AG.heap V.hc YJ.1)];rfl,?_⟩;refine AT C33 CK (by have:=cC.len CK;omega) (rp _ _ _) (fun x hx=>hLi x (by rw [<-efl]at hx;exact(List.mem_filter.1 hx).1)) (fun j hj=>⟨fun e=>by have:=C.low j (.inl e);have:=(QP j hj).1;omega,fun e=>by have:=C.low j (.inr e);have:=(QP j hj).1;omega⟩) fun l' nh Ge ji IF wE=>⟨rfl,?_⟩;have el:l'=cI G s l:=ti Ge ji;subst el;have qB:=LY.qB;have sB:=LY.sB;have hqs:=LY.qs;have s33:=AG.size;have S9:Kept (· =q) y nh:=AG.trans wE (fun j hj e=>by have:=(QP j e).1;omega);have PD:=wE.heap C5.top (fun e=>by have:=(QP q e).1;omega);have Uv:=C5.ov.aJ wE (fun e=>by have:=(QP sm e).1;omega);intro jA rP;have ns:Kept Nil nh jA:=(Kept.refl _ _).alloc _;have LS:jA.heap[nh.heap.size]? =some (.cells #[.slice none 0 0] aF (0,0)):=aM nh _;have rQ:Kept Nil jA rP:=(Kept.refl _ _).alloc _;have Qb:rP.heap[jA.heap.size]? =some (.cells #[.nilFunc] fI (0,0)):=aM jA _;refine⟨dN Qb (by simp),?_⟩;intro wD;have Vc:wD.heap[jA.heap.size]? =some (.cells #[.func (.func cr.id) #[] #[.pointer (some ⟨bs,0,none⟩),.pointer (some ⟨bc,0,none⟩),.pointer (some ⟨bh,0,none⟩)]] fI (0,0)):=by
   show(rP.setCell ⟨jA.heap.size,0,none⟩ _).heap[jA.heap.size]? =_;rw [dp Qb 0];rfl
  have yN:Kept (· =jA.heap.size) rP wD:=Kept.setCell (S:=(· =jA.heap.size)) (Kept.refl _ rP) (p:=⟨jA.heap.size,0,none⟩) (fun _=>rfl) _;clear_value wD;have xY:=ns.tt rQ;have Zl:=ns.size;have s36:=rQ.size;have l35:=aY LS;have l36:=aY Qb;have El:Kept Nil nh wD:=⟨yN.os.trans xY.os,yN.tape.trans xY.tape,yN.output.trans xY.output,Nat.le_trans xY.size yN.size,fun j hj hn=>by rw [yN.block j (Nat.lt_of_lt_of_le hj xY.size) (by omega),xY.block j hj hn]⟩;have acu:=yN.heap (rQ.heap LS (fun h=>h)) (by omega);have l37:=aY Vc;clear_value rP jA;have FO:Kept (· =q) y wD:=S9.trans El (fun _ _ h=>h.elim);have s34:=S9.size;have s37:=FO.size;have C37:CV wD F c k G m:=C.aJ FO (fun j hj e=>(iT j (.inl hj)).1 e) (fun j hj e=>(iT j (.inr (.inl hj))).1 e);have Iw:=El.heap PD (fun h=>h);have Nl:=Uv.aJ El (fun h=>h);have PK:cC wD y.heap.size A n cp (cI G s l):=Row.aJ IF El (fun _ _ h=>h);have V37:VB wD c s bs bc bh q sm (fun _=>none):=⟨FO.heap V.hs YH.1,FO.heap V.hc YJ.1,FO.heap V.hh YI.1,by rw [bC,aE Iw];exact(gN ..).2.2.2,Nl⟩;have YA:∀a,A=some a->y.heap.size<=a.block/\a.block<nh.heap.size:=fun a ha=>by
   subst ha;obtain⟨g1,cur,g2⟩:=Row.bV IF (k:=a.block) rfl;exact⟨g1,aY g2⟩
  have Wy:nf wD wD.heap.size q sm nh.heap.size ⟨s,G.score s+1,cI G s l,[]⟩ (fun _=>none) A n cp none 0 0:=
   ⟨Iw,PK.hs,fun a ha=>by have:=YA a ha;exact⟨by omega,by omega,by omega,by omega⟩,Row.nil _ _ _ _,Nl,by omega,by omega,by omega,⟨hqs,by omega,by omega⟩⟩
  refine⟨some ⟨q,0,none⟩,by rw [aE V37.hs];rfl,A,n,cp,Wy.f33,?_⟩;have TS:(la k G s l 0)=⟨G.world s++ [s],[]⟩:=rfl;refine BZ (l:=l) C37 hD pB hs hc (fun x hx=>hLi x (by
   have h1:=(ji x).1 hx;rw [<-efl]at h1;exact(List.mem_filter.1 h1).1)) V37 Vc (fun j hj=>?_) ⟨⟨fun _=>none,none,0,0,none,0,0,[],Wy,acu,cC.nil _ _,by rw [TS,List.append_nil],fun j hj=>by simp [bG]at hj,by rw [TS];exact C.Z |>.ov hs hc,?_,fun z hz=>by simp at hz,rfl⟩,Kept.refl _ _⟩ hnA fun v' ov E e ce h1 h2 h3=>?_
  ·have h1:j<y.heap.size\/j=jA.heap.size:=by
    rcases hj with h|h|h|h|h|h
    ·exact .inl (C.low j (.inl h))
    ·exact .inl (C.low j (.inr h))
    ·exact .inl (by omega)
    ·exact .inl (by omega)
    ·exact .inl (by omega)
    ·exact .inr h
   rcases h1 with h1|h1
   ·have h2:j≠q/\j≠sm:=by
     rcases hj with h|h|h|h|h|h
     ·exact iT j (.inl h)
     ·exact iT j (.inr (.inl h))
     ·exact iT j (.inr (.inr (.inl h)))
     ·exact iT j (.inr (.inr (.inr (.inl h))))
     ·exact iT j (.inr (.inr (.inr (.inr h))))
     ·omega
    exact⟨h2.1,h2.2,by omega⟩
   ·exact⟨by omega,by omega,by omega⟩
  ·rw [TS]
   obtain⟨g1,g2,_⟩:=C.hZ.wd s hs;exact List.nodup_append.2 ⟨g1,by simp,fun a ha b hb e=>by
    have:b=s:=by simpa using hb
    subst this;subst e;exact fw.irrefl W a (g2 a ha)⟩
  ·refine hK v' wD.heap.size nh.heap.size ov A n cp E e ce h1 h2 (fun a ha=>(YA a ha).1) ⟨s37,h3.size⟩ ?_
   exact(FO.mono fun _ _ h=>.inl h).trans h3 (fun j hj e=>by
    rcases e with e|e|e
    ·exact .inl e
    ·exact .inr e
    ·omega)
end
theorem Q1:R4 prog bL=some ([(0,32),(32,1),(33,1),(34,1)],List.replicate 32 (.int .u8 0)++ [.int .u64 0,.slice none 0 0,.slice none 0 0]):=by kernel_rfl
theorem wu(h:HT)(z:Int):prog.built bL [(0,.agg h.1),(1,.int .u64 z)]=some (h.1++ #[.int .u64 z,.slice none 0 0,.slice none 0 0]):=by
 have hs:=h.2.1;rw [ow Q1,js (off:=0) (size:=32) rfl (by simpa [Value.cells]using hs) (by simp),js (off:=32) (size:=1) rfl rfl (by
  rw [List.size_toArray,mJ (by simp [Value.cells,hs])];simp)]
 simp only [Instr.fill,Option.some.injEq];apply Array.ext';unfold iC;simp [Value.cells,hs];rw [List.drop_append];simp [hs]
theorem Mo:R4 prog eE=some ([(0,35),(35,1)],List.replicate 32 (.int .u8 0)++ [.int .u64 0,.slice none 0 0,.slice none 0 0,.map none]):=by kernel_rfl
theorem yo(c:pr)(sm:Option Nat):prog.built eE [(0,.agg (di c none 0 0 none 0 0)),(1,.map sm)]=some (di c none 0 0 none 0 0++ #[.map sm]):=by
 have hs:=bH c none 0 0 none 0 0;rw [ow Mo,js (off:=0) (size:=35) rfl (by simpa [Value.cells]using hs) (by simp),js (off:=35) (size:=1) rfl rfl (by
  rw [List.size_toArray,mJ (by simp [Value.cells,hs])];simp)]
 simp only [Instr.fill,Option.some.injEq];apply Array.ext';unfold iC;simp [Value.cells,hs]
section
variable{g1 v w w':World}{F:Nat->Prop}{c k:Nat}{G:GS}{m:CM}{s:HT}{l ch:List HT}{bs bc bh q sm n cx:Nat}{A:Option Addr}{K:Value->World->Prop}
theorem Kw{N:Nat}(AT:ES N)(hN:(pX G.D s l).length<=N)(C:CV g1 F c k G m)(hT:sP g1)(hD:G.D.length<=5000)(pB:k<=1000)(hs:s∈ids G.D)(hc:dD G.D G.P s ch)(hl:∀x∈l,x∈ids G.D)(CS:HS g1 A n l)(hn:n<=5000)
 (V:VB g1 c s bs bc bh q sm (fun _=>none)) (jE:g1.heap[q]? =some (.cells (di ⟨s,G.score s+1,[],[]⟩ none 0 0 none 0 0++ #[.map (some sm)]) eE (0,0)))
 (iT:∀j,(m.own c j\/F j\/j=bs\/j=bc\/j=bh)->j≠q/\j≠sm) (hqs:q≠sm) {p:Nat} (hp:∃mx,XV g1 m.FX m.x G.D G.P mx/\mx.g=p)
 (hK:∀v B bb ov A n cp E e ce,nf v B q sm bb (dr k G s l) ov A n cp E e ce->OV G.D (im k G s l).wd ov (nu m.sz ch)->(∀a,A=some a->g1.heap.size<=a.block)->(g1.heap.size<=B/\B<=v.heap.size)->Kept (fun j=>j=q\/j=sm) g1 v->K (.pointer (some ⟨q,0,none⟩)) v):
 bD prog aW.id #[.pointer (some ⟨p,0,none⟩),.slice A n cx] g1 fun i1 j1=>∃k1:Option Addr,∃m1 n1:Nat,i1=.slice k1 m1 n1/\
  ∃(o1:Option Addr) (p1 q1:Nat) (r1:World),(Builtin.append_ #[aF,aF] aF #[.slice k1 m1 n1,.slice A n cx]).run prog j1=.ok (.slice o1 p1 q1) r1/\
  bD prog jH.id #[.slice o1 p1 q1] r1 fun t1 u1=>∃v1:Option Addr,∃x1 y1:Nat,t1=.slice v1 x1 y1/\
  Holds none [] prog 153 (.loop (lB (bB (sR (sL (aS (sR (body ai.fn)))))))) (ai.q1 K)
   [(3,.pointer (some ⟨bc,0,none⟩)),(4,.pointer (some ⟨bh,0,none⟩)),(6,.pointer none),(8,.pointer (some ⟨bs,0,none⟩)),(46,.slice v1 x1 y1),(47,.int .i64 (x1:Int)),(48,.int .i64 0)] u1:=by
 have W:=C.hZ.W;obtain⟨mx,X,rfl⟩:=hp;obtain⟨bl,c',mb,M,GG⟩:=X.G;have lq:=aY jE;have lsm:=V.ov.lt;refine wj GG W (by omega) hT CS (by omega) fun A1 c1 w1 nW k1=>⟨A1,_,c1,rfl,?_⟩;have rT:(eF G.D l).length<=5000:=Nat.le_trans (nY _ _) hD;have s1:=k1.size;obtain⟨A2,c2,w2,jU,hU,g2,WM⟩:=dc aF nW (cx:=cx) (CS.same k1) (by omega) s1;have k2:Kept (fun j=>g1.heap.size<=j) w1 w2:=(Kept.refl _ _).grown g2 fun j hj _=>(Row.bV nW hj).1;have mn:Kept Nil g1 w2:=k1.trans k2 (fun j hj e=>by omega);refine⟨A2,_,c2,w2,jU,?_⟩;refine iP hU.hs (by omega) fun A3 c3 w3 nE k3=>⟨A3,_,c3,rfl,?_⟩;have jZ:=mn.tt k3;have Zn:=mn.size;have s03:=jZ.size;have V3:=V.same jZ;refine B7 (l:=l) AT hN (C.same jZ) hD pB hs hc hl V3 ⟨jZ.heap jE (fun h=>h),cC.nil _ _,Row.nil _ _ _ _,V3.ov,by omega,by omega,hqs,fun j hj=>by simp [bG]at hj⟩ nE.hs (fun a ha=>?_) iT fun v B bb ov A n cp E e ce h1 h2 h3 h4 h5=>?_
 ·subst ha
  have:=(Row.bV nE (k:=a.block) rfl).1;omega
 ·exact hK v B bb ov A n cp E e ce h1 h2 (fun a ha=>Nat.le_trans s03 (h3 a ha)) ⟨Nat.le_trans s03 h4.1,h4.2⟩ ((jZ.mono fun _ _ h=>h.elim).tt h5)
end
section
variable{w w':World}{F:Nat->Prop}{c k:Nat}{G:GS}{m:CM}{s:HT}{l ch:List HT}{n cx:Nat}{A:Option Addr}{K:Value->World->Prop}
set_option maxHeartbeats 4000000 in
theorem vY{N:Nat}(AT:ES N)(hN:(pX G.D s l).length<=N)(C:CV w F c k G m)(hT:sP w)(hD:G.D.length<=5000)(pB:k<=1000)(hs:s∈ids G.D)(hc:dD G.D G.P s ch)(hl:∀x∈l,x∈ids G.D)(CS:HS w A n l)(hn:n<=5000)
 (hK:∀v q B sm bb ov A n cp E e ce,nf v B q sm bb (dr k G s l) ov A n cp E e ce->OV G.D (im k G s l).wd ov (nu m.sz ch)->w.heap.size<=q->w.heap.size<=sm->(∀a,A=some a->w.heap.size<=a.block)->(w.heap.size<=B/\B<=v.heap.size)->Kept Nil w v->K (.pointer (some ⟨q,0,none⟩)) v):
 bD prog ai.id #[.pointer (some ⟨c,0,none⟩),.agg s.1,.slice A n cx] w K:=by
 refine ai.of ?_;unfold ai.W;intro w1 w2;have k1:Kept Nil w w1:=(Kept.refl _ _).alloc _;have VT:w1.heap[w.heap.size]? =some (.cells #[.pointer (some ⟨c,0,none⟩)] dC (0,0)):=aM w _;have k2:Kept Nil w1 w2:=(Kept.refl _ _).alloc _;have zx:w2.heap[w1.heap.size]? =some (.cells s.1 al (0,0)):=aM w1 _;clear_value w2;have I1:=k2.heap VT (fun h=>h);have mn:=k1.tt k2;have s1:=k1.size;have l1:=aY VT;have l2:=aY zx;clear_value w1;have C2:=C.same mn;obtain⟨mx2,X2,_⟩:=C2.X;refine⟨some ⟨c,0,none⟩,by rw [aE I1];rfl,_,C2.c1,gC.of (Split.no rfl (Is.mk rfl ⟨_,X2.c0,⟨_,rfl,?_⟩⟩))⟩;intro w3;have k3:Kept Nil w2 w3:=(Kept.refl _ _).drew;clear_value w3;have jZ:=mn.tt k3;have VP:=k3.heap I1 (fun h=>h);have CI:=k3.heap zx (fun h=>h);have C3:=C.same jZ;obtain⟨A1,n1,c1,B1,m1,d1,s1',sa⟩:=C3.seen s hs;have PI:G.score s<=5000:=by
  have h1:=(C.hZ.wd s hs).2.2;have h2:=dJ (m:=ids G.D) (C.hZ.wd s hs).1 (fun b hb=>(((C.hZ.wd s hs).2.1 b hb).mem C.hZ.W).1);rw [iI]at h2;omega
 have ew:u64.wrap (((G.jW s).score:Int)+(1:Int))=((G.score s+1:Nat):Int):=by
  show u64.wrap ((G.score s:Int)+(1:Int))=_
  rw [show(G.score s:Int)+1=((G.score s+1:Nat):Int)by omega];exact km (by omega)
 have nR:∀ {u:World},Kept Nil w3 u->u.cell? ⟨w.heap.size,0,none⟩=some (.pointer (some ⟨c,0,none⟩)):=fun ku=>by rw [aE (ku.heap VP (fun h=>h))];rfl
 have uM:∀ {u:World},Kept Nil w3 u->∃cs:Array Value,(.agg s.1:Value)=.agg cs/\cs.size=32/\Cells u ⟨w1.heap.size,0,none⟩ cs:=fun ku=>⟨s.1,rfl,s.2.1,Cells.bV (ku.heap CI (fun h=>h))⟩;have mF:∀ {u:World},Kept Nil w3 u->u.cell? (((⟨m.q s,0,none⟩:Addr).add 0).add 32)=some (.int .u64 ((G.jW s).score:Int)):=fun ku=>(sa.aJ ku (fun _ _ h=>h)).W9;have l3:=aY CI;have s3:=k3.size;refine⟨s.1,⟨s.2.1,Cells.bV CI⟩,some ⟨c,0,none⟩,nR (Kept.refl _ _),_,C3.c2,s.1,⟨s.2.1,Cells.bV CI⟩,_,C3.qR hs,_,mF (Kept.refl _ _),?_⟩;rw [ew];rw [wu s];refine Is.mk rfl ?_;have GA:(s.1++ #[.int .u64 ((G.score s+1:Nat):Int),.slice none 0 0,.slice none 0 0]:Array Value)=di ⟨s,G.score s+1,[],[]⟩ none 0 0 none 0 0:=rfl;rw [GA];have go:∀ {u:World} {q sm bs:Nat},Kept Nil w3 u->w3.heap.size<=q->w3.heap.size<=sm->w3.heap.size<=bs->q≠sm->bs≠q->bs≠sm->
  u.heap[q]? =some (.cells (di ⟨s,G.score s+1,[],[]⟩ none 0 0 none 0 0++ #[.map (some sm)]) eE (0,0))->fU u sm (fun _=>none)->u.heap[bs]? =some (.cells #[.pointer (some ⟨q,0,none⟩)] fF (0,0))->_:=
  fun {u q sm bs} ku hq wF Yq h1 h2 h3 jE P5 jF=>Kw (g1:=u) (bs:=bs) (bc:=w.heap.size) (bh:=w1.heap.size) (q:=q) (sm:=sm) (cx:=cx) (K:=K) (p:=mx2.g) AT hN (C3.same ku) (hT.same (jZ.tt ku)) hD pB hs hc hl (CS.same (jZ.tt ku)) hn
   ⟨jF,ku.heap VP (fun h=>h),ku.heap CI (fun h=>h),by rw [bC,aE jE];exact(gN ..).2.2.2,P5⟩ jE
   (fun j hj=>by
     rcases hj with h|h|h|h|h
     ·have:=C.low j (.inl h);exact⟨by omega,by omega⟩
     ·have:=C.low j (.inr h);exact⟨by omega,by omega⟩
     ·exact⟨by omega,by omega⟩
     ·exact⟨by omega,by omega⟩
     ·exact⟨by omega,by omega⟩) h1 ⟨mx2,X2.same (k3.tt ku),rfl⟩
   (fun v B bb ov A n cp E e ce t1 t2 t3 t4 t5=>hK v q B sm bb ov A n cp E e ce t1 t2 (by omega) (by omega) (fun a ha=>by have:=t3 a ha;have:=(jZ.tt ku).size;omega) ⟨by have:=(jZ.tt ku).size;have:=t4.1;omega,t4.2⟩ ((jZ.tt ku).trans t5 (fun j hj e=>by omega)))
 have OI:∀ {u0:World} {b q:Nat},u0.heap[b]? =some (.cells #[.pointer none] fF (0,0))->Wr u0 ⟨b,0,none⟩/\∀u1,u1=u0.setCell ⟨b,0,none⟩ (.pointer (some ⟨q,0,none⟩))->u1.heap[b]? =some (.cells #[.pointer (some ⟨q,0,none⟩)] fF (0,0))/\Kept (· =b) u0 u1:=fun {u0 b q} hb=>⟨dN hb (by simp),fun u1 e=>by
  subst e;refine⟨?_,Kept.setCell (S:=(· =b)) (Kept.refl _ u0) (p:=⟨b,0,none⟩) (fun _=>rfl) _⟩;rw [dp hb 0];rfl⟩
 refine⟨?_,?_⟩
 ·intro w4
  have k4:Kept Nil w3 w4:=(Kept.refl _ _).alloc _;have hm4:fU w4 w3.heap.size (fun _=>none):=fU.new w3;clear_value w4;have l4:=hm4.lt;refine⟨mF k4,(C3.same k4).qR hs,uM k4,(C3.same k4).c2,nR k4,uM k4,?_⟩;rw [yo];refine Is.mk rfl ⟨?_,?_⟩
  ·intro w5 w6
   have k5:Kept Nil w4 w5:=(Kept.refl _ _).alloc _;have hq5:w5.heap[w4.heap.size]? =some (.cells (di ⟨s,G.score s+1,[],[]⟩ none 0 0 none 0 0++ #[.map (some w3.heap.size)]) eE (0,0)):=aM w4 _;have k6:Kept Nil w5 w6:=(Kept.refl _ _).alloc _;have qd:w6.heap[w5.heap.size]? =some (.cells #[.pointer none] fF (0,0)):=aM w5 _;clear_value w6;have Uj:=k6.heap hq5 (fun h=>h);have l5:=aY hq5;clear_value w5;have JU:=k5.tt k6;have rQ:=k4.tt JU;have s36:=rQ.size;obtain⟨t1,t2⟩:=OI (q:=w4.heap.size) qd;refine⟨t1,?_⟩;intro w7;obtain⟨t3,t4⟩:=t2 w7 rfl;clear_value w7;exact go (rQ.trans t4 (fun j hj e=>by omega)) (by omega) (by omega) (by omega) (by omega) (by omega) (by omega) (t4.heap Uj (by omega)) ((hm4.same JU).aJ t4 (by omega)) t3
  ·intro w5
   have k5:Kept Nil w4 w5:=(Kept.refl _ _).alloc _;have pC:w5.heap[w4.heap.size]? =some (.cells #[.pointer none] fF (0,0)):=aM w4 _;clear_value w5;have l5:=aY pC;have ns:=k4.tt k5;refine⟨mF ns,(C3.same ns).qR hs,uM ns,(C3.same ns).c2,nR ns,uM ns,?_⟩;intro w6;have k6:Kept Nil w5 w6:=(Kept.refl _ _).alloc _;have Uj:w6.heap[w5.heap.size]? =some (.cells (di ⟨s,G.score s+1,[],[]⟩ none 0 0 none 0 0++ #[.map (some w3.heap.size)]) eE (0,0)):=aM w5 _;clear_value w6;have JU:=k5.tt k6;have rQ:=k4.tt JU;have Zl:=ns.size;obtain⟨t1,t2⟩:=OI (q:=w5.heap.size) (k6.heap pC (fun h=>h));refine⟨t1,?_⟩;intro w7;obtain⟨t3,t4⟩:=t2 w7 rfl;clear_value w7;exact go (rQ.trans t4 (fun j hj e=>by omega)) (by omega) (by omega) (by omega) (by omega) (by omega) (by omega) (t4.heap Uj (by omega)) ((hm4.same JU).aJ t4 (by omega)) t3
 ·intro w4
  have k4:Kept Nil w3 w4:=(Kept.refl _ _).alloc _;have ud:w4.heap[w3.heap.size]? =some (.cells #[.pointer none] fF (0,0)):=aM w3 _;clear_value w4;have l4:=aY ud;refine⟨mF k4,(C3.same k4).qR hs,uM k4,(C3.same k4).c2,nR k4,uM k4,?_⟩;intro w5;have k5:Kept Nil w4 w5:=(Kept.refl _ _).alloc _;have hm5:fU w5 w4.heap.size (fun _=>none):=fU.new w4;clear_value w5;have l5:=hm5.lt;have ns:=k4.tt k5;refine⟨mF ns,(C3.same ns).qR hs,uM ns,(C3.same ns).c2,nR ns,uM ns,?_⟩;rw [yo];refine Is.mk rfl ?_;intro w6;have k6:Kept Nil w5 w6:=(Kept.refl _ _).alloc _;have Uj:w6.heap[w5.heap.size]? =some (.cells (di ⟨s,G.score s+1,[],[]⟩ none 0 0 none 0 0++ #[.map (some w4.heap.size)]) eE (0,0)):=aM w5 _;clear_value w6;have rQ:=ns.tt k6;have Zl:=ns.size;obtain⟨t1,t2⟩:=OI (q:=w5.heap.size) ((k5.tt k6).heap ud (fun h=>h));refine⟨t1,?_⟩;intro w7;obtain⟨t3,t4⟩:=t2 w7 rfl;clear_value w7;exact go (rQ.trans t4 (fun j hj e=>by omega)) (by omega) (by omega) (by omega) (by omega) (by omega) (by omega) (t4.heap Uj (by omega)) ((hm5.same k6).aJ t4 (by omega)) t3
end
end Go.Proofs.YtfleamccglihoaaGreatDoor
