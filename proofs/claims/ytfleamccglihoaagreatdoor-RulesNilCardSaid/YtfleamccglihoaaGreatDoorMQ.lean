import Derived.Test.YtfleamccglihoaaGreatDoorMP
import Derived.Test.YtfleamccglihoaaGreatDoorMG
open Go.IntKind (i64 u64)
set_option linter.unusedVariables false
namespace Go.Proofs.YtfleamccglihoaaGreatDoor
open Go.Proofs.Tryz
open Go Go.bE Go.RowKit
theorem Dv:AT prog iZ iV 1 1:=⟨by kernel_rfl,by kernel_rfl⟩
abbrev uZ(l:List Bool):List Value:=l.map .bool
structure vU(w:World)(B q sm:Nat)(c:q7)(ov:HT->Option Nat)(A:Option Addr)(n cp:Nat)(E:Option Addr)(e ce:Nat):Prop where
 top:w.heap[q]? =some (.cells (dS c A n cp E e ce++ #[.map (some sm)]) dh (0,0))
 mg:cm w B A n cp c.merge
 bl:Row w B iV 1 E e ce (uZ c.iH)
 ov:dY w sm (Gs ov)
 qB:q<B
 sB:sm<B
 qs:q≠sm
 AE:∀j,bm A=some j->bm E≠some j
section
variable{w w':World}{B q sm:Nat}{c:q7}{ov:HT->Option Nat}{A E:Option Addr}{n cp e ce:Nat}{K:Value->World->Prop}
theorem vU.aK{S:Nat->Prop}(h:vU w B q sm c ov A n cp E e ce)(hk:Kept S w w')(h1:¬S q)(h2:¬S sm)(h3:∀j,B<=j->¬S j):vU w' B q sm c ov A n cp E e ce:=
 ⟨hk.heap h.top h1,Row.aK h.mg hk (fun j hj=>h3 j (Row.bW h.mg hj).1),Row.aK h.bl hk (fun j hj=>h3 j (Row.bW h.bl hj).1),h.ov.aK hk h2,h.qB,h.sB,h.qs,h.AE⟩
theorem vU.same(h:vU w B q sm c ov A n cp E e ce)(hk:Kept Nil w w'):vU w' B q sm c ov A n cp E e ce:=h.aK hk (fun h=>h) (fun h=>h) (fun _ _ h=>h)
theorem vU.f33(h:vU w B q sm c ov A n cp E e ce):w.cell? (((⟨q,0,none⟩:Addr).add 0).add 33)=some (.slice A n cp):=by rw [add_zero,bt,aA h.top];exact(gL ..).2.1
theorem vU.Xk(h:vU w B q sm c ov A n cp E e ce):∀j,bm A=some j\/bm E=some j->B<=j/\j<w.heap.size:=fun j hj=>by
 rcases hj with hj|hj
 ·obtain⟨h1,cur,h2⟩:=Row.bW h.mg hj;exact⟨h1,a7 h2⟩
 ·obtain⟨h1,cur,h2⟩:=Row.bW h.bl hj;exact⟨h1,a7 h2⟩
theorem sZ(c:q7)(A:Option Addr)(n cp:Nat)(E:Option Addr)(e ce:Nat)(r:Array Value)(A':Option Addr)(n' vD:Nat):
 (dS c A n cp E e ce++r).setIfInBounds (0+33) (.slice A' n' vD)=dS c A' n' vD E e ce++r:=by
 have h0:c.mf.1.size=32:=c.mf.2.1;apply Array.ext';unfold dS;simp only [Array.toList_setIfInBounds,Array.toList_append,List.append_assoc];rw [List.set_append_right _ _ (by simp [h0])];simp [h0]
theorem sY(c:q7)(A:Option Addr)(n cp:Nat)(E:Option Addr)(e ce:Nat)(r:Array Value)(E':Option Addr)(n' vD:Nat):
 (dS c A n cp E e ce++r).setIfInBounds (0+34) (.slice E' n' vD)=dS c A n cp E' n' vD++r:=by
 have h0:c.mf.1.size=32:=c.mf.2.1;apply Array.ext';unfold dS;simp only [Array.toList_setIfInBounds,Array.toList_append,List.append_assoc];rw [List.set_append_right _ _ (by simp [h0])];simp [h0]
theorem zu(c:q7)(A:Option Addr)(n cp:Nat)(E:Option Addr)(e ce:Nat)(r:Array Value)(s:Nat):
 (dS c A n cp E e ce++r).setIfInBounds (0+32) (.int .u64 (s:Int))=dS {c with score:=s} A n cp E e ce++r:=by
 have h0:c.mf.1.size=32:=c.mf.2.1;apply Array.ext';unfold dS;simp only [Array.toList_setIfInBounds,Array.toList_append,List.append_assoc];rw [List.set_append_right _ _ (by simp [h0])];simp [h0]
theorem vU.Ni(h:vU w B q sm c ov A n cp E e ce)(hB:B<=w.heap.size)(hn:n<=100000){x:HT}{b:Nat}(hb:HS w (some ⟨b,0,none⟩) 1 [x]):
 ∃A' vD u,(Builtin.append_ #[aV,aV] aV #[.slice A n cp,.slice (some ⟨b,0,none⟩) 1 1]).run prog w=.ok (.slice A' (n+1) vD) u/\
  Kept (fun j=>B<=j) w u/\vU (u.setCell (((⟨q,0,none⟩:Addr).add 0).add 33) (.slice A' (n+1) vD)) B q sm {c with merge:=c.merge++ [x]} ov A' (n+1) vD E e ce/\
  Kept (fun j=>j=q\/B<=j) w (u.setCell (((⟨q,0,none⟩:Addr).add 0).add 33) (.slice A' (n+1) vD))/\Wr u (((⟨q,0,none⟩:Addr).add 0).add 33):=by
 obtain⟨A',vD,u,hr,fU,hg,hA⟩:=gu aV h.mg (cx:=1) hb (by omega) hB;have ku:Kept (fun j=>B<=j) w u:=(Kept.refl _ _).grown hg fun j hj _=>(Row.bW h.mg hj).1;have kA:Kept (fun j=>bm A=some j) w u:=(Kept.refl _ _).grown hg fun j hj _=>hj;have qB:=h.qB;have sB:=h.sB;have jo:=ku.heap h.top (by omega);have Ck:Row u B iV 1 E e ce (uZ c.iH):=Row.aK h.bl kA (fun j hj e=>h.AE j e hj);have oz:Kept (· =q) u (u.setCell (((⟨q,0,none⟩:Addr).add 0).add 33) (.slice A' (n+1) vD)):=by
  rw [add_zero,bt];exact Kept.setCell (S:=(· =q)) (Kept.refl _ u) (p:=⟨q,0+33,none⟩) (fun _=>rfl) _
 have kQ:∀ {X:Option Addr} {j:Nat},(∀k,bm X=some k->B<=k)->bm X=some j->¬j=q:=fun h hj e=>by have:=h _ hj;omega
 refine⟨A',vD,u,hr,ku,⟨?_,?_,?_,?_,qB,sB,h.qs,?_⟩,?_,?_⟩
 ·show(u.setCell (((⟨q,0,none⟩:Addr).add 0).add 33) (.slice A' (n+1) vD)).heap[q]? =_
  rw [add_zero,bt,cR jo,sZ];rfl
 ·exact Row.aK fU oz (fun j hj=>kQ (fun k hk=>(Row.bW fU hk).1) hj)
 ·exact Row.aK Ck oz (fun j hj=>kQ (fun k hk=>(Row.bW Ck hk).1) hj)
 ·exact(h.ov.aK ku (by omega)).aK oz (fun e=>h.qs e.symm)
 ·intro j hj he
  rcases hA j hj with h1|h1
  ·exact h.AE j h1 he
  ·have:=(h.Xk j (.inr he)).2;omega
 ·exact(ku.mono fun _ _ h=>.inr h).trans oz (fun _ _ e=>.inl e)
 ·rw [add_zero,bt]
  exact dz jo (by rw [Array.size_append,bX];simp)
end
structure kY(w:World)(B q sm bb:Nat)(c:q7)(ov:HT->Option Nat)(A:Option Addr)(n cp:Nat)(E:Option Addr)(e ce:Nat):Prop where
 top:w.heap[q]? =some (.cells (dS c A n cp E e ce++ #[.map (some sm)]) dh (0,0))
 mg:HS w A n c.merge
 mA:∀a,A=some a->a.block<B/\a.block≠q/\a.block≠sm/\a.block≠bb
 bl:Row w B iV 1 E e ce (uZ c.iH)
 ov:dY w sm (Gs ov)
 qB:q<B
 sB:sm<B
 bB:bb<B
 qs:q≠sm/\q≠bb/\sm≠bb
section
variable{w w':World}{B q sm bb:Nat}{c:q7}{ov:HT->Option Nat}{A E:Option Addr}{n cp e ce:Nat}{K:Value->World->Prop}
theorem kY.aK{S:Nat->Prop}(h:kY w B q sm bb c ov A n cp E e ce)(hk:Kept S w w')(h1:¬S q)(h2:¬S sm)(h3:∀j,B<=j->j<w.heap.size->¬S j)(h4:∀a,A=some a->¬S a.block):kY w' B q sm bb c ov A n cp E e ce:=
 ⟨hk.heap h.top h1,h.mg.aK hk h4,h.mA,Row.aK h.bl hk (fun j hj=>by obtain⟨g1,cur,g2⟩:=Row.bW h.bl hj;exact h3 j g1 (a7 g2)),h.ov.aK hk h2,h.qB,h.sB,h.bB,h.qs⟩
theorem kY.same(h:kY w B q sm bb c ov A n cp E e ce)(hk:Kept Nil w w'):kY w' B q sm bb c ov A n cp E e ce:=h.aK hk (fun h=>h) (fun h=>h) (fun _ _ _ h=>h) (fun _ _ h=>h)
theorem kY.f32(h:kY w B q sm bb c ov A n cp E e ce):w.cell? (((⟨q,0,none⟩:Addr).add 0).add 32)=some (.int .u64 (c.score:Int)):=by rw [add_zero,bt,aA h.top];exact(gL ..).1
theorem kY.f33(h:kY w B q sm bb c ov A n cp E e ce):w.cell? (((⟨q,0,none⟩:Addr).add 0).add 33)=some (.slice A n cp):=by rw [add_zero,bt,aA h.top];exact(gL ..).2.1
theorem kY.f34(h:kY w B q sm bb c ov A n cp E e ce):w.cell? (((⟨q,0,none⟩:Addr).add 0).add 34)=some (.slice E e ce):=by rw [add_zero,bt,aA h.top];exact(gL ..).2.2.1
theorem kY.f35(h:kY w B q sm bb c ov A n cp E e ce):w.cell? ((⟨q,0,none⟩:Addr).add 35)=some (.map (some sm)):=by rw [bt,aA h.top];exact(gL ..).2.2.2
theorem kY.wr(h:kY w B q sm bb c ov A n cp E e ce){j:Nat}(hj:j<36):Wr w (((⟨q,0,none⟩:Addr).add 0).add j):=by
 rw [add_zero,bt];exact dz h.top (by rw [Array.size_append,bX];simp;omega)
theorem kY.M8{h:kY w B q sm bb c ov A n cp E e ce}(j:Nat)(v:Value):Kept (· =q) w (w.setCell (((⟨q,0,none⟩:Addr).add 0).add j) v):=by
 rw [add_zero,bt];exact Kept.setCell (S:=(· =q)) (Kept.refl _ w) (p:=⟨q,0+j,none⟩) (fun _=>rfl) _
theorem kY.Nj(h:kY w B q sm bb c ov A n cp E e ce)(hB:B<=w.heap.size)(hn:e<=100000){x:Bool}{b:Nat}(hb:w.cell? ⟨b,0,none⟩=some (.bool x)):
 ∃E' vT u,(Builtin.append_ #[iZ,iZ] iZ #[.slice E e ce,.slice (some ⟨b,0,none⟩) 1 1]).run prog w=.ok (.slice E' (e+1) vT) u/\
  Kept (fun j=>B<=j/\bm E=some j) w u/\Wr u (((⟨q,0,none⟩:Addr).add 0).add 34)/\
  kY (u.setCell (((⟨q,0,none⟩:Addr).add 0).add 34) (.slice E' (e+1) vT)) B q sm bb {c with iH:=c.iH++ [x]} ov A n cp E' (e+1) vT/\
  Kept (fun j=>j=q\/bm E=some j) w (u.setCell (((⟨q,0,none⟩:Addr).add 0).add 34) (.slice E' (e+1) vT))/\(∀j,bm E'=some j->bm E=some j\/w.heap.size<=j):=by
 obtain⟨E',vT,u,hr,fU,hg,hE⟩:=im (P:=prog) (t:=iZ) (bytes:=1) (ty:=iZ) Dv h.bl (a:=⟨b,0,none⟩) (m:=1) (cx:=1) (news:= [.bool x]) rfl (fun j v hj=>by
  cases j with
  |zero=>simp only [List.getElem?_cons_zero,Option.some.injEq]at hj;subst hj;rw [add_zero];exact hb
  |succ j=>simp at hj) (fun v hv=>by
  have:v=.bool x:=by simpa using hv
  subst this;rfl) (by omega) (by unfold maxLen;omega) hB
 have qB:=h.qB;have sB:=h.sB;have kE:Kept (fun j=>B<=j/\bm E=some j) w u:=(Kept.refl _ _).grown hg fun j hj _=>⟨(Row.bW h.bl hj).1,hj⟩;have jo:=kE.heap h.top (by omega);have oz:Kept (· =q) u (u.setCell (((⟨q,0,none⟩:Addr).add 0).add 34) (.slice E' (e+1) vT)):=by
  rw [add_zero,bt];exact Kept.setCell (S:=(· =q)) (Kept.refl _ u) (p:=⟨q,0+34,none⟩) (fun _=>rfl) _
 refine⟨E',vT,u,hr,kE,?_,⟨?_,?_,h.mA,?_,?_,qB,sB,h.bB,h.qs⟩,?_,hE⟩
 ·rw [add_zero,bt]
  exact dz jo (by rw [Array.size_append,bX];simp)
 ·show(u.setCell (((⟨q,0,none⟩:Addr).add 0).add 34) (.slice E' (e+1) vT)).heap[q]? =_
  rw [add_zero,bt,cR jo,sY];rfl
 ·exact(h.mg.aK kE (fun a ha=>by have:=(h.mA a ha).1;omega)).aK oz (fun a ha=>(h.mA a ha).2.1)
 ·have e1:uZ (c.iH++ [x])=uZ c.iH++ [.bool x]:=by simp [uZ]
  show Row _ B iV 1 E' (e+1) vT (uZ (c.iH++ [x]))
  rw [e1];exact Row.aK fU oz (fun j hj=>by have:=(Row.bW fU hj).1;omega)
 ·exact(h.ov.aK kE (by omega)).aK oz (fun e=>h.qs.1 e.symm)
 ·exact(kE.mono fun _ _ h=>.inr h.2).trans oz (fun _ _ e=>.inl e)
theorem kY.SN(h:kY w B q sm bb c ov A n cp E e ce)(s:Nat):
 kY (w.setCell (((⟨q,0,none⟩:Addr).add 0).add 32) (.int .u64 (s:Int))) B q sm bb {c with score:=s} ov A n cp E e ce/\Kept (· =q) w (w.setCell (((⟨q,0,none⟩:Addr).add 0).add 32) (.int .u64 (s:Int))):=by
 have qB:=h.qB;have oz:=kY.M8 (h:=h) 32 (.int .u64 (s:Int));refine⟨⟨?_,h.mg.aK oz (fun a ha=>(h.mA a ha).2.1),h.mA,Row.aK h.bl oz (fun j hj=>by have:=(Row.bW h.bl hj).1;omega),h.ov.aK oz (fun e=>h.qs.1 e.symm),h.qB,h.sB,h.bB,h.qs⟩,oz⟩;rw [add_zero,bt,cR h.top,zu]
theorem kY.note(h:kY w B q sm bb c ov A n cp E e ce)(b:HT)(n0:Nat):
 ∃u,(Instr.mapUpdate b0 (.map (some sm)) (.agg b.1) (.int .i64 (n0:Int))).run prog w=.ok () u/\kY u B q sm bb c (fun y=>if y=b then some n0 else ov y) A n cp E e ce/\Kept (· =sm) w u:=by
 have sB:=h.sB;obtain⟨u,hr,hm,hk⟩:=h.ov.put pD b (.int .i64 (n0:Int));refine⟨u,hr,⟨hk.heap h.top h.qs.1,h.mg.aK hk (fun a ha=>(h.mA a ha).2.2.1),h.mA,Row.aK h.bl hk (fun j hj=>by have:=(Row.bW h.bl hj).1;omega),?_,h.qB,h.sB,h.bB,h.qs⟩,hk⟩;have e1:Gs (fun y=>if y=b then some n0 else ov y)=fun x=>if x=b then some (.int .i64 (n0:Int))else Gs ov x:=by
  funext y
  unfold Gs;by_cases e:y=b
  ·simp only [if_pos e,Option.map_some]
  ·simp only [if_neg e]
 rw [e1];exact hm
end
noncomputable def nV(k:Nat)(G:GS)(s:HT)(l:List HT)(i:Nat):VS:=((cu G s l).take i).foldl (rL k G.D) ⟨G.world s++ [s],[]⟩
structure V2(y v:World)(k:Nat)(G:GS)(s:HT)(l:List HT)(base:HT->Nat)(q sm bb:Nat)(A:Option Addr)(n cp i:Nat):Prop where
 ex:∃(ov:HT->Option Nat) (E:Option Addr) (e ce:Nat) (Ab:Option Addr) (nb cb:Nat) (bl:List HT),
  kY v y.heap.size q sm bb ⟨s,G.score s+1+(nV k G s l i).bl.count true,cu G s l,(nV k G s l i).bl⟩ ov A n cp E e ce/\
  v.heap[bb]? =some (.cells #[.slice Ab nb cb] aV (0,0))/\cm v y.heap.size Ab nb cb bl/\(nV k G s l i).wd=G.world s++ [s]++bl/\(∀j,bm Ab=some j->bm E≠some j)/\
  OV G.D (nV k G s l i).wd ov base/\(nV k G s l i).wd.Nodup/\(∀z∈bl,z∈(cu G s l).take i)/\e=i
 kp:Kept (fun j=>j=q\/j=sm\/j=bb) y v
theorem kY.DY{w w':World}{B q sm bb:Nat}{c:q7}{ov:HT->Option Nat}{A E:Option Addr}{n cp e ce:Nat}{S:Nat->Prop}(h:kY w B q sm bb c ov A n cp E e ce)(hk:Kept S w w')(h1:¬S q)(h2:¬S sm)(h3:∀j,bm E=some j->¬S j)(h4:∀a,A=some a->¬S a.block):kY w' B q sm bb c ov A n cp E e ce:=
 ⟨hk.heap h.top h1,h.mg.aK hk h4,h.mA,Row.aK h.bl hk h3,h.ov.aK hk h2,h.qB,h.sB,h.bB,h.qs⟩
theorem Dg{k:Nat}{G:GS}{s:HT}{l:List HT}{i:Nat}{x:HT}(hx:(cu G s l)[i]? =some x):nV k G s l (i+1)=rL k G.D (nV k G s l i) x:=by
 unfold nV;have e:(cu G s l).take (i+1)=(cu G s l).take i++ [x]:=by rw [List.take_add_one,hx];rfl
 rw [e,List.foldl_append];rfl
theorem Gc(k:Nat)(G:GS)(s:HT)(l:List HT)(i:Nat)(hi:i<=(cu G s l).length):(nV k G s l i).bl.length=i:=by
 obtain⟨b,h1,h2⟩:=HY k G.D (G.world s++ [s]) ((cu G s l).take i);unfold nV;rw [h2];show b.length=i
 rw [h1,List.length_take];omega
theorem Gd(k:Nat)(G:GS)(s:HT)(l:List HT):nV k G s l (cu G s l).length=gI k G s l:=by
 unfold nV gI;rw [List.take_of_length_le (Nat.le_refl _)]
section
variable{y v w w':World}{F:Nat->Prop}{c k:Nat}{G:GS}{m:CM}{s:HT}{l ch:List HT}{bs bc bh q sm bb kb n cp:Nat}{A:Option Addr}{K:Value->World->Prop}
set_option maxHeartbeats 4000000 in
theorem x9(C:CV y F c k G m)(hD:G.D.length<=5000)(rH:k<=1000)(hs:s∈ids G.D)(hc:cN G.D G.P s ch)(hM:∀x∈cu G s l,x∈ids G.D)
 (V:VB y c s bs bc bh q sm (fun _=>none)) (IL:y.heap[kb]? =some (.cells #[.func (.func bH.id) #[] #[.pointer (some ⟨bs,0,none⟩),.pointer (some ⟨bc,0,none⟩),.pointer (some ⟨bh,0,none⟩)]] dR (0,0)))
 (kQ:∀j,(m.own c j\/F j\/j=bs\/j=bc\/j=bh\/j=kb)->j≠q/\j≠sm/\j≠bb)
 (h0:V2 y y k G s l (lf m.sz ch) q sm bb A n cp 0) (hn:n<=5000)
 (hK:∀v ov E e ce,kY v y.heap.size q sm bb (fK k G s l) ov A n cp E e ce->OV G.D (gI k G s l).wd ov (lf m.sz ch)->Kept (fun j=>j=q\/j=sm\/j=bb) y v->K (.pointer (some ⟨q,0,none⟩)) v):
 Holds none [] prog 153 (.loop (lB (bB (sR (sL (dW (body ah.fn))))))) (ah.q2 K)
  [(3,.pointer (some ⟨bc,0,none⟩)),(6,.pointer none),(8,.pointer (some ⟨bs,0,none⟩)),(11,.pointer (some ⟨bb,0,none⟩)),(12,.func (.func af.id) #[] #[.pointer (some ⟨bb,0,none⟩),.pointer (some ⟨bc,0,none⟩),.pointer (some ⟨bh,0,none⟩)]),(13,.pointer (some ⟨kb,0,none⟩)),(92,.slice A n cp),(93,.int .i64 (n:Int)),(94,.int .i64 0)] y:=by
 have W:=C.iM.W;have hmn:(cu G s l).Nodup:=(lT G s l).nodup;have Ps:(cu G s l).length=n:=by obtain⟨_,_,_,_,_,_,_,_,h,_⟩:=h0.ex;exact h.mg.len
 have lbs:=a7 V.hs;have lbc:=a7 V.hc;have lbh:=a7 V.hh;have lkb:=a7 IL;have Sh:=kQ bs (.inr (.inr (.inl rfl)));have Sj:=kQ bc (.inr (.inr (.inr (.inl rfl))));have Si:=kQ bh (.inr (.inr (.inr (.inr (.inl rfl)))));have fkb:=kQ kb (.inr (.inr (.inr (.inr (.inr rfl)))));refine ah.iK (I:=fun s0 v=>∃i:Nat,s0=(i:Int)/\i<=n/\V2 y v k G s l (lf m.sz ch) q sm bb A n cp i) (μ:=fun s0 _=>((n:Int)-s0).toNat) (s:=0) ⟨0,rfl,Nat.zero_le _,h0⟩ ?_;rintro s0 v ⟨i,rfl,hi,hV⟩;obtain⟨ov,E,e,ce,Ab,nb,cb,bl,hS,Cl,fU,Mk,ZE,hO,gJ,sy,Za⟩:=hV.ex;have kv:=hV.kp;have sv:=kv.size;refine Split.dec (fun lE=>?_) (fun iG=>?_)
 ·have eV:i<n:=by omega
  obtain⟨x,hx⟩:∃x,(cu G s l)[i]? =some x:=⟨_,List.getElem?_eq_getElem (by omega)⟩;have Mj:=hM x (List.mem_of_getElem? hx);have Yo:x∉(nV k G s l i).wd:=by
   rw [Mk];intro hm;obtain⟨_,g1,g2⟩:=iU.1 (List.mem_of_getElem? hx);rcases List.mem_append.1 hm with hm|hm
   ·rcases List.mem_append.1 hm with hm|hm
    ·exact g2 ((C.iM.wd s hs).2.1 x hm)
    ·exact g1 (by simpa using hm)
   ·have h1:=sy x hm
    obtain⟨j,hj⟩:=List.mem_iff_getElem?.1 h1;rw [List.getElem?_take]at hj;split at hj
    ·rename_i FT
     have h2:=(lgeS hj);have h3:=(lgeS hx);have:=(List.getElem_inj hmn).1 (h2.2.trans h3.2.symm);omega
    ·cases hj
  have oo:=Dg (k:=k) hx;refine hS.mg.load (i:=(i:Int)) (by omega) hx ?_;intro pY;obtain⟨ri,ju,jc⟩:=fY (w:=v) (z:=fy.1) (cs:=x.1) (t:=ax) (by rw [x.2.1];rfl);refine⟨⟨x.2.1,x.2.one,fun j hj=>ri j (by rw [x.2.1];exact hj)⟩,?_⟩;intro ko
  replace ju:ko.heap[v.heap.size]? =some (.cells x.1 ax (0,0)):=ju
  replace jc:Kept Nil v ko:=jc
  clear_value ko;intro nh ln;have uN:Kept Nil ko nh:=(Kept.refl _ _).alloc _;have Pm:dY nh ko.heap.size (fun _=>none):=dY.new ko;have tP:Kept Nil nh ln:=(Kept.refl _ _).alloc _;have K7:ln.heap[nh.heap.size]? =some (.cells #[.map none] b0 (0,0)):=aR nh _;refine⟨dz K7 (by simp),?_⟩;intro uu;have P5:uu.heap[nh.heap.size]? =some (.cells #[.map (some ko.heap.size)] b0 (0,0)):=by
   show(ln.setCell ⟨nh.heap.size,0,none⟩ (.map (some ko.heap.size))).heap[nh.heap.size]? =_;rw [cR K7 0];rfl
  have Ea:Kept (· =nh.heap.size) ln uu:=Kept.setCell (S:=(· =nh.heap.size)) (Kept.refl _ ln) (p:=⟨nh.heap.size,0,none⟩) (fun _=>rfl) _;clear_value uu;have s14:=jc.size;have s15:=uN.size;have l14:=a7 ju;have l15:=Pm.lt;have l16:=a7 K7;have Ed:Kept Nil ko uu:=⟨Ea.os.trans (uN.tt tP).os,Ea.tape.trans (uN.tt tP).tape,Ea.output.trans (uN.tt tP).output,Nat.le_trans (uN.tt tP).size Ea.size,fun j hj hn=>by rw [Ea.block j (Nat.lt_of_lt_of_le hj (uN.tt tP).size) (by omega),(uN.tt tP).block j hj hn]⟩;have U2:dY uu ko.heap.size (fun _=>none):=(Pm.same tP).aK Ea (by omega);have IW:=Ed.heap ju (fun h=>h);clear_value ln nh;have GB:Kept Nil v uu:=jc.tt Ed;have BS:Kept (fun j=>j=q\/j=sm\/j=bb) y uu:=kv.trans GB (fun _ _ h=>h.elim);have Lo:=hS.same GB;have C17:CV uu F c k G m:=C.aK BS (fun j hj e=>by have:=kQ j (.inl hj);omega) (fun j hj e=>by have:=kQ j (.inr (.inl hj));omega);have V17:VB uu c s bs bc bh q sm ov:=⟨BS.heap V.hs (by omega),BS.heap V.hc (by omega),BS.heap V.hh (by omega),Lo.f35,Lo.ov⟩;have PA:=BS.heap IL (by omega);have Et:cm uu y.heap.size Ab nb cb bl:=Row.aK fU GB (fun _ _ h=>h);have I4:=GB.heap Cl (fun h=>h);refine⟨x.1,⟨x.2.1,Cells.bW IW⟩,?_⟩;have qB:=hS.qB;have sB:=hS.sB;have bB:=hS.bB;have EP:∀b∈(nV k G s l i).wd,pF ov (lf m.sz ch) b=(bY G.D (nV k G s l i).wd b).length:=hO.kn;have sA:=gJ;rw [Mk]at sA;obtain⟨c1,c2,c3⟩:=HO C.iM (h:=x) hs hc sA;rw [<-Mk]at c2 c3;have Qj:=fU.len;have KI:nb<=5000:=by
   have h1:=eo (m:=cu G s l) (List.nodup_append.1 sA).2.1 (fun z hz=>List.mem_of_mem_take (sy z hz));omega
  have Ls:∀a,Ab=some a->a.block<ko.heap.size:=fun a ha=>by
   subst ha;obtain⟨_,cur,h1⟩:=Row.bW fU (k:=a.block) rfl;have:=a7 h1;omega
  refine xw (p:=⟨bs,bc,bh,q,sm,kb,nh.heap.size,ko.heap.size,0,0⟩) ⟨C17,V17,PA,P5,(fun e=>by have:ko.heap.size<y.heap.size:=C.low _ (.inl e);omega),(fun e=>by have:ko.heap.size<y.heap.size:=C.low _ (.inr e);omega),(show bs≠ko.heap.size/\bc≠ko.heap.size/\bh≠ko.heap.size/\q≠ko.heap.size/\sm≠ko.heap.size/\kb≠ko.heap.size/\nh.heap.size≠ko.heap.size from⟨by omega,by omega,by omega,by omega,by omega,by omega,by omega⟩)⟩ hD rH hs hc (h:=x) I4 (by show bb≠ko.heap.size;omega) Et.hs (fun a ha=>by have:=Ls a ha;show a.block≠ko.heap.size;omega) (by omega) (by
   show dY uu ko.heap.size _
   have e0:(fun y=>if y∈([]:List HT)then some (Value.int .i64 (pF ov (lf m.sz ch) y:Int))else none)=fun _=>none:=by funext y;simp
   rw [e0];exact U2) c1 fun Ba r hr hFr xV=>⟨r,rfl,?_⟩
  replace xV:Kept (· =ko.heap.size) uu Ba:=xV
  have IY:r=th k G.D (nV k G s l i).wd x:=by rw [hr];exact Fg EP c2 c3
  have QN:∀j,bm E=some j->y.heap.size<=j/\j<v.heap.size:=fun j hj=>by obtain⟨g1,cur,g2⟩:=Row.bW hS.bl hj;exact⟨g1,a7 g2⟩
  have EY:∀j,bm Ab=some j->y.heap.size<=j/\j<v.heap.size:=fun j hj=>by obtain⟨g1,cur,g2⟩:=Row.bW fU hj;exact⟨g1,a7 g2⟩
  have s17:=Ed.size;have Wl:=Lo.DY xV (by omega) (by omega) (fun j hj=>by have:=QN j hj;omega) (fun a ha=>by have:=(hS.mA a ha).1;omega);have KA:cm Ba y.heap.size Ab nb cb bl:=Row.aK Et xV (fun j hj=>by have:=EY j hj;omega);have Gy:Kept (fun j=>j=q\/j=sm\/j=bb) y Ba:=BS.trans xV (fun j hj e=>by omega);have Qp:=xV.heap I4 (by omega);have Qg:=xV.heap IW (by omega);have Vv:=xV.heap P5 (by omega);intro vY;have D8:Kept Nil Ba vY:=(Kept.refl _ _).drew;clear_value vY;have EW:=Wl.same D8;have wU:=Gy.trans D8 (fun _ _ h=>h.elim);have xi:∀ {u:World} {S:Nat->Prop},Kept S y u->¬S bs->u.cell? ⟨bs,0,none⟩=some (.pointer (some ⟨q,0,none⟩)):=fun ku hb=>by rw [aA (ku.heap V.hs hb)];rfl
  have H8:¬(bs=q\/bs=sm\/bs=bb):=by omega
  have s21:=wU.size;refine⟨_,xi wU H8,_,xi wU H8,E,e,ce,EW.f34,?_⟩;intro km;have pZ:Kept Nil vY km:=(Kept.refl _ _).alloc _;have Hu:km.heap[vY.heap.size]? =some (.cells #[.bool r] iV (0,0)):=aR vY _;clear_value km;have EV:=EW.same pZ;have sn:=wU.trans pZ (fun _ _ h=>h.elim);have S6:=sn.size;obtain⟨E',vT,u,OF,kE,TT,EU,k5,hE5⟩:=EV.Nj (by omega) (by omega) (x:=r) (b:=vY.heap.size) (by rw [aA Hu];rfl);have Tg:Kept (fun j=>j=q\/j=sm\/j=bb) y u:=sn.trans kE (fun j hj e=>by have:=QN j e.2;omega);refine⟨EV.f34,xi sn H8,xi sn H8,E',e+1,vT,u,OF,xi Tg H8,TT,?_⟩;intro tF
  replace EU:kY tF y.heap.size q sm bb _ ov A n cp E' (e+1) vT:=EU
  replace k5:Kept (fun j=>j=q\/bm E=some j) km tF:=k5
  clear_value tF;have JM:Kept (fun j=>j=q\/j=sm\/j=bb) y tF:=sn.trans k5 (fun j hj e=>by
   rcases e with e|e
   ·exact .inl e
   ·have:=QN j e;omega)
  have D9:Kept (fun j=>j=q\/bm E=some j) Ba tF:=((D8.tt pZ).mono fun _ _ h=>h.elim).tt k5;have XA:=(D8.tt pZ).size;have s20:=xV.size;have Es:cm tF y.heap.size Ab nb cb bl:=Row.aK KA D9 (fun j hj e=>by
   have:=EY j hj;rcases e with e|e
   ·omega
   ·exact ZE j hj e)
  have I3:=D9.heap Qp (fun e=>by
   rcases e with e|e
   ·exact hS.qs.2.1 e.symm
   ·have:=QN bb e;omega)
  have Lt:∀j,bm Ab=some j->bm E'≠some j:=fun j hj he=>by
   rcases hE5 j he with h1|h1
   ·exact ZE j hj h1
   ·have:=EY j hj;omega
  have Iy:∀z∈bl,z∈(cu G s l).take (i+1):=fun z hz=>by
   have h1:=sy z hz;rw [List.take_add_one];exact List.mem_append_left _ h1
  cases r with
  |false=>
   refine Split.yes rfl ?_;rw [eF (n:=(i:Int)) (by omega) (by omega)];have vq:nV k G s l (i+1)=⟨(nV k G s l i).wd,(nV k G s l i).bl++ [false]⟩:=by rw [oo,rL,<-IY];rfl
   refine⟨(i:Int)+1,rfl,⟨i+1,rfl,eV,⟨ov,E',e+1,vT,Ab,nb,cb,bl,?_,I3,Es,?_,Lt,?_,?_,Iy,by omega⟩,JM⟩,by simp only;omega⟩
   ·rw [vq]
    simpa [List.count_append]using EU
   ·rw [vq];exact Mk
   ·rw [vq];exact hO
   ·rw [vq];exact gJ
  |true=>
   refine Split.no rfl ?_;have Lq:=hFr rfl
   replace Lq:vN Ba ko.heap.size (pF ov (lf m.sz ch)) (mI G x bl ch):=Lq
   have cV:=(nS.1 hr.symm).2;have vy:=eo (m:=ids G.D) c1 (fun z hz=>by
    have h1:=(eU.1 ((c3 z).1 hz)).1;rw [Mk]at h1;rcases List.mem_append.1 h1 with h1|h1
    ·rcases List.mem_append.1 h1 with h1|h1
     ·exact(((C.iM.wd s hs).2.1 z h1).mem W).1
     ·have:z=s:=by simpa using h1
      subst this;exact hs
    ·exact hM z (List.mem_of_mem_take (sy z h1)))
   rw [jF]at vy;generalize iO:mI G x bl ch=js at*;generalize U8:pF ov (lf m.sz ch)=kn at*;have Kv:G.score s<=5000:=by
    have h1:=(C.iM.wd s hs).2.2;have h2:=eo (m:=ids G.D) (C.iM.wd s hs).1 (fun b hb=>(((C.iM.wd s hs).2.1 b hb).mem W).1);rw [jF]at h2;omega
   have VD:(nV k G s l i).bl.count true<=5000:=by
    have h1:=List.count_le_length (a:=true) (l:=(nV k G s l i).bl);rw [Gc k G s l i (by omega)]at h1;omega
   generalize CT:G.score s+1+(nV k G s l i).bl.count true=sc at*;have ew:u64.wrap ((sc:Int)+(1:Int))=((sc+1:Nat):Int):=by
    rw [show(sc:Int)+1=((sc+1:Nat):Int)by omega];exact jC (by omega)
   refine⟨_,xi JM H8,_,EU.f32,EU.wr (by omega),?_⟩;intro ur p5;have Wj:kY ur y.heap.size q sm bb ⟨s,sc+1,cu G s l,(nV k G s l i).bl++ [true]⟩ ov A n cp E' (e+1) vT:=by
    show kY (tF.setCell (((⟨q,0,none⟩:Addr).add 0).add 32) (.int .u64 (u64.wrap ((sc:Int)+(1:Int))))) _ _ _ _ _ _ _ _ _ _ _ _
    rw [ew];exact(EU.SN (sc+1)).1
   have Ii:Kept (· =q) tF ur:=kY.M8 (h:=EU) 32 _;have Al:Kept Nil ur p5:=(Kept.refl _ _).drew;clear_value p5 ur;have zc:=Wj.same Al;have An:Kept (· =q) tF p5:=Ii.trans Al (fun _ _ h=>h.elim);have wT:=JM.trans An (fun j hj e=>.inl e);have Ao:Kept (fun j=>j=q\/bm E=some j) Ba p5:=D9.trans An (fun j hj e=>.inl e);have E7:∀j,v.heap.size<=j->¬(j=q\/bm E=some j):=fun j hj e=>by
    rcases e with e|e
    ·omega
    ·have:=QN j e;omega
   have IV:=Ao.heap Qg (E7 _ (Nat.le_refl _));have P4:=Ao.heap Vv (E7 _ (by omega));have QM:vN p5 ko.heap.size kn js:=Lq.aK Ao (E7 _ (by omega));have KV:∀z,(if z∈js then some (Value.int .i64 (kn z:Int))else none)≠none↔z∈js:=fun z=>by
    by_cases hz:z∈js
    ·rw [if_pos hz];exact⟨fun _=>hz,fun _ e=>by cases e⟩
    ·rw [if_neg hz];exact⟨fun e=>absurd rfl e,fun e=>absurd e hz⟩
   obtain⟨qA,Uq,QF,qo⟩:=zc.note x js.length;have s33:=Ao.size;have Ti:=wT.trans qo (fun j hj e=>.inr (.inl e));have Wt:vN qA ko.heap.size kn js:=QM.aK qo (by omega);have Vu:=qo.heap P4 (by omega);have Qf:=qo.heap IV (by omega);have Ky:cm qA y.heap.size Ab nb cb bl:=Row.aK (Row.aK Es An (fun j hj e=>by have:=EY j hj;omega)) qo (fun j hj e=>by have:=EY j hj;omega);have Qm:=qo.heap (An.heap I3 (fun e=>hS.qs.2.1 e.symm)) (fun e=>hS.qs.2.2 e.symm);obtain⟨Xs,x5,Uo,hit,Md⟩:=Wt.range pD;have Xy:=qo.size;have s38:=Md.size;refine⟨_,xi wT H8,some sm,zc.f35,x.1,⟨x.2.1,Cells.bW IV⟩,some ko.heap.size,by rw [aA P4];rfl,js.length,QM.len pD iN c1 KV,qA,Uq,some ko.heap.size,by rw [aA Vu];rfl,_,Xs,Uo,?_⟩;refine ah.wP (I:=fun _ u=>∃left x5 H6,mJ u ko.heap.size qA.heap.size (fun z=>if z∈js then some (Value.int .i64 (kn z:Int))else none) left x5/\kY u y.heap.size q sm bb ⟨s,sc+1,cu G s l,(nV k G s l i).bl++ [true]⟩ H6 A n cp E' (e+1) vT/\
    (∀z,(left z->z∈js)/\(z∈js->¬left z->H6 z=some (kn z+1))/\((z∉js\/left z)->H6 z=if z=x then some js.length else ov z))/\Kept (fun j=>j=sm\/j=qA.heap.size) Xs u) (μ:=fun _ u=>u.rangeLeft ko.heap.size qA.heap.size) (s:=())
    ⟨_,x5,_,hit,QF.same Md,fun z=>⟨fun hz=>(KV z).1 hz,fun hz hl=>absurd ((KV z).2 hz) hl,fun _=>rfl⟩,Kept.refl _ _⟩ ?_
   rintro s1 u3 ⟨left,aea,H6,KS,Ln,hinv,ku⟩;have su3:=ku.size;have lit:=KS.lt;have XZ:Kept (fun j=>j=q\/j=sm\/j=bb) y u3:=(Ti.trans Md (fun _ _ h=>h.elim)).trans ku (fun j hj e=>by
    rcases e with e|e
    ·exact .inr (.inl e)
    ·omega)
   rcases KS.next 0 with⟨h0',O7,la⟩|⟨z,val,u4,WW,hl,Vq,la,Vx,Va,cI,k4⟩
   ·refine .inl ⟨u3,la,?_⟩
    rw [aY,ah.Da];unfold ah.zJ;have Qn:=ku.heap (Md.heap Qm (fun h=>h)) (by have:=hS.qs;omega);have Cj:=ku.heap (Md.heap Qf (fun h=>h)) (by omega);have OG:cm u3 y.heap.size Ab nb cb bl:=Row.aK (Row.aK Ky Md (fun _ _ h=>h)) ku (fun j hj e=>by have:=EY j hj;omega);refine⟨Ab,nb,cb,by rw [aA Qn];rfl,x.1,⟨x.2.1,Cells.bW Cj⟩,x.2.1,?_⟩;intro Fy;have Mc:Kept Nil u3 Fy:=(Kept.refl _ _).alloc _;have TQ:HS Fy (some ⟨u3.heap.size,0,none⟩) 1 [x]:=lj u3 x;clear_value Fy;have s50:=Mc.size;have Kw:cm Fy y.heap.size Ab nb cb bl:=Row.aK OG Mc (fun _ _ h=>h);obtain⟨A6,c6,Dd,KD,H3,g51,WA⟩:=gu aV Kw (cx:=1) TQ (by omega) (by omega);have RA:Kept (fun j=>bm Ab=some j) Fy Dd:=(Kept.refl _ _).grown g51 fun j hj _=>hj;have I2:=RA.heap (Mc.heap Qn (fun h=>h)) (fun e=>by have:=EY bb e;omega);refine⟨A6,nb+1,c6,Dd,KD,dz I2 (by simp),?_⟩;intro HW;have Ql:HW.heap[bb]? =some (.cells #[.slice A6 (nb+1) c6] aV (0,0)):=by
     show(Dd.setCell ⟨bb,0,none⟩ (.slice A6 (nb+1) c6)).heap[bb]? =_;rw [cR I2 0];rfl
    have D3:Kept (· =bb) Dd HW:=Kept.setCell (S:=(· =bb)) (Kept.refl _ Dd) (p:=⟨bb,0,none⟩) (fun _=>rfl) _;clear_value HW;have tO:Kept (fun j=>bm Ab=some j\/j=bb) u3 HW:=((Mc.mono fun _ _ h=>h.elim).trans RA (fun _ _ h=>.inl h):Kept (fun j=>bm Ab=some j\/j=bb) u3 Dd).trans D3 (fun _ _ h=>.inr h);have Wi:kY HW y.heap.size q sm bb ⟨s,sc+1,cu G s l,(nV k G s l i).bl++ [true]⟩ H6 A n cp E' (e+1) vT:=Ln.DY tO
     (fun e=>e.elim (fun e=>by have:=EY q e;omega) (fun e=>hS.qs.2.1 e)) (fun e=>e.elim (fun e=>by have:=EY sm e;omega) (fun e=>hS.qs.2.2 e))
     (fun j hj e=>e.elim (fun e=>Lt j e hj) (fun e=>by have:=(Row.bW Ln.bl hj).1;omega)) (fun a ha e=>e.elim (fun e=>by have:=EY _ e;have:=(hS.mA a ha).1;omega) (fun e=>(hS.mA a ha).2.2.2 e))
    have qF:cm HW y.heap.size A6 (nb+1) c6 (bl++ [x]):=Row.aK H3 D3 (fun j hj e=>by have:=(Row.bW H3 hj).1;omega);rw [eF (n:=(i:Int)) (by omega) (by omega)];have vq:nV k G s l (i+1)=⟨(nV k G s l i).wd++ [x],(nV k G s l i).bl++ [true]⟩:=by rw [oo,rL,<-IY];rfl
    have UF:H6=wD G.D (nV k G s l i).wd ov (lf m.sz ch) x:=by
     funext z
     unfold wD;rw [U8];by_cases hz:z∈js
     ·rw [if_pos ((c3 z).1 hz)]
      exact(hinv z).2.1 hz (O7 z)
     ·rw [if_neg (fun e=>hz ((c3 z).2 e)),(hinv z).2.2 (.inl hz),c2]
    refine⟨(i:Int)+1,rfl,⟨i+1,rfl,eV,⟨H6,E',e+1,vT,A6,nb+1,c6,bl++ [x],?_,Ql,qF,?_,?_,?_,?_,?_,by omega⟩,?_⟩,by simp only;omega⟩
    ·rw [vq]
     have ec:G.score s+1+((nV k G s l i).bl++ [true]).count true=sc+1:=by rw [List.count_append,<-CT];simp;omega
     show kY HW y.heap.size q sm bb ⟨s,G.score s+1+((nV k G s l i).bl++ [true]).count true,cu G s l,(nV k G s l i).bl++ [true]⟩ H6 A n cp E' (e+1) vT
     rw [ec];exact Wi
    ·rw [vq]
     show(nV k G s l i).wd++ [x]=_;rw [Mk,List.append_assoc]
    ·intro j hj he
     rcases WA j hj with h1|h1
     ·exact Lt j h1 he
     ·obtain⟨_,cur,h2⟩:=Row.bW Ln.bl he
      have:=a7 h2;omega
    ·rw [vq,UF]
     exact hO.step Yo
    ·rw [vq]
     exact List.nodup_append.2 ⟨gJ,by simp,fun a ha b hb e=>by
      have:b=x:=by simpa using hb
      subst this;subst e;exact Yo ha⟩
    ·intro z hz
     rcases List.mem_append.1 hz with hz|hz
     ·exact Iy z hz
     ·have:z=x:=by simpa using hz
      subst this;rw [List.take_add_one,hx];simp
    ·exact XZ.trans tO (fun j hj e=>by
      rcases e with e|e
      ·have:=EY j e;omega
      ·exact .inr (.inr e))
   ·have TJ:=(hinv z).1 hl
    rw [if_pos TJ]at Vq;cases Vq;have hkz:=cV z TJ;refine .inr ⟨_,_,u4,la,z.1,(kn z:Int),Vx,?_⟩;intro Fx;obtain⟨Kn,xr,vw⟩:=fY (w:=u4) (z:=fy.1) (cs:=z.1) (t:=ax) (by rw [z.2.1];rfl);refine⟨⟨z.2.1,z.2.one,fun j hj=>Kn j (by rw [z.2.1];exact hj)⟩,?_⟩;intro Rn LW
    replace xr:Rn.heap[u4.heap.size]? =some (.cells z.1 ax (0,0)):=xr
    replace vw:Kept Nil u4 Rn:=vw
    have Rx:Kept Nil Rn LW:=(Kept.refl _ _).drew;clear_value LW Rn;have VV:=Rx.heap xr (fun h=>h);have Ih:=vw.tt Rx;have Ai:Kept (· =qA.heap.size) u3 LW:=k4.trans Ih (fun _ _ h=>h.elim);have hE3:∀j,bm E'=some j->j≠qA.heap.size:=fun j hj e=>by
     obtain⟨_,cur,h2⟩:=Row.bW QF.bl hj;have:=a7 h2;omega
    have QD:=Ln.DY Ai (by omega) (by omega) (fun j hj e=>hE3 j hj e) (fun a ha e=>by have:=(hS.mA a ha).1;omega);have Th:Kept (fun j=>j=q\/j=sm\/j=bb) y LW:=XZ.trans Ai (fun j hj e=>by omega);have IM:=Va.aK Ih (fun h=>h) (fun h=>h);obtain⟨Bg,OM,QG,yH⟩:=QD.note z (kn z+1);have ekz:i64.wrap ((kn z:Int)+(1:Int))=((kn z+1:Nat):Int):=by rw [eF (n:=(kn z:Int)) (by omega) (by omega)];omega
    have s3:=Ai.size;refine⟨_,xi Th H8,some sm,QD.f35,z.1,⟨z.2.1,Cells.bW VV⟩,Bg,by rw [ekz];exact OM,?_⟩;refine⟨(),rfl,⟨_,WW,_,IM.aK yH (by omega) (by omega),QG,fun y'=>?_,?_⟩,?_⟩
    ·obtain⟨i1,i2,i3⟩:=hinv y'
     refine⟨fun h=>i1 h.1,fun h1 h2=>?_,fun h=>?_⟩
     ·by_cases e:y'=z
      ·subst e;simp only [if_true]
      ·simp only [if_neg e]
       exact i2 h1 (fun h=>h2 ⟨h,e⟩)
     ·have e:y'≠z:=by
       rcases h with h|h
       ·exact fun e=>h (by rw [e];exact TJ)
       ·exact h.2
      simp only [if_neg e];exact i3 (h.imp_right fun h=>h.1)
    ·exact(ku.trans Ai (fun j hj e=>.inr e)).trans yH (fun j hj e=>.inl e)
    ·show Bg.rangeLeft ko.heap.size qA.heap.size<u3.rangeLeft ko.heap.size qA.heap.size
     rw [KS.left_eq,(IM.aK yH (by omega) (by omega)).left_eq];exact cI
 ·rw [aY,ah.lI]
  have:i=n:=by omega
  subst this;have e1:=Gd k G s l;rw [Ps]at e1;rw [e1]at hS hO;have hsq:v.heap[bs]? =some (.cells #[.pointer (some ⟨q,0,none⟩)] dO (0,0)):=kv.heap V.hs (by omega);exact⟨some ⟨q,0,none⟩,by rw [aA hsq];rfl,hK v ov E e ce hS hO kv⟩
end
def AS(N:Nat):Prop:=∀ {w:World} {F:Nat->Prop} {c k:Nat} {G:GS} {m:CM} {B:Nat} {A:Option Addr} {n cx:Nat} {l:List HT} {K:Value->World->Prop},CV w F c k G m->cm w B A n cx l->n<=N->l.Nodup->(∀x∈l,x∈ids G.D)->
 (∀j,bm A=some j->¬m.own c j/\¬F j)->(∀l' w',SO G l'->(∀x,x∈l'↔x∈l)->cm w' B A n cx l'->Kept (fun j=>bm A=some j) w w'->K (.tuple #[]) w')->
 bf prog fp.id #[.slice A n cx,.func (.func cC.id) #[.pointer (some ⟨c,0,none⟩)] #[]] w K
section
variable{y v w w':World}{F:Nat->Prop}{c k:Nat}{G:GS}{m:CM}{s:HT}{l ch:List HT}{bs bc bh q sm nL cL:Nat}{AL:Option Addr}{K:Value->World->Prop}
set_option maxHeartbeats 4000000 in
theorem yc{N:Nat}(xh:AS N)(hN:(rh G.D s l).length<=N)(C:CV y F c k G m)(hD:G.D.length<=5000)(rH:k<=1000)(hs:s∈ids G.D)(hc:cN G.D G.P s ch)(hl:∀x∈l,x∈ids G.D)
 (V:VB y c s bs bc bh q sm (fun _=>none)) (hS:vU y y.heap.size q sm ⟨s,G.score s+1,[],[]⟩ (fun _=>none) none 0 0 none 0 0)
 (hL:HS y AL nL (di (eT G.D l++l))) (hAL:∀a,AL=some a->a.block≠q)
 (kQ:∀j,(m.own c j\/F j\/j=bs\/j=bc\/j=bh)->j≠q/\j≠sm)
 (hK:∀v B bb ov A n cp E e ce,kY v B q sm bb (fK k G s l) ov A n cp E e ce->OV G.D (gI k G s l).wd ov (lf m.sz ch)->(∀a,A=some a->y.heap.size<=a.block)->(y.heap.size<=B/\B<=v.heap.size)->Kept (fun j=>j=q\/j=sm) y v->K (.pointer (some ⟨q,0,none⟩)) v):
 Holds none [] prog 153 (.loop (lB (bB (sR (sL (aZ (sR (body ah.fn)))))))) (ah.q1 K)
  [(3,.pointer (some ⟨bc,0,none⟩)),(4,.pointer (some ⟨bh,0,none⟩)),(6,.pointer none),(8,.pointer (some ⟨bs,0,none⟩)),(46,.slice AL nL cL),(47,.int .i64 (nL:Int)),(48,.int .i64 0)] y:=by
 have W:=C.iM.W;have lbs:=a7 V.hs;have lbc:=a7 V.hc;have lbh:=a7 V.hh;have Sh:=kQ bs (.inr (.inr (.inl rfl)));have Sj:=kQ bc (.inr (.inr (.inr (.inl rfl))));have Si:=kQ bh (.inr (.inr (.inr (.inr rfl))));have ZB:=hL.len;have Wm:∀x∈di (eT G.D l++l),x∈ids G.D:=fun x hx=>by
  rcases List.mem_append.1 (dJ.1 hx)with h|h
  ·exact(jK.1 h).1
  ·exact hl x h
 have hLn:nL<=5000:=by
  have:=eo (iI _).nodup Wm;rw [jF]at this;omega
 generalize hLL:di (eT G.D l++l)=L at*;refine ah.b9 (I:=fun s0 v=>∃i:Nat,s0=(i:Int)/\i<=nL/\(∃A n cp,vU v y.heap.size q sm ⟨s,G.score s+1,(L.take i).filter fun h=>decide (h≠s/\¬fE G.D h s),[]⟩ (fun _=>none) A n cp none 0 0)/\Kept (· =q) y v) (μ:=fun s0 _=>((nL:Int)-s0).toNat) (s:=0) ⟨0,rfl,Nat.zero_le _,⟨none,0,0,hS⟩,Kept.refl _ _⟩ ?_;rintro s0 v ⟨i,rfl,hi,⟨A,n,cp,Hx⟩,kv⟩;have sv:=kv.size;have Pt:=cm.len Hx.mg;have hnA:n<=5000:=by
  have h1:=List.length_filter_le (fun h=>decide (h≠s/\¬fE G.D h s)) (L.take i);have h2:=List.length_take_le i L;have h3:((L.take i).filter fun h=>decide (h≠s/\¬fE G.D h s)).length=n:=Pt;omega
 refine Split.dec (fun lE=>?_) (fun iG=>?_)
 ·have eV:i<nL:=by omega
  obtain⟨x,hx⟩:∃x,L[i]? =some x:=⟨_,List.getElem?_eq_getElem (by omega)⟩;have WM:L.take (i+1)=L.take i++ [x]:=by rw [List.take_add_one,hx];rfl
  have hLv:HS v AL nL L:=hL.aK kv hAL;refine hLv.load (i:=(i:Int)) (by omega) hx ?_;intro pY;obtain⟨ri,ju,jc⟩:=fY (w:=v) (z:=fy.1) (cs:=x.1) (t:=ax) (by rw [x.2.1];rfl);refine⟨⟨x.2.1,x.2.one,fun j hj=>ri j (by rw [x.2.1];exact hj)⟩,?_⟩;intro ko nh
  replace ju:ko.heap[v.heap.size]? =some (.cells x.1 ax (0,0)):=ju
  replace jc:Kept Nil v ko:=jc
  have uN:Kept Nil ko nh:=(Kept.refl _ _).drew;clear_value nh ko;have EM:=uN.heap ju (fun h=>h);have JO:=jc.tt uN;have BT:Kept (· =q) y nh:=kv.trans JO (fun _ _ h=>h.elim);have C15:CV nh F c k G m:=C.aK BT (fun j hj e=>(kQ j (.inl hj)).1 e) (fun j hj e=>(kQ j (.inr (.inl hj))).1 e);have hcy:∀ {u:World},Kept (· =q) y u->u.cell? ⟨bc,0,none⟩=some (.pointer (some ⟨c,0,none⟩)):=fun ku=>by rw [aA (ku.heap V.hc Sj.1)];rfl
  have OB:∀ {u:World},Kept (· =q) y u->u.cell? ⟨bs,0,none⟩=some (.pointer (some ⟨q,0,none⟩)):=fun ku=>by rw [aA (ku.heap V.hs Sh.1)];rfl
  have next:∀ {u:World} {A':Option Addr} {n' vD:Nat},vU u y.heap.size q sm ⟨s,G.score s+1,(L.take (i+1)).filter fun h=>decide (h≠s/\¬fE G.D h s),[]⟩ (fun _=>none) A' n' vD none 0 0->Kept (· =q) y u->
   ∃s1:Int,i64.wrap ((i:Int)+(1:Int))=s1/\(∃i':Nat,s1=(i':Int)/\i'<=nL/\(∃A n cp,vU u y.heap.size q sm ⟨s,G.score s+1,(L.take i').filter fun h=>decide (h≠s/\¬fE G.D h s),[]⟩ (fun _=>none) A n cp none 0 0)/\Kept (· =q) y u)/\((nL:Int)-s1).toNat<((nL:Int)-(i:Int)).toNat:=fun h1 h2=>by
   rw [eF (n:=(i:Int)) (by omega) (by omega)];exact⟨(i:Int)+1,rfl,⟨i+1,rfl,eV,⟨_,_,_,h1⟩,h2⟩,by omega⟩
  refine⟨x.1,⟨x.2.1,Cells.bW EM⟩,s.1,⟨s.2.1,Cells.bW (BT.heap V.hh Si.1)⟩,⟨x.2.ints,s.2.ints⟩,?_⟩;rw [gw];by_cases GX:x=s
  ·refine Split.no (by rw [decide_eq_true GX];rfl) ?_
   obtain⟨s1,e1,e2,e3⟩:=next (u:=nh) (by
    rw [WM,List.filter_append];have: [x].filter (fun h=>decide (h≠s/\¬fE G.D h s))= []:=by rw [List.filter_cons_of_neg (by simp [GX])];rfl
    rw [this,List.append_nil];exact Hx.same JO) BT
   rw [e1];exact⟨s1,rfl,e2,e3⟩
  ·refine Split.yes (by rw [decide_eq_false GX];rfl) ⟨_,hcy BT,_,C15.c1,x.1,⟨x.2.1,Cells.bW EM⟩,s.1,⟨s.2.1,Cells.bW (BT.heap V.hh Si.1)⟩,?_⟩
   obtain⟨mx,X15,_⟩:=C15.X;refine jn X15 hD x s fun Ba r hr xV=>⟨r,rfl,?_⟩;have Gy:Kept (· =q) y Ba:=BT.trans xV (fun _ _ h=>h.elim);have ND:=JO.tt xV;cases r with
   |true=>
    refine Split.no rfl ?_;obtain⟨s1,e1,e2,e3⟩:=next (u:=Ba) (by
     rw [WM,List.filter_append];have: [x].filter (fun h=>decide (h≠s/\¬fE G.D h s))= []:=by rw [List.filter_cons_of_neg (by simp [hr.1 rfl])];rfl
     rw [this,List.append_nil];exact Hx.same ND) Gy
    rw [e1];exact⟨s1,rfl,e2,e3⟩
   |false=>
    refine Split.yes rfl ?_;intro vY;have D8:Kept Nil Ba vY:=(Kept.refl _ _).drew;clear_value vY;have To:=ND.tt D8;have wU:Kept (· =q) y vY:=Gy.trans D8 (fun _ _ h=>h.elim);have EW:=Hx.same To;refine⟨_,OB wU,_,OB wU,A,n,cp,EW.f33,x.1,⟨x.2.1,Cells.bW ((xV.tt D8).heap EM (fun h=>h))⟩,x.2.1,?_⟩;intro km;have pZ:Kept Nil vY km:=(Kept.refl _ _).alloc _;have TS:HS km (some ⟨vY.heap.size,0,none⟩) 1 [x]:=lj vY x;clear_value km;have EV:=EW.same pZ;have sn:Kept (· =q) y km:=wU.trans pZ (fun _ _ h=>h.elim);have S6:=sn.size;obtain⟨A',vD,u,OF,ku,EU,k5,hw5⟩:=EV.Ni S6 (by omega) TS;have Tg:Kept (· =q) y u:=sn.trans ku (fun j hj e=>by omega);refine⟨EV.f33,OB sn,OB sn,A',n+1,vD,u,OF,OB Tg,hw5,?_⟩;intro tF
    replace EU:vU tF y.heap.size q sm _ (fun _=>none) A' (n+1) vD none 0 0:=EU
    replace k5:Kept (fun j=>j=q\/y.heap.size<=j) km tF:=k5
    clear_value tF;obtain⟨s1,e1,e2,e3⟩:=next (u:=tF) (by
     rw [WM,List.filter_append];have: [x].filter (fun h=>decide (h≠s/\¬fE G.D h s))= [x]:=by rw [List.filter_cons_of_pos (by simp only [decide_eq_true_eq];exact⟨GX,fun e=>by have:=hr.2 e;cases this⟩)];rfl
     rw [this];exact EU) (sn.trans k5 (fun j hj e=>by
      rcases e with e|e
      ·exact e
      ·omega))
    rw [e1];exact⟨s1,rfl,e2,e3⟩
 ·rw [aY,ah.dw]
  have gK:i=nL:=by omega
  subst gK;rw [List.take_of_length_le (by omega)]at Hx;unfold ah.cU;intro p5;have Al:Kept Nil v p5:=(Kept.refl _ _).drew;clear_value p5;have zc:=Hx.same Al;have wT:Kept (· =q) y p5:=kv.trans Al (fun _ _ h=>h.elim);have C33:CV p5 F c k G m:=C.aK wT (fun j hj e=>(kQ j (.inl hj)).1 e) (fun j hj e=>(kQ j (.inr (.inl hj))).1 e);have WR:(L.filter fun h=>decide (h≠s/\¬fE G.D h s))=rh G.D s l:=by unfold rh;rw [hLL]
  have yR:cm p5 y.heap.size A n cp (rh G.D s l):=by rw [<-WR];exact zc.mg
  have Ls:∀j,bm A=some j->y.heap.size<=j/\j<p5.heap.size:=fun j hj=>by obtain⟨g1,cur,g2⟩:=Row.bW yR hj;exact⟨g1,a7 g2⟩
  refine⟨some ⟨q,0,none⟩,by rw [aA (wT.heap V.hs Sh.1)];rfl,A,n,cp,zc.f33,some ⟨c,0,none⟩,by rw [aA (wT.heap V.hc Sj.1)];rfl,?_⟩;refine xh C33 yR (by have:=cm.len yR;omega) (oO _ _ _) (fun x hx=>Wm x (by rw [<-WR]at hx;exact(List.mem_filter.1 hx).1)) (fun j hj=>⟨fun e=>by have:=C.low j (.inl e);have:=(Ls j hj).1;omega,fun e=>by have:=C.low j (.inr e);have:=(Ls j hj).1;omega⟩) fun l' mL RH jW Er xU=>⟨rfl,?_⟩;have el:l'=cu G s l:=BN RH jW;subst el;have qB:=Hx.qB;have sB:=Hx.sB;have Uu:=Hx.qs;have s33:=wT.size;have Ny:Kept (· =q) y mL:=wT.trans xU (fun j hj e=>by have:=(Ls j e).1;omega);have Ks:=xU.heap zc.top (fun e=>by have:=(Ls q e).1;omega);have OZ:=zc.ov.aK xU (fun e=>by have:=(Ls sm e).1;omega);intro gW qA;have lN:Kept Nil mL gW:=(Kept.refl _ _).alloc _;have Ht:gW.heap[mL.heap.size]? =some (.cells #[.slice none 0 0] aV (0,0)):=aR mL _;have qo:Kept Nil gW qA:=(Kept.refl _ _).alloc _;have KR:qA.heap[gW.heap.size]? =some (.cells #[.nilFunc] dR (0,0)):=aR gW _;refine⟨dz KR (by simp),?_⟩;intro A0;have PB:A0.heap[gW.heap.size]? =some (.cells #[.func (.func bH.id) #[] #[.pointer (some ⟨bs,0,none⟩),.pointer (some ⟨bc,0,none⟩),.pointer (some ⟨bh,0,none⟩)]] dR (0,0)):=by
   show(qA.setCell ⟨gW.heap.size,0,none⟩ _).heap[gW.heap.size]? =_;rw [cR KR 0];rfl
  have CR:Kept (· =gW.heap.size) qA A0:=Kept.setCell (S:=(· =gW.heap.size)) (Kept.refl _ qA) (p:=⟨gW.heap.size,0,none⟩) (fun _=>rfl) _;clear_value A0;have uM:=lN.tt qo;have S5:=lN.size;have Xy:=qo.size;have l35:=a7 Ht;have l36:=a7 KR;have Ak:Kept Nil mL A0:=⟨CR.os.trans uM.os,CR.tape.trans uM.tape,CR.output.trans uM.output,Nat.le_trans uM.size CR.size,fun j hj hn=>by rw [CR.block j (Nat.lt_of_lt_of_le hj uM.size) (by omega),uM.block j hj hn]⟩;have V1:=CR.heap (qo.heap Ht (fun h=>h)) (by omega);have l37:=a7 PB;clear_value qA gW;have BR:Kept (· =q) y A0:=Ny.trans Ak (fun _ _ h=>h.elim);have s34:=Ny.size;have s37:=BR.size;have C37:CV A0 F c k G m:=C.aK BR (fun j hj e=>(kQ j (.inl hj)).1 e) (fun j hj e=>(kQ j (.inr (.inl hj))).1 e);have Em:=Ak.heap Ks (fun h=>h);have IF:=OZ.aK Ak (fun h=>h);have Kx:cm A0 y.heap.size A n cp (cu G s l):=Row.aK Er Ak (fun _ _ h=>h);have Z5:VB A0 c s bs bc bh q sm (fun _=>none):=⟨BR.heap V.hs Sh.1,BR.heap V.hc Sj.1,BR.heap V.hh Si.1,by rw [bt,aA Em];exact(gL ..).2.2.2,IF⟩;have ZF:∀a,A=some a->y.heap.size<=a.block/\a.block<mL.heap.size:=fun a ha=>by
   subst ha;obtain⟨g1,cur,g2⟩:=Row.bW Er (k:=a.block) rfl;exact⟨g1,a7 g2⟩
  have QE:kY A0 A0.heap.size q sm mL.heap.size ⟨s,G.score s+1,cu G s l,[]⟩ (fun _=>none) A n cp none 0 0:=
   ⟨Em,Kx.hs,fun a ha=>by have:=ZF a ha;exact⟨by omega,by omega,by omega,by omega⟩,Row.nil _ _ _ _,IF,by omega,by omega,by omega,⟨Uu,by omega,by omega⟩⟩
  refine⟨some ⟨q,0,none⟩,by rw [aA Z5.hs];rfl,A,n,cp,QE.f33,?_⟩;have Ou:(nV k G s l 0)=⟨G.world s++ [s],[]⟩:=rfl;refine x9 (l:=l) C37 hD rH hs hc (fun x hx=>Wm x (by
   have h1:=(jW x).1 hx;rw [<-WR]at h1;exact(List.mem_filter.1 h1).1)) Z5 PB (fun j hj=>?_) ⟨⟨fun _=>none,none,0,0,none,0,0,[],QE,V1,cm.nil _ _,by rw [Ou,List.append_nil],fun j hj=>by simp [bm]at hj,by rw [Ou];exact C.Z |>.ov hs hc,?_,fun z hz=>by simp at hz,rfl⟩,Kept.refl _ _⟩ hnA fun v' ov E e ce h1 h2 h3=>?_
  ·have h1:j<y.heap.size\/j=gW.heap.size:=by
    rcases hj with h|h|h|h|h|h
    ·exact .inl (C.low j (.inl h))
    ·exact .inl (C.low j (.inr h))
    ·exact .inl (by omega)
    ·exact .inl (by omega)
    ·exact .inl (by omega)
    ·exact .inr h
   rcases h1 with h1|h1
   ·have h2:j≠q/\j≠sm:=by
     rcases hj with h|h|h|h|h|h
     ·exact kQ j (.inl h)
     ·exact kQ j (.inr (.inl h))
     ·exact kQ j (.inr (.inr (.inl h)))
     ·exact kQ j (.inr (.inr (.inr (.inl h))))
     ·exact kQ j (.inr (.inr (.inr (.inr h))))
     ·omega
    exact⟨h2.1,h2.2,by omega⟩
   ·exact⟨by omega,by omega,by omega⟩
  ·rw [Ou]
   obtain⟨g1,g2,_⟩:=C.iM.wd s hs;exact List.nodup_append.2 ⟨g1,by simp,fun a ha b hb e=>by
    have:b=s:=by simpa using hb
    subst this;subst e;exact fE.irrefl W a (g2 a ha)⟩
  ·refine hK v' A0.heap.size mL.heap.size ov A n cp E e ce h1 h2 (fun a ha=>(ZF a ha).1) ⟨s37,h3.size⟩ ?_
   exact(BR.mono fun _ _ h=>.inl h).trans h3 (fun j hj e=>by
    rcases e with e|e|e
    ·exact .inl e
    ·exact .inr e
    ·omega)
end
theorem LG:Q5 prog cB=some ([(0,32),(32,1),(33,1),(34,1)],List.replicate 32 (.int .u8 0)++ [.int .u64 0,.slice none 0 0,.slice none 0 0]):=by kernel_rfl
theorem Ff(h:HT)(z:Int):prog.built cB [(0,.agg h.1),(1,.int .u64 z)]=some (h.1++ #[.int .u64 z,.slice none 0 0,.slice none 0 0]):=by
 have hs:=h.2.1;rw [pU LG,jA (off:=0) (size:=32) rfl (by simpa [Value.cells]using hs) (by simp),jA (off:=32) (size:=1) rfl rfl (by
  rw [List.size_toArray,lZ (by simp [Value.cells,hs])];simp)]
 simp only [Instr.fill,Option.some.injEq];apply Array.ext';unfold gg;simp [Value.cells,hs];rw [List.drop_append];simp [hs]
theorem HQ:Q5 prog dh=some ([(0,35),(35,1)],List.replicate 32 (.int .u8 0)++ [.int .u64 0,.slice none 0 0,.slice none 0 0,.map none]):=by kernel_rfl
theorem uY(c:q7)(sm:Option Nat):prog.built dh [(0,.agg (dS c none 0 0 none 0 0)),(1,.map sm)]=some (dS c none 0 0 none 0 0++ #[.map sm]):=by
 have hs:=bX c none 0 0 none 0 0;rw [pU HQ,jA (off:=0) (size:=35) rfl (by simpa [Value.cells]using hs) (by simp),jA (off:=35) (size:=1) rfl rfl (by
  rw [List.size_toArray,lZ (by simp [Value.cells,hs])];simp)]
 simp only [Instr.fill,Option.some.injEq];apply Array.ext';unfold gg;simp [Value.cells,hs]
section
variable{g1 v w w':World}{F:Nat->Prop}{c k:Nat}{G:GS}{m:CM}{s:HT}{l ch:List HT}{bs bc bh q sm n cx:Nat}{A:Option Addr}{K:Value->World->Prop}
theorem Ge{N:Nat}(xh:AS N)(hN:(rh G.D s l).length<=N)(C:CV g1 F c k G m)(hT:p0 g1)(hD:G.D.length<=5000)(rH:k<=1000)(hs:s∈ids G.D)(hc:cN G.D G.P s ch)(hl:∀x∈l,x∈ids G.D)(yX:HS g1 A n l)(hn:n<=5000)
 (V:VB g1 c s bs bc bh q sm (fun _=>none)) (jo:g1.heap[q]? =some (.cells (dS ⟨s,G.score s+1,[],[]⟩ none 0 0 none 0 0++ #[.map (some sm)]) dh (0,0)))
 (kQ:∀j,(m.own c j\/F j\/j=bs\/j=bc\/j=bh)->j≠q/\j≠sm) (Uu:q≠sm) {p:Nat} (hp:∃mx,XV g1 m.FX m.x G.D G.P mx/\mx.g=p)
 (hK:∀v B bb ov A n cp E e ce,kY v B q sm bb (fK k G s l) ov A n cp E e ce->OV G.D (gI k G s l).wd ov (lf m.sz ch)->(∀a,A=some a->g1.heap.size<=a.block)->(g1.heap.size<=B/\B<=v.heap.size)->Kept (fun j=>j=q\/j=sm) g1 v->K (.pointer (some ⟨q,0,none⟩)) v):
 bf prog aJ.id #[.pointer (some ⟨p,0,none⟩),.slice A n cx] g1 fun i1 j1=>∃k1:Option Addr,∃m1 n1:Nat,i1=.slice k1 m1 n1/\
  ∃(o1:Option Addr) (p1 q1:Nat) (r1:World),(Builtin.append_ #[aV,aV] aV #[.slice k1 m1 n1,.slice A n cx]).run prog j1=.ok (.slice o1 p1 q1) r1/\
  bf prog ig.id #[.slice o1 p1 q1] r1 fun t1 u1=>∃v1:Option Addr,∃x1 y1:Nat,t1=.slice v1 x1 y1/\
  Holds none [] prog 153 (.loop (lB (bB (sR (sL (aZ (sR (body ah.fn)))))))) (ah.q1 K)
   [(3,.pointer (some ⟨bc,0,none⟩)),(4,.pointer (some ⟨bh,0,none⟩)),(6,.pointer none),(8,.pointer (some ⟨bs,0,none⟩)),(46,.slice v1 x1 y1),(47,.int .i64 (x1:Int)),(48,.int .i64 0)] u1:=by
 have W:=C.iM.W;obtain⟨mx,X,rfl⟩:=hp;obtain⟨bl,c',mb,M,GG⟩:=X.G;have lq:=a7 jo;have lsm:=V.ov.lt;refine sW GG W (by omega) hT yX (by omega) fun A1 c1 w1 BE k1=>⟨A1,_,c1,rfl,?_⟩;have rF:(eT G.D l).length<=5000:=Nat.le_trans (pv _ _) hD;have s1:=k1.size;obtain⟨A2,c2,w2,la,rX,g2,ZG⟩:=gu aV BE (cx:=cx) (yX.same k1) (by omega) s1;have k2:Kept (fun j=>g1.heap.size<=j) w1 w2:=(Kept.refl _ _).grown g2 fun j hj _=>(Row.bW BE hj).1;have oA:Kept Nil g1 w2:=k1.trans k2 (fun j hj e=>by omega);refine⟨A2,_,c2,w2,la,?_⟩;refine fV rX.hs (by omega) fun A3 c3 w3 rf k3=>⟨A3,_,c3,rfl,?_⟩;have jS:=oA.tt k3;have s02:=oA.size;have XB:=jS.size;have V3:=V.same jS;refine yc (l:=l) xh hN (C.same jS) hD rH hs hc hl V3 ⟨jS.heap jo (fun h=>h),cm.nil _ _,Row.nil _ _ _ _,V3.ov,by omega,by omega,Uu,fun j hj=>by simp [bm]at hj⟩ rf.hs (fun a ha=>?_) kQ fun v B bb ov A n cp E e ce h1 h2 h3 h4 h5=>?_
 ·subst ha
  have:=(Row.bW rf (k:=a.block) rfl).1;omega
 ·exact hK v B bb ov A n cp E e ce h1 h2 (fun a ha=>Nat.le_trans XB (h3 a ha)) ⟨Nat.le_trans XB h4.1,h4.2⟩ ((jS.mono fun _ _ h=>h.elim).tt h5)
end
section
variable{w w':World}{F:Nat->Prop}{c k:Nat}{G:GS}{m:CM}{s:HT}{l ch:List HT}{n cx:Nat}{A:Option Addr}{K:Value->World->Prop}
set_option maxHeartbeats 4000000 in
theorem sJ{N:Nat}(xh:AS N)(hN:(rh G.D s l).length<=N)(C:CV w F c k G m)(hT:p0 w)(hD:G.D.length<=5000)(rH:k<=1000)(hs:s∈ids G.D)(hc:cN G.D G.P s ch)(hl:∀x∈l,x∈ids G.D)(yX:HS w A n l)(hn:n<=5000)
 (hK:∀v q B sm bb ov A n cp E e ce,kY v B q sm bb (fK k G s l) ov A n cp E e ce->OV G.D (gI k G s l).wd ov (lf m.sz ch)->w.heap.size<=q->w.heap.size<=sm->(∀a,A=some a->w.heap.size<=a.block)->(w.heap.size<=B/\B<=v.heap.size)->Kept Nil w v->K (.pointer (some ⟨q,0,none⟩)) v):
 bf prog ah.id #[.pointer (some ⟨c,0,none⟩),.agg s.1,.slice A n cx] w K:=by
 refine ah.of ?_;unfold ah.W;intro w1 w2;have k1:Kept Nil w w1:=(Kept.refl _ _).alloc _;have Zq:w1.heap[w.heap.size]? =some (.cells #[.pointer (some ⟨c,0,none⟩)] cg (0,0)):=aR w _;have k2:Kept Nil w1 w2:=(Kept.refl _ _).alloc _;have yP:w2.heap[w1.heap.size]? =some (.cells s.1 ax (0,0)):=aR w1 _;clear_value w2;have y7:=k2.heap Zq (fun h=>h);have oA:=k1.tt k2;have s1:=k1.size;have l1:=a7 Zq;have l2:=a7 yP;clear_value w1;have C2:=C.same oA;obtain⟨XT,X2,_⟩:=C2.X;refine⟨some ⟨c,0,none⟩,by rw [aA y7];rfl,_,C2.c1,dp.of (Split.no rfl (Is.mk rfl ⟨_,X2.c0,⟨_,rfl,?_⟩⟩))⟩;intro w3;have k3:Kept Nil w2 w3:=(Kept.refl _ _).drew;clear_value w3;have jS:=oA.tt k3;have R5:=k3.heap y7 (fun h=>h);have G3:=k3.heap yP (fun h=>h);have C3:=C.same jS;obtain⟨A1,n1,c1,B1,m1,d1,s1',sa⟩:=C3.seen s hs;have Kv:G.score s<=5000:=by
  have h1:=(C.iM.wd s hs).2.2;have h2:=eo (m:=ids G.D) (C.iM.wd s hs).1 (fun b hb=>(((C.iM.wd s hs).2.1 b hb).mem C.iM.W).1);rw [jF]at h2;omega
 have ew:u64.wrap (((G.iY s).score:Int)+(1:Int))=((G.score s+1:Nat):Int):=by
  show u64.wrap ((G.score s:Int)+(1:Int))=_
  rw [show(G.score s:Int)+1=((G.score s+1:Nat):Int)by omega];exact jC (by omega)
 have mF:∀ {u:World},Kept Nil w3 u->u.cell? ⟨w.heap.size,0,none⟩=some (.pointer (some ⟨c,0,none⟩)):=fun ku=>by rw [aA (ku.heap R5 (fun h=>h))];rfl
 have vr:∀ {u:World},Kept Nil w3 u->∃cs:Array Value,(.agg s.1:Value)=.agg cs/\cs.size=32/\Cells u ⟨w1.heap.size,0,none⟩ cs:=fun ku=>⟨s.1,rfl,s.2.1,Cells.bW (ku.heap G3 (fun h=>h))⟩;have nK:∀ {u:World},Kept Nil w3 u->u.cell? (((⟨m.q s,0,none⟩:Addr).add 0).add 32)=some (.int .u64 ((G.iY s).score:Int)):=fun ku=>(sa.aK ku (fun _ _ h=>h)).Q3;have l3:=a7 G3;have s3:=k3.size;refine⟨s.1,⟨s.2.1,Cells.bW G3⟩,some ⟨c,0,none⟩,mF (Kept.refl _ _),_,C3.c2,s.1,⟨s.2.1,Cells.bW G3⟩,_,C3.oH hs,_,nK (Kept.refl _ _),?_⟩;rw [ew];rw [Ff s];refine Is.mk rfl ?_;have WS:(s.1++ #[.int .u64 ((G.score s+1:Nat):Int),.slice none 0 0,.slice none 0 0]:Array Value)=dS ⟨s,G.score s+1,[],[]⟩ none 0 0 none 0 0:=rfl;rw [WS];have go:∀ {u:World} {q sm bs:Nat},Kept Nil w3 u->w3.heap.size<=q->w3.heap.size<=sm->w3.heap.size<=bs->q≠sm->bs≠q->bs≠sm->
  u.heap[q]? =some (.cells (dS ⟨s,G.score s+1,[],[]⟩ none 0 0 none 0 0++ #[.map (some sm)]) dh (0,0))->dY u sm (fun _=>none)->u.heap[bs]? =some (.cells #[.pointer (some ⟨q,0,none⟩)] dO (0,0))->_:=
  fun {u q sm bs} ku hq B7 R6 h1 h2 h3 jo KM lj=>Ge (g1:=u) (bs:=bs) (bc:=w.heap.size) (bh:=w1.heap.size) (q:=q) (sm:=sm) (cx:=cx) (K:=K) (p:=XT.g) xh hN (C3.same ku) (hT.same (jS.tt ku)) hD rH hs hc hl (yX.same (jS.tt ku)) hn
   ⟨lj,ku.heap R5 (fun h=>h),ku.heap G3 (fun h=>h),by rw [bt,aA jo];exact(gL ..).2.2.2,KM⟩ jo
   (fun j hj=>by
     rcases hj with h|h|h|h|h
     ·have:=C.low j (.inl h);exact⟨by omega,by omega⟩
     ·have:=C.low j (.inr h);exact⟨by omega,by omega⟩
     ·exact⟨by omega,by omega⟩
     ·exact⟨by omega,by omega⟩
     ·exact⟨by omega,by omega⟩) h1 ⟨XT,X2.same (k3.tt ku),rfl⟩
   (fun v B bb ov A n cp E e ce t1 t2 t3 t4 t5=>hK v q B sm bb ov A n cp E e ce t1 t2 (by omega) (by omega) (fun a ha=>by have:=t3 a ha;have:=(jS.tt ku).size;omega) ⟨by have:=(jS.tt ku).size;have:=t4.1;omega,t4.2⟩ ((jS.tt ku).trans t5 (fun j hj e=>by omega)))
 have JC:∀ {u0:World} {b q:Nat},u0.heap[b]? =some (.cells #[.pointer none] dO (0,0))->Wr u0 ⟨b,0,none⟩/\∀u1,u1=u0.setCell ⟨b,0,none⟩ (.pointer (some ⟨q,0,none⟩))->u1.heap[b]? =some (.cells #[.pointer (some ⟨q,0,none⟩)] dO (0,0))/\Kept (· =b) u0 u1:=fun {u0 b q} hb=>⟨dz hb (by simp),fun u1 e=>by
  subst e;refine⟨?_,Kept.setCell (S:=(· =b)) (Kept.refl _ u0) (p:=⟨b,0,none⟩) (fun _=>rfl) _⟩;rw [cR hb 0];rfl⟩
 refine⟨?_,?_⟩
 ·intro w4
  have k4:Kept Nil w3 w4:=(Kept.refl _ _).alloc _;have UZ:dY w4 w3.heap.size (fun _=>none):=dY.new w3;clear_value w4;have l4:=UZ.lt;refine⟨nK k4,(C3.same k4).oH hs,vr k4,(C3.same k4).c2,mF k4,vr k4,?_⟩;rw [uY];refine Is.mk rfl ⟨?_,?_⟩
  ·intro w5 w6
   have k5:Kept Nil w4 w5:=(Kept.refl _ _).alloc _;have YK:w5.heap[w4.heap.size]? =some (.cells (dS ⟨s,G.score s+1,[],[]⟩ none 0 0 none 0 0++ #[.map (some w3.heap.size)]) dh (0,0)):=aR w4 _;have k6:Kept Nil w5 w6:=(Kept.refl _ _).alloc _;have pN:w6.heap[w5.heap.size]? =some (.cells #[.pointer none] dO (0,0)):=aR w5 _;clear_value w6;have OO:=k6.heap YK (fun h=>h);have l5:=a7 YK;clear_value w5;have FD:=k5.tt k6;have qo:=k4.tt FD;have Xy:=qo.size;obtain⟨t1,t2⟩:=JC (q:=w4.heap.size) pN;refine⟨t1,?_⟩;intro w7;obtain⟨t3,t4⟩:=t2 w7 rfl;clear_value w7;exact go (qo.trans t4 (fun j hj e=>by omega)) (by omega) (by omega) (by omega) (by omega) (by omega) (by omega) (t4.heap OO (by omega)) ((UZ.same FD).aK t4 (by omega)) t3
  ·intro w5
   have k5:Kept Nil w4 w5:=(Kept.refl _ _).alloc _;have vz:w5.heap[w4.heap.size]? =some (.cells #[.pointer none] dO (0,0)):=aR w4 _;clear_value w5;have l5:=a7 vz;have lN:=k4.tt k5;refine⟨nK lN,(C3.same lN).oH hs,vr lN,(C3.same lN).c2,mF lN,vr lN,?_⟩;intro w6;have k6:Kept Nil w5 w6:=(Kept.refl _ _).alloc _;have OO:w6.heap[w5.heap.size]? =some (.cells (dS ⟨s,G.score s+1,[],[]⟩ none 0 0 none 0 0++ #[.map (some w3.heap.size)]) dh (0,0)):=aR w5 _;clear_value w6;have FD:=k5.tt k6;have qo:=k4.tt FD;have S5:=lN.size;obtain⟨t1,t2⟩:=JC (q:=w5.heap.size) (k6.heap vz (fun h=>h));refine⟨t1,?_⟩;intro w7;obtain⟨t3,t4⟩:=t2 w7 rfl;clear_value w7;exact go (qo.trans t4 (fun j hj e=>by omega)) (by omega) (by omega) (by omega) (by omega) (by omega) (by omega) (t4.heap OO (by omega)) ((UZ.same FD).aK t4 (by omega)) t3
 ·intro w4
  have k4:Kept Nil w3 w4:=(Kept.refl _ _).alloc _;have AI:w4.heap[w3.heap.size]? =some (.cells #[.pointer none] dO (0,0)):=aR w3 _;clear_value w4;have l4:=a7 AI;refine⟨nK k4,(C3.same k4).oH hs,vr k4,(C3.same k4).c2,mF k4,vr k4,?_⟩;intro w5;have k5:Kept Nil w4 w5:=(Kept.refl _ _).alloc _;have YY:dY w5 w4.heap.size (fun _=>none):=dY.new w4;clear_value w5;have l5:=YY.lt;have lN:=k4.tt k5;refine⟨nK lN,(C3.same lN).oH hs,vr lN,(C3.same lN).c2,mF lN,vr lN,?_⟩;rw [uY];refine Is.mk rfl ?_;intro w6;have k6:Kept Nil w5 w6:=(Kept.refl _ _).alloc _;have OO:w6.heap[w5.heap.size]? =some (.cells (dS ⟨s,G.score s+1,[],[]⟩ none 0 0 none 0 0++ #[.map (some w4.heap.size)]) dh (0,0)):=aR w5 _;clear_value w6;have qo:=lN.tt k6;have S5:=lN.size;obtain⟨t1,t2⟩:=JC (q:=w5.heap.size) ((k5.tt k6).heap AI (fun h=>h));refine⟨t1,?_⟩;intro w7;obtain⟨t3,t4⟩:=t2 w7 rfl;clear_value w7;exact go (qo.trans t4 (fun j hj e=>by omega)) (by omega) (by omega) (by omega) (by omega) (by omega) (by omega) (t4.heap OO (by omega)) ((YY.same k6).aK t4 (by omega)) t3
end
end Go.Proofs.YtfleamccglihoaaGreatDoor
