import Derived.Test.YtfleamccglihoaaGreatDoorMP
import Derived.Test.YtfleamccglihoaaGreatDoorMG
open Go.IntKind (i64 u64)
set_option linter.unusedVariables false
namespace Go.Proofs.YtfleamccglihoaaGreatDoor
open Go.Proofs.Tryz
open Go Go.bE Go.RowKit
theorem Dy:Bb prog jc iX 1 1:=⟨by kernel_rfl,by kernel_rfl⟩
abbrev vg(l:List Bool):List Value:=l.map .bool
structure wa(w:World)(B q sm:Nat)(c:rl)(ov:HT->Option Nat)(A:Option Addr)(n cp:Nat)(E:Option Addr)(e ce:Nat):Prop where
 top:w.heap[q]? =some (.cells (dS c A n cp E e ce++ #[.map (some sm)]) df (0,0))
 mg:cr w B A n cp c.merge
 bl:Row w B iX 1 E e ce (vg c.iJ)
 ov:dW w sm (Gr ov)
 qB:q<B
 sB:sm<B
 qs:q≠sm
 AE:∀j,bp A=some j->bp E≠some j
section
variable{w w':World}{B q sm:Nat}{c:rl}{ov:HT->Option Nat}{A E:Option Addr}{n cp e ce:Nat}{K:Value->World->Prop}
theorem wa.aK{S:Nat->Prop}(h:wa w B q sm c ov A n cp E e ce)(hk:Kept S w w')(h1:¬S q)(h2:¬S sm)(h3:∀j,B<=j->¬S j):wa w' B q sm c ov A n cp E e ce:=
 ⟨hk.heap h.top h1,Row.aK h.mg hk (fun j hj=>h3 j (Row.bS h.mg hj).1),Row.aK h.bl hk (fun j hj=>h3 j (Row.bS h.bl hj).1),h.ov.aK hk h2,h.qB,h.sB,h.qs,h.AE⟩
theorem wa.same(h:wa w B q sm c ov A n cp E e ce)(hk:Kept Nil w w'):wa w' B q sm c ov A n cp E e ce:=h.aK hk (fun h=>h) (fun h=>h) (fun _ _ h=>h)
theorem wa.f33(h:wa w B q sm c ov A n cp E e ce):w.cell? (((⟨q,0,none⟩:Addr).add 0).add 33)=some (.slice A n cp):=by rw [add_zero,bu,aD h.top];exact(gL ..).2.1
theorem wa.Xp(h:wa w B q sm c ov A n cp E e ce):∀j,bp A=some j\/bp E=some j->B<=j/\j<w.heap.size:=fun j hj=>by
 rcases hj with hj|hj
 ·obtain⟨h1,cur,h2⟩:=Row.bS h.mg hj;exact⟨h1,aZ h2⟩
 ·obtain⟨h1,cur,h2⟩:=Row.bS h.bl hj;exact⟨h1,aZ h2⟩
theorem tu(c:rl)(A:Option Addr)(n cp:Nat)(E:Option Addr)(e ce:Nat)(r:Array Value)(A':Option Addr)(n' vK:Nat):
 (dS c A n cp E e ce++r).setIfInBounds (0+33) (.slice A' n' vK)=dS c A' n' vK E e ce++r:=by
 have h0:c.lZ.1.size=32:=c.lZ.2.1;apply Array.ext';unfold dS;simp only [Array.toList_setIfInBounds,Array.toList_append,List.append_assoc];rw [List.set_append_right _ _ (by simp [h0])];simp [h0]
theorem tq(c:rl)(A:Option Addr)(n cp:Nat)(E:Option Addr)(e ce:Nat)(r:Array Value)(E':Option Addr)(n' vK:Nat):
 (dS c A n cp E e ce++r).setIfInBounds (0+34) (.slice E' n' vK)=dS c A n cp E' n' vK++r:=by
 have h0:c.lZ.1.size=32:=c.lZ.2.1;apply Array.ext';unfold dS;simp only [Array.toList_setIfInBounds,Array.toList_append,List.append_assoc];rw [List.set_append_right _ _ (by simp [h0])];simp [h0]
theorem zz(c:rl)(A:Option Addr)(n cp:Nat)(E:Option Addr)(e ce:Nat)(r:Array Value)(s:Nat):
 (dS c A n cp E e ce++r).setIfInBounds (0+32) (.int .u64 (s:Int))=dS {c with score:=s} A n cp E e ce++r:=by
 have h0:c.lZ.1.size=32:=c.lZ.2.1;apply Array.ext';unfold dS;simp only [Array.toList_setIfInBounds,Array.toList_append,List.append_assoc];rw [List.set_append_right _ _ (by simp [h0])];simp [h0]
theorem wa.Nh(h:wa w B q sm c ov A n cp E e ce)(hB:B<=w.heap.size)(hn:n<=100000){x:HT}{b:Nat}(hb:HS w (some ⟨b,0,none⟩) 1 [x]):
 ∃A' vK u,(Builtin.append_ #[aV,aV] aV #[.slice A n cp,.slice (some ⟨b,0,none⟩) 1 1]).run prog w=.ok (.slice A' (n+1) vK) u/\
  Kept (fun j=>B<=j) w u/\wa (u.setCell (((⟨q,0,none⟩:Addr).add 0).add 33) (.slice A' (n+1) vK)) B q sm {c with merge:=c.merge++ [x]} ov A' (n+1) vK E e ce/\
  Kept (fun j=>j=q\/B<=j) w (u.setCell (((⟨q,0,none⟩:Addr).add 0).add 33) (.slice A' (n+1) vK))/\Wr u (((⟨q,0,none⟩:Addr).add 0).add 33):=by
 obtain⟨A',vK,u,hr,fV,hg,hA⟩:=gw aV h.mg (cx:=1) hb (by omega) hB;have ku:Kept (fun j=>B<=j) w u:=(Kept.refl _ _).grown hg fun j hj _=>(Row.bS h.mg hj).1;have kA:Kept (fun j=>bp A=some j) w u:=(Kept.refl _ _).grown hg fun j hj _=>hj;have qB:=h.qB;have sB:=h.sB;have js:=ku.heap h.top (by omega);have Cp:Row u B iX 1 E e ce (vg c.iJ):=Row.aK h.bl kA (fun j hj e=>h.AE j e hj);have oD:Kept (· =q) u (u.setCell (((⟨q,0,none⟩:Addr).add 0).add 33) (.slice A' (n+1) vK)):=by
  rw [add_zero,bu];exact Kept.setCell (S:=(· =q)) (Kept.refl _ u) (p:=⟨q,0+33,none⟩) (fun _=>rfl) _
 have ko:∀ {X:Option Addr} {j:Nat},(∀k,bp X=some k->B<=k)->bp X=some j->¬j=q:=fun h hj e=>by have:=h _ hj;omega
 refine⟨A',vK,u,hr,ku,⟨?_,?_,?_,?_,qB,sB,h.qs,?_⟩,?_,?_⟩
 ·show(u.setCell (((⟨q,0,none⟩:Addr).add 0).add 33) (.slice A' (n+1) vK)).heap[q]? =_
  rw [add_zero,bu,cX js,tu];rfl
 ·exact Row.aK fV oD (fun j hj=>ko (fun k hk=>(Row.bS fV hk).1) hj)
 ·exact Row.aK Cp oD (fun j hj=>ko (fun k hk=>(Row.bS Cp hk).1) hj)
 ·exact(h.ov.aK ku (by omega)).aK oD (fun e=>h.qs e.symm)
 ·intro j hj he
  rcases hA j hj with h1|h1
  ·exact h.AE j h1 he
  ·have:=(h.Xp j (.inr he)).2;omega
 ·exact(ku.mono fun _ _ h=>.inr h).trans oD (fun _ _ e=>.inl e)
 ·rw [add_zero,bu]
  exact dK js (by rw [Array.size_append,bX];simp)
end
structure la(w:World)(B q sm bb:Nat)(c:rl)(ov:HT->Option Nat)(A:Option Addr)(n cp:Nat)(E:Option Addr)(e ce:Nat):Prop where
 top:w.heap[q]? =some (.cells (dS c A n cp E e ce++ #[.map (some sm)]) df (0,0))
 mg:HS w A n c.merge
 mA:∀a,A=some a->a.block<B/\a.block≠q/\a.block≠sm/\a.block≠bb
 bl:Row w B iX 1 E e ce (vg c.iJ)
 ov:dW w sm (Gr ov)
 qB:q<B
 sB:sm<B
 bB:bb<B
 qs:q≠sm/\q≠bb/\sm≠bb
section
variable{w w':World}{B q sm bb:Nat}{c:rl}{ov:HT->Option Nat}{A E:Option Addr}{n cp e ce:Nat}{K:Value->World->Prop}
theorem la.aK{S:Nat->Prop}(h:la w B q sm bb c ov A n cp E e ce)(hk:Kept S w w')(h1:¬S q)(h2:¬S sm)(h3:∀j,B<=j->j<w.heap.size->¬S j)(h4:∀a,A=some a->¬S a.block):la w' B q sm bb c ov A n cp E e ce:=
 ⟨hk.heap h.top h1,h.mg.aK hk h4,h.mA,Row.aK h.bl hk (fun j hj=>by obtain⟨g1,cur,g2⟩:=Row.bS h.bl hj;exact h3 j g1 (aZ g2)),h.ov.aK hk h2,h.qB,h.sB,h.bB,h.qs⟩
theorem la.same(h:la w B q sm bb c ov A n cp E e ce)(hk:Kept Nil w w'):la w' B q sm bb c ov A n cp E e ce:=h.aK hk (fun h=>h) (fun h=>h) (fun _ _ _ h=>h) (fun _ _ h=>h)
theorem la.f32(h:la w B q sm bb c ov A n cp E e ce):w.cell? (((⟨q,0,none⟩:Addr).add 0).add 32)=some (.int .u64 (c.score:Int)):=by rw [add_zero,bu,aD h.top];exact(gL ..).1
theorem la.f33(h:la w B q sm bb c ov A n cp E e ce):w.cell? (((⟨q,0,none⟩:Addr).add 0).add 33)=some (.slice A n cp):=by rw [add_zero,bu,aD h.top];exact(gL ..).2.1
theorem la.f34(h:la w B q sm bb c ov A n cp E e ce):w.cell? (((⟨q,0,none⟩:Addr).add 0).add 34)=some (.slice E e ce):=by rw [add_zero,bu,aD h.top];exact(gL ..).2.2.1
theorem la.f35(h:la w B q sm bb c ov A n cp E e ce):w.cell? ((⟨q,0,none⟩:Addr).add 35)=some (.map (some sm)):=by rw [bu,aD h.top];exact(gL ..).2.2.2
theorem la.wr(h:la w B q sm bb c ov A n cp E e ce){j:Nat}(hj:j<36):Wr w (((⟨q,0,none⟩:Addr).add 0).add j):=by
 rw [add_zero,bu];exact dK h.top (by rw [Array.size_append,bX];simp;omega)
theorem la.M7{h:la w B q sm bb c ov A n cp E e ce}(j:Nat)(v:Value):Kept (· =q) w (w.setCell (((⟨q,0,none⟩:Addr).add 0).add j) v):=by
 rw [add_zero,bu];exact Kept.setCell (S:=(· =q)) (Kept.refl _ w) (p:=⟨q,0+j,none⟩) (fun _=>rfl) _
theorem la.Ni(h:la w B q sm bb c ov A n cp E e ce)(hB:B<=w.heap.size)(hn:e<=100000){x:Bool}{b:Nat}(hb:w.cell? ⟨b,0,none⟩=some (.bool x)):
 ∃E' v8 u,(Builtin.append_ #[jc,jc] jc #[.slice E e ce,.slice (some ⟨b,0,none⟩) 1 1]).run prog w=.ok (.slice E' (e+1) v8) u/\
  Kept (fun j=>B<=j/\bp E=some j) w u/\Wr u (((⟨q,0,none⟩:Addr).add 0).add 34)/\
  la (u.setCell (((⟨q,0,none⟩:Addr).add 0).add 34) (.slice E' (e+1) v8)) B q sm bb {c with iJ:=c.iJ++ [x]} ov A n cp E' (e+1) v8/\
  Kept (fun j=>j=q\/bp E=some j) w (u.setCell (((⟨q,0,none⟩:Addr).add 0).add 34) (.slice E' (e+1) v8))/\(∀j,bp E'=some j->bp E=some j\/w.heap.size<=j):=by
 obtain⟨E',v8,u,hr,fV,hg,hE⟩:=iu (P:=prog) (t:=jc) (bytes:=1) (ty:=jc) Dy h.bl (a:=⟨b,0,none⟩) (m:=1) (cx:=1) (news:= [.bool x]) rfl (fun j v hj=>by
  cases j with
  |zero=>simp only [List.getElem?_cons_zero,Option.some.injEq]at hj;subst hj;rw [add_zero];exact hb
  |succ j=>simp at hj) (fun v hv=>by
  have:v=.bool x:=by simpa using hv
  subst this;rfl) (by omega) (by unfold maxLen;omega) hB
 have qB:=h.qB;have sB:=h.sB;have kE:Kept (fun j=>B<=j/\bp E=some j) w u:=(Kept.refl _ _).grown hg fun j hj _=>⟨(Row.bS h.bl hj).1,hj⟩;have js:=kE.heap h.top (by omega);have oD:Kept (· =q) u (u.setCell (((⟨q,0,none⟩:Addr).add 0).add 34) (.slice E' (e+1) v8)):=by
  rw [add_zero,bu];exact Kept.setCell (S:=(· =q)) (Kept.refl _ u) (p:=⟨q,0+34,none⟩) (fun _=>rfl) _
 refine⟨E',v8,u,hr,kE,?_,⟨?_,?_,h.mA,?_,?_,qB,sB,h.bB,h.qs⟩,?_,hE⟩
 ·rw [add_zero,bu]
  exact dK js (by rw [Array.size_append,bX];simp)
 ·show(u.setCell (((⟨q,0,none⟩:Addr).add 0).add 34) (.slice E' (e+1) v8)).heap[q]? =_
  rw [add_zero,bu,cX js,tq];rfl
 ·exact(h.mg.aK kE (fun a ha=>by have:=(h.mA a ha).1;omega)).aK oD (fun a ha=>(h.mA a ha).2.1)
 ·have e1:vg (c.iJ++ [x])=vg c.iJ++ [.bool x]:=by simp [vg]
  show Row _ B iX 1 E' (e+1) v8 (vg (c.iJ++ [x]))
  rw [e1];exact Row.aK fV oD (fun j hj=>by have:=(Row.bS fV hj).1;omega)
 ·exact(h.ov.aK kE (by omega)).aK oD (fun e=>h.qs.1 e.symm)
 ·exact(kE.mono fun _ _ h=>.inr h.2).trans oD (fun _ _ e=>.inl e)
theorem la.SY(h:la w B q sm bb c ov A n cp E e ce)(s:Nat):
 la (w.setCell (((⟨q,0,none⟩:Addr).add 0).add 32) (.int .u64 (s:Int))) B q sm bb {c with score:=s} ov A n cp E e ce/\Kept (· =q) w (w.setCell (((⟨q,0,none⟩:Addr).add 0).add 32) (.int .u64 (s:Int))):=by
 have qB:=h.qB;have oD:=la.M7 (h:=h) 32 (.int .u64 (s:Int));refine⟨⟨?_,h.mg.aK oD (fun a ha=>(h.mA a ha).2.1),h.mA,Row.aK h.bl oD (fun j hj=>by have:=(Row.bS h.bl hj).1;omega),h.ov.aK oD (fun e=>h.qs.1 e.symm),h.qB,h.sB,h.bB,h.qs⟩,oD⟩;rw [add_zero,bu,cX h.top,zz]
theorem la.note(h:la w B q sm bb c ov A n cp E e ce)(b:HT)(n0:Nat):
 ∃u,(Instr.mapUpdate b0 (.map (some sm)) (.agg b.1) (.int .i64 (n0:Int))).run prog w=.ok () u/\la u B q sm bb c (fun y=>if y=b then some n0 else ov y) A n cp E e ce/\Kept (· =sm) w u:=by
 have sB:=h.sB;obtain⟨u,hr,hm,hk⟩:=h.ov.put pI b (.int .i64 (n0:Int));refine⟨u,hr,⟨hk.heap h.top h.qs.1,h.mg.aK hk (fun a ha=>(h.mA a ha).2.2.1),h.mA,Row.aK h.bl hk (fun j hj=>by have:=(Row.bS h.bl hj).1;omega),?_,h.qB,h.sB,h.bB,h.qs⟩,hk⟩;have e1:Gr (fun y=>if y=b then some n0 else ov y)=fun x=>if x=b then some (.int .i64 (n0:Int))else Gr ov x:=by
  funext y
  unfold Gr;by_cases e:y=b
  ·simp only [if_pos e,Option.map_some]
  ·simp only [if_neg e]
 rw [e1];exact hm
end
noncomputable def nY(k:Nat)(G:GS)(s:HT)(l:List HT)(i:Nat):VS:=((cg G s l).take i).foldl (rU k G.D) ⟨G.world s++ [s],[]⟩
structure V2(y v:World)(k:Nat)(G:GS)(s:HT)(l:List HT)(base:HT->Nat)(q sm bb:Nat)(A:Option Addr)(n cp i:Nat):Prop where
 ex:∃(ov:HT->Option Nat) (E:Option Addr) (e ce:Nat) (Ab:Option Addr) (nb cb:Nat) (bl:List HT),
  la v y.heap.size q sm bb ⟨s,G.score s+1+(nY k G s l i).bl.count true,cg G s l,(nY k G s l i).bl⟩ ov A n cp E e ce/\
  v.heap[bb]? =some (.cells #[.slice Ab nb cb] aV (0,0))/\cr v y.heap.size Ab nb cb bl/\(nY k G s l i).wd=G.world s++ [s]++bl/\(∀j,bp Ab=some j->bp E≠some j)/\
  OV G.D (nY k G s l i).wd ov base/\(nY k G s l i).wd.Nodup/\(∀z∈bl,z∈(cg G s l).take i)/\e=i
 kp:Kept (fun j=>j=q\/j=sm\/j=bb) y v
theorem la.D0{w w':World}{B q sm bb:Nat}{c:rl}{ov:HT->Option Nat}{A E:Option Addr}{n cp e ce:Nat}{S:Nat->Prop}(h:la w B q sm bb c ov A n cp E e ce)(hk:Kept S w w')(h1:¬S q)(h2:¬S sm)(h3:∀j,bp E=some j->¬S j)(h4:∀a,A=some a->¬S a.block):la w' B q sm bb c ov A n cp E e ce:=
 ⟨hk.heap h.top h1,h.mg.aK hk h4,h.mA,Row.aK h.bl hk h3,h.ov.aK hk h2,h.qB,h.sB,h.bB,h.qs⟩
theorem Di{k:Nat}{G:GS}{s:HT}{l:List HT}{i:Nat}{x:HT}(hx:(cg G s l)[i]? =some x):nY k G s l (i+1)=rU k G.D (nY k G s l i) x:=by
 unfold nY;have e:(cg G s l).take (i+1)=(cg G s l).take i++ [x]:=by rw [List.take_add_one,hx];rfl
 rw [e,List.foldl_append];rfl
theorem Gb(k:Nat)(G:GS)(s:HT)(l:List HT)(i:Nat)(hi:i<=(cg G s l).length):(nY k G s l i).bl.length=i:=by
 obtain⟨b,h1,h2⟩:=HV k G.D (G.world s++ [s]) ((cg G s l).take i);unfold nY;rw [h2];show b.length=i
 rw [h1,List.length_take];omega
theorem Gc(k:Nat)(G:GS)(s:HT)(l:List HT):nY k G s l (cg G s l).length=gJ k G s l:=by
 unfold nY gJ;rw [List.take_of_length_le (Nat.le_refl _)]
section
variable{y v w w':World}{F:Nat->Prop}{c k:Nat}{G:GS}{m:CM}{s:HT}{l ch:List HT}{bs bc bh q sm bb kb n cp:Nat}{A:Option Addr}{K:Value->World->Prop}
set_option maxHeartbeats 4000000 in
theorem yn(C:CV y F c k G m)(hD:G.D.length<=5000)(rP:k<=1000)(hs:s∈ids G.D)(hc:cM G.D G.P s ch)(hM:∀x∈cg G s l,x∈ids G.D)
 (V:VB y c s bs bc bh q sm (fun _=>none)) (IK:y.heap[kb]? =some (.cells #[.func (.func bI.id) #[] #[.pointer (some ⟨bs,0,none⟩),.pointer (some ⟨bc,0,none⟩),.pointer (some ⟨bh,0,none⟩)]] dR (0,0)))
 (ko:∀j,(m.own c j\/F j\/j=bs\/j=bc\/j=bh\/j=kb)->j≠q/\j≠sm/\j≠bb)
 (h0:V2 y y k G s l (lj m.sz ch) q sm bb A n cp 0) (hn:n<=5000)
 (hK:∀v ov E e ce,la v y.heap.size q sm bb (fM k G s l) ov A n cp E e ce->OV G.D (gJ k G s l).wd ov (lj m.sz ch)->Kept (fun j=>j=q\/j=sm\/j=bb) y v->K (.pointer (some ⟨q,0,none⟩)) v):
 Holds none [] prog 153 (.loop (lB (bB (sR (sL (dY (body ah.fn))))))) (ah.q2 K)
  [(3,.pointer (some ⟨bc,0,none⟩)),(6,.pointer none),(8,.pointer (some ⟨bs,0,none⟩)),(11,.pointer (some ⟨bb,0,none⟩)),(12,.func (.func af.id) #[] #[.pointer (some ⟨bb,0,none⟩),.pointer (some ⟨bc,0,none⟩),.pointer (some ⟨bh,0,none⟩)]),(13,.pointer (some ⟨kb,0,none⟩)),(92,.slice A n cp),(93,.int .i64 (n:Int)),(94,.int .i64 0)] y:=by
 have W:=C.iP.W;have hmn:(cg G s l).Nodup:=(lW G s l).nodup;have Pq:(cg G s l).length=n:=by obtain⟨_,_,_,_,_,_,_,_,h,_⟩:=h0.ex;exact h.mg.len
 have lbs:=aZ V.hs;have lbc:=aZ V.hc;have lbh:=aZ V.hh;have lkb:=aZ IK;have Sl:=ko bs (.inr (.inr (.inl rfl)));have Sn:=ko bc (.inr (.inr (.inr (.inl rfl))));have Sm:=ko bh (.inr (.inr (.inr (.inr (.inl rfl)))));have fkb:=ko kb (.inr (.inr (.inr (.inr (.inr rfl)))));refine ah.iN (I:=fun s0 v=>∃i:Nat,s0=(i:Int)/\i<=n/\V2 y v k G s l (lj m.sz ch) q sm bb A n cp i) (μ:=fun s0 _=>((n:Int)-s0).toNat) (s:=0) ⟨0,rfl,Nat.zero_le _,h0⟩ ?_;rintro s0 v ⟨i,rfl,hi,hV⟩;obtain⟨ov,E,e,ce,Ab,nb,cb,bl,hS,Cq,fV,Mk,ZO,hO,gP,sK,Zh⟩:=hV.ex;have kv:=hV.kp;have sv:=kv.size;refine Split.dec (fun lH=>?_) (fun iK=>?_)
 ·have fc:i<n:=by omega
  obtain⟨x,hx⟩:∃x,(cg G s l)[i]? =some x:=⟨_,List.getElem?_eq_getElem (by omega)⟩;have Mj:=hM x (List.mem_of_getElem? hx);have Yu:x∉(nY k G s l i).wd:=by
   rw [Mk];intro hm;obtain⟨_,g1,g2⟩:=iW.1 (List.mem_of_getElem? hx);rcases List.mem_append.1 hm with hm|hm
   ·rcases List.mem_append.1 hm with hm|hm
    ·exact g2 ((C.iP.wd s hs).2.1 x hm)
    ·exact g1 (by simpa using hm)
   ·have h1:=sK x hm
    obtain⟨j,hj⟩:=List.mem_iff_getElem?.1 h1;rw [List.getElem?_take]at hj;split at hj
    ·rename_i FQ
     have h2:=(lgeS hj);have h3:=(lgeS hx);have:=(List.getElem_inj hmn).1 (h2.2.trans h3.2.symm);omega
    ·cases hj
  have ow:=Di (k:=k) hx;refine hS.mg.load (i:=(i:Int)) (by omega) hx ?_;intro p6;obtain⟨ry,jw,jg⟩:=gg (w:=v) (z:=fG.1) (cs:=x.1) (t:=ax) (by rw [x.2.1];rfl);refine⟨⟨x.2.1,x.2.one,fun j hj=>ry j (by rw [x.2.1];exact hj)⟩,?_⟩;intro kz
  replace jw:kz.heap[v.heap.size]? =some (.cells x.1 ax (0,0)):=jw
  replace jg:Kept Nil v kz:=jg
  clear_value kz;intro np lu;have uT:Kept Nil kz np:=(Kept.refl _ _).alloc _;have Pk:dW np kz.heap.size (fun _=>none):=dW.new kz;have tW:Kept Nil np lu:=(Kept.refl _ _).alloc _;have La:lu.heap[np.heap.size]? =some (.cells #[.map none] b0 (0,0)):=aR np _;refine⟨dK La (by simp),?_⟩;intro uz;have P5:uz.heap[np.heap.size]? =some (.cells #[.map (some kz.heap.size)] b0 (0,0)):=by
   show(lu.setCell ⟨np.heap.size,0,none⟩ (.map (some kz.heap.size))).heap[np.heap.size]? =_;rw [cX La 0];rfl
  have Ea:Kept (· =np.heap.size) lu uz:=Kept.setCell (S:=(· =np.heap.size)) (Kept.refl _ lu) (p:=⟨np.heap.size,0,none⟩) (fun _=>rfl) _;clear_value uz;have s14:=jg.size;have s15:=uT.size;have l14:=aZ jw;have l15:=Pk.lt;have l16:=aZ La;have Ed:Kept Nil kz uz:=⟨Ea.os.trans (uT.tt tW).os,Ea.tape.trans (uT.tt tW).tape,Ea.output.trans (uT.tt tW).output,Nat.le_trans (uT.tt tW).size Ea.size,fun j hj hn=>by rw [Ea.block j (Nat.lt_of_lt_of_le hj (uT.tt tW).size) (by omega),(uT.tt tW).block j hj hn]⟩;have U6:dW uz kz.heap.size (fun _=>none):=(Pk.same tW).aK Ea (by omega);have IV:=Ed.heap jw (fun h=>h);clear_value lu np;have GA:Kept Nil v uz:=jg.tt Ed;have BZ:Kept (fun j=>j=q\/j=sm\/j=bb) y uz:=kv.trans GA (fun _ _ h=>h.elim);have Lr:=hS.same GA;have C17:CV uz F c k G m:=C.aK BZ (fun j hj e=>by have:=ko j (.inl hj);omega) (fun j hj e=>by have:=ko j (.inr (.inl hj));omega);have V17:VB uz c s bs bc bh q sm ov:=⟨BZ.heap V.hs (by omega),BZ.heap V.hc (by omega),BZ.heap V.hh (by omega),Lr.f35,Lr.ov⟩;have Py:=BZ.heap IK (by omega);have Et:cr uz y.heap.size Ab nb cb bl:=Row.aK fV GA (fun _ _ h=>h);have I3:=GA.heap Cq (fun h=>h);refine⟨x.1,⟨x.2.1,Cells.bS IV⟩,?_⟩;have qB:=hS.qB;have sB:=hS.sB;have bB:=hS.bB;have EP:∀b∈(nY k G s l i).wd,pK ov (lj m.sz ch) b=(bY G.D (nY k G s l i).wd b).length:=hO.kn;have sN:=gP;rw [Mk]at sN;obtain⟨c1,c2,c3⟩:=HL C.iP (h:=x) hs hc sN;rw [<-Mk]at c2 c3;have Qj:=fV.len;have KN:nb<=5000:=by
   have h1:=eh (m:=cg G s l) (List.nodup_append.1 sN).2.1 (fun z hz=>List.mem_of_mem_take (sK z hz));omega
  have Lv:∀a,Ab=some a->a.block<kz.heap.size:=fun a ha=>by
   subst ha;obtain⟨_,cur,h1⟩:=Row.bS fV (k:=a.block) rfl;have:=aZ h1;omega
  refine xC (p:=⟨bs,bc,bh,q,sm,kb,np.heap.size,kz.heap.size,0,0⟩) ⟨C17,V17,Py,P5,(fun e=>by have:kz.heap.size<y.heap.size:=C.low _ (.inl e);omega),(fun e=>by have:kz.heap.size<y.heap.size:=C.low _ (.inr e);omega),(show bs≠kz.heap.size/\bc≠kz.heap.size/\bh≠kz.heap.size/\q≠kz.heap.size/\sm≠kz.heap.size/\kb≠kz.heap.size/\np.heap.size≠kz.heap.size from⟨by omega,by omega,by omega,by omega,by omega,by omega,by omega⟩)⟩ hD rP hs hc (h:=x) I3 (by show bb≠kz.heap.size;omega) Et.hs (fun a ha=>by have:=Lv a ha;show a.block≠kz.heap.size;omega) (by omega) (by
   show dW uz kz.heap.size _
   have e0:(fun y=>if y∈([]:List HT)then some (Value.int .i64 (pK ov (lj m.sz ch) y:Int))else none)=fun _=>none:=by funext y;simp
   rw [e0];exact U6) c1 fun Bi r hr hFr x5=>⟨r,rfl,?_⟩
  replace x5:Kept (· =kz.heap.size) uz Bi:=x5
  have IX:r=tB k G.D (nY k G s l i).wd x:=by rw [hr];exact Fh EP c2 c3
  have QN:∀j,bp E=some j->y.heap.size<=j/\j<v.heap.size:=fun j hj=>by obtain⟨g1,cur,g2⟩:=Row.bS hS.bl hj;exact⟨g1,aZ g2⟩
  have EY:∀j,bp Ab=some j->y.heap.size<=j/\j<v.heap.size:=fun j hj=>by obtain⟨g1,cur,g2⟩:=Row.bS fV hj;exact⟨g1,aZ g2⟩
  have s17:=Ed.size;have Wp:=Lr.D0 x5 (by omega) (by omega) (fun j hj=>by have:=QN j hj;omega) (fun a ha=>by have:=(hS.mA a ha).1;omega);have KG:cr Bi y.heap.size Ab nb cb bl:=Row.aK Et x5 (fun j hj=>by have:=EY j hj;omega);have Gx:Kept (fun j=>j=q\/j=sm\/j=bb) y Bi:=BZ.trans x5 (fun j hj e=>by omega);have Qp:=x5.heap I3 (by omega);have Qg:=x5.heap IV (by omega);have Vz:=x5.heap P5 (by omega);intro wh;have D8:Kept Nil Bi wh:=(Kept.refl _ _).drew;clear_value wh;have EW:=Wp.same D8;have xg:=Gx.trans D8 (fun _ _ h=>h.elim);have xr:∀ {u:World} {S:Nat->Prop},Kept S y u->¬S bs->u.cell? ⟨bs,0,none⟩=some (.pointer (some ⟨q,0,none⟩)):=fun ku hb=>by rw [aD (ku.heap V.hs hb)];rfl
  have H5:¬(bs=q\/bs=sm\/bs=bb):=by omega
  have s21:=xg.size;refine⟨_,xr xg H5,_,xr xg H5,E,e,ce,EW.f34,?_⟩;intro kr;have rv:Kept Nil wh kr:=(Kept.refl _ _).alloc _;have Hs:kr.heap[wh.heap.size]? =some (.cells #[.bool r] iX (0,0)):=aR wh _;clear_value kr;have EV:=EW.same rv;have sF:=xg.trans rv (fun _ _ h=>h.elim);have Ta:=sF.size;obtain⟨E',v8,u,OD,kE,TW,EU,k5,hE5⟩:=EV.Ni (by omega) (by omega) (x:=r) (b:=wh.heap.size) (by rw [aD Hs];rfl);have Tk:Kept (fun j=>j=q\/j=sm\/j=bb) y u:=sF.trans kE (fun j hj e=>by have:=QN j e.2;omega);refine⟨EV.f34,xr sF H5,xr sF H5,E',e+1,v8,u,OD,xr Tk H5,TW,?_⟩;intro tN
  replace EU:la tN y.heap.size q sm bb _ ov A n cp E' (e+1) v8:=EU
  replace k5:Kept (fun j=>j=q\/bp E=some j) kr tN:=k5
  clear_value tN;have JO:Kept (fun j=>j=q\/j=sm\/j=bb) y tN:=sF.trans k5 (fun j hj e=>by
   rcases e with e|e
   ·exact .inl e
   ·have:=QN j e;omega)
  have D9:Kept (fun j=>j=q\/bp E=some j) Bi tN:=((D8.tt rv).mono fun _ _ h=>h.elim).tt k5;have XG:=(D8.tt rv).size;have s20:=x5.size;have Es:cr tN y.heap.size Ab nb cb bl:=Row.aK KG D9 (fun j hj e=>by
   have:=EY j hj;rcases e with e|e
   ·omega
   ·exact ZO j hj e)
  have I2:=D9.heap Qp (fun e=>by
   rcases e with e|e
   ·exact hS.qs.2.1 e.symm
   ·have:=QN bb e;omega)
  have Lw:∀j,bp Ab=some j->bp E'≠some j:=fun j hj he=>by
   rcases hE5 j he with h1|h1
   ·exact ZO j hj h1
   ·have:=EY j hj;omega
  have Iw:∀z∈bl,z∈(cg G s l).take (i+1):=fun z hz=>by
   have h1:=sK z hz;rw [List.take_add_one];exact List.mem_append_left _ h1
  cases r with
  |false=>
   refine Split.yes rfl ?_;rw [eJ (n:=(i:Int)) (by omega) (by omega)];have vx:nY k G s l (i+1)=⟨(nY k G s l i).wd,(nY k G s l i).bl++ [false]⟩:=by rw [ow,rU,<-IX];rfl
   refine⟨(i:Int)+1,rfl,⟨i+1,rfl,fc,⟨ov,E',e+1,v8,Ab,nb,cb,bl,?_,I2,Es,?_,Lw,?_,?_,Iw,by omega⟩,JO⟩,by simp only;omega⟩
   ·rw [vx]
    simpa [List.count_append]using EU
   ·rw [vx];exact Mk
   ·rw [vx];exact hO
   ·rw [vx];exact gP
  |true=>
   refine Split.no rfl ?_;have Lt:=hFr rfl
   replace Lt:vV Bi kz.heap.size (pK ov (lj m.sz ch)) (mK G x bl ch):=Lt
   have cO:=(nW.1 hr.symm).2;have vF:=eh (m:=ids G.D) c1 (fun z hz=>by
    have h1:=(eT.1 ((c3 z).1 hz)).1;rw [Mk]at h1;rcases List.mem_append.1 h1 with h1|h1
    ·rcases List.mem_append.1 h1 with h1|h1
     ·exact(((C.iP.wd s hs).2.1 z h1).mem W).1
     ·have:z=s:=by simpa using h1
      subst this;exact hs
    ·exact hM z (List.mem_of_mem_take (sK z h1)))
   rw [jH]at vF;generalize iQ:mK G x bl ch=ju at*;generalize Vc:pK ov (lj m.sz ch)=kn at*;have KB:G.score s<=5000:=by
    have h1:=(C.iP.wd s hs).2.2;have h2:=eh (m:=ids G.D) (C.iP.wd s hs).1 (fun b hb=>(((C.iP.wd s hs).2.1 b hb).mem W).1);rw [jH]at h2;omega
   have VH:(nY k G s l i).bl.count true<=5000:=by
    have h1:=List.count_le_length (a:=true) (l:=(nY k G s l i).bl);rw [Gb k G s l i (by omega)]at h1;omega
   generalize CU:G.score s+1+(nY k G s l i).bl.count true=sc at*;have ew:u64.wrap ((sc:Int)+(1:Int))=((sc+1:Nat):Int):=by
    rw [show(sc:Int)+1=((sc+1:Nat):Int)by omega];exact jE (by omega)
   refine⟨_,xr JO H5,_,EU.f32,EU.wr (by omega),?_⟩;intro uy p9;have Wn:la uy y.heap.size q sm bb ⟨s,sc+1,cg G s l,(nY k G s l i).bl++ [true]⟩ ov A n cp E' (e+1) v8:=by
    show la (tN.setCell (((⟨q,0,none⟩:Addr).add 0).add 32) (.int .u64 (u64.wrap ((sc:Int)+(1:Int))))) _ _ _ _ _ _ _ _ _ _ _ _
    rw [ew];exact(EU.SY (sc+1)).1
   have Ig:Kept (· =q) tN uy:=la.M7 (h:=EU) 32 _;have Aw:Kept Nil uy p9:=(Kept.refl _ _).drew;clear_value p9 uy;have zl:=Wn.same Aw;have Ax:Kept (· =q) tN p9:=Ig.trans Aw (fun _ _ h=>h.elim);have xf:=JO.trans Ax (fun j hj e=>.inl e);have Ay:Kept (fun j=>j=q\/bp E=some j) Bi p9:=D9.trans Ax (fun j hj e=>.inl e);have E8:∀j,v.heap.size<=j->¬(j=q\/bp E=some j):=fun j hj e=>by
    rcases e with e|e
    ·omega
    ·have:=QN j e;omega
   have IU:=Ay.heap Qg (E8 _ (Nat.le_refl _));have P4:=Ay.heap Vz (E8 _ (by omega));have QM:vV p9 kz.heap.size kn ju:=Lt.aK Ay (E8 _ (by omega));have K0:∀z,(if z∈ju then some (Value.int .i64 (kn z:Int))else none)≠none↔z∈ju:=fun z=>by
    by_cases hz:z∈ju
    ·rw [if_pos hz];exact⟨fun _=>hz,fun _ e=>by cases e⟩
    ·rw [if_neg hz];exact⟨fun e=>absurd rfl e,fun e=>absurd e hz⟩
   obtain⟨qI,Ut,QF,qw⟩:=zl.note x ju.length;have s33:=Ay.size;have Tm:=xf.trans qw (fun j hj e=>.inr (.inl e));have Wx:vV qI kz.heap.size kn ju:=QM.aK qw (by omega);have Vy:=qw.heap P4 (by omega);have Qf:=qw.heap IU (by omega);have KE:cr qI y.heap.size Ab nb cb bl:=Row.aK (Row.aK Es Ax (fun j hj e=>by have:=EY j hj;omega)) qw (fun j hj e=>by have:=EY j hj;omega);have Qm:=qw.heap (Ax.heap I2 (fun e=>hS.qs.2.1 e.symm)) (fun e=>hS.qs.2.2 e.symm);obtain⟨Xy,yg,Us,hit,Md⟩:=Wx.range pI;have XE:=qw.size;have s38:=Md.size;refine⟨_,xr xf H5,some sm,zl.f35,x.1,⟨x.2.1,Cells.bS IU⟩,some kz.heap.size,by rw [aD P4];rfl,ju.length,QM.len pI fC c1 K0,qI,Ut,some kz.heap.size,by rw [aD Vy];rfl,_,Xy,Us,?_⟩;refine ah.wX (I:=fun _ u=>∃left yg H3,mL u kz.heap.size qI.heap.size (fun z=>if z∈ju then some (Value.int .i64 (kn z:Int))else none) left yg/\la u y.heap.size q sm bb ⟨s,sc+1,cg G s l,(nY k G s l i).bl++ [true]⟩ H3 A n cp E' (e+1) v8/\
    (∀z,(left z->z∈ju)/\(z∈ju->¬left z->H3 z=some (kn z+1))/\((z∉ju\/left z)->H3 z=if z=x then some ju.length else ov z))/\Kept (fun j=>j=sm\/j=qI.heap.size) Xy u) (μ:=fun _ u=>u.rangeLeft kz.heap.size qI.heap.size) (s:=())
    ⟨_,yg,_,hit,QF.same Md,fun z=>⟨fun hz=>(K0 z).1 hz,fun hz hl=>absurd ((K0 z).2 hz) hl,fun _=>rfl⟩,Kept.refl _ _⟩ ?_
   rintro s1 u3 ⟨left,aep,H3,KY,Lq,hinv,ku⟩;have su3:=ku.size;have lit:=KY.lt;have X8:Kept (fun j=>j=q\/j=sm\/j=bb) y u3:=(Tm.trans Md (fun _ _ h=>h.elim)).trans ku (fun j hj e=>by
    rcases e with e|e
    ·exact .inr (.inl e)
    ·omega)
   rcases KY.next 0 with⟨h0',O5,lh⟩|⟨z,val,u4,W1,hl,Vu,lh,VC,Ve,cJ,k4⟩
   ·refine .inl ⟨u3,lh,?_⟩
    rw [aX,ah.Dc];unfold ah.zP;have Qn:=ku.heap (Md.heap Qm (fun h=>h)) (by have:=hS.qs;omega);have Co:=ku.heap (Md.heap Qf (fun h=>h)) (by omega);have OE:cr u3 y.heap.size Ab nb cb bl:=Row.aK (Row.aK KE Md (fun _ _ h=>h)) ku (fun j hj e=>by have:=EY j hj;omega);refine⟨Ab,nb,cb,by rw [aD Qn];rfl,x.1,⟨x.2.1,Cells.bS Co⟩,x.2.1,?_⟩;intro Fz;have Mc:Kept Nil u3 Fz:=(Kept.refl _ _).alloc _;have TS:HS Fz (some ⟨u3.heap.size,0,none⟩) 1 [x]:=lr u3 x;clear_value Fz;have s50:=Mc.size;have KC:cr Fz y.heap.size Ab nb cb bl:=Row.aK OE Mc (fun _ _ h=>h);obtain⟨A6,c6,Df,KJ,HY,g51,WE⟩:=gw aV KC (cx:=1) TS (by omega) (by omega);have RF:Kept (fun j=>bp Ab=some j) Fz Df:=(Kept.refl _ _).grown g51 fun j hj _=>hj;have I1:=RF.heap (Mc.heap Qn (fun h=>h)) (fun e=>by have:=EY bb e;omega);refine⟨A6,nb+1,c6,Df,KJ,dK I1 (by simp),?_⟩;intro HR;have Ql:HR.heap[bb]? =some (.cells #[.slice A6 (nb+1) c6] aV (0,0)):=by
     show(Df.setCell ⟨bb,0,none⟩ (.slice A6 (nb+1) c6)).heap[bb]? =_;rw [cX I1 0];rfl
    have D5:Kept (· =bb) Df HR:=Kept.setCell (S:=(· =bb)) (Kept.refl _ Df) (p:=⟨bb,0,none⟩) (fun _=>rfl) _;clear_value HR;have tV:Kept (fun j=>bp Ab=some j\/j=bb) u3 HR:=((Mc.mono fun _ _ h=>h.elim).trans RF (fun _ _ h=>.inl h):Kept (fun j=>bp Ab=some j\/j=bb) u3 Df).trans D5 (fun _ _ h=>.inr h);have Wm:la HR y.heap.size q sm bb ⟨s,sc+1,cg G s l,(nY k G s l i).bl++ [true]⟩ H3 A n cp E' (e+1) v8:=Lq.D0 tV
     (fun e=>e.elim (fun e=>by have:=EY q e;omega) (fun e=>hS.qs.2.1 e)) (fun e=>e.elim (fun e=>by have:=EY sm e;omega) (fun e=>hS.qs.2.2 e))
     (fun j hj e=>e.elim (fun e=>Lw j e hj) (fun e=>by have:=(Row.bS Lq.bl hj).1;omega)) (fun a ha e=>e.elim (fun e=>by have:=EY _ e;have:=(hS.mA a ha).1;omega) (fun e=>(hS.mA a ha).2.2.2 e))
    have qM:cr HR y.heap.size A6 (nb+1) c6 (bl++ [x]):=Row.aK HY D5 (fun j hj e=>by have:=(Row.bS HY hj).1;omega);rw [eJ (n:=(i:Int)) (by omega) (by omega)];have vx:nY k G s l (i+1)=⟨(nY k G s l i).wd++ [x],(nY k G s l i).bl++ [true]⟩:=by rw [ow,rU,<-IX];rfl
    have UI:H3=wM G.D (nY k G s l i).wd ov (lj m.sz ch) x:=by
     funext z
     unfold wM;rw [Vc];by_cases hz:z∈ju
     ·rw [if_pos ((c3 z).1 hz)]
      exact(hinv z).2.1 hz (O5 z)
     ·rw [if_neg (fun e=>hz ((c3 z).2 e)),(hinv z).2.2 (.inl hz),c2]
    refine⟨(i:Int)+1,rfl,⟨i+1,rfl,fc,⟨H3,E',e+1,v8,A6,nb+1,c6,bl++ [x],?_,Ql,qM,?_,?_,?_,?_,?_,by omega⟩,?_⟩,by simp only;omega⟩
    ·rw [vx]
     have ec:G.score s+1+((nY k G s l i).bl++ [true]).count true=sc+1:=by rw [List.count_append,<-CU];simp;omega
     show la HR y.heap.size q sm bb ⟨s,G.score s+1+((nY k G s l i).bl++ [true]).count true,cg G s l,(nY k G s l i).bl++ [true]⟩ H3 A n cp E' (e+1) v8
     rw [ec];exact Wm
    ·rw [vx]
     show(nY k G s l i).wd++ [x]=_;rw [Mk,List.append_assoc]
    ·intro j hj he
     rcases WE j hj with h1|h1
     ·exact Lw j h1 he
     ·obtain⟨_,cur,h2⟩:=Row.bS Lq.bl he
      have:=aZ h2;omega
    ·rw [vx,UI]
     exact hO.step Yu
    ·rw [vx]
     exact List.nodup_append.2 ⟨gP,by simp,fun a ha b hb e=>by
      have:b=x:=by simpa using hb
      subst this;subst e;exact Yu ha⟩
    ·intro z hz
     rcases List.mem_append.1 hz with hz|hz
     ·exact Iw z hz
     ·have:z=x:=by simpa using hz
      subst this;rw [List.take_add_one,hx];simp
    ·exact X8.trans tV (fun j hj e=>by
      rcases e with e|e
      ·have:=EY j e;omega
      ·exact .inr (.inr e))
   ·have TN:=(hinv z).1 hl
    rw [if_pos TN]at Vu;cases Vu;have hkz:=cO z TN;refine .inr ⟨_,_,u4,lh,z.1,(kn z:Int),VC,?_⟩;intro Fy;obtain⟨Ku,xz,vD⟩:=gg (w:=u4) (z:=fG.1) (cs:=z.1) (t:=ax) (by rw [z.2.1];rfl);refine⟨⟨z.2.1,z.2.one,fun j hj=>Ku j (by rw [z.2.1];exact hj)⟩,?_⟩;intro Rs LW
    replace xz:Rs.heap[u4.heap.size]? =some (.cells z.1 ax (0,0)):=xz
    replace vD:Kept Nil u4 Rs:=vD
    have RC:Kept Nil Rs LW:=(Kept.refl _ _).drew;clear_value LW Rs;have VZ:=RC.heap xz (fun h=>h);have Ic:=vD.tt RC;have Ar:Kept (· =qI.heap.size) u3 LW:=k4.trans Ic (fun _ _ h=>h.elim);have hE3:∀j,bp E'=some j->j≠qI.heap.size:=fun j hj e=>by
     obtain⟨_,cur,h2⟩:=Row.bS QF.bl hj;have:=aZ h2;omega
    have QD:=Lq.D0 Ar (by omega) (by omega) (fun j hj e=>hE3 j hj e) (fun a ha e=>by have:=(hS.mA a ha).1;omega);have Tl:Kept (fun j=>j=q\/j=sm\/j=bb) y LW:=X8.trans Ar (fun j hj e=>by omega);have IL:=Ve.aK Ic (fun h=>h) (fun h=>h);obtain⟨Bp,OK,QG,yO⟩:=QD.note z (kn z+1);have ekz:i64.wrap ((kn z:Int)+(1:Int))=((kn z+1:Nat):Int):=by rw [eJ (n:=(kn z:Int)) (by omega) (by omega)];omega
    have s3:=Ar.size;refine⟨_,xr Tl H5,some sm,QD.f35,z.1,⟨z.2.1,Cells.bS VZ⟩,Bp,by rw [ekz];exact OK,?_⟩;refine⟨(),rfl,⟨_,W1,_,IL.aK yO (by omega) (by omega),QG,fun y'=>?_,?_⟩,?_⟩
    ·obtain⟨i1,i2,i3⟩:=hinv y'
     refine⟨fun h=>i1 h.1,fun h1 h2=>?_,fun h=>?_⟩
     ·by_cases e:y'=z
      ·subst e;simp only [if_true]
      ·simp only [if_neg e]
       exact i2 h1 (fun h=>h2 ⟨h,e⟩)
     ·have e:y'≠z:=by
       rcases h with h|h
       ·exact fun e=>h (by rw [e];exact TN)
       ·exact h.2
      simp only [if_neg e];exact i3 (h.imp_right fun h=>h.1)
    ·exact(ku.trans Ar (fun j hj e=>.inr e)).trans yO (fun j hj e=>.inl e)
    ·show Bp.rangeLeft kz.heap.size qI.heap.size<u3.rangeLeft kz.heap.size qI.heap.size
     rw [KY.left_eq,(IL.aK yO (by omega) (by omega)).left_eq];exact cJ
 ·rw [aX,ah.lL]
  have:i=n:=by omega
  subst this;have e1:=Gc k G s l;rw [Pq]at e1;rw [e1]at hS hO;have hsq:v.heap[bs]? =some (.cells #[.pointer (some ⟨q,0,none⟩)] dO (0,0)):=kv.heap V.hs (by omega);exact⟨some ⟨q,0,none⟩,by rw [aD hsq];rfl,hK v ov E e ce hS hO kv⟩
end
def Ba(N:Nat):Prop:=∀ {w:World} {F:Nat->Prop} {c k:Nat} {G:GS} {m:CM} {B:Nat} {A:Option Addr} {n cx:Nat} {l:List HT} {K:Value->World->Prop},CV w F c k G m->cr w B A n cx l->n<=N->l.Nodup->(∀x∈l,x∈ids G.D)->
 (∀j,bp A=some j->¬m.own c j/\¬F j)->(∀l' w',SO G l'->(∀x,x∈l'↔x∈l)->cr w' B A n cx l'->Kept (fun j=>bp A=some j) w w'->K (.tuple #[]) w')->
 bm prog gQ.id #[.slice A n cx,.func (.func bg.id) #[.pointer (some ⟨c,0,none⟩)] #[]] w K
section
variable{y v w w':World}{F:Nat->Prop}{c k:Nat}{G:GS}{m:CM}{s:HT}{l ch:List HT}{bs bc bh q sm nL cL:Nat}{AL:Option Addr}{K:Value->World->Prop}
set_option maxHeartbeats 4000000 in
theorem yo{N:Nat}(xq:Ba N)(hN:(ru G.D s l).length<=N)(C:CV y F c k G m)(hD:G.D.length<=5000)(rP:k<=1000)(hs:s∈ids G.D)(hc:cM G.D G.P s ch)(hl:∀x∈l,x∈ids G.D)
 (V:VB y c s bs bc bh q sm (fun _=>none)) (hS:wa y y.heap.size q sm ⟨s,G.score s+1,[],[]⟩ (fun _=>none) none 0 0 none 0 0)
 (hL:HS y AL nL (dg (eR G.D l++l))) (hAL:∀a,AL=some a->a.block≠q)
 (ko:∀j,(m.own c j\/F j\/j=bs\/j=bc\/j=bh)->j≠q/\j≠sm)
 (hK:∀v B bb ov A n cp E e ce,la v B q sm bb (fM k G s l) ov A n cp E e ce->OV G.D (gJ k G s l).wd ov (lj m.sz ch)->(∀a,A=some a->y.heap.size<=a.block)->(y.heap.size<=B/\B<=v.heap.size)->Kept (fun j=>j=q\/j=sm) y v->K (.pointer (some ⟨q,0,none⟩)) v):
 Holds none [] prog 153 (.loop (lB (bB (sR (sL (aY (sR (body ah.fn)))))))) (ah.q1 K)
  [(3,.pointer (some ⟨bc,0,none⟩)),(4,.pointer (some ⟨bh,0,none⟩)),(6,.pointer none),(8,.pointer (some ⟨bs,0,none⟩)),(46,.slice AL nL cL),(47,.int .i64 (nL:Int)),(48,.int .i64 0)] y:=by
 have W:=C.iP.W;have lbs:=aZ V.hs;have lbc:=aZ V.hc;have lbh:=aZ V.hh;have Sl:=ko bs (.inr (.inr (.inl rfl)));have Sn:=ko bc (.inr (.inr (.inr (.inl rfl))));have Sm:=ko bh (.inr (.inr (.inr (.inr rfl))));have ZL:=hL.len;have Wq:∀x∈dg (eR G.D l++l),x∈ids G.D:=fun x hx=>by
  rcases List.mem_append.1 (dI.1 hx)with h|h
  ·exact(jL.1 h).1
  ·exact hl x h
 have hLn:nL<=5000:=by
  have:=eh (iL _).nodup Wq;rw [jH]at this;omega
 generalize hLL:dg (eR G.D l++l)=L at*;refine ah.cf (I:=fun s0 v=>∃i:Nat,s0=(i:Int)/\i<=nL/\(∃A n cp,wa v y.heap.size q sm ⟨s,G.score s+1,(L.take i).filter fun h=>decide (h≠s/\¬fD G.D h s),[]⟩ (fun _=>none) A n cp none 0 0)/\Kept (· =q) y v) (μ:=fun s0 _=>((nL:Int)-s0).toNat) (s:=0) ⟨0,rfl,Nat.zero_le _,⟨none,0,0,hS⟩,Kept.refl _ _⟩ ?_;rintro s0 v ⟨i,rfl,hi,⟨A,n,cp,Hv⟩,kv⟩;have sv:=kv.size;have Pr:=cr.len Hv.mg;have hnA:n<=5000:=by
  have h1:=List.length_filter_le (fun h=>decide (h≠s/\¬fD G.D h s)) (L.take i);have h2:=List.length_take_le i L;have h3:((L.take i).filter fun h=>decide (h≠s/\¬fD G.D h s)).length=n:=Pr;omega
 refine Split.dec (fun lH=>?_) (fun iK=>?_)
 ·have fc:i<nL:=by omega
  obtain⟨x,hx⟩:∃x,L[i]? =some x:=⟨_,List.getElem?_eq_getElem (by omega)⟩;have WS:L.take (i+1)=L.take i++ [x]:=by rw [List.take_add_one,hx];rfl
  have hLv:HS v AL nL L:=hL.aK kv hAL;refine hLv.load (i:=(i:Int)) (by omega) hx ?_;intro p6;obtain⟨ry,jw,jg⟩:=gg (w:=v) (z:=fG.1) (cs:=x.1) (t:=ax) (by rw [x.2.1];rfl);refine⟨⟨x.2.1,x.2.one,fun j hj=>ry j (by rw [x.2.1];exact hj)⟩,?_⟩;intro kz np
  replace jw:kz.heap[v.heap.size]? =some (.cells x.1 ax (0,0)):=jw
  replace jg:Kept Nil v kz:=jg
  have uT:Kept Nil kz np:=(Kept.refl _ _).drew;clear_value np kz;have EM:=uT.heap jw (fun h=>h);have JQ:=jg.tt uT;have B7:Kept (· =q) y np:=kv.trans JQ (fun _ _ h=>h.elim);have C15:CV np F c k G m:=C.aK B7 (fun j hj e=>(ko j (.inl hj)).1 e) (fun j hj e=>(ko j (.inr (.inl hj))).1 e);have hcy:∀ {u:World},Kept (· =q) y u->u.cell? ⟨bc,0,none⟩=some (.pointer (some ⟨c,0,none⟩)):=fun ku=>by rw [aD (ku.heap V.hc Sn.1)];rfl
  have Oy:∀ {u:World},Kept (· =q) y u->u.cell? ⟨bs,0,none⟩=some (.pointer (some ⟨q,0,none⟩)):=fun ku=>by rw [aD (ku.heap V.hs Sl.1)];rfl
  have next:∀ {u:World} {A':Option Addr} {n' vK:Nat},wa u y.heap.size q sm ⟨s,G.score s+1,(L.take (i+1)).filter fun h=>decide (h≠s/\¬fD G.D h s),[]⟩ (fun _=>none) A' n' vK none 0 0->Kept (· =q) y u->
   ∃s1:Int,i64.wrap ((i:Int)+(1:Int))=s1/\(∃i':Nat,s1=(i':Int)/\i'<=nL/\(∃A n cp,wa u y.heap.size q sm ⟨s,G.score s+1,(L.take i').filter fun h=>decide (h≠s/\¬fD G.D h s),[]⟩ (fun _=>none) A n cp none 0 0)/\Kept (· =q) y u)/\((nL:Int)-s1).toNat<((nL:Int)-(i:Int)).toNat:=fun h1 h2=>by
   rw [eJ (n:=(i:Int)) (by omega) (by omega)];exact⟨(i:Int)+1,rfl,⟨i+1,rfl,fc,⟨_,_,_,h1⟩,h2⟩,by omega⟩
  refine⟨x.1,⟨x.2.1,Cells.bS EM⟩,s.1,⟨s.2.1,Cells.bS (B7.heap V.hh Sm.1)⟩,⟨x.2.ints,s.2.ints⟩,?_⟩;rw [gA];by_cases GU:x=s
  ·refine Split.no (by rw [decide_eq_true GU];rfl) ?_
   obtain⟨s1,e1,e2,e3⟩:=next (u:=np) (by
    rw [WS,List.filter_append];have: [x].filter (fun h=>decide (h≠s/\¬fD G.D h s))= []:=by rw [List.filter_cons_of_neg (by simp [GU])];rfl
    rw [this,List.append_nil];exact Hv.same JQ) B7
   rw [e1];exact⟨s1,rfl,e2,e3⟩
  ·refine Split.yes (by rw [decide_eq_false GU];rfl) ⟨_,hcy B7,_,C15.c1,x.1,⟨x.2.1,Cells.bS EM⟩,s.1,⟨s.2.1,Cells.bS (B7.heap V.hh Sm.1)⟩,?_⟩
   obtain⟨mx,X15,_⟩:=C15.X;refine jr X15 hD x s fun Bi r hr x5=>⟨r,rfl,?_⟩;have Gx:Kept (· =q) y Bi:=B7.trans x5 (fun _ _ h=>h.elim);have NC:=JQ.tt x5;cases r with
   |true=>
    refine Split.no rfl ?_;obtain⟨s1,e1,e2,e3⟩:=next (u:=Bi) (by
     rw [WS,List.filter_append];have: [x].filter (fun h=>decide (h≠s/\¬fD G.D h s))= []:=by rw [List.filter_cons_of_neg (by simp [hr.1 rfl])];rfl
     rw [this,List.append_nil];exact Hv.same NC) Gx
    rw [e1];exact⟨s1,rfl,e2,e3⟩
   |false=>
    refine Split.yes rfl ?_;intro wh;have D8:Kept Nil Bi wh:=(Kept.refl _ _).drew;clear_value wh;have Tt:=NC.tt D8;have xg:Kept (· =q) y wh:=Gx.trans D8 (fun _ _ h=>h.elim);have EW:=Hv.same Tt;refine⟨_,Oy xg,_,Oy xg,A,n,cp,EW.f33,x.1,⟨x.2.1,Cells.bS ((x5.tt D8).heap EM (fun h=>h))⟩,x.2.1,?_⟩;intro kr;have rv:Kept Nil wh kr:=(Kept.refl _ _).alloc _;have TU:HS kr (some ⟨wh.heap.size,0,none⟩) 1 [x]:=lr wh x;clear_value kr;have EV:=EW.same rv;have sF:Kept (· =q) y kr:=xg.trans rv (fun _ _ h=>h.elim);have Ta:=sF.size;obtain⟨A',vK,u,OD,ku,EU,k5,hw5⟩:=EV.Nh Ta (by omega) TU;have Tk:Kept (· =q) y u:=sF.trans ku (fun j hj e=>by omega);refine⟨EV.f33,Oy sF,Oy sF,A',n+1,vK,u,OD,Oy Tk,hw5,?_⟩;intro tN
    replace EU:wa tN y.heap.size q sm _ (fun _=>none) A' (n+1) vK none 0 0:=EU
    replace k5:Kept (fun j=>j=q\/y.heap.size<=j) kr tN:=k5
    clear_value tN;obtain⟨s1,e1,e2,e3⟩:=next (u:=tN) (by
     rw [WS,List.filter_append];have: [x].filter (fun h=>decide (h≠s/\¬fD G.D h s))= [x]:=by rw [List.filter_cons_of_pos (by simp only [decide_eq_true_eq];exact⟨GU,fun e=>by have:=hr.2 e;cases this⟩)];rfl
     rw [this];exact EU) (sF.trans k5 (fun j hj e=>by
      rcases e with e|e
      ·exact e
      ·omega))
    rw [e1];exact⟨s1,rfl,e2,e3⟩
 ·rw [aX,ah.dA]
  have gK:i=nL:=by omega
  subst gK;rw [List.take_of_length_le (by omega)]at Hv;unfold ah.cW;intro p9;have Aw:Kept Nil v p9:=(Kept.refl _ _).drew;clear_value p9;have zl:=Hv.same Aw;have xf:Kept (· =q) y p9:=kv.trans Aw (fun _ _ h=>h.elim);have C33:CV p9 F c k G m:=C.aK xf (fun j hj e=>(ko j (.inl hj)).1 e) (fun j hj e=>(ko j (.inr (.inl hj))).1 e);have WW:(L.filter fun h=>decide (h≠s/\¬fD G.D h s))=ru G.D s l:=by unfold ru;rw [hLL]
  have yY:cr p9 y.heap.size A n cp (ru G.D s l):=by rw [<-WW];exact zl.mg
  have Lv:∀j,bp A=some j->y.heap.size<=j/\j<p9.heap.size:=fun j hj=>by obtain⟨g1,cur,g2⟩:=Row.bS yY hj;exact⟨g1,aZ g2⟩
  refine⟨some ⟨q,0,none⟩,by rw [aD (xf.heap V.hs Sl.1)];rfl,A,n,cp,zl.f33,some ⟨c,0,none⟩,by rw [aD (xf.heap V.hc Sn.1)];rfl,?_⟩;refine xq C33 yY (by have:=cr.len yY;omega) (oT _ _ _) (fun x hx=>Wq x (by rw [<-WW]at hx;exact(List.mem_filter.1 hx).1)) (fun j hj=>⟨fun e=>by have:=C.low j (.inl e);have:=(Lv j hj).1;omega,fun e=>by have:=C.low j (.inr e);have:=(Lv j hj).1;omega⟩) fun l' mN RM kQ Er x4=>⟨rfl,?_⟩;have el:l'=cg G s l:=BU RM kQ;subst el;have qB:=Hv.qB;have sB:=Hv.sB;have Ux:=Hv.qs;have s33:=xf.size;have Nx:Kept (· =q) y mN:=xf.trans x4 (fun j hj e=>by have:=(Lv j e).1;omega);have Ky:=x4.heap zl.top (fun e=>by have:=(Lv q e).1;omega);have OX:=zl.ov.aK x4 (fun e=>by have:=(Lv sm e).1;omega);intro gY qI;have lQ:Kept Nil mN gY:=(Kept.refl _ _).alloc _;have Hr:gY.heap[mN.heap.size]? =some (.cells #[.slice none 0 0] aV (0,0)):=aR mN _;have qw:Kept Nil gY qI:=(Kept.refl _ _).alloc _;have KX:qI.heap[gY.heap.size]? =some (.cells #[.nilFunc] dR (0,0)):=aR gY _;refine⟨dK KX (by simp),?_⟩;intro Bg;have Pz:Bg.heap[gY.heap.size]? =some (.cells #[.func (.func bI.id) #[] #[.pointer (some ⟨bs,0,none⟩),.pointer (some ⟨bc,0,none⟩),.pointer (some ⟨bh,0,none⟩)]] dR (0,0)):=by
   show(qI.setCell ⟨gY.heap.size,0,none⟩ _).heap[gY.heap.size]? =_;rw [cX KX 0];rfl
  have CR:Kept (· =gY.heap.size) qI Bg:=Kept.setCell (S:=(· =gY.heap.size)) (Kept.refl _ qI) (p:=⟨gY.heap.size,0,none⟩) (fun _=>rfl) _;clear_value Bg;have uS:=lQ.tt qw;have S9:=lQ.size;have XE:=qw.size;have l35:=aZ Hr;have l36:=aZ KX;have Av:Kept Nil mN Bg:=⟨CR.os.trans uS.os,CR.tape.trans uS.tape,CR.output.trans uS.output,Nat.le_trans uS.size CR.size,fun j hj hn=>by rw [CR.block j (Nat.lt_of_lt_of_le hj uS.size) (by omega),uS.block j hj hn]⟩;have V8:=CR.heap (qw.heap Hr (fun h=>h)) (by omega);have l37:=aZ Pz;clear_value qI gY;have BY:Kept (· =q) y Bg:=Nx.trans Av (fun _ _ h=>h.elim);have s34:=Nx.size;have s37:=BY.size;have C37:CV Bg F c k G m:=C.aK BY (fun j hj e=>(ko j (.inl hj)).1 e) (fun j hj e=>(ko j (.inr (.inl hj))).1 e);have Em:=Av.heap Ky (fun h=>h);have ID:=OX.aK Av (fun h=>h);have KD:cr Bg y.heap.size A n cp (cg G s l):=Row.aK Er Av (fun _ _ h=>h);have V37:VB Bg c s bs bc bh q sm (fun _=>none):=⟨BY.heap V.hs Sl.1,BY.heap V.hc Sn.1,BY.heap V.hh Sm.1,by rw [bu,aD Em];exact(gL ..).2.2.2,ID⟩;have ZP:∀a,A=some a->y.heap.size<=a.block/\a.block<mN.heap.size:=fun a ha=>by
   subst ha;obtain⟨g1,cur,g2⟩:=Row.bS Er (k:=a.block) rfl;exact⟨g1,aZ g2⟩
  have QE:la Bg Bg.heap.size q sm mN.heap.size ⟨s,G.score s+1,cg G s l,[]⟩ (fun _=>none) A n cp none 0 0:=
   ⟨Em,KD.hs,fun a ha=>by have:=ZP a ha;exact⟨by omega,by omega,by omega,by omega⟩,Row.nil _ _ _ _,ID,by omega,by omega,by omega,⟨Ux,by omega,by omega⟩⟩
  refine⟨some ⟨q,0,none⟩,by rw [aD V37.hs];rfl,A,n,cp,QE.f33,?_⟩;have Ot:(nY k G s l 0)=⟨G.world s++ [s],[]⟩:=rfl;refine yn (l:=l) C37 hD rP hs hc (fun x hx=>Wq x (by
   have h1:=(kQ x).1 hx;rw [<-WW]at h1;exact(List.mem_filter.1 h1).1)) V37 Pz (fun j hj=>?_) ⟨⟨fun _=>none,none,0,0,none,0,0,[],QE,V8,cr.nil _ _,by rw [Ot,List.append_nil],fun j hj=>by simp [bp]at hj,by rw [Ot];exact C.Z |>.ov hs hc,?_,fun z hz=>by simp at hz,rfl⟩,Kept.refl _ _⟩ hnA fun v' ov E e ce h1 h2 h3=>?_
  ·have h1:j<y.heap.size\/j=gY.heap.size:=by
    rcases hj with h|h|h|h|h|h
    ·exact .inl (C.low j (.inl h))
    ·exact .inl (C.low j (.inr h))
    ·exact .inl (by omega)
    ·exact .inl (by omega)
    ·exact .inl (by omega)
    ·exact .inr h
   rcases h1 with h1|h1
   ·have h2:j≠q/\j≠sm:=by
     rcases hj with h|h|h|h|h|h
     ·exact ko j (.inl h)
     ·exact ko j (.inr (.inl h))
     ·exact ko j (.inr (.inr (.inl h)))
     ·exact ko j (.inr (.inr (.inr (.inl h))))
     ·exact ko j (.inr (.inr (.inr (.inr h))))
     ·omega
    exact⟨h2.1,h2.2,by omega⟩
   ·exact⟨by omega,by omega,by omega⟩
  ·rw [Ot]
   obtain⟨g1,g2,_⟩:=C.iP.wd s hs;exact List.nodup_append.2 ⟨g1,by simp,fun a ha b hb e=>by
    have:b=s:=by simpa using hb
    subst this;subst e;exact fD.irrefl W a (g2 a ha)⟩
  ·refine hK v' Bg.heap.size mN.heap.size ov A n cp E e ce h1 h2 (fun a ha=>(ZP a ha).1) ⟨s37,h3.size⟩ ?_
   exact(BY.mono fun _ _ h=>.inl h).trans h3 (fun j hj e=>by
    rcases e with e|e|e
    ·exact .inl e
    ·exact .inr e
    ·omega)
end
theorem LI:Ra prog cB=some ([(0,32),(32,1),(33,1),(34,1)],List.replicate 32 (.int .u8 0)++ [.int .u64 0,.slice none 0 0,.slice none 0 0]):=by kernel_rfl
theorem Fg(h:HT)(z:Int):prog.built cB [(0,.agg h.1),(1,.int .u64 z)]=some (h.1++ #[.int .u64 z,.slice none 0 0,.slice none 0 0]):=by
 have hs:=h.2.1;rw [pY LI,jC (off:=0) (size:=32) rfl (by simpa [Value.cells]using hs) (by simp),jC (off:=32) (size:=1) rfl rfl (by
  rw [List.size_toArray,mh (by simp [Value.cells,hs])];simp)]
 simp only [Instr.fill,Option.some.injEq];apply Array.ext';unfold gm;simp [Value.cells,hs];rw [List.drop_append];simp [hs]
theorem HN:Ra prog df=some ([(0,35),(35,1)],List.replicate 32 (.int .u8 0)++ [.int .u64 0,.slice none 0 0,.slice none 0 0,.map none]):=by kernel_rfl
theorem vf(c:rl)(sm:Option Nat):prog.built df [(0,.agg (dS c none 0 0 none 0 0)),(1,.map sm)]=some (dS c none 0 0 none 0 0++ #[.map sm]):=by
 have hs:=bX c none 0 0 none 0 0;rw [pY HN,jC (off:=0) (size:=35) rfl (by simpa [Value.cells]using hs) (by simp),jC (off:=35) (size:=1) rfl rfl (by
  rw [List.size_toArray,mh (by simp [Value.cells,hs])];simp)]
 simp only [Instr.fill,Option.some.injEq];apply Array.ext';unfold gm;simp [Value.cells,hs]
section
variable{g1 v w w':World}{F:Nat->Prop}{c k:Nat}{G:GS}{m:CM}{s:HT}{l ch:List HT}{bs bc bh q sm n cx:Nat}{A:Option Addr}{K:Value->World->Prop}
theorem Gd{N:Nat}(xq:Ba N)(hN:(ru G.D s l).length<=N)(C:CV g1 F c k G m)(hT:p7 g1)(hD:G.D.length<=5000)(rP:k<=1000)(hs:s∈ids G.D)(hc:cM G.D G.P s ch)(hl:∀x∈l,x∈ids G.D)(zc:HS g1 A n l)(hn:n<=5000)
 (V:VB g1 c s bs bc bh q sm (fun _=>none)) (js:g1.heap[q]? =some (.cells (dS ⟨s,G.score s+1,[],[]⟩ none 0 0 none 0 0++ #[.map (some sm)]) df (0,0)))
 (ko:∀j,(m.own c j\/F j\/j=bs\/j=bc\/j=bh)->j≠q/\j≠sm) (Ux:q≠sm) {p:Nat} (hp:∃mx,XV g1 m.FX m.x G.D G.P mx/\mx.g=p)
 (hK:∀v B bb ov A n cp E e ce,la v B q sm bb (fM k G s l) ov A n cp E e ce->OV G.D (gJ k G s l).wd ov (lj m.sz ch)->(∀a,A=some a->g1.heap.size<=a.block)->(g1.heap.size<=B/\B<=v.heap.size)->Kept (fun j=>j=q\/j=sm) g1 v->K (.pointer (some ⟨q,0,none⟩)) v):
 bm prog aJ.id #[.pointer (some ⟨p,0,none⟩),.slice A n cx] g1 fun i1 j1=>∃k1:Option Addr,∃m1 n1:Nat,i1=.slice k1 m1 n1/\
  ∃(o1:Option Addr) (p1 q1:Nat) (r1:World),(Builtin.append_ #[aV,aV] aV #[.slice k1 m1 n1,.slice A n cx]).run prog j1=.ok (.slice o1 p1 q1) r1/\
  bm prog ir.id #[.slice o1 p1 q1] r1 fun t1 u1=>∃v1:Option Addr,∃x1 y1:Nat,t1=.slice v1 x1 y1/\
  Holds none [] prog 153 (.loop (lB (bB (sR (sL (aY (sR (body ah.fn)))))))) (ah.q1 K)
   [(3,.pointer (some ⟨bc,0,none⟩)),(4,.pointer (some ⟨bh,0,none⟩)),(6,.pointer none),(8,.pointer (some ⟨bs,0,none⟩)),(46,.slice v1 x1 y1),(47,.int .i64 (x1:Int)),(48,.int .i64 0)] u1:=by
 have W:=C.iP.W;obtain⟨mx,X,rfl⟩:=hp;obtain⟨bl,c',mb,M,GG⟩:=X.G;have lq:=aZ js;have lsm:=V.ov.lt;refine tn GG W (by omega) hT zc (by omega) fun A1 c1 w1 BM k1=>⟨A1,_,c1,rfl,?_⟩;have rN:(eR G.D l).length<=5000:=Nat.le_trans (pD _ _) hD;have s1:=k1.size;obtain⟨A2,c2,w2,lh,r9,g2,ZQ⟩:=gw aV BM (cx:=cx) (zc.same k1) (by omega) s1;have k2:Kept (fun j=>g1.heap.size<=j) w1 w2:=(Kept.refl _ _).grown g2 fun j hj _=>(Row.bS BM hj).1;have oE:Kept Nil g1 w2:=k1.trans k2 (fun j hj e=>by omega);refine⟨A2,_,c2,w2,lh,?_⟩;refine fW r9.hs (by omega) fun A3 c3 w3 rp k3=>⟨A3,_,c3,rfl,?_⟩;have kl:=oE.tt k3;have s02:=oE.size;have XH:=kl.size;have V3:=V.same kl;refine yo (l:=l) xq hN (C.same kl) hD rP hs hc hl V3 ⟨kl.heap js (fun h=>h),cr.nil _ _,Row.nil _ _ _ _,V3.ov,by omega,by omega,Ux,fun j hj=>by simp [bp]at hj⟩ rp.hs (fun a ha=>?_) ko fun v B bb ov A n cp E e ce h1 h2 h3 h4 h5=>?_
 ·subst ha
  have:=(Row.bS rp (k:=a.block) rfl).1;omega
 ·exact hK v B bb ov A n cp E e ce h1 h2 (fun a ha=>Nat.le_trans XH (h3 a ha)) ⟨Nat.le_trans XH h4.1,h4.2⟩ ((kl.mono fun _ _ h=>h.elim).tt h5)
end
section
variable{w w':World}{F:Nat->Prop}{c k:Nat}{G:GS}{m:CM}{s:HT}{l ch:List HT}{n cx:Nat}{A:Option Addr}{K:Value->World->Prop}
set_option maxHeartbeats 4000000 in
theorem sW{N:Nat}(xq:Ba N)(hN:(ru G.D s l).length<=N)(C:CV w F c k G m)(hT:p7 w)(hD:G.D.length<=5000)(rP:k<=1000)(hs:s∈ids G.D)(hc:cM G.D G.P s ch)(hl:∀x∈l,x∈ids G.D)(zc:HS w A n l)(hn:n<=5000)
 (hK:∀v q B sm bb ov A n cp E e ce,la v B q sm bb (fM k G s l) ov A n cp E e ce->OV G.D (gJ k G s l).wd ov (lj m.sz ch)->w.heap.size<=q->w.heap.size<=sm->(∀a,A=some a->w.heap.size<=a.block)->(w.heap.size<=B/\B<=v.heap.size)->Kept Nil w v->K (.pointer (some ⟨q,0,none⟩)) v):
 bm prog ah.id #[.pointer (some ⟨c,0,none⟩),.agg s.1,.slice A n cx] w K:=by
 refine ah.of ?_;unfold ah.W;intro w1 w2;have k1:Kept Nil w w1:=(Kept.refl _ _).alloc _;have Zz:w1.heap[w.heap.size]? =some (.cells #[.pointer (some ⟨c,0,none⟩)] cK (0,0)):=aR w _;have k2:Kept Nil w1 w2:=(Kept.refl _ _).alloc _;have yW:w2.heap[w1.heap.size]? =some (.cells s.1 ax (0,0)):=aR w1 _;clear_value w2;have EJ:=k2.heap Zz (fun h=>h);have oE:=k1.tt k2;have s1:=k1.size;have l1:=aZ Zz;have l2:=aZ yW;clear_value w1;have C2:=C.same oE;obtain⟨XZ,X2,_⟩:=C2.X;refine⟨some ⟨c,0,none⟩,by rw [aD EJ];rfl,_,C2.c1,eK.of (Split.no rfl (Is.mk rfl ⟨_,X2.c0,⟨_,rfl,?_⟩⟩))⟩;intro w3;have k3:Kept Nil w2 w3:=(Kept.refl _ _).drew;clear_value w3;have kl:=oE.tt k3;have Zy:=k3.heap EJ (fun h=>h);have G1:=k3.heap yW (fun h=>h);have C3:=C.same kl;obtain⟨A1,n1,c1,B1,m1,d1,s1',sa⟩:=C3.seen s hs;have KB:G.score s<=5000:=by
  have h1:=(C.iP.wd s hs).2.2;have h2:=eh (m:=ids G.D) (C.iP.wd s hs).1 (fun b hb=>(((C.iP.wd s hs).2.1 b hb).mem C.iP.W).1);rw [jH]at h2;omega
 have ew:u64.wrap (((G.iR s).score:Int)+(1:Int))=((G.score s+1:Nat):Int):=by
  show u64.wrap ((G.score s:Int)+(1:Int))=_
  rw [show(G.score s:Int)+1=((G.score s+1:Nat):Int)by omega];exact jE (by omega)
 have mH:∀ {u:World},Kept Nil w3 u->u.cell? ⟨w.heap.size,0,none⟩=some (.pointer (some ⟨c,0,none⟩)):=fun ku=>by rw [aD (ku.heap Zy (fun h=>h))];rfl
 have vy:∀ {u:World},Kept Nil w3 u->∃cs:Array Value,(.agg s.1:Value)=.agg cs/\cs.size=32/\Cells u ⟨w1.heap.size,0,none⟩ cs:=fun ku=>⟨s.1,rfl,s.2.1,Cells.bS (ku.heap G1 (fun h=>h))⟩;have nN:∀ {u:World},Kept Nil w3 u->u.cell? (((⟨m.q s,0,none⟩:Addr).add 0).add 32)=some (.int .u64 ((G.iR s).score:Int)):=fun ku=>(sa.aK ku (fun _ _ h=>h)).Q8;have l3:=aZ G1;have s3:=k3.size;refine⟨s.1,⟨s.2.1,Cells.bS G1⟩,some ⟨c,0,none⟩,mH (Kept.refl _ _),_,C3.c2,s.1,⟨s.2.1,Cells.bS G1⟩,_,C3.oL hs,_,nN (Kept.refl _ _),?_⟩;rw [ew];rw [Fg s];refine Is.mk rfl ?_;have WX:(s.1++ #[.int .u64 ((G.score s+1:Nat):Int),.slice none 0 0,.slice none 0 0]:Array Value)=dS ⟨s,G.score s+1,[],[]⟩ none 0 0 none 0 0:=rfl;rw [WX];have go:∀ {u:World} {q sm bs:Nat},Kept Nil w3 u->w3.heap.size<=q->w3.heap.size<=sm->w3.heap.size<=bs->q≠sm->bs≠q->bs≠sm->
  u.heap[q]? =some (.cells (dS ⟨s,G.score s+1,[],[]⟩ none 0 0 none 0 0++ #[.map (some sm)]) df (0,0))->dW u sm (fun _=>none)->u.heap[bs]? =some (.cells #[.pointer (some ⟨q,0,none⟩)] dO (0,0))->_:=
  fun {u q sm bs} ku hq Ce Sa h1 h2 h3 js KR lr=>Gd (g1:=u) (bs:=bs) (bc:=w.heap.size) (bh:=w1.heap.size) (q:=q) (sm:=sm) (cx:=cx) (K:=K) (p:=XZ.g) xq hN (C3.same ku) (hT.same (kl.tt ku)) hD rP hs hc hl (zc.same (kl.tt ku)) hn
   ⟨lr,ku.heap Zy (fun h=>h),ku.heap G1 (fun h=>h),by rw [bu,aD js];exact(gL ..).2.2.2,KR⟩ js
   (fun j hj=>by
     rcases hj with h|h|h|h|h
     ·have:=C.low j (.inl h);exact⟨by omega,by omega⟩
     ·have:=C.low j (.inr h);exact⟨by omega,by omega⟩
     ·exact⟨by omega,by omega⟩
     ·exact⟨by omega,by omega⟩
     ·exact⟨by omega,by omega⟩) h1 ⟨XZ,X2.same (k3.tt ku),rfl⟩
   (fun v B bb ov A n cp E e ce t1 t2 t3 t4 t5=>hK v q B sm bb ov A n cp E e ce t1 t2 (by omega) (by omega) (fun a ha=>by have:=t3 a ha;have:=(kl.tt ku).size;omega) ⟨by have:=(kl.tt ku).size;have:=t4.1;omega,t4.2⟩ ((kl.tt ku).trans t5 (fun j hj e=>by omega)))
 have JC:∀ {u0:World} {b q:Nat},u0.heap[b]? =some (.cells #[.pointer none] dO (0,0))->Wr u0 ⟨b,0,none⟩/\∀u1,u1=u0.setCell ⟨b,0,none⟩ (.pointer (some ⟨q,0,none⟩))->u1.heap[b]? =some (.cells #[.pointer (some ⟨q,0,none⟩)] dO (0,0))/\Kept (· =b) u0 u1:=fun {u0 b q} hb=>⟨dK hb (by simp),fun u1 e=>by
  subst e;refine⟨?_,Kept.setCell (S:=(· =b)) (Kept.refl _ u0) (p:=⟨b,0,none⟩) (fun _=>rfl) _⟩;rw [cX hb 0];rfl⟩
 refine⟨?_,?_⟩
 ·intro w4
  have k4:Kept Nil w3 w4:=(Kept.refl _ _).alloc _;have U3:dW w4 w3.heap.size (fun _=>none):=dW.new w3;clear_value w4;have l4:=U3.lt;refine⟨nN k4,(C3.same k4).oL hs,vy k4,(C3.same k4).c2,mH k4,vy k4,?_⟩;rw [vf];refine Is.mk rfl ⟨?_,?_⟩
  ·intro w5 w6
   have k5:Kept Nil w4 w5:=(Kept.refl _ _).alloc _;have YQ:w5.heap[w4.heap.size]? =some (.cells (dS ⟨s,G.score s+1,[],[]⟩ none 0 0 none 0 0++ #[.map (some w3.heap.size)]) df (0,0)):=aR w4 _;have k6:Kept Nil w5 w6:=(Kept.refl _ _).alloc _;have pQ:w6.heap[w5.heap.size]? =some (.cells #[.pointer none] dO (0,0)):=aR w5 _;clear_value w6;have OM:=k6.heap YQ (fun h=>h);have l5:=aZ YQ;clear_value w5;have Ie:=k5.tt k6;have qw:=k4.tt Ie;have XE:=qw.size;obtain⟨t1,t2⟩:=JC (q:=w4.heap.size) pQ;refine⟨t1,?_⟩;intro w7;obtain⟨t3,t4⟩:=t2 w7 rfl;clear_value w7;exact go (qw.trans t4 (fun j hj e=>by omega)) (by omega) (by omega) (by omega) (by omega) (by omega) (by omega) (t4.heap OM (by omega)) ((U3.same Ie).aK t4 (by omega)) t3
  ·intro w5
   have k5:Kept Nil w4 w5:=(Kept.refl _ _).alloc _;have vG:w5.heap[w4.heap.size]? =some (.cells #[.pointer none] dO (0,0)):=aR w4 _;clear_value w5;have l5:=aZ vG;have lQ:=k4.tt k5;refine⟨nN lQ,(C3.same lQ).oL hs,vy lQ,(C3.same lQ).c2,mH lQ,vy lQ,?_⟩;intro w6;have k6:Kept Nil w5 w6:=(Kept.refl _ _).alloc _;have OM:w6.heap[w5.heap.size]? =some (.cells (dS ⟨s,G.score s+1,[],[]⟩ none 0 0 none 0 0++ #[.map (some w3.heap.size)]) df (0,0)):=aR w5 _;clear_value w6;have Ie:=k5.tt k6;have qw:=k4.tt Ie;have S9:=lQ.size;obtain⟨t1,t2⟩:=JC (q:=w5.heap.size) (k6.heap vG (fun h=>h));refine⟨t1,?_⟩;intro w7;obtain⟨t3,t4⟩:=t2 w7 rfl;clear_value w7;exact go (qw.trans t4 (fun j hj e=>by omega)) (by omega) (by omega) (by omega) (by omega) (by omega) (by omega) (t4.heap OM (by omega)) ((U3.same Ie).aK t4 (by omega)) t3
 ·intro w4
  have k4:Kept Nil w3 w4:=(Kept.refl _ _).alloc _;have AS:w4.heap[w3.heap.size]? =some (.cells #[.pointer none] dO (0,0)):=aR w3 _;clear_value w4;have l4:=aZ AS;refine⟨nN k4,(C3.same k4).oL hs,vy k4,(C3.same k4).c2,mH k4,vy k4,?_⟩;intro w5;have k5:Kept Nil w4 w5:=(Kept.refl _ _).alloc _;have Y6:dW w5 w4.heap.size (fun _=>none):=dW.new w4;clear_value w5;have l5:=Y6.lt;have lQ:=k4.tt k5;refine⟨nN lQ,(C3.same lQ).oL hs,vy lQ,(C3.same lQ).c2,mH lQ,vy lQ,?_⟩;rw [vf];refine Is.mk rfl ?_;intro w6;have k6:Kept Nil w5 w6:=(Kept.refl _ _).alloc _;have OM:w6.heap[w5.heap.size]? =some (.cells (dS ⟨s,G.score s+1,[],[]⟩ none 0 0 none 0 0++ #[.map (some w4.heap.size)]) df (0,0)):=aR w5 _;clear_value w6;have qw:=lQ.tt k6;have S9:=lQ.size;obtain⟨t1,t2⟩:=JC (q:=w5.heap.size) ((k5.tt k6).heap AS (fun h=>h));refine⟨t1,?_⟩;intro w7;obtain⟨t3,t4⟩:=t2 w7 rfl;clear_value w7;exact go (qw.trans t4 (fun j hj e=>by omega)) (by omega) (by omega) (by omega) (by omega) (by omega) (by omega) (t4.heap OM (by omega)) ((Y6.same k6).aK t4 (by omega)) t3
end
end Go.Proofs.YtfleamccglihoaaGreatDoor
