import Derived.Test.YtnboahlopghcjaaGreatDoorMP
import Derived.Test.YtnboahlopghcjaaGreatDoorMG
open Go.IntKind (i64 u64)
set_option linter.unusedVariables false
namespace Go.Proofs.YtnboahlopghcjaaGreatDoor
open Go.Proofs.Tryz
open Go Go.bP Go.RowKit
theorem zY:xN prog fT gJ 1 1:=⟨by kernel_rfl,by kernel_rfl⟩
abbrev qM(l:List Bool):List Value:=l.map .bool
structure xO(w:World)(B q sm:Nat)(c:nW)(ov:HT->Option Nat)(A:Option Addr)(n cp:Nat)(E:Option Addr)(e ce:Nat):Prop where
 top:w.heap[q]? =some (.cells (cD c A n cp E e ce++ #[.map (some sm)]) dH (0,0))
 mg:bQ w B A n cp c.merge
 bl:Row w B gJ 1 E e ce (qM c.dJ)
 ov:fj w sm (Je ov)
 qB:q<B
 sB:sm<B
 qs:q≠sm
 AE:∀j,a8 A=some j->a8 E≠some j
section
variable{w w':World}{B q sm:Nat}{c:nW}{ov:HT->Option Nat}{A E:Option Addr}{n cp e ce:Nat}{K:Value->World->Prop}
theorem xO.aD{S:Nat->Prop}(h:xO w B q sm c ov A n cp E e ce)(hk:Kept S w w')(h1:¬S q)(h2:¬S sm)(h3:∀j,B<=j->¬S j):xO w' B q sm c ov A n cp E e ce:=
 ⟨hk.heap h.top h1,Row.aD h.mg hk (fun j hj=>h3 j (Row.bC h.mg hj).1),Row.aD h.bl hk (fun j hj=>h3 j (Row.bC h.bl hj).1),h.ov.aD hk h2,h.qB,h.sB,h.qs,h.AE⟩
theorem xO.same(h:xO w B q sm c ov A n cp E e ce)(hk:Kept Nil w w'):xO w' B q sm c ov A n cp E e ce:=h.aD hk (fun h=>h) (fun h=>h) (fun _ _ h=>h)
theorem xO.f33(h:xO w B q sm c ov A n cp E e ce):w.cell? (((⟨q,0,none⟩:Addr).add 0).add 33)=some (.slice A n cp):=by rw [add_zero,a7,ay h.top];exact(fe ..).2.1
theorem xO.ach(h:xO w B q sm c ov A n cp E e ce):∀j,a8 A=some j\/a8 E=some j->B<=j/\j<w.heap.size:=fun j hj=>by
 rcases hj with hj|hj
 ·obtain⟨h1,cur,h2⟩:=Row.bC h.mg hj;exact⟨h1,aS h2⟩
 ·obtain⟨h1,cur,h2⟩:=Row.bC h.bl hj;exact⟨h1,aS h2⟩
theorem p8(c:nW)(A:Option Addr)(n cp:Nat)(E:Option Addr)(e ce:Nat)(r:Array Value)(A':Option Addr)(n' vu:Nat):
 (cD c A n cp E e ce++r).setIfInBounds (0+33) (.slice A' n' vu)=cD c A' n' vu E e ce++r:=by
 have h0:c.jt.1.size=32:=c.jt.2.1;apply Array.ext';unfold cD;simp only [Array.toList_setIfInBounds,Array.toList_append,List.append_assoc];rw [List.set_append_right _ _ (by simp [h0])];simp [h0]
theorem p7(c:nW)(A:Option Addr)(n cp:Nat)(E:Option Addr)(e ce:Nat)(r:Array Value)(E':Option Addr)(n' vu:Nat):
 (cD c A n cp E e ce++r).setIfInBounds (0+34) (.slice E' n' vu)=cD c A n cp E' n' vu++r:=by
 have h0:c.jt.1.size=32:=c.jt.2.1;apply Array.ext';unfold cD;simp only [Array.toList_setIfInBounds,Array.toList_append,List.append_assoc];rw [List.set_append_right _ _ (by simp [h0])];simp [h0]
theorem uL(c:nW)(A:Option Addr)(n cp:Nat)(E:Option Addr)(e ce:Nat)(r:Array Value)(s:Nat):
 (cD c A n cp E e ce++r).setIfInBounds (0+32) (.int .u64 (s:Int))=cD {c with score:=s} A n cp E e ce++r:=by
 have h0:c.jt.1.size=32:=c.jt.2.1;apply Array.ext';unfold cD;simp only [Array.toList_setIfInBounds,Array.toList_append,List.append_assoc];rw [List.set_append_right _ _ (by simp [h0])];simp [h0]
theorem xO.Rf(h:xO w B q sm c ov A n cp E e ce)(hB:B<=w.heap.size)(hn:n<=100000){x:HT}{b:Nat}(hb:HS w (some ⟨b,0,none⟩) 1 [x]):
 ∃A' vu u,(Builtin.append_ #[az,az] az #[.slice A n cp,.slice (some ⟨b,0,none⟩) 1 1]).run prog w=.ok (.slice A' (n+1) vu) u/\
  Kept (fun j=>B<=j) w u/\xO (u.setCell (((⟨q,0,none⟩:Addr).add 0).add 33) (.slice A' (n+1) vu)) B q sm {c with merge:=c.merge++ [x]} ov A' (n+1) vu E e ce/\
  Kept (fun j=>j=q\/B<=j) w (u.setCell (((⟨q,0,none⟩:Addr).add 0).add 33) (.slice A' (n+1) vu))/\Wr u (((⟨q,0,none⟩:Addr).add 0).add 33):=by
 obtain⟨A',vu,u,hr,eE,hg,hA⟩:=cF az h.mg (cx:=1) hb (by omega) hB;have ku:Kept (fun j=>B<=j) w u:=(Kept.refl _ _).grown hg fun j hj _=>(Row.bC h.mg hj).1;have kA:Kept (fun j=>a8 A=some j) w u:=(Kept.refl _ _).grown hg fun j hj _=>hj;have qB:=h.qB;have sB:=h.sB;have iH:=ku.heap h.top (by omega);have xJ:Row u B gJ 1 E e ce (qM c.dJ):=Row.aD h.bl kA (fun j hj e=>h.AE j e hj);have po:Kept (· =q) u (u.setCell (((⟨q,0,none⟩:Addr).add 0).add 33) (.slice A' (n+1) vu)):=by
  rw [add_zero,a7];exact Kept.setCell (S:=(· =q)) (Kept.refl _ u) (p:=⟨q,0+33,none⟩) (fun _=>rfl) _
 have gL:∀ {X:Option Addr} {j:Nat},(∀k,a8 X=some k->B<=k)->a8 X=some j->¬j=q:=fun h hj e=>by have:=h _ hj;omega
 refine⟨A',vu,u,hr,ku,⟨?_,?_,?_,?_,qB,sB,h.qs,?_⟩,?_,?_⟩
 ·show(u.setCell (((⟨q,0,none⟩:Addr).add 0).add 33) (.slice A' (n+1) vu)).heap[q]? =_
  rw [add_zero,a7,cS iH,p8];rfl
 ·exact Row.aD eE po (fun j hj=>gL (fun k hk=>(Row.bC eE hk).1) hj)
 ·exact Row.aD xJ po (fun j hj=>gL (fun k hk=>(Row.bC xJ hk).1) hj)
 ·exact(h.ov.aD ku (by omega)).aD po (fun e=>h.qs e.symm)
 ·intro j hj he
  rcases hA j hj with h1|h1
  ·exact h.AE j h1 he
  ·have:=(h.ach j (.inr he)).2;omega
 ·exact(ku.mono fun _ _ h=>.inr h).trans po (fun _ _ e=>.inl e)
 ·rw [add_zero,a7]
  exact dK iH (by rw [Array.size_append,aW];simp)
end
structure lM(w:World)(B q sm bb:Nat)(c:nW)(ov:HT->Option Nat)(A:Option Addr)(n cp:Nat)(E:Option Addr)(e ce:Nat):Prop where
 top:w.heap[q]? =some (.cells (cD c A n cp E e ce++ #[.map (some sm)]) dH (0,0))
 mg:HS w A n c.merge
 mA:∀a,A=some a->a.block<B/\a.block≠q/\a.block≠sm/\a.block≠bb
 bl:Row w B gJ 1 E e ce (qM c.dJ)
 ov:fj w sm (Je ov)
 qB:q<B
 sB:sm<B
 bB:bb<B
 qs:q≠sm/\q≠bb/\sm≠bb
section
variable{w w':World}{B q sm bb:Nat}{c:nW}{ov:HT->Option Nat}{A E:Option Addr}{n cp e ce:Nat}{K:Value->World->Prop}
theorem lM.aD{S:Nat->Prop}(h:lM w B q sm bb c ov A n cp E e ce)(hk:Kept S w w')(h1:¬S q)(h2:¬S sm)(h3:∀j,B<=j->j<w.heap.size->¬S j)(h4:∀a,A=some a->¬S a.block):lM w' B q sm bb c ov A n cp E e ce:=
 ⟨hk.heap h.top h1,h.mg.aD hk h4,h.mA,Row.aD h.bl hk (fun j hj=>by obtain⟨g1,cur,g2⟩:=Row.bC h.bl hj;exact h3 j g1 (aS g2)),h.ov.aD hk h2,h.qB,h.sB,h.bB,h.qs⟩
theorem lM.same(h:lM w B q sm bb c ov A n cp E e ce)(hk:Kept Nil w w'):lM w' B q sm bb c ov A n cp E e ce:=h.aD hk (fun h=>h) (fun h=>h) (fun _ _ _ h=>h) (fun _ _ h=>h)
theorem lM.f32(h:lM w B q sm bb c ov A n cp E e ce):w.cell? (((⟨q,0,none⟩:Addr).add 0).add 32)=some (.int .u64 (c.score:Int)):=by rw [add_zero,a7,ay h.top];exact(fe ..).1
theorem lM.f33(h:lM w B q sm bb c ov A n cp E e ce):w.cell? (((⟨q,0,none⟩:Addr).add 0).add 33)=some (.slice A n cp):=by rw [add_zero,a7,ay h.top];exact(fe ..).2.1
theorem lM.f34(h:lM w B q sm bb c ov A n cp E e ce):w.cell? (((⟨q,0,none⟩:Addr).add 0).add 34)=some (.slice E e ce):=by rw [add_zero,a7,ay h.top];exact(fe ..).2.2.1
theorem lM.f35(h:lM w B q sm bb c ov A n cp E e ce):w.cell? ((⟨q,0,none⟩:Addr).add 35)=some (.map (some sm)):=by rw [a7,ay h.top];exact(fe ..).2.2.2
theorem lM.wr(h:lM w B q sm bb c ov A n cp E e ce){j:Nat}(hj:j<36):Wr w (((⟨q,0,none⟩:Addr).add 0).add j):=by
 rw [add_zero,a7];exact dK h.top (by rw [Array.size_append,aW];simp;omega)
theorem lM.Q2{h:lM w B q sm bb c ov A n cp E e ce}(j:Nat)(v:Value):Kept (· =q) w (w.setCell (((⟨q,0,none⟩:Addr).add 0).add j) v):=by
 rw [add_zero,a7];exact Kept.setCell (S:=(· =q)) (Kept.refl _ w) (p:=⟨q,0+j,none⟩) (fun _=>rfl) _
theorem lM.F8(h:lM w B q sm bb c ov A n cp E e ce)(hB:B<=w.heap.size)(hn:e<=100000){x:Bool}{b:Nat}(hb:w.cell? ⟨b,0,none⟩=some (.bool x)):
 ∃E' qU u,(Builtin.append_ #[fT,fT] fT #[.slice E e ce,.slice (some ⟨b,0,none⟩) 1 1]).run prog w=.ok (.slice E' (e+1) qU) u/\
  Kept (fun j=>B<=j/\a8 E=some j) w u/\Wr u (((⟨q,0,none⟩:Addr).add 0).add 34)/\
  lM (u.setCell (((⟨q,0,none⟩:Addr).add 0).add 34) (.slice E' (e+1) qU)) B q sm bb {c with dJ:=c.dJ++ [x]} ov A n cp E' (e+1) qU/\
  Kept (fun j=>j=q\/a8 E=some j) w (u.setCell (((⟨q,0,none⟩:Addr).add 0).add 34) (.slice E' (e+1) qU))/\(∀j,a8 E'=some j->a8 E=some j\/w.heap.size<=j):=by
 obtain⟨E',qU,u,hr,eE,hg,hE⟩:=eN (P:=prog) (t:=fT) (bytes:=1) (ty:=fT) zY h.bl (a:=⟨b,0,none⟩) (m:=1) (cx:=1) (news:= [.bool x]) rfl (fun j v hj=>by
  cases j with
  |zero=>simp only [List.getElem?_cons_zero,Option.some.injEq]at hj;subst hj;rw [add_zero];exact hb
  |succ j=>simp at hj) (fun v hv=>by
  have:v=.bool x:=by simpa using hv
  subst this;rfl) (by omega) (by unfold maxLen;omega) hB
 have qB:=h.qB;have sB:=h.sB;have kE:Kept (fun j=>B<=j/\a8 E=some j) w u:=(Kept.refl _ _).grown hg fun j hj _=>⟨(Row.bC h.bl hj).1,hj⟩;have iH:=kE.heap h.top (by omega);have po:Kept (· =q) u (u.setCell (((⟨q,0,none⟩:Addr).add 0).add 34) (.slice E' (e+1) qU)):=by
  rw [add_zero,a7];exact Kept.setCell (S:=(· =q)) (Kept.refl _ u) (p:=⟨q,0+34,none⟩) (fun _=>rfl) _
 refine⟨E',qU,u,hr,kE,?_,⟨?_,?_,h.mA,?_,?_,qB,sB,h.bB,h.qs⟩,?_,hE⟩
 ·rw [add_zero,a7]
  exact dK iH (by rw [Array.size_append,aW];simp)
 ·show(u.setCell (((⟨q,0,none⟩:Addr).add 0).add 34) (.slice E' (e+1) qU)).heap[q]? =_
  rw [add_zero,a7,cS iH,p7];rfl
 ·exact(h.mg.aD kE (fun a ha=>by have:=(h.mA a ha).1;omega)).aD po (fun a ha=>(h.mA a ha).2.1)
 ·have e1:qM (c.dJ++ [x])=qM c.dJ++ [.bool x]:=by simp [qM]
  show Row _ B gJ 1 E' (e+1) qU (qM (c.dJ++ [x]))
  rw [e1];exact Row.aD eE po (fun j hj=>by have:=(Row.bC eE hj).1;omega)
 ·exact(h.ov.aD kE (by omega)).aD po (fun e=>h.qs.1 e.symm)
 ·exact(kE.mono fun _ _ h=>.inr h.2).trans po (fun _ _ e=>.inl e)
theorem lM.MM(h:lM w B q sm bb c ov A n cp E e ce)(s:Nat):
 lM (w.setCell (((⟨q,0,none⟩:Addr).add 0).add 32) (.int .u64 (s:Int))) B q sm bb {c with score:=s} ov A n cp E e ce/\Kept (· =q) w (w.setCell (((⟨q,0,none⟩:Addr).add 0).add 32) (.int .u64 (s:Int))):=by
 have qB:=h.qB;have po:=lM.Q2 (h:=h) 32 (.int .u64 (s:Int));refine⟨⟨?_,h.mg.aD po (fun a ha=>(h.mA a ha).2.1),h.mA,Row.aD h.bl po (fun j hj=>by have:=(Row.bC h.bl hj).1;omega),h.ov.aD po (fun e=>h.qs.1 e.symm),h.qB,h.sB,h.bB,h.qs⟩,po⟩;rw [add_zero,a7,cS h.top,uL]
theorem lM.note(h:lM w B q sm bb c ov A n cp E e ce)(b:HT)(n0:Nat):
 ∃u,(Instr.mapUpdate ck (.map (some sm)) (.agg b.1) (.int .i64 (n0:Int))).run prog w=.ok () u/\lM u B q sm bb c (fun y=>if y=b then some n0 else ov y) A n cp E e ce/\Kept (· =sm) w u:=by
 have sB:=h.sB;obtain⟨u,hr,hm,hk⟩:=h.ov.put qu b (.int .i64 (n0:Int));refine⟨u,hr,⟨hk.heap h.top h.qs.1,h.mg.aD hk (fun a ha=>(h.mA a ha).2.2.1),h.mA,Row.aD h.bl hk (fun j hj=>by have:=(Row.bC h.bl hj).1;omega),?_,h.qB,h.sB,h.bB,h.qs⟩,hk⟩;have e1:Je (fun y=>if y=b then some n0 else ov y)=fun x=>if x=b then some (.int .i64 (n0:Int))else Je ov x:=by
  funext y
  unfold Je;by_cases e:y=b
  ·simp only [if_pos e,Option.map_some]
  ·simp only [if_neg e]
 rw [e1];exact hm
end
noncomputable def jE(k:Nat)(G:GS)(s:HT)(l:List HT)(i:Nat):VS:=((cf G s l).take i).foldl (jR k G.D) ⟨G.world s++ [s],[]⟩
structure V2(y v:World)(k:Nat)(G:GS)(s:HT)(l:List HT)(base:HT->Nat)(q sm bb:Nat)(A:Option Addr)(n cp i:Nat):Prop where
 ex:∃(ov:HT->Option Nat) (E:Option Addr) (e ce:Nat) (Ab:Option Addr) (nb cb:Nat) (bl:List HT),
  lM v y.heap.size q sm bb ⟨s,G.score s+1+(jE k G s l i).bl.count true,cf G s l,(jE k G s l i).bl⟩ ov A n cp E e ce/\
  v.heap[bb]? =some (.cells #[.slice Ab nb cb] az (0,0))/\bQ v y.heap.size Ab nb cb bl/\(jE k G s l i).wd=G.world s++ [s]++bl/\(∀j,a8 Ab=some j->a8 E≠some j)/\
  OV G.D (jE k G s l i).wd ov base/\(jE k G s l i).wd.Nodup/\(∀z∈bl,z∈(cf G s l).take i)/\e=i
 kp:Kept (fun j=>j=q\/j=sm\/j=bb) y v
theorem lM.Gs{w w':World}{B q sm bb:Nat}{c:nW}{ov:HT->Option Nat}{A E:Option Addr}{n cp e ce:Nat}{S:Nat->Prop}(h:lM w B q sm bb c ov A n cp E e ce)(hk:Kept S w w')(h1:¬S q)(h2:¬S sm)(h3:∀j,a8 E=some j->¬S j)(h4:∀a,A=some a->¬S a.block):lM w' B q sm bb c ov A n cp E e ce:=
 ⟨hk.heap h.top h1,h.mg.aD hk h4,h.mA,Row.aD h.bl hk h3,h.ov.aD hk h2,h.qB,h.sB,h.bB,h.qs⟩
theorem xV{k:Nat}{G:GS}{s:HT}{l:List HT}{i:Nat}{x:HT}(hx:(cf G s l)[i]? =some x):jE k G s l (i+1)=jR k G.D (jE k G s l i) x:=by
 unfold jE;have e:(cf G s l).take (i+1)=(cf G s l).take i++ [x]:=by rw [List.take_add_one,hx];rfl
 rw [e,List.foldl_append];rfl
theorem BQ(k:Nat)(G:GS)(s:HT)(l:List HT)(i:Nat)(hi:i<=(cf G s l).length):(jE k G s l i).bl.length=i:=by
 obtain⟨b,h1,h2⟩:=FA k G.D (G.world s++ [s]) ((cf G s l).take i);unfold jE;rw [h2];show b.length=i
 rw [h1,List.length_take];omega
theorem BR(k:Nat)(G:GS)(s:HT)(l:List HT):jE k G s l (cf G s l).length=dv k G s l:=by
 unfold jE dv;rw [List.take_of_length_le (Nat.le_refl _)]
section
variable{y v w w':World}{F:Nat->Prop}{c k:Nat}{G:GS}{m:CM}{s:HT}{l ch:List HT}{bs bc bh q sm bb kb n cp:Nat}{A:Option Addr}{K:Value->World->Prop}
set_option maxHeartbeats 4000000 in
theorem zQ(C:CV y F c k G m)(hD:G.D.length<=5000)(nP:k<=1000)(hs:s∈ids G.D)(hc:cY G.D G.P s ch)(hM:∀x∈cf G s l,x∈ids G.D)
 (V:VB y c s bs bc bh q sm (fun _=>none)) (LP:y.heap[kb]? =some (.cells #[.func (.func bS.id) #[] #[.pointer (some ⟨bs,0,none⟩),.pointer (some ⟨bc,0,none⟩),.pointer (some ⟨bh,0,none⟩)]] eW (0,0)))
 (gL:∀j,(m.own c j\/F j\/j=bs\/j=bc\/j=bh\/j=kb)->j≠q/\j≠sm/\j≠bb)
 (h0:V2 y y k G s l (lO m.sz ch) q sm bb A n cp 0) (hn:n<=5000)
 (hK:∀v ov E e ce,lM v y.heap.size q sm bb (cG k G s l) ov A n cp E e ce->OV G.D (dv k G s l).wd ov (lO m.sz ch)->Kept (fun j=>j=q\/j=sm\/j=bb) y v->K (.pointer (some ⟨q,0,none⟩)) v):
 Holds none [] prog 153 (.loop (lB (bB (sR (sL (sR (sR (sR (sR (sR (sR (sR (sR (body ai.fn)))))))))))))) (ai.q2 K)
  [(3,.pointer (some ⟨bc,0,none⟩)),(6,.pointer none),(8,.pointer (some ⟨bs,0,none⟩)),(11,.pointer (some ⟨bb,0,none⟩)),(12,.func (.func ag.id) #[] #[.pointer (some ⟨bb,0,none⟩),.pointer (some ⟨bc,0,none⟩),.pointer (some ⟨bh,0,none⟩)]),(13,.pointer (some ⟨kb,0,none⟩)),(92,.slice A n cp),(93,.int .i64 (n:Int)),(94,.int .i64 0)] y:=by
 have W:=C.eM.W;have hmn:(cf G s l).Nodup:=(jz G s l).nodup;have TA:(cf G s l).length=n:=by obtain⟨_,_,_,_,_,_,_,_,h,_⟩:=h0.ex;exact h.mg.len
 have lbs:=aS V.hs;have lbc:=aS V.hc;have lbh:=aS V.hh;have lkb:=aS LP;have WY:=gL bs (.inr (.inr (.inl rfl)));have W1:=gL bc (.inr (.inr (.inr (.inl rfl))));have WZ:=gL bh (.inr (.inr (.inr (.inr (.inl rfl)))));have fkb:=gL kb (.inr (.inr (.inr (.inr (.inr rfl)))));refine ai.gw (I:=fun s0 v=>∃i:Nat,s0=(i:Int)/\i<=n/\V2 y v k G s l (lO m.sz ch) q sm bb A n cp i) (μ:=fun s0 _=>((n:Int)-s0).toNat) (s:=0) ⟨0,rfl,Nat.zero_le _,h0⟩ ?_;rintro s0 v ⟨i,rfl,hi,hV⟩;obtain⟨ov,E,e,ce,Ab,nb,cb,bl,hS,vq,eE,P9,hAE,hO,eF,rz,Z2⟩:=hV.ex;have kv:=hV.kp;have sv:=kv.size;refine Split.dec (fun iU=>?_) (fun fU=>?_)
 ·have dW:i<n:=by omega
  obtain⟨x,hx⟩:∃x,(cf G s l)[i]? =some x:=⟨_,List.getElem?_eq_getElem (by omega)⟩;have P7:=hM x (List.mem_of_getElem? hx);have Wk:x∉(jE k G s l i).wd:=by
   rw [P9];intro hm;obtain⟨_,g1,g2⟩:=ig.1 (List.mem_of_getElem? hx);rcases List.mem_append.1 hm with hm|hm
   ·rcases List.mem_append.1 hm with hm|hm
    ·exact g2 ((C.eM.wd s hs).2.1 x hm)
    ·exact g1 (by simpa using hm)
   ·have h1:=rz x hm
    obtain⟨j,hj⟩:=List.mem_iff_getElem?.1 h1;rw [List.getElem?_take]at hj;split at hj
    ·rename_i II
     have h2:=(lgeS hj);have h3:=(lgeS hx);have:=(List.getElem_inj hmn).1 (h2.2.trans h3.2.symm);omega
    ·cases hj
  have pq:=xV (k:=k) hx;refine hS.mg.load (i:=(i:Int)) (by omega) hx ?_;intro lN;obtain⟨sH,jh,jB⟩:=gM (w:=v) (z:=dU.1) (cs:=x.1) (t:=aj) (by rw [x.2.1];rfl);refine⟨⟨x.2.1,x.2.one,fun j hj=>sH j (by rw [x.2.1];exact hj)⟩,?_⟩;intro gX
  replace jh:gX.heap[v.heap.size]? =some (.cells x.1 aj (0,0)):=jh
  replace jB:Kept Nil v gX:=jB
  clear_value gX;intro mn jk;have sg:Kept Nil gX mn:=(Kept.refl _ _).alloc _;have Ts:fj mn gX.heap.size (fun _=>none):=fj.new gX;have nv:Kept Nil mn jk:=(Kept.refl _ _).alloc _;have OR:jk.heap[mn.heap.size]? =some (.cells #[.map none] ck (0,0)):=aJ mn _;refine⟨dK OR (by simp),?_⟩;intro vJ;have Ua:vJ.heap[mn.heap.size]? =some (.cells #[.map (some gX.heap.size)] ck (0,0)):=by
   show(jk.setCell ⟨mn.heap.size,0,none⟩ (.map (some gX.heap.size))).heap[mn.heap.size]? =_;rw [cS OR 0];rfl
  have GD:Kept (· =mn.heap.size) jk vJ:=Kept.setCell (S:=(· =mn.heap.size)) (Kept.refl _ jk) (p:=⟨mn.heap.size,0,none⟩) (fun _=>rfl) _;clear_value vJ;have s14:=jB.size;have s15:=sg.size;have l14:=aS jh;have l15:=Ts.lt;have l16:=aS OR;have GJ:Kept Nil gX vJ:=⟨GD.os.trans (sg.tt nv).os,GD.tape.trans (sg.tt nv).tape,GD.output.trans (sg.tt nv).output,Nat.le_trans (sg.tt nv).size GD.size,fun j hj hn=>by rw [GD.block j (Nat.lt_of_lt_of_le hj (sg.tt nv).size) (by omega),(sg.tt nv).block j hj hn]⟩;have ZN:fj vJ gX.heap.size (fun _=>none):=(Ts.same nv).aD GD (by omega);have LY:=GJ.heap jh (fun h=>h);clear_value jk mn;have Js:Kept Nil v vJ:=jB.tt GJ;have DZ:Kept (fun j=>j=q\/j=sm\/j=bb) y vJ:=kv.trans Js (fun _ _ h=>h.elim);have Pg:=hS.same Js;have C17:CV vJ F c k G m:=C.aD DZ (fun j hj e=>by have:=gL j (.inl hj);omega) (fun j hj e=>by have:=gL j (.inr (.inl hj));omega);have V17:VB vJ c s bs bc bh q sm ov:=⟨DZ.heap V.hs (by omega),DZ.heap V.hc (by omega),DZ.heap V.hh (by omega),Pg.f35,Pg.ov⟩;have TH:=DZ.heap LP (by omega);have Hc:bQ vJ y.heap.size Ab nb cb bl:=Row.aD eE Js (fun _ _ h=>h);have L9:=Js.heap vq (fun h=>h);refine⟨x.1,⟨x.2.1,Cells.bC LY⟩,?_⟩;have qB:=hS.qB;have sB:=hS.sB;have bB:=hS.bB;have Hz:∀b∈(jE k G s l i).wd,qy ov (lO m.sz ch) b=(bJ G.D (jE k G s l i).wd b).length:=hO.kn;have sK:=eF;rw [P9]at sK;obtain⟨c1,c2,c3⟩:=KH C.eM (h:=x) hs hc sK;rw [<-P9]at c2 c3;have Ut:=eE.len;have Tg:nb<=5000:=by
   have h1:=cI (m:=cf G s l) (List.nodup_append.1 sK).2.1 (fun z hz=>List.mem_of_mem_take (rz z hz));omega
  have Pn:∀a,Ab=some a->a.block<gX.heap.size:=fun a ha=>by
   subst ha;obtain⟨_,cur,h1⟩:=Row.bC eE (k:=a.block) rfl;have:=aS h1;omega
  refine y9 (p:=⟨bs,bc,bh,q,sm,kb,mn.heap.size,gX.heap.size,0,0⟩) ⟨C17,V17,TH,Ua,(fun e=>by have:gX.heap.size<y.heap.size:=C.low _ (.inl e);omega),(fun e=>by have:gX.heap.size<y.heap.size:=C.low _ (.inr e);omega),(show bs≠gX.heap.size/\bc≠gX.heap.size/\bh≠gX.heap.size/\q≠gX.heap.size/\sm≠gX.heap.size/\kb≠gX.heap.size/\mn.heap.size≠gX.heap.size from⟨by omega,by omega,by omega,by omega,by omega,by omega,by omega⟩)⟩ hD nP hs hc (h:=x) L9 (by show bb≠gX.heap.size;omega) Hc.hs (fun a ha=>by have:=Pn a ha;show a.block≠gX.heap.size;omega) (by omega) (by
   show fj vJ gX.heap.size _
   have e0:(fun y=>if y∈([]:List HT)then some (Value.int .i64 (qy ov (lO m.sz ch) y:Int))else none)=fun _=>none:=by funext y;simp
   rw [e0];exact ZN) c1 fun Db r hr hFr zE=>⟨r,rfl,?_⟩
  replace zE:Kept (· =gX.heap.size) vJ Db:=zE
  have LZ:r=lI k G.D (jE k G s l i).wd x:=by rw [hr];exact H4 Hz c2 c3
  have U7:∀j,a8 E=some j->y.heap.size<=j/\j<v.heap.size:=fun j hj=>by obtain⟨g1,cur,g2⟩:=Row.bC hS.bl hj;exact⟨g1,aS g2⟩
  have HG:∀j,a8 Ab=some j->y.heap.size<=j/\j<v.heap.size:=fun j hj=>by obtain⟨g1,cur,g2⟩:=Row.bC eE hj;exact⟨g1,aS g2⟩
  have s17:=GJ.size;have aba:=Pg.Gs zE (by omega) (by omega) (fun j hj=>by have:=U7 j hj;omega) (fun a ha=>by have:=(hS.mA a ha).1;omega);have Oa:bQ Db y.heap.size Ab nb cb bl:=Row.aD Hc zE (fun j hj=>by have:=HG j hj;omega);have Jp:Kept (fun j=>j=q\/j=sm\/j=bb) y Db:=DZ.trans zE (fun j hj e=>by omega);have Uy:=zE.heap L9 (by omega);have Uo:=zE.heap LY (by omega);have aam:=zE.heap Ua (by omega);intro xS;have GB:Kept Nil Db xS:=(Kept.refl _ _).drew;clear_value xS;have HD:=aba.same GB;have yG:=Jp.trans GB (fun _ _ h=>h.elim);have yU:∀ {u:World} {S:Nat->Prop},Kept S y u->¬S bs->u.cell? ⟨bs,0,none⟩=some (.pointer (some ⟨q,0,none⟩)):=fun ku hb=>by rw [ay (ku.heap V.hs hb)];rfl
  have K3:¬(bs=q\/bs=sm\/bs=bb):=by omega
  have s21:=yG.size;refine⟨_,yU yG K3,_,yU yG K3,E,e,ce,HD.f34,?_⟩;intro kW;have pF:Kept Nil xS kW:=(Kept.refl _ _).alloc _;have Kp:kW.heap[xS.heap.size]? =some (.cells #[.bool r] gJ (0,0)):=aJ xS _;clear_value kW;have HC:=HD.same pF;have uf:=yG.trans pF (fun _ _ h=>h.elim);have VZ:=uf.size;obtain⟨E',qU,u,Sv,kE,YF,HB,k5,hE5⟩:=HC.F8 (by omega) (by omega) (x:=r) (b:=xS.heap.size) (by rw [ay Kp];rfl);have XY:Kept (fun j=>j=q\/j=sm\/j=bb) y u:=uf.trans kE (fun j hj e=>by have:=U7 j e.2;omega);refine⟨HC.f34,yU uf K3,yU uf K3,E',e+1,qU,u,Sv,yU XY K3,YF,?_⟩;intro u7
  replace HB:lM u7 y.heap.size q sm bb _ ov A n cp E' (e+1) qU:=HB
  replace k5:Kept (fun j=>j=q\/a8 E=some j) kW u7:=k5
  clear_value u7;have MZ:Kept (fun j=>j=q\/j=sm\/j=bb) y u7:=uf.trans k5 (fun j hj e=>by
   rcases e with e|e
   ·exact .inl e
   ·have:=U7 j e;omega)
  have GC:Kept (fun j=>j=q\/a8 E=some j) Db u7:=((GB.tt pF).mono fun _ _ h=>h.elim).tt k5;have acC:=(GB.tt pF).size;have s20:=zE.size;have Hb:bQ u7 y.heap.size Ab nb cb bl:=Row.aD Oa GC (fun j hj e=>by
   have:=HG j hj;rcases e with e|e
   ·omega
   ·exact hAE j hj e)
  have L8:=GC.heap Uy (fun e=>by
   rcases e with e|e
   ·exact hS.qs.2.1 e.symm
   ·have:=U7 bb e;omega)
  have Po:∀j,a8 Ab=some j->a8 E'≠some j:=fun j hj he=>by
   rcases hE5 j he with h1|h1
   ·exact hAE j hj h1
   ·have:=HG j hj;omega
  have Lu:∀z∈bl,z∈(cf G s l).take (i+1):=fun z hz=>by
   have h1:=rz z hz;rw [List.take_add_one];exact List.mem_append_left _ h1
  cases r with
  |false=>
   refine Split.yes rfl ?_;rw [dh (n:=(i:Int)) (by omega) (by omega)];have xa:jE k G s l (i+1)=⟨(jE k G s l i).wd,(jE k G s l i).bl++ [false]⟩:=by rw [pq,jR,<-LZ];rfl
   refine⟨(i:Int)+1,rfl,⟨i+1,rfl,dW,⟨ov,E',e+1,qU,Ab,nb,cb,bl,?_,L8,Hb,?_,Po,?_,?_,Lu,by omega⟩,MZ⟩,by simp only;omega⟩
   ·rw [xa]
    simpa [List.count_append]using HB
   ·rw [xa];exact P9
   ·rw [xa];exact hO
   ·rw [xa];exact eF
  |true=>
   refine Split.no rfl ?_;have Pj:=hFr rfl
   replace Pj:xA Db gX.heap.size (qy ov (lO m.sz ch)) (nH G x bl ch):=Pj
   have cR:=(oT.1 hr.symm).2;have pG:=cI (m:=ids G.D) c1 (fun z hz=>by
    have h1:=(eK.1 ((c3 z).1 hz)).1;rw [P9]at h1;rcases List.mem_append.1 h1 with h1|h1
    ·rcases List.mem_append.1 h1 with h1|h1
     ·exact(((C.eM.wd s hs).2.1 z h1).mem W).1
     ·have:z=s:=by simpa using h1
      subst this;exact hs
    ·exact hM z (List.mem_of_mem_take (rz z h1)))
   rw [fc]at pG;generalize jg:nH G x bl ch=jM at*;generalize ZW:qy ov (lO m.sz ch)=kn at*;have NV:G.score s<=5000:=by
    have h1:=(C.eM.wd s hs).2.2;have h2:=cI (m:=ids G.D) (C.eM.wd s hs).1 (fun b hb=>(((C.eM.wd s hs).2.1 b hb).mem W).1);rw [fc]at h2;omega
   have aas:(jE k G s l i).bl.count true<=5000:=by
    have h1:=List.count_le_length (a:=true) (l:=(jE k G s l i).bl);rw [BQ k G s l i (by omega)]at h1;omega
   generalize CE:G.score s+1+(jE k G s l i).bl.count true=sc at*;have ew:u64.wrap ((sc:Int)+(1:Int))=((sc+1:Nat):Int):=by
    rw [show(sc:Int)+1=((sc+1:Nat):Int)by omega];exact je (by omega)
   refine⟨_,yU MZ K3,_,HB.f32,HB.wr (by omega),?_⟩;intro sY qR;have aa8:lM sY y.heap.size q sm bb ⟨s,sc+1,cf G s l,(jE k G s l i).bl++ [true]⟩ ov A n cp E' (e+1) qU:=by
    show lM (u7.setCell (((⟨q,0,none⟩:Addr).add 0).add 32) (.int .u64 (u64.wrap ((sc:Int)+(1:Int))))) _ _ _ _ _ _ _ _ _ _ _ _
    rw [ew];exact(HB.MM (sc+1)).1
   have E7:Kept (· =q) u7 sY:=lM.Q2 (h:=HB) 32 _;have Ao:Kept Nil sY qR:=(Kept.refl _ _).drew;clear_value qR sY;have A8:=aa8.same Ao;have Ct:Kept (· =q) u7 qR:=E7.trans Ao (fun _ _ h=>h.elim);have yF:=MZ.trans Ct (fun j hj e=>.inl e);have Cv:Kept (fun j=>j=q\/a8 E=some j) Db qR:=GC.trans Ct (fun j hj e=>.inl e);have HP:∀j,v.heap.size<=j->¬(j=q\/a8 E=some j):=fun j hj e=>by
    rcases e with e|e
    ·omega
    ·have:=U7 j e;omega
   have LX:=Cv.heap Uo (HP _ (Nat.le_refl _));have T9:=Cv.heap aam (HP _ (by omega));have U5:xA qR gX.heap.size kn jM:=Pj.aD Cv (HP _ (by omega));have OE:∀z,(if z∈jM then some (Value.int .i64 (kn z:Int))else none)≠none↔z∈jM:=fun z=>by
    by_cases hz:z∈jM
    ·rw [if_pos hz];exact⟨fun _=>hz,fun _ e=>by cases e⟩
    ·rw [if_neg hz];exact⟨fun e=>absurd rfl e,fun e=>absurd e hz⟩
   obtain⟨sD,Zb,UX,sF⟩:=A8.note x jM.length;have s33:=Cv.size;have X0:=yF.trans sF (fun j hj e=>.inr (.inl e));have abl:xA sD gX.heap.size kn jM:=U5.aD sF (by omega);have aal:=sF.heap T9 (by omega);have Un:=sF.heap LX (by omega);have NY:bQ sD y.heap.size Ab nb cb bl:=Row.aD (Row.aD Hb Ct (fun j hj e=>by have:=HG j hj;omega)) sF (fun j hj e=>by have:=HG j hj;omega);have Uw:=sF.heap (Ct.heap L8 (fun e=>hS.qs.2.1 e.symm)) (fun e=>hS.qs.2.2 e.symm);obtain⟨w38,zL,Za,hit,P4⟩:=abl.range qu;have s36:=sF.size;have s38:=P4.size;refine⟨_,yU yF K3,some sm,A8.f35,x.1,⟨x.2.1,Cells.bC LX⟩,some gX.heap.size,by rw [ay T9];rfl,jM.length,U5.len qu fR c1 OE,sD,Zb,some gX.heap.size,by rw [ay aal];rfl,_,w38,Za,?_⟩;refine ai.qv (I:=fun _ u=>∃left zL K1,nI u gX.heap.size sD.heap.size (fun z=>if z∈jM then some (Value.int .i64 (kn z:Int))else none) left zL/\lM u y.heap.size q sm bb ⟨s,sc+1,cf G s l,(jE k G s l i).bl++ [true]⟩ K1 A n cp E' (e+1) qU/\
    (∀z,(left z->z∈jM)/\(z∈jM->¬left z->K1 z=some (kn z+1))/\((z∉jM\/left z)->K1 z=if z=x then some jM.length else ov z))/\Kept (fun j=>j=sm\/j=sD.heap.size) w38 u) (μ:=fun _ u=>u.rangeLeft gX.heap.size sD.heap.size) (s:=())
    ⟨_,zL,_,hit,UX.same P4,fun z=>⟨fun hz=>(OE z).1 hz,fun hz hl=>absurd ((OE z).2 hz) hl,fun _=>rfl⟩,Kept.refl _ _⟩ ?_
   rintro s1 u3 ⟨left,ajm,K1,OB,Pf,hinv,ku⟩;have Xx:=ku.size;have lit:=OB.lt;have ky3:Kept (fun j=>j=q\/j=sm\/j=bb) y u3:=(X0.trans P4 (fun _ _ h=>h.elim)).trans ku (fun j hj e=>by
    rcases e with e|e
    ·exact .inr (.inl e)
    ·omega)
   rcases OB.next 0 with⟨h0',Tb,iT⟩|⟨z,val,u4,abO,hl,hfz,iT,aao,ZX,cy,k4⟩
   ·refine .inl ⟨u3,iT,?_⟩
    rw [aQ,ai.wE];unfold ai.qQ;have Ux:=ku.heap (P4.heap Uw (fun h=>h)) (by have:=hS.qs;omega);have Es:=ku.heap (P4.heap Un (fun h=>h)) (by omega);have Sx:bQ u3 y.heap.size Ab nb cb bl:=Row.aD (Row.aD NY P4 (fun _ _ h=>h)) ku (fun j hj e=>by have:=HG j hj;omega);refine⟨Ab,nb,cb,by rw [ay Ux];rfl,x.1,⟨x.2.1,Cells.bC Es⟩,x.2.1,?_⟩;intro It;have P3:Kept Nil u3 It:=(Kept.refl _ _).alloc _;have Yz:HS It (some ⟨u3.heap.size,0,none⟩) 1 [x]:=ja u3 x;clear_value It;have s50:=P3.size;have NW:bQ It y.heap.size Ab nb cb bl:=Row.aD Sx P3 (fun _ _ h=>h);obtain⟨A6,c6,Fv,Od,KV,g51,abr⟩:=cF az NW (cx:=1) Yz (by omega) (by omega);have Wh:Kept (fun j=>a8 Ab=some j) It Fv:=(Kept.refl _ _).grown g51 fun j hj _=>hj;have L7:=Wh.heap (P3.heap Ux (fun h=>h)) (fun e=>by have:=HG bb e;omega);refine⟨A6,nb+1,c6,Fv,Od,dK L7 (by simp),?_⟩;intro KR;have Uv:KR.heap[bb]? =some (.cells #[.slice A6 (nb+1) c6] az (0,0)):=by
     show(Fv.setCell ⟨bb,0,none⟩ (.slice A6 (nb+1) c6)).heap[bb]? =_;rw [cS L7 0];rfl
    have Gu:Kept (· =bb) Fv KR:=Kept.setCell (S:=(· =bb)) (Kept.refl _ Fv) (p:=⟨bb,0,none⟩) (fun _=>rfl) _;clear_value KR;have vi:Kept (fun j=>a8 Ab=some j\/j=bb) u3 KR:=((P3.mono fun _ _ h=>h.elim).trans Wh (fun _ _ h=>.inl h):Kept (fun j=>a8 Ab=some j\/j=bb) u3 Fv).trans Gu (fun _ _ h=>.inr h);have aa7:lM KR y.heap.size q sm bb ⟨s,sc+1,cf G s l,(jE k G s l i).bl++ [true]⟩ K1 A n cp E' (e+1) qU:=Pf.Gs vi
     (fun e=>e.elim (fun e=>by have:=HG q e;omega) (fun e=>hS.qs.2.1 e)) (fun e=>e.elim (fun e=>by have:=HG sm e;omega) (fun e=>hS.qs.2.2 e))
     (fun j hj e=>e.elim (fun e=>Po j e hj) (fun e=>by have:=(Row.bC Pf.bl hj).1;omega)) (fun a ha e=>e.elim (fun e=>by have:=HG _ e;have:=(hS.mA a ha).1;omega) (fun e=>(hS.mA a ha).2.2.2 e))
    have rX:bQ KR y.heap.size A6 (nb+1) c6 (bl++ [x]):=Row.aD KV Gu (fun j hj e=>by have:=(Row.bC KV hj).1;omega);rw [dh (n:=(i:Int)) (by omega) (by omega)];have xa:jE k G s l (i+1)=⟨(jE k G s l i).wd++ [x],(jE k G s l i).bl++ [true]⟩:=by rw [pq,jR,<-LZ];rfl
    have Zu:K1=yq G.D (jE k G s l i).wd ov (lO m.sz ch) x:=by
     funext z
     unfold yq;rw [ZW];by_cases hz:z∈jM
     ·rw [if_pos ((c3 z).1 hz)]
      exact(hinv z).2.1 hz (Tb z)
     ·rw [if_neg (fun e=>hz ((c3 z).2 e)),(hinv z).2.2 (.inl hz),c2]
    refine⟨(i:Int)+1,rfl,⟨i+1,rfl,dW,⟨K1,E',e+1,qU,A6,nb+1,c6,bl++ [x],?_,Uv,rX,?_,?_,?_,?_,?_,by omega⟩,?_⟩,by simp only;omega⟩
    ·rw [xa]
     have ec:G.score s+1+((jE k G s l i).bl++ [true]).count true=sc+1:=by rw [List.count_append,<-CE];simp;omega
     show lM KR y.heap.size q sm bb ⟨s,G.score s+1+((jE k G s l i).bl++ [true]).count true,cf G s l,(jE k G s l i).bl++ [true]⟩ K1 A n cp E' (e+1) qU
     rw [ec];exact aa7
    ·rw [xa]
     show(jE k G s l i).wd++ [x]=_;rw [P9,List.append_assoc]
    ·intro j hj he
     rcases abr j hj with h1|h1
     ·exact Po j h1 he
     ·obtain⟨_,cur,h2⟩:=Row.bC Pf.bl he
      have:=aS h2;omega
    ·rw [xa,Zu]
     exact hO.step Wk
    ·rw [xa]
     exact List.nodup_append.2 ⟨eF,by simp,fun a ha b hb e=>by
      have:b=x:=by simpa using hb
      subst this;subst e;exact Wk ha⟩
    ·intro z hz
     rcases List.mem_append.1 hz with hz|hz
     ·exact Lu z hz
     ·have:z=x:=by simpa using hz
      subst this;rw [List.take_add_one,hx];simp
    ·exact ky3.trans vi (fun j hj e=>by
      rcases e with e|e
      ·have:=HG j e;omega
      ·exact .inr (.inr e))
   ·have Yu:=(hinv z).1 hl
    rw [if_pos Yu]at hfz;cases hfz;have hkz:=cR z Yu;refine .inr ⟨_,_,u4,iT,z.1,(kn z:Int),aao,?_⟩;intro Ir;obtain⟨NK,y5,xg⟩:=gM (w:=u4) (z:=dU.1) (cs:=z.1) (t:=aj) (by rw [z.2.1];rfl);refine⟨⟨z.2.1,z.2.one,fun j hj=>NK j (by rw [z.2.1];exact hj)⟩,?_⟩;intro VW PM
    replace y5:VW.heap[u4.heap.size]? =some (.cells z.1 aj (0,0)):=y5
    replace xg:Kept Nil u4 VW:=xg
    have Wc:Kept Nil VW PM:=(Kept.refl _ _).drew;clear_value PM VW;have aaN:=Wc.heap y5 (fun h=>h);have Lc:=xg.tt Wc;have Cq:Kept (· =sD.heap.size) u3 PM:=k4.trans Lc (fun _ _ h=>h.elim);have hE3:∀j,a8 E'=some j->j≠sD.heap.size:=fun j hj e=>by
     obtain⟨_,cur,h2⟩:=Row.bC UX.bl hj;have:=aS h2;omega
    have UU:=Pf.Gs Cq (by omega) (by omega) (fun j hj e=>hE3 j hj e) (fun a ha e=>by have:=(hS.mA a ha).1;omega);have XZ:Kept (fun j=>j=q\/j=sm\/j=bb) y PM:=ky3.trans Cq (fun j hj e=>by omega);have LQ:=ZX.aD Lc (fun h=>h) (fun h=>h);obtain⟨Dg,SD,UY,Ar⟩:=UU.note z (kn z+1);have ekz:i64.wrap ((kn z:Int)+(1:Int))=((kn z+1:Nat):Int):=by rw [dh (n:=(kn z:Int)) (by omega) (by omega)];omega
    have s3:=Cq.size;refine⟨_,yU XZ K3,some sm,UU.f35,z.1,⟨z.2.1,Cells.bC aaN⟩,Dg,by rw [ekz];exact SD,?_⟩;refine⟨(),rfl,⟨_,abO,_,LQ.aD Ar (by omega) (by omega),UY,fun y'=>?_,?_⟩,?_⟩
    ·obtain⟨i1,i2,i3⟩:=hinv y'
     refine⟨fun h=>i1 h.1,fun h1 h2=>?_,fun h=>?_⟩
     ·by_cases e:y'=z
      ·subst e;simp only [if_true]
      ·simp only [if_neg e]
       exact i2 h1 (fun h=>h2 ⟨h,e⟩)
     ·have e:y'≠z:=by
       rcases h with h|h
       ·exact fun e=>h (by rw [e];exact Yu)
       ·exact h.2
      simp only [if_neg e];exact i3 (h.imp_right fun h=>h.1)
    ·exact(ku.trans Cq (fun j hj e=>.inr e)).trans Ar (fun j hj e=>.inl e)
    ·show Dg.rangeLeft gX.heap.size sD.heap.size<u3.rangeLeft gX.heap.size sD.heap.size
     rw [OB.left_eq,(LQ.aD Ar (by omega) (by omega)).left_eq];exact cy
 ·rw [aQ,ai.jA]
  have:i=n:=by omega
  subst this;have e1:=BR k G s l;rw [TA]at e1;rw [e1]at hS hO;have hsq:v.heap[bs]? =some (.cells #[.pointer (some ⟨q,0,none⟩)] eT (0,0)):=kv.heap V.hs (by omega);exact⟨some ⟨q,0,none⟩,by rw [ay hsq];rfl,hK v ov E e ce hS hO kv⟩
end
def C5(N:Nat):Prop:=∀ {w:World} {F:Nat->Prop} {c k:Nat} {G:GS} {m:CM} {B:Nat} {A:Option Addr} {n cx:Nat} {l:List HT} {K:Value->World->Prop},CV w F c k G m->bQ w B A n cx l->n<=N->l.Nodup->(∀x∈l,x∈ids G.D)->
 (∀j,a8 A=some j->¬m.own c j/\¬F j)->(∀l' w',SO G l'->(∀x,x∈l'↔x∈l)->bQ w' B A n cx l'->Kept (fun j=>a8 A=some j) w w'->K (.tuple #[]) w')->
 bj prog iA.id #[.slice A n cx,.func (.func bn.id) #[.pointer (some ⟨c,0,none⟩)] #[]] w K
section
variable{y v w w':World}{F:Nat->Prop}{c k:Nat}{G:GS}{m:CM}{s:HT}{l ch:List HT}{bs bc bh q sm nL cL:Nat}{AL:Option Addr}{K:Value->World->Prop}
set_option maxHeartbeats 4000000 in
theorem zR{N:Nat}(yS:C5 N)(hN:(oH G.D s l).length<=N)(C:CV y F c k G m)(hD:G.D.length<=5000)(nP:k<=1000)(hs:s∈ids G.D)(hc:cY G.D G.P s ch)(hl:∀x∈l,x∈ids G.D)
 (V:VB y c s bs bc bh q sm (fun _=>none)) (hS:xO y y.heap.size q sm ⟨s,G.score s+1,[],[]⟩ (fun _=>none) none 0 0 none 0 0)
 (hL:HS y AL nL (dd (dL G.D l++l))) (hAL:∀a,AL=some a->a.block≠q)
 (gL:∀j,(m.own c j\/F j\/j=bs\/j=bc\/j=bh)->j≠q/\j≠sm)
 (hK:∀v B bb ov A n cp E e ce,lM v B q sm bb (cG k G s l) ov A n cp E e ce->OV G.D (dv k G s l).wd ov (lO m.sz ch)->(∀a,A=some a->y.heap.size<=a.block)->(y.heap.size<=B/\B<=v.heap.size)->Kept (fun j=>j=q\/j=sm) y v->K (.pointer (some ⟨q,0,none⟩)) v):
 Holds none [] prog 153 (.loop (lB (bB (sR (sL (sR (sR (sR (body ai.fn))))))))) (ai.q1 K)
  [(3,.pointer (some ⟨bc,0,none⟩)),(4,.pointer (some ⟨bh,0,none⟩)),(6,.pointer none),(8,.pointer (some ⟨bs,0,none⟩)),(46,.slice AL nL cL),(47,.int .i64 (nL:Int)),(48,.int .i64 0)] y:=by
 have W:=C.eM.W;have lbs:=aS V.hs;have lbc:=aS V.hc;have lbh:=aS V.hh;have WY:=gL bs (.inr (.inr (.inl rfl)));have W1:=gL bc (.inr (.inr (.inr (.inl rfl))));have WZ:=gL bh (.inr (.inr (.inr (.inr rfl))));have aeu:=hL.len;have hLi:∀x∈dd (dL G.D l++l),x∈ids G.D:=fun x hx=>by
  rcases List.mem_append.1 (cZ.1 hx)with h|h
  ·exact(iY.1 h).1
  ·exact hl x h
 have hLn:nL<=5000:=by
  have:=cI (iz _).nodup hLi;rw [fc]at this;omega
 generalize hLL:dd (dL G.D l++l)=L at*;refine ai.b7 (I:=fun s0 v=>∃i:Nat,s0=(i:Int)/\i<=nL/\(∃A n cp,xO v y.heap.size q sm ⟨s,G.score s+1,(L.take i).filter fun h=>decide (h≠s/\¬eI G.D h s),[]⟩ (fun _=>none) A n cp none 0 0)/\Kept (· =q) y v) (μ:=fun s0 _=>((nL:Int)-s0).toNat) (s:=0) ⟨0,rfl,Nat.zero_le _,⟨none,0,0,hS⟩,Kept.refl _ _⟩ ?_;rintro s0 v ⟨i,rfl,hi,⟨A,n,cp,Ks⟩,kv⟩;have sv:=kv.size;have TB:=bQ.len Ks.mg;have hnA:n<=5000:=by
  have h1:=List.length_filter_le (fun h=>decide (h≠s/\¬eI G.D h s)) (L.take i);have h2:=List.length_take_le i L;have h3:((L.take i).filter fun h=>decide (h≠s/\¬eI G.D h s)).length=n:=TB;omega
 refine Split.dec (fun iU=>?_) (fun fU=>?_)
 ·have dW:i<nL:=by omega
  obtain⟨x,hx⟩:∃x,L[i]? =some x:=⟨_,List.getElem?_eq_getElem (by omega)⟩;have EB:L.take (i+1)=L.take i++ [x]:=by rw [List.take_add_one,hx];rfl
  have hLv:HS v AL nL L:=hL.aD kv hAL;refine hLv.load (i:=(i:Int)) (by omega) hx ?_;intro lN;obtain⟨sH,jh,jB⟩:=gM (w:=v) (z:=dU.1) (cs:=x.1) (t:=aj) (by rw [x.2.1];rfl);refine⟨⟨x.2.1,x.2.one,fun j hj=>sH j (by rw [x.2.1];exact hj)⟩,?_⟩;intro gX mn
  replace jh:gX.heap[v.heap.size]? =some (.cells x.1 aj (0,0)):=jh
  replace jB:Kept Nil v gX:=jB
  have sg:Kept Nil gX mn:=(Kept.refl _ _).drew;clear_value mn gX;have Hw:=sg.heap jh (fun h=>h);have M6:=jB.tt sg;have D0:Kept (· =q) y mn:=kv.trans M6 (fun _ _ h=>h.elim);have C15:CV mn F c k G m:=C.aD D0 (fun j hj e=>(gL j (.inl hj)).1 e) (fun j hj e=>(gL j (.inr (.inl hj))).1 e);have hcy:∀ {u:World},Kept (· =q) y u->u.cell? ⟨bc,0,none⟩=some (.pointer (some ⟨c,0,none⟩)):=fun ku=>by rw [ay (ku.heap V.hc W1.1)];rfl
  have Sm:∀ {u:World},Kept (· =q) y u->u.cell? ⟨bs,0,none⟩=some (.pointer (some ⟨q,0,none⟩)):=fun ku=>by rw [ay (ku.heap V.hs WY.1)];rfl
  have next:∀ {u:World} {A':Option Addr} {n' vu:Nat},xO u y.heap.size q sm ⟨s,G.score s+1,(L.take (i+1)).filter fun h=>decide (h≠s/\¬eI G.D h s),[]⟩ (fun _=>none) A' n' vu none 0 0->Kept (· =q) y u->
   ∃s1:Int,i64.wrap ((i:Int)+(1:Int))=s1/\(∃i':Nat,s1=(i':Int)/\i'<=nL/\(∃A n cp,xO u y.heap.size q sm ⟨s,G.score s+1,(L.take i').filter fun h=>decide (h≠s/\¬eI G.D h s),[]⟩ (fun _=>none) A n cp none 0 0)/\Kept (· =q) y u)/\((nL:Int)-s1).toNat<((nL:Int)-(i:Int)).toNat:=fun h1 h2=>by
   rw [dh (n:=(i:Int)) (by omega) (by omega)];exact⟨(i:Int)+1,rfl,⟨i+1,rfl,dW,⟨_,_,_,h1⟩,h2⟩,by omega⟩
  refine⟨x.1,⟨x.2.1,Cells.bC Hw⟩,s.1,⟨s.2.1,Cells.bC (D0.heap V.hh WZ.1)⟩,⟨x.2.ints,s.2.ints⟩,?_⟩;rw [dz];by_cases JJ:x=s
  ·refine Split.no (by rw [decide_eq_true JJ];rfl) ?_
   obtain⟨s1,e1,e2,e3⟩:=next (u:=mn) (by
    rw [EB,List.filter_append];have: [x].filter (fun h=>decide (h≠s/\¬eI G.D h s))= []:=by rw [List.filter_cons_of_neg (by simp [JJ])];rfl
    rw [this,List.append_nil];exact Ks.same M6) D0
   rw [e1];exact⟨s1,rfl,e2,e3⟩
  ·refine Split.yes (by rw [decide_eq_false JJ];rfl) ⟨_,hcy D0,_,C15.c1,x.1,⟨x.2.1,Cells.bC Hw⟩,s.1,⟨s.2.1,Cells.bC (D0.heap V.hh WZ.1)⟩,?_⟩
   obtain⟨mx,X15,_⟩:=C15.X;refine kQ X15 hD x s fun Db r hr zE=>⟨r,rfl,?_⟩;have Jp:Kept (· =q) y Db:=D0.trans zE (fun _ _ h=>h.elim);have RH:=M6.tt zE;cases r with
   |true=>
    refine Split.no rfl ?_;obtain⟨s1,e1,e2,e3⟩:=next (u:=Db) (by
     rw [EB,List.filter_append];have: [x].filter (fun h=>decide (h≠s/\¬eI G.D h s))= []:=by rw [List.filter_cons_of_neg (by simp [hr.1 rfl])];rfl
     rw [this,List.append_nil];exact Ks.same RH) Jp
    rw [e1];exact⟨s1,rfl,e2,e3⟩
   |false=>
    refine Split.yes rfl ?_;intro xS;have GB:Kept Nil Db xS:=(Kept.refl _ _).drew;clear_value xS;have Ya:=RH.tt GB;have yG:Kept (· =q) y xS:=Jp.trans GB (fun _ _ h=>h.elim);have HD:=Ks.same Ya;refine⟨_,Sm yG,_,Sm yG,A,n,cp,HD.f33,x.1,⟨x.2.1,Cells.bC ((zE.tt GB).heap Hw (fun h=>h))⟩,x.2.1,?_⟩;intro kW;have pF:Kept Nil xS kW:=(Kept.refl _ _).alloc _;have YE:HS kW (some ⟨xS.heap.size,0,none⟩) 1 [x]:=ja xS x;clear_value kW;have HC:=HD.same pF;have uf:Kept (· =q) y kW:=yG.trans pF (fun _ _ h=>h.elim);have VZ:=uf.size;obtain⟨A',vu,u,Sv,ku,HB,k5,YH⟩:=HC.Rf VZ (by omega) YE;have XY:Kept (· =q) y u:=uf.trans ku (fun j hj e=>by omega);refine⟨HC.f33,Sm uf,Sm uf,A',n+1,vu,u,Sv,Sm XY,YH,?_⟩;intro u7
    replace HB:xO u7 y.heap.size q sm _ (fun _=>none) A' (n+1) vu none 0 0:=HB
    replace k5:Kept (fun j=>j=q\/y.heap.size<=j) kW u7:=k5
    clear_value u7;obtain⟨s1,e1,e2,e3⟩:=next (u:=u7) (by
     rw [EB,List.filter_append];have: [x].filter (fun h=>decide (h≠s/\¬eI G.D h s))= [x]:=by rw [List.filter_cons_of_pos (by simp only [decide_eq_true_eq];exact⟨JJ,fun e=>by have:=hr.2 e;cases this⟩)];rfl
     rw [this];exact HB) (uf.trans k5 (fun j hj e=>by
      rcases e with e|e
      ·exact e
      ·omega))
    rw [e1];exact⟨s1,rfl,e2,e3⟩
 ·rw [aQ,ai.c8]
  have fz:i=nL:=by omega
  subst fz;rw [List.take_of_length_le (by omega)]at Ks;unfold ai.cK;intro qR;have Ao:Kept Nil v qR:=(Kept.refl _ _).drew;clear_value qR;have A8:=Ks.same Ao;have yF:Kept (· =q) y qR:=kv.trans Ao (fun _ _ h=>h.elim);have C33:CV qR F c k G m:=C.aD yF (fun j hj e=>(gL j (.inl hj)).1 e) (fun j hj e=>(gL j (.inr (.inl hj))).1 e);have efl:(L.filter fun h=>decide (h≠s/\¬eI G.D h s))=oH G.D s l:=by unfold oH;rw [hLL]
  have AJ:bQ qR y.heap.size A n cp (oH G.D s l):=by rw [<-efl];exact A8.mg
  have Pn:∀j,a8 A=some j->y.heap.size<=j/\j<qR.heap.size:=fun j hj=>by obtain⟨g1,cur,g2⟩:=Row.bC AJ hj;exact⟨g1,aS g2⟩
  refine⟨some ⟨q,0,none⟩,by rw [ay (yF.heap V.hs WY.1)];rfl,A,n,cp,A8.f33,some ⟨c,0,none⟩,by rw [ay (yF.heap V.hc W1.1)];rfl,?_⟩;refine yS C33 AJ (by have:=bQ.len AJ;omega) (pR _ _ _) (fun x hx=>hLi x (by rw [<-efl]at hx;exact(List.mem_filter.1 hx).1)) (fun j hj=>⟨fun e=>by have:=C.low j (.inl e);have:=(Pn j hj).1;omega,fun e=>by have:=C.low j (.inr e);have:=(Pn j hj).1;omega⟩) fun l' mO Eh gR Ha zD=>⟨rfl,?_⟩;have el:l'=cf G s l:=mz Eh gR;subst el;have qB:=Ks.qB;have sB:=Ks.sB;have Zh:=Ks.qs;have s33:=yF.size;have Rx:Kept (· =q) y mO:=yF.trans zD (fun j hj e=>by have:=(Pn j e).1;omega);have NR:=zD.heap A8.top (fun e=>by have:=(Pn q e).1;omega);have SU:=A8.ov.aD zD (fun e=>by have:=(Pn sm e).1;omega);intro jj sD;have mP:Kept Nil mO jj:=(Kept.refl _ _).alloc _;have UC:jj.heap[mO.heap.size]? =some (.cells #[.slice none 0 0] az (0,0)):=aJ mO _;have sF:Kept Nil jj sD:=(Kept.refl _ _).alloc _;have Oz:sD.heap[jj.heap.size]? =some (.cells #[.nilFunc] eW (0,0)):=aJ jj _;refine⟨dK Oz (by simp),?_⟩;intro vH;have TI:vH.heap[jj.heap.size]? =some (.cells #[.func (.func bS.id) #[] #[.pointer (some ⟨bs,0,none⟩),.pointer (some ⟨bc,0,none⟩),.pointer (some ⟨bh,0,none⟩)]] eW (0,0)):=by
   show(sD.setCell ⟨jj.heap.size,0,none⟩ _).heap[jj.heap.size]? =_;rw [cS Oz 0];rfl
  have D9:Kept (· =jj.heap.size) sD vH:=Kept.setCell (S:=(· =jj.heap.size)) (Kept.refl _ sD) (p:=⟨jj.heap.size,0,none⟩) (fun _=>rfl) _;clear_value vH;have wc:=mP.tt sF;have XF:=mP.size;have s36:=sF.size;have l35:=aS UC;have l36:=aS Oz;have Cs:Kept Nil mO vH:=⟨D9.os.trans wc.os,D9.tape.trans wc.tape,D9.output.trans wc.output,Nat.le_trans wc.size D9.size,fun j hj hn=>by rw [D9.block j (Nat.lt_of_lt_of_le hj wc.size) (by omega),wc.block j hj hn]⟩;have aaU:=D9.heap (sF.heap UC (fun h=>h)) (by omega);have l37:=aS TI;clear_value sD jj;have DY:Kept (· =q) y vH:=Rx.trans Cs (fun _ _ h=>h.elim);have s34:=Rx.size;have s37:=DY.size;have C37:CV vH F c k G m:=C.aD DY (fun j hj e=>(gL j (.inl hj)).1 e) (fun j hj e=>(gL j (.inr (.inl hj))).1 e);have GY:=Cs.heap NR (fun h=>h);have LF:=SU.aD Cs (fun h=>h);have NX:bQ vH y.heap.size A n cp (cf G s l):=Row.aD Ha Cs (fun _ _ h=>h);have V37:VB vH c s bs bc bh q sm (fun _=>none):=⟨DY.heap V.hs WY.1,DY.heap V.hc W1.1,DY.heap V.hh WZ.1,by rw [a7,ay GY];exact(fe ..).2.2.2,LF⟩;have WR:∀a,A=some a->y.heap.size<=a.block/\a.block<mO.heap.size:=fun a ha=>by
   subst ha;obtain⟨g1,cur,g2⟩:=Row.bC Ha (k:=a.block) rfl;exact⟨g1,aS g2⟩
  have UW:lM vH vH.heap.size q sm mO.heap.size ⟨s,G.score s+1,cf G s l,[]⟩ (fun _=>none) A n cp none 0 0:=
   ⟨GY,NX.hs,fun a ha=>by have:=WR a ha;exact⟨by omega,by omega,by omega,by omega⟩,Row.nil _ _ _ _,LF,by omega,by omega,by omega,⟨Zh,by omega,by omega⟩⟩
  refine⟨some ⟨q,0,none⟩,by rw [ay V37.hs];rfl,A,n,cp,UW.f33,?_⟩;have Sf:(jE k G s l 0)=⟨G.world s++ [s],[]⟩:=rfl;refine zQ (l:=l) C37 hD nP hs hc (fun x hx=>hLi x (by
   have h1:=(gR x).1 hx;rw [<-efl]at h1;exact(List.mem_filter.1 h1).1)) V37 TI (fun j hj=>?_) ⟨⟨fun _=>none,none,0,0,none,0,0,[],UW,aaU,bQ.nil _ _,by rw [Sf,List.append_nil],fun j hj=>by simp [a8]at hj,by rw [Sf];exact C.Z |>.ov hs hc,?_,fun z hz=>by simp at hz,rfl⟩,Kept.refl _ _⟩ hnA fun v' ov E e ce h1 h2 h3=>?_
  ·have h1:j<y.heap.size\/j=jj.heap.size:=by
    rcases hj with h|h|h|h|h|h
    ·exact .inl (C.low j (.inl h))
    ·exact .inl (C.low j (.inr h))
    ·exact .inl (by omega)
    ·exact .inl (by omega)
    ·exact .inl (by omega)
    ·exact .inr h
   rcases h1 with h1|h1
   ·have h2:j≠q/\j≠sm:=by
     rcases hj with h|h|h|h|h|h
     ·exact gL j (.inl h)
     ·exact gL j (.inr (.inl h))
     ·exact gL j (.inr (.inr (.inl h)))
     ·exact gL j (.inr (.inr (.inr (.inl h))))
     ·exact gL j (.inr (.inr (.inr (.inr h))))
     ·omega
    exact⟨h2.1,h2.2,by omega⟩
   ·exact⟨by omega,by omega,by omega⟩
  ·rw [Sf]
   obtain⟨g1,g2,_⟩:=C.eM.wd s hs;exact List.nodup_append.2 ⟨g1,by simp,fun a ha b hb e=>by
    have:b=s:=by simpa using hb
    subst this;subst e;exact eI.irrefl W a (g2 a ha)⟩
  ·refine hK v' vH.heap.size mO.heap.size ov A n cp E e ce h1 h2 (fun a ha=>(WR a ha).1) ⟨s37,h3.size⟩ ?_
   exact(DY.mono fun _ _ h=>.inl h).trans h3 (fun j hj e=>by
    rcases e with e|e|e
    ·exact .inl e
    ·exact .inr e
    ·omega)
end
theorem Pw:QD prog bg=some ([(0,32),(32,1),(33,1),(34,1)],List.replicate 32 (.int .u8 0)++ [.int .u64 0,.slice none 0 0,.slice none 0 0]):=by kernel_rfl
theorem uP(h:HT)(z:Int):prog.built bg [(0,.agg h.1),(1,.int .u64 z)]=some (h.1++ #[.int .u64 z,.slice none 0 0,.slice none 0 0]):=by
 have hs:=h.2.1;rw [mI Pw,iu (off:=0) (size:=32) rfl (by simpa [Value.cells]using hs) (by simp),iu (off:=32) (size:=1) rfl rfl (by
  rw [List.size_toArray,lg (by simp [Value.cells,hs])];simp)]
 simp only [Instr.fill,Option.some.injEq];apply Array.ext';unfold gk;simp [Value.cells,hs];rw [List.drop_append];simp [hs]
theorem KJ:QD prog dH=some ([(0,35),(35,1)],List.replicate 32 (.int .u8 0)++ [.int .u64 0,.slice none 0 0,.slice none 0 0,.map none]):=by kernel_rfl
theorem wz(c:nW)(sm:Option Nat):prog.built dH [(0,.agg (cD c none 0 0 none 0 0)),(1,.map sm)]=some (cD c none 0 0 none 0 0++ #[.map sm]):=by
 have hs:=aW c none 0 0 none 0 0;rw [mI KJ,iu (off:=0) (size:=35) rfl (by simpa [Value.cells]using hs) (by simp),iu (off:=35) (size:=1) rfl rfl (by
  rw [List.size_toArray,lg (by simp [Value.cells,hs])];simp)]
 simp only [Instr.fill,Option.some.injEq];apply Array.ext';unfold gk;simp [Value.cells,hs]
section
variable{g1 v w w':World}{F:Nat->Prop}{c k:Nat}{G:GS}{m:CM}{s:HT}{l ch:List HT}{bs bc bh q sm n cx:Nat}{A:Option Addr}{K:Value->World->Prop}
theorem IY{N:Nat}(yS:C5 N)(hN:(oH G.D s l).length<=N)(C:CV g1 F c k G m)(hT:rQ g1)(hD:G.D.length<=5000)(nP:k<=1000)(hs:s∈ids G.D)(hc:cY G.D G.P s ch)(hl:∀x∈l,x∈ids G.D)(Fc:HS g1 A n l)(hn:n<=5000)
 (V:VB g1 c s bs bc bh q sm (fun _=>none)) (iH:g1.heap[q]? =some (.cells (cD ⟨s,G.score s+1,[],[]⟩ none 0 0 none 0 0++ #[.map (some sm)]) dH (0,0)))
 (gL:∀j,(m.own c j\/F j\/j=bs\/j=bc\/j=bh)->j≠q/\j≠sm) (Zh:q≠sm) {p:Nat} (hp:∃mx,XV g1 m.FX m.x G.D G.P mx/\mx.g=p)
 (hK:∀v B bb ov A n cp E e ce,lM v B q sm bb (cG k G s l) ov A n cp E e ce->OV G.D (dv k G s l).wd ov (lO m.sz ch)->(∀a,A=some a->g1.heap.size<=a.block)->(g1.heap.size<=B/\B<=v.heap.size)->Kept (fun j=>j=q\/j=sm) g1 v->K (.pointer (some ⟨q,0,none⟩)) v):
 bj prog aP.id #[.pointer (some ⟨p,0,none⟩),.slice A n cx] g1 fun i1 j1=>∃k1:Option Addr,∃m1 n1:Nat,i1=.slice k1 m1 n1/\
  ∃(o1:Option Addr) (p1 q1:Nat) (r1:World),(Builtin.append_ #[az,az] az #[.slice k1 m1 n1,.slice A n cx]).run prog j1=.ok (.slice o1 p1 q1) r1/\
  bj prog iJ.id #[.slice o1 p1 q1] r1 fun t1 u1=>∃v1:Option Addr,∃x1 y1:Nat,t1=.slice v1 x1 y1/\
  Holds none [] prog 153 (.loop (lB (bB (sR (sL (sR (sR (sR (body ai.fn))))))))) (ai.q1 K)
   [(3,.pointer (some ⟨bc,0,none⟩)),(4,.pointer (some ⟨bh,0,none⟩)),(6,.pointer none),(8,.pointer (some ⟨bs,0,none⟩)),(46,.slice v1 x1 y1),(47,.int .i64 (x1:Int)),(48,.int .i64 0)] u1:=by
 have W:=C.eM.W;obtain⟨mx,X,rfl⟩:=hp;obtain⟨bl,c',mb,M,GG⟩:=X.G;have lq:=aS iH;have lsm:=V.ov.lt;refine uJ GG W (by omega) hT Fc (by omega) fun A1 c1 w1 kP k1=>⟨A1,_,c1,rfl,?_⟩;have nz:(dL G.D l).length<=5000:=Nat.le_trans (mv _ _) hD;have s1:=k1.size;obtain⟨A2,c2,w2,iT,fI,g2,Va⟩:=cF az kP (cx:=cx) (Fc.same k1) (by omega) s1;have k2:Kept (fun j=>g1.heap.size<=j) w1 w2:=(Kept.refl _ _).grown g2 fun j hj _=>(Row.bC kP hj).1;have mY:Kept Nil g1 w2:=k1.trans k2 (fun j hj e=>by omega);refine⟨A2,_,c2,w2,iT,?_⟩;refine iw fI.hs (by omega) fun A3 c3 w3 ou k3=>⟨A3,_,c3,rfl,?_⟩;have nM:=mY.tt k3;have s02:=mY.size;have s03:=nM.size;have V3:=V.same nM;refine zR (l:=l) yS hN (C.same nM) hD nP hs hc hl V3 ⟨nM.heap iH (fun h=>h),bQ.nil _ _,Row.nil _ _ _ _,V3.ov,by omega,by omega,Zh,fun j hj=>by simp [a8]at hj⟩ ou.hs (fun a ha=>?_) gL fun v B bb ov A n cp E e ce h1 h2 h3 h4 h5=>?_
 ·subst ha
  have:=(Row.bC ou (k:=a.block) rfl).1;omega
 ·exact hK v B bb ov A n cp E e ce h1 h2 (fun a ha=>Nat.le_trans s03 (h3 a ha)) ⟨Nat.le_trans s03 h4.1,h4.2⟩ ((nM.mono fun _ _ h=>h.elim).tt h5)
end
section
variable{w w':World}{F:Nat->Prop}{c k:Nat}{G:GS}{m:CM}{s:HT}{l ch:List HT}{n cx:Nat}{A:Option Addr}{K:Value->World->Prop}
set_option maxHeartbeats 4000000 in
theorem Ba{N:Nat}(yS:C5 N)(hN:(oH G.D s l).length<=N)(C:CV w F c k G m)(hT:rQ w)(hD:G.D.length<=5000)(nP:k<=1000)(hs:s∈ids G.D)(hc:cY G.D G.P s ch)(hl:∀x∈l,x∈ids G.D)(Fc:HS w A n l)(hn:n<=5000)
 (hK:∀v q B sm bb ov A n cp E e ce,lM v B q sm bb (cG k G s l) ov A n cp E e ce->OV G.D (dv k G s l).wd ov (lO m.sz ch)->w.heap.size<=q->w.heap.size<=sm->(∀a,A=some a->w.heap.size<=a.block)->(w.heap.size<=B/\B<=v.heap.size)->Kept Nil w v->K (.pointer (some ⟨q,0,none⟩)) v):
 bj prog ai.id #[.pointer (some ⟨c,0,none⟩),.agg s.1,.slice A n cx] w K:=by
 refine ai.of ?_;unfold ai.W;intro w1 w2;have k1:Kept Nil w w1:=(Kept.refl _ _).alloc _;have Uk:w1.heap[w.heap.size]? =some (.cells #[.pointer (some ⟨c,0,none⟩)] gD (0,0)):=aJ w _;have k2:Kept Nil w1 w2:=(Kept.refl _ _).alloc _;have AH:w2.heap[w1.heap.size]? =some (.cells s.1 aj (0,0)):=aJ w1 _;clear_value w2;have LW:=k2.heap Uk (fun h=>h);have mY:=k1.tt k2;have s1:=k1.size;have l1:=aS Uk;have l2:=aS AH;clear_value w1;have C2:=C.same mY;obtain⟨mx2,X2,_⟩:=C2.X;refine⟨some ⟨c,0,none⟩,by rw [ay LW];rfl,_,C2.c1,gv.of (Split.no rfl (Is.mk rfl ⟨_,X2.c0,⟨_,rfl,?_⟩⟩))⟩;intro w3;have k3:Kept Nil w2 w3:=(Kept.refl _ _).drew;clear_value w3;have nM:=mY.tt k3;have Uh:=k3.heap LW (fun h=>h);have AG:=k3.heap AH (fun h=>h);have C3:=C.same nM;obtain⟨A1,n1,c1,B1,m1,d1,s1',sa⟩:=C3.seen s hs;have NV:G.score s<=5000:=by
  have h1:=(C.eM.wd s hs).2.2;have h2:=cI (m:=ids G.D) (C.eM.wd s hs).1 (fun b hb=>(((C.eM.wd s hs).2.1 b hb).mem C.eM.W).1);rw [fc]at h2;omega
 have ew:u64.wrap (((G.gm s).score:Int)+(1:Int))=((G.score s+1:Nat):Int):=by
  show u64.wrap ((G.score s:Int)+(1:Int))=_
  rw [show(G.score s:Int)+1=((G.score s+1:Nat):Int)by omega];exact je (by omega)
 have ml:∀ {u:World},Kept Nil w3 u->u.cell? ⟨w.heap.size,0,none⟩=some (.pointer (some ⟨c,0,none⟩)):=fun ku=>by rw [ay (ku.heap Uh (fun h=>h))];rfl
 have rC:∀ {u:World},Kept Nil w3 u->∃cs:Array Value,(.agg s.1:Value)=.agg cs/\cs.size=32/\Cells u ⟨w1.heap.size,0,none⟩ cs:=fun ku=>⟨s.1,rfl,s.2.1,Cells.bC (ku.heap AG (fun h=>h))⟩;have kY:∀ {u:World},Kept Nil w3 u->u.cell? (((⟨m.q s,0,none⟩:Addr).add 0).add 32)=some (.int .u64 ((G.gm s).score:Int)):=fun ku=>(sa.aD ku (fun _ _ h=>h)).Vx;have l3:=aS AG;have s3:=k3.size;refine⟨s.1,⟨s.2.1,Cells.bC AG⟩,some ⟨c,0,none⟩,ml (Kept.refl _ _),_,C3.c2,s.1,⟨s.2.1,Cells.bC AG⟩,_,C3.nu hs,_,kY (Kept.refl _ _),?_⟩;rw [ew];rw [uP s];refine Is.mk rfl ?_;have EC:(s.1++ #[.int .u64 ((G.score s+1:Nat):Int),.slice none 0 0,.slice none 0 0]:Array Value)=cD ⟨s,G.score s+1,[],[]⟩ none 0 0 none 0 0:=rfl;rw [EC];have go:∀ {u:World} {q sm bs:Nat},Kept Nil w3 u->w3.heap.size<=q->w3.heap.size<=sm->w3.heap.size<=bs->q≠sm->bs≠q->bs≠sm->
  u.heap[q]? =some (.cells (cD ⟨s,G.score s+1,[],[]⟩ none 0 0 none 0 0++ #[.map (some sm)]) dH (0,0))->fj u sm (fun _=>none)->u.heap[bs]? =some (.cells #[.pointer (some ⟨q,0,none⟩)] eT (0,0))->_:=
  fun {u q sm bs} ku hq uX WI h1 h2 h3 iH Oq ja=>IY (g1:=u) (bs:=bs) (bc:=w.heap.size) (bh:=w1.heap.size) (q:=q) (sm:=sm) (cx:=cx) (K:=K) (p:=mx2.g) yS hN (C3.same ku) (hT.same (nM.tt ku)) hD nP hs hc hl (Fc.same (nM.tt ku)) hn
   ⟨ja,ku.heap Uh (fun h=>h),ku.heap AG (fun h=>h),by rw [a7,ay iH];exact(fe ..).2.2.2,Oq⟩ iH
   (fun j hj=>by
     rcases hj with h|h|h|h|h
     ·have:=C.low j (.inl h);exact⟨by omega,by omega⟩
     ·have:=C.low j (.inr h);exact⟨by omega,by omega⟩
     ·exact⟨by omega,by omega⟩
     ·exact⟨by omega,by omega⟩
     ·exact⟨by omega,by omega⟩) h1 ⟨mx2,X2.same (k3.tt ku),rfl⟩
   (fun v B bb ov A n cp E e ce t1 t2 t3 t4 t5=>hK v q B sm bb ov A n cp E e ce t1 t2 (by omega) (by omega) (fun a ha=>by have:=t3 a ha;have:=(nM.tt ku).size;omega) ⟨by have:=(nM.tt ku).size;have:=t4.1;omega,t4.2⟩ ((nM.tt ku).trans t5 (fun j hj e=>by omega)))
 have ML:∀ {u0:World} {b q:Nat},u0.heap[b]? =some (.cells #[.pointer none] eT (0,0))->Wr u0 ⟨b,0,none⟩/\∀u1,u1=u0.setCell ⟨b,0,none⟩ (.pointer (some ⟨q,0,none⟩))->u1.heap[b]? =some (.cells #[.pointer (some ⟨q,0,none⟩)] eT (0,0))/\Kept (· =b) u0 u1:=fun {u0 b q} hb=>⟨dK hb (by simp),fun u1 e=>by
  subst e;refine⟨?_,Kept.setCell (S:=(· =b)) (Kept.refl _ u0) (p:=⟨b,0,none⟩) (fun _=>rfl) _⟩;rw [cS hb 0];rfl⟩
 refine⟨?_,?_⟩
 ·intro w4
  have k4:Kept Nil w3 w4:=(Kept.refl _ _).alloc _;have ZJ:fj w4 w3.heap.size (fun _=>none):=fj.new w3;clear_value w4;have l4:=ZJ.lt;refine⟨kY k4,(C3.same k4).nu hs,rC k4,(C3.same k4).c2,ml k4,rC k4,?_⟩;rw [wz];refine Is.mk rfl ⟨?_,?_⟩
  ·intro w5 w6
   have k5:Kept Nil w4 w5:=(Kept.refl _ _).alloc _;have hq5:w5.heap[w4.heap.size]? =some (.cells (cD ⟨s,G.score s+1,[],[]⟩ none 0 0 none 0 0++ #[.map (some w3.heap.size)]) dH (0,0)):=aJ w4 _;have k6:Kept Nil w5 w6:=(Kept.refl _ _).alloc _;have pv:w6.heap[w5.heap.size]? =some (.cells #[.pointer none] eT (0,0)):=aJ w5 _;clear_value w6;have SH:=k6.heap hq5 (fun h=>h);have l5:=aS hq5;clear_value w5;have Nb:=k5.tt k6;have sF:=k4.tt Nb;have s36:=sF.size;obtain⟨t1,t2⟩:=ML (q:=w4.heap.size) pv;refine⟨t1,?_⟩;intro w7;obtain⟨t3,t4⟩:=t2 w7 rfl;clear_value w7;exact go (sF.trans t4 (fun j hj e=>by omega)) (by omega) (by omega) (by omega) (by omega) (by omega) (by omega) (t4.heap SH (by omega)) ((ZJ.same Nb).aD t4 (by omega)) t3
  ·intro w5
   have k5:Kept Nil w4 w5:=(Kept.refl _ _).alloc _;have mZ:w5.heap[w4.heap.size]? =some (.cells #[.pointer none] eT (0,0)):=aJ w4 _;clear_value w5;have l5:=aS mZ;have mP:=k4.tt k5;refine⟨kY mP,(C3.same mP).nu hs,rC mP,(C3.same mP).c2,ml mP,rC mP,?_⟩;intro w6;have k6:Kept Nil w5 w6:=(Kept.refl _ _).alloc _;have SH:w6.heap[w5.heap.size]? =some (.cells (cD ⟨s,G.score s+1,[],[]⟩ none 0 0 none 0 0++ #[.map (some w3.heap.size)]) dH (0,0)):=aJ w5 _;clear_value w6;have Nb:=k5.tt k6;have sF:=k4.tt Nb;have XF:=mP.size;obtain⟨t1,t2⟩:=ML (q:=w5.heap.size) (k6.heap mZ (fun h=>h));refine⟨t1,?_⟩;intro w7;obtain⟨t3,t4⟩:=t2 w7 rfl;clear_value w7;exact go (sF.trans t4 (fun j hj e=>by omega)) (by omega) (by omega) (by omega) (by omega) (by omega) (by omega) (t4.heap SH (by omega)) ((ZJ.same Nb).aD t4 (by omega)) t3
 ·intro w4
  have k4:Kept Nil w3 w4:=(Kept.refl _ _).alloc _;have qT:w4.heap[w3.heap.size]? =some (.cells #[.pointer none] eT (0,0)):=aJ w3 _;clear_value w4;have l4:=aS qT;refine⟨kY k4,(C3.same k4).nu hs,rC k4,(C3.same k4).c2,ml k4,rC k4,?_⟩;intro w5;have k5:Kept Nil w4 w5:=(Kept.refl _ _).alloc _;have hm5:fj w5 w4.heap.size (fun _=>none):=fj.new w4;clear_value w5;have l5:=hm5.lt;have mP:=k4.tt k5;refine⟨kY mP,(C3.same mP).nu hs,rC mP,(C3.same mP).c2,ml mP,rC mP,?_⟩;rw [wz];refine Is.mk rfl ?_;intro w6;have k6:Kept Nil w5 w6:=(Kept.refl _ _).alloc _;have SH:w6.heap[w5.heap.size]? =some (.cells (cD ⟨s,G.score s+1,[],[]⟩ none 0 0 none 0 0++ #[.map (some w4.heap.size)]) dH (0,0)):=aJ w5 _;clear_value w6;have sF:=mP.tt k6;have XF:=mP.size;obtain⟨t1,t2⟩:=ML (q:=w5.heap.size) ((k5.tt k6).heap qT (fun h=>h));refine⟨t1,?_⟩;intro w7;obtain⟨t3,t4⟩:=t2 w7 rfl;clear_value w7;exact go (sF.trans t4 (fun j hj e=>by omega)) (by omega) (by omega) (by omega) (by omega) (by omega) (by omega) (t4.heap SH (by omega)) ((hm5.same k6).aD t4 (by omega)) t3
end
end Go.Proofs.YtnboahlopghcjaaGreatDoor
