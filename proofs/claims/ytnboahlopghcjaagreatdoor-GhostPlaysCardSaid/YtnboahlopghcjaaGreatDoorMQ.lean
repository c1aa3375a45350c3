import Derived.Test.YtnboahlopghcjaaGreatDoorMP
import Derived.Test.YtnboahlopghcjaaGreatDoorMG
set_option linter.unusedVariables false
namespace Go.Proofs.YtnboahlopghcjaaGreatDoor
open Go.Proofs.Tryz
open Go Go.bV Go.RowKit
theorem Ak:xP prog fZ gQ 1 1:=⟨by kernel_rfl,by kernel_rfl⟩
abbrev qW(l:List Bool):List Value:=l.map .bool
structure xQ(w:World)(B q sm:Nat)(c:oc)(ov:HT->Option Nat)(A:Option Addr)(n cp:Nat)(E:Option Addr)(e ce:Nat):Prop where
 top:w.heap[q]? =some (.cells (cF c A n cp E e ce++ #[.map (some sm)]) dN (0,0))
 mg:bO w B A n cp c.merge
 bl:Row w B gQ 1 E e ce (qW c.de)
 ov:fk w sm (I0 ov)
 qB:q<B
 sB:sm<B
 qs:q≠sm
 AE: ∀j,bg A=some j->bg E≠some j
section
variable{w w':World}{B q sm:Nat}{c:oc}{ov:HT->Option Nat}{A E:Option Addr}{n cp e ce:Nat}{K:Value->World->Prop}
theorem xQ.aC{S:Nat->Prop}(h:xQ w B q sm c ov A n cp E e ce)(hk:Kept S w w')(h1: ¬S q)(h2: ¬S sm)(h3: ∀j,B<=j-> ¬S j):xQ w' B q sm c ov A n cp E e ce:=
 ⟨hk.heap h.top h1,Row.aC h.mg hk (fun j hj=>h3 j (Row.bC h.mg hj).1),Row.aC h.bl hk (fun j hj=>h3 j (Row.bC h.bl hj).1),h.ov.aC hk h2,h.qB,h.sB,h.qs,h.AE⟩
theorem xQ.same(h:xQ w B q sm c ov A n cp E e ce)(hk:Kept Nil w w'):xQ w' B q sm c ov A n cp E e ce:=h.aC hk (fun h=>h) (fun h=>h) (fun _ _ h=>h)
theorem xQ.f33(h:xQ w B q sm c ov A n cp E e ce):w.cell? (((⟨q,0,none⟩:Addr).add 0).add 33)=some (.slice A n cp):=by rw [add_zero,ba,ax h.top];exact(eN ..).2.1
theorem xQ.acx(h:xQ w B q sm c ov A n cp E e ce): ∀j,bg A=some j\/bg E=some j->B<=j/\j<w.heap.size:=fun j hj=>by
 rcases hj with hj|hj
 ·obtain⟨h1,cur,h2⟩:=Row.bC h.mg hj;exact⟨h1,aQ h2⟩
 ·obtain⟨h1,cur,h2⟩:=Row.bC h.bl hj;exact⟨h1,aQ h2⟩
theorem qk(c:oc)(A:Option Addr)(n cp:Nat)(E:Option Addr)(e ce:Nat)(r:Array Value)(A':Option Addr)(n' vB:Nat):
 (cF c A n cp E e ce++r).setIfInBounds (0+33) (.slice A' n' vB)=cF c A' n' vB E e ce++r:=by
 have h0:c.je.1.size=32:=c.je.2.1;apply Array.ext';unfold cF;simp only [Array.toList_setIfInBounds,Array.toList_append,List.append_assoc];rw [List.set_append_right _ _ (by simp [h0])];simp [h0]
theorem qj(c:oc)(A:Option Addr)(n cp:Nat)(E:Option Addr)(e ce:Nat)(r:Array Value)(E':Option Addr)(n' vB:Nat):
 (cF c A n cp E e ce++r).setIfInBounds (0+34) (.slice E' n' vB)=cF c A n cp E' n' vB++r:=by
 have h0:c.je.1.size=32:=c.je.2.1;apply Array.ext';unfold cF;simp only [Array.toList_setIfInBounds,Array.toList_append,List.append_assoc];rw [List.set_append_right _ _ (by simp [h0])];simp [h0]
theorem uT(c:oc)(A:Option Addr)(n cp:Nat)(E:Option Addr)(e ce:Nat)(r:Array Value)(s:Nat):
 (cF c A n cp E e ce++r).setIfInBounds (0+32) (.int .u64 (s:Int))=cF {c with score:=s} A n cp E e ce++r:=by
 have h0:c.je.1.size=32:=c.je.2.1;apply Array.ext';unfold cF;simp only [Array.toList_setIfInBounds,Array.toList_append,List.append_assoc];rw [List.set_append_right _ _ (by simp [h0])];simp [h0]
theorem xQ.Q2(h:xQ w B q sm c ov A n cp E e ce)(hB:B<=w.heap.size)(hn:n<=100000){x:HT}{b:Nat}(hb:HS w (some ⟨b,0,none⟩) 1 [x]):
 ∃A' vB u,(Builtin.append_ #[az,az] az #[.slice A n cp,.slice (some ⟨b,0,none⟩) 1 1]).run prog w=.ok (.slice A' (n+1) vB) u/\
  Kept (fun j=>B<=j) w u/\xQ (u.setCell (((⟨q,0,none⟩:Addr).add 0).add 33) (.slice A' (n+1) vB)) B q sm {c with merge:=c.merge++ [x]} ov A' (n+1) vB E e ce/\
  Kept (fun j=>j=q\/B<=j) w (u.setCell (((⟨q,0,none⟩:Addr).add 0).add 33) (.slice A' (n+1) vB))/\Wr u (((⟨q,0,none⟩:Addr).add 0).add 33):=by
 obtain⟨A',vB,u,hr,e8,hg,hA⟩:=cD az h.mg (cx:=1) hb (by omega) hB;have ku:Kept (fun j=>B<=j) w u:=(Kept.refl _ _).grown hg fun j hj _=>(Row.bC h.mg hj).1;have kA:Kept (fun j=>bg A=some j) w u:=(Kept.refl _ _).grown hg fun j hj _=>hj;have qB:=h.qB;have sB:=h.sB;have iM:=ku.heap h.top (by omega);have vy:Row u B gQ 1 E e ce (qW c.de):=Row.aC h.bl kA (fun j hj e=>h.AE j e hj);have mK:Kept (· =q) u (u.setCell (((⟨q,0,none⟩:Addr).add 0).add 33) (.slice A' (n+1) vB)):=by
  rw [add_zero,ba];exact Kept.setCell (S:=(· =q)) (Kept.refl _ u) (p:=⟨q,0+33,none⟩) (fun _=>rfl) _
 have gU: ∀ {X:Option Addr} {j:Nat},(∀k,bg X=some k->B<=k)->bg X=some j-> ¬j=q:=fun h hj e=>by have:=h _ hj;omega
 refine⟨A',vB,u,hr,ku,⟨?_,?_,?_,?_,qB,sB,h.qs,?_⟩,?_,?_⟩
 ·show(u.setCell (((⟨q,0,none⟩:Addr).add 0).add 33) (.slice A' (n+1) vB)).heap[q]? =_
  rw [add_zero,ba,cU iM,qk];rfl
 ·exact Row.aC e8 mK (fun j hj=>gU (fun k hk=>(Row.bC e8 hk).1) hj)
 ·exact Row.aC vy mK (fun j hj=>gU (fun k hk=>(Row.bC vy hk).1) hj)
 ·exact(h.ov.aC ku (by omega)).aC mK (fun e=>h.qs e.symm)
 ·intro j hj he
  rcases hA j hj with h1|h1
  ·exact h.AE j h1 he
  ·have:=(h.acx j (.inr he)).2;omega
 ·exact(ku.mono fun _ _ h=>.inr h).trans mK (fun _ _ e=>.inl e)
 ·rw [add_zero,ba]
  exact dM iM (by rw [Array.size_append,aY];simp)
end
end Go.Proofs.YtnboahlopghcjaaGreatDoor
namespace Go.Proofs.YtnboahlopghcjaaGreatDoor
open Go.Proofs.Tryz
open Go Go.bV Go.RowKit
structure lS(w:World)(B q sm bb:Nat)(c:oc)(ov:HT->Option Nat)(A:Option Addr)(n cp:Nat)(E:Option Addr)(e ce:Nat):Prop where
 top:w.heap[q]? =some (.cells (cF c A n cp E e ce++ #[.map (some sm)]) dN (0,0))
 mg:HS w A n c.merge
 mA: ∀a,A=some a->a.block<B/\a.block≠q/\a.block≠sm/\a.block≠bb
 bl:Row w B gQ 1 E e ce (qW c.de)
 ov:fk w sm (I0 ov)
 qB:q<B
 sB:sm<B
 bB:bb<B
 qs:q≠sm/\q≠bb/\sm≠bb
section
variable{w w':World}{B q sm bb:Nat}{c:oc}{ov:HT->Option Nat}{A E:Option Addr}{n cp e ce:Nat}{K:Value->World->Prop}
theorem lS.aC{S:Nat->Prop}(h:lS w B q sm bb c ov A n cp E e ce)(hk:Kept S w w')(h1: ¬S q)(h2: ¬S sm)(h3: ∀j,B<=j->j<w.heap.size-> ¬S j)(h4: ∀a,A=some a-> ¬S a.block):lS w' B q sm bb c ov A n cp E e ce:=
 ⟨hk.heap h.top h1,h.mg.aC hk h4,h.mA,Row.aC h.bl hk (fun j hj=>by obtain⟨g1,cur,g2⟩:=Row.bC h.bl hj;exact h3 j g1 (aQ g2)),h.ov.aC hk h2,h.qB,h.sB,h.bB,h.qs⟩
theorem lS.same(h:lS w B q sm bb c ov A n cp E e ce)(hk:Kept Nil w w'):lS w' B q sm bb c ov A n cp E e ce:=h.aC hk (fun h=>h) (fun h=>h) (fun _ _ _ h=>h) (fun _ _ h=>h)
theorem lS.f32(h:lS w B q sm bb c ov A n cp E e ce):w.cell? (((⟨q,0,none⟩:Addr).add 0).add 32)=some (.int .u64 (c.score:Int)):=by rw [add_zero,ba,ax h.top];exact(eN ..).1
theorem lS.f33(h:lS w B q sm bb c ov A n cp E e ce):w.cell? (((⟨q,0,none⟩:Addr).add 0).add 33)=some (.slice A n cp):=by rw [add_zero,ba,ax h.top];exact(eN ..).2.1
theorem lS.f34(h:lS w B q sm bb c ov A n cp E e ce):w.cell? (((⟨q,0,none⟩:Addr).add 0).add 34)=some (.slice E e ce):=by rw [add_zero,ba,ax h.top];exact(eN ..).2.2.1
theorem lS.f35(h:lS w B q sm bb c ov A n cp E e ce):w.cell? ((⟨q,0,none⟩:Addr).add 35)=some (.map (some sm)):=by rw [ba,ax h.top];exact(eN ..).2.2.2
theorem lS.wr(h:lS w B q sm bb c ov A n cp E e ce){j:Nat}(hj:j<36):Wr w (((⟨q,0,none⟩:Addr).add 0).add j):=by
 rw [add_zero,ba];exact dM h.top (by rw [Array.size_append,aY];simp;omega)
theorem lS.QP{h:lS w B q sm bb c ov A n cp E e ce}(j:Nat)(v:Value):Kept (· =q) w (w.setCell (((⟨q,0,none⟩:Addr).add 0).add j) v):=by
 rw [add_zero,ba];exact Kept.setCell (S:=(· =q)) (Kept.refl _ w) (p:=⟨q,0+j,none⟩) (fun _=>rfl) _
theorem lS.FW(h:lS w B q sm bb c ov A n cp E e ce)(hB:B<=w.heap.size)(hn:e<=100000){x:Bool}{b:Nat}(hb:w.cell? ⟨b,0,none⟩=some (.bool x)):
 ∃E' rj u,(Builtin.append_ #[fZ,fZ] fZ #[.slice E e ce,.slice (some ⟨b,0,none⟩) 1 1]).run prog w=.ok (.slice E' (e+1) rj) u/\
  Kept (fun j=>B<=j/\bg E=some j) w u/\Wr u (((⟨q,0,none⟩:Addr).add 0).add 34)/\
  lS (u.setCell (((⟨q,0,none⟩:Addr).add 0).add 34) (.slice E' (e+1) rj)) B q sm bb {c with de:=c.de++ [x]} ov A n cp E' (e+1) rj/\
  Kept (fun j=>j=q\/bg E=some j) w (u.setCell (((⟨q,0,none⟩:Addr).add 0).add 34) (.slice E' (e+1) rj))/\(∀j,bg E'=some j->bg E=some j\/w.heap.size<=j):=by
 obtain⟨E',rj,u,hr,e8,hg,hE⟩:=fi (P:=prog) (t:=fZ) (bytes:=1) (ty:=fZ) Ak h.bl (a:=⟨b,0,none⟩) (m:=1) (cx:=1) (news:= [.bool x]) rfl (fun j v hj=>by
  cases j with
  |zero=>simp only [List.getElem?_cons_zero,Option.some.injEq]at hj;subst hj;rw [add_zero];exact hb
  |succ j=>simp at hj) (fun v hv=>by
  have:v=.bool x:=by simpa using hv
  subst this;rfl) (by omega) (by unfold maxLen;omega) hB
 have qB:=h.qB;have sB:=h.sB;have kE:Kept (fun j=>B<=j/\bg E=some j) w u:=(Kept.refl _ _).grown hg fun j hj _=>⟨(Row.bC h.bl hj).1,hj⟩;have iM:=kE.heap h.top (by omega);have mK:Kept (· =q) u (u.setCell (((⟨q,0,none⟩:Addr).add 0).add 34) (.slice E' (e+1) rj)):=by
  rw [add_zero,ba];exact Kept.setCell (S:=(· =q)) (Kept.refl _ u) (p:=⟨q,0+34,none⟩) (fun _=>rfl) _
 refine⟨E',rj,u,hr,kE,?_,⟨?_,?_,h.mA,?_,?_,qB,sB,h.bB,h.qs⟩,?_,hE⟩
 ·rw [add_zero,ba]
  exact dM iM (by rw [Array.size_append,aY];simp)
 ·show(u.setCell (((⟨q,0,none⟩:Addr).add 0).add 34) (.slice E' (e+1) rj)).heap[q]? =_
  rw [add_zero,ba,cU iM,qj];rfl
 ·exact(h.mg.aC kE (fun a ha=>by have:=(h.mA a ha).1;omega)).aC mK (fun a ha=>(h.mA a ha).2.1)
 ·have e1:qW (c.de++ [x])=qW c.de++ [.bool x]:=by simp [qW]
  show Row _ B gQ 1 E' (e+1) rj (qW (c.de++ [x]))
  rw [e1];exact Row.aC e8 mK (fun j hj=>by have:=(Row.bC e8 hj).1;omega)
 ·exact(h.ov.aC kE (by omega)).aC mK (fun e=>h.qs.1 e.symm)
 ·exact(kE.mono fun _ _ h=>.inr h.2).trans mK (fun _ _ e=>.inl e)
theorem lS.MH(h:lS w B q sm bb c ov A n cp E e ce)(s:Nat):
 lS (w.setCell (((⟨q,0,none⟩:Addr).add 0).add 32) (.int .u64 (s:Int))) B q sm bb {c with score:=s} ov A n cp E e ce/\Kept (· =q) w (w.setCell (((⟨q,0,none⟩:Addr).add 0).add 32) (.int .u64 (s:Int))):=by
 have qB:=h.qB;have mK:=lS.QP (h:=h) 32 (.int .u64 (s:Int));refine⟨⟨?_,h.mg.aC mK (fun a ha=>(h.mA a ha).2.1),h.mA,Row.aC h.bl mK (fun j hj=>by have:=(Row.bC h.bl hj).1;omega),h.ov.aC mK (fun e=>h.qs.1 e.symm),h.qB,h.sB,h.bB,h.qs⟩,mK⟩;rw [add_zero,ba,cU h.top,uT]
theorem lS.note(h:lS w B q sm bb c ov A n cp E e ce)(b:HT)(n0:Nat):
 ∃u,(Instr.mapUpdate ck (.map (some sm)) (.agg b.1) (.int .i64 (n0:Int))).run prog w=.ok () u/\lS u B q sm bb c (fun y=>if y=b then some n0 else ov y) A n cp E e ce/\Kept (· =sm) w u:=by
 have sB:=h.sB;obtain⟨u,hr,hm,hk⟩:=h.ov.put qJ b (.int .i64 (n0:Int));refine⟨u,hr,⟨hk.heap h.top h.qs.1,h.mg.aC hk (fun a ha=>(h.mA a ha).2.2.1),h.mA,Row.aC h.bl hk (fun j hj=>by have:=(Row.bC h.bl hj).1;omega),?_,h.qB,h.sB,h.bB,h.qs⟩,hk⟩;have e1:I0 (fun y=>if y=b then some n0 else ov y)=fun x=>if x=b then some (.int .i64 (n0:Int))else I0 ov x:=by
  funext y
  unfold I0;by_cases e:y=b
  ·simp only [if_pos e,Option.map_some]
  ·simp only [if_neg e]
 rw [e1];exact hm
end
end Go.Proofs.YtnboahlopghcjaaGreatDoor
namespace Go.Proofs.YtnboahlopghcjaaGreatDoor
open Go.Proofs.Tryz
open Go Go.bV Go.RowKit
noncomputable def jF(k:Nat)(G:GS)(s:HT)(l:List HT)(i:Nat):VS:=((cy G s l).take i).foldl (nD k G.D) ⟨G.world s++ [s],[]⟩
structure V2(y v:World)(k:Nat)(G:GS)(s:HT)(l:List HT)(base:HT->Nat)(q sm bb:Nat)(A:Option Addr)(n cp i:Nat):Prop where
 ex: ∃(ov:HT->Option Nat) (E:Option Addr) (e ce:Nat) (Ab:Option Addr) (nb cb:Nat) (bl:List HT),
  lS v y.heap.size q sm bb ⟨s,G.score s+1+(jF k G s l i).bl.count true,cy G s l,(jF k G s l i).bl⟩ ov A n cp E e ce/\
  v.heap[bb]? =some (.cells #[.slice Ab nb cb] az (0,0))/\bO v y.heap.size Ab nb cb bl/\(jF k G s l i).wd=G.world s++ [s]++bl/\(∀j,bg Ab=some j->bg E≠some j)/\
  OV G.D (jF k G s l i).wd ov base/\(jF k G s l i).wd.Nodup/\(∀z∈bl,z∈(cy G s l).take i)/\e=i
 kp:Kept (fun j=>j=q\/j=sm\/j=bb) y v
theorem lS.Gj{w w':World}{B q sm bb:Nat}{c:oc}{ov:HT->Option Nat}{A E:Option Addr}{n cp e ce:Nat}{S:Nat->Prop}(h:lS w B q sm bb c ov A n cp E e ce)(hk:Kept S w w')(h1: ¬S q)(h2: ¬S sm)(h3: ∀j,bg E=some j-> ¬S j)(h4: ∀a,A=some a-> ¬S a.block):lS w' B q sm bb c ov A n cp E e ce:=
 ⟨hk.heap h.top h1,h.mg.aC hk h4,h.mA,Row.aC h.bl hk h3,h.ov.aC hk h2,h.qB,h.sB,h.bB,h.qs⟩
theorem xZ{k:Nat}{G:GS}{s:HT}{l:List HT}{i:Nat}{x:HT}(hx:(cy G s l)[i]? =some x):jF k G s l (i+1)=nD k G.D (jF k G s l i) x:=by
 unfold jF;have e:(cy G s l).take (i+1)=(cy G s l).take i++ [x]:=by rw [List.take_add_one,hx];rfl
 rw [e,List.foldl_append];rfl
theorem Ca(k:Nat)(G:GS)(s:HT)(l:List HT)(i:Nat)(hi:i<=(cy G s l).length):(jF k G s l i).bl.length=i:=by
 obtain⟨b,h1,h2⟩:=Fw k G.D (G.world s++ [s]) ((cy G s l).take i);unfold jF;rw [h2];show b.length=i
 rw [h1,List.length_take];omega
theorem Cb(k:Nat)(G:GS)(s:HT)(l:List HT):jF k G s l (cy G s l).length=ft k G s l:=by
 unfold jF ft;rw [List.take_of_length_le (Nat.le_refl _)]
section
variable{y v w w':World}{F:Nat->Prop}{c k:Nat}{G:GS}{m:CM}{s:HT}{l ch:List HT}{bs bc bh q sm bb kb n cp:Nat}{A:Option Addr}{K:Value->World->Prop}
set_option maxHeartbeats 4000000 in
theorem Ad(C:CV y F c k G m)(hD:G.D.length<=5000)(pP:k<=1000)(hs:s∈ids G.D)(hc:cM G.D G.P s ch)(hM: ∀x∈cy G s l,x∈ids G.D)
 (V:VB y c s bs bc bh q sm (fun _=>none)) (LI:y.heap[kb]? =some (.cells #[.func (.func bQ.id) #[] #[.pointer (some ⟨bs,0,none⟩),.pointer (some ⟨bc,0,none⟩),.pointer (some ⟨bh,0,none⟩)]] eW (0,0)))
 (gU: ∀j,(m.own c j\/F j\/j=bs\/j=bc\/j=bh\/j=kb)->j≠q/\j≠sm/\j≠bb)
 (h0:V2 y y k G s l (lY m.sz ch) q sm bb A n cp 0) (hn:n<=5000)
 (hK: ∀v ov E e ce,lS v y.heap.size q sm bb (cO k G s l) ov A n cp E e ce->OV G.D (ft k G s l).wd ov (lY m.sz ch)->Kept (fun j=>j=q\/j=sm\/j=bb) y v->K (.pointer (some ⟨q,0,none⟩)) v):
 Holds none [] prog 153 (.loop (lB (bB (sR (sL (sR (sR (sR (sR (sR (sR (sR (sR (body ai.fn)))))))))))))) (ai.q2 K)
  [(3,.pointer (some ⟨bc,0,none⟩)),(6,.pointer none),(8,.pointer (some ⟨bs,0,none⟩)),(11,.pointer (some ⟨bb,0,none⟩)),(12,.func (.func af.id) #[] #[.pointer (some ⟨bb,0,none⟩),.pointer (some ⟨bc,0,none⟩),.pointer (some ⟨bh,0,none⟩)]),(13,.pointer (some ⟨kb,0,none⟩)),(92,.slice A n cp),(93,.int .i64 (n:Int)),(94,.int .i64 0)] y:=by
 have W:=C.eM.W;have hmn:(cy G s l).Nodup:=(lj G s l).nodup;have TA:(cy G s l).length=n:=by obtain⟨_,_,_,_,_,_,_,_,h,_⟩:=h0.ex;exact h.mg.len
 have lbs:=aQ V.hs;have lbc:=aQ V.hc;have lbh:=aQ V.hh;have lkb:=aQ LI;have W5:=gU bs (.inr (.inr (.inl rfl)));have W7:=gU bc (.inr (.inr (.inr (.inl rfl))));have W6:=gU bh (.inr (.inr (.inr (.inr (.inl rfl)))));have fkb:=gU kb (.inr (.inr (.inr (.inr (.inr rfl)))));refine ai.gD (I:=fun s0 v=> ∃i:Nat,s0=(i:Int)/\i<=n/\V2 y v k G s l (lY m.sz ch) q sm bb A n cp i) (μ:=fun s0 _=>((n:Int)-s0).toNat) (s:=0) ⟨0,rfl,Nat.zero_le _,h0⟩ ?_;rintro s0 v ⟨i,rfl,hi,hV⟩;obtain⟨ov,E,e,ce,Ab,nb,cb,bl,hS,vz,e8,PZ,hAE,hO,fw,uw,hie⟩:=hV.ex;have kv:=hV.kp;have sv:=kv.size;refine Split.dec (fun jf=>?_) (fun gu=>?_)
 ·have dP:i<n:=by omega
  obtain⟨x,hx⟩: ∃x,(cy G s l)[i]? =some x:=⟨_,List.getElem?_eq_getElem (by omega)⟩;have PX:=hM x (List.mem_of_getElem? hx);have Wk:x∉(jF k G s l i).wd:=by
   rw [PZ];intro hm;obtain⟨_,g1,g2⟩:=ju.1 (List.mem_of_getElem? hx);rcases List.mem_append.1 hm with hm|hm
   ·rcases List.mem_append.1 hm with hm|hm
    ·exact g2 ((C.eM.wd s hs).2.1 x hm)
    ·exact g1 (by simpa using hm)
   ·have h1:=uw x hm
    obtain⟨j,hj⟩:=List.mem_iff_getElem?.1 h1;rw [List.getElem?_take]at hj;split at hj
    ·rename_i Iw
     have h2:=(List.getElem?_eq_some_iff.1 hj);have h3:=(List.getElem?_eq_some_iff.1 hx);have:=(List.getElem_inj hmn).1 (h2.2.trans h3.2.symm);omega
    ·cases hj
  have om:=xZ (k:=k) hx;refine hS.mg.load (i:=(i:Int)) (by omega) hx ?_;intro kN;obtain⟨qP,iC,iI⟩:=fT (w:=v) (z:=dL.1) (cs:=x.1) (t:=ag) (by rw [x.2.1];rfl);refine⟨⟨x.2.1,x.2.one,fun j hj=>qP j (by rw [x.2.1];exact hj)⟩,?_⟩;intro ie
  replace iC:ie.heap[v.heap.size]? =some (.cells x.1 ag (0,0)):=iC
  replace iI:Kept Nil v ie:=iI
  clear_value ie;intro lT iz;have sC:Kept Nil ie lT:=(Kept.refl _ _).alloc _;have Tu:fk lT ie.heap.size (fun _=>none):=fk.new ie;have jS:Kept Nil lT iz:=(Kept.refl _ _).alloc _;have OK:iz.heap[lT.heap.size]? =some (.cells #[.map none] ck (0,0)):=aJ lT _;refine⟨dM OK (by simp),?_⟩;intro vh;have Ua:vh.heap[lT.heap.size]? =some (.cells #[.map (some ie.heap.size)] ck (0,0)):=by
   show(iz.setCell ⟨lT.heap.size,0,none⟩ (.map (some ie.heap.size))).heap[lT.heap.size]? =_;rw [cU OK 0];rfl
  have zP:Kept (· =lT.heap.size) iz vh:=Kept.setCell (S:=(· =lT.heap.size)) (Kept.refl _ iz) (p:=⟨lT.heap.size,0,none⟩) (fun _=>rfl) _;clear_value vh;have s14:=iI.size;have s15:=sC.size;have l14:=aQ iC;have l15:=Tu.lt;have Wb:=aQ OK;have GA:Kept Nil ie vh:=⟨zP.os.trans (sC.trans jS (fun _ _ h=>h)).os,zP.tape.trans (sC.trans jS (fun _ _ h=>h)).tape,zP.output.trans (sC.trans jS (fun _ _ h=>h)).output,Nat.le_trans (sC.trans jS (fun _ _ h=>h)).size zP.size,fun j hj hn=>by rw [zP.block j (Nat.lt_of_lt_of_le hj (sC.trans jS (fun _ _ h=>h)).size) (by omega),(sC.trans jS (fun _ _ h=>h)).block j hj hn]⟩;have Z4:fk vh ie.heap.size (fun _=>none):=(Tu.same jS).aC zP (by omega);have LQ:=GA.heap iC (fun h=>h);clear_value iz lT;have Jf:Kept Nil v vh:=iI.trans GA (fun _ _ h=>h);have D5:Kept (fun j=>j=q\/j=sm\/j=bb) y vh:=kv.trans Jf (fun _ _ h=>h.elim);have O6:=hS.same Jf;have C17:CV vh F c k G m:=C.aC D5 (fun j hj e=>by have:=gU j (.inl hj);omega) (fun j hj e=>by have:=gU j (.inr (.inl hj));omega);have V17:VB vh c s bs bc bh q sm ov:=⟨D5.heap V.hs (by omega),D5.heap V.hc (by omega),D5.heap V.hh (by omega),O6.f35,O6.ov⟩;have TH:=D5.heap LI (by omega);have G3:bO vh y.heap.size Ab nb cb bl:=Row.aC e8 Jf (fun _ _ h=>h);have LZ:=Jf.heap vz (fun h=>h);refine⟨x.1,⟨x.2.1,Cells.bC LQ⟩,?_⟩;have qB:=hS.qB;have sB:=hS.sB;have bB:=hS.bB;have Hq: ∀b∈(jF k G s l i).wd,qL ov (lY m.sz ch) b=(bN G.D (jF k G s l i).wd b).length:=hO.kn;have sU:=fw;rw [PZ]at sU;obtain⟨c1,c2,c3⟩:=KB C.eM (h:=x) hs hc sU;rw [<-PZ]at c2 c3
  have Uv:=e8.len;have Ti:nb<=5000:=by
   have h1:=cR (m:=cy G s l) (List.nodup_append.1 sU).2.1 (fun z hz=>List.mem_of_mem_take (uw z hz));omega
  have Pb: ∀a,Ab=some a->a.block<ie.heap.size:=fun a ha=>by
   subst ha;obtain⟨_,cur,h1⟩:=Row.bC e8 (k:=a.block) rfl;have:=aQ h1;omega
  refine zh (p:=⟨bs,bc,bh,q,sm,kb,lT.heap.size,ie.heap.size,0,0⟩) ⟨C17,V17,TH,Ua,(fun e=>by have:ie.heap.size<y.heap.size:=C.low _ (.inl e);omega),(fun e=>by have:ie.heap.size<y.heap.size:=C.low _ (.inr e);omega),(show bs≠ie.heap.size/\bc≠ie.heap.size/\bh≠ie.heap.size/\q≠ie.heap.size/\sm≠ie.heap.size/\kb≠ie.heap.size/\lT.heap.size≠ie.heap.size from⟨by omega,by omega,by omega,by omega,by omega,by omega,by omega⟩)⟩ hD pP hs hc (h:=x) LZ (by show bb≠ie.heap.size;omega) G3.hs (fun a ha=>by have:=Pb a ha;show a.block≠ie.heap.size;omega) (by omega) (by
   show fk vh ie.heap.size _
   have e0:(fun y=>if y∈([]:List HT)then some (Value.int .i64 (qL ov (lY m.sz ch) y:Int))else none)=fun _=>none:=by funext y;simp
   rw [e0];exact Z4) c1 fun B9 r hr hFr xF=>⟨r,rfl,?_⟩
  replace xF:Kept (· =ie.heap.size) vh B9:=xF
  have LS:r=nN k G.D (jF k G s l i).wd x:=by rw [hr];exact HR Hq c2 c3
  have Va: ∀j,bg E=some j->y.heap.size<=j/\j<v.heap.size:=fun j hj=>by obtain⟨g1,cur,g2⟩:=Row.bC hS.bl hj;exact⟨g1,aQ g2⟩
  have Hz: ∀j,bg Ab=some j->y.heap.size<=j/\j<v.heap.size:=fun j hj=>by obtain⟨g1,cur,g2⟩:=Row.bC e8 hj;exact⟨g1,aQ g2⟩
  have s17:=GA.size;have abo:=O6.Gj xF (by omega) (by omega) (fun j hj=>by have:=Va j hj;omega) (fun a ha=>by have:=(hS.mA a ha).1;omega);have NX:bO B9 y.heap.size Ab nb cb bl:=Row.aC G3 xF (fun j hj=>by have:=Hz j hj;omega);have Jb:Kept (fun j=>j=q\/j=sm\/j=bb) y B9:=D5.trans xF (fun j hj e=>by omega);have UA:=xF.heap LZ (by omega);have Ur:=xF.heap LQ (by omega);have aaD:=xF.heap Ua (by omega);intro xW;have Gu:Kept Nil B9 xW:=(Kept.refl _ _).drew;clear_value xW;have Hw:=abo.same Gu;have yI:=Jb.trans Gu (fun _ _ h=>h.elim);have y0: ∀ {u:World} {S:Nat->Prop},Kept S y u-> ¬S bs->u.cell? ⟨bs,0,none⟩=some (.pointer (some ⟨q,0,none⟩)):=fun ku hb=>by rw [ax (ku.heap V.hs hb)];rfl
  have KS: ¬(bs=q\/bs=sm\/bs=bb):=by omega
  have s21:=yI.size;refine⟨_,y0 yI KS,_,y0 yI KS,E,e,ce,Hw.f34,?_⟩;intro lf;have pN:Kept Nil xW lf:=(Kept.refl _ _).alloc _;have Kh:lf.heap[xW.heap.size]? =some (.cells #[.bool r] gQ (0,0)):=aJ xW _;clear_value lf;have Hv:=Hw.same pN;have uq:=yI.trans pN (fun _ _ h=>h.elim);have V7:=uq.size;obtain⟨E',rj,u,Sv,kE,YT,Hu,k5,hE5⟩:=Hv.FW (by omega) (by omega) (x:=r) (b:=xW.heap.size) (by rw [ax Kh];rfl);have Yb:Kept (fun j=>j=q\/j=sm\/j=bb) y u:=uq.trans kE (fun j hj e=>by have:=Va j e.2;omega);refine⟨Hv.f34,y0 uq KS,y0 uq KS,E',e+1,rj,u,Sv,y0 Yb KS,YT,?_⟩;intro vg
  replace Hu:lS vg y.heap.size q sm bb _ ov A n cp E' (e+1) rj:=Hu
  replace k5:Kept (fun j=>j=q\/bg E=some j) lf vg:=k5
  clear_value vg;have MU:Kept (fun j=>j=q\/j=sm\/j=bb) y vg:=uq.trans k5 (fun j hj e=>by
   rcases e with e|e
   ·exact .inl e
   ·have:=Va j e;omega)
  have Gv:Kept (fun j=>j=q\/bg E=some j) B9 vg:=((Gu.trans pN (fun _ _ h=>h)).mono fun _ _ h=>h.elim).trans k5 (fun _ _ h=>h);have acQ:=(Gu.trans pN (fun _ _ h=>h)).size;have s20:=xF.size;have G0:bO vg y.heap.size Ab nb cb bl:=Row.aC NX Gv (fun j hj e=>by
   have:=Hz j hj;rcases e with e|e
   ·omega
   ·exact hAE j hj e)
  have LY:=Gv.heap UA (fun e=>by
   rcases e with e|e
   ·exact hS.qs.2.1 e.symm
   ·have:=Va bb e;omega)
  have Pc: ∀j,bg Ab=some j->bg E'≠some j:=fun j hj he=>by
   rcases hE5 j he with h1|h1
   ·exact hAE j hj h1
   ·have:=Hz j hj;omega
  have Lo: ∀z∈bl,z∈(cy G s l).take (i+1):=fun z hz=>by
   have h1:=uw z hz;rw [List.take_add_one];exact List.mem_append_left _ h1
  cases r with
  |false=>
   refine Split.yes rfl ?_;rw [dE (n:=(i:Int)) (by omega) (by omega)];have xc:jF k G s l (i+1)=⟨(jF k G s l i).wd,(jF k G s l i).bl++ [false]⟩:=by rw [om,nD,<-LS];rfl
   refine⟨(i:Int)+1,rfl,⟨i+1,rfl,dP,⟨ov,E',e+1,rj,Ab,nb,cb,bl,?_,LY,G0,?_,Pc,?_,?_,Lo,by omega⟩,MU⟩,by simp only;omega⟩
   ·rw [xc]
    simpa [List.count_append]using Hu
   ·rw [xc];exact PZ
   ·rw [xc];exact hO
   ·rw [xc];exact fw
  |true=>
   refine Split.no rfl ?_;have O8:=hFr rfl
   replace O8:xD B9 ie.heap.size (qL ov (lY m.sz ch)) (nM G x bl ch):=O8
   have cS:=(o9.1 hr.symm).2;have qq:=cR (m:=ids G.D) c1 (fun z hz=>by
    have h1:=(fh.1 ((c3 z).1 hz)).1;rw [PZ]at h1;rcases List.mem_append.1 h1 with h1|h1
    ·rcases List.mem_append.1 h1 with h1|h1
     ·exact(((C.eM.wd s hs).2.1 z h1).mem W).1
     ·have:z=s:=by simpa using h1
      subst this;exact hs
    ·exact hM z (List.mem_of_mem_take (uw z h1)))
   rw [fR]at qq;generalize jo:nM G x bl ch=jN at*;generalize aab:qL ov (lY m.sz ch)=kn at*;have NQ:G.score s<=5000:=by
    have h1:=(C.eM.wd s hs).2.2;have h2:=cR (m:=ids G.D) (C.eM.wd s hs).1 (fun b hb=>(((C.eM.wd s hs).2.1 b hb).mem W).1);rw [fR]at h2;omega
   have aaK:(jF k G s l i).bl.count true<=5000:=by
    have h1:=List.count_le_length (a:=true) (l:=(jF k G s l i).bl);rw [Ca k G s l i (by omega)]at h1;omega
   generalize CL:G.score s+1+(jF k G s l i).bl.count true=sc at*;have ew:IntKind.u64.wrap ((sc:Int)+(1:Int))=((sc+1:Nat):Int):=by
    rw [show(sc:Int)+1=((sc+1:Nat):Int)by omega];exact jm (by omega)
   refine⟨_,y0 MU KS,_,Hu.f32,Hu.wr (by omega),?_⟩;intro tk ra;have abm:lS tk y.heap.size q sm bb ⟨s,sc+1,cy G s l,(jF k G s l i).bl++ [true]⟩ ov A n cp E' (e+1) rj:=by
    show lS (vg.setCell (((⟨q,0,none⟩:Addr).add 0).add 32) (.int .u64 (IntKind.u64.wrap ((sc:Int)+(1:Int))))) _ _ _ _ _ _ _ _ _ _ _ _
    rw [ew];exact(Hu.MH (sc+1)).1
   have Fc:Kept (· =q) vg tk:=lS.QP (h:=Hu) 32 _;have AJ:Kept Nil tk ra:=(Kept.refl _ _).drew;clear_value ra tk;have Bm:=abm.same AJ;have CB:Kept (· =q) vg ra:=Fc.trans AJ (fun _ _ h=>h.elim);have yH:=MU.trans CB (fun j hj e=>.inl e);have CD:Kept (fun j=>j=q\/bg E=some j) B9 ra:=Gv.trans CB (fun j hj e=>.inl e);have HH: ∀j,v.heap.size<=j-> ¬(j=q\/bg E=some j):=fun j hj e=>by
    rcases e with e|e
    ·omega
    ·have:=Va j e;omega
   have LP:=CD.heap Ur (HH _ (Nat.le_refl _));have T9:=CD.heap aaD (HH _ (by omega));have U8:xD ra ie.heap.size kn jN:=O8.aC CD (HH _ (by omega));have Ox: ∀z,(if z∈jN then some (Value.int .i64 (kn z:Int))else none)≠none↔z∈jN:=fun z=>by
    by_cases hz:z∈jN
    ·rw [if_pos hz];exact⟨fun _=>hz,fun _ e=>by cases e⟩
    ·rw [if_neg hz];exact⟨fun e=>absurd rfl e,fun e=>absurd e hz⟩
   obtain⟨sO,Zr,U0,sQ⟩:=Bm.note x jN.length;have s33:=CD.size;have Yd:=yH.trans sQ (fun j hj e=>.inr (.inl e));have abA:xD sO ie.heap.size kn jN:=U8.aC sQ (by omega);have aaC:=sQ.heap T9 (by omega);have Uq:=sQ.heap LP (by omega);have NV:bO sO y.heap.size Ab nb cb bl:=Row.aC (Row.aC G0 CB (fun j hj e=>by have:=Hz j hj;omega)) sQ (fun j hj e=>by have:=Hz j hj;omega);have Uy:=sQ.heap (CB.heap LY (fun e=>hS.qs.2.1 e.symm)) (fun e=>hS.qs.2.2 e.symm);obtain⟨w38,zY,Zq,hit,PU⟩:=abA.range qJ;have s36:=sQ.size;have s38:=PU.size;refine⟨_,y0 yH KS,some sm,Bm.f35,x.1,⟨x.2.1,Cells.bC LP⟩,some ie.heap.size,by rw [ax T9];rfl,jN.length,U8.len qJ jl c1 Ox,sO,Zr,some ie.heap.size,by rw [ax aaC];rfl,_,w38,Zq,?_⟩;refine ai.um (I:=fun _ u=> ∃left zY KQ,nO u ie.heap.size sO.heap.size (fun z=>if z∈jN then some (Value.int .i64 (kn z:Int))else none) left zY/\lS u y.heap.size q sm bb ⟨s,sc+1,cy G s l,(jF k G s l i).bl++ [true]⟩ KQ A n cp E' (e+1) rj/\
    (∀z,(left z->z∈jN)/\(z∈jN-> ¬left z->KQ z=some (kn z+1))/\((z∉jN\/left z)->KQ z=if z=x then some jN.length else ov z))/\Kept (fun j=>j=sm\/j=sO.heap.size) w38 u) (μ:=fun _ u=>u.rangeLeft ie.heap.size sO.heap.size) (s:=())
    ⟨_,zY,_,hit,U0.same PU,fun z=>⟨fun hz=>(Ox z).1 hz,fun hz hl=>absurd ((Ox z).2 hz) hl,fun _=>rfl⟩,Kept.refl _ _⟩ ?_
   rintro s1 u3 ⟨left,ajS,KQ,Ou,O5,hinv,ku⟩;have XC:=ku.size;have lit:=Ou.lt;have ky3:Kept (fun j=>j=q\/j=sm\/j=bb) y u3:=(Yd.trans PU (fun _ _ h=>h.elim)).trans ku (fun j hj e=>by
    rcases e with e|e
    ·exact .inr (.inl e)
    ·omega)
   rcases Ou.next 0 with⟨h0',Td,jv⟩|⟨z,val,u4,ab0,hl,hfz,jv,aaF,aae,cI,k4⟩
   ·refine .inl ⟨u3,jv,?_⟩
    rw [aS,ai.z7];unfold ai.vJ;have Uz:=ku.heap (PU.heap Uy (fun h=>h)) (by have:=hS.qs;omega);have Ew:=ku.heap (PU.heap Uq (fun h=>h)) (by omega);have Sx:bO u3 y.heap.size Ab nb cb bl:=Row.aC (Row.aC NV PU (fun _ _ h=>h)) ku (fun j hj e=>by have:=Hz j hj;omega);refine⟨Ab,nb,cb,by rw [ax Uz];rfl,x.1,⟨x.2.1,Cells.bC Ew⟩,x.2.1,?_⟩;intro vN;have Gm:Kept Nil u3 vN:=(Kept.refl _ _).alloc _;have YM:HS vN (some ⟨u3.heap.size,0,none⟩) 1 [x]:=jb u3 x;clear_value vN;have s50:=Gm.size;have NT:bO vN y.heap.size Ab nb cb bl:=Row.aC Sx Gm (fun _ _ h=>h);obtain⟨A6,c6,zL,NZ,KM,g51,abH⟩:=cD az NT (cx:=1) YM (by omega) (by omega);have Ik:Kept (fun j=>bg Ab=some j) vN zL:=(Kept.refl _ _).grown g51 fun j hj _=>hj;have LX:=Ik.heap (Gm.heap Uz (fun h=>h)) (fun e=>by have:=Hz bb e;omega);refine⟨A6,nb+1,c6,zL,NZ,dM LX (by simp),?_⟩;intro Di;have Ux:Di.heap[bb]? =some (.cells #[.slice A6 (nb+1) c6] az (0,0)):=by
     show(zL.setCell ⟨bb,0,none⟩ (.slice A6 (nb+1) c6)).heap[bb]? =_;rw [cU LX 0];rfl
    have Gl:Kept (· =bb) zL Di:=Kept.setCell (S:=(· =bb)) (Kept.refl _ zL) (p:=⟨bb,0,none⟩) (fun _=>rfl) _;clear_value Di;have qN:Kept (fun j=>bg Ab=some j\/j=bb) u3 Di:=((Gm.mono fun _ _ h=>h.elim).trans Ik (fun _ _ h=>.inl h):Kept (fun j=>bg Ab=some j\/j=bb) u3 zL).trans Gl (fun _ _ h=>.inr h);have abl:lS Di y.heap.size q sm bb ⟨s,sc+1,cy G s l,(jF k G s l i).bl++ [true]⟩ KQ A n cp E' (e+1) rj:=O5.Gj qN
     (fun e=>e.elim (fun e=>by have:=Hz q e;omega) (fun e=>hS.qs.2.1 e)) (fun e=>e.elim (fun e=>by have:=Hz sm e;omega) (fun e=>hS.qs.2.2 e))
     (fun j hj e=>e.elim (fun e=>Pc j e hj) (fun e=>by have:=(Row.bC O5.bl hj).1;omega)) (fun a ha e=>e.elim (fun e=>by have:=Hz _ e;have:=(hS.mA a ha).1;omega) (fun e=>(hS.mA a ha).2.2.2 e))
    have sj:bO Di y.heap.size A6 (nb+1) c6 (bl++ [x]):=Row.aC KM Gl (fun j hj e=>by have:=(Row.bC KM hj).1;omega);rw [dE (n:=(i:Int)) (by omega) (by omega)];have xc:jF k G s l (i+1)=⟨(jF k G s l i).wd++ [x],(jF k G s l i).bl++ [true]⟩:=by rw [om,nD,<-LS];rfl
    have ZK:KQ=yv G.D (jF k G s l i).wd ov (lY m.sz ch) x:=by
     funext z
     unfold yv;rw [aab];by_cases hz:z∈jN
     ·rw [if_pos ((c3 z).1 hz)]
      exact(hinv z).2.1 hz (Td z)
     ·rw [if_neg (fun e=>hz ((c3 z).2 e)),(hinv z).2.2 (.inl hz),c2]
    refine⟨(i:Int)+1,rfl,⟨i+1,rfl,dP,⟨KQ,E',e+1,rj,A6,nb+1,c6,bl++ [x],?_,Ux,sj,?_,?_,?_,?_,?_,by omega⟩,?_⟩,by simp only;omega⟩
    ·rw [xc]
     have ec:G.score s+1+((jF k G s l i).bl++ [true]).count true=sc+1:=by rw [List.count_append,<-CL];simp;omega
     show lS Di y.heap.size q sm bb ⟨s,G.score s+1+((jF k G s l i).bl++ [true]).count true,cy G s l,(jF k G s l i).bl++ [true]⟩ KQ A n cp E' (e+1) rj
     rw [ec];exact abl
    ·rw [xc]
     show(jF k G s l i).wd++ [x]=_;rw [PZ,List.append_assoc]
    ·intro j hj he
     rcases abH j hj with h1|h1
     ·exact Pc j h1 he
     ·obtain⟨_,cur,h2⟩:=Row.bC O5.bl he
      have:=aQ h2;omega
    ·rw [xc,ZK]
     exact hO.step Wk
    ·rw [xc]
     exact List.nodup_append.2 ⟨fw,by simp,fun a ha b hb e=>by
      have:b=x:=by simpa using hb
      subst this;subst e;exact Wk ha⟩
    ·intro z hz
     rcases List.mem_append.1 hz with hz|hz
     ·exact Lo z hz
     ·have:z=x:=by simpa using hz
      subst this;rw [List.take_add_one,hx];simp
    ·exact ky3.trans qN (fun j hj e=>by
      rcases e with e|e
      ·have:=Hz j e;omega
      ·exact .inr (.inr e))
   ·have YG:=(hinv z).1 hl
    rw [if_pos YG]at hfz;cases hfz;have hkz:=cS z YG;refine .inr ⟨_,_,u4,jv,z.1,(kn z:Int),aaF,?_⟩;intro Ih;obtain⟨NF,zc,xj⟩:=fT (w:=u4) (z:=dL.1) (cs:=z.1) (t:=ag) (by rw [z.2.1];rfl);refine⟨⟨z.2.1,z.2.one,fun j hj=>NF j (by rw [z.2.1];exact hj)⟩,?_⟩;intro VZ PD
    replace zc:VZ.heap[u4.heap.size]? =some (.cells z.1 ag (0,0)):=zc
    replace xj:Kept Nil u4 VZ:=xj
    have Wf:Kept Nil VZ PD:=(Kept.refl _ _).drew;clear_value PD VZ;have aa2:=Wf.heap zc (fun h=>h);have K3:=xj.trans Wf (fun _ _ h=>h);have Cy:Kept (· =sO.heap.size) u3 PD:=k4.trans K3 (fun _ _ h=>h.elim);have hE3: ∀j,bg E'=some j->j≠sO.heap.size:=fun j hj e=>by
     obtain⟨_,cur,h2⟩:=Row.bC U0.bl hj;have:=aQ h2;omega
    have UY:=O5.Gj Cy (by omega) (by omega) (fun j hj e=>hE3 j hj e) (fun a ha e=>by have:=(hS.mA a ha).1;omega);have Yc:Kept (fun j=>j=q\/j=sm\/j=bb) y PD:=ky3.trans Cy (fun j hj e=>by omega);have LJ:=aae.aC K3 (fun h=>h) (fun h=>h);obtain⟨Dq,SF,U1,AN⟩:=UY.note z (kn z+1);have ekz:IntKind.i64.wrap ((kn z:Int)+(1:Int))=((kn z+1:Nat):Int):=by rw [dE (n:=(kn z:Int)) (by omega) (by omega)];omega
    have s3:=Cy.size;refine⟨_,y0 Yc KS,some sm,UY.f35,z.1,⟨z.2.1,Cells.bC aa2⟩,Dq,by rw [ekz];exact SF,?_⟩;refine⟨(),rfl,⟨_,ab0,_,LJ.aC AN (by omega) (by omega),U1,fun y'=>?_,?_⟩,?_⟩
    ·obtain⟨i1,i2,i3⟩:=hinv y'
     refine⟨fun h=>i1 h.1,fun h1 h2=>?_,fun h=>?_⟩
     ·by_cases e:y'=z
      ·subst e;simp only [if_true]
      ·simp only [if_neg e]
       exact i2 h1 (fun h=>h2 ⟨h,e⟩)
     ·have e:y'≠z:=by
       rcases h with h|h
       ·exact fun e=>h (by rw [e];exact YG)
       ·exact h.2
      simp only [if_neg e];exact i3 (h.imp_right fun h=>h.1)
    ·exact(ku.trans Cy (fun j hj e=>.inr e)).trans AN (fun j hj e=>.inl e)
    ·show Dq.rangeLeft ie.heap.size sO.heap.size<u3.rangeLeft ie.heap.size sO.heap.size
     rw [Ou.left_eq,(LJ.aC AN (by omega) (by omega)).left_eq];exact cI
 ·rw [aS,ai.jC]
  have:i=n:=by omega
  subst this;have e1:=Cb k G s l;rw [TA]at e1;rw [e1]at hS hO;have hsq:v.heap[bs]? =some (.cells #[.pointer (some ⟨q,0,none⟩)] eT (0,0)):=kv.heap V.hs (by omega);exact⟨some ⟨q,0,none⟩,by rw [ax hsq];rfl,hK v ov E e ce hS hO kv⟩
end
end Go.Proofs.YtnboahlopghcjaaGreatDoor
namespace Go.Proofs.YtnboahlopghcjaaGreatDoor
open Go.Proofs.Tryz
open Go Go.bV Go.RowKit
def Dd(N:Nat):Prop:= ∀ {w:World} {F:Nat->Prop} {c k:Nat} {G:GS} {m:CM} {B:Nat} {A:Option Addr} {n cx:Nat} {l:List HT} {K:Value->World->Prop},CV w F c k G m->bO w B A n cx l->n<=N->l.Nodup->(∀x∈l,x∈ids G.D)->
 (∀j,bg A=some j-> ¬m.own c j/\ ¬F j)->(∀l' w',SO G l'->(∀x,x∈l'↔x∈l)->bO w' B A n cx l'->Kept (fun j=>bg A=some j) w w'->K (.tuple #[]) w')->
 bn prog iE.id #[.slice A n cx,.func (.func br.id) #[.pointer (some ⟨c,0,none⟩)] #[]] w K
section
variable{y v w w':World}{F:Nat->Prop}{c k:Nat}{G:GS}{m:CM}{s:HT}{l ch:List HT}{bs bc bh q sm nL cL:Nat}{AL:Option Addr}{K:Value->World->Prop}
set_option maxHeartbeats 4000000 in
theorem Ae{N:Nat}(yY:Dd N)(hN:(rG G.D s l).length<=N)(C:CV y F c k G m)(hD:G.D.length<=5000)(pP:k<=1000)(hs:s∈ids G.D)(hc:cM G.D G.P s ch)(hl: ∀x∈l,x∈ids G.D)
 (V:VB y c s bs bc bh q sm (fun _=>none)) (hS:xQ y y.heap.size q sm ⟨s,G.score s+1,[],[]⟩ (fun _=>none) none 0 0 none 0 0)
 (hL:HS y AL nL (df (dQ G.D l++l))) (hAL: ∀a,AL=some a->a.block≠q)
 (gU: ∀j,(m.own c j\/F j\/j=bs\/j=bc\/j=bh)->j≠q/\j≠sm)
 (hK: ∀v B bb ov A n cp E e ce,lS v B q sm bb (cO k G s l) ov A n cp E e ce->OV G.D (ft k G s l).wd ov (lY m.sz ch)->(∀a,A=some a->y.heap.size<=a.block)->(y.heap.size<=B/\B<=v.heap.size)->Kept (fun j=>j=q\/j=sm) y v->K (.pointer (some ⟨q,0,none⟩)) v):
 Holds none [] prog 153 (.loop (lB (bB (sR (sL (sR (sR (sR (body ai.fn))))))))) (ai.q1 K)
  [(3,.pointer (some ⟨bc,0,none⟩)),(4,.pointer (some ⟨bh,0,none⟩)),(6,.pointer none),(8,.pointer (some ⟨bs,0,none⟩)),(46,.slice AL nL cL),(47,.int .i64 (nL:Int)),(48,.int .i64 0)] y:=by
 have W:=C.eM.W;have lbs:=aQ V.hs;have lbc:=aQ V.hc;have lbh:=aQ V.hh;have W5:=gU bs (.inr (.inr (.inl rfl)));have W7:=gU bc (.inr (.inr (.inr (.inl rfl))));have W6:=gU bh (.inr (.inr (.inr (.inr rfl))));have aeK:=hL.len;have hLi: ∀x∈df (dQ G.D l++l),x∈ids G.D:=fun x hx=>by
  rcases List.mem_append.1 (dm.1 hx)with h|h
  ·exact(ji.1 h).1
  ·exact hl x h
 have hLn:nL<=5000:=by
  have:=cR (iD _).nodup hLi;rw [fR]at this;omega
 generalize hLL:df (dQ G.D l++l)=L at*;refine ai.b6 (I:=fun s0 v=> ∃i:Nat,s0=(i:Int)/\i<=nL/\(∃A n cp,xQ v y.heap.size q sm ⟨s,G.score s+1,(L.take i).filter fun h=>decide (h≠s/\ ¬eZ G.D h s),[]⟩ (fun _=>none) A n cp none 0 0)/\Kept (· =q) y v) (μ:=fun s0 _=>((nL:Int)-s0).toNat) (s:=0) ⟨0,rfl,Nat.zero_le _,⟨none,0,0,hS⟩,Kept.refl _ _⟩ ?_;rintro s0 v ⟨i,rfl,hi,⟨A,n,cp,Kk⟩,kv⟩;have sv:=kv.size;have TB:=bO.len Kk.mg;have hnA:n<=5000:=by
  have h1:=List.length_filter_le (fun h=>decide (h≠s/\ ¬eZ G.D h s)) (L.take i);have h2:=List.length_take_le i L;have h3:((L.take i).filter fun h=>decide (h≠s/\ ¬eZ G.D h s)).length=n:=TB;omega
 refine Split.dec (fun jf=>?_) (fun gu=>?_)
 ·have dP:i<nL:=by omega
  obtain⟨x,hx⟩: ∃x,L[i]? =some x:=⟨_,List.getElem?_eq_getElem (by omega)⟩;have EF:L.take (i+1)=L.take i++ [x]:=by rw [List.take_add_one,hx];rfl
  have hLv:HS v AL nL L:=hL.aC kv hAL;refine hLv.load (i:=(i:Int)) (by omega) hx ?_;intro kN;obtain⟨qP,iC,iI⟩:=fT (w:=v) (z:=dL.1) (cs:=x.1) (t:=ag) (by rw [x.2.1];rfl);refine⟨⟨x.2.1,x.2.one,fun j hj=>qP j (by rw [x.2.1];exact hj)⟩,?_⟩;intro ie lT
  replace iC:ie.heap[v.heap.size]? =some (.cells x.1 ag (0,0)):=iC
  replace iI:Kept Nil v ie:=iI
  have sC:Kept Nil ie lT:=(Kept.refl _ _).drew;clear_value lT ie;have Hn:=sC.heap iC (fun h=>h);have MZ:=iI.trans sC (fun _ _ h=>h);have D6:Kept (· =q) y lT:=kv.trans MZ (fun _ _ h=>h.elim);have C15:CV lT F c k G m:=C.aC D6 (fun j hj e=>(gU j (.inl hj)).1 e) (fun j hj e=>(gU j (.inr (.inl hj))).1 e);have hcy: ∀ {u:World},Kept (· =q) y u->u.cell? ⟨bc,0,none⟩=some (.pointer (some ⟨c,0,none⟩)):=fun ku=>by rw [ax (ku.heap V.hc W7.1)];rfl
  have Sn: ∀ {u:World},Kept (· =q) y u->u.cell? ⟨bs,0,none⟩=some (.pointer (some ⟨q,0,none⟩)):=fun ku=>by rw [ax (ku.heap V.hs W5.1)];rfl
  have next: ∀ {u:World} {A':Option Addr} {n' vB:Nat},xQ u y.heap.size q sm ⟨s,G.score s+1,(L.take (i+1)).filter fun h=>decide (h≠s/\ ¬eZ G.D h s),[]⟩ (fun _=>none) A' n' vB none 0 0->Kept (· =q) y u->
   ∃s1:Int,IntKind.i64.wrap ((i:Int)+(1:Int))=s1/\(∃i':Nat,s1=(i':Int)/\i'<=nL/\(∃A n cp,xQ u y.heap.size q sm ⟨s,G.score s+1,(L.take i').filter fun h=>decide (h≠s/\ ¬eZ G.D h s),[]⟩ (fun _=>none) A n cp none 0 0)/\Kept (· =q) y u)/\((nL:Int)-s1).toNat<((nL:Int)-(i:Int)).toNat:=fun h1 h2=>by
   rw [dE (n:=(i:Int)) (by omega) (by omega)];exact⟨(i:Int)+1,rfl,⟨i+1,rfl,dP,⟨_,_,_,h1⟩,h2⟩,by omega⟩
  refine⟨x.1,⟨x.2.1,Cells.bC Hn⟩,s.1,⟨s.2.1,Cells.bC (D6.heap V.hh W6.1)⟩,⟨x.2.ints,s.2.ints⟩,?_⟩;rw [dq];by_cases Jx:x=s
  ·refine Split.no (by rw [decide_eq_true Jx];rfl) ?_
   obtain⟨s1,e1,e2,e3⟩:=next (u:=lT) (by
    rw [EF,List.filter_append];have: [x].filter (fun h=>decide (h≠s/\ ¬eZ G.D h s))= []:=by rw [List.filter_cons_of_neg (by simp [Jx])];rfl
    rw [this,List.append_nil];exact Kk.same MZ) D6
   rw [e1];exact⟨s1,rfl,e2,e3⟩
  ·refine Split.yes (by rw [decide_eq_false Jx];rfl) ⟨_,hcy D6,_,C15.c1,x.1,⟨x.2.1,Cells.bC Hn⟩,s.1,⟨s.2.1,Cells.bC (D6.heap V.hh W6.1)⟩,?_⟩
   obtain⟨mx,X15,_⟩:=C15.X;refine kX X15 hD x s fun B9 r hr xF=>⟨r,rfl,?_⟩;have Jb:Kept (· =q) y B9:=D6.trans xF (fun _ _ h=>h.elim);have Rv:=MZ.trans xF (fun _ _ h=>h);cases r with
   |true=>
    refine Split.no rfl ?_;obtain⟨s1,e1,e2,e3⟩:=next (u:=B9) (by
     rw [EF,List.filter_append];have: [x].filter (fun h=>decide (h≠s/\ ¬eZ G.D h s))= []:=by rw [List.filter_cons_of_neg (by simp [hr.1 rfl])];rfl
     rw [this,List.append_nil];exact Kk.same Rv) Jb
    rw [e1];exact⟨s1,rfl,e2,e3⟩
   |false=>
    refine Split.yes rfl ?_;intro xW;have Gu:Kept Nil B9 xW:=(Kept.refl _ _).drew;clear_value xW;have Yj:=Rv.trans Gu (fun _ _ h=>h);have yI:Kept (· =q) y xW:=Jb.trans Gu (fun _ _ h=>h.elim);have Hw:=Kk.same Yj;refine⟨_,Sn yI,_,Sn yI,A,n,cp,Hw.f33,x.1,⟨x.2.1,Cells.bC ((xF.trans Gu (fun _ _ h=>h)).heap Hn (fun h=>h))⟩,x.2.1,?_⟩;intro lf;have pN:Kept Nil xW lf:=(Kept.refl _ _).alloc _;have YR:HS lf (some ⟨xW.heap.size,0,none⟩) 1 [x]:=jb xW x;clear_value lf;have Hv:=Hw.same pN;have uq:Kept (· =q) y lf:=yI.trans pN (fun _ _ h=>h.elim);have V7:=uq.size;obtain⟨A',vB,u,Sv,ku,Hu,k5,YY⟩:=Hv.Q2 V7 (by omega) YR;have Yb:Kept (· =q) y u:=uq.trans ku (fun j hj e=>by omega);refine⟨Hv.f33,Sn uq,Sn uq,A',n+1,vB,u,Sv,Sn Yb,YY,?_⟩;intro vg
    replace Hu:xQ vg y.heap.size q sm _ (fun _=>none) A' (n+1) vB none 0 0:=Hu
    replace k5:Kept (fun j=>j=q\/y.heap.size<=j) lf vg:=k5
    clear_value vg;obtain⟨s1,e1,e2,e3⟩:=next (u:=vg) (by
     rw [EF,List.filter_append];have: [x].filter (fun h=>decide (h≠s/\ ¬eZ G.D h s))= [x]:=by rw [List.filter_cons_of_pos (by simp only [decide_eq_true_eq];exact⟨Jx,fun e=>by have:=hr.2 e;cases this⟩)];rfl
     rw [this];exact Hu) (uq.trans k5 (fun j hj e=>by
      rcases e with e|e
      ·exact e
      ·omega))
    rw [e1];exact⟨s1,rfl,e2,e3⟩
 ·rw [aS,ai.cX]
  have fN:i=nL:=by omega
  subst fN;rw [List.take_of_length_le (by omega)]at Kk;unfold ai.cJ;intro ra;have AJ:Kept Nil v ra:=(Kept.refl _ _).drew;clear_value ra;have Bm:=Kk.same AJ;have yH:Kept (· =q) y ra:=kv.trans AJ (fun _ _ h=>h.elim);have C33:CV ra F c k G m:=C.aC yH (fun j hj e=>(gU j (.inl hj)).1 e) (fun j hj e=>(gU j (.inr (.inl hj))).1 e);have efl:(L.filter fun h=>decide (h≠s/\ ¬eZ G.D h s))=rG G.D s l:=by unfold rG;rw [hLL]
  have AY:bO ra y.heap.size A n cp (rG G.D s l):=by rw [<-efl];exact Bm.mg
  have Pb: ∀j,bg A=some j->y.heap.size<=j/\j<ra.heap.size:=fun j hj=>by obtain⟨g1,cur,g2⟩:=Row.bC AY hj;exact⟨g1,aQ g2⟩
  refine⟨some ⟨q,0,none⟩,by rw [ax (yH.heap V.hs W5.1)];rfl,A,n,cp,Bm.f33,some ⟨c,0,none⟩,by rw [ax (yH.heap V.hc W7.1)];rfl,?_⟩;refine yY C33 AY (by have:=bO.len AY;omega) (pZ _ _ _) (fun x hx=>hLi x (by rw [<-efl]at hx;exact(List.mem_filter.1 hx).1)) (fun j hj=>⟨fun e=>by have:=C.low j (.inl e);have:=(Pb j hj).1;omega,fun e=>by have:=C.low j (.inr e);have:=(Pb j hj).1;omega⟩) fun l' nh El gZ GZ zO=>⟨rfl,?_⟩;have el:l'=cy G s l:=rH El gZ;subst el;have qB:=Kk.qB;have sB:=Kk.sB;have Zx:=Kk.qs;have s33:=yH.size;have Rj:Kept (· =q) y nh:=yH.trans zO (fun j hj e=>by have:=(Pb j e).1;omega);have NL:=zO.heap Bm.top (fun e=>by have:=(Pb q e).1;omega);have SV:=Bm.ov.aC zO (fun e=>by have:=(Pb sm e).1;omega);intro gR sO;have lV:Kept Nil nh gR:=(Kept.refl _ _).alloc _;have UF:gR.heap[nh.heap.size]? =some (.cells #[.slice none 0 0] az (0,0)):=aJ nh _;have sQ:Kept Nil gR sO:=(Kept.refl _ _).alloc _;have Ot:sO.heap[gR.heap.size]? =some (.cells #[.nilFunc] eW (0,0)):=aJ gR _;refine⟨dM Ot (by simp),?_⟩;intro vO;have TI:vO.heap[gR.heap.size]? =some (.cells #[.func (.func bQ.id) #[] #[.pointer (some ⟨bs,0,none⟩),.pointer (some ⟨bc,0,none⟩),.pointer (some ⟨bh,0,none⟩)]] eW (0,0)):=by
   show(sO.setCell ⟨gR.heap.size,0,none⟩ _).heap[gR.heap.size]? =_;rw [cU Ot 0];rfl
  have Ec:Kept (· =gR.heap.size) sO vO:=Kept.setCell (S:=(· =gR.heap.size)) (Kept.refl _ sO) (p:=⟨gR.heap.size,0,none⟩) (fun _=>rfl) _;clear_value vO;have wj:=lV.trans sQ (fun _ _ h=>h);have V1:=lV.size;have s36:=sQ.size;have l35:=aQ UF;have l36:=aQ Ot;have CA:Kept Nil nh vO:=⟨Ec.os.trans wj.os,Ec.tape.trans wj.tape,Ec.output.trans wj.output,Nat.le_trans wj.size Ec.size,fun j hj hn=>by rw [Ec.block j (Nat.lt_of_lt_of_le hj wj.size) (by omega),wj.block j hj hn]⟩;have aa9:=Ec.heap (sQ.heap UF (fun h=>h)) (by omega);have l37:=aQ TI;clear_value sO gR;have D4:Kept (· =q) y vO:=Rj.trans CA (fun _ _ h=>h.elim);have s34:=Rj.size;have s37:=D4.size;have C37:CV vO F c k G m:=C.aC D4 (fun j hj e=>(gU j (.inl hj)).1 e) (fun j hj e=>(gU j (.inr (.inl hj))).1 e);have GM:=CA.heap NL (fun h=>h);have Lz:=SV.aC CA (fun h=>h);have NU:bO vO y.heap.size A n cp (cy G s l):=Row.aC GZ CA (fun _ _ h=>h);have V37:VB vO c s bs bc bh q sm (fun _=>none):=⟨D4.heap V.hs W5.1,D4.heap V.hc W7.1,D4.heap V.hh W6.1,by rw [ba,ax GM];exact(eN ..).2.2.2,Lz⟩;have WU: ∀a,A=some a->y.heap.size<=a.block/\a.block<nh.heap.size:=fun a ha=>by
   subst ha;obtain⟨g1,cur,g2⟩:=Row.bC GZ (k:=a.block) rfl;exact⟨g1,aQ g2⟩
  have UZ:lS vO vO.heap.size q sm nh.heap.size ⟨s,G.score s+1,cy G s l,[]⟩ (fun _=>none) A n cp none 0 0:=
   ⟨GM,NU.hs,fun a ha=>by have:=WU a ha;exact⟨by omega,by omega,by omega,by omega⟩,Row.nil _ _ _ _,Lz,by omega,by omega,by omega,⟨Zx,by omega,by omega⟩⟩
  refine⟨some ⟨q,0,none⟩,by rw [ax V37.hs];rfl,A,n,cp,UZ.f33,?_⟩;have Sg:(jF k G s l 0)=⟨G.world s++ [s],[]⟩:=rfl;refine Ad (l:=l) C37 hD pP hs hc (fun x hx=>hLi x (by
   have h1:=(gZ x).1 hx;rw [<-efl]at h1;exact(List.mem_filter.1 h1).1)) V37 TI (fun j hj=>?_) ⟨⟨fun _=>none,none,0,0,none,0,0,[],UZ,aa9,bO.nil _ _,by rw [Sg,List.append_nil],fun j hj=>by simp [bg]at hj,by rw [Sg];exact C.Z |>.ov hs hc,?_,fun z hz=>by simp at hz,rfl⟩,Kept.refl _ _⟩ hnA fun v' ov E e ce h1 h2 h3=>?_
  ·have h1:j<y.heap.size\/j=gR.heap.size:=by
    rcases hj with h|h|h|h|h|h
    ·exact .inl (C.low j (.inl h))
    ·exact .inl (C.low j (.inr h))
    ·exact .inl (by omega)
    ·exact .inl (by omega)
    ·exact .inl (by omega)
    ·exact .inr h
   rcases h1 with h1|h1
   ·have h2:j≠q/\j≠sm:=by
     rcases hj with h|h|h|h|h|h
     ·exact gU j (.inl h)
     ·exact gU j (.inr (.inl h))
     ·exact gU j (.inr (.inr (.inl h)))
     ·exact gU j (.inr (.inr (.inr (.inl h))))
     ·exact gU j (.inr (.inr (.inr (.inr h))))
     ·omega
    exact⟨h2.1,h2.2,by omega⟩
   ·exact⟨by omega,by omega,by omega⟩
  ·rw [Sg]
   obtain⟨g1,g2,_⟩:=C.eM.wd s hs;exact List.nodup_append.2 ⟨g1,by simp,fun a ha b hb e=>by
    have:b=s:=by simpa using hb
    subst this;subst e;exact eZ.irrefl W a (g2 a ha)⟩
  ·refine hK v' vO.heap.size nh.heap.size ov A n cp E e ce h1 h2 (fun a ha=>(WU a ha).1) ⟨s37,h3.size⟩ ?_
   exact(D4.mono fun _ _ h=>.inl h).trans h3 (fun j hj e=>by
    rcases e with e|e|e
    ·exact .inl e
    ·exact .inr e
    ·omega)
end
end Go.Proofs.YtnboahlopghcjaaGreatDoor
namespace Go.Proofs.YtnboahlopghcjaaGreatDoor
open Go.Proofs.Tryz
open Go Go.bV Go.RowKit
theorem Po:Qp prog bk=some ([(0,32),(32,1),(33,1),(34,1)],List.replicate 32 (.int .u8 0)++ [.int .u64 0,.slice none 0 0,.slice none 0 0]):=by kernel_rfl
theorem uW(h:HT)(z:Int):prog.built bk [(0,.agg h.1),(1,.int .u64 z)]=some (h.1++ #[.int .u64 z,.slice none 0 0,.slice none 0 0]):=by
 have hs:=h.2.1;rw [mS Po,iA (off:=0) (size:=32) rfl (by simpa [Value.cells]using hs) (by simp),iA (off:=32) (size:=1) rfl rfl (by
  rw [List.size_toArray,ly (by simp [Value.cells,hs])];simp)]
 simp only [Instr.fill,Option.some.injEq];apply Array.ext';unfold gz;simp [Value.cells,hs];rw [List.drop_append];simp [hs]
theorem KD:Qp prog dN=some ([(0,35),(35,1)],List.replicate 32 (.int .u8 0)++ [.int .u64 0,.slice none 0 0,.slice none 0 0,.map none]):=by kernel_rfl
theorem wB(c:oc)(sm:Option Nat):prog.built dN [(0,.agg (cF c none 0 0 none 0 0)),(1,.map sm)]=some (cF c none 0 0 none 0 0++ #[.map sm]):=by
 have hs:=aY c none 0 0 none 0 0;rw [mS KD,iA (off:=0) (size:=35) rfl (by simpa [Value.cells]using hs) (by simp),iA (off:=35) (size:=1) rfl rfl (by
  rw [List.size_toArray,ly (by simp [Value.cells,hs])];simp)]
 simp only [Instr.fill,Option.some.injEq];apply Array.ext';unfold gz;simp [Value.cells,hs]
section
variable{g1 v w w':World}{F:Nat->Prop}{c k:Nat}{G:GS}{m:CM}{s:HT}{l ch:List HT}{bs bc bh q sm n cx:Nat}{A:Option Addr}{K:Value->World->Prop}
theorem IK{N:Nat}(yY:Dd N)(hN:(rG G.D s l).length<=N)(C:CV g1 F c k G m)(hT:tg g1)(hD:G.D.length<=5000)(pP:k<=1000)(hs:s∈ids G.D)(hc:cM G.D G.P s ch)(hl: ∀x∈l,x∈ids G.D)(Ff:HS g1 A n l)(hn:n<=5000)
 (V:VB g1 c s bs bc bh q sm (fun _=>none)) (iM:g1.heap[q]? =some (.cells (cF ⟨s,G.score s+1,[],[]⟩ none 0 0 none 0 0++ #[.map (some sm)]) dN (0,0)))
 (gU: ∀j,(m.own c j\/F j\/j=bs\/j=bc\/j=bh)->j≠q/\j≠sm) (Zx:q≠sm) {p:Nat} (hp: ∃mx,XV g1 m.FX m.x G.D G.P mx/\mx.g=p)
 (hK: ∀v B bb ov A n cp E e ce,lS v B q sm bb (cO k G s l) ov A n cp E e ce->OV G.D (ft k G s l).wd ov (lY m.sz ch)->(∀a,A=some a->g1.heap.size<=a.block)->(g1.heap.size<=B/\B<=v.heap.size)->Kept (fun j=>j=q\/j=sm) g1 v->K (.pointer (some ⟨q,0,none⟩)) v):
 bn prog aR.id #[.pointer (some ⟨p,0,none⟩),.slice A n cx] g1 fun i1 j1=> ∃k1:Option Addr,∃m1:Nat,∃n1:Nat,i1=.slice k1 m1 n1/\
  ∃(o1:Option Addr) (p1 q1:Nat) (r1:World),(Builtin.append_ #[az,az] az #[.slice k1 m1 n1,.slice A n cx]).run prog j1=.ok (.slice o1 p1 q1) r1/\
  bn prog iO.id #[.slice o1 p1 q1] r1 fun t1 u1=> ∃v1:Option Addr,∃x1:Nat,∃y1:Nat,t1=.slice v1 x1 y1/\
  Holds none [] prog 153 (.loop (lB (bB (sR (sL (sR (sR (sR (body ai.fn))))))))) (ai.q1 K)
   [(3,.pointer (some ⟨bc,0,none⟩)),(4,.pointer (some ⟨bh,0,none⟩)),(6,.pointer none),(8,.pointer (some ⟨bs,0,none⟩)),(46,.slice v1 x1 y1),(47,.int .i64 (x1:Int)),(48,.int .i64 0)] u1:=by
 have W:=C.eM.W;obtain⟨mx,X,rfl⟩:=hp;obtain⟨bl,c',mb,M,GG⟩:=X.G;have lq:=aQ iM;have lsm:=V.ov.lt;refine uR GG W (by omega) hT Ff (by omega) fun A1 c1 w1 kW k1=>⟨A1,_,c1,rfl,?_⟩;have qp:(dQ G.D l).length<=5000:=Nat.le_trans (mH _ _) hD;have s1:=k1.size;obtain⟨A2,c2,w2,jv,fO,g2,Vd⟩:=cD az kW (cx:=cx) (Ff.same k1) (by omega) s1;have k2:Kept (fun j=>g1.heap.size<=j) w1 w2:=(Kept.refl _ _).grown g2 fun j hj _=>(Row.bC kW hj).1;have oh:Kept Nil g1 w2:=k1.trans k2 (fun j hj e=>by omega);refine⟨A2,_,c2,w2,jv,?_⟩;refine gN fO.hs (by omega) fun A3 c3 w3 lX k3=>⟨A3,_,c3,rfl,?_⟩;have nS:=oh.trans k3 (fun _ _ h=>h);have s02:=oh.size;have s03:=nS.size;have V3:=V.same nS;refine Ae (l:=l) yY hN (C.same nS) hD pP hs hc hl V3 ⟨nS.heap iM (fun h=>h),bO.nil _ _,Row.nil _ _ _ _,V3.ov,by omega,by omega,Zx,fun j hj=>by simp [bg]at hj⟩ lX.hs (fun a ha=>?_) gU fun v B bb ov A n cp E e ce h1 h2 h3 h4 h5=>?_
 ·subst ha
  have:=(Row.bC lX (k:=a.block) rfl).1;omega
 ·exact hK v B bb ov A n cp E e ce h1 h2 (fun a ha=>Nat.le_trans s03 (h3 a ha)) ⟨Nat.le_trans s03 h4.1,h4.2⟩ ((nS.mono fun _ _ h=>h.elim).trans h5 (fun _ _ h=>h))
end
end Go.Proofs.YtnboahlopghcjaaGreatDoor
namespace Go.Proofs.YtnboahlopghcjaaGreatDoor
open Go.Proofs.Tryz
open Go Go.bV Go.RowKit
section
variable{w w':World}{F:Nat->Prop}{c k:Nat}{G:GS}{m:CM}{s:HT}{l ch:List HT}{n cx:Nat}{A:Option Addr}{K:Value->World->Prop}
set_option maxHeartbeats 4000000 in
theorem Bp{N:Nat}(yY:Dd N)(hN:(rG G.D s l).length<=N)(C:CV w F c k G m)(hT:tg w)(hD:G.D.length<=5000)(pP:k<=1000)(hs:s∈ids G.D)(hc:cM G.D G.P s ch)(hl: ∀x∈l,x∈ids G.D)(Ff:HS w A n l)(hn:n<=5000)
 (hK: ∀v q B sm bb ov A n cp E e ce,lS v B q sm bb (cO k G s l) ov A n cp E e ce->OV G.D (ft k G s l).wd ov (lY m.sz ch)->w.heap.size<=q->w.heap.size<=sm->(∀a,A=some a->w.heap.size<=a.block)->(w.heap.size<=B/\B<=v.heap.size)->Kept Nil w v->K (.pointer (some ⟨q,0,none⟩)) v):
 bn prog ai.id #[.pointer (some ⟨c,0,none⟩),.agg s.1,.slice A n cx] w K:=by
 refine ai.of ?_;unfold ai.W;intro w1 w2;have k1:Kept Nil w w1:=(Kept.refl _ _).alloc _;have Um:w1.heap[w.heap.size]? =some (.cells #[.pointer (some ⟨c,0,none⟩)] fI (0,0)):=aJ w _;have k2:Kept Nil w1 w2:=(Kept.refl _ _).alloc _;have AU:w2.heap[w1.heap.size]? =some (.cells s.1 ag (0,0)):=aJ w1 _;clear_value w2;have LO:=k2.heap Um (fun h=>h);have oh:=k1.trans k2 (fun _ _ h=>h);have s1:=k1.size;have l1:=aQ Um;have l2:=aQ AU;clear_value w1;have C2:=C.same oh;obtain⟨mx2,X2,_⟩:=C2.X;refine⟨some ⟨c,0,none⟩,by rw [ax LO];rfl,_,C2.c1,gC.of (Split.no rfl (Is.mk rfl ⟨_,X2.c0,⟨_,rfl,?_⟩⟩))⟩;intro w3;have k3:Kept Nil w2 w3:=(Kept.refl _ _).drew;clear_value w3;have nS:=oh.trans k3 (fun _ _ h=>h);have Uj:=k3.heap LO (fun h=>h);have AT:=k3.heap AU (fun h=>h);have C3:=C.same nS;obtain⟨A1,n1,c1,B1,m1,d1,s1',sa⟩:=C3.seen s hs;have NQ:G.score s<=5000:=by
  have h1:=(C.eM.wd s hs).2.2;have h2:=cR (m:=ids G.D) (C.eM.wd s hs).1 (fun b hb=>(((C.eM.wd s hs).2.1 b hb).mem C.eM.W).1);rw [fR]at h2;omega
 have ew:IntKind.u64.wrap (((G.ga s).score:Int)+(1:Int))=((G.score s+1:Nat):Int):=by
  show IntKind.u64.wrap ((G.score s:Int)+(1:Int))=_
  rw [show(G.score s:Int)+1=((G.score s+1:Nat):Int)by omega];exact jm (by omega)
 have mE: ∀ {u:World},Kept Nil w3 u->u.cell? ⟨w.heap.size,0,none⟩=some (.pointer (some ⟨c,0,none⟩)):=fun ku=>by rw [ax (ku.heap Uj (fun h=>h))];rfl
 have tq: ∀ {u:World},Kept Nil w3 u-> ∃cs:Array Value,(.agg s.1:Value)=.agg cs/\cs.size=32/\Cells u ⟨w1.heap.size,0,none⟩ cs:=fun ku=>⟨s.1,rfl,s.2.1,Cells.bC (ku.heap AT (fun h=>h))⟩;have kZ: ∀ {u:World},Kept Nil w3 u->u.cell? (((⟨m.q s,0,none⟩:Addr).add 0).add 32)=some (.int .u64 ((G.ga s).score:Int)):=fun ku=>(sa.aC ku (fun _ _ h=>h)).VC;have l3:=aQ AT;have s3:=k3.size;refine⟨s.1,⟨s.2.1,Cells.bC AT⟩,some ⟨c,0,none⟩,mE (Kept.refl _ _),_,C3.c2,s.1,⟨s.2.1,Cells.bC AT⟩,_,C3.lH hs,_,kZ (Kept.refl _ _),?_⟩;rw [ew];rw [uW s];refine Is.mk rfl ?_;have EG:(s.1++ #[.int .u64 ((G.score s+1:Nat):Int),.slice none 0 0,.slice none 0 0]:Array Value)=cF ⟨s,G.score s+1,[],[]⟩ none 0 0 none 0 0:=rfl;rw [EG];have go: ∀ {u:World} {q sm bs:Nat},Kept Nil w3 u->w3.heap.size<=q->w3.heap.size<=sm->w3.heap.size<=bs->q≠sm->bs≠q->bs≠sm->
  u.heap[q]? =some (.cells (cF ⟨s,G.score s+1,[],[]⟩ none 0 0 none 0 0++ #[.map (some sm)]) dN (0,0))->fk u sm (fun _=>none)->u.heap[bs]? =some (.cells #[.pointer (some ⟨q,0,none⟩)] eT (0,0))->_:=
  fun {u q sm bs} ku hq vd WJ h1 h2 h3 iM Oh jb=>IK (g1:=u) (bs:=bs) (bc:=w.heap.size) (bh:=w1.heap.size) (q:=q) (sm:=sm) (cx:=cx) (K:=K) (p:=mx2.g) yY hN (C3.same ku) (hT.same (nS.trans ku (fun _ _ h=>h))) hD pP hs hc hl (Ff.same (nS.trans ku (fun _ _ h=>h))) hn
   ⟨jb,ku.heap Uj (fun h=>h),ku.heap AT (fun h=>h),by rw [ba,ax iM];exact(eN ..).2.2.2,Oh⟩ iM
   (fun j hj=>by
     rcases hj with h|h|h|h|h
     ·have:=C.low j (.inl h);exact⟨by omega,by omega⟩
     ·have:=C.low j (.inr h);exact⟨by omega,by omega⟩
     ·exact⟨by omega,by omega⟩
     ·exact⟨by omega,by omega⟩
     ·exact⟨by omega,by omega⟩) h1 ⟨mx2,X2.same (k3.trans ku (fun _ _ h=>h)),rfl⟩
   (fun v B bb ov A n cp E e ce t1 t2 t3 t4 t5=>hK v q B sm bb ov A n cp E e ce t1 t2 (by omega) (by omega) (fun a ha=>by have:=t3 a ha;have:=(nS.trans ku (fun _ _ h=>h)).size;omega) ⟨by have:=(nS.trans ku (fun _ _ h=>h)).size;have:=t4.1;omega,t4.2⟩ ((nS.trans ku (fun _ _ h=>h)).trans t5 (fun j hj e=>by omega)))
 have MG: ∀ {u0:World} {b q:Nat},u0.heap[b]? =some (.cells #[.pointer none] eT (0,0))->Wr u0 ⟨b,0,none⟩/\ ∀u1,u1=u0.setCell ⟨b,0,none⟩ (.pointer (some ⟨q,0,none⟩))->u1.heap[b]? =some (.cells #[.pointer (some ⟨q,0,none⟩)] eT (0,0))/\Kept (· =b) u0 u1:=fun {u0 b q} hb=>⟨dM hb (by simp),fun u1 e=>by
  subst e;refine⟨?_,Kept.setCell (S:=(· =b)) (Kept.refl _ u0) (p:=⟨b,0,none⟩) (fun _=>rfl) _⟩;rw [cU hb 0];rfl⟩
 refine⟨?_,?_⟩
 ·intro w4
  have k4:Kept Nil w3 w4:=(Kept.refl _ _).alloc _;have Z0:fk w4 w3.heap.size (fun _=>none):=fk.new w3;clear_value w4;have l4:=Z0.lt;refine⟨kZ k4,(C3.same k4).lH hs,tq k4,(C3.same k4).c2,mE k4,tq k4,?_⟩;rw [wB];refine Is.mk rfl ⟨?_,?_⟩
  ·intro w5 w6
   have k5:Kept Nil w4 w5:=(Kept.refl _ _).alloc _;have hq5:w5.heap[w4.heap.size]? =some (.cells (cF ⟨s,G.score s+1,[],[]⟩ none 0 0 none 0 0++ #[.map (some w3.heap.size)]) dN (0,0)):=aJ w4 _;have k6:Kept Nil w5 w6:=(Kept.refl _ _).alloc _;have oT:w6.heap[w5.heap.size]? =some (.cells #[.pointer none] eT (0,0)):=aJ w5 _;clear_value w6;have SI:=k6.heap hq5 (fun h=>h);have l5:=aQ hq5;clear_value w5;have M7:=k5.trans k6 (fun _ _ h=>h);have sQ:=k4.trans M7 (fun _ _ h=>h);have s36:=sQ.size;obtain⟨t1,t2⟩:=MG (q:=w4.heap.size) oT;refine⟨t1,?_⟩;intro w7;obtain⟨t3,t4⟩:=t2 w7 rfl;clear_value w7;exact go (sQ.trans t4 (fun j hj e=>by omega)) (by omega) (by omega) (by omega) (by omega) (by omega) (by omega) (t4.heap SI (by omega)) ((Z0.same M7).aC t4 (by omega)) t3
  ·intro w5
   have k5:Kept Nil w4 w5:=(Kept.refl _ _).alloc _;have mv:w5.heap[w4.heap.size]? =some (.cells #[.pointer none] eT (0,0)):=aJ w4 _;clear_value w5;have l5:=aQ mv;have lV:=k4.trans k5 (fun _ _ h=>h);refine⟨kZ lV,(C3.same lV).lH hs,tq lV,(C3.same lV).c2,mE lV,tq lV,?_⟩;intro w6;have k6:Kept Nil w5 w6:=(Kept.refl _ _).alloc _;have SI:w6.heap[w5.heap.size]? =some (.cells (cF ⟨s,G.score s+1,[],[]⟩ none 0 0 none 0 0++ #[.map (some w3.heap.size)]) dN (0,0)):=aJ w5 _;clear_value w6;have M7:=k5.trans k6 (fun _ _ h=>h);have sQ:=k4.trans M7 (fun _ _ h=>h);have V1:=lV.size;obtain⟨t1,t2⟩:=MG (q:=w5.heap.size) (k6.heap mv (fun h=>h));refine⟨t1,?_⟩;intro w7;obtain⟨t3,t4⟩:=t2 w7 rfl;clear_value w7;exact go (sQ.trans t4 (fun j hj e=>by omega)) (by omega) (by omega) (by omega) (by omega) (by omega) (by omega) (t4.heap SI (by omega)) ((Z0.same M7).aC t4 (by omega)) t3
 ·intro w4
  have k4:Kept Nil w3 w4:=(Kept.refl _ _).alloc _;have qi:w4.heap[w3.heap.size]? =some (.cells #[.pointer none] eT (0,0)):=aJ w3 _;clear_value w4;have l4:=aQ qi;refine⟨kZ k4,(C3.same k4).lH hs,tq k4,(C3.same k4).c2,mE k4,tq k4,?_⟩;intro w5;have k5:Kept Nil w4 w5:=(Kept.refl _ _).alloc _;have hm5:fk w5 w4.heap.size (fun _=>none):=fk.new w4;clear_value w5;have l5:=hm5.lt;have lV:=k4.trans k5 (fun _ _ h=>h);refine⟨kZ lV,(C3.same lV).lH hs,tq lV,(C3.same lV).c2,mE lV,tq lV,?_⟩;rw [wB];refine Is.mk rfl ?_;intro w6;have k6:Kept Nil w5 w6:=(Kept.refl _ _).alloc _;have SI:w6.heap[w5.heap.size]? =some (.cells (cF ⟨s,G.score s+1,[],[]⟩ none 0 0 none 0 0++ #[.map (some w4.heap.size)]) dN (0,0)):=aJ w5 _;clear_value w6;have sQ:=lV.trans k6 (fun _ _ h=>h);have V1:=lV.size;obtain⟨t1,t2⟩:=MG (q:=w5.heap.size) ((k5.trans k6 (fun _ _ h=>h)).heap qi (fun h=>h));refine⟨t1,?_⟩;intro w7;obtain⟨t3,t4⟩:=t2 w7 rfl;clear_value w7;exact go (sQ.trans t4 (fun j hj e=>by omega)) (by omega) (by omega) (by omega) (by omega) (by omega) (by omega) (t4.heap SI (by omega)) ((hm5.same k6).aC t4 (by omega)) t3
end
end Go.Proofs.YtnboahlopghcjaaGreatDoor
