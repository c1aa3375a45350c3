import Derived.Test.YtnboahlopghcjaaGreatDoorMP
import Derived.Test.YtnboahlopghcjaaGreatDoorMG
set_option linter.unusedVariables false
namespace Go.Proofs.YtnboahlopghcjaaGreatDoor
open Go.Proofs.Tryz
open Go Go.bS Go.RowKit
theorem zN:xu prog fP gM 1 1:=⟨by kernel_rfl,by kernel_rfl⟩
abbrev qO(l:List Bool):List Value:=l.map .bool
structure xw(w:World)(B q sm:Nat)(c:nN)(ov:HT->Option Nat)(A:Option Addr)(n cp:Nat)(E:Option Addr)(e ce:Nat):Prop where
 top:w.heap[q]? =some (.cells (cC c A n cp E e ce++ #[.map (some sm)]) dK (0,0))
 mg:bQ w B A n cp c.merge
 bl:Row w B gM 1 E e ce (qO c.dM)
 ov:fc w sm (Io ov)
 qB:q<B
 sB:sm<B
 qs:q≠sm
 AE: ∀j,bg A=some j->bg E≠some j
section
variable{w w':World}{B q sm:Nat}{c:nN}{ov:HT->Option Nat}{A E:Option Addr}{n cp e ce:Nat}{K:Value->World->Prop}
theorem xw.aD{S:Nat->Prop}(h:xw w B q sm c ov A n cp E e ce)(hk:Kept S w w')(h1: ¬S q)(h2: ¬S sm)(h3: ∀j,B<=j-> ¬S j):xw w' B q sm c ov A n cp E e ce:=
 ⟨hk.heap h.top h1,Row.aD h.mg hk (fun j hj=>h3 j (Row.bA h.mg hj).1),Row.aD h.bl hk (fun j hj=>h3 j (Row.bA h.bl hj).1),h.ov.aD hk h2,h.qB,h.sB,h.qs,h.AE⟩
theorem xw.same(h:xw w B q sm c ov A n cp E e ce)(hk:Kept Nil w w'):xw w' B q sm c ov A n cp E e ce:=h.aD hk (fun h=>h) (fun h=>h) (fun _ _ h=>h)
theorem xw.f33(h:xw w B q sm c ov A n cp E e ce):w.cell? (((⟨q,0,none⟩:Addr).add 0).add 33)=some (.slice A n cp):=by rw [add_zero,a8,ax h.top];exact(eV ..).2.1
theorem xw.aa7(h:xw w B q sm c ov A n cp E e ce): ∀j,bg A=some j\/bg E=some j->B<=j/\j<w.heap.size:=fun j hj=>by
 rcases hj with hj|hj
 ·obtain⟨h1,cur,h2⟩:=Row.bA h.mg hj;exact⟨h1,aT h2⟩
 ·obtain⟨h1,cur,h2⟩:=Row.bA h.bl hj;exact⟨h1,aT h2⟩
theorem pP(c:nN)(A:Option Addr)(n cp:Nat)(E:Option Addr)(e ce:Nat)(r:Array Value)(A':Option Addr)(n' uR:Nat):
 (cC c A n cp E e ce++r).setIfInBounds (0+33) (.slice A' n' uR)=cC c A' n' uR E e ce++r:=by
 have h0:c.jJ.1.size=32:=c.jJ.2.1;apply Array.ext';unfold cC;simp only [Array.toList_setIfInBounds,Array.toList_append,List.append_assoc];rw [List.set_append_right _ _ (by simp [h0])];simp [h0]
theorem pO(c:nN)(A:Option Addr)(n cp:Nat)(E:Option Addr)(e ce:Nat)(r:Array Value)(E':Option Addr)(n' uR:Nat):
 (cC c A n cp E e ce++r).setIfInBounds (0+34) (.slice E' n' uR)=cC c A n cp E' n' uR++r:=by
 have h0:c.jJ.1.size=32:=c.jJ.2.1;apply Array.ext';unfold cC;simp only [Array.toList_setIfInBounds,Array.toList_append,List.append_assoc];rw [List.set_append_right _ _ (by simp [h0])];simp [h0]
theorem uE(c:nN)(A:Option Addr)(n cp:Nat)(E:Option Addr)(e ce:Nat)(r:Array Value)(s:Nat):
 (cC c A n cp E e ce++r).setIfInBounds (0+32) (.int .u64 (s:Int))=cC {c with score:=s} A n cp E e ce++r:=by
 have h0:c.jJ.1.size=32:=c.jJ.2.1;apply Array.ext';unfold cC;simp only [Array.toList_setIfInBounds,Array.toList_append,List.append_assoc];rw [List.set_append_right _ _ (by simp [h0])];simp [h0]
theorem xw.Qg(h:xw w B q sm c ov A n cp E e ce)(hB:B<=w.heap.size)(hn:n<=100000){x:HT}{b:Nat}(hb:HS w (some ⟨b,0,none⟩) 1 [x]):
 ∃A' uR u,(Builtin.append_ #[ay,ay] ay #[.slice A n cp,.slice (some ⟨b,0,none⟩) 1 1]).run prog w=.ok (.slice A' (n+1) uR) u/\
  Kept (fun j=>B<=j) w u/\xw (u.setCell (((⟨q,0,none⟩:Addr).add 0).add 33) (.slice A' (n+1) uR)) B q sm {c with merge:=c.merge++ [x]} ov A' (n+1) uR E e ce/\
  Kept (fun j=>j=q\/B<=j) w (u.setCell (((⟨q,0,none⟩:Addr).add 0).add 33) (.slice A' (n+1) uR))/\Wr u (((⟨q,0,none⟩:Addr).add 0).add 33):=by
 obtain⟨A',uR,u,hr,eM,hg,hA⟩:=cD ay h.mg (cx:=1) hb (by omega) hB;have ku:Kept (fun j=>B<=j) w u:=(Kept.refl _ _).grown hg fun j hj _=>(Row.bA h.mg hj).1;have kA:Kept (fun j=>bg A=some j) w u:=(Kept.refl _ _).grown hg fun j hj _=>hj;have qB:=h.qB;have sB:=h.sB;have iB:=ku.heap h.top (by omega);have AJ:Row u B gM 1 E e ce (qO c.dM):=Row.aD h.bl kA (fun j hj e=>h.AE j e hj);have o8:Kept (· =q) u (u.setCell (((⟨q,0,none⟩:Addr).add 0).add 33) (.slice A' (n+1) uR)):=by
  rw [add_zero,a8];exact Kept.setCell (S:=(· =q)) (Kept.refl _ u) (p:=⟨q,0+33,none⟩) (fun _=>rfl) _
 have gD: ∀ {X:Option Addr} {j:Nat},(∀k,bg X=some k->B<=k)->bg X=some j-> ¬j=q:=fun h hj e=>by have:=h _ hj;omega
 refine⟨A',uR,u,hr,ku,⟨?_,?_,?_,?_,qB,sB,h.qs,?_⟩,?_,?_⟩
 ·show(u.setCell (((⟨q,0,none⟩:Addr).add 0).add 33) (.slice A' (n+1) uR)).heap[q]? =_
  rw [add_zero,a8,cR iB,pP];rfl
 ·exact Row.aD eM o8 (fun j hj=>gD (fun k hk=>(Row.bA eM hk).1) hj)
 ·exact Row.aD AJ o8 (fun j hj=>gD (fun k hk=>(Row.bA AJ hk).1) hj)
 ·exact(h.ov.aD ku (by omega)).aD o8 (fun e=>h.qs e.symm)
 ·intro j hj he
  rcases hA j hj with h1|h1
  ·exact h.AE j h1 he
  ·have:=(h.aa7 j (.inr he)).2;omega
 ·exact(ku.mono fun _ _ h=>.inr h).trans o8 (fun _ _ e=>.inl e)
 ·rw [add_zero,a8]
  exact dO iB (by rw [Array.size_append,a7];simp)
end
end Go.Proofs.YtnboahlopghcjaaGreatDoor
namespace Go.Proofs.YtnboahlopghcjaaGreatDoor
open Go.Proofs.Tryz
open Go Go.bS Go.RowKit
structure lE(w:World)(B q sm bb:Nat)(c:nN)(ov:HT->Option Nat)(A:Option Addr)(n cp:Nat)(E:Option Addr)(e ce:Nat):Prop where
 top:w.heap[q]? =some (.cells (cC c A n cp E e ce++ #[.map (some sm)]) dK (0,0))
 mg:HS w A n c.merge
 mA: ∀a,A=some a->a.block<B/\a.block≠q/\a.block≠sm/\a.block≠bb
 bl:Row w B gM 1 E e ce (qO c.dM)
 ov:fc w sm (Io ov)
 qB:q<B
 sB:sm<B
 bB:bb<B
 qs:q≠sm/\q≠bb/\sm≠bb
section
variable{w w':World}{B q sm bb:Nat}{c:nN}{ov:HT->Option Nat}{A E:Option Addr}{n cp e ce:Nat}{K:Value->World->Prop}
theorem lE.aD{S:Nat->Prop}(h:lE w B q sm bb c ov A n cp E e ce)(hk:Kept S w w')(h1: ¬S q)(h2: ¬S sm)(h3: ∀j,B<=j->j<w.heap.size-> ¬S j)(h4: ∀a,A=some a-> ¬S a.block):lE w' B q sm bb c ov A n cp E e ce:=
 ⟨hk.heap h.top h1,h.mg.aD hk h4,h.mA,Row.aD h.bl hk (fun j hj=>by obtain⟨g1,cur,g2⟩:=Row.bA h.bl hj;exact h3 j g1 (aT g2)),h.ov.aD hk h2,h.qB,h.sB,h.bB,h.qs⟩
theorem lE.same(h:lE w B q sm bb c ov A n cp E e ce)(hk:Kept Nil w w'):lE w' B q sm bb c ov A n cp E e ce:=h.aD hk (fun h=>h) (fun h=>h) (fun _ _ _ h=>h) (fun _ _ h=>h)
theorem lE.f32(h:lE w B q sm bb c ov A n cp E e ce):w.cell? (((⟨q,0,none⟩:Addr).add 0).add 32)=some (.int .u64 (c.score:Int)):=by rw [add_zero,a8,ax h.top];exact(eV ..).1
theorem lE.f33(h:lE w B q sm bb c ov A n cp E e ce):w.cell? (((⟨q,0,none⟩:Addr).add 0).add 33)=some (.slice A n cp):=by rw [add_zero,a8,ax h.top];exact(eV ..).2.1
theorem lE.f34(h:lE w B q sm bb c ov A n cp E e ce):w.cell? (((⟨q,0,none⟩:Addr).add 0).add 34)=some (.slice E e ce):=by rw [add_zero,a8,ax h.top];exact(eV ..).2.2.1
theorem lE.f35(h:lE w B q sm bb c ov A n cp E e ce):w.cell? ((⟨q,0,none⟩:Addr).add 35)=some (.map (some sm)):=by rw [a8,ax h.top];exact(eV ..).2.2.2
theorem lE.wr(h:lE w B q sm bb c ov A n cp E e ce){j:Nat}(hj:j<36):Wr w (((⟨q,0,none⟩:Addr).add 0).add j):=by
 rw [add_zero,a8];exact dO h.top (by rw [Array.size_append,a7];simp;omega)
theorem lE.P4{h:lE w B q sm bb c ov A n cp E e ce}(j:Nat)(v:Value):Kept (· =q) w (w.setCell (((⟨q,0,none⟩:Addr).add 0).add j) v):=by
 rw [add_zero,a8];exact Kept.setCell (S:=(· =q)) (Kept.refl _ w) (p:=⟨q,0+j,none⟩) (fun _=>rfl) _
theorem lE.Fx(h:lE w B q sm bb c ov A n cp E e ce)(hB:B<=w.heap.size)(hn:e<=100000){x:Bool}{b:Nat}(hb:w.cell? ⟨b,0,none⟩=some (.bool x)):
 ∃E' qG u,(Builtin.append_ #[fP,fP] fP #[.slice E e ce,.slice (some ⟨b,0,none⟩) 1 1]).run prog w=.ok (.slice E' (e+1) qG) u/\
  Kept (fun j=>B<=j/\bg E=some j) w u/\Wr u (((⟨q,0,none⟩:Addr).add 0).add 34)/\
  lE (u.setCell (((⟨q,0,none⟩:Addr).add 0).add 34) (.slice E' (e+1) qG)) B q sm bb {c with dM:=c.dM++ [x]} ov A n cp E' (e+1) qG/\
  Kept (fun j=>j=q\/bg E=some j) w (u.setCell (((⟨q,0,none⟩:Addr).add 0).add 34) (.slice E' (e+1) qG))/\(∀j,bg E'=some j->bg E=some j\/w.heap.size<=j):=by
 obtain⟨E',qG,u,hr,eM,hg,hE⟩:=e8 (P:=prog) (t:=fP) (bytes:=1) (ty:=fP) zN h.bl (a:=⟨b,0,none⟩) (m:=1) (cx:=1) (news:= [.bool x]) rfl (fun j v hj=>by
  cases j with
  |zero=>simp only [List.getElem?_cons_zero,Option.some.injEq]at hj;subst hj;rw [add_zero];exact hb
  |succ j=>simp at hj) (fun v hv=>by
  have:v=.bool x:=by simpa using hv
  subst this;rfl) (by omega) (by unfold maxLen;omega) hB
 have qB:=h.qB;have sB:=h.sB;have kE:Kept (fun j=>B<=j/\bg E=some j) w u:=(Kept.refl _ _).grown hg fun j hj _=>⟨(Row.bA h.bl hj).1,hj⟩;have iB:=kE.heap h.top (by omega);have o8:Kept (· =q) u (u.setCell (((⟨q,0,none⟩:Addr).add 0).add 34) (.slice E' (e+1) qG)):=by
  rw [add_zero,a8];exact Kept.setCell (S:=(· =q)) (Kept.refl _ u) (p:=⟨q,0+34,none⟩) (fun _=>rfl) _
 refine⟨E',qG,u,hr,kE,?_,⟨?_,?_,h.mA,?_,?_,qB,sB,h.bB,h.qs⟩,?_,hE⟩
 ·rw [add_zero,a8]
  exact dO iB (by rw [Array.size_append,a7];simp)
 ·show(u.setCell (((⟨q,0,none⟩:Addr).add 0).add 34) (.slice E' (e+1) qG)).heap[q]? =_
  rw [add_zero,a8,cR iB,pO];rfl
 ·exact(h.mg.aD kE (fun a ha=>by have:=(h.mA a ha).1;omega)).aD o8 (fun a ha=>(h.mA a ha).2.1)
 ·have e1:qO (c.dM++ [x])=qO c.dM++ [.bool x]:=by simp [qO]
  show Row _ B gM 1 E' (e+1) qG (qO (c.dM++ [x]))
  rw [e1];exact Row.aD eM o8 (fun j hj=>by have:=(Row.bA eM hj).1;omega)
 ·exact(h.ov.aD kE (by omega)).aD o8 (fun e=>h.qs.1 e.symm)
 ·exact(kE.mono fun _ _ h=>.inr h.2).trans o8 (fun _ _ e=>.inl e)
theorem lE.LY(h:lE w B q sm bb c ov A n cp E e ce)(s:Nat):
 lE (w.setCell (((⟨q,0,none⟩:Addr).add 0).add 32) (.int .u64 (s:Int))) B q sm bb {c with score:=s} ov A n cp E e ce/\Kept (· =q) w (w.setCell (((⟨q,0,none⟩:Addr).add 0).add 32) (.int .u64 (s:Int))):=by
 have qB:=h.qB;have o8:=lE.P4 (h:=h) 32 (.int .u64 (s:Int));refine⟨⟨?_,h.mg.aD o8 (fun a ha=>(h.mA a ha).2.1),h.mA,Row.aD h.bl o8 (fun j hj=>by have:=(Row.bA h.bl hj).1;omega),h.ov.aD o8 (fun e=>h.qs.1 e.symm),h.qB,h.sB,h.bB,h.qs⟩,o8⟩;rw [add_zero,a8,cR h.top,uE]
theorem lE.note(h:lE w B q sm bb c ov A n cp E e ce)(b:HT)(n0:Nat):
 ∃u,(Instr.mapUpdate cg (.map (some sm)) (.agg b.1) (.int .i64 (n0:Int))).run prog w=.ok () u/\lE u B q sm bb c (fun y=>if y=b then some n0 else ov y) A n cp E e ce/\Kept (· =sm) w u:=by
 have sB:=h.sB;obtain⟨u,hr,hm,hk⟩:=h.ov.put qk b (.int .i64 (n0:Int));refine⟨u,hr,⟨hk.heap h.top h.qs.1,h.mg.aD hk (fun a ha=>(h.mA a ha).2.2.1),h.mA,Row.aD h.bl hk (fun j hj=>by have:=(Row.bA h.bl hj).1;omega),?_,h.qB,h.sB,h.bB,h.qs⟩,hk⟩;have e1:Io (fun y=>if y=b then some n0 else ov y)=fun x=>if x=b then some (.int .i64 (n0:Int))else Io ov x:=by
  funext y
  unfold Io;by_cases e:y=b
  ·simp only [if_pos e,Option.map_some]
  ·simp only [if_neg e]
 rw [e1];exact hm
end
end Go.Proofs.YtnboahlopghcjaaGreatDoor
namespace Go.Proofs.YtnboahlopghcjaaGreatDoor
open Go.Proofs.Tryz
open Go Go.bS Go.RowKit
noncomputable def ju(k:Nat)(G:GS)(s:HT)(l:List HT)(i:Nat):VS:=((ct G s l).take i).foldl (mT k G.D) ⟨G.world s++ [s],[]⟩
structure V2(y v:World)(k:Nat)(G:GS)(s:HT)(l:List HT)(base:HT->Nat)(q sm bb:Nat)(A:Option Addr)(n cp i:Nat):Prop where
 ex: ∃(ov:HT->Option Nat) (E:Option Addr) (e ce:Nat) (Ab:Option Addr) (nb cb:Nat) (bl:List HT),
  lE v y.heap.size q sm bb ⟨s,G.score s+1+(ju k G s l i).bl.count true,ct G s l,(ju k G s l i).bl⟩ ov A n cp E e ce/\
  v.heap[bb]? =some (.cells #[.slice Ab nb cb] ay (0,0))/\bQ v y.heap.size Ab nb cb bl/\(ju k G s l i).wd=G.world s++ [s]++bl/\(∀j,bg Ab=some j->bg E≠some j)/\
  OV G.D (ju k G s l i).wd ov base/\(ju k G s l i).wd.Nodup/\(∀z∈bl,z∈(ct G s l).take i)/\e=i
 kp:Kept (fun j=>j=q\/j=sm\/j=bb) y v
theorem lE.FN{w w':World}{B q sm bb:Nat}{c:nN}{ov:HT->Option Nat}{A E:Option Addr}{n cp e ce:Nat}{S:Nat->Prop}(h:lE w B q sm bb c ov A n cp E e ce)(hk:Kept S w w')(h1: ¬S q)(h2: ¬S sm)(h3: ∀j,bg E=some j-> ¬S j)(h4: ∀a,A=some a-> ¬S a.block):lE w' B q sm bb c ov A n cp E e ce:=
 ⟨hk.heap h.top h1,h.mg.aD hk h4,h.mA,Row.aD h.bl hk h3,h.ov.aD hk h2,h.qB,h.sB,h.bB,h.qs⟩
theorem xE{k:Nat}{G:GS}{s:HT}{l:List HT}{i:Nat}{x:HT}(hx:(ct G s l)[i]? =some x):ju k G s l (i+1)=mT k G.D (ju k G s l i) x:=by
 unfold ju;have e:(ct G s l).take (i+1)=(ct G s l).take i++ [x]:=by rw [List.take_add_one,hx];rfl
 rw [e,List.foldl_append];rfl
theorem BB(k:Nat)(G:GS)(s:HT)(l:List HT)(i:Nat)(hi:i<=(ct G s l).length):(ju k G s l i).bl.length=i:=by
 obtain⟨b,h1,h2⟩:=E6 k G.D (G.world s++ [s]) ((ct G s l).take i);unfold ju;rw [h2];show b.length=i
 rw [h1,List.length_take];omega
theorem BC(k:Nat)(G:GS)(s:HT)(l:List HT):ju k G s l (ct G s l).length=eU k G s l:=by
 unfold ju eU;rw [List.take_of_length_le (Nat.le_refl _)]
section
variable{y v w w':World}{F:Nat->Prop}{c k:Nat}{G:GS}{m:CM}{s:HT}{l ch:List HT}{bs bc bh q sm bb kb n cp:Nat}{A:Option Addr}{K:Value->World->Prop}
set_option maxHeartbeats 4000000 in
theorem zF(C:CV y F c k G m)(hD:G.D.length<=5000)(nf:k<=1000)(hs:s∈ids G.D)(hc:cY G.D G.P s ch)(hM: ∀x∈ct G s l,x∈ids G.D)
 (V:VB y c s bs bc bh q sm (fun _=>none)) (K4:y.heap[kb]? =some (.cells #[.func (.func bN.id) #[] #[.pointer (some ⟨bs,0,none⟩),.pointer (some ⟨bc,0,none⟩),.pointer (some ⟨bh,0,none⟩)]] eK (0,0)))
 (gD: ∀j,(m.own c j\/F j\/j=bs\/j=bc\/j=bh\/j=kb)->j≠q/\j≠sm/\j≠bb)
 (h0:V2 y y k G s l (lH m.sz ch) q sm bb A n cp 0) (hn:n<=5000)
 (hK: ∀v ov E e ce,lE v y.heap.size q sm bb (cu k G s l) ov A n cp E e ce->OV G.D (eU k G s l).wd ov (lH m.sz ch)->Kept (fun j=>j=q\/j=sm\/j=bb) y v->K (.pointer (some ⟨q,0,none⟩)) v):
 Holds none [] prog 153 (.loop (lB (bB (sR (sL (sR (sR (sR (sR (sR (sR (sR (sR (body ah.fn)))))))))))))) (ah.q2 K)
  [(3,.pointer (some ⟨bc,0,none⟩)),(6,.pointer none),(8,.pointer (some ⟨bs,0,none⟩)),(11,.pointer (some ⟨bb,0,none⟩)),(12,.func (.func af.id) #[] #[.pointer (some ⟨bb,0,none⟩),.pointer (some ⟨bc,0,none⟩),.pointer (some ⟨bh,0,none⟩)]),(13,.pointer (some ⟨kb,0,none⟩)),(92,.slice A n cp),(93,.int .i64 (n:Int)),(94,.int .i64 0)] y:=by
 have W:=C.fO.W;have hmn:(ct G s l).Nodup:=(jO G s l).nodup;have Sl:(ct G s l).length=n:=by obtain⟨_,_,_,_,_,_,_,_,h,_⟩:=h0.ex;exact h.mg.len
 have lbs:=aT V.hs;have lbc:=aT V.hc;have lbh:=aT V.hh;have lkb:=aT K4;have VL:=gD bs (.inr (.inr (.inl rfl)));have VN:=gD bc (.inr (.inr (.inr (.inl rfl))));have VM:=gD bh (.inr (.inr (.inr (.inr (.inl rfl)))));have fkb:=gD kb (.inr (.inr (.inr (.inr (.inr rfl)))));refine ah.gI (I:=fun s0 v=> ∃i:Nat,s0=(i:Int)/\i<=n/\V2 y v k G s l (lH m.sz ch) q sm bb A n cp i) (μ:=fun s0 _=>((n:Int)-s0).toNat) (s:=0) ⟨0,rfl,Nat.zero_le _,h0⟩ ?_;rintro s0 v ⟨i,rfl,hi,hV⟩;obtain⟨ov,E,e,ce,Ab,nb,cb,bl,hS,vj,eM,Pb,hAE,hO,fy,ub,YY⟩:=hV.ex;have kv:=hV.kp;have sv:=kv.size;refine Split.dec (fun iP=>?_) (fun fV=>?_)
 ·have dN:i<n:=by omega
  obtain⟨x,hx⟩: ∃x,(ct G s l)[i]? =some x:=⟨_,List.getElem?_eq_getElem (by omega)⟩;have Pa:=hM x (List.mem_of_getElem? hx);have U2:x∉(ju k G s l i).wd:=by
   rw [Pb];intro hm;obtain⟨_,g1,g2⟩:=iA.1 (List.mem_of_getElem? hx);rcases List.mem_append.1 hm with hm|hm
   ·rcases List.mem_append.1 hm with hm|hm
    ·exact g2 ((C.fO.wd s hs).2.1 x hm)
    ·exact g1 (by simpa using hm)
   ·have h1:=ub x hm
    obtain⟨j,hj⟩:=List.mem_iff_getElem?.1 h1;rw [List.getElem?_take]at hj;split at hj
    ·rename_i HR
     have h2:=(List.getElem?_eq_some_iff.1 hj);have h3:=(List.getElem?_eq_some_iff.1 hx);have:=(List.getElem_inj hmn).1 (h2.2.trans h3.2.symm);omega
    ·cases hj
  have pK:=xE (k:=k) hx;refine hS.mg.load (i:=(i:Int)) (by omega) hx ?_;intro kr;obtain⟨rk,iN,iU⟩:=gq (w:=v) (z:=de.1) (cs:=x.1) (t:=ai) (by rw [x.2.1];rfl);refine⟨⟨x.2.1,x.2.one,fun j hj=>rk j (by rw [x.2.1];exact hj)⟩,?_⟩;intro gN
  replace iN:gN.heap[v.heap.size]? =some (.cells x.1 ai (0,0)):=iN
  replace iU:Kept Nil v gN:=iU
  clear_value gN;intro lZ je;have rX:Kept Nil gN lZ:=(Kept.refl _ _).alloc _;have Se:fc lZ gN.heap.size (fun _=>none):=fc.new gN;have mX:Kept Nil lZ je:=(Kept.refl _ _).alloc _;have NJ:je.heap[lZ.heap.size]? =some (.cells #[.map none] cg (0,0)):=aH lZ _;refine⟨dO NJ (by simp),?_⟩;intro vD;have S6:vD.heap[lZ.heap.size]? =some (.cells #[.map (some gN.heap.size)] cg (0,0)):=by
   show(je.setCell ⟨lZ.heap.size,0,none⟩ (.map (some gN.heap.size))).heap[lZ.heap.size]? =_;rw [cR NJ 0];rfl
  have F5:Kept (· =lZ.heap.size) je vD:=Kept.setCell (S:=(· =lZ.heap.size)) (Kept.refl _ je) (p:=⟨lZ.heap.size,0,none⟩) (fun _=>rfl) _;clear_value vD;have s14:=iU.size;have s15:=rX.size;have l14:=aT iN;have l15:=Se.lt;have l16:=aT NJ;have F9:Kept Nil gN vD:=⟨F5.os.trans (rX.trans mX (fun _ _ h=>h)).os,F5.tape.trans (rX.trans mX (fun _ _ h=>h)).tape,F5.output.trans (rX.trans mX (fun _ _ h=>h)).output,Nat.le_trans (rX.trans mX (fun _ _ h=>h)).size F5.size,fun j hj hn=>by rw [F5.block j (Nat.lt_of_lt_of_le hj (rX.trans mX (fun _ _ h=>h)).size) (by omega),(rX.trans mX (fun _ _ h=>h)).block j hj hn]⟩;have YK:fc vD gN.heap.size (fun _=>none):=(Se.same mX).aD F5 (by omega);have Lc:=F9.heap iN (fun h=>h);clear_value je lZ;have ID:Kept Nil v vD:=iU.trans F9 (fun _ _ h=>h);have DA:Kept (fun j=>j=q\/j=sm\/j=bb) y vD:=kv.trans ID (fun _ _ h=>h.elim);have Oh:=hS.same ID;have C17:CV vD F c k G m:=C.aD DA (fun j hj e=>by have:=gD j (.inl hj);omega) (fun j hj e=>by have:=gD j (.inr (.inl hj));omega);have V17:VB vD c s bs bc bh q sm ov:=⟨DA.heap V.hs (by omega),DA.heap V.hc (by omega),DA.heap V.hh (by omega),Oh.f35,Oh.ov⟩;have Su:=DA.heap K4 (by omega);have Gu:bQ vD y.heap.size Ab nb cb bl:=Row.aD eM ID (fun _ _ h=>h);have Lk:=ID.heap vj (fun h=>h);refine⟨x.1,⟨x.2.1,Cells.bA Lc⟩,?_⟩;have qB:=hS.qB;have sB:=hS.sB;have bB:=hS.bB;have GU: ∀b∈(ju k G s l i).wd,qo ov (lH m.sz ch) b=(bL G.D (ju k G s l i).wd b).length:=hO.kn;have sy:=fy;rw [Pb]at sy;obtain⟨c1,c2,c3⟩:=JL C.fO (h:=x) hs hc sy;rw [<-Pb]at c2 c3
  have Tn:=eM.len;have R4:nb<=5000:=by
   have h1:=cO (m:=ct G s l) (List.nodup_append.1 sy).2.1 (fun z hz=>List.mem_of_mem_take (ub z hz));omega
  have On: ∀a,Ab=some a->a.block<gN.heap.size:=fun a ha=>by
   subst ha;obtain⟨_,cur,h1⟩:=Row.bA eM (k:=a.block) rfl;have:=aT h1;omega
  refine yP (p:=⟨bs,bc,bh,q,sm,kb,lZ.heap.size,gN.heap.size,0,0⟩) ⟨C17,V17,Su,S6,(fun e=>by have:gN.heap.size<y.heap.size:=C.low _ (.inl e);omega),(fun e=>by have:gN.heap.size<y.heap.size:=C.low _ (.inr e);omega),(show bs≠gN.heap.size/\bc≠gN.heap.size/\bh≠gN.heap.size/\q≠gN.heap.size/\sm≠gN.heap.size/\kb≠gN.heap.size/\lZ.heap.size≠gN.heap.size from⟨by omega,by omega,by omega,by omega,by omega,by omega,by omega⟩)⟩ hD nf hs hc (h:=x) Lk (by show bb≠gN.heap.size;omega) Gu.hs (fun a ha=>by have:=On a ha;show a.block≠gN.heap.size;omega) (by omega) (by
   show fc vD gN.heap.size _
   have e0:(fun y=>if y∈([]:List HT)then some (Value.int .i64 (qo ov (lH m.sz ch) y:Int))else none)=fun _=>none:=by funext y;simp
   rw [e0];exact YK) c1 fun CP r hr hFr zq=>⟨r,rfl,?_⟩
  replace zq:Kept (· =gN.heap.size) vD CP:=zq
  have Le:r=ns k G.D (ju k G s l i).wd x:=by rw [hr];exact Hk GU c2 c3
  have T3: ∀j,bg E=some j->y.heap.size<=j/\j<v.heap.size:=fun j hj=>by obtain⟨g1,cur,g2⟩:=Row.bA hS.bl hj;exact⟨g1,aT g2⟩
  have G4: ∀j,bg Ab=some j->y.heap.size<=j/\j<v.heap.size:=fun j hj=>by obtain⟨g1,cur,g2⟩:=Row.bA eM hj;exact⟨g1,aT g2⟩
  have s17:=F9.size;have Z7:=Oh.FN zq (by omega) (by omega) (fun j hj=>by have:=T3 j hj;omega) (fun a ha=>by have:=(hS.mA a ha).1;omega);have M9:bQ CP y.heap.size Ab nb cb bl:=Row.aD Gu zq (fun j hj=>by have:=G4 j hj;omega);have IA:Kept (fun j=>j=q\/j=sm\/j=bb) y CP:=DA.trans zq (fun j hj e=>by omega);have Tt:=zq.heap Lk (by omega);have Tj:=zq.heap Lc (by omega);have Zj:=zq.heap S6 (by omega);intro xA;have FZ:Kept Nil CP xA:=(Kept.refl _ _).drew;clear_value xA;have GZ:=Z7.same FZ;have ym:=IA.trans FZ (fun _ _ h=>h.elim);have yE: ∀ {u:World} {S:Nat->Prop},Kept S y u-> ¬S bs->u.cell? ⟨bs,0,none⟩=some (.pointer (some ⟨q,0,none⟩)):=fun ku hb=>by rw [ax (ku.heap V.hs hb)];rfl
  have Ke: ¬(bs=q\/bs=sm\/bs=bb):=by omega
  have s21:=ym.size;refine⟨_,yE ym Ke,_,yE ym Ke,E,e,ce,GZ.f34,?_⟩;intro kP;have pU:Kept Nil xA kP:=(Kept.refl _ _).alloc _;have Js:kP.heap[xA.heap.size]? =some (.cells #[.bool r] gM (0,0)):=aH xA _;clear_value kP;have GY:=GZ.same pU;have tX:=ym.trans pU (fun _ _ h=>h.elim);have Ww:=tX.size;obtain⟨E',qG,u,Ru,kE,Xv,GX,k5,hE5⟩:=GY.Fx (by omega) (by omega) (x:=r) (b:=xA.heap.size) (by rw [ax Js];rfl);have WN:Kept (fun j=>j=q\/j=sm\/j=bb) y u:=tX.trans kE (fun j hj e=>by have:=T3 j e.2;omega);refine⟨GY.f34,yE tX Ke,yE tX Ke,E',e+1,qG,u,Ru,yE WN Ke,Xv,?_⟩;intro uS
  replace GX:lE uS y.heap.size q sm bb _ ov A n cp E' (e+1) qG:=GX
  replace k5:Kept (fun j=>j=q\/bg E=some j) kP uS:=k5
  clear_value uS;have Me:Kept (fun j=>j=q\/j=sm\/j=bb) y uS:=tX.trans k5 (fun j hj e=>by
   rcases e with e|e
   ·exact .inl e
   ·have:=T3 j e;omega)
  have F0:Kept (fun j=>j=q\/bg E=some j) CP uS:=((FZ.trans pU (fun _ _ h=>h)).mono fun _ _ h=>h.elim).trans k5 (fun _ _ h=>h);have abq:=(FZ.trans pU (fun _ _ h=>h)).size;have s20:=zq.size;have Gt:bQ uS y.heap.size Ab nb cb bl:=Row.aD M9 F0 (fun j hj e=>by
   have:=G4 j hj;rcases e with e|e
   ·omega
   ·exact hAE j hj e)
  have Lj:=F0.heap Tt (fun e=>by
   rcases e with e|e
   ·exact hS.qs.2.1 e.symm
   ·have:=T3 bb e;omega)
  have Oo: ∀j,bg Ab=some j->bg E'≠some j:=fun j hj he=>by
   rcases hE5 j he with h1|h1
   ·exact hAE j hj h1
   ·have:=G4 j hj;omega
  have KH: ∀z∈bl,z∈(ct G s l).take (i+1):=fun z hz=>by
   have h1:=ub z hz;rw [List.take_add_one];exact List.mem_append_left _ h1
  cases r with
  |false=>
   refine Split.yes rfl ?_;rw [dG (n:=(i:Int)) (by omega) (by omega)];have wT:ju k G s l (i+1)=⟨(ju k G s l i).wd,(ju k G s l i).bl++ [false]⟩:=by rw [pK,mT,<-Le];rfl
   refine⟨(i:Int)+1,rfl,⟨i+1,rfl,dN,⟨ov,E',e+1,qG,Ab,nb,cb,bl,?_,Lj,Gt,?_,Oo,?_,?_,KH,by omega⟩,Me⟩,by simp only;omega⟩
   ·rw [wT]
    simpa [List.count_append]using GX
   ·rw [wT];exact Pb
   ·rw [wT];exact hO
   ·rw [wT];exact fy
  |true=>
   refine Split.no rfl ?_;have Oj:=hFr rfl
   replace Oj:xk CP gN.heap.size (qo ov (lH m.sz ch)) (np G x bl ch):=Oj
   have cP:=(oH.1 hr.symm).2;have pW:=cO (m:=ids G.D) c1 (fun z hz=>by
    have h1:=(eZ.1 ((c3 z).1 hz)).1;rw [Pb]at h1;rcases List.mem_append.1 h1 with h1|h1
    ·rcases List.mem_append.1 h1 with h1|h1
     ·exact(((C.fO.wd s hs).2.1 z h1).mem W).1
     ·have:z=s:=by simpa using h1
      subst this;exact hs
    ·exact hM z (List.mem_of_mem_take (ub z h1)))
   rw [fI]at pW;generalize ja:np G x bl ch=jC at*;generalize YR:qo ov (lH m.sz ch)=kn at*;have M4:G.score s<=5000:=by
    have h1:=(C.fO.wd s hs).2.2;have h2:=cO (m:=ids G.D) (C.fO.wd s hs).1 (fun b hb=>(((C.fO.wd s hs).2.1 b hb).mem W).1);rw [fI]at h2;omega
   have Zq:(ju k G s l i).bl.count true<=5000:=by
    have h1:=List.count_le_length (a:=true) (l:=(ju k G s l i).bl);rw [BB k G s l i (by omega)]at h1;omega
   generalize Cm:G.score s+1+(ju k G s l i).bl.count true=sc at*;have ew:IntKind.u64.wrap ((sc:Int)+(1:Int))=((sc+1:Nat):Int):=by
    rw [show(sc:Int)+1=((sc+1:Nat):Int)by omega];exact iY (by omega)
   refine⟨_,yE Me Ke,_,GX.f32,GX.wr (by omega),?_⟩;intro sP qM;have Z5:lE sP y.heap.size q sm bb ⟨s,sc+1,ct G s l,(ju k G s l i).bl++ [true]⟩ ov A n cp E' (e+1) qG:=by
    show lE (uS.setCell (((⟨q,0,none⟩:Addr).add 0).add 32) (.int .u64 (IntKind.u64.wrap ((sc:Int)+(1:Int))))) _ _ _ _ _ _ _ _ _ _ _ _
    rw [ew];exact(GX.LY (sc+1)).1
   have EA:Kept (· =q) uS sP:=lE.P4 (h:=GX) 32 _;have Ad:Kept Nil sP qM:=(Kept.refl _ _).drew;clear_value qM sP;have AM:=Z5.same Ad;have Cb:Kept (· =q) uS qM:=EA.trans Ad (fun _ _ h=>h.elim);have yl:=Me.trans Cb (fun j hj e=>.inl e);have Cc:Kept (fun j=>j=q\/bg E=some j) CP qM:=F0.trans Cb (fun j hj e=>.inl e);have Hc: ∀j,v.heap.size<=j-> ¬(j=q\/bg E=some j):=fun j hj e=>by
    rcases e with e|e
    ·omega
    ·have:=T3 j e;omega
   have Lb:=Cc.heap Tj (Hc _ (Nat.le_refl _));have S5:=Cc.heap Zj (Hc _ (by omega));have TY:xk qM gN.heap.size kn jC:=Oj.aD Cc (Hc _ (by omega));have Nv: ∀z,(if z∈jC then some (Value.int .i64 (kn z:Int))else none)≠none↔z∈jC:=fun z=>by
    by_cases hz:z∈jC
    ·rw [if_pos hz];exact⟨fun _=>hz,fun _ e=>by cases e⟩
    ·rw [if_neg hz];exact⟨fun e=>absurd rfl e,fun e=>absurd e hz⟩
   obtain⟨sn,X8,TP,sq⟩:=AM.note x jC.length;have s33:=Cc.size;have WQ:=yl.trans sq (fun j hj e=>.inr (.inl e));have aai:xk sn gN.heap.size kn jC:=TY.aD sq (by omega);have Zi:=sq.heap S5 (by omega);have Ti:=sq.heap Lb (by omega);have M7:bQ sn y.heap.size Ab nb cb bl:=Row.aD (Row.aD Gt Cb (fun j hj e=>by have:=G4 j hj;omega)) sq (fun j hj e=>by have:=G4 j hj;omega);have Tq:=sq.heap (Cb.heap Lj (fun e=>hS.qs.2.1 e.symm)) (fun e=>hS.qs.2.2 e.symm);obtain⟨w38,zx,X5,hit,O7⟩:=aai.range qk;have s36:=sq.size;have s38:=O7.size;refine⟨_,yE yl Ke,some sm,AM.f35,x.1,⟨x.2.1,Cells.bA Lb⟩,some gN.heap.size,by rw [ax S5];rfl,jC.length,TY.len qk iX c1 Nv,sn,X8,some gN.heap.size,by rw [ax Zi];rfl,_,w38,X5,?_⟩;refine ah.tV (I:=fun _ u=> ∃left zx Kb,nt u gN.heap.size sn.heap.size (fun z=>if z∈jC then some (Value.int .i64 (kn z:Int))else none) left zx/\lE u y.heap.size q sm bb ⟨s,sc+1,ct G s l,(ju k G s l i).bl++ [true]⟩ Kb A n cp E' (e+1) qG/\
    (∀z,(left z->z∈jC)/\(z∈jC-> ¬left z->Kb z=some (kn z+1))/\((z∉jC\/left z)->Kb z=if z=x then some jC.length else ov z))/\Kept (fun j=>j=sm\/j=sn.heap.size) w38 u) (μ:=fun _ u=>u.rangeLeft gN.heap.size sn.heap.size) (s:=())
    ⟨_,zx,_,hit,TP.same O7,fun z=>⟨fun hz=>(Nv z).1 hz,fun hz hl=>absurd ((Nv z).2 hz) hl,fun _=>rfl⟩,Kept.refl _ _⟩ ?_
   rintro s1 u3 ⟨left,ah7,Kb,Ns,Og,hinv,ku⟩;have Wn:=ku.size;have lit:=Ns.lt;have ky3:Kept (fun j=>j=q\/j=sm\/j=bb) y u3:=(WQ.trans O7 (fun _ _ h=>h.elim)).trans ku (fun j hj e=>by
    rcases e with e|e
    ·exact .inr (.inl e)
    ·omega)
   rcases Ns.next 0 with⟨h0',RX,ji⟩|⟨z,val,u4,aaI,hl,Zd,ji,Zl,YT,cH,k4⟩
   ·refine .inl ⟨u3,ji,?_⟩
    rw [aS,ah.zz];unfold ah.vx;have Ts:=ku.heap (O7.heap Tq (fun h=>h)) (by have:=hS.qs;omega);have D4:=ku.heap (O7.heap Ti (fun h=>h)) (by omega);have Rw:bQ u3 y.heap.size Ab nb cb bl:=Row.aD (Row.aD M7 O7 (fun _ _ h=>h)) ku (fun j hj e=>by have:=G4 j hj;omega);refine⟨Ab,nb,cb,by rw [ax Ts];rfl,x.1,⟨x.2.1,Cells.bA D4⟩,x.2.1,?_⟩;intro HD;have O6:Kept Nil u3 HD:=(Kept.refl _ _).alloc _;have Xp:HS HD (some ⟨u3.heap.size,0,none⟩) 1 [x]:=iW u3 x;clear_value HD;have s50:=O6.size;have M5:bQ HD y.heap.size Ab nb cb bl:=Row.aD Rw O6 (fun _ _ h=>h);obtain⟨A6,c6,EX,Nb,JY,g51,aao⟩:=cD ay M5 (cx:=1) Xp (by omega) (by omega);have UZ:Kept (fun j=>bg Ab=some j) HD EX:=(Kept.refl _ _).grown g51 fun j hj _=>hj;have Li:=UZ.heap (O6.heap Ts (fun h=>h)) (fun e=>by have:=G4 bb e;omega);refine⟨A6,nb+1,c6,EX,Nb,dO Li (by simp),?_⟩;intro JU;have Tp:JU.heap[bb]? =some (.cells #[.slice A6 (nb+1) c6] ay (0,0)):=by
     show(EX.setCell ⟨bb,0,none⟩ (.slice A6 (nb+1) c6)).heap[bb]? =_;rw [cR Li 0];rfl
    have FO:Kept (· =bb) EX JU:=Kept.setCell (S:=(· =bb)) (Kept.refl _ EX) (p:=⟨bb,0,none⟩) (fun _=>rfl) _;clear_value JU;have u7:Kept (fun j=>bg Ab=some j\/j=bb) u3 JU:=((O6.mono fun _ _ h=>h.elim).trans UZ (fun _ _ h=>.inl h):Kept (fun j=>bg Ab=some j\/j=bb) u3 EX).trans FO (fun _ _ h=>.inr h);have Z4:lE JU y.heap.size q sm bb ⟨s,sc+1,ct G s l,(ju k G s l i).bl++ [true]⟩ Kb A n cp E' (e+1) qG:=Og.FN u7
     (fun e=>e.elim (fun e=>by have:=G4 q e;omega) (fun e=>hS.qs.2.1 e)) (fun e=>e.elim (fun e=>by have:=G4 sm e;omega) (fun e=>hS.qs.2.2 e))
     (fun j hj e=>e.elim (fun e=>Oo j e hj) (fun e=>by have:=(Row.bA Og.bl hj).1;omega)) (fun a ha e=>e.elim (fun e=>by have:=G4 _ e;have:=(hS.mA a ha).1;omega) (fun e=>(hS.mA a ha).2.2.2 e))
    have rO:bQ JU y.heap.size A6 (nb+1) c6 (bl++ [x]):=Row.aD JY FO (fun j hj e=>by have:=(Row.bA JY hj).1;omega);rw [dG (n:=(i:Int)) (by omega) (by omega)];have wT:ju k G s l (i+1)=⟨(ju k G s l i).wd++ [x],(ju k G s l i).bl++ [true]⟩:=by rw [pK,mT,<-Le];rfl
    have Yr:Kb=x6 G.D (ju k G s l i).wd ov (lH m.sz ch) x:=by
     funext z
     unfold x6;rw [YR];by_cases hz:z∈jC
     ·rw [if_pos ((c3 z).1 hz)]
      exact(hinv z).2.1 hz (RX z)
     ·rw [if_neg (fun e=>hz ((c3 z).2 e)),(hinv z).2.2 (.inl hz),c2]
    refine⟨(i:Int)+1,rfl,⟨i+1,rfl,dN,⟨Kb,E',e+1,qG,A6,nb+1,c6,bl++ [x],?_,Tp,rO,?_,?_,?_,?_,?_,by omega⟩,?_⟩,by simp only;omega⟩
    ·rw [wT]
     have ec:G.score s+1+((ju k G s l i).bl++ [true]).count true=sc+1:=by rw [List.count_append,<-Cm];simp;omega
     show lE JU y.heap.size q sm bb ⟨s,G.score s+1+((ju k G s l i).bl++ [true]).count true,ct G s l,(ju k G s l i).bl++ [true]⟩ Kb A n cp E' (e+1) qG
     rw [ec];exact Z4
    ·rw [wT]
     show(ju k G s l i).wd++ [x]=_;rw [Pb,List.append_assoc]
    ·intro j hj he
     rcases aao j hj with h1|h1
     ·exact Oo j h1 he
     ·obtain⟨_,cur,h2⟩:=Row.bA Og.bl he
      have:=aT h2;omega
    ·rw [wT,Yr]
     exact hO.step U2
    ·rw [wT]
     exact List.nodup_append.2 ⟨fy,by simp,fun a ha b hb e=>by
      have:b=x:=by simpa using hb
      subst this;subst e;exact U2 ha⟩
    ·intro z hz
     rcases List.mem_append.1 hz with hz|hz
     ·exact KH z hz
     ·have:z=x:=by simpa using hz
      subst this;rw [List.take_add_one,hx];simp
    ·exact ky3.trans u7 (fun j hj e=>by
      rcases e with e|e
      ·have:=G4 j e;omega
      ·exact .inr (.inr e))
   ·have Xk:=(hinv z).1 hl
    rw [if_pos Xk]at Zd;cases Zd;have hkz:=cP z Xk;refine .inr ⟨_,_,u4,ji,z.1,(kn z:Int),Zl,?_⟩;intro HC;obtain⟨MU,yM,wW⟩:=gq (w:=u4) (z:=de.1) (cs:=z.1) (t:=ai) (by rw [z.2.1];rfl);refine⟨⟨z.2.1,z.2.one,fun j hj=>MU j (by rw [z.2.1];exact hj)⟩,?_⟩;intro UJ OP
    replace yM:UJ.heap[u4.heap.size]? =some (.cells z.1 ai (0,0)):=yM
    replace wW:Kept Nil u4 UJ:=wW
    have UU:Kept Nil UJ OP:=(Kept.refl _ _).drew;clear_value OP UJ;have ZK:=UU.heap yM (fun h=>h);have Kn:=wW.trans UU (fun _ _ h=>h);have B8:Kept (· =sn.heap.size) u3 OP:=k4.trans Kn (fun _ _ h=>h.elim);have hE3: ∀j,bg E'=some j->j≠sn.heap.size:=fun j hj e=>by
     obtain⟨_,cur,h2⟩:=Row.bA TP.bl hj;have:=aT h2;omega
    have TN:=Og.FN B8 (by omega) (by omega) (fun j hj e=>hE3 j hj e) (fun a ha e=>by have:=(hS.mA a ha).1;omega);have WO:Kept (fun j=>j=q\/j=sm\/j=bb) y OP:=ky3.trans B8 (fun j hj e=>by omega);have K5:=YT.aD Kn (fun h=>h) (fun h=>h);obtain⟨CU,RD,TQ,Af⟩:=TN.note z (kn z+1);have ekz:IntKind.i64.wrap ((kn z:Int)+(1:Int))=((kn z+1:Nat):Int):=by rw [dG (n:=(kn z:Int)) (by omega) (by omega)];omega
    have s3:=B8.size;refine⟨_,yE WO Ke,some sm,TN.f35,z.1,⟨z.2.1,Cells.bA ZK⟩,CU,by rw [ekz];exact RD,?_⟩;refine⟨(),rfl,⟨_,aaI,_,K5.aD Af (by omega) (by omega),TQ,fun y'=>?_,?_⟩,?_⟩
    ·obtain⟨i1,i2,i3⟩:=hinv y'
     refine⟨fun h=>i1 h.1,fun h1 h2=>?_,fun h=>?_⟩
     ·by_cases e:y'=z
      ·subst e;simp only [if_true]
      ·simp only [if_neg e]
       exact i2 h1 (fun h=>h2 ⟨h,e⟩)
     ·have e:y'≠z:=by
       rcases h with h|h
       ·exact fun e=>h (by rw [e];exact Xk)
       ·exact h.2
      simp only [if_neg e];exact i3 (h.imp_right fun h=>h.1)
    ·exact(ku.trans B8 (fun j hj e=>.inr e)).trans Af (fun j hj e=>.inl e)
    ·show CU.rangeLeft gN.heap.size sn.heap.size<u3.rangeLeft gN.heap.size sn.heap.size
     rw [Ns.left_eq,(K5.aD Af (by omega) (by omega)).left_eq];exact cH
 ·rw [aS,ah.jF]
  have:i=n:=by omega
  subst this;have e1:=BC k G s l;rw [Sl]at e1;rw [e1]at hS hO;have hsq:v.heap[bs]? =some (.cells #[.pointer (some ⟨q,0,none⟩)] eF (0,0)):=kv.heap V.hs (by omega);exact⟨some ⟨q,0,none⟩,by rw [ax hsq];rfl,hK v ov E e ce hS hO kv⟩
end
end Go.Proofs.YtnboahlopghcjaaGreatDoor
namespace Go.Proofs.YtnboahlopghcjaaGreatDoor
open Go.Proofs.Tryz
open Go Go.bS Go.RowKit
def CI(N:Nat):Prop:= ∀ {w:World} {F:Nat->Prop} {c k:Nat} {G:GS} {m:CM} {B:Nat} {A:Option Addr} {n cx:Nat} {l:List HT} {K:Value->World->Prop},CV w F c k G m->bQ w B A n cx l->n<=N->l.Nodup->(∀x∈l,x∈ids G.D)->
 (∀j,bg A=some j-> ¬m.own c j/\ ¬F j)->(∀l' w',SO G l'->(∀x,x∈l'↔x∈l)->bQ w' B A n cx l'->Kept (fun j=>bg A=some j) w w'->K (.tuple #[]) w')->
 bk prog ij.id #[.slice A n cx,.func (.func bp.id) #[.pointer (some ⟨c,0,none⟩)] #[]] w K
section
variable{y v w w':World}{F:Nat->Prop}{c k:Nat}{G:GS}{m:CM}{s:HT}{l ch:List HT}{bs bc bh q sm nL cL:Nat}{AL:Option Addr}{K:Value->World->Prop}
set_option maxHeartbeats 4000000 in
theorem zG{N:Nat}(yC:CI N)(hN:(q9 G.D s l).length<=N)(C:CV y F c k G m)(hD:G.D.length<=5000)(nf:k<=1000)(hs:s∈ids G.D)(hc:cY G.D G.P s ch)(hl: ∀x∈l,x∈ids G.D)
 (V:VB y c s bs bc bh q sm (fun _=>none)) (hS:xw y y.heap.size q sm ⟨s,G.score s+1,[],[]⟩ (fun _=>none) none 0 0 none 0 0)
 (hL:HS y AL nL (df (dP G.D l++l))) (hAL: ∀a,AL=some a->a.block≠q)
 (gD: ∀j,(m.own c j\/F j\/j=bs\/j=bc\/j=bh)->j≠q/\j≠sm)
 (hK: ∀v B bb ov A n cp E e ce,lE v B q sm bb (cu k G s l) ov A n cp E e ce->OV G.D (eU k G s l).wd ov (lH m.sz ch)->(∀a,A=some a->y.heap.size<=a.block)->(y.heap.size<=B/\B<=v.heap.size)->Kept (fun j=>j=q\/j=sm) y v->K (.pointer (some ⟨q,0,none⟩)) v):
 Holds none [] prog 153 (.loop (lB (bB (sR (sL (sR (sR (sR (body ah.fn))))))))) (ah.q1 K)
  [(3,.pointer (some ⟨bc,0,none⟩)),(4,.pointer (some ⟨bh,0,none⟩)),(6,.pointer none),(8,.pointer (some ⟨bs,0,none⟩)),(46,.slice AL nL cL),(47,.int .i64 (nL:Int)),(48,.int .i64 0)] y:=by
 have W:=C.fO.W;have lbs:=aT V.hs;have lbc:=aT V.hc;have lbh:=aT V.hh;have VL:=gD bs (.inr (.inr (.inl rfl)));have VN:=gD bc (.inr (.inr (.inr (.inl rfl))));have VM:=gD bh (.inr (.inr (.inr (.inr rfl))));have adg:=hL.len;have hLi: ∀x∈df (dP G.D l++l),x∈ids G.D:=fun x hx=>by
  rcases List.mem_append.1 (dv.1 hx)with h|h
  ·exact(iS.1 h).1
  ·exact hl x h
 have hLn:nL<=5000:=by
  have:=cO (ig _).nodup hLi;rw [fI]at this;omega
 generalize hLL:df (dP G.D l++l)=L at*;refine ah.b9 (I:=fun s0 v=> ∃i:Nat,s0=(i:Int)/\i<=nL/\(∃A n cp,xw v y.heap.size q sm ⟨s,G.score s+1,(L.take i).filter fun h=>decide (h≠s/\ ¬eT G.D h s),[]⟩ (fun _=>none) A n cp none 0 0)/\Kept (· =q) y v) (μ:=fun s0 _=>((nL:Int)-s0).toNat) (s:=0) ⟨0,rfl,Nat.zero_le _,⟨none,0,0,hS⟩,Kept.refl _ _⟩ ?_;rintro s0 v ⟨i,rfl,hi,⟨A,n,cp,Jv⟩,kv⟩;have sv:=kv.size;have Sm:=bQ.len Jv.mg;have hnA:n<=5000:=by
  have h1:=List.length_filter_le (fun h=>decide (h≠s/\ ¬eT G.D h s)) (L.take i);have h2:=List.length_take_le i L;have h3:((L.take i).filter fun h=>decide (h≠s/\ ¬eT G.D h s)).length=n:=Sm;omega
 refine Split.dec (fun iP=>?_) (fun fV=>?_)
 ·have dN:i<nL:=by omega
  obtain⟨x,hx⟩: ∃x,L[i]? =some x:=⟨_,List.getElem?_eq_getElem (by omega)⟩;have Ea:L.take (i+1)=L.take i++ [x]:=by rw [List.take_add_one,hx];rfl
  have hLv:HS v AL nL L:=hL.aD kv hAL;refine hLv.load (i:=(i:Int)) (by omega) hx ?_;intro kr;obtain⟨rk,iN,iU⟩:=gq (w:=v) (z:=de.1) (cs:=x.1) (t:=ai) (by rw [x.2.1];rfl);refine⟨⟨x.2.1,x.2.one,fun j hj=>rk j (by rw [x.2.1];exact hj)⟩,?_⟩;intro gN lZ
  replace iN:gN.heap[v.heap.size]? =some (.cells x.1 ai (0,0)):=iN
  replace iU:Kept Nil v gN:=iU
  have rX:Kept Nil gN lZ:=(Kept.refl _ _).drew;clear_value lZ gN;have GP:=rX.heap iN (fun h=>h);have Mj:=iU.trans rX (fun _ _ h=>h);have DB:Kept (· =q) y lZ:=kv.trans Mj (fun _ _ h=>h.elim);have C15:CV lZ F c k G m:=C.aD DB (fun j hj e=>(gD j (.inl hj)).1 e) (fun j hj e=>(gD j (.inr (.inl hj))).1 e);have hcy: ∀ {u:World},Kept (· =q) y u->u.cell? ⟨bc,0,none⟩=some (.pointer (some ⟨c,0,none⟩)):=fun ku=>by rw [ax (ku.heap V.hc VN.1)];rfl
  have Ro: ∀ {u:World},Kept (· =q) y u->u.cell? ⟨bs,0,none⟩=some (.pointer (some ⟨q,0,none⟩)):=fun ku=>by rw [ax (ku.heap V.hs VL.1)];rfl
  have next: ∀ {u:World} {A':Option Addr} {n' uR:Nat},xw u y.heap.size q sm ⟨s,G.score s+1,(L.take (i+1)).filter fun h=>decide (h≠s/\ ¬eT G.D h s),[]⟩ (fun _=>none) A' n' uR none 0 0->Kept (· =q) y u->
   ∃s1:Int,IntKind.i64.wrap ((i:Int)+(1:Int))=s1/\(∃i':Nat,s1=(i':Int)/\i'<=nL/\(∃A n cp,xw u y.heap.size q sm ⟨s,G.score s+1,(L.take i').filter fun h=>decide (h≠s/\ ¬eT G.D h s),[]⟩ (fun _=>none) A n cp none 0 0)/\Kept (· =q) y u)/\((nL:Int)-s1).toNat<((nL:Int)-(i:Int)).toNat:=fun h1 h2=>by
   rw [dG (n:=(i:Int)) (by omega) (by omega)];exact⟨(i:Int)+1,rfl,⟨i+1,rfl,dN,⟨_,_,_,h1⟩,h2⟩,by omega⟩
  refine⟨x.1,⟨x.2.1,Cells.bA GP⟩,s.1,⟨s.2.1,Cells.bA (DB.heap V.hh VM.1)⟩,⟨x.2.ints,s.2.ints⟩,?_⟩;rw [cQ];by_cases IV:x=s
  ·refine Split.no (by rw [decide_eq_true IV];rfl) ?_
   obtain⟨s1,e1,e2,e3⟩:=next (u:=lZ) (by
    rw [Ea,List.filter_append];have: [x].filter (fun h=>decide (h≠s/\ ¬eT G.D h s))= []:=by rw [List.filter_cons_of_neg (by simp [IV])];rfl
    rw [this,List.append_nil];exact Jv.same Mj) DB
   rw [e1];exact⟨s1,rfl,e2,e3⟩
  ·refine Split.yes (by rw [decide_eq_false IV];rfl) ⟨_,hcy DB,_,C15.c1,x.1,⟨x.2.1,Cells.bA GP⟩,s.1,⟨s.2.1,Cells.bA (DB.heap V.hh VM.1)⟩,?_⟩
   obtain⟨mx,X15,_⟩:=C15.X;refine kL X15 hD x s fun CP r hr zq=>⟨r,rfl,?_⟩;have IA:Kept (· =q) y CP:=DB.trans zq (fun _ _ h=>h.elim);have QG:=Mj.trans zq (fun _ _ h=>h);cases r with
   |true=>
    refine Split.no rfl ?_;obtain⟨s1,e1,e2,e3⟩:=next (u:=CP) (by
     rw [Ea,List.filter_append];have: [x].filter (fun h=>decide (h≠s/\ ¬eT G.D h s))= []:=by rw [List.filter_cons_of_neg (by simp [hr.1 rfl])];rfl
     rw [this,List.append_nil];exact Jv.same QG) IA
    rw [e1];exact⟨s1,rfl,e2,e3⟩
   |false=>
    refine Split.yes rfl ?_;intro xA;have FZ:Kept Nil CP xA:=(Kept.refl _ _).drew;clear_value xA;have WW:=QG.trans FZ (fun _ _ h=>h);have ym:Kept (· =q) y xA:=IA.trans FZ (fun _ _ h=>h.elim);have GZ:=Jv.same WW;refine⟨_,Ro ym,_,Ro ym,A,n,cp,GZ.f33,x.1,⟨x.2.1,Cells.bA ((zq.trans FZ (fun _ _ h=>h)).heap GP (fun h=>h))⟩,x.2.1,?_⟩;intro kP;have pU:Kept Nil xA kP:=(Kept.refl _ _).alloc _;have Xu:HS kP (some ⟨xA.heap.size,0,none⟩) 1 [x]:=iW xA x;clear_value kP;have GY:=GZ.same pU;have tX:Kept (· =q) y kP:=ym.trans pU (fun _ _ h=>h.elim);have Ww:=tX.size;obtain⟨A',uR,u,Ru,ku,GX,k5,Xx⟩:=GY.Qg Ww (by omega) Xu;have WN:Kept (· =q) y u:=tX.trans ku (fun j hj e=>by omega);refine⟨GY.f33,Ro tX,Ro tX,A',n+1,uR,u,Ru,Ro WN,Xx,?_⟩;intro uS
    replace GX:xw uS y.heap.size q sm _ (fun _=>none) A' (n+1) uR none 0 0:=GX
    replace k5:Kept (fun j=>j=q\/y.heap.size<=j) kP uS:=k5
    clear_value uS;obtain⟨s1,e1,e2,e3⟩:=next (u:=uS) (by
     rw [Ea,List.filter_append];have: [x].filter (fun h=>decide (h≠s/\ ¬eT G.D h s))= [x]:=by rw [List.filter_cons_of_pos (by simp only [decide_eq_true_eq];exact⟨IV,fun e=>by have:=hr.2 e;cases this⟩)];rfl
     rw [this];exact GX) (tX.trans k5 (fun j hj e=>by
      rcases e with e|e
      ·exact e
      ·omega))
    rw [e1];exact⟨s1,rfl,e2,e3⟩
 ·rw [aS,ah.cZ]
  have fh:i=nL:=by omega
  subst fh;rw [List.take_of_length_le (by omega)]at Jv;unfold ah.cK;intro qM;have Ad:Kept Nil v qM:=(Kept.refl _ _).drew;clear_value qM;have AM:=Jv.same Ad;have yl:Kept (· =q) y qM:=kv.trans Ad (fun _ _ h=>h.elim);have C33:CV qM F c k G m:=C.aD yl (fun j hj e=>(gD j (.inl hj)).1 e) (fun j hj e=>(gD j (.inr (.inl hj))).1 e);have efl:(L.filter fun h=>decide (h≠s/\ ¬eT G.D h s))=q9 G.D s l:=by unfold q9;rw [hLL]
  have Ap:bQ qM y.heap.size A n cp (q9 G.D s l):=by rw [<-efl];exact AM.mg
  have On: ∀j,bg A=some j->y.heap.size<=j/\j<qM.heap.size:=fun j hj=>by obtain⟨g1,cur,g2⟩:=Row.bA Ap hj;exact⟨g1,aT g2⟩
  refine⟨some ⟨q,0,none⟩,by rw [ax (yl.heap V.hs VL.1)];rfl,A,n,cp,AM.f33,some ⟨c,0,none⟩,by rw [ax (yl.heap V.hc VN.1)];rfl,?_⟩;refine yC C33 Ap (by have:=bQ.len Ap;omega) (pD _ _ _) (fun x hx=>hLi x (by rw [<-efl]at hx;exact(List.mem_filter.1 hx).1)) (fun j hj=>⟨fun e=>by have:=C.low j (.inl e);have:=(On j hj).1;omega,fun e=>by have:=C.low j (.inr e);have:=(On j hj).1;omega⟩) fun l' mG DS gJ Gs yr=>⟨rfl,?_⟩;have el:l'=ct G s l:=ra DS gJ;subst el;have qB:=Jv.qB;have sB:=Jv.sB;have Ye:=Jv.qs;have s33:=yl.size;have Qw:Kept (· =q) y mG:=yl.trans yr (fun j hj e=>by have:=(On j e).1;omega);have MZ:=yr.heap AM.top (fun e=>by have:=(On q e).1;omega);have RO:=AM.ov.aD yr (fun e=>by have:=(On sm e).1;omega);intro jc sn;have mH:Kept Nil mG jc:=(Kept.refl _ _).alloc _;have Tx:jc.heap[mG.heap.size]? =some (.cells #[.slice none 0 0] ay (0,0)):=aH mG _;have sq:Kept Nil jc sn:=(Kept.refl _ _).alloc _;have Nr:sn.heap[jc.heap.size]? =some (.cells #[.nilFunc] eK (0,0)):=aH jc _;refine⟨dO Nr (by simp),?_⟩;intro vB;have Sv:vB.heap[jc.heap.size]? =some (.cells #[.func (.func bN.id) #[] #[.pointer (some ⟨bs,0,none⟩),.pointer (some ⟨bc,0,none⟩),.pointer (some ⟨bh,0,none⟩)]] eK (0,0)):=by
   show(sn.setCell ⟨jc.heap.size,0,none⟩ _).heap[jc.heap.size]? =_;rw [cR Nr 0];rfl
  have DJ:Kept (· =jc.heap.size) sn vB:=Kept.setCell (S:=(· =jc.heap.size)) (Kept.refl _ sn) (p:=⟨jc.heap.size,0,none⟩) (fun _=>rfl) _;clear_value vB;have vU:=mH.trans sq (fun _ _ h=>h);have Wv:=mH.size;have s36:=sq.size;have l35:=aT Tx;have l36:=aT Nr;have Ca:Kept Nil mG vB:=⟨DJ.os.trans vU.os,DJ.tape.trans vU.tape,DJ.output.trans vU.output,Nat.le_trans vU.size DJ.size,fun j hj hn=>by rw [DJ.block j (Nat.lt_of_lt_of_le hj vU.size) (by omega),vU.block j hj hn]⟩;have ZQ:=DJ.heap (sq.heap Tx (fun h=>h)) (by omega);have l37:=aT Sv;clear_value sn jc;have Dz:Kept (· =q) y vB:=Qw.trans Ca (fun _ _ h=>h.elim);have s34:=Qw.size;have s37:=Dz.size;have C37:CV vB F c k G m:=C.aD Dz (fun j hj e=>(gD j (.inl hj)).1 e) (fun j hj e=>(gD j (.inr (.inl hj))).1 e);have Gj:=Ca.heap MZ (fun h=>h);have KU:=RO.aD Ca (fun h=>h);have M6:bQ vB y.heap.size A n cp (ct G s l):=Row.aD Gs Ca (fun _ _ h=>h);have V37:VB vB c s bs bc bh q sm (fun _=>none):=⟨Dz.heap V.hs VL.1,Dz.heap V.hc VN.1,Dz.heap V.hh VM.1,by rw [a8,ax Gj];exact(eV ..).2.2.2,KU⟩;have VD: ∀a,A=some a->y.heap.size<=a.block/\a.block<mG.heap.size:=fun a ha=>by
   subst ha;obtain⟨g1,cur,g2⟩:=Row.bA Gs (k:=a.block) rfl;exact⟨g1,aT g2⟩
  have TO:lE vB vB.heap.size q sm mG.heap.size ⟨s,G.score s+1,ct G s l,[]⟩ (fun _=>none) A n cp none 0 0:=
   ⟨Gj,M6.hs,fun a ha=>by have:=VD a ha;exact⟨by omega,by omega,by omega,by omega⟩,Row.nil _ _ _ _,KU,by omega,by omega,by omega,⟨Ye,by omega,by omega⟩⟩
  refine⟨some ⟨q,0,none⟩,by rw [ax V37.hs];rfl,A,n,cp,TO.f33,?_⟩;have Rh:(ju k G s l 0)=⟨G.world s++ [s],[]⟩:=rfl;refine zF (l:=l) C37 hD nf hs hc (fun x hx=>hLi x (by
   have h1:=(gJ x).1 hx;rw [<-efl]at h1;exact(List.mem_filter.1 h1).1)) V37 Sv (fun j hj=>?_) ⟨⟨fun _=>none,none,0,0,none,0,0,[],TO,ZQ,bQ.nil _ _,by rw [Rh,List.append_nil],fun j hj=>by simp [bg]at hj,by rw [Rh];exact C.Z |>.ov hs hc,?_,fun z hz=>by simp at hz,rfl⟩,Kept.refl _ _⟩ hnA fun v' ov E e ce h1 h2 h3=>?_
  ·have h1:j<y.heap.size\/j=jc.heap.size:=by
    rcases hj with h|h|h|h|h|h
    ·exact .inl (C.low j (.inl h))
    ·exact .inl (C.low j (.inr h))
    ·exact .inl (by omega)
    ·exact .inl (by omega)
    ·exact .inl (by omega)
    ·exact .inr h
   rcases h1 with h1|h1
   ·have h2:j≠q/\j≠sm:=by
     rcases hj with h|h|h|h|h|h
     ·exact gD j (.inl h)
     ·exact gD j (.inr (.inl h))
     ·exact gD j (.inr (.inr (.inl h)))
     ·exact gD j (.inr (.inr (.inr (.inl h))))
     ·exact gD j (.inr (.inr (.inr (.inr h))))
     ·omega
    exact⟨h2.1,h2.2,by omega⟩
   ·exact⟨by omega,by omega,by omega⟩
  ·rw [Rh]
   obtain⟨g1,g2,_⟩:=C.fO.wd s hs;exact List.nodup_append.2 ⟨g1,by simp,fun a ha b hb e=>by
    have:b=s:=by simpa using hb
    subst this;subst e;exact eT.irrefl W a (g2 a ha)⟩
  ·refine hK v' vB.heap.size mG.heap.size ov A n cp E e ce h1 h2 (fun a ha=>(VD a ha).1) ⟨s37,h3.size⟩ ?_
   exact(Dz.mono fun _ _ h=>.inl h).trans h3 (fun j hj e=>by
    rcases e with e|e|e
    ·exact .inl e
    ·exact .inr e
    ·omega)
end
end Go.Proofs.YtnboahlopghcjaaGreatDoor
namespace Go.Proofs.YtnboahlopghcjaaGreatDoor
open Go.Proofs.Tryz
open Go Go.bS Go.RowKit
theorem OB:PA prog bj=some ([(0,32),(32,1),(33,1),(34,1)],List.replicate 32 (.int .u8 0)++ [.int .u64 0,.slice none 0 0,.slice none 0 0]):=by kernel_rfl
theorem uH(h:HT)(z:Int):prog.built bj [(0,.agg h.1),(1,.int .u64 z)]=some (h.1++ #[.int .u64 z,.slice none 0 0,.slice none 0 0]):=by
 have hs:=h.2.1;rw [mv OB,hU (off:=0) (size:=32) rfl (by simpa [Value.cells]using hs) (by simp),hU (off:=32) (size:=1) rfl rfl (by
  rw [List.size_toArray,kX (by simp [Value.cells,hs])];simp)]
 simp only [Instr.fill,Option.some.injEq];apply Array.ext';unfold ga;simp [Value.cells,hs];rw [List.drop_append];simp [hs]
theorem JO:PA prog dK=some ([(0,35),(35,1)],List.replicate 32 (.int .u8 0)++ [.int .u64 0,.slice none 0 0,.slice none 0 0,.map none]):=by kernel_rfl
theorem wm(c:nN)(sm:Option Nat):prog.built dK [(0,.agg (cC c none 0 0 none 0 0)),(1,.map sm)]=some (cC c none 0 0 none 0 0++ #[.map sm]):=by
 have hs:=a7 c none 0 0 none 0 0;rw [mv JO,hU (off:=0) (size:=35) rfl (by simpa [Value.cells]using hs) (by simp),hU (off:=35) (size:=1) rfl rfl (by
  rw [List.size_toArray,kX (by simp [Value.cells,hs])];simp)]
 simp only [Instr.fill,Option.some.injEq];apply Array.ext';unfold ga;simp [Value.cells,hs]
section
variable{g1 v w w':World}{F:Nat->Prop}{c k:Nat}{G:GS}{m:CM}{s:HT}{l ch:List HT}{bs bc bh q sm n cx:Nat}{A:Option Addr}{K:Value->World->Prop}
theorem H9{N:Nat}(yC:CI N)(hN:(q9 G.D s l).length<=N)(C:CV g1 F c k G m)(hT:rI g1)(hD:G.D.length<=5000)(nf:k<=1000)(hs:s∈ids G.D)(hc:cY G.D G.P s ch)(hl: ∀x∈l,x∈ids G.D)(yI:HS g1 A n l)(hn:n<=5000)
 (V:VB g1 c s bs bc bh q sm (fun _=>none)) (iB:g1.heap[q]? =some (.cells (cC ⟨s,G.score s+1,[],[]⟩ none 0 0 none 0 0++ #[.map (some sm)]) dK (0,0)))
 (gD: ∀j,(m.own c j\/F j\/j=bs\/j=bc\/j=bh)->j≠q/\j≠sm) (Ye:q≠sm) {p:Nat} (hp: ∃mx,XV g1 m.FX m.x G.D G.P mx/\mx.g=p)
 (hK: ∀v B bb ov A n cp E e ce,lE v B q sm bb (cu k G s l) ov A n cp E e ce->OV G.D (eU k G s l).wd ov (lH m.sz ch)->(∀a,A=some a->g1.heap.size<=a.block)->(g1.heap.size<=B/\B<=v.heap.size)->Kept (fun j=>j=q\/j=sm) g1 v->K (.pointer (some ⟨q,0,none⟩)) v):
 bk prog aO.id #[.pointer (some ⟨p,0,none⟩),.slice A n cx] g1 fun i1 j1=> ∃k1:Option Addr,∃m1:Nat,∃n1:Nat,i1=.slice k1 m1 n1/\
  ∃(o1:Option Addr) (p1 q1:Nat) (r1:World),(Builtin.append_ #[ay,ay] ay #[.slice k1 m1 n1,.slice A n cx]).run prog j1=.ok (.slice o1 p1 q1) r1/\
  bk prog iD.id #[.slice o1 p1 q1] r1 fun t1 u1=> ∃v1:Option Addr,∃x1:Nat,∃y1:Nat,t1=.slice v1 x1 y1/\
  Holds none [] prog 153 (.loop (lB (bB (sR (sL (sR (sR (sR (body ah.fn))))))))) (ah.q1 K)
   [(3,.pointer (some ⟨bc,0,none⟩)),(4,.pointer (some ⟨bh,0,none⟩)),(6,.pointer none),(8,.pointer (some ⟨bs,0,none⟩)),(46,.slice v1 x1 y1),(47,.int .i64 (x1:Int)),(48,.int .i64 0)] u1:=by
 have W:=C.fO.W;obtain⟨mx,X,rfl⟩:=hp;obtain⟨bl,c',mb,M,GG⟩:=X.G;have lq:=aT iB;have lsm:=V.ov.lt;refine uC GG W (by omega) hT yI (by omega) fun A1 c1 w1 mc k1=>⟨A1,_,c1,rfl,?_⟩;have pV:(dP G.D l).length<=5000:=Nat.le_trans (me _ _) hD;have s1:=k1.size;obtain⟨A2,c2,w2,ji,fX,g2,T5⟩:=cD ay mc (cx:=cx) (yI.same k1) (by omega) s1;have k2:Kept (fun j=>g1.heap.size<=j) w1 w2:=(Kept.refl _ _).grown g2 fun j hj _=>(Row.bA mc hj).1;have mY:Kept Nil g1 w2:=k1.trans k2 (fun j hj e=>by omega);refine⟨A2,_,c2,w2,ji,?_⟩;refine hZ fX.hs (by omega) fun A3 c3 w3 kK k3=>⟨A3,_,c3,rfl,?_⟩;have mi:=mY.trans k3 (fun _ _ h=>h);have s02:=mY.size;have s03:=mi.size;have V3:=V.same mi;refine zG (l:=l) yC hN (C.same mi) hD nf hs hc hl V3 ⟨mi.heap iB (fun h=>h),bQ.nil _ _,Row.nil _ _ _ _,V3.ov,by omega,by omega,Ye,fun j hj=>by simp [bg]at hj⟩ kK.hs (fun a ha=>?_) gD fun v B bb ov A n cp E e ce h1 h2 h3 h4 h5=>?_
 ·subst ha
  have:=(Row.bA kK (k:=a.block) rfl).1;omega
 ·exact hK v B bb ov A n cp E e ce h1 h2 (fun a ha=>Nat.le_trans s03 (h3 a ha)) ⟨Nat.le_trans s03 h4.1,h4.2⟩ ((mi.mono fun _ _ h=>h.elim).trans h5 (fun _ _ h=>h))
end
end Go.Proofs.YtnboahlopghcjaaGreatDoor
namespace Go.Proofs.YtnboahlopghcjaaGreatDoor
open Go.Proofs.Tryz
open Go Go.bS Go.RowKit
section
variable{w w':World}{F:Nat->Prop}{c k:Nat}{G:GS}{m:CM}{s:HT}{l ch:List HT}{n cx:Nat}{A:Option Addr}{K:Value->World->Prop}
set_option maxHeartbeats 4000000 in
theorem uo{N:Nat}(yC:CI N)(hN:(q9 G.D s l).length<=N)(C:CV w F c k G m)(hT:rI w)(hD:G.D.length<=5000)(nf:k<=1000)(hs:s∈ids G.D)(hc:cY G.D G.P s ch)(hl: ∀x∈l,x∈ids G.D)(yI:HS w A n l)(hn:n<=5000)
 (hK: ∀v q B sm bb ov A n cp E e ce,lE v B q sm bb (cu k G s l) ov A n cp E e ce->OV G.D (eU k G s l).wd ov (lH m.sz ch)->w.heap.size<=q->w.heap.size<=sm->(∀a,A=some a->w.heap.size<=a.block)->(w.heap.size<=B/\B<=v.heap.size)->Kept Nil w v->K (.pointer (some ⟨q,0,none⟩)) v):
 bk prog ah.id #[.pointer (some ⟨c,0,none⟩),.agg s.1,.slice A n cx] w K:=by
 refine ah.of ?_;unfold ah.W;intro w1 w2;have k1:Kept Nil w w1:=(Kept.refl _ _).alloc _;have Tf:w1.heap[w.heap.size]? =some (.cells #[.pointer (some ⟨c,0,none⟩)] gu (0,0)):=aH w _;have k2:Kept Nil w1 w2:=(Kept.refl _ _).alloc _;have vf:w2.heap[w1.heap.size]? =some (.cells s.1 ai (0,0)):=aH w1 _;clear_value w2;have La:=k2.heap Tf (fun h=>h);have mY:=k1.trans k2 (fun _ _ h=>h);have s1:=k1.size;have l1:=aT Tf;have l2:=aT vf;clear_value w1;have C2:=C.same mY;obtain⟨mx2,X2,_⟩:=C2.X;refine⟨some ⟨c,0,none⟩,by rw [ax La];rfl,_,C2.c1,gh.of (Split.no rfl (Is.mk rfl ⟨_,X2.c0,⟨_,rfl,?_⟩⟩))⟩;intro w3;have k3:Kept Nil w2 w3:=(Kept.refl _ _).drew;clear_value w3;have mi:=mY.trans k3 (fun _ _ h=>h);have Tc:=k3.heap La (fun h=>h);have An:=k3.heap vf (fun h=>h);have C3:=C.same mi;obtain⟨A1,n1,c1,B1,m1,d1,s1',sa⟩:=C3.seen s hs;have M4:G.score s<=5000:=by
  have h1:=(C.fO.wd s hs).2.2;have h2:=cO (m:=ids G.D) (C.fO.wd s hs).1 (fun b hb=>(((C.fO.wd s hs).2.1 b hb).mem C.fO.W).1);rw [fI]at h2;omega
 have ew:IntKind.u64.wrap (((G.iw s).score:Int)+(1:Int))=((G.score s+1:Nat):Int):=by
  show IntKind.u64.wrap ((G.score s:Int)+(1:Int))=_
  rw [show(G.score s:Int)+1=((G.score s+1:Nat):Int)by omega];exact iY (by omega)
 have lY: ∀ {u:World},Kept Nil w3 u->u.cell? ⟨w.heap.size,0,none⟩=some (.pointer (some ⟨c,0,none⟩)):=fun ku=>by rw [ax (ku.heap Tc (fun h=>h))];rfl
 have sX: ∀ {u:World},Kept Nil w3 u-> ∃cs:Array Value,(.agg s.1:Value)=.agg cs/\cs.size=32/\Cells u ⟨w1.heap.size,0,none⟩ cs:=fun ku=>⟨s.1,rfl,s.2.1,Cells.bA (ku.heap An (fun h=>h))⟩;have kR: ∀ {u:World},Kept Nil w3 u->u.cell? (((⟨m.q s,0,none⟩:Addr).add 0).add 32)=some (.int .u64 ((G.iw s).score:Int)):=fun ku=>(sa.aD ku (fun _ _ h=>h)).Um;have l3:=aT An;have s3:=k3.size;refine⟨s.1,⟨s.2.1,Cells.bA An⟩,some ⟨c,0,none⟩,lY (Kept.refl _ _),_,C3.c2,s.1,⟨s.2.1,Cells.bA An⟩,_,C3.mW hs,_,kR (Kept.refl _ _),?_⟩;rw [ew];rw [uH s];refine Is.mk rfl ?_;have Eb:(s.1++ #[.int .u64 ((G.score s+1:Nat):Int),.slice none 0 0,.slice none 0 0]:Array Value)=cC ⟨s,G.score s+1,[],[]⟩ none 0 0 none 0 0:=rfl;rw [Eb];have go: ∀ {u:World} {q sm bs:Nat},Kept Nil w3 u->w3.heap.size<=q->w3.heap.size<=sm->w3.heap.size<=bs->q≠sm->bs≠q->bs≠sm->
  u.heap[q]? =some (.cells (cC ⟨s,G.score s+1,[],[]⟩ none 0 0 none 0 0++ #[.map (some sm)]) dK (0,0))->fc u sm (fun _=>none)->u.heap[bs]? =some (.cells #[.pointer (some ⟨q,0,none⟩)] eF (0,0))->_:=
  fun {u q sm bs} ku hq uO Vr h1 h2 h3 iB Nk iW=>H9 (g1:=u) (bs:=bs) (bc:=w.heap.size) (bh:=w1.heap.size) (q:=q) (sm:=sm) (cx:=cx) (K:=K) (p:=mx2.g) yC hN (C3.same ku) (hT.same (mi.trans ku (fun _ _ h=>h))) hD nf hs hc hl (yI.same (mi.trans ku (fun _ _ h=>h))) hn
   ⟨iW,ku.heap Tc (fun h=>h),ku.heap An (fun h=>h),by rw [a8,ax iB];exact(eV ..).2.2.2,Nk⟩ iB
   (fun j hj=>by
     rcases hj with h|h|h|h|h
     ·have:=C.low j (.inl h);exact⟨by omega,by omega⟩
     ·have:=C.low j (.inr h);exact⟨by omega,by omega⟩
     ·exact⟨by omega,by omega⟩
     ·exact⟨by omega,by omega⟩
     ·exact⟨by omega,by omega⟩) h1 ⟨mx2,X2.same (k3.trans ku (fun _ _ h=>h)),rfl⟩
   (fun v B bb ov A n cp E e ce t1 t2 t3 t4 t5=>hK v q B sm bb ov A n cp E e ce t1 t2 (by omega) (by omega) (fun a ha=>by have:=t3 a ha;have:=(mi.trans ku (fun _ _ h=>h)).size;omega) ⟨by have:=(mi.trans ku (fun _ _ h=>h)).size;have:=t4.1;omega,t4.2⟩ ((mi.trans ku (fun _ _ h=>h)).trans t5 (fun j hj e=>by omega)))
 have LX: ∀ {u0:World} {b q:Nat},u0.heap[b]? =some (.cells #[.pointer none] eF (0,0))->Wr u0 ⟨b,0,none⟩/\ ∀u1,u1=u0.setCell ⟨b,0,none⟩ (.pointer (some ⟨q,0,none⟩))->u1.heap[b]? =some (.cells #[.pointer (some ⟨q,0,none⟩)] eF (0,0))/\Kept (· =b) u0 u1:=fun {u0 b q} hb=>⟨dO hb (by simp),fun u1 e=>by
  subst e;refine⟨?_,Kept.setCell (S:=(· =b)) (Kept.refl _ u0) (p:=⟨b,0,none⟩) (fun _=>rfl) _⟩;rw [cR hb 0];rfl⟩
 refine⟨?_,?_⟩
 ·intro w4
  have k4:Kept Nil w3 w4:=(Kept.refl _ _).alloc _;have YG:fc w4 w3.heap.size (fun _=>none):=fc.new w3;clear_value w4;have l4:=YG.lt;refine⟨kR k4,(C3.same k4).mW hs,sX k4,(C3.same k4).c2,lY k4,sX k4,?_⟩;rw [wm];refine Is.mk rfl ⟨?_,?_⟩
  ·intro w5 w6
   have k5:Kept Nil w4 w5:=(Kept.refl _ _).alloc _;have hq5:w5.heap[w4.heap.size]? =some (.cells (cC ⟨s,G.score s+1,[],[]⟩ none 0 0 none 0 0++ #[.map (some w3.heap.size)]) dK (0,0)):=aH w4 _;have k6:Kept Nil w5 w6:=(Kept.refl _ _).alloc _;have nK:w6.heap[w5.heap.size]? =some (.cells #[.pointer none] eF (0,0)):=aH w5 _;clear_value w6;have RF:=k6.heap hq5 (fun h=>h);have l5:=aT hq5;clear_value w5;have Mo:=k5.trans k6 (fun _ _ h=>h);have sq:=k4.trans Mo (fun _ _ h=>h);have s36:=sq.size;obtain⟨t1,t2⟩:=LX (q:=w4.heap.size) nK;refine⟨t1,?_⟩;intro w7;obtain⟨t3,t4⟩:=t2 w7 rfl;clear_value w7;exact go (sq.trans t4 (fun j hj e=>by omega)) (by omega) (by omega) (by omega) (by omega) (by omega) (by omega) (t4.heap RF (by omega)) ((YG.same Mo).aD t4 (by omega)) t3
  ·intro w5
   have k5:Kept Nil w4 w5:=(Kept.refl _ _).alloc _;have lU:w5.heap[w4.heap.size]? =some (.cells #[.pointer none] eF (0,0)):=aH w4 _;clear_value w5;have l5:=aT lU;have mH:=k4.trans k5 (fun _ _ h=>h);refine⟨kR mH,(C3.same mH).mW hs,sX mH,(C3.same mH).c2,lY mH,sX mH,?_⟩;intro w6;have k6:Kept Nil w5 w6:=(Kept.refl _ _).alloc _;have RF:w6.heap[w5.heap.size]? =some (.cells (cC ⟨s,G.score s+1,[],[]⟩ none 0 0 none 0 0++ #[.map (some w3.heap.size)]) dK (0,0)):=aH w5 _;clear_value w6;have Mo:=k5.trans k6 (fun _ _ h=>h);have sq:=k4.trans Mo (fun _ _ h=>h);have Wv:=mH.size;obtain⟨t1,t2⟩:=LX (q:=w5.heap.size) (k6.heap lU (fun h=>h));refine⟨t1,?_⟩;intro w7;obtain⟨t3,t4⟩:=t2 w7 rfl;clear_value w7;exact go (sq.trans t4 (fun j hj e=>by omega)) (by omega) (by omega) (by omega) (by omega) (by omega) (by omega) (t4.heap RF (by omega)) ((YG.same Mo).aD t4 (by omega)) t3
 ·intro w4
  have k4:Kept Nil w3 w4:=(Kept.refl _ _).alloc _;have qN:w4.heap[w3.heap.size]? =some (.cells #[.pointer none] eF (0,0)):=aH w3 _;clear_value w4;have l4:=aT qN;refine⟨kR k4,(C3.same k4).mW hs,sX k4,(C3.same k4).c2,lY k4,sX k4,?_⟩;intro w5;have k5:Kept Nil w4 w5:=(Kept.refl _ _).alloc _;have hm5:fc w5 w4.heap.size (fun _=>none):=fc.new w4;clear_value w5;have l5:=hm5.lt;have mH:=k4.trans k5 (fun _ _ h=>h);refine⟨kR mH,(C3.same mH).mW hs,sX mH,(C3.same mH).c2,lY mH,sX mH,?_⟩;rw [wm];refine Is.mk rfl ?_;intro w6;have k6:Kept Nil w5 w6:=(Kept.refl _ _).alloc _;have RF:w6.heap[w5.heap.size]? =some (.cells (cC ⟨s,G.score s+1,[],[]⟩ none 0 0 none 0 0++ #[.map (some w4.heap.size)]) dK (0,0)):=aH w5 _;clear_value w6;have sq:=mH.trans k6 (fun _ _ h=>h);have Wv:=mH.size;obtain⟨t1,t2⟩:=LX (q:=w5.heap.size) ((k5.trans k6 (fun _ _ h=>h)).heap qN (fun h=>h));refine⟨t1,?_⟩;intro w7;obtain⟨t3,t4⟩:=t2 w7 rfl;clear_value w7;exact go (sq.trans t4 (fun j hj e=>by omega)) (by omega) (by omega) (by omega) (by omega) (by omega) (by omega) (t4.heap RF (by omega)) ((hm5.same k6).aD t4 (by omega)) t3
end
end Go.Proofs.YtnboahlopghcjaaGreatDoor
