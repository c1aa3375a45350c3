import Derived.Test.YtfleamccglihoaaGreatDoorMP
import Derived.Test.YtfleamccglihoaaGreatDoorMG
open Go.IntKind (i64 u64)
set_option linter.unusedVariables false
namespace Go.Proofs.YtfleamccglihoaaGreatDoor
open Go.Proofs.Tryz
open Go Go.bR Go.RowKit
theorem BE:yU prog gA iq 1 1:=⟨by kernel_rfl,by kernel_rfl⟩
abbrev rY(l:List Bool):List Value:=l.map .bool
structure yV(w:World)(B q sm:Nat)(c:nN)(ov:HT->Option Nat)(A:Option Addr)(n cp:Nat)(E:Option Addr)(e ce:Nat):Prop where
 top:w.heap[q]? =some (.cells (cG c A n cp E e ce++ #[.map (some sm)]) dR (0,0))
 mg:bI w B A n cp c.merge
 bl:Row w B iq 1 E e ce (rY c.fz)
 ov:fG w sm (Km ov)
 qB:q<B
 sB:sm<B
 qs:q≠sm
 AE:∀j,a8 A=some j->a8 E≠some j
section
variable{w w':World}{B q sm:Nat}{c:nN}{ov:HT->Option Nat}{A E:Option Addr}{n cp e ce:Nat}{K:Value->World->Prop}
theorem yV.aG{S:Nat->Prop}(h:yV w B q sm c ov A n cp E e ce)(hk:Kept S w w')(h1:¬S q)(h2:¬S sm)(h3:∀j,B<=j->¬S j):yV w' B q sm c ov A n cp E e ce:=
 ⟨hk.heap h.top h1,Row.aG h.mg hk (fun j hj=>h3 j (Row.bE h.mg hj).1),Row.aG h.bl hk (fun j hj=>h3 j (Row.bE h.bl hj).1),h.ov.aG hk h2,h.qB,h.sB,h.qs,h.AE⟩
theorem yV.same(h:yV w B q sm c ov A n cp E e ce)(hk:Kept Nil w w'):yV w' B q sm c ov A n cp E e ce:=h.aG hk (fun h=>h) (fun h=>h) (fun _ _ h=>h)
theorem yV.f33(h:yV w B q sm c ov A n cp E e ce):w.cell? (((⟨q,0,none⟩:Addr).add 0).add 33)=some (.slice A n cp):=by rw [add_zero,bg,aA h.top];exact(fZ ..).2.1
theorem yV.adl(h:yV w B q sm c ov A n cp E e ce):∀j,a8 A=some j\/a8 E=some j->B<=j/\j<w.heap.size:=fun j hj=>by
 rcases hj with hj|hj
 ·obtain⟨h1,cur,h2⟩:=Row.bE h.mg hj;exact⟨h1,aT h2⟩
 ·obtain⟨h1,cur,h2⟩:=Row.bE h.bl hj;exact⟨h1,aT h2⟩
theorem qL(c:nN)(A:Option Addr)(n cp:Nat)(E:Option Addr)(e ce:Nat)(r:Array Value)(A':Option Addr)(n' wv:Nat):
 (cG c A n cp E e ce++r).setIfInBounds (0+33) (.slice A' n' wv)=cG c A' n' wv E e ce++r:=by
 have h0:c.iw.1.size=32:=c.iw.2.1;apply Array.ext';unfold cG;simp only [Array.toList_setIfInBounds,Array.toList_append,List.append_assoc];rw [List.set_append_right _ _ (by simp [h0])];simp [h0]
theorem qK(c:nN)(A:Option Addr)(n cp:Nat)(E:Option Addr)(e ce:Nat)(r:Array Value)(E':Option Addr)(n' wv:Nat):
 (cG c A n cp E e ce++r).setIfInBounds (0+34) (.slice E' n' wv)=cG c A n cp E' n' wv++r:=by
 have h0:c.iw.1.size=32:=c.iw.2.1;apply Array.ext';unfold cG;simp only [Array.toList_setIfInBounds,Array.toList_append,List.append_assoc];rw [List.set_append_right _ _ (by simp [h0])];simp [h0]
theorem vG(c:nN)(A:Option Addr)(n cp:Nat)(E:Option Addr)(e ce:Nat)(r:Array Value)(s:Nat):
 (cG c A n cp E e ce++r).setIfInBounds (0+32) (.int .u64 (s:Int))=cG {c with score:=s} A n cp E e ce++r:=by
 have h0:c.iw.1.size=32:=c.iw.2.1;apply Array.ext';unfold cG;simp only [Array.toList_setIfInBounds,Array.toList_append,List.append_assoc];rw [List.set_append_right _ _ (by simp [h0])];simp [h0]
theorem yV.Sp(h:yV w B q sm c ov A n cp E e ce)(hB:B<=w.heap.size)(hn:n<=100000){x:HT}{b:Nat}(hb:HS w (some ⟨b,0,none⟩) 1 [x]):
 ∃A' wv u,(Builtin.append_ #[aC,aC] aC #[.slice A n cp,.slice (some ⟨b,0,none⟩) 1 1]).run prog w=.ok (.slice A' (n+1) wv) u/\
  Kept (fun j=>B<=j) w u/\yV (u.setCell (((⟨q,0,none⟩:Addr).add 0).add 33) (.slice A' (n+1) wv)) B q sm {c with merge:=c.merge++ [x]} ov A' (n+1) wv E e ce/\
  Kept (fun j=>j=q\/B<=j) w (u.setCell (((⟨q,0,none⟩:Addr).add 0).add 33) (.slice A' (n+1) wv))/\Wr u (((⟨q,0,none⟩:Addr).add 0).add 33):=by
 obtain⟨A',wv,u,hr,fk,hg,hA⟩:=cD aC h.mg (cx:=1) hb (by omega) hB;have ku:Kept (fun j=>B<=j) w u:=(Kept.refl _ _).grown hg fun j hj _=>(Row.bE h.mg hj).1;have kA:Kept (fun j=>a8 A=some j) w u:=(Kept.refl _ _).grown hg fun j hj _=>hj;have qB:=h.qB;have sB:=h.sB;have jc:=ku.heap h.top (by omega);have Cx:Row u B iq 1 E e ce (rY c.fz):=Row.aG h.bl kA (fun j hj e=>h.AE j e hj);have qd:Kept (· =q) u (u.setCell (((⟨q,0,none⟩:Addr).add 0).add 33) (.slice A' (n+1) wv)):=by
  rw [add_zero,bg];exact Kept.setCell (S:=(· =q)) (Kept.refl _ u) (p:=⟨q,0+33,none⟩) (fun _=>rfl) _
 have gZ:∀ {X:Option Addr} {j:Nat},(∀k,a8 X=some k->B<=k)->a8 X=some j->¬j=q:=fun h hj e=>by have:=h _ hj;omega
 refine⟨A',wv,u,hr,ku,⟨?_,?_,?_,?_,qB,sB,h.qs,?_⟩,?_,?_⟩
 ·show(u.setCell (((⟨q,0,none⟩:Addr).add 0).add 33) (.slice A' (n+1) wv)).heap[q]? =_
  rw [add_zero,bg,dc jc,qL];rfl
 ·exact Row.aG fk qd (fun j hj=>gZ (fun k hk=>(Row.bE fk hk).1) hj)
 ·exact Row.aG Cx qd (fun j hj=>gZ (fun k hk=>(Row.bE Cx hk).1) hj)
 ·exact(h.ov.aG ku (by omega)).aG qd (fun e=>h.qs e.symm)
 ·intro j hj he
  rcases hA j hj with h1|h1
  ·exact h.AE j h1 he
  ·have:=(h.adl j (.inr he)).2;omega
 ·exact(ku.mono fun _ _ h=>.inr h).trans qd (fun _ _ e=>.inl e)
 ·rw [add_zero,bg]
  exact dO jc (by rw [Array.size_append,bf];simp)
end
structure mD(w:World)(B q sm bb:Nat)(c:nN)(ov:HT->Option Nat)(A:Option Addr)(n cp:Nat)(E:Option Addr)(e ce:Nat):Prop where
 top:w.heap[q]? =some (.cells (cG c A n cp E e ce++ #[.map (some sm)]) dR (0,0))
 mg:HS w A n c.merge
 mA:∀a,A=some a->a.block<B/\a.block≠q/\a.block≠sm/\a.block≠bb
 bl:Row w B iq 1 E e ce (rY c.fz)
 ov:fG w sm (Km ov)
 qB:q<B
 sB:sm<B
 bB:bb<B
 qs:q≠sm/\q≠bb/\sm≠bb
section
variable{w w':World}{B q sm bb:Nat}{c:nN}{ov:HT->Option Nat}{A E:Option Addr}{n cp e ce:Nat}{K:Value->World->Prop}
theorem mD.aG{S:Nat->Prop}(h:mD w B q sm bb c ov A n cp E e ce)(hk:Kept S w w')(h1:¬S q)(h2:¬S sm)(h3:∀j,B<=j->j<w.heap.size->¬S j)(h4:∀a,A=some a->¬S a.block):mD w' B q sm bb c ov A n cp E e ce:=
 ⟨hk.heap h.top h1,h.mg.aG hk h4,h.mA,Row.aG h.bl hk (fun j hj=>by obtain⟨g1,cur,g2⟩:=Row.bE h.bl hj;exact h3 j g1 (aT g2)),h.ov.aG hk h2,h.qB,h.sB,h.bB,h.qs⟩
theorem mD.same(h:mD w B q sm bb c ov A n cp E e ce)(hk:Kept Nil w w'):mD w' B q sm bb c ov A n cp E e ce:=h.aG hk (fun h=>h) (fun h=>h) (fun _ _ _ h=>h) (fun _ _ h=>h)
theorem mD.f32(h:mD w B q sm bb c ov A n cp E e ce):w.cell? (((⟨q,0,none⟩:Addr).add 0).add 32)=some (.int .u64 (c.score:Int)):=by rw [add_zero,bg,aA h.top];exact(fZ ..).1
theorem mD.f33(h:mD w B q sm bb c ov A n cp E e ce):w.cell? (((⟨q,0,none⟩:Addr).add 0).add 33)=some (.slice A n cp):=by rw [add_zero,bg,aA h.top];exact(fZ ..).2.1
theorem mD.f34(h:mD w B q sm bb c ov A n cp E e ce):w.cell? (((⟨q,0,none⟩:Addr).add 0).add 34)=some (.slice E e ce):=by rw [add_zero,bg,aA h.top];exact(fZ ..).2.2.1
theorem mD.f35(h:mD w B q sm bb c ov A n cp E e ce):w.cell? ((⟨q,0,none⟩:Addr).add 35)=some (.map (some sm)):=by rw [bg,aA h.top];exact(fZ ..).2.2.2
theorem mD.wr(h:mD w B q sm bb c ov A n cp E e ce){j:Nat}(hj:j<36):Wr w (((⟨q,0,none⟩:Addr).add 0).add j):=by
 rw [add_zero,bg];exact dO h.top (by rw [Array.size_append,bf];simp;omega)
theorem mD.Sc{h:mD w B q sm bb c ov A n cp E e ce}(j:Nat)(v:Value):Kept (· =q) w (w.setCell (((⟨q,0,none⟩:Addr).add 0).add j) v):=by
 rw [add_zero,bg];exact Kept.setCell (S:=(· =q)) (Kept.refl _ w) (p:=⟨q,0+j,none⟩) (fun _=>rfl) _
theorem mD.Hg(h:mD w B q sm bb c ov A n cp E e ce)(hB:B<=w.heap.size)(hn:e<=100000){x:Bool}{b:Nat}(hb:w.cell? ⟨b,0,none⟩=some (.bool x)):
 ∃E' rX u,(Builtin.append_ #[gA,gA] gA #[.slice E e ce,.slice (some ⟨b,0,none⟩) 1 1]).run prog w=.ok (.slice E' (e+1) rX) u/\
  Kept (fun j=>B<=j/\a8 E=some j) w u/\Wr u (((⟨q,0,none⟩:Addr).add 0).add 34)/\
  mD (u.setCell (((⟨q,0,none⟩:Addr).add 0).add 34) (.slice E' (e+1) rX)) B q sm bb {c with fz:=c.fz++ [x]} ov A n cp E' (e+1) rX/\
  Kept (fun j=>j=q\/a8 E=some j) w (u.setCell (((⟨q,0,none⟩:Addr).add 0).add 34) (.slice E' (e+1) rX))/\(∀j,a8 E'=some j->a8 E=some j\/w.heap.size<=j):=by
 obtain⟨E',rX,u,hr,fk,hg,hE⟩:=fE (P:=prog) (t:=gA) (bytes:=1) (ty:=gA) BE h.bl (a:=⟨b,0,none⟩) (m:=1) (cx:=1) (news:= [.bool x]) rfl (fun j v hj=>by
  cases j with
  |zero=>simp only [List.getElem?_cons_zero,Option.some.injEq]at hj;subst hj;rw [add_zero];exact hb
  |succ j=>simp at hj) (fun v hv=>by
  have:v=.bool x:=by simpa using hv
  subst this;rfl) (by omega) (by unfold maxLen;omega) hB
 have qB:=h.qB;have sB:=h.sB;have kE:Kept (fun j=>B<=j/\a8 E=some j) w u:=(Kept.refl _ _).grown hg fun j hj _=>⟨(Row.bE h.bl hj).1,hj⟩;have jc:=kE.heap h.top (by omega);have qd:Kept (· =q) u (u.setCell (((⟨q,0,none⟩:Addr).add 0).add 34) (.slice E' (e+1) rX)):=by
  rw [add_zero,bg];exact Kept.setCell (S:=(· =q)) (Kept.refl _ u) (p:=⟨q,0+34,none⟩) (fun _=>rfl) _
 refine⟨E',rX,u,hr,kE,?_,⟨?_,?_,h.mA,?_,?_,qB,sB,h.bB,h.qs⟩,?_,hE⟩
 ·rw [add_zero,bg]
  exact dO jc (by rw [Array.size_append,bf];simp)
 ·show(u.setCell (((⟨q,0,none⟩:Addr).add 0).add 34) (.slice E' (e+1) rX)).heap[q]? =_
  rw [add_zero,bg,dc jc,qK];rfl
 ·exact(h.mg.aG kE (fun a ha=>by have:=(h.mA a ha).1;omega)).aG qd (fun a ha=>(h.mA a ha).2.1)
 ·have e1:rY (c.fz++ [x])=rY c.fz++ [.bool x]:=by simp [rY]
  show Row _ B iq 1 E' (e+1) rX (rY (c.fz++ [x]))
  rw [e1];exact Row.aG fk qd (fun j hj=>by have:=(Row.bE fk hj).1;omega)
 ·exact(h.ov.aG kE (by omega)).aG qd (fun e=>h.qs.1 e.symm)
 ·exact(kE.mono fun _ _ h=>.inr h.2).trans qd (fun _ _ e=>.inl e)
theorem mD.Oc(h:mD w B q sm bb c ov A n cp E e ce)(s:Nat):
 mD (w.setCell (((⟨q,0,none⟩:Addr).add 0).add 32) (.int .u64 (s:Int))) B q sm bb {c with score:=s} ov A n cp E e ce/\Kept (· =q) w (w.setCell (((⟨q,0,none⟩:Addr).add 0).add 32) (.int .u64 (s:Int))):=by
 have qB:=h.qB;have qd:=mD.Sc (h:=h) 32 (.int .u64 (s:Int));refine⟨⟨?_,h.mg.aG qd (fun a ha=>(h.mA a ha).2.1),h.mA,Row.aG h.bl qd (fun j hj=>by have:=(Row.bE h.bl hj).1;omega),h.ov.aG qd (fun e=>h.qs.1 e.symm),h.qB,h.sB,h.bB,h.qs⟩,qd⟩;rw [add_zero,bg,dc h.top,vG]
theorem mD.note(h:mD w B q sm bb c ov A n cp E e ce)(b:HT)(n0:Nat):
 ∃u,(Instr.mapUpdate cu (.map (some sm)) (.agg b.1) (.int .i64 (n0:Int))).run prog w=.ok () u/\mD u B q sm bb c (fun y=>if y=b then some n0 else ov y) A n cp E e ce/\Kept (· =sm) w u:=by
 have sB:=h.sB;obtain⟨u,hr,hm,hk⟩:=h.ov.put rr b (.int .i64 (n0:Int));refine⟨u,hr,⟨hk.heap h.top h.qs.1,h.mg.aG hk (fun a ha=>(h.mA a ha).2.2.1),h.mA,Row.aG h.bl hk (fun j hj=>by have:=(Row.bE h.bl hj).1;omega),?_,h.qB,h.sB,h.bB,h.qs⟩,hk⟩;have e1:Km (fun y=>if y=b then some n0 else ov y)=fun x=>if x=b then some (.int .i64 (n0:Int))else Km ov x:=by
  funext y
  unfold Km;by_cases e:y=b
  ·simp only [if_pos e,Option.map_some]
  ·simp only [if_neg e]
 rw [e1];exact hm
end
noncomputable def kc(k:Nat)(G:GS)(s:HT)(l:List HT)(i:Nat):VS:=((cj G s l).take i).foldl (jB k G.D) ⟨G.world s++ [s],[]⟩
structure V2(y v:World)(k:Nat)(G:GS)(s:HT)(l:List HT)(base:HT->Nat)(q sm bb:Nat)(A:Option Addr)(n cp i:Nat):Prop where
 ex:∃(ov:HT->Option Nat) (E:Option Addr) (e ce:Nat) (Ab:Option Addr) (nb cb:Nat) (bl:List HT),
  mD v y.heap.size q sm bb ⟨s,G.score s+1+(kc k G s l i).bl.count true,cj G s l,(kc k G s l i).bl⟩ ov A n cp E e ce/\
  v.heap[bb]? =some (.cells #[.slice Ab nb cb] aC (0,0))/\bI v y.heap.size Ab nb cb bl/\(kc k G s l i).wd=G.world s++ [s]++bl/\(∀j,a8 Ab=some j->a8 E≠some j)/\
  OV G.D (kc k G s l i).wd ov base/\(kc k G s l i).wd.Nodup/\(∀z∈bl,z∈(cj G s l).take i)/\e=i
 kp:Kept (fun j=>j=q\/j=sm\/j=bb) y v
theorem mD.Hz{w w':World}{B q sm bb:Nat}{c:nN}{ov:HT->Option Nat}{A E:Option Addr}{n cp e ce:Nat}{S:Nat->Prop}(h:mD w B q sm bb c ov A n cp E e ce)(hk:Kept S w w')(h1:¬S q)(h2:¬S sm)(h3:∀j,a8 E=some j->¬S j)(h4:∀a,A=some a->¬S a.block):mD w' B q sm bb c ov A n cp E e ce:=
 ⟨hk.heap h.top h1,h.mg.aG hk h4,h.mA,Row.aG h.bl hk h3,h.ov.aG hk h2,h.qB,h.sB,h.bB,h.qs⟩
theorem y5{k:Nat}{G:GS}{s:HT}{l:List HT}{i:Nat}{x:HT}(hx:(cj G s l)[i]? =some x):kc k G s l (i+1)=jB k G.D (kc k G s l i) x:=by
 unfold kc;have e:(cj G s l).take (i+1)=(cj G s l).take i++ [x]:=by rw [List.take_add_one,hx];rfl
 rw [e,List.foldl_append];rfl
theorem Db(k:Nat)(G:GS)(s:HT)(l:List HT)(i:Nat)(hi:i<=(cj G s l).length):(kc k G s l i).bl.length=i:=by
 obtain⟨b,h1,h2⟩:=GL k G.D (G.world s++ [s]) ((cj G s l).take i);unfold kc;rw [h2];show b.length=i
 rw [h1,List.length_take];omega
theorem Dc(k:Nat)(G:GS)(s:HT)(l:List HT):kc k G s l (cj G s l).length=dE k G s l:=by
 unfold kc dE;rw [List.take_of_length_le (Nat.le_refl _)]
section
variable{y v w w':World}{F:Nat->Prop}{c k:Nat}{G:GS}{m:CM}{s:HT}{l ch:List HT}{bs bc bh q sm bb kb n cp:Nat}{A:Option Addr}{K:Value->World->Prop}
set_option maxHeartbeats 4000000 in
theorem Bt(C:CV y F c k G m)(hD:G.D.length<=5000)(qQ:k<=1000)(hs:s∈ids G.D)(hc:cr G.D G.P s ch)(hM:∀x∈cj G s l,x∈ids G.D)
 (V:VB y c s bs bc bh q sm (fun _=>none)) (MY:y.heap[kb]? =some (.cells #[.func (.func bU.id) #[] #[.pointer (some ⟨bs,0,none⟩),.pointer (some ⟨bc,0,none⟩),.pointer (some ⟨bh,0,none⟩)]] fj (0,0)))
 (gZ:∀j,(m.own c j\/F j\/j=bs\/j=bc\/j=bh\/j=kb)->j≠q/\j≠sm/\j≠bb)
 (h0:V2 y y k G s l (mF m.sz ch) q sm bb A n cp 0) (hn:n<=5000)
 (hK:∀v ov E e ce,mD v y.heap.size q sm bb (cI k G s l) ov A n cp E e ce->OV G.D (dE k G s l).wd ov (mF m.sz ch)->Kept (fun j=>j=q\/j=sm\/j=bb) y v->K (.pointer (some ⟨q,0,none⟩)) v):
 Holds none [] prog 153 (.loop (lB (bB (sR (sL (sR (sR (sR (sR (sR (sR (sR (sR (body ak.fn)))))))))))))) (ak.q2 K)
  [(3,.pointer (some ⟨bc,0,none⟩)),(6,.pointer none),(8,.pointer (some ⟨bs,0,none⟩)),(11,.pointer (some ⟨bb,0,none⟩)),(12,.func (.func ah.id) #[] #[.pointer (some ⟨bb,0,none⟩),.pointer (some ⟨bc,0,none⟩),.pointer (some ⟨bh,0,none⟩)]),(13,.pointer (some ⟨kb,0,none⟩)),(92,.slice A n cp),(93,.int .i64 (n:Int)),(94,.int .i64 0)] y:=by
 have W:=C.fy.W;have hmn:(cj G s l).Nodup:=(jv G s l).nodup;have UK:(cj G s l).length=n:=by obtain⟨_,_,_,_,_,_,_,_,h,_⟩:=h0.ex;exact h.mg.len
 have lbs:=aT V.hs;have lbc:=aT V.hc;have lbh:=aT V.hh;have lkb:=aT MY;have Yc:=gZ bs (.inr (.inr (.inl rfl)));have Ye:=gZ bc (.inr (.inr (.inr (.inl rfl))));have Yd:=gZ bh (.inr (.inr (.inr (.inr (.inl rfl)))));have fkb:=gZ kb (.inr (.inr (.inr (.inr (.inr rfl)))));refine ak.gC (I:=fun s0 v=>∃i:Nat,s0=(i:Int)/\i<=n/\V2 y v k G s l (mF m.sz ch) q sm bb A n cp i) (μ:=fun s0 _=>((n:Int)-s0).toNat) (s:=0) ⟨0,rfl,Nat.zero_le _,h0⟩ ?_;rintro s0 v ⟨i,rfl,hi,hV⟩;obtain⟨ov,E,e,ce,Ab,nb,cb,bl,hS,wo,fk,Rm,hAE,hO,eW,vh,hie⟩:=hV.ex;have kv:=hV.kp;have sv:=kv.size;refine Split.dec (fun jx=>?_) (fun gu=>?_)
 ·have dP:i<n:=by omega
  obtain⟨x,hx⟩:∃x,(cj G s l)[i]? =some x:=⟨_,List.getElem?_eq_getElem (by omega)⟩;have Ri:=hM x (List.mem_of_getElem? hx);have Xp:x∉(kc k G s l i).wd:=by
   rw [Rm];intro hm;obtain⟨_,g1,g2⟩:=iH.1 (List.mem_of_getElem? hx);rcases List.mem_append.1 hm with hm|hm
   ·rcases List.mem_append.1 hm with hm|hm
    ·exact g2 ((C.fy.wd s hs).2.1 x hm)
    ·exact g1 (by simpa using hm)
   ·have h1:=vh x hm
    obtain⟨j,hj⟩:=List.mem_iff_getElem?.1 h1;rw [List.getElem?_take]at hj;split at hj
    ·rename_i JG
     have h2:=(lgeS hj);have h3:=(lgeS hx);have:=(List.getElem_inj hmn).1 (h2.2.trans h3.2.symm);omega
    ·cases hj
  have qf:=y5 (k:=k) hx;refine hS.mg.load (i:=(i:Int)) (by omega) hx ?_;intro lV;obtain⟨sD,jz,jS⟩:=gR (w:=v) (z:=dZ.1) (cs:=x.1) (t:=ai) (by rw [x.2.1];rfl);refine⟨⟨x.2.1,x.2.one,fun j hj=>sD j (by rw [x.2.1];exact hj)⟩,?_⟩;intro iu
  replace jz:iu.heap[v.heap.size]? =some (.cells x.1 ai (0,0)):=jz
  replace jS:Kept Nil v iu:=jS
  clear_value iu;intro nn jw;have tj:Kept Nil iu nn:=(Kept.refl _ _).alloc _;have UE:fG nn iu.heap.size (fun _=>none):=fG.new iu;have mT:Kept Nil nn jw:=(Kept.refl _ _).alloc _;have P7:jw.heap[nn.heap.size]? =some (.cells #[.map none] cu (0,0)):=aI nn _;refine⟨dO P7 (by simp),?_⟩;intro wK;have Vk:wK.heap[nn.heap.size]? =some (.cells #[.map (some iu.heap.size)] cu (0,0)):=by
   show(jw.setCell ⟨nn.heap.size,0,none⟩ (.map (some iu.heap.size))).heap[nn.heap.size]? =_;rw [dc P7 0];rfl
  have HI:Kept (· =nn.heap.size) jw wK:=Kept.setCell (S:=(· =nn.heap.size)) (Kept.refl _ jw) (p:=⟨nn.heap.size,0,none⟩) (fun _=>rfl) _;clear_value wK;have s14:=jS.size;have s15:=tj.size;have l14:=aT jz;have l15:=UE.lt;have l16:=aT P7;have HN:Kept Nil iu wK:=⟨HI.os.trans (tj.tt mT).os,HI.tape.trans (tj.tt mT).tape,HI.output.trans (tj.tt mT).output,Nat.le_trans (tj.tt mT).size HI.size,fun j hj hn=>by rw [HI.block j (Nat.lt_of_lt_of_le hj (tj.tt mT).size) (by omega),(tj.tt mT).block j hj hn]⟩;have aaY:fG wK iu.heap.size (fun _=>none):=(UE.same mT).aG HI (by omega);have M7:=HN.heap jz (fun h=>h);clear_value jw nn;have KA:Kept Nil v wK:=jS.tt HN;have Fg:Kept (fun j=>j=q\/j=sm\/j=bb) y wK:=kv.trans KA (fun _ _ h=>h.elim);have Qx:=hS.same KA;have C17:CV wK F c k G m:=C.aG Fg (fun j hj e=>by have:=gZ j (.inl hj);omega) (fun j hj e=>by have:=gZ j (.inr (.inl hj));omega);have V17:VB wK c s bs bc bh q sm ov:=⟨Fg.heap V.hs (by omega),Fg.heap V.hc (by omega),Fg.heap V.hh (by omega),Qx.f35,Qx.ov⟩;have UR:=Fg.heap MY (by omega);have Ii:bI wK y.heap.size Ab nb cb bl:=Row.aG fk KA (fun _ _ h=>h);have Nh:=KA.heap wo (fun h=>h);refine⟨x.1,⟨x.2.1,Cells.bE M7⟩,?_⟩;have qB:=hS.qB;have sB:=hS.sB;have bB:=hS.bB;have IF:∀b∈(kc k G s l i).wd,rG ov (mF m.sz ch) b=(bM G.D (kc k G s l i).wd b).length:=hO.kn;have nz:=eW;rw [Rm]at nz;obtain⟨c1,c2,c3⟩:=LO C.fy (h:=x) hs hc nz;rw [<-Rm]at c2 c3;have VE:=fk.len;have Us:nb<=5000:=by
   have h1:=cM (m:=cj G s l) (List.nodup_append.1 nz).2.1 (fun z hz=>List.mem_of_mem_take (vh z hz));omega
  have QC:∀a,Ab=some a->a.block<iu.heap.size:=fun a ha=>by
   subst ha;obtain⟨_,cur,h1⟩:=Row.bE fk (k:=a.block) rfl;have:=aT h1;omega
  refine Ay (p:=⟨bs,bc,bh,q,sm,kb,nn.heap.size,iu.heap.size,0,0⟩) ⟨C17,V17,UR,Vk,(fun e=>by have:iu.heap.size<y.heap.size:=C.low _ (.inl e);omega),(fun e=>by have:iu.heap.size<y.heap.size:=C.low _ (.inr e);omega),(show bs≠iu.heap.size/\bc≠iu.heap.size/\bh≠iu.heap.size/\q≠iu.heap.size/\sm≠iu.heap.size/\kb≠iu.heap.size/\nn.heap.size≠iu.heap.size from⟨by omega,by omega,by omega,by omega,by omega,by omega,by omega⟩)⟩ hD qQ hs hc (h:=x) Nh (by show bb≠iu.heap.size;omega) Ii.hs (fun a ha=>by have:=QC a ha;show a.block≠iu.heap.size;omega) (by omega) (by
   show fG wK iu.heap.size _
   have e0:(fun y=>if y∈([]:List HT)then some (Value.int .i64 (rG ov (mF m.sz ch) y:Int))else none)=fun _=>none:=by funext y;simp
   rw [e0];exact aaY) c1 fun Em r hr hFr Bf=>⟨r,rfl,?_⟩
  replace Bf:Kept (· =iu.heap.size) wK Em:=Bf
  have M9:r=lG k G.D (kc k G s l i).wd x:=by rw [hr];exact I6 IF c2 c3
  have Wn:∀j,a8 E=some j->y.heap.size<=j/\j<v.heap.size:=fun j hj=>by obtain⟨g1,cur,g2⟩:=Row.bE hS.bl hj;exact⟨g1,aT g2⟩
  have IN:∀j,a8 Ab=some j->y.heap.size<=j/\j<v.heap.size:=fun j hj=>by obtain⟨g1,cur,g2⟩:=Row.bE fk hj;exact⟨g1,aT g2⟩
  have s17:=HN.size;have ack:=Qx.Hz Bf (by omega) (by omega) (fun j hj=>by have:=Wn j hj;omega) (fun a ha=>by have:=(hS.mA a ha).1;omega);have Ps:bI Em y.heap.size Ab nb cb bl:=Row.aG Ii Bf (fun j hj=>by have:=IN j hj;omega);have Kw:Kept (fun j=>j=q\/j=sm\/j=bb) y Em:=Fg.trans Bf (fun j hj e=>by omega);have VK:=Bf.heap Nh (by omega);have VA:=Bf.heap M7 (by omega);have abx:=Bf.heap Vk (by omega);intro yY;have HG:Kept Nil Em yY:=(Kept.refl _ _).drew;clear_value yY;have IJ:=ack.same HG;have zQ:=Kw.trans HG (fun _ _ h=>h.elim);have Af:∀ {u:World} {S:Nat->Prop},Kept S y u->¬S bs->u.cell? ⟨bs,0,none⟩=some (.pointer (some ⟨q,0,none⟩)):=fun ku hb=>by rw [aA (ku.heap V.hs hb)];rfl
  have Md:¬(bs=q\/bs=sm\/bs=bb):=by omega
  have s21:=zQ.size;refine⟨_,Af zQ Md,_,Af zQ Md,E,e,ce,IJ.f34,?_⟩;intro lQ;have qp:Kept Nil yY lQ:=(Kept.refl _ _).alloc _;have Ls:lQ.heap[yY.heap.size]? =some (.cells #[.bool r] iq (0,0)):=aI yY _;clear_value lQ;have II:=IJ.same qp;have vd:=zQ.trans qp (fun _ _ h=>h.elim);have W9:=vd.size;obtain⟨E',rX,u,TR,kE,ZO,IH,k5,hE5⟩:=II.Hg (by omega) (by omega) (x:=r) (b:=yY.heap.size) (by rw [aA Ls];rfl);have Y8:Kept (fun j=>j=q\/j=sm\/j=bb) y u:=vd.trans kE (fun j hj e=>by have:=Wn j e.2;omega);refine⟨II.f34,Af vd Md,Af vd Md,E',e+1,rX,u,TR,Af Y8 Md,ZO,?_⟩;intro vT
  replace IH:mD vT y.heap.size q sm bb _ ov A n cp E' (e+1) rX:=IH
  replace k5:Kept (fun j=>j=q\/a8 E=some j) lQ vT:=k5
  clear_value vT;have Ou:Kept (fun j=>j=q\/j=sm\/j=bb) y vT:=vd.trans k5 (fun j hj e=>by
   rcases e with e|e
   ·exact .inl e
   ·have:=Wn j e;omega)
  have HH:Kept (fun j=>j=q\/a8 E=some j) Em vT:=((HG.tt qp).mono fun _ _ h=>h.elim).tt k5;have adE:=(HG.tt qp).size;have s20:=Bf.size;have Ih:bI vT y.heap.size Ab nb cb bl:=Row.aG Ps HH (fun j hj e=>by
   have:=IN j hj;rcases e with e|e
   ·omega
   ·exact hAE j hj e)
  have Ng:=HH.heap VK (fun e=>by
   rcases e with e|e
   ·exact hS.qs.2.1 e.symm
   ·have:=Wn bb e;omega)
  have QD:∀j,a8 Ab=some j->a8 E'≠some j:=fun j hj he=>by
   rcases hE5 j he with h1|h1
   ·exact hAE j hj h1
   ·have:=IN j hj;omega
  have MH:∀z∈bl,z∈(cj G s l).take (i+1):=fun z hz=>by
   have h1:=vh z hz;rw [List.take_add_one];exact List.mem_append_left _ h1
  cases r with
  |false=>
   refine Split.yes rfl ?_;rw [dt (n:=(i:Int)) (by omega) (by omega)];have yh:kc k G s l (i+1)=⟨(kc k G s l i).wd,(kc k G s l i).bl++ [false]⟩:=by rw [qf,jB,<-M9];rfl
   refine⟨(i:Int)+1,rfl,⟨i+1,rfl,dP,⟨ov,E',e+1,rX,Ab,nb,cb,bl,?_,Ng,Ih,?_,QD,?_,?_,MH,by omega⟩,Ou⟩,by simp only;omega⟩
   ·rw [yh]
    simpa [List.count_append]using IH
   ·rw [yh];exact Rm
   ·rw [yh];exact hO
   ·rw [yh];exact eW
  |true=>
   refine Split.no rfl ?_;have Qz:=hFr rfl
   replace Qz:yJ Em iu.heap.size (rG ov (mF m.sz ch)) (oG G x bl ch):=Qz
   have cU:=(pK.1 hr.symm).2;have qR:=cM (m:=ids G.D) c1 (fun z hz=>by
    have h1:=(dT.1 ((c3 z).1 hz)).1;rw [Rm]at h1;rcases List.mem_append.1 h1 with h1|h1
    ·rcases List.mem_append.1 h1 with h1|h1
     ·exact(((C.fy.wd s hs).2.1 z h1).mem W).1
     ·have:z=s:=by simpa using h1
      subst this;exact hs
    ·exact hM z (List.mem_of_mem_take (vh z h1)))
   rw [gg]at qR;generalize jL:oG G x bl ch=kF at*;generalize aa5:rG ov (mF m.sz ch)=kn at*;have Pj:G.score s<=5000:=by
    have h1:=(C.fy.wd s hs).2.2;have h2:=cM (m:=ids G.D) (C.fy.wd s hs).1 (fun b hb=>(((C.fy.wd s hs).2.1 b hb).mem W).1);rw [gg]at h2;omega
   have abD:(kc k G s l i).bl.count true<=5000:=by
    have h1:=List.count_le_length (a:=true) (l:=(kc k G s l i).bl);rw [Db k G s l i (by omega)]at h1;omega
   generalize DL:G.score s+1+(kc k G s l i).bl.count true=sc at*;have ew:u64.wrap ((sc:Int)+(1:Int))=((sc+1:Nat):Int):=by
    rw [show(sc:Int)+1=((sc+1:Nat):Int)by omega];exact jJ (by omega)
   refine⟨_,Af Ou Md,_,IH.f32,IH.wr (by omega),?_⟩;intro tX rU;have aci:mD tX y.heap.size q sm bb ⟨s,sc+1,cj G s l,(kc k G s l i).bl++ [true]⟩ ov A n cp E' (e+1) rX:=by
    show mD (vT.setCell (((⟨q,0,none⟩:Addr).add 0).add 32) (.int .u64 (u64.wrap ((sc:Int)+(1:Int))))) _ _ _ _ _ _ _ _ _ _ _ _
    rw [ew];exact(IH.Oc (sc+1)).1
   have Gn:Kept (· =q) vT tX:=mD.Sc (h:=IH) 32 _;have BY:Kept Nil tX rU:=(Kept.refl _ _).drew;clear_value rU tX;have Cz:=aci.same BY;have DA:Kept (· =q) vT rU:=Gn.trans BY (fun _ _ h=>h.elim);have zP:=Ou.trans DA (fun j hj e=>.inl e);have DC:Kept (fun j=>j=q\/a8 E=some j) Em rU:=HH.trans DA (fun j hj e=>.inl e);have IX:∀j,v.heap.size<=j->¬(j=q\/a8 E=some j):=fun j hj e=>by
    rcases e with e|e
    ·omega
    ·have:=Wn j e;omega
   have M6:=DC.heap VA (IX _ (Nat.le_refl _));have Vj:=DC.heap abx (IX _ (by omega));have Wl:yJ rU iu.heap.size kn kF:=Qz.aG DC (IX _ (by omega));have PU:∀z,(if z∈kF then some (Value.int .i64 (kn z:Int))else none)≠none↔z∈kF:=fun z=>by
    by_cases hz:z∈kF
    ·rw [if_pos hz];exact⟨fun _=>hz,fun _ e=>by cases e⟩
    ·rw [if_neg hz];exact⟨fun e=>absurd rfl e,fun e=>absurd e hz⟩
   obtain⟨tD,aak,Wc,tJ⟩:=Cz.note x kF.length;have s33:=DC.size;have Za:=zP.trans tJ (fun j hj e=>.inr (.inl e));have acx:yJ tD iu.heap.size kn kF:=Wl.aG tJ (by omega);have abw:=tJ.heap Vj (by omega);have Vz:=tJ.heap M6 (by omega);have Pp:bI tD y.heap.size Ab nb cb bl:=Row.aG (Row.aG Ih DA (fun j hj e=>by have:=IN j hj;omega)) tJ (fun j hj e=>by have:=IN j hj;omega);have VH:=tJ.heap (DA.heap Ng (fun e=>hS.qs.2.1 e.symm)) (fun e=>hS.qs.2.2 e.symm);obtain⟨w38,Bn,aaj,hit,Rf⟩:=acx.range rr;have s36:=tJ.size;have s38:=Rf.size;refine⟨_,Af zP Md,some sm,Cz.f35,x.1,⟨x.2.1,Cells.bE M6⟩,some iu.heap.size,by rw [aA Vj];rfl,kF.length,Wl.len rr jI c1 PU,tD,aak,some iu.heap.size,by rw [aA abw];rfl,_,w38,aaj,?_⟩;refine ak.rv (I:=fun _ u=>∃left Bn Mc,oH u iu.heap.size tD.heap.size (fun z=>if z∈kF then some (Value.int .i64 (kn z:Int))else none) left Bn/\mD u y.heap.size q sm bb ⟨s,sc+1,cj G s l,(kc k G s l i).bl++ [true]⟩ Mc A n cp E' (e+1) rX/\
    (∀z,(left z->z∈kF)/\(z∈kF->¬left z->Mc z=some (kn z+1))/\((z∉kF\/left z)->Mc z=if z=x then some kF.length else ov z))/\Kept (fun j=>j=sm\/j=tD.heap.size) w38 u) (μ:=fun _ u=>u.rangeLeft iu.heap.size tD.heap.size) (s:=())
    ⟨_,Bn,_,hit,Wc.same Rf,fun z=>⟨fun hz=>(PU z).1 hz,fun hz hl=>absurd ((PU z).2 hz) hl,fun _=>rfl⟩,Kept.refl _ _⟩ ?_
   rintro s1 u3 ⟨left,aku,Mc,PQ,Qw,hinv,ku⟩;have YI:=ku.size;have lit:=PQ.lt;have ky3:Kept (fun j=>j=q\/j=sm\/j=bb) y u3:=(Za.trans Rf (fun _ _ h=>h.elim)).trans ku (fun j hj e=>by
    rcases e with e|e
    ·exact .inr (.inl e)
    ·omega)
   rcases PQ.next 0 with⟨h0',Un,jD⟩|⟨z,val,u4,acU,hl,hfz,jD,abz,aa7,cJ,k4⟩
   ·refine .inl ⟨u3,jD,?_⟩
    rw [aO,ak.xK];unfold ak.sP;have VI:=ku.heap (Rf.heap VH (fun h=>h)) (by have:=hS.qs;omega);have FK:=ku.heap (Rf.heap Vz (fun h=>h)) (by omega);have TT:bI u3 y.heap.size Ab nb cb bl:=Row.aG (Row.aG Pp Rf (fun _ _ h=>h)) ku (fun j hj e=>by have:=IN j hj;omega);refine⟨Ab,nb,cb,by rw [aA VI];rfl,x.1,⟨x.2.1,Cells.bE FK⟩,x.2.1,?_⟩;intro Js;have Re:Kept Nil u3 Js:=(Kept.refl _ _).alloc _;have ZJ:HS Js (some ⟨u3.heap.size,0,none⟩) 1 [x]:=iV u3 x;clear_value Js;have s50:=Re.size;have Pn:bI Js y.heap.size Ab nb cb bl:=Row.aG TT Re (fun _ _ h=>h);obtain⟨A6,c6,GH,Pu,L7,g51,acD⟩:=cD aC Pn (cx:=1) ZJ (by omega) (by omega);have Xk:Kept (fun j=>a8 Ab=some j) Js GH:=(Kept.refl _ _).grown g51 fun j hj _=>hj;have Nf:=Xk.heap (Re.heap VI (fun h=>h)) (fun e=>by have:=IN bb e;omega);refine⟨A6,nb+1,c6,GH,Pu,dO Nf (by simp),?_⟩;intro LY;have VG:LY.heap[bb]? =some (.cells #[.slice A6 (nb+1) c6] aC (0,0)):=by
     show(GH.setCell ⟨bb,0,none⟩ (.slice A6 (nb+1) c6)).heap[bb]? =_;rw [dc Nf 0];rfl
    have HA:Kept (· =bb) GH LY:=Kept.setCell (S:=(· =bb)) (Kept.refl _ GH) (p:=⟨bb,0,none⟩) (fun _=>rfl) _;clear_value LY;have v8:Kept (fun j=>a8 Ab=some j\/j=bb) u3 LY:=((Re.mono fun _ _ h=>h.elim).trans Xk (fun _ _ h=>.inl h):Kept (fun j=>a8 Ab=some j\/j=bb) u3 GH).trans HA (fun _ _ h=>.inr h);have ach:mD LY y.heap.size q sm bb ⟨s,sc+1,cj G s l,(kc k G s l i).bl++ [true]⟩ Mc A n cp E' (e+1) rX:=Qw.Hz v8
     (fun e=>e.elim (fun e=>by have:=IN q e;omega) (fun e=>hS.qs.2.1 e)) (fun e=>e.elim (fun e=>by have:=IN sm e;omega) (fun e=>hS.qs.2.2 e))
     (fun j hj e=>e.elim (fun e=>QD j e hj) (fun e=>by have:=(Row.bE Qw.bl hj).1;omega)) (fun a ha e=>e.elim (fun e=>by have:=IN _ e;have:=(hS.mA a ha).1;omega) (fun e=>(hS.mA a ha).2.2.2 e))
    have sX:bI LY y.heap.size A6 (nb+1) c6 (bl++ [x]):=Row.aG L7 HA (fun j hj e=>by have:=(Row.bE L7 hj).1;omega);rw [dt (n:=(i:Int)) (by omega) (by omega)];have yh:kc k G s l (i+1)=⟨(kc k G s l i).wd++ [x],(kc k G s l i).bl++ [true]⟩:=by rw [qf,jB,<-M9];rfl
    have aaG:Mc=zA G.D (kc k G s l i).wd ov (mF m.sz ch) x:=by
     funext z
     unfold zA;rw [aa5];by_cases hz:z∈kF
     ·rw [if_pos ((c3 z).1 hz)]
      exact(hinv z).2.1 hz (Un z)
     ·rw [if_neg (fun e=>hz ((c3 z).2 e)),(hinv z).2.2 (.inl hz),c2]
    refine⟨(i:Int)+1,rfl,⟨i+1,rfl,dP,⟨Mc,E',e+1,rX,A6,nb+1,c6,bl++ [x],?_,VG,sX,?_,?_,?_,?_,?_,by omega⟩,?_⟩,by simp only;omega⟩
    ·rw [yh]
     have ec:G.score s+1+((kc k G s l i).bl++ [true]).count true=sc+1:=by rw [List.count_append,<-DL];simp;omega
     show mD LY y.heap.size q sm bb ⟨s,G.score s+1+((kc k G s l i).bl++ [true]).count true,cj G s l,(kc k G s l i).bl++ [true]⟩ Mc A n cp E' (e+1) rX
     rw [ec];exact ach
    ·rw [yh]
     show(kc k G s l i).wd++ [x]=_;rw [Rm,List.append_assoc]
    ·intro j hj he
     rcases acD j hj with h1|h1
     ·exact QD j h1 he
     ·obtain⟨_,cur,h2⟩:=Row.bE Qw.bl he
      have:=aT h2;omega
    ·rw [yh,aaG]
     exact hO.step Xp
    ·rw [yh]
     exact List.nodup_append.2 ⟨eW,by simp,fun a ha b hb e=>by
      have:b=x:=by simpa using hb
      subst this;subst e;exact Xp ha⟩
    ·intro z hz
     rcases List.mem_append.1 hz with hz|hz
     ·exact MH z hz
     ·have:z=x:=by simpa using hz
      subst this;rw [List.take_add_one,hx];simp
    ·exact ky3.trans v8 (fun j hj e=>by
      rcases e with e|e
      ·have:=IN j e;omega
      ·exact .inr (.inr e))
   ·have ZE:=(hinv z).1 hl
    rw [if_pos ZE]at hfz;cases hfz;have hkz:=cU z ZE;refine .inr ⟨_,_,u4,jD,z.1,(kn z:Int),abz,?_⟩;intro Jr;obtain⟨Pa,An,yn⟩:=gR (w:=u4) (z:=dZ.1) (cs:=z.1) (t:=ai) (by rw [z.2.1];rfl);refine⟨⟨z.2.1,z.2.one,fun j hj=>Pa j (by rw [z.2.1];exact hj)⟩,?_⟩;intro W7 Q0
    replace An:W7.heap[u4.heap.size]? =some (.cells z.1 ai (0,0)):=An
    replace yn:Kept Nil u4 W7:=yn
    have Xg:Kept Nil W7 Q0:=(Kept.refl _ _).drew;clear_value Q0 W7;have abV:=Xg.heap An (fun h=>h);have Mp:=yn.tt Xg;have Dx:Kept (· =tD.heap.size) u3 Q0:=k4.trans Mp (fun _ _ h=>h.elim);have hE3:∀j,a8 E'=some j->j≠tD.heap.size:=fun j hj e=>by
     obtain⟨_,cur,h2⟩:=Row.bE Wc.bl hj;have:=aT h2;omega
    have Wa:=Qw.Hz Dx (by omega) (by omega) (fun j hj e=>hE3 j hj e) (fun a ha e=>by have:=(hS.mA a ha).1;omega);have Y9:Kept (fun j=>j=q\/j=sm\/j=bb) y Q0:=ky3.trans Dx (fun j hj e=>by omega);have MZ:=aa7.aG Mp (fun h=>h) (fun h=>h);obtain⟨Es,T4,We,B8⟩:=Wa.note z (kn z+1);have ekz:i64.wrap ((kn z:Int)+(1:Int))=((kn z+1:Nat):Int):=by rw [dt (n:=(kn z:Int)) (by omega) (by omega)];omega
    have s3:=Dx.size;refine⟨_,Af Y9 Md,some sm,Wa.f35,z.1,⟨z.2.1,Cells.bE abV⟩,Es,by rw [ekz];exact T4,?_⟩;refine⟨(),rfl,⟨_,acU,_,MZ.aG B8 (by omega) (by omega),We,fun y'=>?_,?_⟩,?_⟩
    ·obtain⟨i1,i2,i3⟩:=hinv y'
     refine⟨fun h=>i1 h.1,fun h1 h2=>?_,fun h=>?_⟩
     ·by_cases e:y'=z
      ·subst e;simp only [if_true]
      ·simp only [if_neg e]
       exact i2 h1 (fun h=>h2 ⟨h,e⟩)
     ·have e:y'≠z:=by
       rcases h with h|h
       ·exact fun e=>h (by rw [e];exact ZE)
       ·exact h.2
      simp only [if_neg e];exact i3 (h.imp_right fun h=>h.1)
    ·exact(ku.trans Dx (fun j hj e=>.inr e)).trans B8 (fun j hj e=>.inl e)
    ·show Es.rangeLeft iu.heap.size tD.heap.size<u3.rangeLeft iu.heap.size tD.heap.size
     rw [PQ.left_eq,(MZ.aG B8 (by omega) (by omega)).left_eq];exact cJ
 ·rw [aO,ak.jA]
  have:i=n:=by omega
  subst this;have e1:=Dc k G s l;rw [UK]at e1;rw [e1]at hS hO;have Z3:v.heap[bs]? =some (.cells #[.pointer (some ⟨q,0,none⟩)] fg (0,0)):=kv.heap V.hs (by omega);exact⟨some ⟨q,0,none⟩,by rw [aA Z3];rfl,hK v ov E e ce hS hO kv⟩
end
def Ee(N:Nat):Prop:=∀ {w:World} {F:Nat->Prop} {c k:Nat} {G:GS} {m:CM} {B:Nat} {A:Option Addr} {n cx:Nat} {l:List HT} {K:Value->World->Prop},CV w F c k G m->bI w B A n cx l->n<=N->l.Nodup->(∀x∈l,x∈ids G.D)->
 (∀j,a8 A=some j->¬m.own c j/\¬F j)->(∀l' w',SO G l'->(∀x,x∈l'↔x∈l)->bI w' B A n cx l'->Kept (fun j=>a8 A=some j) w w'->K (.tuple #[]) w')->
 bk prog iP.id #[.slice A n cx,.func (.func bt.id) #[.pointer (some ⟨c,0,none⟩)] #[]] w K
section
variable{y v w w':World}{F:Nat->Prop}{c k:Nat}{G:GS}{m:CM}{s:HT}{l ch:List HT}{bs bc bh q sm nL cL:Nat}{AL:Option Addr}{K:Value->World->Prop}
set_option maxHeartbeats 4000000 in
theorem Bu{N:Nat}(Ad:Ee N)(hN:(pw G.D s l).length<=N)(C:CV y F c k G m)(hD:G.D.length<=5000)(qQ:k<=1000)(hs:s∈ids G.D)(hc:cr G.D G.P s ch)(hl:∀x∈l,x∈ids G.D)
 (V:VB y c s bs bc bh q sm (fun _=>none)) (hS:yV y y.heap.size q sm ⟨s,G.score s+1,[],[]⟩ (fun _=>none) none 0 0 none 0 0)
 (hL:HS y AL nL (di (du G.D l++l))) (hAL:∀a,AL=some a->a.block≠q)
 (gZ:∀j,(m.own c j\/F j\/j=bs\/j=bc\/j=bh)->j≠q/\j≠sm)
 (hK:∀v B bb ov A n cp E e ce,mD v B q sm bb (cI k G s l) ov A n cp E e ce->OV G.D (dE k G s l).wd ov (mF m.sz ch)->(∀a,A=some a->y.heap.size<=a.block)->(y.heap.size<=B/\B<=v.heap.size)->Kept (fun j=>j=q\/j=sm) y v->K (.pointer (some ⟨q,0,none⟩)) v):
 Holds none [] prog 153 (.loop (lB (bB (sR (sL (sR (sR (sR (body ak.fn))))))))) (ak.q1 K)
  [(3,.pointer (some ⟨bc,0,none⟩)),(4,.pointer (some ⟨bh,0,none⟩)),(6,.pointer none),(8,.pointer (some ⟨bs,0,none⟩)),(46,.slice AL nL cL),(47,.int .i64 (nL:Int)),(48,.int .i64 0)] y:=by
 have W:=C.fy.W;have lbs:=aT V.hs;have lbc:=aT V.hc;have lbh:=aT V.hh;have Yc:=gZ bs (.inr (.inr (.inl rfl)));have Ye:=gZ bc (.inr (.inr (.inr (.inl rfl))));have Yd:=gZ bh (.inr (.inr (.inr (.inr rfl))));have afr:=hL.len;have hLi:∀x∈di (du G.D l++l),x∈ids G.D:=fun x hx=>by
  rcases List.mem_append.1 (dd.1 hx)with h|h
  ·exact(jb.1 h).1
  ·exact hl x h
 have hLn:nL<=5000:=by
  have:=cM (ir _).nodup hLi;rw [gg]at this;omega
 generalize hLL:di (du G.D l++l)=L at*;refine ak.b9 (I:=fun s0 v=>∃i:Nat,s0=(i:Int)/\i<=nL/\(∃A n cp,yV v y.heap.size q sm ⟨s,G.score s+1,(L.take i).filter fun h=>decide (h≠s/\¬dN G.D h s),[]⟩ (fun _=>none) A n cp none 0 0)/\Kept (· =q) y v) (μ:=fun s0 _=>((nL:Int)-s0).toNat) (s:=0) ⟨0,rfl,Nat.zero_le _,⟨none,0,0,hS⟩,Kept.refl _ _⟩ ?_;rintro s0 v ⟨i,rfl,hi,⟨A,n,cp,Lw⟩,kv⟩;have sv:=kv.size;have UL:=bI.len Lw.mg;have hnA:n<=5000:=by
  have h1:=List.length_filter_le (fun h=>decide (h≠s/\¬dN G.D h s)) (L.take i);have h2:=List.length_take_le i L;have h3:((L.take i).filter fun h=>decide (h≠s/\¬dN G.D h s)).length=n:=UL;omega
 refine Split.dec (fun jx=>?_) (fun gu=>?_)
 ·have dP:i<nL:=by omega
  obtain⟨x,hx⟩:∃x,L[i]? =some x:=⟨_,List.getElem?_eq_getElem (by omega)⟩;have FU:L.take (i+1)=L.take i++ [x]:=by rw [List.take_add_one,hx];rfl
  have hLv:HS v AL nL L:=hL.aG kv hAL;refine hLv.load (i:=(i:Int)) (by omega) hx ?_;intro lV;obtain⟨sD,jz,jS⟩:=gR (w:=v) (z:=dZ.1) (cs:=x.1) (t:=ai) (by rw [x.2.1];rfl);refine⟨⟨x.2.1,x.2.one,fun j hj=>sD j (by rw [x.2.1];exact hj)⟩,?_⟩;intro iu nn
  replace jz:iu.heap[v.heap.size]? =some (.cells x.1 ai (0,0)):=jz
  replace jS:Kept Nil v iu:=jS
  have tj:Kept Nil iu nn:=(Kept.refl _ _).drew;clear_value nn iu;have ID:=tj.heap jz (fun h=>h);have Oz:=jS.tt tj;have Fh:Kept (· =q) y nn:=kv.trans Oz (fun _ _ h=>h.elim);have C15:CV nn F c k G m:=C.aG Fh (fun j hj e=>(gZ j (.inl hj)).1 e) (fun j hj e=>(gZ j (.inr (.inl hj))).1 e);have hcy:∀ {u:World},Kept (· =q) y u->u.cell? ⟨bc,0,none⟩=some (.pointer (some ⟨c,0,none⟩)):=fun ku=>by rw [aA (ku.heap V.hc Ye.1)];rfl
  have TJ:∀ {u:World},Kept (· =q) y u->u.cell? ⟨bs,0,none⟩=some (.pointer (some ⟨q,0,none⟩)):=fun ku=>by rw [aA (ku.heap V.hs Yc.1)];rfl
  have next:∀ {u:World} {A':Option Addr} {n' wv:Nat},yV u y.heap.size q sm ⟨s,G.score s+1,(L.take (i+1)).filter fun h=>decide (h≠s/\¬dN G.D h s),[]⟩ (fun _=>none) A' n' wv none 0 0->Kept (· =q) y u->
   ∃s1:Int,i64.wrap ((i:Int)+(1:Int))=s1/\(∃i':Nat,s1=(i':Int)/\i'<=nL/\(∃A n cp,yV u y.heap.size q sm ⟨s,G.score s+1,(L.take i').filter fun h=>decide (h≠s/\¬dN G.D h s),[]⟩ (fun _=>none) A n cp none 0 0)/\Kept (· =q) y u)/\((nL:Int)-s1).toNat<((nL:Int)-(i:Int)).toNat:=fun h1 h2=>by
   rw [dt (n:=(i:Int)) (by omega) (by omega)];exact⟨(i:Int)+1,rfl,⟨i+1,rfl,dP,⟨_,_,_,h1⟩,h2⟩,by omega⟩
  refine⟨x.1,⟨x.2.1,Cells.bE ID⟩,s.1,⟨s.2.1,Cells.bE (Fh.heap V.hh Yd.1)⟩,⟨x.2.ints,s.2.ints⟩,?_⟩;rw [dH];by_cases KS:x=s
  ·refine Split.no (by rw [decide_eq_true KS];rfl) ?_
   obtain⟨s1,e1,e2,e3⟩:=next (u:=nn) (by
    rw [FU,List.filter_append];have: [x].filter (fun h=>decide (h≠s/\¬dN G.D h s))= []:=by rw [List.filter_cons_of_neg (by simp [KS])];rfl
    rw [this,List.append_nil];exact Lw.same Oz) Fh
   rw [e1];exact⟨s1,rfl,e2,e3⟩
  ·refine Split.yes (by rw [decide_eq_false KS];rfl) ⟨_,hcy Fh,_,C15.c1,x.1,⟨x.2.1,Cells.bE ID⟩,s.1,⟨s.2.1,Cells.bE (Fh.heap V.hh Yd.1)⟩,?_⟩
   obtain⟨mx,X15,_⟩:=C15.X;refine lL X15 hD x s fun Em r hr Bf=>⟨r,rfl,?_⟩;have Kw:Kept (· =q) y Em:=Fh.trans Bf (fun _ _ h=>h.elim);have SY:=Oz.tt Bf;cases r with
   |true=>
    refine Split.no rfl ?_;obtain⟨s1,e1,e2,e3⟩:=next (u:=Em) (by
     rw [FU,List.filter_append];have: [x].filter (fun h=>decide (h≠s/\¬dN G.D h s))= []:=by rw [List.filter_cons_of_neg (by simp [hr.1 rfl])];rfl
     rw [this,List.append_nil];exact Lw.same SY) Kw
    rw [e1];exact⟨s1,rfl,e2,e3⟩
   |false=>
    refine Split.yes rfl ?_;intro yY;have HG:Kept Nil Em yY:=(Kept.refl _ _).drew;clear_value yY;have Zg:=SY.tt HG;have zQ:Kept (· =q) y yY:=Kw.trans HG (fun _ _ h=>h.elim);have IJ:=Lw.same Zg;refine⟨_,TJ zQ,_,TJ zQ,A,n,cp,IJ.f33,x.1,⟨x.2.1,Cells.bE ((Bf.tt HG).heap ID (fun h=>h))⟩,x.2.1,?_⟩;intro lQ;have qp:Kept Nil yY lQ:=(Kept.refl _ _).alloc _;have ZN:HS lQ (some ⟨yY.heap.size,0,none⟩) 1 [x]:=iV yY x;clear_value lQ;have II:=IJ.same qp;have vd:Kept (· =q) y lQ:=zQ.trans qp (fun _ _ h=>h.elim);have W9:=vd.size;obtain⟨A',wv,u,TR,ku,IH,k5,ZQ⟩:=II.Sp W9 (by omega) ZN;have Y8:Kept (· =q) y u:=vd.trans ku (fun j hj e=>by omega);refine⟨II.f33,TJ vd,TJ vd,A',n+1,wv,u,TR,TJ Y8,ZQ,?_⟩;intro vT
    replace IH:yV vT y.heap.size q sm _ (fun _=>none) A' (n+1) wv none 0 0:=IH
    replace k5:Kept (fun j=>j=q\/y.heap.size<=j) lQ vT:=k5
    clear_value vT;obtain⟨s1,e1,e2,e3⟩:=next (u:=vT) (by
     rw [FU,List.filter_append];have: [x].filter (fun h=>decide (h≠s/\¬dN G.D h s))= [x]:=by rw [List.filter_cons_of_pos (by simp only [decide_eq_true_eq];exact⟨KS,fun e=>by have:=hr.2 e;cases this⟩)];rfl
     rw [this];exact IH) (vd.trans k5 (fun j hj e=>by
      rcases e with e|e
      ·exact e
      ·omega))
    rw [e1];exact⟨s1,rfl,e2,e3⟩
 ·rw [aO,ak.df]
  have fC:i=nL:=by omega
  subst fC;rw [List.take_of_length_le (by omega)]at Lw;unfold ak.cH;intro rU;have BY:Kept Nil v rU:=(Kept.refl _ _).drew;clear_value rU;have Cz:=Lw.same BY;have zP:Kept (· =q) y rU:=kv.trans BY (fun _ _ h=>h.elim);have C33:CV rU F c k G m:=C.aG zP (fun j hj e=>(gZ j (.inl hj)).1 e) (fun j hj e=>(gZ j (.inr (.inl hj))).1 e);have efl:(L.filter fun h=>decide (h≠s/\¬dN G.D h s))=pw G.D s l:=by unfold pw;rw [hLL]
  have Cj:bI rU y.heap.size A n cp (pw G.D s l):=by rw [<-efl];exact Cz.mg
  have QC:∀j,a8 A=some j->y.heap.size<=j/\j<rU.heap.size:=fun j hj=>by obtain⟨g1,cur,g2⟩:=Row.bE Cj hj;exact⟨g1,aT g2⟩
  refine⟨some ⟨q,0,none⟩,by rw [aA (zP.heap V.hs Yc.1)];rfl,A,n,cp,Cz.f33,some ⟨c,0,none⟩,by rw [aA (zP.heap V.hc Ye.1)];rfl,?_⟩;refine Ad C33 Cj (by have:=bI.len Cj;omega) (qy _ _ _) (fun x hx=>hLi x (by rw [<-efl]at hx;exact(List.mem_filter.1 hx).1)) (fun j hj=>⟨fun e=>by have:=C.low j (.inl e);have:=(QC j hj).1;omega,fun e=>by have:=C.low j (.inr e);have:=(QC j hj).1;omega⟩) fun l' nK Cf iI Ig Be=>⟨rfl,?_⟩;have el:l'=cj G s l:=nt Cf iI;subst el;have qB:=Lw.qB;have sB:=Lw.sB;have hqs:=Lw.qs;have s33:=zP.size;have SJ:Kept (· =q) y nK:=zP.trans Be (fun j hj e=>by have:=(QC j e).1;omega);have Pf:=Be.heap Cz.top (fun e=>by have:=(QC q e).1;omega);have Ud:=Cz.ov.aG Be (fun e=>by have:=(QC sm e).1;omega);intro jO tD;have nM:Kept Nil nK jO:=(Kept.refl _ _).alloc _;have VP:jO.heap[nK.heap.size]? =some (.cells #[.slice none 0 0] aC (0,0)):=aI nK _;have tJ:Kept Nil jO tD:=(Kept.refl _ _).alloc _;have PO:tD.heap[jO.heap.size]? =some (.cells #[.nilFunc] fj (0,0)):=aI jO _;refine⟨dO PO (by simp),?_⟩;intro wJ;have UT:wJ.heap[jO.heap.size]? =some (.cells #[.func (.func bU.id) #[] #[.pointer (some ⟨bs,0,none⟩),.pointer (some ⟨bc,0,none⟩),.pointer (some ⟨bh,0,none⟩)]] fj (0,0)):=by
   show(tD.setCell ⟨jO.heap.size,0,none⟩ _).heap[jO.heap.size]? =_;rw [dc PO 0];rfl
  have Fq:Kept (· =jO.heap.size) tD wJ:=Kept.setCell (S:=(· =jO.heap.size)) (Kept.refl _ tD) (p:=⟨jO.heap.size,0,none⟩) (fun _=>rfl) _;clear_value wJ;have xi:=nM.tt tJ;have YP:=nM.size;have s36:=tJ.size;have l35:=aT VP;have l36:=aT PO;have Dz:Kept Nil nK wJ:=⟨Fq.os.trans xi.os,Fq.tape.trans xi.tape,Fq.output.trans xi.output,Nat.le_trans xi.size Fq.size,fun j hj hn=>by rw [Fq.block j (Nat.lt_of_lt_of_le hj xi.size) (by omega),xi.block j hj hn]⟩;have ab1:=Fq.heap (tJ.heap VP (fun h=>h)) (by omega);have l37:=aT UT;clear_value tD jO;have Ff:Kept (· =q) y wJ:=SJ.trans Dz (fun _ _ h=>h.elim);have s34:=SJ.size;have s37:=Ff.size;have C37:CV wJ F c k G m:=C.aG Ff (fun j hj e=>(gZ j (.inl hj)).1 e) (fun j hj e=>(gZ j (.inr (.inl hj))).1 e);have H6:=Dz.heap Pf (fun h=>h);have MQ:=Ud.aG Dz (fun h=>h);have Po:bI wJ y.heap.size A n cp (cj G s l):=Row.aG Ig Dz (fun _ _ h=>h);have V37:VB wJ c s bs bc bh q sm (fun _=>none):=⟨Ff.heap V.hs Yc.1,Ff.heap V.hc Ye.1,Ff.heap V.hh Yd.1,by rw [bg,aA H6];exact(fZ ..).2.2.2,MQ⟩;have X0:∀a,A=some a->y.heap.size<=a.block/\a.block<nK.heap.size:=fun a ha=>by
   subst ha;obtain⟨g1,cur,g2⟩:=Row.bE Ig (k:=a.block) rfl;exact⟨g1,aT g2⟩
  have Wb:mD wJ wJ.heap.size q sm nK.heap.size ⟨s,G.score s+1,cj G s l,[]⟩ (fun _=>none) A n cp none 0 0:=
   ⟨H6,Po.hs,fun a ha=>by have:=X0 a ha;exact⟨by omega,by omega,by omega,by omega⟩,Row.nil _ _ _ _,MQ,by omega,by omega,by omega,⟨hqs,by omega,by omega⟩⟩
  refine⟨some ⟨q,0,none⟩,by rw [aA V37.hs];rfl,A,n,cp,Wb.f33,?_⟩;have TE:(kc k G s l 0)=⟨G.world s++ [s],[]⟩:=rfl;refine Bt (l:=l) C37 hD qQ hs hc (fun x hx=>hLi x (by
   have h1:=(iI x).1 hx;rw [<-efl]at h1;exact(List.mem_filter.1 h1).1)) V37 UT (fun j hj=>?_) ⟨⟨fun _=>none,none,0,0,none,0,0,[],Wb,ab1,bI.nil _ _,by rw [TE,List.append_nil],fun j hj=>by simp [a8]at hj,by rw [TE];exact C.Z |>.ov hs hc,?_,fun z hz=>by simp at hz,rfl⟩,Kept.refl _ _⟩ hnA fun v' ov E e ce h1 h2 h3=>?_
  ·have h1:j<y.heap.size\/j=jO.heap.size:=by
    rcases hj with h|h|h|h|h|h
    ·exact .inl (C.low j (.inl h))
    ·exact .inl (C.low j (.inr h))
    ·exact .inl (by omega)
    ·exact .inl (by omega)
    ·exact .inl (by omega)
    ·exact .inr h
   rcases h1 with h1|h1
   ·have h2:j≠q/\j≠sm:=by
     rcases hj with h|h|h|h|h|h
     ·exact gZ j (.inl h)
     ·exact gZ j (.inr (.inl h))
     ·exact gZ j (.inr (.inr (.inl h)))
     ·exact gZ j (.inr (.inr (.inr (.inl h))))
     ·exact gZ j (.inr (.inr (.inr (.inr h))))
     ·omega
    exact⟨h2.1,h2.2,by omega⟩
   ·exact⟨by omega,by omega,by omega⟩
  ·rw [TE]
   obtain⟨g1,g2,_⟩:=C.fy.wd s hs;exact List.nodup_append.2 ⟨g1,by simp,fun a ha b hb e=>by
    have:b=s:=by simpa using hb
    subst this;subst e;exact dN.irrefl W a (g2 a ha)⟩
  ·refine hK v' wJ.heap.size nK.heap.size ov A n cp E e ce h1 h2 (fun a ha=>(X0 a ha).1) ⟨s37,h3.size⟩ ?_
   exact(Ff.mono fun _ _ h=>.inl h).trans h3 (fun j hj e=>by
    rcases e with e|e|e
    ·exact .inl e
    ·exact .inr e
    ·omega)
end
theorem QN:RK prog bn=some ([(0,32),(32,1),(33,1),(34,1)],List.replicate 32 (.int .u8 0)++ [.int .u64 0,.slice none 0 0,.slice none 0 0]):=by kernel_rfl
theorem vK(h:HT)(z:Int):prog.built bn [(0,.agg h.1),(1,.int .u64 z)]=some (h.1++ #[.int .u64 z,.slice none 0 0,.slice none 0 0]):=by
 have hs:=h.2.1;rw [nC QN,iM (off:=0) (size:=32) rfl (by simpa [Value.cells]using hs) (by simp),iM (off:=32) (size:=1) rfl rfl (by
  rw [List.size_toArray,lX (by simp [Value.cells,hs])];simp)]
 simp only [Instr.fill,Option.some.injEq];apply Array.ext';unfold gK;simp [Value.cells,hs];rw [List.drop_append];simp [hs]
theorem LQ:RK prog dR=some ([(0,35),(35,1)],List.replicate 32 (.int .u8 0)++ [.int .u64 0,.slice none 0 0,.slice none 0 0,.map none]):=by kernel_rfl
theorem xE(c:nN)(sm:Option Nat):prog.built dR [(0,.agg (cG c none 0 0 none 0 0)),(1,.map sm)]=some (cG c none 0 0 none 0 0++ #[.map sm]):=by
 have hs:=bf c none 0 0 none 0 0;rw [nC LQ,iM (off:=0) (size:=35) rfl (by simpa [Value.cells]using hs) (by simp),iM (off:=35) (size:=1) rfl rfl (by
  rw [List.size_toArray,lX (by simp [Value.cells,hs])];simp)]
 simp only [Instr.fill,Option.some.injEq];apply Array.ext';unfold gK;simp [Value.cells,hs]
section
variable{g1 v w w':World}{F:Nat->Prop}{c k:Nat}{G:GS}{m:CM}{s:HT}{l ch:List HT}{bs bc bh q sm n cx:Nat}{A:Option Addr}{K:Value->World->Prop}
theorem JU{N:Nat}(Ad:Ee N)(hN:(pw G.D s l).length<=N)(C:CV g1 F c k G m)(hT:tT g1)(hD:G.D.length<=5000)(qQ:k<=1000)(hs:s∈ids G.D)(hc:cr G.D G.P s ch)(hl:∀x∈l,x∈ids G.D)(Gr:HS g1 A n l)(hn:n<=5000)
 (V:VB g1 c s bs bc bh q sm (fun _=>none)) (jc:g1.heap[q]? =some (.cells (cG ⟨s,G.score s+1,[],[]⟩ none 0 0 none 0 0++ #[.map (some sm)]) dR (0,0)))
 (gZ:∀j,(m.own c j\/F j\/j=bs\/j=bc\/j=bh)->j≠q/\j≠sm) (hqs:q≠sm) {p:Nat} (hp:∃mx,XV g1 m.FX m.x G.D G.P mx/\mx.g=p)
 (hK:∀v B bb ov A n cp E e ce,mD v B q sm bb (cI k G s l) ov A n cp E e ce->OV G.D (dE k G s l).wd ov (mF m.sz ch)->(∀a,A=some a->g1.heap.size<=a.block)->(g1.heap.size<=B/\B<=v.heap.size)->Kept (fun j=>j=q\/j=sm) g1 v->K (.pointer (some ⟨q,0,none⟩)) v):
 bk prog aQ.id #[.pointer (some ⟨p,0,none⟩),.slice A n cx] g1 fun i1 j1=>∃k1:Option Addr,∃m1 n1:Nat,i1=.slice k1 m1 n1/\
  ∃(o1:Option Addr) (p1 q1:Nat) (r1:World),(Builtin.append_ #[aC,aC] aC #[.slice k1 m1 n1,.slice A n cx]).run prog j1=.ok (.slice o1 p1 q1) r1/\
  bk prog jg.id #[.slice o1 p1 q1] r1 fun t1 u1=>∃v1:Option Addr,∃x1 y1:Nat,t1=.slice v1 x1 y1/\
  Holds none [] prog 153 (.loop (lB (bB (sR (sL (sR (sR (sR (body ak.fn))))))))) (ak.q1 K)
   [(3,.pointer (some ⟨bc,0,none⟩)),(4,.pointer (some ⟨bh,0,none⟩)),(6,.pointer none),(8,.pointer (some ⟨bs,0,none⟩)),(46,.slice v1 x1 y1),(47,.int .i64 (x1:Int)),(48,.int .i64 0)] u1:=by
 have W:=C.fy.W;obtain⟨mx,X,rfl⟩:=hp;obtain⟨bl,c',mb,M,GG⟩:=X.G;have lq:=aT jc;have lsm:=V.ov.lt;refine vD GG W (by omega) hT Gr (by omega) fun A1 c1 w1 lK k1=>⟨A1,_,c1,rfl,?_⟩;have qG:(du G.D l).length<=5000:=Nat.le_trans (mc _ _) hD;have s1:=k1.size;obtain⟨A2,c2,w2,jD,fW,g2,Wp⟩:=cD aC lK (cx:=cx) (Gr.same k1) (by omega) s1;have k2:Kept (fun j=>g1.heap.size<=j) w1 w2:=(Kept.refl _ _).grown g2 fun j hj _=>(Row.bE lK hj).1;have kL:Kept Nil g1 w2:=k1.trans k2 (fun j hj e=>by omega);refine⟨A2,_,c2,w2,jD,?_⟩;refine iN fW.hs (by omega) fun A3 c3 w3 mQ k3=>⟨A3,_,c3,rfl,?_⟩;have lC:=kL.tt k3;have s02:=kL.size;have s03:=lC.size;have V3:=V.same lC;refine Bu (l:=l) Ad hN (C.same lC) hD qQ hs hc hl V3 ⟨lC.heap jc (fun h=>h),bI.nil _ _,Row.nil _ _ _ _,V3.ov,by omega,by omega,hqs,fun j hj=>by simp [a8]at hj⟩ mQ.hs (fun a ha=>?_) gZ fun v B bb ov A n cp E e ce h1 h2 h3 h4 h5=>?_
 ·subst ha
  have:=(Row.bE mQ (k:=a.block) rfl).1;omega
 ·exact hK v B bb ov A n cp E e ce h1 h2 (fun a ha=>Nat.le_trans s03 (h3 a ha)) ⟨Nat.le_trans s03 h4.1,h4.2⟩ ((lC.mono fun _ _ h=>h.elim).tt h5)
end
section
variable{w w':World}{F:Nat->Prop}{c k:Nat}{G:GS}{m:CM}{s:HT}{l ch:List HT}{n cx:Nat}{A:Option Addr}{K:Value->World->Prop}
set_option maxHeartbeats 4000000 in
theorem CA{N:Nat}(Ad:Ee N)(hN:(pw G.D s l).length<=N)(C:CV w F c k G m)(hT:tT w)(hD:G.D.length<=5000)(qQ:k<=1000)(hs:s∈ids G.D)(hc:cr G.D G.P s ch)(hl:∀x∈l,x∈ids G.D)(Gr:HS w A n l)(hn:n<=5000)
 (hK:∀v q B sm bb ov A n cp E e ce,mD v B q sm bb (cI k G s l) ov A n cp E e ce->OV G.D (dE k G s l).wd ov (mF m.sz ch)->w.heap.size<=q->w.heap.size<=sm->(∀a,A=some a->w.heap.size<=a.block)->(w.heap.size<=B/\B<=v.heap.size)->Kept Nil w v->K (.pointer (some ⟨q,0,none⟩)) v):
 bk prog ak.id #[.pointer (some ⟨c,0,none⟩),.agg s.1,.slice A n cx] w K:=by
 refine ak.of ?_;unfold ak.W;intro w1 w2;have k1:Kept Nil w w1:=(Kept.refl _ _).alloc _;have Vw:w1.heap[w.heap.size]? =some (.cells #[.pointer (some ⟨c,0,none⟩)] eB (0,0)):=aI w _;have k2:Kept Nil w1 w2:=(Kept.refl _ _).alloc _;have Ae:w2.heap[w1.heap.size]? =some (.cells s.1 ai (0,0)):=aI w1 _;clear_value w2;have JH:=k2.heap Vw (fun h=>h);have kL:=k1.tt k2;have s1:=k1.size;have l1:=aT Vw;have l2:=aT Ae;clear_value w1;have C2:=C.same kL;obtain⟨mx2,X2,_⟩:=C2.X;refine⟨some ⟨c,0,none⟩,by rw [aA JH];rfl,_,C2.c1,fO.of (Split.no rfl (Is.mk rfl ⟨_,X2.c0,⟨_,rfl,?_⟩⟩))⟩;intro w3;have k3:Kept Nil w2 w3:=(Kept.refl _ _).drew;clear_value w3;have lC:=kL.tt k3;have Qf:=k3.heap JH (fun h=>h);have Cg:=k3.heap Ae (fun h=>h);have C3:=C.same lC;obtain⟨A1,n1,c1,B1,m1,d1,s1',sa⟩:=C3.seen s hs;have Pj:G.score s<=5000:=by
  have h1:=(C.fy.wd s hs).2.2;have h2:=cM (m:=ids G.D) (C.fy.wd s hs).1 (fun b hb=>(((C.fy.wd s hs).2.1 b hb).mem C.fy.W).1);rw [gg]at h2;omega
 have ew:u64.wrap (((G.gw s).score:Int)+(1:Int))=((G.score s+1:Nat):Int):=by
  show u64.wrap ((G.score s:Int)+(1:Int))=_
  rw [show(G.score s:Int)+1=((G.score s+1:Nat):Int)by omega];exact jJ (by omega)
 have mM:∀ {u:World},Kept Nil w3 u->u.cell? ⟨w.heap.size,0,none⟩=some (.pointer (some ⟨c,0,none⟩)):=fun ku=>by rw [aA (ku.heap Qf (fun h=>h))];rfl
 have ue:∀ {u:World},Kept Nil w3 u->∃cs:Array Value,(.agg s.1:Value)=.agg cs/\cs.size=32/\Cells u ⟨w1.heap.size,0,none⟩ cs:=fun ku=>⟨s.1,rfl,s.2.1,Cells.bE (ku.heap Cg (fun h=>h))⟩;have lO:∀ {u:World},Kept Nil w3 u->u.cell? (((⟨m.q s,0,none⟩:Addr).add 0).add 32)=some (.int .u64 ((G.gw s).score:Int)):=fun ku=>(sa.aG ku (fun _ _ h=>h)).WI;have l3:=aT Cg;have s3:=k3.size;refine⟨s.1,⟨s.2.1,Cells.bE Cg⟩,some ⟨c,0,none⟩,mM (Kept.refl _ _),_,C3.c2,s.1,⟨s.2.1,Cells.bE Cg⟩,_,C3.oz hs,_,lO (Kept.refl _ _),?_⟩;rw [ew];rw [vK s];refine Is.mk rfl ?_;have FV:(s.1++ #[.int .u64 ((G.score s+1:Nat):Int),.slice none 0 0,.slice none 0 0]:Array Value)=cG ⟨s,G.score s+1,[],[]⟩ none 0 0 none 0 0:=rfl;rw [FV];have go:∀ {u:World} {q sm bs:Nat},Kept Nil w3 u->w3.heap.size<=q->w3.heap.size<=sm->w3.heap.size<=bs->q≠sm->bs≠q->bs≠sm->
  u.heap[q]? =some (.cells (cG ⟨s,G.score s+1,[],[]⟩ none 0 0 none 0 0++ #[.map (some sm)]) dR (0,0))->fG u sm (fun _=>none)->u.heap[bs]? =some (.cells #[.pointer (some ⟨q,0,none⟩)] fg (0,0))->_:=
  fun {u q sm bs} ku hq vi XR h1 h2 h3 jc PF iV=>JU (g1:=u) (bs:=bs) (bc:=w.heap.size) (bh:=w1.heap.size) (q:=q) (sm:=sm) (cx:=cx) (K:=K) (p:=mx2.g) Ad hN (C3.same ku) (hT.same (lC.tt ku)) hD qQ hs hc hl (Gr.same (lC.tt ku)) hn
   ⟨iV,ku.heap Qf (fun h=>h),ku.heap Cg (fun h=>h),by rw [bg,aA jc];exact(fZ ..).2.2.2,PF⟩ jc
   (fun j hj=>by
     rcases hj with h|h|h|h|h
     ·have:=C.low j (.inl h);exact⟨by omega,by omega⟩
     ·have:=C.low j (.inr h);exact⟨by omega,by omega⟩
     ·exact⟨by omega,by omega⟩
     ·exact⟨by omega,by omega⟩
     ·exact⟨by omega,by omega⟩) h1 ⟨mx2,X2.same (k3.tt ku),rfl⟩
   (fun v B bb ov A n cp E e ce t1 t2 t3 t4 t5=>hK v q B sm bb ov A n cp E e ce t1 t2 (by omega) (by omega) (fun a ha=>by have:=t3 a ha;have:=(lC.tt ku).size;omega) ⟨by have:=(lC.tt ku).size;have:=t4.1;omega,t4.2⟩ ((lC.tt ku).trans t5 (fun j hj e=>by omega)))
 have Ob:∀ {u0:World} {b q:Nat},u0.heap[b]? =some (.cells #[.pointer none] fg (0,0))->Wr u0 ⟨b,0,none⟩/\∀u1,u1=u0.setCell ⟨b,0,none⟩ (.pointer (some ⟨q,0,none⟩))->u1.heap[b]? =some (.cells #[.pointer (some ⟨q,0,none⟩)] fg (0,0))/\Kept (· =b) u0 u1:=fun {u0 b q} hb=>⟨dO hb (by simp),fun u1 e=>by
  subst e;refine⟨?_,Kept.setCell (S:=(· =b)) (Kept.refl _ u0) (p:=⟨b,0,none⟩) (fun _=>rfl) _⟩;rw [dc hb 0];rfl⟩
 refine⟨?_,?_⟩
 ·intro w4
  have k4:Kept Nil w3 w4:=(Kept.refl _ _).alloc _;have hm4:fG w4 w3.heap.size (fun _=>none):=fG.new w3;clear_value w4;have l4:=hm4.lt;refine⟨lO k4,(C3.same k4).oz hs,ue k4,(C3.same k4).c2,mM k4,ue k4,?_⟩;rw [xE];refine Is.mk rfl ⟨?_,?_⟩
  ·intro w5 w6
   have k5:Kept Nil w4 w5:=(Kept.refl _ _).alloc _;have XA:w5.heap[w4.heap.size]? =some (.cells (cG ⟨s,G.score s+1,[],[]⟩ none 0 0 none 0 0++ #[.map (some w3.heap.size)]) dR (0,0)):=aI w4 _;have k6:Kept Nil w5 w6:=(Kept.refl _ _).alloc _;have qh:w6.heap[w5.heap.size]? =some (.cells #[.pointer none] fg (0,0)):=aI w5 _;clear_value w6;have T6:=k6.heap XA (fun h=>h);have l5:=aT XA;clear_value w5;have Jx:=k5.tt k6;have tJ:=k4.tt Jx;have s36:=tJ.size;obtain⟨t1,t2⟩:=Ob (q:=w4.heap.size) qh;refine⟨t1,?_⟩;intro w7;obtain⟨t3,t4⟩:=t2 w7 rfl;clear_value w7;exact go (tJ.trans t4 (fun j hj e=>by omega)) (by omega) (by omega) (by omega) (by omega) (by omega) (by omega) (t4.heap T6 (by omega)) ((hm4.same Jx).aG t4 (by omega)) t3
  ·intro w5
   have k5:Kept Nil w4 w5:=(Kept.refl _ _).alloc _;have oE:w5.heap[w4.heap.size]? =some (.cells #[.pointer none] fg (0,0)):=aI w4 _;clear_value w5;have l5:=aT oE;have nM:=k4.tt k5;refine⟨lO nM,(C3.same nM).oz hs,ue nM,(C3.same nM).c2,mM nM,ue nM,?_⟩;intro w6;have k6:Kept Nil w5 w6:=(Kept.refl _ _).alloc _;have T6:w6.heap[w5.heap.size]? =some (.cells (cG ⟨s,G.score s+1,[],[]⟩ none 0 0 none 0 0++ #[.map (some w3.heap.size)]) dR (0,0)):=aI w5 _;clear_value w6;have Jx:=k5.tt k6;have tJ:=k4.tt Jx;have YP:=nM.size;obtain⟨t1,t2⟩:=Ob (q:=w5.heap.size) (k6.heap oE (fun h=>h));refine⟨t1,?_⟩;intro w7;obtain⟨t3,t4⟩:=t2 w7 rfl;clear_value w7;exact go (tJ.trans t4 (fun j hj e=>by omega)) (by omega) (by omega) (by omega) (by omega) (by omega) (by omega) (t4.heap T6 (by omega)) ((hm4.same Jx).aG t4 (by omega)) t3
 ·intro w4
  have k4:Kept Nil w3 w4:=(Kept.refl _ _).alloc _;have qJ:w4.heap[w3.heap.size]? =some (.cells #[.pointer none] fg (0,0)):=aI w3 _;clear_value w4;have l4:=aT qJ;refine⟨lO k4,(C3.same k4).oz hs,ue k4,(C3.same k4).c2,mM k4,ue k4,?_⟩;intro w5;have k5:Kept Nil w4 w5:=(Kept.refl _ _).alloc _;have hm5:fG w5 w4.heap.size (fun _=>none):=fG.new w4;clear_value w5;have l5:=hm5.lt;have nM:=k4.tt k5;refine⟨lO nM,(C3.same nM).oz hs,ue nM,(C3.same nM).c2,mM nM,ue nM,?_⟩;rw [xE];refine Is.mk rfl ?_;intro w6;have k6:Kept Nil w5 w6:=(Kept.refl _ _).alloc _;have T6:w6.heap[w5.heap.size]? =some (.cells (cG ⟨s,G.score s+1,[],[]⟩ none 0 0 none 0 0++ #[.map (some w4.heap.size)]) dR (0,0)):=aI w5 _;clear_value w6;have tJ:=nM.tt k6;have YP:=nM.size;obtain⟨t1,t2⟩:=Ob (q:=w5.heap.size) ((k5.tt k6).heap qJ (fun h=>h));refine⟨t1,?_⟩;intro w7;obtain⟨t3,t4⟩:=t2 w7 rfl;clear_value w7;exact go (tJ.trans t4 (fun j hj e=>by omega)) (by omega) (by omega) (by omega) (by omega) (by omega) (by omega) (t4.heap T6 (by omega)) ((hm5.same k6).aG t4 (by omega)) t3
end
end Go.Proofs.YtfleamccglihoaaGreatDoor
