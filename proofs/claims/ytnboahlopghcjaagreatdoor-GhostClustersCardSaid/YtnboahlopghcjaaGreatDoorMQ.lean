import Derived.Test.YtnboahlopghcjaaGreatDoorMP
import Derived.Test.YtnboahlopghcjaaGreatDoorMG
open Go.IntKind (i64 u64)
set_option linter.unusedVariables false
namespace Go.Proofs.YtnboahlopghcjaaGreatDoor
open Go.Proofs.Tryz
open Go Go.bU Go.RowKit
theorem Ax:xY prog fU gM 1 1:=⟨by kernel_rfl,by kernel_rfl⟩
abbrev qW(l:List Bool):List Value:=l.map .bool
structure xZ(w:World)(B q sm:Nat)(c:nZ)(ov:HT->Option Nat)(A:Option Addr)(n cp:Nat)(E:Option Addr)(e ce:Nat):Prop where
 top:w.heap[q]? =some (.cells (cF c A n cp E e ce++ #[.map (some sm)]) dN (0,0))
 mg:bQ w B A n cp c.merge
 bl:Row w B gM 1 E e ce (qW c.dg)
 ov:fk w sm (Jc ov)
 qB:q<B
 sB:sm<B
 qs:q≠sm
 AE:∀j,bg A=some j->bg E≠some j
section
variable{w w':World}{B q sm:Nat}{c:nZ}{ov:HT->Option Nat}{A E:Option Addr}{n cp e ce:Nat}{K:Value->World->Prop}
theorem xZ.aC{S:Nat->Prop}(h:xZ w B q sm c ov A n cp E e ce)(hk:Kept S w w')(h1:¬S q)(h2:¬S sm)(h3:∀j,B<=j->¬S j):xZ w' B q sm c ov A n cp E e ce:=
 ⟨hk.heap h.top h1,Row.aC h.mg hk (fun j hj=>h3 j (Row.bC h.mg hj).1),Row.aC h.bl hk (fun j hj=>h3 j (Row.bC h.bl hj).1),h.ov.aC hk h2,h.qB,h.sB,h.qs,h.AE⟩
theorem xZ.same(h:xZ w B q sm c ov A n cp E e ce)(hk:Kept Nil w w'):xZ w' B q sm c ov A n cp E e ce:=h.aC hk (fun h=>h) (fun h=>h) (fun _ _ h=>h)
theorem xZ.f33(h:xZ w B q sm c ov A n cp E e ce):w.cell? (((⟨q,0,none⟩:Addr).add 0).add 33)=some (.slice A n cp):=by rw [add_zero,a8,ay h.top];exact(dJ ..).2.1
theorem xZ.acq(h:xZ w B q sm c ov A n cp E e ce):∀j,bg A=some j\/bg E=some j->B<=j/\j<w.heap.size:=fun j hj=>by
 rcases hj with hj|hj
 ·obtain⟨h1,cur,h2⟩:=Row.bC h.mg hj;exact⟨h1,aQ h2⟩
 ·obtain⟨h1,cur,h2⟩:=Row.bC h.bl hj;exact⟨h1,aQ h2⟩
theorem qo(c:nZ)(A:Option Addr)(n cp:Nat)(E:Option Addr)(e ce:Nat)(r:Array Value)(A':Option Addr)(n' vC:Nat):
 (cF c A n cp E e ce++r).setIfInBounds (0+33) (.slice A' n' vC)=cF c A' n' vC E e ce++r:=by
 have h0:c.gV.1.size=32:=c.gV.2.1;apply Array.ext';unfold cF;simp only [Array.toList_setIfInBounds,Array.toList_append,List.append_assoc];rw [List.set_append_right _ _ (by simp [h0])];simp [h0]
theorem qm(c:nZ)(A:Option Addr)(n cp:Nat)(E:Option Addr)(e ce:Nat)(r:Array Value)(E':Option Addr)(n' vC:Nat):
 (cF c A n cp E e ce++r).setIfInBounds (0+34) (.slice E' n' vC)=cF c A n cp E' n' vC++r:=by
 have h0:c.gV.1.size=32:=c.gV.2.1;apply Array.ext';unfold cF;simp only [Array.toList_setIfInBounds,Array.toList_append,List.append_assoc];rw [List.set_append_right _ _ (by simp [h0])];simp [h0]
theorem uS(c:nZ)(A:Option Addr)(n cp:Nat)(E:Option Addr)(e ce:Nat)(r:Array Value)(s:Nat):
 (cF c A n cp E e ce++r).setIfInBounds (0+32) (.int .u64 (s:Int))=cF {c with score:=s} A n cp E e ce++r:=by
 have h0:c.gV.1.size=32:=c.gV.2.1;apply Array.ext';unfold cF;simp only [Array.toList_setIfInBounds,Array.toList_append,List.append_assoc];rw [List.set_append_right _ _ (by simp [h0])];simp [h0]
theorem xZ.Re(h:xZ w B q sm c ov A n cp E e ce)(hB:B<=w.heap.size)(hn:n<=100000){x:HT}{b:Nat}(hb:HS w (some ⟨b,0,none⟩) 1 [x]):
 ∃A' vC u,(Builtin.append_ #[az,az] az #[.slice A n cp,.slice (some ⟨b,0,none⟩) 1 1]).run prog w=.ok (.slice A' (n+1) vC) u/\
  Kept (fun j=>B<=j) w u/\xZ (u.setCell (((⟨q,0,none⟩:Addr).add 0).add 33) (.slice A' (n+1) vC)) B q sm {c with merge:=c.merge++ [x]} ov A' (n+1) vC E e ce/\
  Kept (fun j=>j=q\/B<=j) w (u.setCell (((⟨q,0,none⟩:Addr).add 0).add 33) (.slice A' (n+1) vC))/\Wr u (((⟨q,0,none⟩:Addr).add 0).add 33):=by
 obtain⟨A',vC,u,hr,e8,hg,hA⟩:=cD az h.mg (cx:=1) hb (by omega) hB;have ku:Kept (fun j=>B<=j) w u:=(Kept.refl _ _).grown hg fun j hj _=>(Row.bC h.mg hj).1;have kA:Kept (fun j=>bg A=some j) w u:=(Kept.refl _ _).grown hg fun j hj _=>hj;have qB:=h.qB;have sB:=h.sB;have iK:=ku.heap h.top (by omega);have xU:Row u B gM 1 E e ce (qW c.dg):=Row.aC h.bl kA (fun j hj e=>h.AE j e hj);have mL:Kept (· =q) u (u.setCell (((⟨q,0,none⟩:Addr).add 0).add 33) (.slice A' (n+1) vC)):=by
  rw [add_zero,a8];exact Kept.setCell (S:=(· =q)) (Kept.refl _ u) (p:=⟨q,0+33,none⟩) (fun _=>rfl) _
 have gR:∀ {X:Option Addr} {j:Nat},(∀k,bg X=some k->B<=k)->bg X=some j->¬j=q:=fun h hj e=>by have:=h _ hj;omega
 refine⟨A',vC,u,hr,ku,⟨?_,?_,?_,?_,qB,sB,h.qs,?_⟩,?_,?_⟩
 ·show(u.setCell (((⟨q,0,none⟩:Addr).add 0).add 33) (.slice A' (n+1) vC)).heap[q]? =_
  rw [add_zero,a8,cV iK,qo];rfl
 ·exact Row.aC e8 mL (fun j hj=>gR (fun k hk=>(Row.bC e8 hk).1) hj)
 ·exact Row.aC xU mL (fun j hj=>gR (fun k hk=>(Row.bC xU hk).1) hj)
 ·exact(h.ov.aC ku (by omega)).aC mL (fun e=>h.qs e.symm)
 ·intro j hj he
  rcases hA j hj with h1|h1
  ·exact h.AE j h1 he
  ·have:=(h.acq j (.inr he)).2;omega
 ·exact(ku.mono fun _ _ h=>.inr h).trans mL (fun _ _ e=>.inl e)
 ·rw [add_zero,a8]
  exact dL iK (by rw [Array.size_append,aX];simp)
end
structure lU(w:World)(B q sm bb:Nat)(c:nZ)(ov:HT->Option Nat)(A:Option Addr)(n cp:Nat)(E:Option Addr)(e ce:Nat):Prop where
 top:w.heap[q]? =some (.cells (cF c A n cp E e ce++ #[.map (some sm)]) dN (0,0))
 mg:HS w A n c.merge
 mA:∀a,A=some a->a.block<B/\a.block≠q/\a.block≠sm/\a.block≠bb
 bl:Row w B gM 1 E e ce (qW c.dg)
 ov:fk w sm (Jc ov)
 qB:q<B
 sB:sm<B
 bB:bb<B
 qs:q≠sm/\q≠bb/\sm≠bb
section
variable{w w':World}{B q sm bb:Nat}{c:nZ}{ov:HT->Option Nat}{A E:Option Addr}{n cp e ce:Nat}{K:Value->World->Prop}
theorem lU.aC{S:Nat->Prop}(h:lU w B q sm bb c ov A n cp E e ce)(hk:Kept S w w')(h1:¬S q)(h2:¬S sm)(h3:∀j,B<=j->j<w.heap.size->¬S j)(h4:∀a,A=some a->¬S a.block):lU w' B q sm bb c ov A n cp E e ce:=
 ⟨hk.heap h.top h1,h.mg.aC hk h4,h.mA,Row.aC h.bl hk (fun j hj=>by obtain⟨g1,cur,g2⟩:=Row.bC h.bl hj;exact h3 j g1 (aQ g2)),h.ov.aC hk h2,h.qB,h.sB,h.bB,h.qs⟩
theorem lU.same(h:lU w B q sm bb c ov A n cp E e ce)(hk:Kept Nil w w'):lU w' B q sm bb c ov A n cp E e ce:=h.aC hk (fun h=>h) (fun h=>h) (fun _ _ _ h=>h) (fun _ _ h=>h)
theorem lU.f32(h:lU w B q sm bb c ov A n cp E e ce):w.cell? (((⟨q,0,none⟩:Addr).add 0).add 32)=some (.int .u64 (c.score:Int)):=by rw [add_zero,a8,ay h.top];exact(dJ ..).1
theorem lU.f33(h:lU w B q sm bb c ov A n cp E e ce):w.cell? (((⟨q,0,none⟩:Addr).add 0).add 33)=some (.slice A n cp):=by rw [add_zero,a8,ay h.top];exact(dJ ..).2.1
theorem lU.f34(h:lU w B q sm bb c ov A n cp E e ce):w.cell? (((⟨q,0,none⟩:Addr).add 0).add 34)=some (.slice E e ce):=by rw [add_zero,a8,ay h.top];exact(dJ ..).2.2.1
theorem lU.f35(h:lU w B q sm bb c ov A n cp E e ce):w.cell? ((⟨q,0,none⟩:Addr).add 35)=some (.map (some sm)):=by rw [a8,ay h.top];exact(dJ ..).2.2.2
theorem lU.wr(h:lU w B q sm bb c ov A n cp E e ce){j:Nat}(hj:j<36):Wr w (((⟨q,0,none⟩:Addr).add 0).add j):=by
 rw [add_zero,a8];exact dL h.top (by rw [Array.size_append,aX];simp;omega)
theorem lU.Q1{h:lU w B q sm bb c ov A n cp E e ce}(j:Nat)(v:Value):Kept (· =q) w (w.setCell (((⟨q,0,none⟩:Addr).add 0).add j) v):=by
 rw [add_zero,a8];exact Kept.setCell (S:=(· =q)) (Kept.refl _ w) (p:=⟨q,0+j,none⟩) (fun _=>rfl) _
theorem lU.Gb(h:lU w B q sm bb c ov A n cp E e ce)(hB:B<=w.heap.size)(hn:e<=100000){x:Bool}{b:Nat}(hb:w.cell? ⟨b,0,none⟩=some (.bool x)):
 ∃E' rk u,(Builtin.append_ #[fU,fU] fU #[.slice E e ce,.slice (some ⟨b,0,none⟩) 1 1]).run prog w=.ok (.slice E' (e+1) rk) u/\
  Kept (fun j=>B<=j/\bg E=some j) w u/\Wr u (((⟨q,0,none⟩:Addr).add 0).add 34)/\
  lU (u.setCell (((⟨q,0,none⟩:Addr).add 0).add 34) (.slice E' (e+1) rk)) B q sm bb {c with dg:=c.dg++ [x]} ov A n cp E' (e+1) rk/\
  Kept (fun j=>j=q\/bg E=some j) w (u.setCell (((⟨q,0,none⟩:Addr).add 0).add 34) (.slice E' (e+1) rk))/\(∀j,bg E'=some j->bg E=some j\/w.heap.size<=j):=by
 obtain⟨E',rk,u,hr,e8,hg,hE⟩:=fi (P:=prog) (t:=fU) (bytes:=1) (ty:=fU) Ax h.bl (a:=⟨b,0,none⟩) (m:=1) (cx:=1) (news:= [.bool x]) rfl (fun j v hj=>by
  cases j with
  |zero=>simp only [List.getElem?_cons_zero,Option.some.injEq]at hj;subst hj;rw [add_zero];exact hb
  |succ j=>simp at hj) (fun v hv=>by
  have:v=.bool x:=by simpa using hv
  subst this;rfl) (by omega) (by unfold maxLen;omega) hB
 have qB:=h.qB;have sB:=h.sB;have kE:Kept (fun j=>B<=j/\bg E=some j) w u:=(Kept.refl _ _).grown hg fun j hj _=>⟨(Row.bC h.bl hj).1,hj⟩;have iK:=kE.heap h.top (by omega);have mL:Kept (· =q) u (u.setCell (((⟨q,0,none⟩:Addr).add 0).add 34) (.slice E' (e+1) rk)):=by
  rw [add_zero,a8];exact Kept.setCell (S:=(· =q)) (Kept.refl _ u) (p:=⟨q,0+34,none⟩) (fun _=>rfl) _
 refine⟨E',rk,u,hr,kE,?_,⟨?_,?_,h.mA,?_,?_,qB,sB,h.bB,h.qs⟩,?_,hE⟩
 ·rw [add_zero,a8]
  exact dL iK (by rw [Array.size_append,aX];simp)
 ·show(u.setCell (((⟨q,0,none⟩:Addr).add 0).add 34) (.slice E' (e+1) rk)).heap[q]? =_
  rw [add_zero,a8,cV iK,qm];rfl
 ·exact(h.mg.aC kE (fun a ha=>by have:=(h.mA a ha).1;omega)).aC mL (fun a ha=>(h.mA a ha).2.1)
 ·have e1:qW (c.dg++ [x])=qW c.dg++ [.bool x]:=by simp [qW]
  show Row _ B gM 1 E' (e+1) rk (qW (c.dg++ [x]))
  rw [e1];exact Row.aC e8 mL (fun j hj=>by have:=(Row.bC e8 hj).1;omega)
 ·exact(h.ov.aC kE (by omega)).aC mL (fun e=>h.qs.1 e.symm)
 ·exact(kE.mono fun _ _ h=>.inr h.2).trans mL (fun _ _ e=>.inl e)
theorem lU.MT(h:lU w B q sm bb c ov A n cp E e ce)(s:Nat):
 lU (w.setCell (((⟨q,0,none⟩:Addr).add 0).add 32) (.int .u64 (s:Int))) B q sm bb {c with score:=s} ov A n cp E e ce/\Kept (· =q) w (w.setCell (((⟨q,0,none⟩:Addr).add 0).add 32) (.int .u64 (s:Int))):=by
 have qB:=h.qB;have mL:=lU.Q1 (h:=h) 32 (.int .u64 (s:Int));refine⟨⟨?_,h.mg.aC mL (fun a ha=>(h.mA a ha).2.1),h.mA,Row.aC h.bl mL (fun j hj=>by have:=(Row.bC h.bl hj).1;omega),h.ov.aC mL (fun e=>h.qs.1 e.symm),h.qB,h.sB,h.bB,h.qs⟩,mL⟩;rw [add_zero,a8,cV h.top,uS]
theorem lU.note(h:lU w B q sm bb c ov A n cp E e ce)(b:HT)(n0:Nat):
 ∃u,(Instr.mapUpdate ck (.map (some sm)) (.agg b.1) (.int .i64 (n0:Int))).run prog w=.ok () u/\lU u B q sm bb c (fun y=>if y=b then some n0 else ov y) A n cp E e ce/\Kept (· =sm) w u:=by
 have sB:=h.sB;obtain⟨u,hr,hm,hk⟩:=h.ov.put qK b (.int .i64 (n0:Int));refine⟨u,hr,⟨hk.heap h.top h.qs.1,h.mg.aC hk (fun a ha=>(h.mA a ha).2.2.1),h.mA,Row.aC h.bl hk (fun j hj=>by have:=(Row.bC h.bl hj).1;omega),?_,h.qB,h.sB,h.bB,h.qs⟩,hk⟩;have e1:Jc (fun y=>if y=b then some n0 else ov y)=fun x=>if x=b then some (.int .i64 (n0:Int))else Jc ov x:=by
  funext y
  unfold Jc;by_cases e:y=b
  ·simp only [if_pos e,Option.map_some]
  ·simp only [if_neg e]
 rw [e1];exact hm
end
noncomputable def jE(k:Nat)(G:GS)(s:HT)(l:List HT)(i:Nat):VS:=((cC G s l).take i).foldl (ly k G.D) ⟨G.world s++ [s],[]⟩
structure V2(y v:World)(k:Nat)(G:GS)(s:HT)(l:List HT)(base:HT->Nat)(q sm bb:Nat)(A:Option Addr)(n cp i:Nat):Prop where
 ex:∃(ov:HT->Option Nat) (E:Option Addr) (e ce:Nat) (Ab:Option Addr) (nb cb:Nat) (bl:List HT),
  lU v y.heap.size q sm bb ⟨s,G.score s+1+(jE k G s l i).bl.count true,cC G s l,(jE k G s l i).bl⟩ ov A n cp E e ce/\
  v.heap[bb]? =some (.cells #[.slice Ab nb cb] az (0,0))/\bQ v y.heap.size Ab nb cb bl/\(jE k G s l i).wd=G.world s++ [s]++bl/\(∀j,bg Ab=some j->bg E≠some j)/\
  OV G.D (jE k G s l i).wd ov base/\(jE k G s l i).wd.Nodup/\(∀z∈bl,z∈(cC G s l).take i)/\e=i
 kp:Kept (fun j=>j=q\/j=sm\/j=bb) y v
theorem lU.Gt{w w':World}{B q sm bb:Nat}{c:nZ}{ov:HT->Option Nat}{A E:Option Addr}{n cp e ce:Nat}{S:Nat->Prop}(h:lU w B q sm bb c ov A n cp E e ce)(hk:Kept S w w')(h1:¬S q)(h2:¬S sm)(h3:∀j,bg E=some j->¬S j)(h4:∀a,A=some a->¬S a.block):lU w' B q sm bb c ov A n cp E e ce:=
 ⟨hk.heap h.top h1,h.mg.aC hk h4,h.mA,Row.aC h.bl hk h3,h.ov.aC hk h2,h.qB,h.sB,h.bB,h.qs⟩
theorem yf{k:Nat}{G:GS}{s:HT}{l:List HT}{i:Nat}{x:HT}(hx:(cC G s l)[i]? =some x):jE k G s l (i+1)=ly k G.D (jE k G s l i) x:=by
 unfold jE;have e:(cC G s l).take (i+1)=(cC G s l).take i++ [x]:=by rw [List.take_add_one,hx];rfl
 rw [e,List.foldl_append];rfl
theorem Cc(k:Nat)(G:GS)(s:HT)(l:List HT)(i:Nat)(hi:i<=(cC G s l).length):(jE k G s l i).bl.length=i:=by
 obtain⟨b,h1,h2⟩:=FH k G.D (G.world s++ [s]) ((cC G s l).take i);unfold jE;rw [h2];show b.length=i
 rw [h1,List.length_take];omega
theorem Cd(k:Nat)(G:GS)(s:HT)(l:List HT):jE k G s l (cC G s l).length=fg k G s l:=by
 unfold jE fg;rw [List.take_of_length_le (Nat.le_refl _)]
section
variable{y v w w':World}{F:Nat->Prop}{c k:Nat}{G:GS}{m:CM}{s:HT}{l ch:List HT}{bs bc bh q sm bb kb n cp:Nat}{A:Option Addr}{K:Value->World->Prop}
set_option maxHeartbeats 4000000 in
theorem Al(C:CV y F c k G m)(hD:G.D.length<=5000)(pS:k<=1000)(hs:s∈ids G.D)(hc:cP G.D G.P s ch)(hM:∀x∈cC G s l,x∈ids G.D)
 (V:VB y c s bs bc bh q sm (fun _=>none)) (LW:y.heap[kb]? =some (.cells #[.func (.func bR.id) #[] #[.pointer (some ⟨bs,0,none⟩),.pointer (some ⟨bc,0,none⟩),.pointer (some ⟨bh,0,none⟩)]] eZ (0,0)))
 (gR:∀j,(m.own c j\/F j\/j=bs\/j=bc\/j=bh\/j=kb)->j≠q/\j≠sm/\j≠bb)
 (h0:V2 y y k G s l (lY m.sz ch) q sm bb A n cp 0) (hn:n<=5000)
 (hK:∀v ov E e ce,lU v y.heap.size q sm bb (cQ k G s l) ov A n cp E e ce->OV G.D (fg k G s l).wd ov (lY m.sz ch)->Kept (fun j=>j=q\/j=sm\/j=bb) y v->K (.pointer (some ⟨q,0,none⟩)) v):
 Holds none [] prog 153 (.loop (lB (bB (sR (sL (sR (sR (sR (sR (sR (sR (sR (sR (body ai.fn)))))))))))))) (ai.q2 K)
  [(3,.pointer (some ⟨bc,0,none⟩)),(6,.pointer none),(8,.pointer (some ⟨bs,0,none⟩)),(11,.pointer (some ⟨bb,0,none⟩)),(12,.func (.func ag.id) #[] #[.pointer (some ⟨bb,0,none⟩),.pointer (some ⟨bc,0,none⟩),.pointer (some ⟨bh,0,none⟩)]),(13,.pointer (some ⟨kb,0,none⟩)),(92,.slice A n cp),(93,.int .i64 (n:Int)),(94,.int .i64 0)] y:=by
 have W:=C.eo.W;have hmn:(cC G s l).Nodup:=(lr G s l).nodup;have TB:(cC G s l).length=n:=by obtain⟨_,_,_,_,_,_,_,_,h,_⟩:=h0.ex;exact h.mg.len
 have lbs:=aQ V.hs;have lbc:=aQ V.hc;have lbh:=aQ V.hh;have lkb:=aQ LW;have W1:=gR bs (.inr (.inr (.inl rfl)));have W4:=gR bc (.inr (.inr (.inr (.inl rfl))));have W3:=gR bh (.inr (.inr (.inr (.inr (.inl rfl)))));have fkb:=gR kb (.inr (.inr (.inr (.inr (.inr rfl)))));refine ai.gz (I:=fun s0 v=>∃i:Nat,s0=(i:Int)/\i<=n/\V2 y v k G s l (lY m.sz ch) q sm bb A n cp i) (μ:=fun s0 _=>((n:Int)-s0).toNat) (s:=0) ⟨0,rfl,Nat.zero_le _,h0⟩ ?_;rintro s0 v ⟨i,rfl,hi,hV⟩;obtain⟨ov,E,e,ce,Ab,nb,cb,bl,hS,vA,e8,Qc,hAE,hO,eQ,uw,hie⟩:=hV.ex;have kv:=hV.kp;have sv:=kv.size;refine Split.dec (fun jb=>?_) (fun fV=>?_)
 ·have dQ:i<n:=by omega
  obtain⟨x,hx⟩:∃x,(cC G s l)[i]? =some x:=⟨_,List.getElem?_eq_getElem (by omega)⟩;have Qa:=hM x (List.mem_of_getElem? hx);have Wi:x∉(jE k G s l i).wd:=by
   rw [Qc];intro hm;obtain⟨_,g1,g2⟩:=jt.1 (List.mem_of_getElem? hx);rcases List.mem_append.1 hm with hm|hm
   ·rcases List.mem_append.1 hm with hm|hm
    ·exact g2 ((C.eo.wd s hs).2.1 x hm)
    ·exact g1 (by simpa using hm)
   ·have h1:=uw x hm
    obtain⟨j,hj⟩:=List.mem_iff_getElem?.1 h1;rw [List.getElem?_take]at hj;split at hj
    ·rename_i IG
     have h2:=(lgeS hj);have h3:=(lgeS hx);have:=(List.getElem_inj hmn).1 (h2.2.trans h3.2.symm);omega
    ·cases hj
  have oh:=yf (k:=k) hx;refine hS.mg.load (i:=(i:Int)) (by omega) hx ?_;intro lV;obtain⟨qR,iD,iH⟩:=gg (w:=v) (z:=dO.1) (cs:=x.1) (t:=aj) (by rw [x.2.1];rfl);refine⟨⟨x.2.1,x.2.one,fun j hj=>qR j (by rw [x.2.1];exact hj)⟩,?_⟩;intro hU
  replace iD:hU.heap[v.heap.size]? =some (.cells x.1 aj (0,0)):=iD
  replace iH:Kept Nil v hU:=iH
  clear_value hU;intro mF iZ;have sE:Kept Nil hU mF:=(Kept.refl _ _).alloc _;have Tv:fk mF hU.heap.size (fun _=>none):=fk.new hU;have lj:Kept Nil mF iZ:=(Kept.refl _ _).alloc _;have OS:iZ.heap[mF.heap.size]? =some (.cells #[.map none] ck (0,0)):=aJ mF _;refine⟨dL OS (by simp),?_⟩;intro vR;have T9:vR.heap[mF.heap.size]? =some (.cells #[.map (some hU.heap.size)] ck (0,0)):=by
   show(iZ.setCell ⟨mF.heap.size,0,none⟩ (.map (some hU.heap.size))).heap[mF.heap.size]? =_;rw [cV OS 0];rfl
  have GH:Kept (· =mF.heap.size) iZ vR:=Kept.setCell (S:=(· =mF.heap.size)) (Kept.refl _ iZ) (p:=⟨mF.heap.size,0,none⟩) (fun _=>rfl) _;clear_value vR;have s14:=iH.size;have s15:=sE.size;have l14:=aQ iD;have l15:=Tv.lt;have V9:=aQ OS;have GL:Kept Nil hU vR:=⟨GH.os.trans (sE.tt lj).os,GH.tape.trans (sE.tt lj).tape,GH.output.trans (sE.tt lj).output,Nat.le_trans (sE.tt lj).size GH.size,fun j hj hn=>by rw [GH.block j (Nat.lt_of_lt_of_le hj (sE.tt lj).size) (by omega),(sE.tt lj).block j hj hn]⟩;have ZZ:fk vR hU.heap.size (fun _=>none):=(Tv.same lj).aC GH (by omega);have L8:=GL.heap iD (fun h=>h);clear_value iZ mF;have Jr:Kept Nil v vR:=iH.tt GL;have Ec:Kept (fun j=>j=q\/j=sm\/j=bb) y vR:=kv.trans Jr (fun _ _ h=>h.elim);have Pg:=hS.same Jr;have C17:CV vR F c k G m:=C.aC Ec (fun j hj e=>by have:=gR j (.inl hj);omega) (fun j hj e=>by have:=gR j (.inr (.inl hj));omega);have V17:VB vR c s bs bc bh q sm ov:=⟨Ec.heap V.hs (by omega),Ec.heap V.hc (by omega),Ec.heap V.hh (by omega),Pg.f35,Pg.ov⟩;have TI:=Ec.heap LW (by omega);have Hc:bQ vR y.heap.size Ab nb cb bl:=Row.aC e8 Jr (fun _ _ h=>h);have Mg:=Jr.heap vA (fun h=>h);refine⟨x.1,⟨x.2.1,Cells.bC L8⟩,?_⟩;have qB:=hS.qB;have sB:=hS.sB;have bB:=hS.bB;have Hx:∀b∈(jE k G s l i).wd,qN ov (lY m.sz ch) b=(bJ G.D (jE k G s l i).wd b).length:=hO.kn;have mQ:=eQ;rw [Qc]at mQ;obtain⟨c1,c2,c3⟩:=KN C.eo (h:=x) hs hc mQ;rw [<-Qc]at c2 c3;have Uu:=e8.len;have Tk:nb<=5000:=by
   have h1:=cJ (m:=cC G s l) (List.nodup_append.1 mQ).2.1 (fun z hz=>List.mem_of_mem_take (uw z hz));omega
  have Pn:∀a,Ab=some a->a.block<hU.heap.size:=fun a ha=>by
   subst ha;obtain⟨_,cur,h1⟩:=Row.bC e8 (k:=a.block) rfl;have:=aQ h1;omega
  refine zq (p:=⟨bs,bc,bh,q,sm,kb,mF.heap.size,hU.heap.size,0,0⟩) ⟨C17,V17,TI,T9,(fun e=>by have:hU.heap.size<y.heap.size:=C.low _ (.inl e);omega),(fun e=>by have:hU.heap.size<y.heap.size:=C.low _ (.inr e);omega),(show bs≠hU.heap.size/\bc≠hU.heap.size/\bh≠hU.heap.size/\q≠hU.heap.size/\sm≠hU.heap.size/\kb≠hU.heap.size/\mF.heap.size≠hU.heap.size from⟨by omega,by omega,by omega,by omega,by omega,by omega,by omega⟩)⟩ hD pS hs hc (h:=x) Mg (by show bb≠hU.heap.size;omega) Hc.hs (fun a ha=>by have:=Pn a ha;show a.block≠hU.heap.size;omega) (by omega) (by
   show fk vR hU.heap.size _
   have e0:(fun y=>if y∈([]:List HT)then some (Value.int .i64 (qN ov (lY m.sz ch) y:Int))else none)=fun _=>none:=by funext y;simp
   rw [e0];exact ZZ) c1 fun Dr r hr hFr zY=>⟨r,rfl,?_⟩
  replace zY:Kept (· =hU.heap.size) vR Dr:=zY
  have Ma:r=mV k G.D (jE k G s l i).wd x:=by rw [hr];exact H3 Hx c2 c3
  have U8:∀j,bg E=some j->y.heap.size<=j/\j<v.heap.size:=fun j hj=>by obtain⟨g1,cur,g2⟩:=Row.bC hS.bl hj;exact⟨g1,aQ g2⟩
  have HF:∀j,bg Ab=some j->y.heap.size<=j/\j<v.heap.size:=fun j hj=>by obtain⟨g1,cur,g2⟩:=Row.bC e8 hj;exact⟨g1,aQ g2⟩
  have s17:=GL.size;have abj:=Pg.Gt zY (by omega) (by omega) (fun j hj=>by have:=U8 j hj;omega) (fun a ha=>by have:=(hS.mA a ha).1;omega);have Oh:bQ Dr y.heap.size Ab nb cb bl:=Row.aC Hc zY (fun j hj=>by have:=HF j hj;omega);have Jo:Kept (fun j=>j=q\/j=sm\/j=bb) y Dr:=Ec.trans zY (fun j hj e=>by omega);have Uz:=zY.heap Mg (by omega);have Uq:=zY.heap L8 (by omega);have aax:=zY.heap T9 (by omega);intro ya;have GD:Kept Nil Dr ya:=(Kept.refl _ _).drew;clear_value ya;have HC:=abj.same GD;have yS:=Jo.trans GD (fun _ _ h=>h.elim);have zg:∀ {u:World} {S:Nat->Prop},Kept S y u->¬S bs->u.cell? ⟨bs,0,none⟩=some (.pointer (some ⟨q,0,none⟩)):=fun ku hb=>by rw [ay (ku.heap V.hs hb)];rfl
  have K5:¬(bs=q\/bs=sm\/bs=bb):=by omega
  have s21:=yS.size;refine⟨_,zg yS K5,_,zg yS K5,E,e,ce,HC.f34,?_⟩;intro la;have pQ:Kept Nil ya la:=(Kept.refl _ _).alloc _;have Kr:la.heap[ya.heap.size]? =some (.cells #[.bool r] gM (0,0)):=aJ ya _;clear_value la;have HB:=HC.same pQ;have uq:=yS.trans pQ (fun _ _ h=>h.elim);have VZ:=uq.size;obtain⟨E',rk,u,Sv,kE,YT,HA,k5,hE5⟩:=HB.Gb (by omega) (by omega) (x:=r) (b:=ya.heap.size) (by rw [ay Kr];rfl);have Yf:Kept (fun j=>j=q\/j=sm\/j=bb) y u:=uq.trans kE (fun j hj e=>by have:=U8 j e.2;omega);refine⟨HB.f34,zg uq K5,zg uq K5,E',e+1,rk,u,Sv,zg Yf K5,YT,?_⟩;intro vh
  replace HA:lU vh y.heap.size q sm bb _ ov A n cp E' (e+1) rk:=HA
  replace k5:Kept (fun j=>j=q\/bg E=some j) la vh:=k5
  clear_value vh;have M8:Kept (fun j=>j=q\/j=sm\/j=bb) y vh:=uq.trans k5 (fun j hj e=>by
   rcases e with e|e
   ·exact .inl e
   ·have:=U8 j e;omega)
  have GF:Kept (fun j=>j=q\/bg E=some j) Dr vh:=((GD.tt pQ).mono fun _ _ h=>h.elim).tt k5;have acK:=(GD.tt pQ).size;have s20:=zY.size;have Hb:bQ vh y.heap.size Ab nb cb bl:=Row.aC Oh GF (fun j hj e=>by
   have:=HF j hj;rcases e with e|e
   ·omega
   ·exact hAE j hj e)
  have Mf:=GF.heap Uz (fun e=>by
   rcases e with e|e
   ·exact hS.qs.2.1 e.symm
   ·have:=U8 bb e;omega)
  have Po:∀j,bg Ab=some j->bg E'≠some j:=fun j hj he=>by
   rcases hE5 j he with h1|h1
   ·exact hAE j hj h1
   ·have:=HF j hj;omega
  have LB:∀z∈bl,z∈(cC G s l).take (i+1):=fun z hz=>by
   have h1:=uw z hz;rw [List.take_add_one];exact List.mem_append_left _ h1
  cases r with
  |false=>
   refine Split.yes rfl ?_;rw [dq (n:=(i:Int)) (by omega) (by omega)];have xm:jE k G s l (i+1)=⟨(jE k G s l i).wd,(jE k G s l i).bl++ [false]⟩:=by rw [oh,ly,<-Ma];rfl
   refine⟨(i:Int)+1,rfl,⟨i+1,rfl,dQ,⟨ov,E',e+1,rk,Ab,nb,cb,bl,?_,Mf,Hb,?_,Po,?_,?_,LB,by omega⟩,M8⟩,by simp only;omega⟩
   ·rw [xm]
    simpa [List.count_append]using HA
   ·rw [xm];exact Qc
   ·rw [xm];exact hO
   ·rw [xm];exact eQ
  |true=>
   refine Split.no rfl ?_;have Pj:=hFr rfl
   replace Pj:xM Dr hU.heap.size (qN ov (lY m.sz ch)) (nO G x bl ch):=Pj
   have cY:=(o6.1 hr.symm).2;have qh:=cJ (m:=ids G.D) c1 (fun z hz=>by
    have h1:=(dR.1 ((c3 z).1 hz)).1;rw [Qc]at h1;rcases List.mem_append.1 h1 with h1|h1
    ·rcases List.mem_append.1 h1 with h1|h1
     ·exact(((C.eo.wd s hs).2.1 z h1).mem W).1
     ·have:z=s:=by simpa using h1
      subst this;exact hs
    ·exact hM z (List.mem_of_mem_take (uw z h1)))
   rw [fN]at qh;generalize jm:nO G x bl ch=jM at*;generalize Z7:qN ov (lY m.sz ch)=kn at*;have Oc:G.score s<=5000:=by
    have h1:=(C.eo.wd s hs).2.2;have h2:=cJ (m:=ids G.D) (C.eo.wd s hs).1 (fun b hb=>(((C.eo.wd s hs).2.1 b hb).mem W).1);rw [fN]at h2;omega
   have aaE:(jE k G s l i).bl.count true<=5000:=by
    have h1:=List.count_le_length (a:=true) (l:=(jE k G s l i).bl);rw [Cc k G s l i (by omega)]at h1;omega
   generalize Bb:G.score s+1+(jE k G s l i).bl.count true=sc at*;have ew:u64.wrap ((sc:Int)+(1:Int))=((sc+1:Nat):Int):=by
    rw [show(sc:Int)+1=((sc+1:Nat):Int)by omega];exact jk (by omega)
   refine⟨_,zg M8 K5,_,HA.f32,HA.wr (by omega),?_⟩;intro ti re;have abh:lU ti y.heap.size q sm bb ⟨s,sc+1,cC G s l,(jE k G s l i).bl++ [true]⟩ ov A n cp E' (e+1) rk:=by
    show lU (vh.setCell (((⟨q,0,none⟩:Addr).add 0).add 32) (.int .u64 (u64.wrap ((sc:Int)+(1:Int))))) _ _ _ _ _ _ _ _ _ _ _ _
    rw [ew];exact(HA.MT (sc+1)).1
   have Fm:Kept (· =q) vh ti:=lU.Q1 (h:=HA) 32 _;have AS:Kept Nil ti re:=(Kept.refl _ _).drew;clear_value re ti;have Bx:=abh.same AS;have CE:Kept (· =q) vh re:=Fm.trans AS (fun _ _ h=>h.elim);have yR:=M8.trans CE (fun j hj e=>.inl e);have CG:Kept (fun j=>j=q\/bg E=some j) Dr re:=GF.trans CE (fun j hj e=>.inl e);have HN:∀j,v.heap.size<=j->¬(j=q\/bg E=some j):=fun j hj e=>by
    rcases e with e|e
    ·omega
    ·have:=U8 j e;omega
   have L7:=CG.heap Uq (HN _ (Nat.le_refl _));have T8:=CG.heap aax (HN _ (by omega));have U6:xM re hU.heap.size kn jM:=Pj.aC CG (HN _ (by omega));have OH:∀z,(if z∈jM then some (Value.int .i64 (kn z:Int))else none)≠none↔z∈jM:=fun z=>by
    by_cases hz:z∈jM
    ·rw [if_pos hz];exact⟨fun _=>hz,fun _ e=>by cases e⟩
    ·rw [if_neg hz];exact⟨fun e=>absurd rfl e,fun e=>absurd e hz⟩
   obtain⟨sP,Zp,UY,sS⟩:=Bx.note x jM.length;have s33:=CG.size;have Yh:=yR.trans sS (fun j hj e=>.inr (.inl e));have abv:xM sP hU.heap.size kn jM:=U6.aC sS (by omega);have aaw:=sS.heap T8 (by omega);have Uo:=sS.heap L7 (by omega);have Of:bQ sP y.heap.size Ab nb cb bl:=Row.aC (Row.aC Hb CE (fun j hj e=>by have:=HF j hj;omega)) sS (fun j hj e=>by have:=HF j hj;omega);have Ux:=sS.heap (CE.heap Mf (fun e=>hS.qs.2.1 e.symm)) (fun e=>hS.qs.2.2 e.symm);obtain⟨w38,Af,Zo,hit,P6⟩:=abv.range qK;have s36:=sS.size;have s38:=P6.size;refine⟨_,zg yR K5,some sm,Bx.f35,x.1,⟨x.2.1,Cells.bC L7⟩,some hU.heap.size,by rw [ay T8];rfl,jM.length,U6.len qK jh c1 OH,sP,Zp,some hU.heap.size,by rw [ay aaw];rfl,_,w38,Zo,?_⟩;refine ai.qL (I:=fun _ u=>∃left Af K3,nP u hU.heap.size sP.heap.size (fun z=>if z∈jM then some (Value.int .i64 (kn z:Int))else none) left Af/\lU u y.heap.size q sm bb ⟨s,sc+1,cC G s l,(jE k G s l i).bl++ [true]⟩ K3 A n cp E' (e+1) rk/\
    (∀z,(left z->z∈jM)/\(z∈jM->¬left z->K3 z=some (kn z+1))/\((z∉jM\/left z)->K3 z=if z=x then some jM.length else ov z))/\Kept (fun j=>j=sm\/j=sP.heap.size) w38 u) (μ:=fun _ u=>u.rangeLeft hU.heap.size sP.heap.size) (s:=())
    ⟨_,Af,_,hit,UY.same P6,fun z=>⟨fun hz=>(OH z).1 hz,fun hz hl=>absurd ((OH z).2 hz) hl,fun _=>rfl⟩,Kept.refl _ _⟩ ?_
   rintro s1 u3 ⟨left,ajP,K3,OD,Pf,hinv,ku⟩;have XE:=ku.size;have lit:=OD.lt;have ky3:Kept (fun j=>j=q\/j=sm\/j=bb) y u3:=(Yh.trans P6 (fun _ _ h=>h.elim)).trans ku (fun j hj e=>by
    rcases e with e|e
    ·exact .inr (.inl e)
    ·omega)
   rcases OD.next 0 with⟨h0',Tg,ju⟩|⟨z,val,u4,abV,hl,Wz,ju,aaz,Z9,cH,k4⟩
   ·refine .inl ⟨u3,ju,?_⟩
    rw [aP,ai.wO];unfold ai.se;have Uy:=ku.heap (P6.heap Ux (fun h=>h)) (by have:=hS.qs;omega);have EF:=ku.heap (P6.heap Uo (fun h=>h)) (by omega);have Sx:bQ u3 y.heap.size Ab nb cb bl:=Row.aC (Row.aC Of P6 (fun _ _ h=>h)) ku (fun j hj e=>by have:=HF j hj;omega);refine⟨Ab,nb,cb,by rw [ay Uy];rfl,x.1,⟨x.2.1,Cells.bC EF⟩,x.2.1,?_⟩;intro vO;have Gw:Kept Nil u3 vO:=(Kept.refl _ _).alloc _;have YM:HS vO (some ⟨u3.heap.size,0,none⟩) 1 [x]:=iq u3 x;clear_value vO;have s50:=Gw.size;have Od:bQ vO y.heap.size Ab nb cb bl:=Row.aC Sx Gw (fun _ _ h=>h);obtain⟨A6,c6,zT,Oj,KZ,g51,abC⟩:=cD az Od (cx:=1) YM (by omega) (by omega);have Iu:Kept (fun j=>bg Ab=some j) vO zT:=(Kept.refl _ _).grown g51 fun j hj _=>hj;have Me:=Iu.heap (Gw.heap Uy (fun h=>h)) (fun e=>by have:=HF bb e;omega);refine⟨A6,nb+1,c6,zT,Oj,dL Me (by simp),?_⟩;intro Dp;have Uw:Dp.heap[bb]? =some (.cells #[.slice A6 (nb+1) c6] az (0,0)):=by
     show(zT.setCell ⟨bb,0,none⟩ (.slice A6 (nb+1) c6)).heap[bb]? =_;rw [cV Me 0];rfl
    have Gv:Kept (· =bb) zT Dp:=Kept.setCell (S:=(· =bb)) (Kept.refl _ zT) (p:=⟨bb,0,none⟩) (fun _=>rfl) _;clear_value Dp;have qP:Kept (fun j=>bg Ab=some j\/j=bb) u3 Dp:=((Gw.mono fun _ _ h=>h.elim).trans Iu (fun _ _ h=>.inl h):Kept (fun j=>bg Ab=some j\/j=bb) u3 zT).trans Gv (fun _ _ h=>.inr h);have abg:lU Dp y.heap.size q sm bb ⟨s,sc+1,cC G s l,(jE k G s l i).bl++ [true]⟩ K3 A n cp E' (e+1) rk:=Pf.Gt qP
     (fun e=>e.elim (fun e=>by have:=HF q e;omega) (fun e=>hS.qs.2.1 e)) (fun e=>e.elim (fun e=>by have:=HF sm e;omega) (fun e=>hS.qs.2.2 e))
     (fun j hj e=>e.elim (fun e=>Po j e hj) (fun e=>by have:=(Row.bC Pf.bl hj).1;omega)) (fun a ha e=>e.elim (fun e=>by have:=HF _ e;have:=(hS.mA a ha).1;omega) (fun e=>(hS.mA a ha).2.2.2 e))
    have sn:bQ Dp y.heap.size A6 (nb+1) c6 (bl++ [x]):=Row.aC KZ Gv (fun j hj e=>by have:=(Row.bC KZ hj).1;omega);rw [dq (n:=(i:Int)) (by omega) (by omega)];have xm:jE k G s l (i+1)=⟨(jE k G s l i).wd++ [x],(jE k G s l i).bl++ [true]⟩:=by rw [oh,ly,<-Ma];rfl
    have ZG:K3=yE G.D (jE k G s l i).wd ov (lY m.sz ch) x:=by
     funext z
     unfold yE;rw [Z7];by_cases hz:z∈jM
     ·rw [if_pos ((c3 z).1 hz)]
      exact(hinv z).2.1 hz (Tg z)
     ·rw [if_neg (fun e=>hz ((c3 z).2 e)),(hinv z).2.2 (.inl hz),c2]
    refine⟨(i:Int)+1,rfl,⟨i+1,rfl,dQ,⟨K3,E',e+1,rk,A6,nb+1,c6,bl++ [x],?_,Uw,sn,?_,?_,?_,?_,?_,by omega⟩,?_⟩,by simp only;omega⟩
    ·rw [xm]
     have ec:G.score s+1+((jE k G s l i).bl++ [true]).count true=sc+1:=by rw [List.count_append,<-Bb];simp;omega
     show lU Dp y.heap.size q sm bb ⟨s,G.score s+1+((jE k G s l i).bl++ [true]).count true,cC G s l,(jE k G s l i).bl++ [true]⟩ K3 A n cp E' (e+1) rk
     rw [ec];exact abg
    ·rw [xm]
     show(jE k G s l i).wd++ [x]=_;rw [Qc,List.append_assoc]
    ·intro j hj he
     rcases abC j hj with h1|h1
     ·exact Po j h1 he
     ·obtain⟨_,cur,h2⟩:=Row.bC Pf.bl he
      have:=aQ h2;omega
    ·rw [xm,ZG]
     exact hO.step Wi
    ·rw [xm]
     exact List.nodup_append.2 ⟨eQ,by simp,fun a ha b hb e=>by
      have:b=x:=by simpa using hb
      subst this;subst e;exact Wi ha⟩
    ·intro z hz
     rcases List.mem_append.1 hz with hz|hz
     ·exact LB z hz
     ·have:z=x:=by simpa using hz
      subst this;rw [List.take_add_one,hx];simp
    ·exact ky3.trans qP (fun j hj e=>by
      rcases e with e|e
      ·have:=HF j e;omega
      ·exact .inr (.inr e))
   ·have YG:=(hinv z).1 hl
    rw [if_pos YG]at Wz;cases Wz;have hkz:=cY z YG;refine .inr ⟨_,_,u4,ju,z.1,(kn z:Int),aaz,?_⟩;intro Iq;obtain⟨NU,zn,xt⟩:=gg (w:=u4) (z:=dO.1) (cs:=z.1) (t:=aj) (by rw [z.2.1];rfl);refine⟨⟨z.2.1,z.2.one,fun j hj=>NU j (by rw [z.2.1];exact hj)⟩,?_⟩;intro VV PQ
    replace zn:VV.heap[u4.heap.size]? =some (.cells z.1 aj (0,0)):=zn
    replace xt:Kept Nil u4 VV:=xt
    have Wf:Kept Nil VV PQ:=(Kept.refl _ _).drew;clear_value PQ VV;have aaX:=Wf.heap zn (fun h=>h);have Le:=xt.tt Wf;have CB:Kept (· =sP.heap.size) u3 PQ:=k4.trans Le (fun _ _ h=>h.elim);have hE3:∀j,bg E'=some j->j≠sP.heap.size:=fun j hj e=>by
     obtain⟨_,cur,h2⟩:=Row.bC UY.bl hj;have:=aQ h2;omega
    have UW:=Pf.Gt CB (by omega) (by omega) (fun j hj e=>hE3 j hj e) (fun a ha e=>by have:=(hS.mA a ha).1;omega);have Yg:Kept (fun j=>j=q\/j=sm\/j=bb) y PQ:=ky3.trans CB (fun j hj e=>by omega);have LX:=Z9.aC Le (fun h=>h) (fun h=>h);obtain⟨Dw,SF,UZ,AT⟩:=UW.note z (kn z+1);have ekz:i64.wrap ((kn z:Int)+(1:Int))=((kn z+1:Nat):Int):=by rw [dq (n:=(kn z:Int)) (by omega) (by omega)];omega
    have s3:=CB.size;refine⟨_,zg Yg K5,some sm,UW.f35,z.1,⟨z.2.1,Cells.bC aaX⟩,Dw,by rw [ekz];exact SF,?_⟩;refine⟨(),rfl,⟨_,abV,_,LX.aC AT (by omega) (by omega),UZ,fun y'=>?_,?_⟩,?_⟩
    ·obtain⟨i1,i2,i3⟩:=hinv y'
     refine⟨fun h=>i1 h.1,fun h1 h2=>?_,fun h=>?_⟩
     ·by_cases e:y'=z
      ·subst e;simp only [if_true]
      ·simp only [if_neg e]
       exact i2 h1 (fun h=>h2 ⟨h,e⟩)
     ·have e:y'≠z:=by
       rcases h with h|h
       ·exact fun e=>h (by rw [e];exact YG)
       ·exact h.2
      simp only [if_neg e];exact i3 (h.imp_right fun h=>h.1)
    ·exact(ku.trans CB (fun j hj e=>.inr e)).trans AT (fun j hj e=>.inl e)
    ·show Dw.rangeLeft hU.heap.size sP.heap.size<u3.rangeLeft hU.heap.size sP.heap.size
     rw [OD.left_eq,(LX.aC AT (by omega) (by omega)).left_eq];exact cH
 ·rw [aP,ai.jB]
  have:i=n:=by omega
  subst this;have e1:=Cd k G s l;rw [TB]at e1;rw [e1]at hS hO;have hsq:v.heap[bs]? =some (.cells #[.pointer (some ⟨q,0,none⟩)] eU (0,0)):=kv.heap V.hs (by omega);exact⟨some ⟨q,0,none⟩,by rw [ay hsq];rfl,hK v ov E e ce hS hO kv⟩
end
def Di(N:Nat):Prop:=∀ {w:World} {F:Nat->Prop} {c k:Nat} {G:GS} {m:CM} {B:Nat} {A:Option Addr} {n cx:Nat} {l:List HT} {K:Value->World->Prop},CV w F c k G m->bQ w B A n cx l->n<=N->l.Nodup->(∀x∈l,x∈ids G.D)->
 (∀j,bg A=some j->¬m.own c j/\¬F j)->(∀l' w',SO G l'->(∀x,x∈l'↔x∈l)->bQ w' B A n cx l'->Kept (fun j=>bg A=some j) w w'->K (.tuple #[]) w')->
 bk prog iC.id #[.slice A n cx,.func (.func bp.id) #[.pointer (some ⟨c,0,none⟩)] #[]] w K
section
variable{y v w w':World}{F:Nat->Prop}{c k:Nat}{G:GS}{m:CM}{s:HT}{l ch:List HT}{bs bc bh q sm nL cL:Nat}{AL:Option Addr}{K:Value->World->Prop}
set_option maxHeartbeats 4000000 in
theorem An{N:Nat}(ze:Di N)(hN:(rI G.D s l).length<=N)(C:CV y F c k G m)(hD:G.D.length<=5000)(pS:k<=1000)(hs:s∈ids G.D)(hc:cP G.D G.P s ch)(hl:∀x∈l,x∈ids G.D)
 (V:VB y c s bs bc bh q sm (fun _=>none)) (hS:xZ y y.heap.size q sm ⟨s,G.score s+1,[],[]⟩ (fun _=>none) none 0 0 none 0 0)
 (hL:HS y AL nL (de (cy G.D l++l))) (hAL:∀a,AL=some a->a.block≠q)
 (gR:∀j,(m.own c j\/F j\/j=bs\/j=bc\/j=bh)->j≠q/\j≠sm)
 (hK:∀v B bb ov A n cp E e ce,lU v B q sm bb (cQ k G s l) ov A n cp E e ce->OV G.D (fg k G s l).wd ov (lY m.sz ch)->(∀a,A=some a->y.heap.size<=a.block)->(y.heap.size<=B/\B<=v.heap.size)->Kept (fun j=>j=q\/j=sm) y v->K (.pointer (some ⟨q,0,none⟩)) v):
 Holds none [] prog 153 (.loop (lB (bB (sR (sL (sR (sR (sR (body ai.fn))))))))) (ai.q1 K)
  [(3,.pointer (some ⟨bc,0,none⟩)),(4,.pointer (some ⟨bh,0,none⟩)),(6,.pointer none),(8,.pointer (some ⟨bs,0,none⟩)),(46,.slice AL nL cL),(47,.int .i64 (nL:Int)),(48,.int .i64 0)] y:=by
 have W:=C.eo.W;have lbs:=aQ V.hs;have lbc:=aQ V.hc;have lbh:=aQ V.hh;have W1:=gR bs (.inr (.inr (.inl rfl)));have W4:=gR bc (.inr (.inr (.inr (.inl rfl))));have W3:=gR bh (.inr (.inr (.inr (.inr rfl))));have aeE:=hL.len;have hLi:∀x∈de (cy G.D l++l),x∈ids G.D:=fun x hx=>by
  rcases List.mem_append.1 (df.1 hx)with h|h
  ·exact(iw.1 h).1
  ·exact hl x h
 have hLn:nL<=5000:=by
  have:=cJ (gN _).nodup hLi;rw [fN]at this;omega
 generalize hLL:de (cy G.D l++l)=L at*;refine ai.cf (I:=fun s0 v=>∃i:Nat,s0=(i:Int)/\i<=nL/\(∃A n cp,xZ v y.heap.size q sm ⟨s,G.score s+1,(L.take i).filter fun h=>decide (h≠s/\¬eB G.D h s),[]⟩ (fun _=>none) A n cp none 0 0)/\Kept (· =q) y v) (μ:=fun s0 _=>((nL:Int)-s0).toNat) (s:=0) ⟨0,rfl,Nat.zero_le _,⟨none,0,0,hS⟩,Kept.refl _ _⟩ ?_;rintro s0 v ⟨i,rfl,hi,⟨A,n,cp,Ku⟩,kv⟩;have sv:=kv.size;have TC:=bQ.len Ku.mg;have hnA:n<=5000:=by
  have h1:=List.length_filter_le (fun h=>decide (h≠s/\¬eB G.D h s)) (L.take i);have h2:=List.length_take_le i L;have h3:((L.take i).filter fun h=>decide (h≠s/\¬eB G.D h s)).length=n:=TC;omega
 refine Split.dec (fun jb=>?_) (fun fV=>?_)
 ·have dQ:i<nL:=by omega
  obtain⟨x,hx⟩:∃x,L[i]? =some x:=⟨_,List.getElem?_eq_getElem (by omega)⟩;have EM:L.take (i+1)=L.take i++ [x]:=by rw [List.take_add_one,hx];rfl
  have hLv:HS v AL nL L:=hL.aC kv hAL;refine hLv.load (i:=(i:Int)) (by omega) hx ?_;intro lV;obtain⟨qR,iD,iH⟩:=gg (w:=v) (z:=dO.1) (cs:=x.1) (t:=aj) (by rw [x.2.1];rfl);refine⟨⟨x.2.1,x.2.one,fun j hj=>qR j (by rw [x.2.1];exact hj)⟩,?_⟩;intro hU mF
  replace iD:hU.heap[v.heap.size]? =some (.cells x.1 aj (0,0)):=iD
  replace iH:Kept Nil v hU:=iH
  have sE:Kept Nil hU mF:=(Kept.refl _ _).drew;clear_value mF hU;have Hu:=sE.heap iD (fun h=>h);have Nf:=iH.tt sE;have Ed:Kept (· =q) y mF:=kv.trans Nf (fun _ _ h=>h.elim);have C15:CV mF F c k G m:=C.aC Ed (fun j hj e=>(gR j (.inl hj)).1 e) (fun j hj e=>(gR j (.inr (.inl hj))).1 e);have hcy:∀ {u:World},Kept (· =q) y u->u.cell? ⟨bc,0,none⟩=some (.pointer (some ⟨c,0,none⟩)):=fun ku=>by rw [ay (ku.heap V.hc W4.1)];rfl
  have JL:∀ {u:World},Kept (· =q) y u->u.cell? ⟨bs,0,none⟩=some (.pointer (some ⟨q,0,none⟩)):=fun ku=>by rw [ay (ku.heap V.hs W1.1)];rfl
  have next:∀ {u:World} {A':Option Addr} {n' vC:Nat},xZ u y.heap.size q sm ⟨s,G.score s+1,(L.take (i+1)).filter fun h=>decide (h≠s/\¬eB G.D h s),[]⟩ (fun _=>none) A' n' vC none 0 0->Kept (· =q) y u->
   ∃s1:Int,i64.wrap ((i:Int)+(1:Int))=s1/\(∃i':Nat,s1=(i':Int)/\i'<=nL/\(∃A n cp,xZ u y.heap.size q sm ⟨s,G.score s+1,(L.take i').filter fun h=>decide (h≠s/\¬eB G.D h s),[]⟩ (fun _=>none) A n cp none 0 0)/\Kept (· =q) y u)/\((nL:Int)-s1).toNat<((nL:Int)-(i:Int)).toNat:=fun h1 h2=>by
   rw [dq (n:=(i:Int)) (by omega) (by omega)];exact⟨(i:Int)+1,rfl,⟨i+1,rfl,dQ,⟨_,_,_,h1⟩,h2⟩,by omega⟩
  refine⟨x.1,⟨x.2.1,Cells.bC Hu⟩,s.1,⟨s.2.1,Cells.bC (Ed.heap V.hh W3.1)⟩,⟨x.2.ints,s.2.ints⟩,?_⟩;rw [du];by_cases JJ:x=s
  ·refine Split.no (by rw [decide_eq_true JJ];rfl) ?_
   obtain⟨s1,e1,e2,e3⟩:=next (u:=mF) (by
    rw [EM,List.filter_append];have: [x].filter (fun h=>decide (h≠s/\¬eB G.D h s))= []:=by rw [List.filter_cons_of_neg (by simp [JJ])];rfl
    rw [this,List.append_nil];exact Ku.same Nf) Ed
   rw [e1];exact⟨s1,rfl,e2,e3⟩
  ·refine Split.yes (by rw [decide_eq_false JJ];rfl) ⟨_,hcy Ed,_,C15.c1,x.1,⟨x.2.1,Cells.bC Hu⟩,s.1,⟨s.2.1,Cells.bC (Ed.heap V.hh W3.1)⟩,?_⟩
   obtain⟨mx,X15,_⟩:=C15.X;refine kW X15 hD x s fun Dr r hr zY=>⟨r,rfl,?_⟩;have Jo:Kept (· =q) y Dr:=Ed.trans zY (fun _ _ h=>h.elim);have RE:=Nf.tt zY;cases r with
   |true=>
    refine Split.no rfl ?_;obtain⟨s1,e1,e2,e3⟩:=next (u:=Dr) (by
     rw [EM,List.filter_append];have: [x].filter (fun h=>decide (h≠s/\¬eB G.D h s))= []:=by rw [List.filter_cons_of_neg (by simp [hr.1 rfl])];rfl
     rw [this,List.append_nil];exact Ku.same RE) Jo
    rw [e1];exact⟨s1,rfl,e2,e3⟩
   |false=>
    refine Split.yes rfl ?_;intro ya;have GD:Kept Nil Dr ya:=(Kept.refl _ _).drew;clear_value ya;have Yn:=RE.tt GD;have yS:Kept (· =q) y ya:=Jo.trans GD (fun _ _ h=>h.elim);have HC:=Ku.same Yn;refine⟨_,JL yS,_,JL yS,A,n,cp,HC.f33,x.1,⟨x.2.1,Cells.bC ((zY.tt GD).heap Hu (fun h=>h))⟩,x.2.1,?_⟩;intro la;have pQ:Kept Nil ya la:=(Kept.refl _ _).alloc _;have YR:HS la (some ⟨ya.heap.size,0,none⟩) 1 [x]:=iq ya x;clear_value la;have HB:=HC.same pQ;have uq:Kept (· =q) y la:=yS.trans pQ (fun _ _ h=>h.elim);have VZ:=uq.size;obtain⟨A',vC,u,Sv,ku,HA,k5,YV⟩:=HB.Re VZ (by omega) YR;have Yf:Kept (· =q) y u:=uq.trans ku (fun j hj e=>by omega);refine⟨HB.f33,JL uq,JL uq,A',n+1,vC,u,Sv,JL Yf,YV,?_⟩;intro vh
    replace HA:xZ vh y.heap.size q sm _ (fun _=>none) A' (n+1) vC none 0 0:=HA
    replace k5:Kept (fun j=>j=q\/y.heap.size<=j) la vh:=k5
    clear_value vh;obtain⟨s1,e1,e2,e3⟩:=next (u:=vh) (by
     rw [EM,List.filter_append];have: [x].filter (fun h=>decide (h≠s/\¬eB G.D h s))= [x]:=by rw [List.filter_cons_of_pos (by simp only [decide_eq_true_eq];exact⟨JJ,fun e=>by have:=hr.2 e;cases this⟩)];rfl
     rw [this];exact HA) (uq.trans k5 (fun j hj e=>by
      rcases e with e|e
      ·exact e
      ·omega))
    rw [e1];exact⟨s1,rfl,e2,e3⟩
 ·rw [aP,ai.dh]
  have fF:i=nL:=by omega
  subst fF;rw [List.take_of_length_le (by omega)]at Ku;unfold ai.cO;intro re;have AS:Kept Nil v re:=(Kept.refl _ _).drew;clear_value re;have Bx:=Ku.same AS;have yR:Kept (· =q) y re:=kv.trans AS (fun _ _ h=>h.elim);have C33:CV re F c k G m:=C.aC yR (fun j hj e=>(gR j (.inl hj)).1 e) (fun j hj e=>(gR j (.inr (.inl hj))).1 e);have efl:(L.filter fun h=>decide (h≠s/\¬eB G.D h s))=rI G.D s l:=by unfold rI;rw [hLL]
  have Bf:bQ re y.heap.size A n cp (rI G.D s l):=by rw [<-efl];exact Bx.mg
  have Pn:∀j,bg A=some j->y.heap.size<=j/\j<re.heap.size:=fun j hj=>by obtain⟨g1,cur,g2⟩:=Row.bC Bf hj;exact⟨g1,aQ g2⟩
  refine⟨some ⟨q,0,none⟩,by rw [ay (yR.heap V.hs W1.1)];rfl,A,n,cp,Bx.f33,some ⟨c,0,none⟩,by rw [ay (yR.heap V.hc W4.1)];rfl,?_⟩;refine ze C33 Bf (by have:=bQ.len Bf;omega) (p8 _ _ _) (fun x hx=>hLi x (by rw [<-efl]at hx;exact(List.mem_filter.1 hx).1)) (fun j hj=>⟨fun e=>by have:=C.low j (.inl e);have:=(Pn j hj).1;omega,fun e=>by have:=C.low j (.inr e);have:=(Pn j hj).1;omega⟩) fun l' nh Eu gB Ha zX=>⟨rfl,?_⟩;have el:l'=cC G s l:=rJ Eu gB;subst el;have qB:=Ku.qB;have sB:=Ku.sB;have Zu:=Ku.qs;have s33:=yR.size;have Rt:Kept (· =q) y nh:=yR.trans zX (fun j hj e=>by have:=(Pn j e).1;omega);have NZ:=zX.heap Bx.top (fun e=>by have:=(Pn q e).1;omega);have S6:=Bx.ov.aC zX (fun e=>by have:=(Pn sm e).1;omega);intro gP sP;have lW:Kept Nil nh gP:=(Kept.refl _ _).alloc _;have UE:gP.heap[nh.heap.size]? =some (.cells #[.slice none 0 0] az (0,0)):=aJ nh _;have sS:Kept Nil gP sP:=(Kept.refl _ _).alloc _;have OC:sP.heap[gP.heap.size]? =some (.cells #[.nilFunc] eZ (0,0)):=aJ gP _;refine⟨dL OC (by simp),?_⟩;intro vP;have TJ:vP.heap[gP.heap.size]? =some (.cells #[.func (.func bR.id) #[] #[.pointer (some ⟨bs,0,none⟩),.pointer (some ⟨bc,0,none⟩),.pointer (some ⟨bh,0,none⟩)]] eZ (0,0)):=by
   show(sP.setCell ⟨gP.heap.size,0,none⟩ _).heap[gP.heap.size]? =_;rw [cV OC 0];rfl
  have Ej:Kept (· =gP.heap.size) sP vP:=Kept.setCell (S:=(· =gP.heap.size)) (Kept.refl _ sP) (p:=⟨gP.heap.size,0,none⟩) (fun _=>rfl) _;clear_value vP;have wu:=lW.tt sS;have VY:=lW.size;have s36:=sS.size;have l35:=aQ UE;have l36:=aQ OC;have CD:Kept Nil nh vP:=⟨Ej.os.trans wu.os,Ej.tape.trans wu.tape,Ej.output.trans wu.output,Nat.le_trans wu.size Ej.size,fun j hj hn=>by rw [Ej.block j (Nat.lt_of_lt_of_le hj wu.size) (by omega),wu.block j hj hn]⟩;have aa4:=Ej.heap (sS.heap UE (fun h=>h)) (by omega);have l37:=aQ TJ;clear_value sP gP;have Eb:Kept (· =q) y vP:=Rt.trans CD (fun _ _ h=>h.elim);have s34:=Rt.size;have s37:=Eb.size;have C37:CV vP F c k G m:=C.aC Eb (fun j hj e=>(gR j (.inl hj)).1 e) (fun j hj e=>(gR j (.inr (.inl hj))).1 e);have GY:=CD.heap NZ (fun h=>h);have LM:=S6.aC CD (fun h=>h);have Oe:bQ vP y.heap.size A n cp (cC G s l):=Row.aC Ha CD (fun _ _ h=>h);have V37:VB vP c s bs bc bh q sm (fun _=>none):=⟨Eb.heap V.hs W1.1,Eb.heap V.hc W4.1,Eb.heap V.hh W3.1,by rw [a8,ay GY];exact(dJ ..).2.2.2,LM⟩;have WS:∀a,A=some a->y.heap.size<=a.block/\a.block<nh.heap.size:=fun a ha=>by
   subst ha;obtain⟨g1,cur,g2⟩:=Row.bC Ha (k:=a.block) rfl;exact⟨g1,aQ g2⟩
  have UX:lU vP vP.heap.size q sm nh.heap.size ⟨s,G.score s+1,cC G s l,[]⟩ (fun _=>none) A n cp none 0 0:=
   ⟨GY,Oe.hs,fun a ha=>by have:=WS a ha;exact⟨by omega,by omega,by omega,by omega⟩,Row.nil _ _ _ _,LM,by omega,by omega,by omega,⟨Zu,by omega,by omega⟩⟩
  refine⟨some ⟨q,0,none⟩,by rw [ay V37.hs];rfl,A,n,cp,UX.f33,?_⟩;have Sh:(jE k G s l 0)=⟨G.world s++ [s],[]⟩:=rfl;refine Al (l:=l) C37 hD pS hs hc (fun x hx=>hLi x (by
   have h1:=(gB x).1 hx;rw [<-efl]at h1;exact(List.mem_filter.1 h1).1)) V37 TJ (fun j hj=>?_) ⟨⟨fun _=>none,none,0,0,none,0,0,[],UX,aa4,bQ.nil _ _,by rw [Sh,List.append_nil],fun j hj=>by simp [bg]at hj,by rw [Sh];exact C.Z |>.ov hs hc,?_,fun z hz=>by simp at hz,rfl⟩,Kept.refl _ _⟩ hnA fun v' ov E e ce h1 h2 h3=>?_
  ·have h1:j<y.heap.size\/j=gP.heap.size:=by
    rcases hj with h|h|h|h|h|h
    ·exact .inl (C.low j (.inl h))
    ·exact .inl (C.low j (.inr h))
    ·exact .inl (by omega)
    ·exact .inl (by omega)
    ·exact .inl (by omega)
    ·exact .inr h
   rcases h1 with h1|h1
   ·have h2:j≠q/\j≠sm:=by
     rcases hj with h|h|h|h|h|h
     ·exact gR j (.inl h)
     ·exact gR j (.inr (.inl h))
     ·exact gR j (.inr (.inr (.inl h)))
     ·exact gR j (.inr (.inr (.inr (.inl h))))
     ·exact gR j (.inr (.inr (.inr (.inr h))))
     ·omega
    exact⟨h2.1,h2.2,by omega⟩
   ·exact⟨by omega,by omega,by omega⟩
  ·rw [Sh]
   obtain⟨g1,g2,_⟩:=C.eo.wd s hs;exact List.nodup_append.2 ⟨g1,by simp,fun a ha b hb e=>by
    have:b=s:=by simpa using hb
    subst this;subst e;exact eB.irrefl W a (g2 a ha)⟩
  ·refine hK v' vP.heap.size nh.heap.size ov A n cp E e ce h1 h2 (fun a ha=>(WS a ha).1) ⟨s37,h3.size⟩ ?_
   exact(Eb.mono fun _ _ h=>.inl h).trans h3 (fun j hj e=>by
    rcases e with e|e|e
    ·exact .inl e
    ·exact .inr e
    ·omega)
end
theorem Py:QD prog bf=some ([(0,32),(32,1),(33,1),(34,1)],List.replicate 32 (.int .u8 0)++ [.int .u64 0,.slice none 0 0,.slice none 0 0]):=by kernel_rfl
theorem uW(h:HT)(z:Int):prog.built bf [(0,.agg h.1),(1,.int .u64 z)]=some (h.1++ #[.int .u64 z,.slice none 0 0,.slice none 0 0]):=by
 have hs:=h.2.1;rw [mU Py,iA (off:=0) (size:=32) rfl (by simpa [Value.cells]using hs) (by simp),iA (off:=32) (size:=1) rfl rfl (by
  rw [List.size_toArray,lD (by simp [Value.cells,hs])];simp)]
 simp only [Instr.fill,Option.some.injEq];apply Array.ext';unfold gq;simp [Value.cells,hs];rw [List.drop_append];simp [hs]
theorem KP:QD prog dN=some ([(0,35),(35,1)],List.replicate 32 (.int .u8 0)++ [.int .u64 0,.slice none 0 0,.slice none 0 0,.map none]):=by kernel_rfl
theorem wJ(c:nZ)(sm:Option Nat):prog.built dN [(0,.agg (cF c none 0 0 none 0 0)),(1,.map sm)]=some (cF c none 0 0 none 0 0++ #[.map sm]):=by
 have hs:=aX c none 0 0 none 0 0;rw [mU KP,iA (off:=0) (size:=35) rfl (by simpa [Value.cells]using hs) (by simp),iA (off:=35) (size:=1) rfl rfl (by
  rw [List.size_toArray,lD (by simp [Value.cells,hs])];simp)]
 simp only [Instr.fill,Option.some.injEq];apply Array.ext';unfold gq;simp [Value.cells,hs]
section
variable{g1 v w w':World}{F:Nat->Prop}{c k:Nat}{G:GS}{m:CM}{s:HT}{l ch:List HT}{bs bc bh q sm n cx:Nat}{A:Option Addr}{K:Value->World->Prop}
theorem IX{N:Nat}(ze:Di N)(hN:(rI G.D s l).length<=N)(C:CV g1 F c k G m)(hT:tc g1)(hD:G.D.length<=5000)(pS:k<=1000)(hs:s∈ids G.D)(hc:cP G.D G.P s ch)(hl:∀x∈l,x∈ids G.D)(Fs:HS g1 A n l)(hn:n<=5000)
 (V:VB g1 c s bs bc bh q sm (fun _=>none)) (iK:g1.heap[q]? =some (.cells (cF ⟨s,G.score s+1,[],[]⟩ none 0 0 none 0 0++ #[.map (some sm)]) dN (0,0)))
 (gR:∀j,(m.own c j\/F j\/j=bs\/j=bc\/j=bh)->j≠q/\j≠sm) (Zu:q≠sm) {p:Nat} (hp:∃mx,XV g1 m.FX m.x G.D G.P mx/\mx.g=p)
 (hK:∀v B bb ov A n cp E e ce,lU v B q sm bb (cQ k G s l) ov A n cp E e ce->OV G.D (fg k G s l).wd ov (lY m.sz ch)->(∀a,A=some a->g1.heap.size<=a.block)->(g1.heap.size<=B/\B<=v.heap.size)->Kept (fun j=>j=q\/j=sm) g1 v->K (.pointer (some ⟨q,0,none⟩)) v):
 bk prog aR.id #[.pointer (some ⟨p,0,none⟩),.slice A n cx] g1 fun i1 j1=>∃k1:Option Addr,∃m1 n1:Nat,i1=.slice k1 m1 n1/\
  ∃(o1:Option Addr) (p1 q1:Nat) (r1:World),(Builtin.append_ #[az,az] az #[.slice k1 m1 n1,.slice A n cx]).run prog j1=.ok (.slice o1 p1 q1) r1/\
  bk prog iM.id #[.slice o1 p1 q1] r1 fun t1 u1=>∃v1:Option Addr,∃x1 y1:Nat,t1=.slice v1 x1 y1/\
  Holds none [] prog 153 (.loop (lB (bB (sR (sL (sR (sR (sR (body ai.fn))))))))) (ai.q1 K)
   [(3,.pointer (some ⟨bc,0,none⟩)),(4,.pointer (some ⟨bh,0,none⟩)),(6,.pointer none),(8,.pointer (some ⟨bs,0,none⟩)),(46,.slice v1 x1 y1),(47,.int .i64 (x1:Int)),(48,.int .i64 0)] u1:=by
 have W:=C.eo.W;obtain⟨mx,X,rfl⟩:=hp;obtain⟨bl,c',mb,M,GG⟩:=X.G;have lq:=aQ iK;have lsm:=V.ov.lt;refine uQ GG W (by omega) hT Fs (by omega) fun A1 c1 w1 jW k1=>⟨A1,_,c1,rfl,?_⟩;have pH:(cy G.D l).length<=5000:=Nat.le_trans (jK _ _) hD;have s1:=k1.size;obtain⟨A2,c2,w2,ju,fz,g2,Vb⟩:=cD az jW (cx:=cx) (Fs.same k1) (by omega) s1;have k2:Kept (fun j=>g1.heap.size<=j) w1 w2:=(Kept.refl _ _).grown g2 fun j hj _=>(Row.bC jW hj).1;have og:Kept Nil g1 w2:=k1.trans k2 (fun j hj e=>by omega);refine⟨A2,_,c2,w2,ju,?_⟩;refine gK fz.hs (by omega) fun A3 c3 w3 lX k3=>⟨A3,_,c3,rfl,?_⟩;have mh:=og.tt k3;have s02:=og.size;have s03:=mh.size;have V3:=V.same mh;refine An (l:=l) ze hN (C.same mh) hD pS hs hc hl V3 ⟨mh.heap iK (fun h=>h),bQ.nil _ _,Row.nil _ _ _ _,V3.ov,by omega,by omega,Zu,fun j hj=>by simp [bg]at hj⟩ lX.hs (fun a ha=>?_) gR fun v B bb ov A n cp E e ce h1 h2 h3 h4 h5=>?_
 ·subst ha
  have:=(Row.bC lX (k:=a.block) rfl).1;omega
 ·exact hK v B bb ov A n cp E e ce h1 h2 (fun a ha=>Nat.le_trans s03 (h3 a ha)) ⟨Nat.le_trans s03 h4.1,h4.2⟩ ((mh.mono fun _ _ h=>h.elim).tt h5)
end
section
variable{w w':World}{F:Nat->Prop}{c k:Nat}{G:GS}{m:CM}{s:HT}{l ch:List HT}{n cx:Nat}{A:Option Addr}{K:Value->World->Prop}
set_option maxHeartbeats 4000000 in
theorem BA{N:Nat}(ze:Di N)(hN:(rI G.D s l).length<=N)(C:CV w F c k G m)(hT:tc w)(hD:G.D.length<=5000)(pS:k<=1000)(hs:s∈ids G.D)(hc:cP G.D G.P s ch)(hl:∀x∈l,x∈ids G.D)(Fs:HS w A n l)(hn:n<=5000)
 (hK:∀v q B sm bb ov A n cp E e ce,lU v B q sm bb (cQ k G s l) ov A n cp E e ce->OV G.D (fg k G s l).wd ov (lY m.sz ch)->w.heap.size<=q->w.heap.size<=sm->(∀a,A=some a->w.heap.size<=a.block)->(w.heap.size<=B/\B<=v.heap.size)->Kept Nil w v->K (.pointer (some ⟨q,0,none⟩)) v):
 bk prog ai.id #[.pointer (some ⟨c,0,none⟩),.agg s.1,.slice A n cx] w K:=by
 refine ai.of ?_;unfold ai.W;intro w1 w2;have k1:Kept Nil w w1:=(Kept.refl _ _).alloc _;have Ul:w1.heap[w.heap.size]? =some (.cells #[.pointer (some ⟨c,0,none⟩)] fH (0,0)):=aJ w _;have k2:Kept Nil w1 w2:=(Kept.refl _ _).alloc _;have Bd:w2.heap[w1.heap.size]? =some (.cells s.1 aj (0,0)):=aJ w1 _;clear_value w2;have L6:=k2.heap Ul (fun h=>h);have og:=k1.tt k2;have s1:=k1.size;have l1:=aQ Ul;have l2:=aQ Bd;clear_value w1;have C2:=C.same og;obtain⟨mx2,X2,_⟩:=C2.X;refine⟨some ⟨c,0,none⟩,by rw [ay L6];rfl,_,C2.c1,gw.of (Split.no rfl (Is.mk rfl ⟨_,X2.c0,⟨_,rfl,?_⟩⟩))⟩;intro w3;have k3:Kept Nil w2 w3:=(Kept.refl _ _).drew;clear_value w3;have mh:=og.tt k3;have Ui:=k3.heap L6 (fun h=>h);have Bc:=k3.heap Bd (fun h=>h);have C3:=C.same mh;obtain⟨A1,n1,c1,B1,m1,d1,s1',sa⟩:=C3.seen s hs;have Oc:G.score s<=5000:=by
  have h1:=(C.eo.wd s hs).2.2;have h2:=cJ (m:=ids G.D) (C.eo.wd s hs).1 (fun b hb=>(((C.eo.wd s hs).2.1 b hb).mem C.eo.W).1);rw [fN]at h2;omega
 have ew:u64.wrap (((G.eK s).score:Int)+(1:Int))=((G.score s+1:Nat):Int):=by
  show u64.wrap ((G.score s:Int)+(1:Int))=_
  rw [show(G.score s:Int)+1=((G.score s+1:Nat):Int)by omega];exact jk (by omega)
 have mi:∀ {u:World},Kept Nil w3 u->u.cell? ⟨w.heap.size,0,none⟩=some (.pointer (some ⟨c,0,none⟩)):=fun ku=>by rw [ay (ku.heap Ui (fun h=>h))];rfl
 have tp:∀ {u:World},Kept Nil w3 u->∃cs:Array Value,(.agg s.1:Value)=.agg cs/\cs.size=32/\Cells u ⟨w1.heap.size,0,none⟩ cs:=fun ku=>⟨s.1,rfl,s.2.1,Cells.bC (ku.heap Bc (fun h=>h))⟩;have kY:∀ {u:World},Kept Nil w3 u->u.cell? (((⟨m.q s,0,none⟩:Addr).add 0).add 32)=some (.int .u64 ((G.eK s).score:Int)):=fun ku=>(sa.aC ku (fun _ _ h=>h)).Px;have l3:=aQ Bc;have s3:=k3.size;refine⟨s.1,⟨s.2.1,Cells.bC Bc⟩,some ⟨c,0,none⟩,mi (Kept.refl _ _),_,C3.c2,s.1,⟨s.2.1,Cells.bC Bc⟩,_,C3.lJ hs,_,kY (Kept.refl _ _),?_⟩;rw [ew];rw [uW s];refine Is.mk rfl ?_;have EN:(s.1++ #[.int .u64 ((G.score s+1:Nat):Int),.slice none 0 0,.slice none 0 0]:Array Value)=cF ⟨s,G.score s+1,[],[]⟩ none 0 0 none 0 0:=rfl;rw [EN];have go:∀ {u:World} {q sm bs:Nat},Kept Nil w3 u->w3.heap.size<=q->w3.heap.size<=sm->w3.heap.size<=bs->q≠sm->bs≠q->bs≠sm->
  u.heap[q]? =some (.cells (cF ⟨s,G.score s+1,[],[]⟩ none 0 0 none 0 0++ #[.map (some sm)]) dN (0,0))->fk u sm (fun _=>none)->u.heap[bs]? =some (.cells #[.pointer (some ⟨q,0,none⟩)] eU (0,0))->_:=
  fun {u q sm bs} ku hq vf WH h1 h2 h3 iK Ov iq=>IX (g1:=u) (bs:=bs) (bc:=w.heap.size) (bh:=w1.heap.size) (q:=q) (sm:=sm) (cx:=cx) (K:=K) (p:=mx2.g) ze hN (C3.same ku) (hT.same (mh.tt ku)) hD pS hs hc hl (Fs.same (mh.tt ku)) hn
   ⟨iq,ku.heap Ui (fun h=>h),ku.heap Bc (fun h=>h),by rw [a8,ay iK];exact(dJ ..).2.2.2,Ov⟩ iK
   (fun j hj=>by
     rcases hj with h|h|h|h|h
     ·have:=C.low j (.inl h);exact⟨by omega,by omega⟩
     ·have:=C.low j (.inr h);exact⟨by omega,by omega⟩
     ·exact⟨by omega,by omega⟩
     ·exact⟨by omega,by omega⟩
     ·exact⟨by omega,by omega⟩) h1 ⟨mx2,X2.same (k3.tt ku),rfl⟩
   (fun v B bb ov A n cp E e ce t1 t2 t3 t4 t5=>hK v q B sm bb ov A n cp E e ce t1 t2 (by omega) (by omega) (fun a ha=>by have:=t3 a ha;have:=(mh.tt ku).size;omega) ⟨by have:=(mh.tt ku).size;have:=t4.1;omega,t4.2⟩ ((mh.tt ku).trans t5 (fun j hj e=>by omega)))
 have MS:∀ {u0:World} {b q:Nat},u0.heap[b]? =some (.cells #[.pointer none] eU (0,0))->Wr u0 ⟨b,0,none⟩/\∀u1,u1=u0.setCell ⟨b,0,none⟩ (.pointer (some ⟨q,0,none⟩))->u1.heap[b]? =some (.cells #[.pointer (some ⟨q,0,none⟩)] eU (0,0))/\Kept (· =b) u0 u1:=fun {u0 b q} hb=>⟨dL hb (by simp),fun u1 e=>by
  subst e;refine⟨?_,Kept.setCell (S:=(· =b)) (Kept.refl _ u0) (p:=⟨b,0,none⟩) (fun _=>rfl) _⟩;rw [cV hb 0];rfl⟩
 refine⟨?_,?_⟩
 ·intro w4
  have k4:Kept Nil w3 w4:=(Kept.refl _ _).alloc _;have ZV:fk w4 w3.heap.size (fun _=>none):=fk.new w3;clear_value w4;have l4:=ZV.lt;refine⟨kY k4,(C3.same k4).lJ hs,tp k4,(C3.same k4).c2,mi k4,tp k4,?_⟩;rw [wJ];refine Is.mk rfl ⟨?_,?_⟩
  ·intro w5 w6
   have k5:Kept Nil w4 w5:=(Kept.refl _ _).alloc _;have hq5:w5.heap[w4.heap.size]? =some (.cells (cF ⟨s,G.score s+1,[],[]⟩ none 0 0 none 0 0++ #[.map (some w3.heap.size)]) dN (0,0)):=aJ w4 _;have k6:Kept Nil w5 w6:=(Kept.refl _ _).alloc _;have nM:w6.heap[w5.heap.size]? =some (.cells #[.pointer none] eU (0,0)):=aJ w5 _;clear_value w6;have SK:=k6.heap hq5 (fun h=>h);have l5:=aQ hq5;clear_value w5;have Nk:=k5.tt k6;have sS:=k4.tt Nk;have s36:=sS.size;obtain⟨t1,t2⟩:=MS (q:=w4.heap.size) nM;refine⟨t1,?_⟩;intro w7;obtain⟨t3,t4⟩:=t2 w7 rfl;clear_value w7;exact go (sS.trans t4 (fun j hj e=>by omega)) (by omega) (by omega) (by omega) (by omega) (by omega) (by omega) (t4.heap SK (by omega)) ((ZV.same Nk).aC t4 (by omega)) t3
  ·intro w5
   have k5:Kept Nil w4 w5:=(Kept.refl _ _).alloc _;have nz:w5.heap[w4.heap.size]? =some (.cells #[.pointer none] eU (0,0)):=aJ w4 _;clear_value w5;have l5:=aQ nz;have lW:=k4.tt k5;refine⟨kY lW,(C3.same lW).lJ hs,tp lW,(C3.same lW).c2,mi lW,tp lW,?_⟩;intro w6;have k6:Kept Nil w5 w6:=(Kept.refl _ _).alloc _;have SK:w6.heap[w5.heap.size]? =some (.cells (cF ⟨s,G.score s+1,[],[]⟩ none 0 0 none 0 0++ #[.map (some w3.heap.size)]) dN (0,0)):=aJ w5 _;clear_value w6;have Nk:=k5.tt k6;have sS:=k4.tt Nk;have VY:=lW.size;obtain⟨t1,t2⟩:=MS (q:=w5.heap.size) (k6.heap nz (fun h=>h));refine⟨t1,?_⟩;intro w7;obtain⟨t3,t4⟩:=t2 w7 rfl;clear_value w7;exact go (sS.trans t4 (fun j hj e=>by omega)) (by omega) (by omega) (by omega) (by omega) (by omega) (by omega) (t4.heap SK (by omega)) ((ZV.same Nk).aC t4 (by omega)) t3
 ·intro w4
  have k4:Kept Nil w3 w4:=(Kept.refl _ _).alloc _;have rj:w4.heap[w3.heap.size]? =some (.cells #[.pointer none] eU (0,0)):=aJ w3 _;clear_value w4;have l4:=aQ rj;refine⟨kY k4,(C3.same k4).lJ hs,tp k4,(C3.same k4).c2,mi k4,tp k4,?_⟩;intro w5;have k5:Kept Nil w4 w5:=(Kept.refl _ _).alloc _;have hm5:fk w5 w4.heap.size (fun _=>none):=fk.new w4;clear_value w5;have l5:=hm5.lt;have lW:=k4.tt k5;refine⟨kY lW,(C3.same lW).lJ hs,tp lW,(C3.same lW).c2,mi lW,tp lW,?_⟩;rw [wJ];refine Is.mk rfl ?_;intro w6;have k6:Kept Nil w5 w6:=(Kept.refl _ _).alloc _;have SK:w6.heap[w5.heap.size]? =some (.cells (cF ⟨s,G.score s+1,[],[]⟩ none 0 0 none 0 0++ #[.map (some w4.heap.size)]) dN (0,0)):=aJ w5 _;clear_value w6;have sS:=lW.tt k6;have VY:=lW.size;obtain⟨t1,t2⟩:=MS (q:=w5.heap.size) ((k5.tt k6).heap rj (fun h=>h));refine⟨t1,?_⟩;intro w7;obtain⟨t3,t4⟩:=t2 w7 rfl;clear_value w7;exact go (sS.trans t4 (fun j hj e=>by omega)) (by omega) (by omega) (by omega) (by omega) (by omega) (by omega) (t4.heap SK (by omega)) ((hm5.same k6).aC t4 (by omega)) t3
end
end Go.Proofs.YtnboahlopghcjaaGreatDoor
