import Derived.Test.YtfleamccglihoaaGreatDoorMQ
import Derived.Test.YtfleamccglihoaaGreatDoorMG
import Derived.Test.YtfleamccglihoaaGreatDoorMJ
import Derived.Sort.AssemblyPlain
import Derived.Test.YtfleamccglihoaaGreatDoorMO
open Go.IntKind (i64 u64)
set_option linter.unusedVariables false
namespace Go.Proofs.YtfleamccglihoaaGreatDoor
open Go.Proofs.Tryz
open Go Go.bR Go.RowKit
section
variable{w w':World}{A B:Option Addr}{n cp m cq:Nat}{K:Value->World->Prop}
theorem Bo.none{l:List Bool}(h:Bo w none n l):n=0/\l= []:=by
 cases l with
 |nil=>exact⟨h.len.symm,rfl⟩
 |cons b l=>
  obtain⟨a,h1,_⟩:=h.at_ 0 b rfl;cases h1
theorem Bo.cells{a:Addr}{l:List Bool}(h:Bo w (some a) n l):∀j u,(rY l)[j]? =some u->w.cell? (a.add j)=some u:=by
 intro j u hj;unfold rY at hj;rw [List.getElem?_map]at hj;cases hb:l[j]? with
 |none=>rw [hb]at hj;cases hj
 |some b=>
  rw [hb]at hj;cases hj;obtain⟨a',h1,_,h3⟩:=h.at_ j b hb;cases h1;exact h3
theorem Row.bo{l:List Bool}{C:Nat}(h:Row w C iq 1 A n cp (rY l)):Bo w A n l:=by
 have hlen:=Row.len h;refine⟨by simpa [rY]using hlen,fun i b hi=>?_⟩;have dP:=(lgeS hi).1;have hn:0<n:=by simp [rY]at hlen;omega
 obtain⟨k,rfl⟩:=Row.some h hn;obtain⟨_,cur,kR⟩:=Row.bE h (k:=k) rfl;exact⟨_,rfl,aT kR,Row.cells h i _ (by simp [rY,hi])⟩
theorem CL{l:List Bool}(hl:Bo w A n l)(hn:n<=400000)(hK:∀A' c' w',Row w' w.heap.size iq 1 A' n c' (rY l)->Kept Nil w w'->K (.slice A' n c') w'):
 bk prog dG.id #[.slice A n cp] w K:=by
 have hlen:=hl.len;refine dG.of ?_;cases A with
 |none=>
  obtain⟨rfl,rfl⟩:=hl.none;exact Split.yes rfl (hK none 0 w (Row.nil _ _ _ _) (Kept.refl _ _))
 |some a=>
  refine Split.no rfl ?_;intro w2;have k2:Kept Nil w w2:=(Kept.refl _ _).alloc _;have r0:Row w2 w.heap.size iq 1 (some ⟨w.heap.size,0,none⟩) 0 0 []:=Row.made (n:=0) (cur:= #[]) (aI w _) (Nat.le_refl _) rfl (Nat.zero_le _);clear_value w2;obtain⟨A',c',w4,hr,row,hg,_⟩:=fE (P:=prog) (t:=gA) (bytes:=1) (ty:=gA) BE r0 (a:=a) (m:=n) (cx:=cp) (news:=rY l) (by simp [rY,hlen]) (hl.same k2).cells (fun u hu=>by
   simp only [rY,List.mem_map]at hu;obtain⟨b,_,rfl⟩:=hu;rfl) (by omega) (by unfold maxLen;omega) k2.size
  rw [Nat.zero_add]at hr row;rw [List.nil_append]at row;exact⟨A',n,c',w4,hr,hK A' c' w4 row (Kept.eh k2 hg (fun k hk=>by cases hk;exact Nat.le_refl _))⟩
theorem oF(c:nN)(hm:HS w A n c.merge)(hb:Bo w B m c.fz)(hn:n<=400000)(XC:m<=400000)
 (hK:∀A' c1 B' c2 w',bI w' w.heap.size A' n c1 c.merge->Row w' w.heap.size iq 1 B' m c2 (rY c.fz)->(∀j,a8 A'=some j->a8 B'≠some j)->Kept Nil w w'->K (.agg (cG c A' n c1 B' m c2)) w'):
 bk prog gQ.id #[.agg (cG c A n cp B m cq)] w K:=by
 refine gQ.of ?_;unfold gQ.W;intro w1 w2 w3;have k1:Kept Nil w w1:=(Kept.refl _ _).alloc _;have MD:w1.heap[w.heap.size]? =some (.cells (cG c A n cp B m cq) bn (0,0)):=aI w _;have k2:Kept Nil w1 w2:=(Kept.refl _ _).alloc _;have jD:w2.heap[w1.heap.size]? =some (.cells zC bn (0,0)):=aI w1 _;have k3:Kept Nil w2 w3:=(Kept.refl _ _).drew;clear_value w3;have Cd:=k3.heap (k2.heap MD (fun h=>h)) (fun h=>h);have wi:=k3.heap jD (fun h=>h);have lC:=(k1.tt k2).tt k3;have s1:=k1.size;have l1:=aT MD;have l2:=aT jD;have s3:=k3.size;clear_value w2 w1;have g:=fZ c A n cp B m cq #[];rw [Array.append_empty]at g;refine⟨A,n,cp,by rw [bg,aA Cd];exact g.2.1,B,m,cq,by rw [bg,aA Cd];exact g.2.2.1,?_⟩;refine CK (hm.same lC) hn fun A' c1 w4 iE k4=>⟨A',n,c1,rfl,by rw [bg,aA (k4.heap Cd (fun h=>h))];exact g.2.2.1,?_⟩;have pE:=lC.tt k4;have s4:=k4.size;refine CL (hb.same pE) XC fun B' c2 w5 iY k5=>⟨B',m,c2,rfl,?_⟩;have nM:=k4.tt k5;have Rk:=nM.heap Cd (fun h=>h);have tL:=nM.heap wi (fun h=>h);have lO:=bf c A n cp B m cq;refine⟨by rw [bg];exact dO Rk (by omega),?_⟩;intro w6;have e33:=qL c A n cp B m cq #[] A' n c1;rw [Array.append_empty,Array.append_empty]at e33;have HY:w6.heap[w.heap.size]? =some (.cells (cG c A' n c1 B m cq) bn (0,0)):=by
  show(w5.setCell ((⟨w.heap.size,0,none⟩:Addr).add 33) (.slice A' n c1)).heap[w.heap.size]? =_;rw [bg,dc Rk,e33]
 have k6:Kept (· =w.heap.size) w5 w6:=by
  show Kept (· =w.heap.size) w5 (w5.setCell ((⟨w.heap.size,0,none⟩:Addr).add 33) (.slice A' n c1))
  rw [bg];exact Kept.setCell (S:=(· =w.heap.size)) (Kept.refl _ w5) (p:=⟨w.heap.size,0+33,none⟩) (fun _=>rfl) _
 clear_value w6;have ahP:=bf c A' n c1 B m cq;refine⟨by rw [bg];exact dO HY (by omega),?_⟩;intro w7;have e34:=qK c A' n c1 B m cq #[] B' m c2;rw [Array.append_empty,Array.append_empty]at e34;have ZH:w7.heap[w.heap.size]? =some (.cells (cG c A' n c1 B' m c2) bn (0,0)):=by
  show(w6.setCell ((⟨w.heap.size,0,none⟩:Addr).add 34) (.slice B' m c2)).heap[w.heap.size]? =_;rw [bg,dc HY,e34]
 have k7:Kept (· =w.heap.size) w6 w7:=by
  show Kept (· =w.heap.size) w6 (w6.setCell ((⟨w.heap.size,0,none⟩:Addr).add 34) (.slice B' m c2))
  rw [bg];exact Kept.setCell (S:=(· =w.heap.size)) (Kept.refl _ w6) (p:=⟨w.heap.size,0+34,none⟩) (fun _=>rfl) _
 clear_value w7;have KJ:=k6.tt k7;have ML:=KJ.heap tL (by omega);obtain⟨t1,t2,t3⟩:=dW ML (cs:=cG c A' n c1 B' m c2) (by rw [bf];rfl);refine⟨_,⟨bf ..,Cells.bE ZH⟩,⟨bf ..,eI _ _ _ _ _ _ _,fun j hj=>t1 j (by rw [bf];exact hj)⟩,?_⟩;intro w8
 replace t2:w8.heap[w1.heap.size]? =_:=t2
 replace t3:Kept (· =w1.heap.size) w7 w8:=t3
 clear_value w8;refine⟨_,⟨bf ..,Cells.bE t2⟩,?_⟩;have FM:∀j,a8 A'=some j->w3.heap.size<=j/\j<w4.heap.size:=fun j hj=>by obtain⟨g1,cur,g2⟩:=Row.bE iE hj;exact⟨g1,aT g2⟩
 have QB:∀j,a8 B'=some j->w4.heap.size<=j:=fun j hj=>(Row.bE iY hj).1;have s5:=k5.size;have Dw:Kept (fun j=>j=w.heap.size\/j=w1.heap.size) w5 w8:=(KJ.mono fun _ _ h=>.inl h).trans t3 (fun _ _ h=>.inr h);refine hK A' c1 B' c2 w8 ?_ ?_ (fun j hj he=>by have:=(FM j hj).2;have:=QB j he;omega) ((lC.tt nM).trans Dw (fun j hj e=>by omega))
 ·exact Row.base (Row.aG (Row.aG iE k5 (fun _ _ h=>h)) Dw (fun j hj e=>by have:=(FM j hj).1;omega)) (fun j hj=>by have:=(FM j hj).1;omega)
 ·exact Row.base (Row.aG iY Dw (fun j hj e=>by have:=QB j hj;omega)) (fun j hj=>by have:=QB j hj;omega)
end
section
variable{w w':World}{F:Nat->Prop}{c k:Nat}{G:GS}{m:CM}{K:Value->World->Prop}
theorem tp(h:CV w F c k G m)(hK:K (.pointer (some ⟨m.x,0,none⟩)) w):bk prog dV.id #[.pointer (some ⟨c,0,none⟩)] w K:=
 dV.of (Split.no rfl (Is.mk rfl ⟨_,h.c1,hK⟩))
theorem xx(h:CV w F c k G m)(hD:G.D.length<=5000){a:HT}(ha:a∈ids G.D)
 (hK:∀A n c1 B e c2 w',bI w' w.heap.size A n c1 (G.gw a).merge->Row w' w.heap.size iq 1 B e c2 (rY (G.gw a).fz)->(∀j,a8 A=some j->a8 B≠some j)->Kept Nil w w'->K (.tuple #[.agg (cG (G.gw a) A n c1 B e c2),.int .i64 0]) w'):
 bk prog cY.id #[.pointer (some ⟨c,0,none⟩),.agg a.1] w K:=by
 refine cY.of ?_;unfold cY.W;intro w1 w2;have k1:Kept Nil w w1:=(Kept.refl _ _).alloc _;have Au:w1.heap[w.heap.size]? =some (.cells a.1 ai (0,0)):=aI w _;have k2:Kept Nil w1 w2:=(Kept.refl _ _).alloc _;have jD:w2.heap[w1.heap.size]? =some (.cells zC bn (0,0)):=aI w1 _;clear_value w2;have JJ:=k2.heap Au (fun h=>h);have kL:=k1.tt k2;have s1:=k1.size;have l1:=aT Au;have l2:=aT jD;clear_value w1;refine mN (h.same kL) ⟨true,rfl,Split.no rfl ?_⟩;intro w3;have k3:Kept Nil w2 w3:=(Kept.refl _ _).drew;clear_value w3;have h3:=h.same (kL.tt k3);refine⟨_,h3.c2,a.1,⟨a.2.1,Cells.bE (k3.heap JJ (fun h=>h))⟩,_,h3.oz ha,Split.no rfl ?_⟩;intro w4;have k4:Kept Nil w3 w4:=(Kept.refl _ _).drew;clear_value w4;have qp:=k3.tt k4;have pE:=kL.tt qp;have h4:=h.same pE;obtain⟨A1,n1,c1,B1,m1,d1,s1',sa⟩:=h4.seen a ha;have hbound:n1<=5000/\m1<=5000:=by
  have e1:=sa.mg.len;have e2:=sa.bl.len;obtain⟨lz,cz⟩:=cr.ex h.fy.iw a;rcases cz.inv h.fy.W h.fy.iw ha with⟨_,nd,h0,rfl⟩|⟨t,r',_,qf,_,_⟩
  ·obtain⟨r1,_⟩:=h.fy.root nd h0
   rw [r1]at e1 e2;simp at e1 e2;omega
  ·obtain⟨_,_,g0,g1,g2⟩:=h.fy.up t a qf
   have:=cM (m:=ids G.D) g1 (fun y hy=>(((g2 y).1 hy).1.mem h.fy.W).1);rw [gg]at this;omega
 refine⟨_,h4.c2,a.1,⟨a.2.1,Cells.bE (qp.heap JJ (fun h=>h))⟩,_,h4.oz ha,_,⟨bf ..,sa.gw⟩,?_⟩;refine oF (G.gw a) sa.mg sa.bl (by omega) (by omega) fun A' Gx B' yT w5 lK fW e9 k5=>⟨_,rfl,?_⟩;have DB:=qp.tt k5;have tL:=DB.heap jD (fun h=>h);have s4:=pE.size;have W9:=qp.size;obtain⟨t1,t2,t3⟩:=dW tL (cs:=cG (G.gw a) A' n1 Gx B' m1 yT) (by rw [bf];rfl);refine⟨⟨bf ..,eI _ _ _ _ _ _ _,fun j hj=>t1 j (by rw [bf];exact hj)⟩,?_⟩;intro w6
 replace t2:w6.heap[w1.heap.size]? =_:=t2
 replace t3:Kept (· =w1.heap.size) w5 w6:=t3
 clear_value w6;refine⟨_,⟨bf ..,Cells.bE t2⟩,?_⟩;exact hK A' n1 Gx B' m1 yT w6 (Row.base (Row.aG lK t3 (fun j hj e=>by have:=(Row.bE lK hj).1;omega)) (fun j hj=>by have:=(Row.bE lK hj).1;omega))
  (Row.base (Row.aG fW t3 (fun j hj e=>by have:=(Row.bE fW hj).1;omega)) (fun j hj=>by have:=(Row.bE fW hj).1;omega)) e9 ((kL.tt DB).trans t3 (fun j hj e=>by omega))
end
theorem sH(x:HT):x.1.size=32:=x.2.1
theorem D9{G:GS}{a b:HT}:AO G a b>0↔gl G b a=true:=by
 unfold AO;split
 ·rename_i h;rw [Av h];simp
 ·split<;>simp_all
section
variable{w w':World}{F:Nat->Prop}{c k:Nat}{G:GS}{m:CM}{K:Value->World->Prop}{A:Option Addr}{n cx:Nat}{l:List HT}
theorem FQ(h:CV w F c k G m)(hl:HS w A n l)(h0:l≠ [])(hn:n<=400000)(fC:∀x∈l,x∈ids G.D)(hK:∀w',Kept Nil w w'->K (.agg (bN G l).1) w'):
 bk prog lY.id #[.slice A n cx,.func (.func bt.id) #[.pointer (some ⟨c,0,none⟩)] #[]] w K:=by
 have hlen:=hl.len;obtain⟨x0,t,rfl⟩:∃x0 t,l=x0::t:=by cases l with|nil=>exact absurd rfl h0|cons a b=>exact⟨a,b,rfl⟩
 refine ao.of ?_;unfold ao.W;intro w1;have k1:Kept Nil w w1:=(Kept.refl _ _).alloc _;have mE:w1.heap[w.heap.size]? =some (.cells dZ.1 ai (0,0)):=aI w _;clear_value w1;simp only [List.length_cons]at hlen;refine Split.no (decide_eq_false (by omega)) ((hl.same k1).load (i:=0) (by omega) rfl ?_);intro w2;have k2:Kept Nil w1 w2:=(Kept.refl _ _).alloc _;have lh:w2.heap[w1.heap.size]? =some (.cells dZ.1 ai (0,0)):=aI w1 _;clear_value w2;have jD:=k2.heap mE (fun h=>h);have l1:=aT mE;have l2:=aT lh;obtain⟨t1,t2,t3⟩:=jG x0 lh rfl;refine⟨t1,?_⟩;intro w3
 replace t2:w3.heap[w1.heap.size]? =some (.cells x0.1 ai (0,0)):=t2
 replace t3:Kept (· =w1.heap.size) w2 w3:=t3
 clear_value w3;have s1:=k1.size;have lC:Kept Nil w w3:=(k1.tt k2).trans t3 (fun j hj e=>by omega);have wi:=t3.heap jD (by omega);refine ao.b9 (I:=fun s v=>∃(i:Nat) (b:HT),s=(i:Int)/\1<=i/\i<=n/\b∈ids G.D/\((x0::t).drop i).foldl (fun b y=>if gl G b y then y else b) b=bN G (x0::t)/\v.heap[w1.heap.size]? =some (.cells b.1 ai (0,0))/\v.heap[w.heap.size]? =some (.cells dZ.1 ai (0,0))/\Kept Nil w v) (μ:=fun s _=>((n:Int)-s).toNat) (s:=1) ⟨1,x0,rfl,Nat.le_refl _,by omega,fC _ List.mem_cons_self,rfl,t2,wi,lC⟩ ?_;rintro s v ⟨i,b,rfl,Lj,wm,hb,he,D4,TQ,kv⟩;unfold ao.B1;refine Split.dec (fun cJ=>?_) (fun gu=>?_)
 ·have dP:i<n:=by omega
  obtain⟨y,hy⟩:∃y,(x0::t)[i]? =some y:=⟨_,List.getElem?_eq_getElem (by simp;omega)⟩;have Mz:y∈ids G.D:=fC _ (List.mem_of_getElem? hy);have hd:(x0::t).drop i=y::(x0::t).drop (i+1):=by
   obtain⟨q1,q2⟩:=lgeS hy;rw [List.drop_eq_getElem_cons q1,q2]
  rw [hd,List.foldl_cons]at he;intro w4;have k4:Kept Nil v w4:=(Kept.refl _ _).drew;clear_value w4;have nf:=kv.tt k4;have O9:(x0::t)[((i:Nat):Int).toNat]? =some y:=by rw [Int.toNat_natCast];exact hy
  refine(hl.same nf).load (i:=(i:Int)) (by omega) O9 ⟨b.1,⟨b.2.1,Cells.bE (k4.heap D4 (fun h=>h))⟩,?_⟩;refine pF (h.same nf) Mz hb fun w5 k5=>⟨_,rfl,?_⟩;have yK:=nf.tt k5;have oE:=k5.heap (k4.heap D4 (fun h=>h)) (fun h=>h);have tL:=k5.heap (k4.heap TQ (fun h=>h)) (fun h=>h);rw [dt (n:=(i:Int)) (by omega) (by omega)];refine Split.dec (fun xp=>?_) (fun hle=>?_)
  ·rw [if_pos (D9.1 xp)]at he
   refine(hl.same yK).load (i:=(i:Int)) (by omega) O9 ?_;obtain⟨f1,f2,f3⟩:=jG y oE b.2.1;refine⟨f1,?_⟩;exact⟨(i:Int)+1,rfl,⟨i+1,y,rfl,by omega,by omega,Mz,he,f2,f3.heap tL (by omega),yK.trans f3 (fun j hj e=>by omega)⟩,by simp only;omega⟩
  ·rw [if_neg (fun e=>hle (D9.2 e))]at he
   exact⟨(i:Int)+1,rfl,⟨i+1,b,rfl,by omega,by omega,hb,he,oE,tL,yK⟩,by simp only;omega⟩
 ·rw [aO,ao.df]
  rw [List.drop_eq_nil_of_le (by simp;omega)]at he
  replace he:b=bN G (x0::t):=he
  subst he;refine⟨_,⟨sH _,Cells.bE D4⟩,?_⟩;obtain⟨f1,f2,f3⟩:=jG (bN G (x0::t)) TQ rfl;exact⟨f1,_,⟨sH _,Cells.bE f2⟩,hK _ (kv.trans f3 (fun j hj e=>by omega))⟩
theorem yr(h:CV w F c k G m)(hl:HS w A n l)(hn:n<=400000)(hK:∀w',Kept Nil w w'->K (.tuple #[.agg (if nx G.D l=0 then bN G l else dZ).1,.int .i64 (nx G.D l)]) w'):
 bk prog dp.id #[.pointer (some ⟨c,0,none⟩),.slice A n cx] w K:=by
 refine dp.of ?_;unfold dp.W;intro w1;have k1:Kept Nil w w1:=(Kept.refl _ _).alloc _;have mE:w1.heap[w.heap.size]? =some (.cells dZ.1 ai (0,0)):=aI w _;clear_value w1;refine FO (h.same k1) (hl.same k1) hn fun w2 k2=>⟨_,rfl,?_⟩;have kL:=k1.tt k2;have jD:=k2.heap mE (fun h=>h);by_cases h0:nx G.D l=0
 ·rw [if_pos h0]at hK
  refine Split.no (by simp [h0]) ?_;have e9:l≠ []:=fun e=>by unfold nx at h0;rw [if_pos e]at h0;cases h0
  have fC:∀x∈l,x∈ids G.D:=fun x hx=>by
   unfold nx at h0;rw [if_neg e9]at h0;by_cases Xr:x∈ids G.D
   ·exact Xr
   ·rw [if_pos ⟨x,hx,Xr⟩]at h0;cases h0
  refine FQ (h.same kL) (hl.same kL) e9 hn fC fun w3 k3=>⟨_,rfl,?_⟩;obtain⟨f1,f2,f3⟩:=jG (bN G l) (k3.heap jD (fun h=>h)) rfl;rw [h0]at hK;exact⟨f1,_,⟨sH _,Cells.bE f2⟩,hK _ ((kL.tt k3).trans f3 (fun j hj e=>by omega))⟩
 ·rw [if_neg h0]at hK
  refine Split.yes (by simpa using h0) ?_;obtain⟨f1,f2,f3⟩:=jG dZ jD rfl;exact⟨f1,_,⟨sH _,Cells.bE f2⟩,hK _ (kL.trans f3 (fun j hj e=>by omega))⟩
end
abbrev SR(w:World)(B b n cx:Nat)(d:Array HT):Prop:=bI w B (some ⟨b,0,none⟩) n cx d.toList
section
variable{w w':World}{B b n cx:Nat}{d:Array HT}
theorem SR.size(h:SR w B b n cx d):d.size=n:=by have:=bI.len h;simpa using this
theorem uq(d:Array HT)(i j:Nat)(hi:i<d.size)(hj:j<d.size):(Sort.swp d i j).toList=(d.toList.set i d[j]!).set j d[i]! :=by
 unfold Sort.swp;simp
structure SE(w:World)(F:Nat->Prop)(c k:Nat)(G:GS)(m:CM)(B b n cx:Nat)(d:Array HT):Prop where
 C:CV w F c k G m
 row:SR w B b n cx d
 mem:∀x∈d.toList,x∈ids G.D
 own:¬m.own c b/\¬F b
variable{F:Nat->Prop}{c k:Nat}{G:GS}{m:CM}
theorem SE.same(h:SE w F c k G m B b n cx d)(hk:Kept Nil w w'):SE w' F c k G m B b n cx d:=⟨h.C.same hk,Row.aG h.row hk (fun _ _ h=>h),h.mem,h.own⟩
theorem SE.get(h:SE w F c k G m B b n cx d){i:Nat}(hi:i<n):d[i]! ∈ids G.D/\Cells w ((⟨b,0,none⟩:Addr).add (i*32)) d[i]!.1:=by
 have hs:=SR.size h.row;have e:d.toList[i]? =some d[i]! :=by simp [hs,hi]
 refine⟨h.mem _ (List.mem_of_getElem? e),?_⟩;obtain⟨a,h1,_,h3⟩:=(bI.hs h.row).at_ i _ e;cases h1;exact h3
theorem SE.swap(h:SE w F c k G m B b n cx d){i j:Nat}(hi:i<n)(hj:j<n):
 ((d[j]!.1.size=32/\(∀a∈d[j]!.1.toList,a.oneCell'=true)/\∀q,q<32->Wr w (((⟨b,0,none⟩:Addr).add (i*32)).add q))/\
   d[i]!.1.size=32/\(∀a∈d[i]!.1.toList,a.oneCell'=true)/\∀q,q<32->Wr (setCells w ((⟨b,0,none⟩:Addr).add (i*32)) d[j]!.1.toList 0) (((⟨b,0,none⟩:Addr).add (j*32)).add q))/\
 SE (setCells (setCells w ((⟨b,0,none⟩:Addr).add (i*32)) d[j]!.1.toList 0) ((⟨b,0,none⟩:Addr).add (j*32)) d[i]!.1.toList 0) F c k G m B b n cx (Sort.swp d i j)/\
 Kept (· =b) w (setCells (setCells w ((⟨b,0,none⟩:Addr).add (i*32)) d[j]!.1.toList 0) ((⟨b,0,none⟩:Addr).add (j*32)) d[i]!.1.toList 0):=by
 have hs:=SR.size h.row;have gi:=h.get hi;have gj:=h.get hj;simp only [bg,Nat.zero_add];have r1:=bI.setAt h.row hi d[j]!;have r2:=bI.setAt r1 hj d[i]!;have kp:=(eZ (b:=b) d[j]!.1.toList w (i*32) 0).tt (eZ (b:=b) d[i]!.1.toList (setCells w ⟨b,i*32,none⟩ d[j]!.1.toList 0) (j*32) 0);refine⟨⟨⟨d[j]!.2.1,d[j]!.2.one,fun q hq=>?_⟩,d[i]!.2.1,d[i]!.2.one,fun q hq=>?_⟩,⟨h.C.aG kp (fun q hq e=>h.own.1 (by rw [<-e];exact hq)) (fun q hq e=>h.own.2 (by rw [<-e];exact hq)),?_,?_,h.own⟩,kp⟩
 ·have:=bI.GB h.row hi q hq
  rwa [bg]at this
 ·have:=bI.GB r1 hj q hq
  rwa [bg]at this
 ·show bI _ _ _ _ _ (Sort.swp d i j).toList
  rw [uq d i j (by omega) (by omega)];exact r2
 ·intro x hx
  rw [uq d i j (by omega) (by omega)]at hx;rcases List.mem_or_eq_of_mem_set hx with hx|rfl
  ·rcases List.mem_or_eq_of_mem_set hx with hx|rfl
   ·exact h.mem x hx
   ·exact gj.1
  ·exact gi.1
end
section
variable{w w':World}{B b n cx:Nat}{d:Array HT}{F:Nat->Prop}{c k:Nat}{G:GS}{m:CM}{K:Value->World->Prop}
theorem EI(h:SE w F c k G m B b n cx d){x y:Nat}(oJ:x<=y)(hy:y<=n)(hn:n<=1000000)
 (hK:∀w',SE w' F c k G m B b n cx (Sort.insertionSort (gl G) d x y)->Kept (· =b) w w'->K (.tuple #[]) w'):
 bk prog iT.id #[.slice (some ⟨b,0,none⟩) n cx,.int .i64 (x:Int),.int .i64 (y:Int),.func (.func bt.id) #[.pointer (some ⟨c,0,none⟩)] #[]] w K:=by
 refine cg.of ?_;unfold cg.W;rw [dt (n:=(x:Int)) (by omega) (by omega)];refine cg.b9 (I:=fun s v=>∃(i:Nat) (dk:Array HT),s=(i:Int)/\x<i/\i<=y+1/\SE v F c k G m B b n cx dk/\Sort.insOuter (gl G) x y i dk=Sort.insertionSort (gl G) d x y/\Kept (· =b) w v) (μ:=fun s _=>((y:Int)+1-s).toNat) (s:=(x:Int)+1) ⟨x+1,d,rfl,by omega,by omega,h,rfl,Kept.refl _ _⟩ ?_;rintro s v ⟨i,dk,rfl,Ri,hiy,hv,ho,kv⟩;refine Split.dec (fun cJ=>?_) (fun gu=>?_)
 ·have cJ:i<y:=by omega
  rw [Sort.insOuter,if_pos cJ]at ho;refine cg.gC (I:=fun s v=>∃(j:Nat) (dj:Array HT),s=(j:Int)/\j<=i/\SE v F c k G m B b n cx dj/\Sort.insInner (gl G) x j dj=Sort.insInner (gl G) x i dk/\Kept (· =b) w v) (μ:=fun s _=>s.toNat) (s:=(i:Int)) ⟨i,dk,rfl,Nat.le_refl _,hv,rfl,kv⟩ ?_;rintro s u ⟨j,dj,rfl,JG,hu,fC,ku⟩;unfold cg.B2;intro w3;have k3:Kept Nil u w3:=(Kept.refl _ _).drew;clear_value w3;have stop:∀ {u':World},SE u' F c k G m B b n cx dj->Kept (· =b) w u'->Sort.insInner (gl G) x j dj=dj->cg.ik (some ⟨b,0,none⟩) n cx (x:Int) (y:Int) (some ⟨c,0,none⟩) (i:Int) (j:Int) (bL (cg.e1 (some ⟨b,0,none⟩) n cx (x:Int) (y:Int) (some ⟨c,0,none⟩)) (fun s v=>∃(i:Nat) (dk:Array HT),s=(i:Int)/\x<i/\i<=y+1/\SE v F c k G m B b n cx dk/\Sort.insOuter (gl G) x y i dk=Sort.insertionSort (gl G) d x y/\Kept (· =b) w v) (fun s _=>((y:Int)+1-s).toNat) (i:Int) v (cg.q1 K)) u':=fun H4 Mk e=>by
   unfold cg.ik;rw [dt (n:=(i:Int)) (by omega) (by omega)];exact⟨(i:Int)+1,rfl,⟨i+1,dj,rfl,by omega,by omega,H4,by rw [<-ho,<-fC,e],Mk⟩,by simp only;omega⟩
  have TF:=hu.same k3;have Mj:Kept (· =b) w w3:=ku.trans k3 (fun _ _ h=>h.elim);refine Split.dec (fun hjx=>?_) (fun hjx=>?_)
  ·have hj0:0<j:=by omega
   have ew:i64.wrap ((j:Int)-(1:Int))=((j-1:Nat):Int):=by
    rw [gN (by omega) (by omega)];omega
   rw [ew];have g1:=TF.get (i:=j) (by omega);have g2:=TF.get (i:=j-1) (by omega);refine⟨⟨by omega,by omega⟩,dj[j]!.1,⟨dj[j]!.2.1,by rw [Int.toNat_natCast];exact g1.2⟩,⟨by omega,by omega⟩,dj[j-1]!.1,⟨dj[j-1]!.2.1,by rw [Int.toNat_natCast];exact g2.2⟩,?_⟩;refine pF TF.C g1.1 g2.1 fun w4 k4=>⟨_,rfl,?_⟩;have hu4:=TF.same k4;have S6:Kept (· =b) w w4:=Mj.trans k4 (fun _ _ h=>h.elim);have ej:∃j',j=j'+1:=⟨j-1,by omega⟩;refine Split.dec (fun PH=>?_) (fun U3=>?_)
   ·have PY:=yz.1 PH
    intro w5;have k5:Kept Nil w4 w5:=(Kept.refl _ _).drew;clear_value w5;have ZX:=hu4.same k5;have Fk:Kept (· =b) w w5:=S6.trans k5 (fun _ _ h=>h.elim);have f1:=ZX.get (i:=j) (by omega);have f2:=ZX.get (i:=j-1) (by omega);obtain⟨⟨t1,t2⟩,t3,t4⟩:=ZX.swap (i:=j) (j:=j-1) (by omega) (by omega);simp only [Int.toNat_natCast];refine⟨⟨by omega,by omega⟩,dj[j-1]!.1,⟨dj[j-1]!.2.1,f2.2⟩,⟨by omega,by omega⟩,dj[j]!.1,⟨dj[j]!.2.1,f1.2⟩,⟨by omega,by omega⟩,t1,⟨by omega,by omega⟩,t2,?_⟩;refine⟨((j-1:Nat):Int),rfl,⟨j-1,Sort.swp dj j (j-1),rfl,by omega,t3,?_,Fk.tt t4⟩,by simp only;omega⟩;obtain⟨j',rfl⟩:=ej;rw [<-fC];show _=Sort.insInner (gl G) x (j'+1) dj
    rw [Sort.insInner,if_pos (by simp only [Bool.and_eq_true,decide_eq_true_eq];exact⟨by omega,PY⟩)];rfl
   ·rw [aO,cg.jA]
    refine stop hu4 S6 ?_;have PY:gl G dj[j]! dj[j-1]! =false:=by
     cases hg:gl G dj[j]! dj[j-1]!
     ·rfl
     ·exact absurd (yz.2 hg) U3
    obtain⟨j',rfl⟩:=ej;rw [Sort.insInner,if_neg (by simp only [Bool.and_eq_true,decide_eq_true_eq];intro e;have:=e.2;rw [show j'+1-1=j' from rfl]at PY;rw [PY]at this;cases this)]
  ·rw [aO,cg.jA]
   refine stop TF Mj ?_;cases j with
   |zero=>rfl
   |succ j'=>rw [Sort.insInner,if_neg (by simp only [Bool.and_eq_true,decide_eq_true_eq];intro e;have:=e.1;omega)]
 ·rw [aO,cg.df]
  unfold cg.cH;rw [Sort.insOuter,if_neg (by omega)]at ho;rw [ho]at hv;exact hK v hv kv
end
theorem wN{x:Int}{i:Nat}(h:x=(i:Int))(hi:i<4000000):i64.wrap x=(i:Int):=by rw [gN (by omega) (by omega),h]
theorem vq(G:GS):Sort.SWO (gl G) where
 irrefl:=lU G
 trans:=fun _ _ _=>mr
 ntrans:=fun x y z h1 h2=>by
  cases h:gl G x z
  ·rfl
  ·exfalso
   cases h3:gl G y x
   ·have:=mu h1 h3
    subst this;rw [h2]at h;cases h
   ·rw [mr h3 h]at h2;cases h2
section
variable{w w':World}{B b n cx:Nat}{d:Array HT}{F:Nat->Prop}{c k:Nat}{G:GS}{m:CM}{K:Value->World->Prop}
theorem SE.cmp(h:SE w F c k G m B b n cx d){x y:Int}{i j:Nat}(hx:x=(i:Int))(hy:y=(j:Int))(hi:i<n)(hj:j<n){Z:Int->World->Prop}
 (hK:∀r w',SE w' F c k G m B b n cx d->Kept Nil w w'->(r<0↔gl G d[i]! d[j]! =true)->Z r w'):
 (0<=x/\x<(n:Int))/\Is (some (⟨b,0,none⟩:Addr)) fun a:Addr=>∃t:Array Value,(t.size=32/\Cells w (a.add (x.toNat*32)) t)/\(0<=y/\y<(n:Int))/\Is (some (⟨b,0,none⟩:Addr)) fun a:Addr=>∃u:Array Value,(u.size=32/\Cells w (a.add (y.toNat*32)) u)/\
   bk prog bt.id #[.pointer (some ⟨c,0,none⟩),.agg t,.agg u] w fun q r=>∃t:Int,q=.int .i64 t/\Z t r:=by
 subst hx hy;have g1:=h.get hi;have g2:=h.get hj;refine⟨⟨by omega,by omega⟩,Is.mk rfl ⟨d[i]!.1,⟨d[i]!.2.1,by rw [Int.toNat_natCast];exact g1.2⟩,⟨by omega,by omega⟩,Is.mk rfl ⟨d[j]!.1,⟨d[j]!.2.1,by rw [Int.toNat_natCast];exact g2.2⟩,?_⟩⟩⟩;exact pF h.C g1.1 g2.1 fun w4 k4=>⟨_,rfl,hK _ w4 (h.same k4) k4 yz⟩
theorem SE.sw(h:SE w F c k G m B b n cx d){x y:Int}{i j:Nat}(hx:x=(i:Int))(hy:y=(j:Int))(hi:i<n)(hj:j<n):
 ((0<=y/\y<(n:Int))/\(d[j]!.1.size=32/\Cells w ((⟨b,0,none⟩:Addr).add (y.toNat*32)) d[j]!.1)/\(0<=x/\x<(n:Int))/\(d[i]!.1.size=32/\Cells w ((⟨b,0,none⟩:Addr).add (x.toNat*32)) d[i]!.1)/\
   (d[j]!.1.size=32/\(∀a∈d[j]!.1.toList,a.oneCell'=true)/\∀q,q<32->Wr w (((⟨b,0,none⟩:Addr).add (x.toNat*32)).add q))/\
   d[i]!.1.size=32/\(∀a∈d[i]!.1.toList,a.oneCell'=true)/\∀q,q<32->Wr (setCells w ((⟨b,0,none⟩:Addr).add (x.toNat*32)) d[j]!.1.toList 0) (((⟨b,0,none⟩:Addr).add (y.toNat*32)).add q))/\
 SE (setCells (setCells w ((⟨b,0,none⟩:Addr).add (x.toNat*32)) d[j]!.1.toList 0) ((⟨b,0,none⟩:Addr).add (y.toNat*32)) d[i]!.1.toList 0) F c k G m B b n cx (Sort.swp d i j)/\
 Kept (· =b) w (setCells (setCells w ((⟨b,0,none⟩:Addr).add (x.toNat*32)) d[j]!.1.toList 0) ((⟨b,0,none⟩:Addr).add (y.toNat*32)) d[i]!.1.toList 0):=by
 subst hx hy;obtain⟨⟨t1,t2⟩,t3,t4⟩:=h.swap hi hj;have f1:=h.get hi;have f2:=h.get hj;rw [Int.toNat_natCast,Int.toNat_natCast];exact⟨⟨⟨by omega,by omega⟩,⟨d[j]!.2.1,f2.2⟩,⟨by omega,by omega⟩,⟨d[i]!.2.1,f1.2⟩,t1,t2⟩,t3,t4⟩
theorem SE.gZ(h:SE w F c k G m B b n cx d){q:Nat}(hk:Kept (· =q) w w')(gZ:¬m.own c q/\¬F q/\q≠b):SE w' F c k G m B b n cx d:=
 ⟨h.C.aG hk (fun j hj e=>gZ.1 (by rw [<-e];exact hj)) (fun j hj e=>gZ.2.1 (by rw [<-e];exact hj)),Row.aG h.row hk (fun j hj e=>by cases hj;exact gZ.2.2 e.symm),h.mem,h.own⟩
theorem SE.lt(h:SE w F c k G m B b n cx d):b<w.heap.size:=by
 obtain⟨_,cur,kR⟩:=Row.bE h.row (k:=b) rfl;exact aT kR
theorem SE.fresh(h:SE w F c k G m B b n cx d){q:Nat}(hq:w.heap.size<=q):¬m.own c q/\¬F q/\q≠b:=
 ⟨fun e=>by have:=h.C.low q (.inl e);omega,fun e=>by have:=h.C.low q (.inr e);omega,fun e=>by have:=h.lt;omega⟩
theorem EC(h:SE w F c k G m B b n cx d){x y:Nat}(oJ:x<y)(hy:y<=n)(hn:n<=1000000)
 (hK:∀d' w',SE w' F c k G m B b n cx d'->Sort.PermIn x y d d'->Kept (· =b) w w'->K (.tuple #[]) w'):
 bk prog iW.id #[.slice (some ⟨b,0,none⟩) n cx,.int .i64 (x:Int),.int .i64 (y:Int),.func (.func bt.id) #[.pointer (some ⟨c,0,none⟩)] #[]] w K:=by
 refine eM.of ?_;unfold eM.W;rw [wN (i:=y-1) (by omega) (by omega)];refine eM.b9 (I:=fun s v=>∃(i j:Nat) (dk:Array HT),s=((i:Int),(j:Int))/\x<=i/\j<y/\SE v F c k G m B b n cx dk/\Sort.PermIn x y d dk/\Kept (· =b) w v) (μ:=fun s _=>(s.2+1-s.1).toNat) (s:=((x:Int),((y-1:Nat):Int))) ⟨x,y-1,d,rfl,Nat.le_refl _,by omega,h,Sort.permIn_refl _ _ _,Kept.refl _ _⟩ ?_;rintro s v ⟨i,j,dk,rfl,hi,hj,hv,hp,kv⟩;unfold eM.B1;refine Split.dec (fun cJ=>?_) (fun gu=>?_)
 ·simp only at cJ
  have cJ:i<j:=by omega
  intro w3;have k3:Kept Nil v w3:=(Kept.refl _ _).drew;clear_value w3;have h3:=hv.same k3;have hs:=SR.size h3.row;obtain⟨⟨a1,a2,a3,a4,a5,a6⟩,h5,k5⟩:=h3.sw (x:=(i:Int)) (y:=(j:Int)) rfl rfl (by omega) (by omega);refine⟨a1,_,a2,a3,_,a4,a3,a5,a1,a6,?_⟩;simp only;rw [wN (x:=(i:Int)+1) (i:=i+1) (by omega) (by omega),wN (x:=(j:Int)-1) (i:=j-1) (by omega) (by omega)];refine⟨(((i+1:Nat):Int),((j-1:Nat):Int)),rfl,⟨i+1,j-1,_,rfl,by omega,by omega,h5,?_,(kv.trans k3 (fun _ _ h=>h.elim)).tt k5⟩,by simp only;omega⟩;exact Sort.permIn_trans _ _ _ x y hp (Sort.swp_permIn dk x y i j hi (by omega) (by omega) (by omega) (by omega))
 ·rw [aO,eM.df]
  exact hK dk v hv hp kv
def Nz(w:World)(q:Nat):Prop:=∃(u:Int) (t:TypeId),w.heap[q]? =some (.cells #[.int .i64 u] t (0,0))
theorem Nz.aG{S:Nat->Prop}{q:Nat}(h:Nz w q)(hk:Kept S w w')(hS:¬S q):Nz w' q:=by
 obtain⟨u,t,h⟩:=h;exact⟨u,t,hk.heap h hS⟩
theorem r8(h:SE w F c k G m B b n cx d){x y q:Nat}(hx:x<n)(hy:y<n)(hq:Nz w q)(gZ:¬m.own c q/\¬F q/\q≠b)
 (hK:∀(x' y':Nat) w',((x'=x/\y'=y)\/(x'=y/\y'=x))->SE w' F c k G m B b n cx d->Nz w' q->Kept (· =q) w w'->K (.tuple #[.int .i64 (x':Int),.int .i64 (y':Int)]) w'):
 bk prog kh.id #[.slice (some ⟨b,0,none⟩) n cx,.int .i64 (x:Int),.int .i64 (y:Int),.pointer (some ⟨q,0,none⟩),.func (.func bt.id) #[.pointer (some ⟨c,0,none⟩)] #[]] w K:=by
 refine r9.of ?_;unfold r9.W;intro w3;have k3:Kept Nil w w3:=(Kept.refl _ _).drew;clear_value w3;refine(h.same k3).cmp (i:=y) (j:=x) rfl rfl hy hx fun r w4 h4 k4 _=>?_;obtain⟨u,t,h0⟩:=(hq.aG k3 (fun h=>h)).aG k4 (fun h=>h);have pE:=k3.tt k4;refine Split.dec (fun _=>?_) (fun _=>hK x y w4 (.inl ⟨rfl,rfl⟩) h4 ⟨u,t,h0⟩ (pE.mono fun _ _ h=>h.elim));refine Is.mk rfl ⟨u,by rw [aA h0];rfl,Is.mk rfl ⟨dO h0 (by simp),?_⟩⟩;intro w5;have e5:w5.heap[q]? =some (.cells #[.int .i64 (i64.wrap (u+1))] t (0,0)):=by
  show(w4.setCell ⟨q,0,none⟩ _).heap[q]? =_;rw [dc h0 0];rfl
 have k5:Kept (· =q) w4 w5:=Kept.setCell (S:=(· =q)) (Kept.refl _ w4) (p:=⟨q,0,none⟩) (fun _=>rfl) _;clear_value w5;exact hK y x w5 (.inr ⟨rfl,rfl⟩) (h4.gZ k5 gZ) ⟨_,_,e5⟩ ((pE.mono fun _ _ h=>h.elim).tt k5)
theorem EH(h:SE w F c k G m B b n cx d){x y z q:Nat}{p:Nat->Prop}(hx:p x)(hy:p y)(hz:p z)(hp:∀i,p i->i<n)(hq:Nz w q)(gZ:¬m.own c q/\¬F q/\q≠b)
 (hK:∀(r:Nat) w',p r->SE w' F c k G m B b n cx d->Nz w' q->Kept (· =q) w w'->K (.int .i64 (r:Int)) w'):
 bk prog ki.id #[.slice (some ⟨b,0,none⟩) n cx,.int .i64 (x:Int),.int .i64 (y:Int),.int .i64 (z:Int),.pointer (some ⟨q,0,none⟩),.func (.func bt.id) #[.pointer (some ⟨c,0,none⟩)] #[]] w K:=by
 refine sd.of ?_;unfold sd.W;have two:∀ {x y x' y':Nat},p x->p y->((x'=x/\y'=y)\/(x'=y/\y'=x))->p x'/\p y':=fun hx hy e=>by
  rcases e with⟨rfl,rfl⟩|⟨rfl,rfl⟩
  ·exact⟨hx,hy⟩
  ·exact⟨hy,hx⟩
 refine r8 h (hp _ hx) (hp _ hy) hq gZ fun x1 y1 w1 e1 h1 c1 k1=>⟨_,_,rfl,?_⟩;obtain⟨px1,py1⟩:=two hx hy e1;refine r8 h1 (hp _ py1) (hp _ hz) c1 gZ fun x2 y2 w2 e2 h2 c2 k2=>⟨_,_,rfl,?_⟩;obtain⟨px2,_⟩:=two py1 hz e2;refine r8 h2 (hp _ px1) (hp _ px2) c2 gZ fun x3 y3 w3 e3 h3 c3 k3=>⟨_,_,rfl,?_⟩;exact hK y3 w3 (two px1 px2 e3).2 h3 c3 ((k1.tt k2).tt k3)
theorem ED(h:SE w F c k G m B b n cx d){x y:Nat}(oJ:x+12<y)(hy:y<=n)(hn:n<50)
 (hK:∀(r:Nat) (t:Int) w',x<=r->r<y->SE w' F c k G m B b n cx d->Kept Nil w w'->K (.tuple #[.int .i64 (r:Int),.int .i64 t]) w'):
 bk prog jr.id #[.slice (some ⟨b,0,none⟩) n cx,.int .i64 (x:Int),.int .i64 (y:Int),.func (.func bt.id) #[.pointer (some ⟨c,0,none⟩)] #[]] w K:=by
 refine r7.of ?_;unfold r7.W;intro w3;have k3:Kept Nil w w3:=(Kept.refl _ _).alloc _;have hc:Nz w3 w.heap.size:=⟨_,_,aI w _⟩;clear_value w3;have e4:∀L:Nat,((L:Nat):Int).tdiv 4=((L/4:Nat):Int):=fun _=>rfl;have f4:(y-x)/4<=20:=by omega
 have g4:(y-x)/4*3+x<y:=by omega
 rw [wN (x:=(y:Int)-x) (i:=y-x) (by omega) (by omega),e4];generalize (y-x)/4=q at f4 g4;rw [wN (x:=((q:Nat):Int)) (i:=q) rfl (by omega),wN (x:=((q:Nat):Int)*1) (i:=q) (by omega) (by omega),wN (x:=((q:Nat):Int)*2) (i:=q*2) (by omega) (by omega),wN (x:=((q:Nat):Int)*3) (i:=q*3) (by omega) (by omega),
  wN (x:=(x:Int)+((q:Nat):Int)) (i:=x+q) (by omega) (by omega),wN (x:=(x:Int)+((q*2:Nat):Int)) (i:=x+q*2) (by omega) (by omega),wN (x:=(x:Int)+((q*3:Nat):Int)) (i:=x+q*3) (by omega) (by omega)]
 refine⟨by decide,by decide,by decide,Split.yes (decide_eq_true (by omega)) (Split.no (decide_eq_false (by omega)) ?_)⟩;have hf:=h.fresh (Nat.le_refl _);refine EH (h.same k3) (p:=fun i=>x<=i/\i<y) ⟨by omega,by omega⟩ ⟨by omega,by omega⟩ ⟨by omega,by omega⟩ (fun i hi=>by omega) hc hf fun r w4 hr h4 c4 k4=>⟨_,rfl,?_⟩;obtain⟨u,t,h0⟩:=c4;have pE:Kept Nil w w4:=k3.trans k4 (fun j hj e=>by omega);refine⟨u,by rw [aA h0];rfl,Split.mk (fun _=>hK r _ w4 hr.1 hr.2 h4 pE) fun _=>Split.mk (fun _=>hK r _ w4 hr.1 hr.2 h4 pE) fun _=>hK r _ w4 hr.1 hr.2 h4 pE⟩
end
theorem F9(x M:Nat)(hM0:1<=M)(hM:M<4000000):∃O:Nat,O<M/\i64.wrap (u64.wrap (((BitVec.ofInt 64 (x:Int)&&& BitVec.ofInt 64 (u64.wrap ((M:Int)-(1:Int)))).toNat:Nat):Int))=(O:Int):=by
 have e1:u64.wrap ((M:Int)-(1:Int))=((M-1:Nat):Int):=by
  rw [show(M:Int)-1=((M-1:Nat):Int)by omega];exact jJ (by omega)
 rw [e1];have hle:(BitVec.ofInt 64 (x:Int)&&& BitVec.ofInt 64 ((M-1:Nat):Int)).toNat<=M-1:=by
  rw [BitVec.toNat_and,BitVec.ofInt_natCast (n:=M-1),BitVec.toNat_ofNat,Nat.mod_eq_of_lt (a:=M-1) (by omega)];exact Nat.and_le_right
 generalize (BitVec.ofInt 64 (x:Int)&&& BitVec.ofInt 64 ((M-1:Nat):Int)).toNat=O at hle;exact⟨O,by omega,by rw [jJ (by omega)];exact gN (by omega) (by omega)⟩
section
variable{w w':World}{B b n cx:Nat}{d:Array HT}{F:Nat->Prop}{c k:Nat}{G:GS}{m:CM}{K:Value->World->Prop}
theorem EB{q X:Nat}{t:TypeId}(hX:X<18446744073709551616)(hq:w.heap[q]? =some (.cells #[.int .u64 (X:Int)] t (0,0)))
 (hK:∀(X':Nat) w',X'<18446744073709551616->w'.heap[q]? =some (.cells #[.int .u64 (X':Int)] t (0,0))->Kept (· =q) w w'->K (.int .u64 (X':Int)) w'):
 bk prog oX.id #[.pointer (some ⟨q,0,none⟩)] w K:=by
 have h:=AnyF.xorshift_Next (P:=prog) (ρ:=Tryz.pQ) {Tryz.wM with} q 0 X hX w (by rw [aA hq];rfl) (dO hq (by simp)).2;refine Calls.mono h ?_;rintro e w' ⟨rfl,rfl⟩;refine⟨_,rfl,hK _ _ (Sort.xorNextN_lt X hX) ?_ ?_⟩
 ·show(w.setCell ⟨q,0,none⟩ _).heap[q]? =_
  rw [dc hq 0];rfl
 ·exact(((Kept.setCell (S:=(· =q)) (Kept.refl _ w) (p:=⟨q,0,none⟩) (fun _=>rfl) _).drew).drew).drew
theorem EJ(h:SE w F c k G m B b n cx d){x y:Nat}(oJ:x+12<y)(hy:y<=n)(hn:n<=1000000)
 (hK:∀d' w',SE w' F c k G m B b n cx d'->Sort.PermIn x y d d'->Kept (· =b) w w'->K (.tuple #[]) w'):
 bk prog iU.id #[.slice (some ⟨b,0,none⟩) n cx,.int .i64 (x:Int),.int .i64 (y:Int),.func (.func bt.id) #[.pointer (some ⟨c,0,none⟩)] #[]] w K:=by
 refine eN.of ?_;unfold eN.W;have e4:∀L:Nat,((L:Nat):Int).tdiv 4=((L/4:Nat):Int):=fun _=>rfl;obtain⟨L,hL,g12⟩:∃L:Nat,y=x+L/\12<L:=⟨y-x,by omega,by omega⟩;subst hL;rw [wN (x:=((x+L:Nat):Int)-(x:Int)) (i:=L) (by omega) (by omega)];refine Split.yes (decide_eq_true (by omega)) ?_;intro w3;have k3:Kept Nil w w3:=(Kept.refl _ _).alloc _;obtain⟨tx,nh⟩:∃t:TypeId,w3.heap[w.heap.size]? =some (.cells #[.int .u64 0] t (0,0)):=⟨_,aI w _⟩;clear_value w3;refine⟨dO nh (by simp),?_⟩;intro w4;have qJ:w4.heap[w.heap.size]? =some (.cells #[.int .u64 ((L:Nat):Int)] tx (0,0)):=by
  show(w3.setCell ⟨w.heap.size,0,none⟩ _).heap[w.heap.size]? =_;rw [dc nh 0,jJ (by omega)];rfl
 have k4:Kept (· =w.heap.size) w3 w4:=Kept.setCell (S:=(· =w.heap.size)) (Kept.refl _ w3) (p:=⟨w.heap.size,0,none⟩) (fun _=>rfl) _;clear_value w4;have pE:Kept Nil w w4:=k3.trans k4 (fun j hj e=>by omega);have hf:=h.fresh (Nat.le_refl _);have h4:=h.same pE;refine Calls.mono (AnyF.nextPowerOfTwo (P:=prog) (ρ:=Tryz.pQ) {Tryz.wM with} L (by omega) w4) ?_;rintro e w5 ⟨rfl,rfl⟩;have hM:=Sort.two_pow_bitsLen_le (n:=L) (by omega);have hM1:1<=2 ^ Sort.bitsLen L:=Nat.two_pow_pos _;rw [Nat.one_shiftLeft];generalize 2 ^ Sort.bitsLen L=M at hM hM1;have g4:1<=L/4/\L/4*2+1<L:=by omega
 refine⟨_,rfl,(M:Int),rfl,by decide,?_⟩;have ei:∀t:Nat,t<=1->True:=fun _ _=>trivial;rw [e4,wN (x:=((L/4:Nat):Int)) (i:=L/4) rfl (by omega),wN (x:=((L/4:Nat):Int)*2) (i:=L/4*2) (by omega) (by omega),wN (x:=(x:Int)+((L/4*2:Nat):Int)) (i:=x+L/4*2) (by omega) (by omega),wN (x:=((x+L/4*2:Nat):Int)-1) (i:=x+L/4*2-1) (by omega) (by omega)];refine eN.b9 (I:=fun s v=>∃(i X:Nat) (dk:Array HT),s=(i:Int)/\x<=i/\i<=x+L/4*2+2/\X<18446744073709551616/\v.heap[w.heap.size]? =some (.cells #[.int .u64 (X:Int)] tx (0,0))/\SE v F c k G m B b n cx dk/\Sort.PermIn x (x+L) d dk/\Kept (· =b) w v) (μ:=fun s _=>(((x+L/4*2+2:Nat):Int)-s).toNat) (s:=((x+L/4*2-1:Nat):Int)) ⟨x+L/4*2-1,L,d,rfl,by omega,by omega,by omega,qJ,h4,Sort.permIn_refl _ _ _,pE.mono fun _ _ h=>h.elim⟩ ?_;rintro s v ⟨i,X,dk,rfl,hi,Ct,hX,D4,hv,hp,kv⟩;unfold eN.B1;rw [e4,wN (x:=((L/4:Nat):Int)) (i:=L/4) rfl (by omega),wN (x:=((L/4:Nat):Int)*2) (i:=L/4*2) (by omega) (by omega),wN (x:=(x:Int)+((L/4*2:Nat):Int)) (i:=x+L/4*2) (by omega) (by omega),wN (x:=((x+L/4*2:Nat):Int)+1) (i:=x+L/4*2+1) (by omega) (by omega)];refine⟨by decide,Split.dec (fun hle=>?_) (fun gu=>?_)⟩
 ·have dP:i<=x+L/4*2+1:=by omega
  refine EB hX D4 fun X' w6 hX' qh k6=>⟨(X':Int),rfl,?_⟩;obtain⟨O,hO,eO⟩:=F9 X' M hM1 (by omega);rw [eO];have h6:=hv.gZ k6 hf;have fin:∀(j:Nat),j<L->∀ {u:World},Kept Nil w6 u->_:=fun j hj {u} ku=>(h6.same ku).sw (x:=(i:Int)) (y:=((x+j:Nat):Int)) (i:=i) (j:=x+j) rfl rfl (by omega) (by omega);have nxt:∀ {j:Nat} {u t:World},j<L->Kept Nil w6 u->SE t F c k G m B b n cx (Sort.swp dk i (x+j))->Kept (· =b) u t->∃s1:Int,i64.wrap ((i:Int)+1)=s1/\(∃(i X:Nat) (dk:Array HT),s1=(i:Int)/\x<=i/\i<=x+L/4*2+2/\X<18446744073709551616/\t.heap[w.heap.size]? =some (.cells #[.int .u64 (X:Int)] tx (0,0))/\SE t F c k G m B b n cx dk/\Sort.PermIn x (x+L) d dk/\Kept (· =b) w t)/\(((x+L/4*2+2:Nat):Int)-s1).toNat<(((x+L/4*2+2:Nat):Int)-(i:Int)).toNat:=fun {j u t} hj ku ht kt=>by
   rw [wN (x:=(i:Int)+1) (i:=i+1) (by omega) (by omega)];have lO:=SR.size hv.row;exact⟨_,rfl,⟨i+1,X',_,rfl,by omega,by omega,hX',kt.heap (ku.heap qh (fun h=>h)) hf.2.2,ht,Sort.permIn_trans _ _ _ x (x+L) hp (Sort.swp_permIn dk x (x+L) i (x+j) hi (by omega) (by omega) (by omega) (by omega)),(((kv.trans k6 (fun j hj e=>by omega)).trans ku (fun _ _ h=>h.elim)).tt kt)⟩,by omega⟩
  refine Split.dec (fun hOL=>?_) (fun hOL=>?_)
  ·rw [wN (x:=(O:Int)-(L:Int)) (i:=O-L) (by omega) (by omega),wN (x:=(x:Int)+((O-L:Nat):Int)) (i:=x+(O-L)) (by omega) (by omega)]
   intro w7;have k7:Kept Nil w6 w7:=(Kept.refl _ _).drew;clear_value w7;obtain⟨⟨a1,a2,a3,a4,a5,a6⟩,h5,k5⟩:=fin (O-L) (by omega) k7;refine⟨a1,_,a2,a3,_,a4,a3,a5,a1,a6,?_⟩;obtain⟨s1,e1,e2,e3⟩:=nxt (by omega) k7 h5 k5;simp only;rw [e1];exact⟨s1,rfl,e2,e3⟩
  ·rw [wN (x:=(x:Int)+(O:Int)) (i:=x+O) (by omega) (by omega)]
   intro w7;have k7:Kept Nil w6 w7:=(Kept.refl _ _).drew;clear_value w7;obtain⟨⟨a1,a2,a3,a4,a5,a6⟩,h5,k5⟩:=fin O (by omega) k7;refine⟨a1,_,a2,a3,_,a4,a3,a5,a1,a6,?_⟩;obtain⟨s1,e1,e2,e3⟩:=nxt (by omega) k7 h5 k5;simp only;rw [e1];exact⟨s1,rfl,e2,e3⟩
 ·rw [aO,eN.df]
  exact hK dk v hv hp kv
theorem BC{d:Array HT}{x y:Nat}(h:∀t,x<t->t<y->gl G d[t]! d[t-1]! =false):Sort.SortedIn (gl G) x y d:=by
 have key:∀(r i:Nat),x<=i->i+r+1<y->gl G d[i+r+1]! d[i]! =false:=by
  intro r
  induction r with
  |zero=>intro i hi hy;exact h (i+1) (by omega) hy
  |succ r ih=>
   intro i hi hy;have h1:=h (i+(r+1)+1) (by omega) hy;have h2:=ih i hi (by omega);exact(vq G).ntrans _ _ _ h1 h2
 intro i j hi pX hj;have:=key (j-i-1) i hi (by omega)
 rwa [show i+(j-i-1)+1=j by omega]at this
theorem EE(h:SE w F c k G m B b n cx d){x y:Nat}(oJ:x<y)(hy:y<=n)(hn:n<50)
 (hK:∀(t:Bool) w',(t=true->Sort.SortedIn (gl G) x y d)->SE w' F c k G m B b n cx d->Kept Nil w w'->K (.bool t) w'):
 bk prog gU.id #[.slice (some ⟨b,0,none⟩) n cx,.int .i64 (x:Int),.int .i64 (y:Int),.func (.func bt.id) #[.pointer (some ⟨c,0,none⟩)] #[]] w K:=by
 refine bD.of ?_;unfold bD.W;rw [wN (x:=(x:Int)+1) (i:=x+1) (by omega) (by omega)];refine bD.b9 (I:=fun s v=>s=(false,((x+1:Nat):Int),0)/\v=w) (μ:=fun _ _=>0) (s:=(false,((x+1:Nat):Int),0)) ⟨rfl,rfl⟩ ?_;rintro s v ⟨rfl,rfl⟩;unfold bD.B1;refine Split.yes (decide_eq_true (by simp only;omega)) ?_;refine bD.gC (I:=fun s u=>∃i:Nat,s=(i:Int)/\x<i/\i<=y/\(∀t,x<t->t<i->gl G d[t]! d[t-1]! =false)/\SE u F c k G m B b n cx d/\Kept Nil v u) (μ:=fun s _=>((y:Int)-s).toNat) (s:=((x+1:Nat):Int)) ⟨x+1,rfl,by omega,by omega,fun t h1 h2=>by omega,h,Kept.refl _ _⟩ ?_;rintro s u ⟨i,rfl,Ri,hiy,Nk,hu,ku⟩;unfold bD.B2;intro w3;have k3:Kept Nil u w3:=(Kept.refl _ _).drew;clear_value w3;have h3:=hu.same k3;have lC:=ku.tt k3;have stop:∀ {t:World},SE t F c k G m B b n cx d->Kept Nil v t->(i=y->Sort.SortedIn (gl G) x y d)->bD.ik (some ⟨b,0,none⟩) n cx (x:Int) (y:Int) (some ⟨c,0,none⟩) false (i:Int) 0 (bL (bD.e1 (some ⟨b,0,none⟩) n cx (x:Int) (y:Int) (some ⟨c,0,none⟩)) (fun s v_1=>s=(false,((x+1:Nat):Int),0)/\v_1=v) (fun _ _=>0) (false,((x+1:Nat):Int),0) v (bD.q1 K)) t:=fun {t} ht kt hs=>by
  unfold bD.ik;by_cases he:i=y
  ·refine Split.yes (by rw [he];exact beq_self_eq_true _) ?_
   rw [iF];exact hK true t (fun _=>hs he) ht kt
  ·refine Split.no (beq_eq_false_iff_ne.2 (by omega)) ?_
   rw [wN (x:=(y:Int)-(x:Int)) (i:=y-x) (by omega) (by omega)];refine Split.yes (decide_eq_true (by omega)) ?_;rw [iF];exact hK false t (fun e=>by cases e) ht kt
 refine Split.dec (fun cJ=>?_) (fun gu=>?_)
 ·have cJ:i<y:=by omega
  rw [wN (x:=(i:Int)-1) (i:=i-1) (by omega) (by omega)];refine h3.cmp (i:=i) (j:=i-1) rfl rfl (by omega) (by omega) fun r w4 h4 k4 hr=>?_;have pE:=lC.tt k4;by_cases sF:r<0
  ·refine Split.no (by rw [decide_eq_true sF];rfl) ?_
   rw [aO,bD.jA];exact stop h4 pE (fun e=>absurd e (by omega))
  ·refine Split.yes (by rw [decide_eq_false sF];rfl) ?_
   rw [wN (x:=(i:Int)+1) (i:=i+1) (by omega) (by omega)];refine⟨((i+1:Nat):Int),rfl,⟨i+1,rfl,by omega,by omega,fun t h1 h2=>?_,h4,pE⟩,by simp only;omega⟩;rcases Nat.lt_or_ge t i with h5|h5
   ·exact Nk t h1 h5
   ·obtain rfl:t=i:=by omega
    cases hg:gl G d[t]! d[t-1]!
    ·rfl
    ·exact absurd (hr.2 hg) sF
 ·rw [aO,bD.jA]
  exact stop h3 lC (fun e=>BC (by subst e;exact Nk))
end
section
variable{w w':World}{B b n cx:Nat}{d:Array HT}{F:Nat->Prop}{c k:Nat}{G:GS}{m:CM}{K:Value->World->Prop}
theorem uv(h:SE w F c k G m B b n cx d){x y z:Nat}(Rh:z+y<=n)(oJ:x<=y)(hn:n<=1000000){lo:Int}
 (hK:∀w',SE w' F c k G m B b n cx (Sort.siftDown (gl G) y z x d)->Kept (· =b) w w'->K (.tuple #[]) w'):
 bk prog jP.id #[.slice (some ⟨b,0,none⟩) n cx,.int .i64 (x:Int),.int .i64 (y:Int),.int .i64 (z:Int),.func (.func bt.id) #[.pointer (some ⟨c,0,none⟩)] #[]] w K:=by
 refine bQ.of ?_;unfold bQ.W;refine bQ.b9 (I:=fun s v=>∃(r:Nat) (dk:Array HT),s=(r:Int)/\r<=y/\SE v F c k G m B b n cx dk/\Sort.siftDown (gl G) y z r dk=Sort.siftDown (gl G) y z x d/\Kept (· =b) w v) (μ:=fun s _=>((y:Int)-s).toNat) (s:=(x:Int)) ⟨x,d,rfl,oJ,h,rfl,Kept.refl _ _⟩ ?_;rintro s v ⟨r,dk,rfl,hr,hv,hs,kv⟩;unfold bQ.B1;rw [wN (x:=2*(r:Int)) (i:=2*r) (by omega) (by omega),wN (x:=((2*r:Nat):Int)+1) (i:=2*r+1) (by omega) (by omega)];refine Split.dec (fun gu=>?_) (fun cJ=>?_)
 ·rw [aO,bQ.df]
  rw [Sort.siftDown,dif_pos (show 2*r+1>=y by omega)]at hs;rw [hs]at hv;exact hK v hv kv
 have mW:2*r+1<y:=by omega
 rw [Sort.siftDown,dif_neg (by omega)]at hs;have fin:∀(ch:Nat) {u:World},r<ch->ch<y->SE u F c k G m B b n cx dk->Kept Nil v u->(if(!gl G dk[z+r]! dk[z+ch]!)=true then dk else Sort.siftDown (gl G) y z ch (Sort.swp dk (z+r) (z+ch)))=Sort.siftDown (gl G) y z x d->
  bQ.J1 (some ⟨b,0,none⟩) n cx (y:Int) (z:Int) (some ⟨c,0,none⟩) (r:Int) (ch:Int) (bL (bQ.e1 (some ⟨b,0,none⟩) n cx (y:Int) (z:Int) (some ⟨c,0,none⟩)) (fun s v=>∃(r:Nat) (dk:Array HT),s=(r:Int)/\r<=y/\SE v F c k G m B b n cx dk/\Sort.siftDown (gl G) y z r dk=Sort.siftDown (gl G) y z x d/\Kept (· =b) w v) (fun s _=>((y:Int)-s).toNat) (r:Int) v (bQ.q1 K)) u:=fun ch {u} h1 h2 hu ku he=>by
  unfold bQ.J1;rw [wN (x:=(z:Int)+(r:Int)) (i:=z+r) (by omega) (by omega),wN (x:=(z:Int)+(ch:Int)) (i:=z+ch) (by omega) (by omega)];intro w3;have k3:Kept Nil u w3:=(Kept.refl _ _).drew;clear_value w3;refine(hu.same k3).cmp (i:=z+r) (j:=z+ch) rfl rfl (by omega) (by omega) fun t w4 h4 k4 ht=>?_;have nf:=kv.trans ((ku.tt k3).tt k4) (fun _ _ h=>h.elim);by_cases MG:t<0
  ·refine Split.no (by rw [decide_eq_true MG];rfl) (bQ.qq ?_)
   rw [if_neg (by rw [ht.1 MG];decide)]at he;unfold bQ.J2;rw [wN (x:=(z:Int)+(r:Int)) (i:=z+r) (by omega) (by omega),wN (x:=(z:Int)+(ch:Int)) (i:=z+ch) (by omega) (by omega)];intro w5;have k5:Kept Nil w4 w5:=(Kept.refl _ _).drew;clear_value w5;obtain⟨⟨a1,a2,a3,a4,a5,a6⟩,h6,k6⟩:=(h4.same k5).sw (x:=((z+r:Nat):Int)) (y:=((z+ch:Nat):Int)) rfl rfl (by omega) (by omega);refine⟨a1,_,a2,a3,_,a4,a3,a5,a1,a6,?_⟩;exact⟨(ch:Int),rfl,⟨ch,_,rfl,by omega,h6,he,(nf.trans k5 (fun _ _ h=>h.elim)).tt k6⟩,by simp only;omega⟩
  ·refine Split.yes (by rw [decide_eq_false MG];rfl) ?_
   rw [iF];rw [if_pos (by cases hg:gl G dk[z+r]! dk[z+ch]!;rfl;exact absurd (ht.2 hg) MG)]at he;rw [he]at h4;exact hK w4 h4 nf
 intro w3;have k3:Kept Nil v w3:=(Kept.refl _ _).drew;clear_value w3;have h3:=hv.same k3;rw [wN (x:=((2*r+1:Nat):Int)+1) (i:=2*r+2) (by omega) (by omega)];refine Split.dec (fun Ld=>?_) (fun P0=>?_)
 ·have yR:2*r+2<y:=by omega
  rw [wN (x:=(z:Int)+((2*r+1:Nat):Int)) (i:=z+(2*r+1)) (by omega) (by omega),wN (x:=((z+(2*r+1):Nat):Int)+1) (i:=z+(2*r+1)+1) (by omega) (by omega)];refine h3.cmp (i:=z+(2*r+1)) (j:=z+(2*r+1)+1) rfl rfl (by omega) (by omega) fun t w4 h4 k4 ht=>?_;have Be:=k3.tt k4;refine Split.dec (fun MG=>bQ.oA ?_) (fun MG=>bQ.oA ?_)
  ·rw [if_pos (by rw [ht.1 MG];simp only [Bool.and_true,decide_eq_true_eq];omega),dif_pos yR]at hs
   exact fin (2*r+2) (by omega) yR h4 Be hs
  ·rw [if_neg (by simp only [Bool.and_eq_true,decide_eq_true_eq];intro e;exact MG (ht.2 e.2))]at hs
   exact fin (2*r+1) (by omega) mW h4 Be hs
 ·refine bQ.oA ?_
  rw [if_neg (by simp only [Bool.and_eq_true,decide_eq_true_eq];intro e;omega)]at hs;exact fin (2*r+1) (by omega) mW h3 k3 hs
theorem BD(h:SE w F c k G m B b n cx d){x y:Nat}(oJ:x+1<y)(hy:y<=n)(hn:n<=1000000)
 (hK:∀w',SE w' F c k G m B b n cx (Sort.heapSort (gl G) d x y)->Kept (· =b) w w'->K (.tuple #[]) w'):
 bk prog jQ.id #[.slice (some ⟨b,0,none⟩) n cx,.int .i64 (x:Int),.int .i64 (y:Int),.func (.func bt.id) #[.pointer (some ⟨c,0,none⟩)] #[]] w K:=by
 refine bZ.of ?_;unfold bZ.W;have e2:∀L:Nat,((L:Nat):Int).tdiv 2=((L/2:Nat):Int):=fun _=>rfl;obtain⟨L,hL,g12⟩:∃L:Nat,y=x+L/\1<L:=⟨y-x,by omega,by omega⟩;subst hL;rw [wN (x:=((x+L:Nat):Int)-(x:Int)) (i:=L) (by omega) (by omega),wN (x:=(L:Int)-1) (i:=L-1) (by omega) (by omega),e2,wN (x:=(((L-1)/2:Nat):Int)) (i:=(L-1)/2) rfl (by omega)];refine⟨by decide,?_⟩;have hh:Sort.heapSort (gl G) d x (x+L)=Sort.heapPop (gl G) x L (Sort.heapBuild (gl G) L x ((L-1)/2+1) d):=by
  unfold Sort.heapSort;rw [show x+L-x=L by omega]
 rw [hh]at hK;refine bZ.b9 (I:=fun s v=>∃(t:Nat) (dk:Array HT),s=(t:Int)-1/\t<=L/\SE v F c k G m B b n cx dk/\Sort.heapBuild (gl G) L x t dk=Sort.heapBuild (gl G) L x ((L-1)/2+1) d/\Kept (· =b) w v) (μ:=fun s _=>(s+1).toNat) (s:=(((L-1)/2:Nat):Int)) ⟨(L-1)/2+1,d,by omega,by omega,h,rfl,Kept.refl _ _⟩ ?_;rintro s v ⟨t,dk,rfl,ht,hv,he,kv⟩;unfold bZ.B1;refine Split.dec (fun gu=>?_) (fun cJ=>?_)
 ·obtain⟨t',rfl⟩:∃t',t=t'+1:=⟨t-1,by omega⟩
  have e1:((t'+1:Nat):Int)-1=(t':Int):=by omega
  rw [e1];refine uv (x:=t') (y:=L) (z:=x) (lo:=0) hv (by omega) (by omega) hn fun w4 h4 k4=>⟨rfl,?_⟩;rw [gN (x:=(t':Int)-1) (by omega) (by omega)];exact⟨(t':Int)-1,rfl,⟨t',_,rfl,by omega,h4,he,kv.tt k4⟩,by simp only;omega⟩
 ·obtain rfl:t=0:=by omega
  rw [aO,bZ.df];unfold bZ.cH
  replace he:dk=_:=he
  rw [<-he]at hK;rw [wN (x:=(L:Int)-1) (i:=L-1) (by omega) (by omega)];refine bZ.gC (I:=fun s u=>∃(t:Nat) (dj:Array HT),s=(t:Int)-1/\t<=L/\SE u F c k G m B b n cx dj/\Sort.heapPop (gl G) x t dj=Sort.heapPop (gl G) x L dk/\Kept (· =b) w u) (μ:=fun s _=>(s+1).toNat) (s:=((L-1:Nat):Int)) ⟨L,dk,by omega,by omega,hv,rfl,kv⟩ ?_;rintro s u ⟨t,dj,rfl,ht,hu,Rz,ku⟩;unfold bZ.B2;refine Split.dec (fun gu=>?_) (fun cJ=>?_)
  ·obtain⟨t',rfl⟩:∃t',t=t'+1:=⟨t-1,by omega⟩
   have e1:((t'+1:Nat):Int)-1=(t':Int):=by omega
   rw [e1,wN (x:=(x:Int)+(t':Int)) (i:=x+t') (by omega) (by omega)];intro w5;have k5:Kept Nil u w5:=(Kept.refl _ _).drew;clear_value w5;obtain⟨⟨a1,a2,a3,a4,a5,a6⟩,h6,k6⟩:=(hu.same k5).sw (x:=(x:Int)) (y:=((x+t':Nat):Int)) rfl rfl (by omega) (by omega);refine⟨a1,_,a2,a3,_,a4,a3,a5,a1,a6,?_⟩;have KC:=(ku.trans k5 (fun _ _ h=>h.elim)).tt k6;refine uv (x:=0) (y:=t') (z:=x) (lo:=0) h6 (by omega) (by omega) hn fun w7 h7 k7=>⟨rfl,?_⟩;rw [gN (x:=(t':Int)-1) (by omega) (by omega)];exact⟨(t':Int)-1,rfl,⟨t',_,rfl,by omega,h7,Rz,KC.tt k7⟩,by simp only;omega⟩
  ·obtain rfl:t=0:=by omega
   rw [aO,bZ.jA]
   replace Rz:dj=_:=Rz
   rw [<-Rz]at hK;exact hK u hu ku
end
section
variable{w w':World}{B b n cx:Nat}{d:Array HT}{F:Nat->Prop}{c k:Nat}{G:GS}{m:CM}{K:Value->World->Prop}
abbrev Jv(G:GS)(d:Array HT)(x:Nat):HT->Bool:=fun z=>gl G z d[x]!
abbrev JL(G:GS)(d:Array HT)(x:Nat):HT->Bool:=fun z=> !gl G z d[x]!
set_option maxHeartbeats 1000000 in
theorem EG(h:SE w F c k G m B b n cx d){x y p:Nat}(oJ:x+1<y)(hp:x<=p)(Rs:p<y)(hy:y<=n)(hn:n<=1000000)
 (hK:∀w',SE w' F c k G m B b n cx (Sort.partition (gl G) d x y p).2.2->Kept (· =b) w w'->K (.tuple #[.int .i64 ((Sort.partition (gl G) d x y p).1:Int),.bool (Sort.partition (gl G) d x y p).2.1]) w'):
 bk prog jC.id #[.slice (some ⟨b,0,none⟩) n cx,.int .i64 (x:Int),.int .i64 (y:Int),.int .i64 (p:Int),.func (.func bt.id) #[.pointer (some ⟨c,0,none⟩)] #[]] w K:=by
 refine aS.of ?_;unfold aS.W;intro w3;have k3:Kept Nil w w3:=(Kept.refl _ _).drew;clear_value w3;obtain⟨⟨a1,a2,a3,a4,a5,a6⟩,h5,k5⟩:=(h.same k3).sw (x:=(x:Int)) (y:=(p:Int)) rfl rfl (by omega) (by omega);refine⟨a1,_,a2,a3,_,a4,a3,a5,a1,a6,?_⟩;have tk:Kept (· =b) w _:=(k3.mono fun _ _ h=>h.elim).tt k5;clear a1 a2 a3 a4 a5 a6 k5;unfold Sort.partition at hK;simp only at hK;generalize Sort.swp d x p=d1 at hK h5;rw [wN (x:=(x:Int)+1) (i:=x+1) (by omega) (by omega),wN (x:=(y:Int)-1) (i:=y-1) (by omega) (by omega)];refine aS.b9 (I:=fun s v=>∃i:Nat,s=(i:Int)/\x<i/\i<=y/\SE v F c k G m B b n cx d1/\Sort.scanUp (Jv G d1 x) d1 (y-1) i=Sort.scanUp (Jv G d1 x) d1 (y-1) (x+1)/\Kept (· =b) w v) (μ:=fun s _=>((y:Int)-s).toNat) (s:=((x+1:Nat):Int)) ⟨x+1,rfl,by omega,by omega,h5,rfl,tk⟩ ?_;clear h5 tk;rintro s v ⟨i,rfl,Ri,hiy,hv,DL,kv⟩;unfold aS.B1;intro w4;have k4:Kept Nil v w4:=(Kept.refl _ _).drew;clear_value w4;have h4:=hv.same k4;have nf:=kv.trans k4 (fun _ _ h=>h.elim);have up:∀ {u:World},SE u F c k G m B b n cx d1->Kept (· =b) w u->Sort.scanUp (Jv G d1 x) d1 (y-1) (x+1)=i->aS.cH (some ⟨b,0,none⟩) n cx (x:Int) (some ⟨c,0,none⟩) 0 (i:Int) ((y-1:Nat):Int) K u:=fun {u} hu ku hi=>by
  rw [hi]at hK;unfold aS.cH;refine aS.gC (I:=fun s v=>∃j:Nat,s=(j:Int)/\x<=j/\j<y/\SE v F c k G m B b n cx d1/\Sort.scanDown (JL G d1 x) d1 i j=Sort.scanDown (JL G d1 x) d1 i (y-1)/\Kept (· =b) w v) (μ:=fun s _=>s.toNat) (s:=((y-1:Nat):Int)) ⟨y-1,rfl,by omega,by omega,hu,rfl,ku⟩ ?_;rintro s v ⟨j,rfl,hxj,hjy,hv,Ro,kv⟩;unfold aS.B2;intro w5;have k5:Kept Nil v w5:=(Kept.refl _ _).drew;clear_value w5;have h5:=hv.same k5;have yK:=kv.trans k5 (fun _ _ h=>h.elim);have down:∀ {u:World},SE u F c k G m B b n cx d1->Kept (· =b) w u->Sort.scanDown (JL G d1 x) d1 i (y-1)=j->aS.ik (some ⟨b,0,none⟩) n cx (x:Int) (some ⟨c,0,none⟩) 0 (i:Int) (j:Int) K u:=fun {u} hu ku hj=>by
   rw [hj]at hK;unfold aS.ik;refine Split.dec (fun xp=>?_) (fun hle=>?_)
   ·rw [if_pos (by omega)]at hK
    intro w6;have k6:Kept Nil u w6:=(Kept.refl _ _).drew;clear_value w6;obtain⟨⟨a1,a2,a3,a4,a5,a6⟩,h7,k7⟩:=(hu.same k6).sw (x:=(j:Int)) (y:=(x:Int)) rfl rfl (by omega) (by omega);refine⟨a1,_,a2,a3,_,a4,a3,a5,a1,a6,?_⟩;exact hK _ h7 ((ku.trans k6 (fun _ _ h=>h.elim)).tt k7)
   ·have pX:i<=j:=by omega
    rw [if_neg (by omega)]at hK;simp only at hK;intro w6;have k6:Kept Nil u w6:=(Kept.refl _ _).drew;clear_value w6;obtain⟨⟨a1,a2,a3,a4,a5,a6⟩,h7,k7⟩:=(hu.same k6).sw (x:=(i:Int)) (y:=(j:Int)) rfl rfl (by omega) (by omega);refine⟨a1,_,a2,a3,_,a4,a3,a5,a1,a6,?_⟩;have yM:=(ku.trans k6 (fun _ _ h=>h.elim)).tt k7;clear a1 a2 a3 a4 a5 a6 k7;generalize Sort.swp d1 i j=d2 at hK h7;rw [wN (x:=(i:Int)+1) (i:=i+1) (by omega) (by omega),wN (x:=(j:Int)-1) (i:=j-1) (by omega) (by omega)];refine aS.rv (I:=fun s v=>∃(i2 j2:Nat) (dk:Array HT),s=((i2:Int),(j2:Int))/\x<i2/\i2<=y/\x<=j2/\j2<y/\SE v F c k G m B b n cx dk/\Sort.partLoop (gl G) x i2 j2 dk=Sort.partLoop (gl G) x (i+1) (j-1) d2/\Kept (· =b) w v) (μ:=fun s _=>(s.2+1-s.1).toNat) (s:=(((i+1:Nat):Int),((j-1:Nat):Int))) ⟨i+1,j-1,d2,rfl,by omega,by omega,by omega,by omega,h7,rfl,yM⟩ ?_;clear h7 yM;rintro s v ⟨i2,j2,dk,rfl,ahu,aiU,aht,aiQ,ZV,qG,yL⟩;unfold aS.B3;simp only;refine aS.zL (I:=fun s v=>∃i3:Nat,s=(i3:Int)/\i2<=i3/\i3<=y/\SE v F c k G m B b n cx dk/\Sort.scanUp (Jv G dk x) dk j2 i3=Sort.scanUp (Jv G dk x) dk j2 i2/\Kept (· =b) w v) (μ:=fun s _=>((y:Int)-s).toNat) (s:=(i2:Int)) ⟨i2,rfl,by omega,by omega,ZV,rfl,yL⟩ ?_;rintro s v3 ⟨i3,rfl,aiX,aiT,hv3,FA,rC⟩;unfold aS.B4;intro w8;have k8:Kept Nil v3 w8:=(Kept.refl _ _).drew;clear_value w8;have h8:=hv3.same k8;have kv8:=rC.trans k8 (fun _ _ h=>h.elim);have up3:∀ {u:World},SE u F c k G m B b n cx dk->Kept (· =b) w u->Sort.scanUp (Jv G dk x) dk j2 i2=i3->aS.wF (some ⟨b,0,none⟩) n cx (x:Int) (some ⟨c,0,none⟩) 0 (i3:Int) (j2:Int) (bL (aS.e3 (some ⟨b,0,none⟩) n cx (x:Int) (some ⟨c,0,none⟩) 0) (fun s v=>∃(i2 j2:Nat) (dk:Array HT),s=((i2:Int),(j2:Int))/\x<i2/\i2<=y/\x<=j2/\j2<y/\SE v F c k G m B b n cx dk/\Sort.partLoop (gl G) x i2 j2 dk=Sort.partLoop (gl G) x (i+1) (j-1) d2/\Kept (· =b) w v) (fun s _=>(s.2+1-s.1).toNat) ((i2:Int),(j2:Int)) v (aS.q3 K)) u:=fun {u} hu ku hi3=>by
     unfold aS.wF;refine aS.SD (I:=fun s v=>∃j3:Nat,s=(j3:Int)/\x<=j3/\j3<=j2/\SE v F c k G m B b n cx dk/\Sort.scanDown (JL G dk x) dk i3 j3=Sort.scanDown (JL G dk x) dk i3 j2/\Kept (· =b) w v) (μ:=fun s _=>s.toNat) (s:=(j2:Int)) ⟨j2,rfl,by omega,by omega,hu,rfl,ku⟩ ?_;rintro s v4 ⟨j3,rfl,ahs,aiP,hv4,Fz,nf⟩;unfold aS.B5;intro w9;have k9:Kept Nil v4 w9:=(Kept.refl _ _).drew;clear_value w9;have h9:=hv4.same k9;have Xe:=nf.trans k9 (fun _ _ h=>h.elim);have Nq:∀ {u:World},SE u F c k G m B b n cx dk->Kept (· =b) w u->Sort.scanDown (JL G dk x) dk i3 j2=j3->aS.QR (some ⟨b,0,none⟩) n cx (x:Int) (some ⟨c,0,none⟩) 0 (i3:Int) (j3:Int) (bL (aS.e3 (some ⟨b,0,none⟩) n cx (x:Int) (some ⟨c,0,none⟩) 0) (fun s v=>∃(i2 j2:Nat) (dk:Array HT),s=((i2:Int),(j2:Int))/\x<i2/\i2<=y/\x<=j2/\j2<y/\SE v F c k G m B b n cx dk/\Sort.partLoop (gl G) x i2 j2 dk=Sort.partLoop (gl G) x (i+1) (j-1) d2/\Kept (· =b) w v) (fun s _=>(s.2+1-s.1).toNat) ((i2:Int),(j2:Int)) v (aS.q3 K)) u:=fun {u} hu ku hj3=>by
      rw [Sort.partLoop]at qG;rw [hi3,hj3]at qG;unfold aS.QR;refine Split.dec (fun xp=>?_) (fun hle=>?_)
      ·rw [if_pos (by omega)]at qG
       rw [<-qG]at hK;rw [aO,aS.xK];unfold aS.sP;intro w6;have k6:Kept Nil u w6:=(Kept.refl _ _).drew;clear_value w6;obtain⟨⟨a1,a2,a3,a4,a5,a6⟩,h7,k7⟩:=(hu.same k6).sw (x:=(j3:Int)) (y:=(x:Int)) rfl rfl (by omega) (by omega);refine⟨a1,_,a2,a3,_,a4,a3,a5,a1,a6,?_⟩;exact hK _ h7 ((ku.trans k6 (fun _ _ h=>h.elim)).tt k7)
      ·rw [if_neg (by omega),dif_pos (by omega)]at qG
       intro w6;have k6:Kept Nil u w6:=(Kept.refl _ _).drew;clear_value w6;obtain⟨⟨a1,a2,a3,a4,a5,a6⟩,h7,k7⟩:=(hu.same k6).sw (x:=(i3:Int)) (y:=(j3:Int)) rfl rfl (by omega) (by omega);refine⟨a1,_,a2,a3,_,a4,a3,a5,a1,a6,?_⟩;simp only;rw [wN (x:=(i3:Int)+1) (i:=i3+1) (by omega) (by omega),wN (x:=(j3:Int)-1) (i:=j3-1) (by omega) (by omega)];exact⟨(((i3+1:Nat):Int),((j3-1:Nat):Int)),rfl,⟨i3+1,j3-1,_,rfl,by omega,by omega,by omega,by omega,h7,qG,(ku.trans k6 (fun _ _ h=>h.elim)).tt k7⟩,by simp only;omega⟩
     refine Split.dec (fun hle=>?_) (fun xp=>?_)
     ·obtain⟨j',rfl⟩:∃j',j3=j'+1:=⟨j3-1,by omega⟩
      refine h9.cmp (i:=j'+1) (j:=x) rfl rfl (by omega) (by omega) fun r w10 vS mG hr=>?_;have rD:=Xe.trans mG (fun _ _ h=>h.elim);rw [Sort.scanDown]at Fz;by_cases sF:r<0
      ·refine Split.no (by rw [decide_eq_true sF];rfl) ?_
       rw [aO,aS.RV];rw [if_neg (by simp only [JL,hr.1 sF,Bool.not_true,Bool.and_false];decide)]at Fz;exact Nq vS rD Fz.symm
      ·refine Split.yes (by rw [decide_eq_false sF];rfl) ?_
       have hg:gl G dk[j'+1]! dk[x]! =false:=by
        cases hg:gl G dk[j'+1]! dk[x]!
        ·rfl
        ·exact absurd (hr.2 hg) sF
       rw [if_pos (by simp only [JL,hg,Bool.not_false,Bool.and_true,decide_eq_true_eq];omega)]at Fz;rw [wN (x:=((j'+1:Nat):Int)-1) (i:=j') (by omega) (by omega)];exact⟨(j':Int),rfl,⟨j',rfl,by omega,by omega,vS,Fz,rD⟩,by simp only;omega⟩
     ·rw [aO,aS.RV]
      refine Nq h9 Xe ?_;rw [<-Fz];cases j3 with
      |zero=>rfl
      |succ j'=>rw [Sort.scanDown,if_neg (by simp only [Bool.and_eq_true,decide_eq_true_eq];intro e;omega)]
    refine Split.dec (fun hle=>?_) (fun xp=>?_)
    ·refine h8.cmp (i:=i3) (j:=x) rfl rfl (by omega) (by omega) fun r w10 vS mG hr=>?_
     have rD:=kv8.trans mG (fun _ _ h=>h.elim);rw [Sort.scanUp]at FA;refine Split.dec (fun sF=>?_) (fun sF=>?_)
     ·rw [if_pos (by simp only [Jv,hr.1 sF,Bool.and_true,decide_eq_true_eq];omega)]at FA
      rw [wN (x:=(i3:Int)+1) (i:=i3+1) (by omega) (by omega)];exact⟨((i3+1:Nat):Int),rfl,⟨i3+1,rfl,by omega,by omega,vS,FA,rD⟩,by simp only;omega⟩
     ·rw [aO,aS.Bq]
      rw [if_neg (by simp only [Jv,Bool.and_eq_true,decide_eq_true_eq];intro e;exact sF (hr.2 e.2))]at FA;exact up3 vS rD FA.symm
    ·rw [aO,aS.Bq]
     refine up3 h8 kv8 ?_;rw [<-FA,Sort.scanUp,if_neg (by simp only [Bool.and_eq_true,decide_eq_true_eq];intro e;omega)]
  refine Split.dec (fun hle=>?_) (fun xp=>?_)
  ·obtain⟨j',rfl⟩:∃j',j=j'+1:=⟨j-1,by omega⟩
   refine h5.cmp (i:=j'+1) (j:=x) rfl rfl (by omega) (by omega) fun r w10 vS mG hr=>?_;have rD:=yK.trans mG (fun _ _ h=>h.elim);rw [Sort.scanDown]at Ro;by_cases sF:r<0
   ·refine Split.no (by rw [decide_eq_true sF];rfl) ?_
    rw [aO,aS.jA];rw [if_neg (by simp only [JL,hr.1 sF,Bool.not_true,Bool.and_false];decide)]at Ro;exact down vS rD Ro.symm
   ·refine Split.yes (by rw [decide_eq_false sF];rfl) ?_
    have hg:gl G d1[j'+1]! d1[x]! =false:=by
     cases hg:gl G d1[j'+1]! d1[x]!
     ·rfl
     ·exact absurd (hr.2 hg) sF
    rw [if_pos (by simp only [JL,hg,Bool.not_false,Bool.and_true,decide_eq_true_eq];omega)]at Ro;rw [wN (x:=((j'+1:Nat):Int)-1) (i:=j') (by omega) (by omega)];exact⟨(j':Int),rfl,⟨j',rfl,by omega,by omega,vS,Ro,rD⟩,by simp only;omega⟩
  ·rw [aO,aS.jA]
   refine down h5 yK ?_;rw [<-Ro];cases j with
   |zero=>rfl
   |succ j'=>rw [Sort.scanDown,if_neg (by simp only [Bool.and_eq_true,decide_eq_true_eq];intro e;omega)]
 refine Split.dec (fun hle=>?_) (fun xp=>?_)
 ·refine h4.cmp (i:=i) (j:=x) rfl rfl (by omega) (by omega) fun r w10 vS mG hr=>?_
  have rD:=nf.trans mG (fun _ _ h=>h.elim);rw [Sort.scanUp]at DL;refine Split.dec (fun sF=>?_) (fun sF=>?_)
  ·rw [if_pos (by simp only [Jv,hr.1 sF,Bool.and_true,decide_eq_true_eq];omega)]at DL
   rw [wN (x:=(i:Int)+1) (i:=i+1) (by omega) (by omega)];exact⟨((i+1:Nat):Int),rfl,⟨i+1,rfl,by omega,by omega,vS,DL,rD⟩,by simp only;omega⟩
  ·rw [aO,aS.df]
   rw [if_neg (by simp only [Jv,Bool.and_eq_true,decide_eq_true_eq];intro e;exact sF (hr.2 e.2))]at DL;exact up vS rD DL.symm
 ·rw [aO,aS.df]
  refine up h4 nf ?_;rw [<-DL,Sort.scanUp,if_neg (by simp only [Bool.and_eq_true,decide_eq_true_eq];intro e;omega)]
end
theorem kY{d d':Array HT}{x y:Nat}(oJ:x<=y)(hy:y<=d.size)(h:Sort.PermIn x y d d'):d'.toList.Perm d.toList:=by
 have h1:=Sort.permIn_mono d d' x y 0 d.size (Nat.zero_le _) hy (Nat.le_refl _) h;have h2:=h1.2.2;have h3:=h1.1;rw [Array.extract_size,<-h3,Array.extract_size]at h2;exact h2
section
variable{w w':World}{B b n cx:Nat}{d:Array HT}{F:Nat->Prop}{c k:Nat}{G:GS}{m:CM}{K:Value->World->Prop}
set_option maxHeartbeats 1000000 in
theorem EV(hn:n<50){Q:aN}{v:World}{a e:Nat}{l:Int}{p q:Bool}{dk:Array HT}(Qt:a<=e)(Qa:e<=n)(DU:0<=l)(vk:l<=100)(hv:SE v F c k G m B b n cx dk)(eW:dk.toList.Nodup)(hB:Sort.Below (gl G) a e dk)
 (rec:∀ {u:World} {dj:Array HT} {a' e':Nat} {l':Int} {K':Value->World->Prop},a'<=e'->e'-a'<e-a->e'<=n->0<=l'->l'<=100->SE u F c k G m B b n cx dj->dj.toList.Nodup->Sort.Below (gl G) a' e' dj->
   (∀d' w',SE w' F c k G m B b n cx d'->Sort.PermIn a' e' dj d'->Sort.SortedIn (gl G) a' e' d'->Kept (· =b) u w'->K' (.tuple #[]) w')->
   bk prog gI.id #[.slice (some ⟨b,0,none⟩) n cx,.int .i64 (a':Int),.int .i64 (e':Int),.int .i64 l',.func (.func bt.id) #[.pointer (some ⟨c,0,none⟩)] #[]] u K')
 (Cl:∀(a' e' l' L:Int) (p' q':Bool) t u dj,(t= []\/∃r:Int,t= [(13,.int .i64 r)])->SE u F c k G m B b n cx dj->Sort.PermIn a e dk dj->Sort.SortedIn (gl G) a e dj->Kept (· =b) v u->Q .ret ((0,.slice (some ⟨b,0,none⟩) n cx)::(1,.int .i64 a')::(2,.int .i64 e')::(3,.int .i64 l')::(4,.func (.func bt.id) #[.pointer (some ⟨c,0,none⟩)] #[])::(10,.bool p')::(11,.bool q')::(12,.int .i64 L)::t) u)
 (MR:∀(a' e':Nat) (l':Int) (p' q':Bool) (dj:Array HT) (u:World),a<=a'->a'<=e'->e'<=e->e'-a'<e-a->0<=l'->l'<=100->SE u F c k G m B b n cx dj->dj.toList.Nodup->Sort.Below (gl G) a' e' dj->(∀R,Sort.PermIn a' e' dj R->Sort.SortedIn (gl G) a' e' R->Sort.PermIn a e dk R/\Sort.SortedIn (gl G) a e R)->Kept (· =b) v u->
   Q .normal [(0,.slice (some ⟨b,0,none⟩) n cx),(1,.int .i64 (a':Int)),(2,.int .i64 (e':Int)),(3,.int .i64 l'),(4,.func (.func bt.id) #[.pointer (some ⟨c,0,none⟩)] #[]),(10,.bool p'),(11,.bool q')] u):
 az.B1 (some ⟨b,0,none⟩) n cx (a:Int) (e:Int) l (some ⟨c,0,none⟩) p q Q v:=by
 have lO:=SR.size hv.row;unfold az.B1;rw [wN (x:=(e:Int)-(a:Int)) (i:=e-a) (by omega) (by omega)];refine Split.dec (fun D7=>?_) (fun D7=>?_)
 ·refine EI hv Qt Qa (by omega) fun w' h' k'=>⟨rfl,?_⟩
  obtain⟨p1,p2⟩:=Sort.insertionSort_holds (vq G) dk a e Qt (by omega);exact Cl _ _ _ _ _ _ [] _ _ (.inl rfl) h' p1 p2 k'
 have D7:a+12<e:=by omega
 refine Split.mk (fun hl=>?_) (fun hl=>?_)
 ·refine BD hv (by omega) Qa (by omega) fun w' h' k'=>⟨rfl,?_⟩
  obtain⟨p1,p2⟩:=Sort.heapSort_holds (vq G) dk a e Qt (by omega);exact Cl _ _ _ _ _ _ [] _ _ (.inl rfl) h' p1 p2 k'
 have hl:l≠0:=beq_eq_false_iff_ne.1 hl;have j1:∀ {u:World} {dj:Array HT} {l':Int},0<=l'->l'<=100->SE u F c k G m B b n cx dj->Sort.PermIn a e dk dj->Kept (· =b) v u->az.J1 (some ⟨b,0,none⟩) n cx (a:Int) (e:Int) l' (some ⟨c,0,none⟩) p q ((e-a:Nat):Int) Q u:=by
  intro u dj l' DU vk hu Bi ku;have j7:∀ {u:World} {dj:Array HT} {r:Nat},a<=r->r<e->SE u F c k G m B b n cx dj->Sort.PermIn a e dk dj->Kept (· =b) v u->az.J7 (some ⟨b,0,none⟩) n cx (a:Int) (e:Int) l' (some ⟨c,0,none⟩) p q ((e-a:Nat):Int) (r:Int) Q u:=by
   intro u dj r mE jD hu Bi ku;have Xx:=SR.size hu.row;unfold az.J7;have hBj:=hB.perm (by omega) Bi;obtain⟨g1,g2,Rp,hBa,hBr,Ix,Ck⟩:=Sort.round_part (vq G) (Sort.partition_holds (gl G)) (d3:=dj) (mid:=(Sort.partition (gl G) dj a e r).1) (ap:=(Sort.partition (gl G) dj a e r).2.1) (d4:=(Sort.partition (gl G) dj a e r).2.2) mE jD (by omega) hBj rfl;have hp4:=(Sort.partition_holds (gl G) (vq G) dj a e r mE jD (by omega)).2.2.1;refine EG hu (by omega) mE jD Qa (by omega) fun w5 h5 k5=>⟨_,_,rfl,az.Tt ?_⟩;have Fk:=ku.tt k5;generalize (Sort.partition (gl G) dj a e r)=res at g1 g2 Rp hBa hBr Ix Ck hp4 h5;obtain⟨mid,ap,d4⟩:=res;simp only at g1 g2 Rp hBa hBr Ix Ck hp4 h5⊢;have yk:=Sort.permIn_trans _ _ _ a e Bi hp4;have K7:d4.toList.Nodup:=(kY Qt (by omega) yk).nodup_iff.2 eW;unfold az.J8;refine az.Ts ?_;unfold az.J9;rw [wN (x:=(mid:Int)-(a:Int)) (i:=mid-a) (by omega) (by omega),wN (x:=(e:Int)-(mid:Int)) (i:=e-mid) (by omega) (by omega)];refine az.O0 ?_;unfold az.J10;refine⟨by decide,az.OZ ?_⟩;unfold az.J11;refine Split.dec (fun cJ=>az.OY ?_) (fun cJ=>az.OX ?_)
   ·unfold az.J12
    refine rec g1 (by omega) (by omega) DU vk h5 K7 hBa fun d' w' h' p' s' k'=>⟨rfl,az.OW ?_⟩;unfold az.J14;rw [wN (x:=(mid:Int)+1) (i:=mid+1) (by omega) (by omega)];obtain⟨hBL,hf⟩:=Ix d' p' s';refine MR (mid+1) e l' _ _ d' w' (by omega) (by omega) (Nat.le_refl _) (by omega) DU vk h' ((kY g1 (by omega) p').nodup_iff.2 K7) hBL (fun R hR sR=>?_) (Fk.tt k');obtain⟨q1,q2⟩:=hf R hR sR;exact⟨Sort.permIn_trans _ _ _ a e Bi q1,q2⟩
   ·unfold az.J13
    rw [wN (x:=(mid:Int)+1) (i:=mid+1) (by omega) (by omega)];refine rec (by omega) (by omega) (by omega) DU vk h5 K7 hBr fun d' w' h' p' s' k'=>⟨rfl,az.OU ?_⟩;unfold az.J15;obtain⟨hBL,hf⟩:=Ck d' p' s';refine MR a mid l' _ _ d' w' (by omega) (by omega) (by omega) (by omega) DU vk h' ((kY (by omega) (by omega) p').nodup_iff.2 K7) hBL (fun R hR sR=>?_) (Fk.tt k');obtain⟨q1,q2⟩:=hf R hR sR;exact⟨Sort.permIn_trans _ _ _ a e Bi q1,q2⟩
  have j6:∀ {u:World} {dj:Array HT} {r:Nat},a<=r->r<e->SE u F c k G m B b n cx dj->Sort.PermIn a e dk dj->Kept (· =b) v u->az.J6 (some ⟨b,0,none⟩) n cx (a:Int) (e:Int) l' (some ⟨c,0,none⟩) p q ((e-a:Nat):Int) (r:Int) Q u:=by
   intro u dj r mE jD hu Bi ku;have Xx:=SR.size hu.row;unfold az.J6;intro w3;have k3:Kept Nil u w3:=(Kept.refl _ _).drew;clear_value w3;have h3:=hu.same k3;have Mj:=ku.trans k3 (fun _ _ h=>h.elim);refine Split.dec (fun ha0=>?_) (fun ha0=>az.Mv (j7 mE jD h3 Bi Mj));rw [wN (x:=(a:Int)-1) (i:=a-1) (by omega) (by omega)];refine h3.cmp (i:=a-1) (j:=r) rfl rfl (by omega) (by omega) fun z w4 h4 k4 hz=>?_;have hg:gl G dj[a-1]! dj[r]! =true:=by
    cases hg:gl G dj[a-1]! dj[r]!
    ·exfalso
     rcases hB.perm (by omega) Bi with e0|e0
     ·omega
     ·have Gq:dj.toList.Nodup:=(kY Qt (by omega) Bi).nodup_iff.2 eW
      have e1:=mu hg (e0 r mE jD);have:=(List.getElem_inj (xs:=dj.toList) (i:=a-1) (j:=r) (h₀:=by simp;omega) (h₁:=by simp;omega) Gq).1 (by
       simpa [getElem!_pos,Xx,show a-1<n by omega,show r<n by omega]using e1)
      omega
    ·rfl
   exact Split.no (by rw [decide_eq_true (hz.2 hg)];rfl) (az.Mv (j7 mE jD h4 Bi (Mj.trans k4 (fun _ _ h=>h.elim))))
  have j4:∀ {u:World} {dj:Array HT} {r:Nat} {t:Int},a<=r->r<e->SE u F c k G m B b n cx dj->Sort.PermIn a e dk dj->Kept (· =b) v u->az.J4 (some ⟨b,0,none⟩) n cx (a:Int) (e:Int) l' (some ⟨c,0,none⟩) p q ((e-a:Nat):Int) (r:Int) t Q u:=by
   intro u dj r t mE jD hu Bi ku;unfold az.J4;have go:=az.Mw (j6 mE jD hu Bi ku);refine Split.mk (fun _=>Split.mk (fun _=>Split.mk (fun _=>?_) (fun _=>go)) (fun _=>go)) (fun _=>go);refine EE hu (by omega) Qa hn fun t w' hs h' k'=>⟨t,rfl,?_⟩;have Mk:=ku.trans k' (fun _ _ h=>h.elim);exact Split.mk (fun ht=>Cl _ _ _ _ _ _ [_] _ _ (.inr ⟨_,rfl⟩) h' Bi (hs ht) Mk) (fun _=>az.Mw (j6 mE jD h' Bi Mk))
  unfold az.J1;refine ED hu D7 Qa hn fun r t w4 mE jD h4 k4=>⟨_,_,rfl,az.qq ?_⟩;have S6:=ku.trans k4 (fun _ _ h=>h.elim);unfold az.J2;refine Split.mk (fun ht=>?_) (fun ht=>az.Mx (j4 mE jD h4 Bi S6));refine EC h4 (by omega) Qa (by omega) fun d' w' h' p' k'=>⟨rfl,az.Tv ?_⟩;unfold az.J3;rw [wN (x:=(e:Int)-1) (i:=e-1) (by omega) (by omega),wN (x:=(r:Int)-(a:Int)) (i:=r-a) (by omega) (by omega),wN (x:=((e-1:Nat):Int)-((r-a:Nat):Int)) (i:=e-1-(r-a)) (by omega) (by omega)];refine az.Tu ?_;unfold az.J5;exact az.Mx (j4 (by omega) (by omega) h' (Sort.permIn_trans _ _ _ a e Bi p') (S6.tt k'))
 refine Split.mk (fun hp=>?_) (fun hp=>az.oA (j1 DU vk hv (Sort.permIn_refl _ _ _) (Kept.refl _ _)));refine EJ hv D7 Qa (by omega) fun d' w' h' p' k'=>⟨rfl,az.oA ?_⟩;rw [gN (x:=l-1) (by omega) (by omega)];exact j1 (by omega) (by omega) h' p' k'
theorem EF(hn:n<50):∀(s:Nat) {w:World} {d:Array HT} {x y:Nat} {lim:Int} {K:Value->World->Prop},y<x+s->x<=y->y<=n->0<=lim->lim<=100->SE w F c k G m B b n cx d->d.toList.Nodup->Sort.Below (gl G) x y d->
 (∀d' w',SE w' F c k G m B b n cx d'->Sort.PermIn x y d d'->Sort.SortedIn (gl G) x y d'->Kept (· =b) w w'->K (.tuple #[]) w')->
 bk prog gI.id #[.slice (some ⟨b,0,none⟩) n cx,.int .i64 (x:Int),.int .i64 (y:Int),.int .i64 lim,.func (.func bt.id) #[.pointer (some ⟨c,0,none⟩)] #[]] w K:=by
 intro s
 induction s with
 |zero=>intro w d x y lim K h1 h2;omega
 |succ s ih=>
  intro w d x y lim K hs oJ hy DU vk h eW hB hK;refine az.of ?_;unfold az.W;refine az.b9 (I:=fun st v=>∃(a e:Nat) (l:Int) (p q:Bool) (dk:Array HT),st=((a:Int),(e:Int),l,p,q)/\x<=a/\a<=e/\e<=y/\0<=l/\l<=100/\SE v F c k G m B b n cx dk/\dk.toList.Nodup/\Sort.Below (gl G) a e dk/\(∀R,Sort.PermIn a e dk R->Sort.SortedIn (gl G) a e R->Sort.PermIn x y d R/\Sort.SortedIn (gl G) x y R)/\Kept (· =b) w v) (μ:=fun st _=>(st.2.1-st.1).toNat) (s:=((x:Int),(y:Int),lim,true,true)) ⟨x,y,lim,true,true,d,rfl,Nat.le_refl _,oJ,Nat.le_refl _,DU,vk,h,eW,hB,fun R h1 h2=>⟨h1,h2⟩,Kept.refl _ _⟩ ?_;rintro st v ⟨a,e,l,p,q,dk,rfl,hxa,Qt,hey,DU,vk,hv,eW,hB,vn,kv⟩;refine EV hn Qt (by omega) DU vk hv eW hB (fun h1 h2 h3 h4 h5 h6 h7 h8 h9=>ih (by omega) h1 h3 h4 h5 h6 h7 h8 h9) (fun _ _ _ _ _ _ t u dj ht h1 h2 h3 h4=>?_) (fun a' e' l' p' q' dj u h1 h2 h3 h4 h5 h6 h7 h8 h9 vS No=>?_)
  ·rw [iF]
   obtain⟨q1,q2⟩:=vn _ h2 h3;rcases ht with rfl|⟨r,rfl⟩
   ·exact hK dj u h1 q1 q2 (kv.tt h4)
   exact hK dj u h1 q1 q2 (kv.tt h4)
  ·exact⟨((a':Int),(e':Int),l',p',q'),rfl,⟨a',e',l',p',q',dj,rfl,by omega,h2,by omega,h5,h6,h7,h8,h9,fun R hR sR=>let ⟨q1,q2⟩:=vS R hR sR;vn R q1 q2,kv.tt No⟩,by simp only;omega⟩
theorem CQ{n:Nat}(hn:n<50)(hK:∀(v:Int),0<=v->v<=100->K (.int .i64 v) w):bk prog bits_Len.id #[.int .u64 (n:Int)] w K:=by
 have h:=Any.bits_Len (SlLaysF0.n15.bits (P:=prog) (ρ:=Tryz.pQ) {Tryz.wM with}) n w (by omega) (by omega);refine Calls.mono h ?_;rintro e w' ⟨rfl,rfl⟩;refine⟨_,rfl,hK _ (by omega) ?_⟩;rw [Int.toNat_natCast,bitLen_eq _ (by omega)];have:=(Sort.bitsLen_le_iff n 62).2 (by omega);omega
end
theorem Ka:Ee 49:=by
 intro w F c k G m B A n cx l K C row hn eW iI vj hK;have hlen:=bI.len row;by_cases h0:n=0
 ·subst h0
  have h:=AnyF.slices_SortFunc_none Tryz.wM A cx (.func (.func bt.id) #[.pointer (some ⟨c,0,none⟩)] #[]) w;refine Calls.mono h ?_;rintro e w' ⟨rfl,rfl⟩;have:l= []:=List.eq_nil_of_length_eq_zero hlen;subst this;exact⟨_,rfl,hK [] _ List.Pairwise.nil (fun _=>Iff.rfl) row (Kept.refl _ _)⟩
 ·obtain⟨b,rfl⟩:=Row.some row (by omega)
  have hE:SE w F c k G m B b n cx l.toArray:=⟨C,by simpa [SR]using row,by simpa using iI,vj b rfl⟩;refine pR.of ?_;unfold pR.W;have ew:u64.wrap (n:Int)=(n:Int):=jJ (by omega);rw [ew];refine CQ (by omega) fun v hv0 JA=>⟨v,rfl,?_⟩;refine EF (x:=0) (y:=n) (by omega) (n+1) (by omega) (Nat.zero_le _) (Nat.le_refl _) hv0 JA hE (by simpa using eW) (.inl rfl) fun d' w' h' p' s' k'=>⟨rfl,?_⟩;have ny:=SR.size h'.row;have Bh:l.toArray.size=n:=by simpa using hlen
  have T9:=kY (Nat.zero_le _) (by omega) p';refine hK d'.toList w' ?_ (fun x=>by rw [T9.mem_iff]) h'.row (k'.mono fun j _ e=>by subst e;rfl);have nz:=T9.nodup_iff.2 (by simpa using eW);rw [SO,List.pairwise_iff_getElem];intro i j hi hj pX;have FG:i<d'.size:=by simpa using hi
  have vm:j<d'.size:=by simpa using hj
  have h1:=s' i j (Nat.zero_le _) pX (by omega);rw [getElem!_pos d' i FG,getElem!_pos d' j vm]at h1;rw [Array.getElem_toList,Array.getElem_toList];cases hg:gl G d'[i] d'[j]
  ·exfalso
   have e1:=mu hg h1;have:=(List.getElem_inj (xs:=d'.toList) (i:=i) (j:=j) (h₀:=hi) (h₁:=hj) nz).1 (by simpa using e1);omega
  ·rfl
end Go.Proofs.YtfleamccglihoaaGreatDoor
