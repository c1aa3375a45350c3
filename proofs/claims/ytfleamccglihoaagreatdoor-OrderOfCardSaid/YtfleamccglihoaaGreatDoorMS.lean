import Derived.Test.YtfleamccglihoaaGreatDoorMQ
import Derived.Test.YtfleamccglihoaaGreatDoorMG
import Derived.Test.YtfleamccglihoaaGreatDoorMJ
import Derived.Sort.AssemblyPlain
import Derived.Test.YtfleamccglihoaaGreatDoorMO
open Go.IntKind (i64 u64)
set_option linter.unusedVariables false
namespace Go.Proofs.YtfleamccglihoaaGreatDoor
open Go.Proofs.Tryz
open Go Go.bW Go.RowKit
section
variable{w w':World}{A B:Option Addr}{n cp m cq:Nat}{K:Value->World->Prop}
theorem Bo.none{l:List Bool}(h:Bo w none n l):n=0/\l= []:=by
 cases l with
 |nil=>exact⟨h.len.symm,rfl⟩
 |cons b l=>
  obtain⟨a,h1,_⟩:=h.at_ 0 b rfl;cases h1
theorem Bo.cells{a:Addr}{l:List Bool}(h:Bo w (some a) n l):∀j u,(sD l)[j]? =some u->w.cell? (a.add j)=some u:=by
 intro j u hj;unfold sD at hj;rw [List.getElem?_map]at hj;cases hb:l[j]? with
 |none=>rw [hb]at hj;cases hj
 |some b=>
  rw [hb]at hj;cases hj;obtain⟨a',h1,_,h3⟩:=h.at_ j b hb;cases h1;exact h3
theorem Row.bo{l:List Bool}{C:Nat}(h:Row w C gZ 1 A n cp (sD l)):Bo w A n l:=by
 have hlen:=Row.len h;refine⟨by simpa [sD]using hlen,fun i b hi=>?_⟩;have dS:=(lgeS hi).1;have hn:0<n:=by simp [sD]at hlen;omega
 obtain⟨k,rfl⟩:=Row.some h hn;obtain⟨_,cur,kF⟩:=Row.bL h (k:=k) rfl;exact⟨_,rfl,aU kF,Row.cells h i _ (by simp [sD,hi])⟩
theorem Dm{l:List Bool}(hl:Bo w A n l)(hn:n<=400000)(hK:∀A' c' w',Row w' w.heap.size gZ 1 A' n c' (sD l)->Kept Nil w w'->K (.slice A' n c') w'):
 bC prog dW.id #[.slice A n cp] w K:=by
 have hlen:=hl.len;refine dW.of ?_;cases A with
 |none=>
  obtain⟨rfl,rfl⟩:=hl.none;exact Split.yes rfl (hK none 0 w (Row.nil _ _ _ _) (Kept.refl _ _))
 |some a=>
  refine Split.no rfl ?_;intro w2;have k2:Kept Nil w w2:=(Kept.refl _ _).alloc _;have r0:Row w2 w.heap.size gZ 1 (some ⟨w.heap.size,0,none⟩) 0 0 []:=Row.made (n:=0) (cur:= #[]) (aH w _) (Nat.le_refl _) rfl (Nat.zero_le _);clear_value w2;obtain⟨A',c',w4,hr,row,hg,_⟩:=fP (P:=prog) (t:=gQ) (bytes:=1) (ty:=gQ) Cl r0 (a:=a) (m:=n) (cx:=cp) (news:=sD l) (by simp [sD,hlen]) (hl.same k2).cells (fun u hu=>by
   simp only [sD,List.mem_map]at hu;obtain⟨b,_,rfl⟩:=hu;rfl) (by omega) (by unfold maxLen;omega) k2.size
  rw [Nat.zero_add]at hr row;rw [List.nil_append]at row;exact⟨A',n,c',w4,hr,hK A' c' w4 row (Kept.dO k2 hg (fun k hk=>by cases hk;exact Nat.le_refl _))⟩
theorem oT(c:ou)(hm:HS w A n c.merge)(hb:Bo w B m c.fK)(hn:n<=400000)(YF:m<=400000)
 (hK:∀A' c1 B' c2 w',bI w' w.heap.size A' n c1 c.merge->Row w' w.heap.size gZ 1 B' m c2 (sD c.fK)->(∀j,bn A'=some j->bn B'≠some j)->Kept Nil w w'->K (.agg (cS c A' n c1 B' m c2)) w'):
 bC prog iw.id #[.agg (cS c A n cp B m cq)] w K:=by
 refine iw.of ?_;unfold iw.W;intro w1 w2 w3;have k1:Kept Nil w w1:=(Kept.refl _ _).alloc _;have Nn:w1.heap[w.heap.size]? =some (.cells (cS c A n cp B m cq) br (0,0)):=aH w _;have k2:Kept Nil w1 w2:=(Kept.refl _ _).alloc _;have jJ:w2.heap[w1.heap.size]? =some (.cells zC br (0,0)):=aH w1 _;have k3:Kept Nil w2 w3:=(Kept.refl _ _).drew;clear_value w3;have AY:=k3.heap (k2.heap Nn (fun h=>h)) (fun h=>h);have uq:=k3.heap jJ (fun h=>h);have kP:=(k1.tt k2).tt k3;have s1:=k1.size;have l1:=aU Nn;have l2:=aU jJ;have s3:=k3.size;clear_value w2 w1;have g:=gJ c A n cp B m cq #[];rw [Array.append_empty]at g;refine⟨A,n,cp,by rw [bt,aD AY];exact g.2.1,B,m,cq,by rw [bt,aD AY];exact g.2.2.1,?_⟩;refine Dk (hm.same kP) hn fun A' c1 w4 iC k4=>⟨A',n,c1,rfl,by rw [bt,aD (k4.heap AY (fun h=>h))];exact g.2.2.1,?_⟩;have mE:=kP.tt k4;have s4:=k4.size;refine Dm (hb.same mE) YF fun B' c2 w5 ju k5=>⟨B',m,c2,rfl,?_⟩;have mW:=k4.tt k5;have Nk:=mW.heap AY (fun h=>h);have th:=mW.heap uq (fun h=>h);have ml:=a8 c A n cp B m cq;refine⟨by rw [bt];exact dm Nk (by omega),?_⟩;intro w6;have e33:=rk c A n cp B m cq #[] A' n c1;rw [Array.append_empty,Array.append_empty]at e33;have IL:w6.heap[w.heap.size]? =some (.cells (cS c A' n c1 B m cq) br (0,0)):=by
  show(w5.setCell ((aP w.heap.size).add 33) (.slice A' n c1)).heap[w.heap.size]? =_;rw [bt,cV Nk,e33]
 have k6:Kept (· =w.heap.size) w5 w6:=by
  show Kept (· =w.heap.size) w5 (w5.setCell ((aP w.heap.size).add 33) (.slice A' n c1))
  rw [bt];exact Kept.setCell (S:=(· =w.heap.size)) (Kept.refl _ w5) (p:=⟨w.heap.size,0+33,none⟩) (fun _=>rfl) _
 clear_value w6;have aiQ:=a8 c A' n c1 B m cq;refine⟨by rw [bt];exact dm IL (by omega),?_⟩;intro w7;have e34:=ri c A' n c1 B m cq #[] B' m c2;rw [Array.append_empty,Array.append_empty]at e34;have hx7:w7.heap[w.heap.size]? =some (.cells (cS c A' n c1 B' m c2) br (0,0)):=by
  show(w6.setCell ((aP w.heap.size).add 34) (.slice B' m c2)).heap[w.heap.size]? =_;rw [bt,cV IL,e34]
 have k7:Kept (· =w.heap.size) w6 w7:=by
  show Kept (· =w.heap.size) w6 (w6.setCell ((aP w.heap.size).add 34) (.slice B' m c2))
  rw [bt];exact Kept.setCell (S:=(· =w.heap.size)) (Kept.refl _ w6) (p:=⟨w.heap.size,0+34,none⟩) (fun _=>rfl) _
 clear_value w7;have Lr:=k6.tt k7;have Nw:=Lr.heap th (by omega);obtain⟨t1,t2,t3⟩:=dU Nw (cs:=cS c A' n c1 B' m c2) (by rw [a8];rfl);refine⟨_,⟨a8 ..,Cells.bL hx7⟩,⟨a8 ..,eh _ _ _ _ _ _ _,fun j hj=>t1 j (by rw [a8];exact hj)⟩,?_⟩;intro w8
 replace t2:w8.heap[w1.heap.size]? =_:=t2
 replace t3:Kept (· =w1.heap.size) w7 w8:=t3
 clear_value w8;refine⟨_,⟨a8 ..,Cells.bL t2⟩,?_⟩;have EH:∀j,bn A'=some j->w3.heap.size<=j/\j<w4.heap.size:=fun j hj=>by obtain⟨g1,cur,g2⟩:=Row.bL iC hj;exact⟨g1,aU g2⟩
 have Rh:∀j,bn B'=some j->w4.heap.size<=j:=fun j hj=>(Row.bL ju hj).1;have s5:=k5.size;have Im:Kept (fun j=>j=w.heap.size\/j=w1.heap.size) w5 w8:=(Lr.mono fun _ _ h=>.inl h).trans t3 (fun _ _ h=>.inr h);refine hK A' c1 B' c2 w8 ?_ ?_ (fun j hj he=>by have:=(EH j hj).2;have:=Rh j he;omega) ((kP.tt mW).trans Im (fun j hj e=>by omega))
 ·exact Row.base (Row.aF (Row.aF iC k5 (fun _ _ h=>h)) Im (fun j hj e=>by have:=(EH j hj).1;omega)) (fun j hj=>by have:=(EH j hj).1;omega)
 ·exact Row.base (Row.aF ju Im (fun j hj e=>by have:=Rh j hj;omega)) (fun j hj=>by have:=Rh j hj;omega)
end
section
variable{w w':World}{F:Nat->Prop}{c k:Nat}{G:GS}{m:CM}{K:Value->World->Prop}
theorem tV(h:CV w F c k G m)(hK:K (.pointer (some ⟨m.x,0,none⟩)) w):bC prog eJ.id #[.pointer (some ⟨c,0,none⟩)] w K:=
 eJ.of (Split.no rfl (Is.mk rfl ⟨_,h.c1,hK⟩))
theorem x9(h:CV w F c k G m)(hD:G.D.length<=5000){a:HT}(ha:a∈ids G.D)
 (hK:∀A n c1 B e c2 w',bI w' w.heap.size A n c1 (G.fZ a).merge->Row w' w.heap.size gZ 1 B e c2 (sD (G.fZ a).fK)->(∀j,bn A=some j->bn B≠some j)->Kept Nil w w'->K (.tuple #[.agg (cS (G.fZ a) A n c1 B e c2),.int .i64 0]) w'):
 bC prog di.id #[.pointer (some ⟨c,0,none⟩),.agg a.1] w K:=by
 refine di.of ?_;unfold di.W;intro w1 w2;have k1:Kept Nil w w1:=(Kept.refl _ _).alloc _;have y8:w1.heap[w.heap.size]? =some (.cells a.1 ag (0,0)):=aH w _;have k2:Kept Nil w1 w2:=(Kept.refl _ _).alloc _;have jJ:w2.heap[w1.heap.size]? =some (.cells zC br (0,0)):=aH w1 _;clear_value w2;have Hb:=k2.heap y8 (fun h=>h);have jE:=k1.tt k2;have s1:=k1.size;have l1:=aU y8;have l2:=aU jJ;clear_value w1;refine nh (h.same jE) ⟨true,rfl,Split.no rfl ?_⟩;intro w3;have k3:Kept Nil w2 w3:=(Kept.refl _ _).drew;clear_value w3;have h3:=h.same (jE.tt k3);refine⟨_,h3.c2,a.1,⟨a.2.1,Cells.bL (k3.heap Hb (fun h=>h))⟩,_,h3.oQ ha,Split.no rfl ?_⟩;intro w4;have k4:Kept Nil w3 w4:=(Kept.refl _ _).drew;clear_value w4;have mX:=k3.tt k4;have mE:=jE.tt mX;have h4:=h.same mE;obtain⟨A1,n1,c1,B1,m1,d1,s1',sa⟩:=h4.seen a ha;have hbound:n1<=5000/\m1<=5000:=by
  have e1:=sa.mg.len;have e2:=sa.bl.len;obtain⟨lz,cz⟩:=cI.ex h.fc.iA a;rcases cz.inv h.fc.W h.fc.iA ha with⟨_,nd,h0,rfl⟩|⟨t,r',_,qy,_,_⟩
  ·obtain⟨r1,_⟩:=h.fc.root nd h0
   rw [r1]at e1 e2;simp at e1 e2;omega
  ·obtain⟨_,_,g0,g1,g2⟩:=h.fc.up t a qy
   have:=dq (m:=ids G.D) g1 (fun y hy=>(((g2 y).1 hy).1.mem h.fc.W).1);rw [gz]at this;omega
 refine⟨_,h4.c2,a.1,⟨a.2.1,Cells.bL (mX.heap Hb (fun h=>h))⟩,_,h4.oQ ha,_,⟨a8 ..,sa.fZ⟩,?_⟩;refine oT (G.fZ a) sa.mg sa.bl (by omega) (by omega) fun A' Hg B' zB w5 lM fV fM k5=>⟨_,rfl,?_⟩;have Eh:=mX.tt k5;have th:=Eh.heap jJ (fun h=>h);have s4:=mE.size;have Yc:=mX.size;obtain⟨t1,t2,t3⟩:=dU th (cs:=cS (G.fZ a) A' n1 Hg B' m1 zB) (by rw [a8];rfl);refine⟨⟨a8 ..,eh _ _ _ _ _ _ _,fun j hj=>t1 j (by rw [a8];exact hj)⟩,?_⟩;intro w6
 replace t2:w6.heap[w1.heap.size]? =_:=t2
 replace t3:Kept (· =w1.heap.size) w5 w6:=t3
 clear_value w6;refine⟨_,⟨a8 ..,Cells.bL t2⟩,?_⟩;exact hK A' n1 Hg B' m1 zB w6 (Row.base (Row.aF lM t3 (fun j hj e=>by have:=(Row.bL lM hj).1;omega)) (fun j hj=>by have:=(Row.bL lM hj).1;omega))
  (Row.base (Row.aF fV t3 (fun j hj e=>by have:=(Row.bL fV hj).1;omega)) (fun j hj=>by have:=(Row.bL fV hj).1;omega)) fM ((jE.tt Eh).trans t3 (fun j hj e=>by omega))
end
theorem tl(x:HT):x.1.size=32:=x.2.1
theorem EL{G:GS}{a b:HT}:BC G a b>0↔gl G b a=true:=by
 unfold BC;split
 ·rename_i h;rw [Bk h];simp
 ·split<;>simp_all
section
variable{w w':World}{F:Nat->Prop}{c k:Nat}{G:GS}{m:CM}{K:Value->World->Prop}{A:Option Addr}{n cx:Nat}{l:List HT}
theorem Gy(h:CV w F c k G m)(hl:HS w A n l)(h0:l≠ [])(hn:n<=400000)(gK:∀x∈l,x∈ids G.D)(hK:∀w',Kept Nil w w'->K (.agg (cF G l).1) w'):
 bC prog mw.id #[.slice A n cx,.func (.func bE.id) #[.pointer (some ⟨c,0,none⟩)] #[]] w K:=by
 have hlen:=hl.len;obtain⟨x0,t,rfl⟩:∃x0 t,l=x0::t:=by cases l with|nil=>exact absurd rfl h0|cons a b=>exact⟨a,b,rfl⟩
 refine aq.of ?_;unfold aq.W;intro w1;have k1:Kept Nil w w1:=(Kept.refl _ _).alloc _;have mU:w1.heap[w.heap.size]? =some (.cells eN.1 ag (0,0)):=aH w _;clear_value w1;simp only [List.length_cons]at hlen;refine Split.no (decide_eq_false (by omega)) ((hl.same k1).load (i:=0) (by omega) rfl ?_);intro w2;have k2:Kept Nil w1 w2:=(Kept.refl _ _).alloc _;have lE:w2.heap[w1.heap.size]? =some (.cells eN.1 ag (0,0)):=aH w1 _;clear_value w2;have jJ:=k2.heap mU (fun h=>h);have l1:=aU mU;have l2:=aU lE;obtain⟨t1,t2,t3⟩:=jS x0 lE rfl;refine⟨t1,?_⟩;intro w3
 replace t2:w3.heap[w1.heap.size]? =some (.cells x0.1 ag (0,0)):=t2
 replace t3:Kept (· =w1.heap.size) w2 w3:=t3
 clear_value w3;have s1:=k1.size;have kP:Kept Nil w w3:=(k1.tt k2).trans t3 (fun j hj e=>by omega);have uq:=t3.heap jJ (by omega);refine aq.cC (I:=fun s v=>∃(i:Nat) (b:HT),s=(i:Int)/\1<=i/\i<=n/\b∈ids G.D/\((x0::t).drop i).foldl (fun b y=>if gl G b y then y else b) b=cF G (x0::t)/\v.heap[w1.heap.size]? =some (.cells b.1 ag (0,0))/\v.heap[w.heap.size]? =some (.cells eN.1 ag (0,0))/\Kept Nil w v) (μ:=fun s _=>((n:Int)-s).toNat) (s:=1) ⟨1,x0,rfl,Nat.le_refl _,by omega,gK _ List.mem_cons_self,rfl,t2,uq,kP⟩ ?_;rintro s v ⟨i,b,rfl,L8,xf,hb,he,EF,UN,kv⟩;unfold aq.B1;refine Split.dec (fun cY=>?_) (fun gA=>?_)
 ·have dS:i<n:=by omega
  obtain⟨y,hy⟩:∃y,(x0::t)[i]? =some y:=⟨_,List.getElem?_eq_getElem (by simp;omega)⟩;have Ng:y∈ids G.D:=gK _ (List.mem_of_getElem? hy);have hd:(x0::t).drop i=y::(x0::t).drop (i+1):=by
   obtain⟨q1,q2⟩:=lgeS hy;rw [List.drop_eq_getElem_cons q1,q2]
  rw [hd,List.foldl_cons]at he;intro w4;have k4:Kept Nil v w4:=(Kept.refl _ _).drew;clear_value w4;have nJ:=kv.tt k4;have PZ:(x0::t)[((i:Nat):Int).toNat]? =some y:=by rw [Int.toNat_natCast];exact hy
  refine(hl.same nJ).load (i:=(i:Int)) (by omega) PZ ⟨b.1,⟨b.2.1,Cells.bL (k4.heap EF (fun h=>h))⟩,?_⟩;refine pU (h.same nJ) Ng hb fun w5 k5=>⟨_,rfl,?_⟩;have BQ:=nJ.tt k5;have oS:=k5.heap (k4.heap EF (fun h=>h)) (fun h=>h);have th:=k5.heap (k4.heap UN (fun h=>h)) (fun h=>h);rw [dM (n:=(i:Int)) (by omega) (by omega)];refine Split.dec (fun xY=>?_) (fun hle=>?_)
  ·rw [if_pos (EL.1 xY)]at he
   refine(hl.same BQ).load (i:=(i:Int)) (by omega) PZ ?_;obtain⟨f1,f2,f3⟩:=jS y oS b.2.1;refine⟨f1,?_⟩;exact⟨(i:Int)+1,rfl,⟨i+1,y,rfl,by omega,by omega,Ng,he,f2,f3.heap th (by omega),BQ.trans f3 (fun j hj e=>by omega)⟩,by simp only;omega⟩
  ·rw [if_neg (fun e=>hle (EL.2 e))]at he
   exact⟨(i:Int)+1,rfl,⟨i+1,b,rfl,by omega,by omega,hb,he,oS,th,BQ⟩,by simp only;omega⟩
 ·rw [aR,aq.df]
  rw [List.drop_eq_nil_of_le (by simp;omega)]at he
  replace he:b=cF G (x0::t):=he
  subst he;refine⟨_,⟨tl _,Cells.bL EF⟩,?_⟩;obtain⟨f1,f2,f3⟩:=jS (cF G (x0::t)) UN rfl;exact⟨f1,_,⟨tl _,Cells.bL f2⟩,hK _ (kv.trans f3 (fun j hj e=>by omega))⟩
theorem y9(h:CV w F c k G m)(hl:HS w A n l)(hn:n<=400000)(hK:∀w',Kept Nil w w'->K (.tuple #[.agg (if nQ G.D l=0 then cF G l else eN).1,.int .i64 (nQ G.D l)]) w'):
 bC prog dB.id #[.pointer (some ⟨c,0,none⟩),.slice A n cx] w K:=by
 refine dB.of ?_;unfold dB.W;intro w1;have k1:Kept Nil w w1:=(Kept.refl _ _).alloc _;have mU:w1.heap[w.heap.size]? =some (.cells eN.1 ag (0,0)):=aH w _;clear_value w1;refine Gx (h.same k1) (hl.same k1) hn fun w2 k2=>⟨_,rfl,?_⟩;have jE:=k1.tt k2;have jJ:=k2.heap mU (fun h=>h);by_cases h0:nQ G.D l=0
 ·rw [if_pos h0]at hK
  refine Split.no (by simp [h0]) ?_;have fM:l≠ []:=fun e=>by unfold nQ at h0;rw [if_pos e]at h0;cases h0
  have gK:∀x∈l,x∈ids G.D:=fun x hx=>by
   unfold nQ at h0;rw [if_neg fM]at h0;by_cases Yt:x∈ids G.D
   ·exact Yt
   ·rw [if_pos ⟨x,hx,Yt⟩]at h0;cases h0
  refine Gy (h.same jE) (hl.same jE) fM hn gK fun w3 k3=>⟨_,rfl,?_⟩;obtain⟨f1,f2,f3⟩:=jS (cF G l) (k3.heap jJ (fun h=>h)) rfl;rw [h0]at hK;exact⟨f1,_,⟨tl _,Cells.bL f2⟩,hK _ ((jE.tt k3).trans f3 (fun j hj e=>by omega))⟩
 ·rw [if_neg h0]at hK
  refine Split.yes (by simpa using h0) ?_;obtain⟨f1,f2,f3⟩:=jS eN jJ rfl;exact⟨f1,_,⟨tl _,Cells.bL f2⟩,hK _ (jE.trans f3 (fun j hj e=>by omega))⟩
end
abbrev SR(w:World)(B b n cx:Nat)(d:Array HT):Prop:=bI w B (some ⟨b,0,none⟩) n cx d.toList
section
variable{w w':World}{B b n cx:Nat}{d:Array HT}
theorem SR.size(h:SR w B b n cx d):d.size=n:=by have:=bI.len h;simpa using this
theorem uX(d:Array HT)(i j:Nat)(hi:i<d.size)(hj:j<d.size):(Sort.swp d i j).toList=(d.toList.set i d[j]!).set j d[i]! :=by
 unfold Sort.swp;simp
structure SE(w:World)(F:Nat->Prop)(c k:Nat)(G:GS)(m:CM)(B b n cx:Nat)(d:Array HT):Prop where
 C:CV w F c k G m
 row:SR w B b n cx d
 mem:∀x∈d.toList,x∈ids G.D
 own:¬m.own c b/\¬F b
variable{F:Nat->Prop}{c k:Nat}{G:GS}{m:CM}
theorem SE.same(h:SE w F c k G m B b n cx d)(hk:Kept Nil w w'):SE w' F c k G m B b n cx d:=⟨h.C.same hk,Row.aF h.row hk (fun _ _ h=>h),h.mem,h.own⟩
theorem SE.get(h:SE w F c k G m B b n cx d){i:Nat}(hi:i<n):d[i]! ∈ids G.D/\Cells w ((⟨b,0,none⟩:Addr).add (i*32)) d[i]!.1:=by
 have hs:=SR.size h.row;have e:d.toList[i]? =some d[i]! :=by simp [hs,hi]
 refine⟨h.mem _ (List.mem_of_getElem? e),?_⟩;obtain⟨a,h1,_,h3⟩:=(bI.hs h.row).at_ i _ e;cases h1;exact h3
theorem SE.swap(h:SE w F c k G m B b n cx d){i j:Nat}(hi:i<n)(hj:j<n):
 ((d[j]!.1.size=32/\(∀a∈d[j]!.1.toList,a.oneCell'=true)/\∀q,q<32->Wr w (((⟨b,0,none⟩:Addr).add (i*32)).add q))/\
   d[i]!.1.size=32/\(∀a∈d[i]!.1.toList,a.oneCell'=true)/\∀q,q<32->Wr (setCells w ((⟨b,0,none⟩:Addr).add (i*32)) d[j]!.1.toList 0) (((⟨b,0,none⟩:Addr).add (j*32)).add q))/\
 SE (setCells (setCells w ((⟨b,0,none⟩:Addr).add (i*32)) d[j]!.1.toList 0) ((⟨b,0,none⟩:Addr).add (j*32)) d[i]!.1.toList 0) F c k G m B b n cx (Sort.swp d i j)/\
 Kept (· =b) w (setCells (setCells w ((⟨b,0,none⟩:Addr).add (i*32)) d[j]!.1.toList 0) ((⟨b,0,none⟩:Addr).add (j*32)) d[i]!.1.toList 0):=by
 have hs:=SR.size h.row;have gi:=h.get hi;have gj:=h.get hj;simp only [bt,Nat.zero_add];have r1:=bI.setAt h.row hi d[j]!;have r2:=bI.setAt r1 hj d[i]!;have kp:=(fp (b:=b) d[j]!.1.toList w (i*32) 0).tt (fp (b:=b) d[i]!.1.toList (setCells w ⟨b,i*32,none⟩ d[j]!.1.toList 0) (j*32) 0);refine⟨⟨⟨d[j]!.2.1,d[j]!.2.one,fun q hq=>?_⟩,d[i]!.2.1,d[i]!.2.one,fun q hq=>?_⟩,⟨h.C.aF kp (fun q hq e=>h.own.1 (by rw [<-e];exact hq)) (fun q hq e=>h.own.2 (by rw [<-e];exact hq)),?_,?_,h.own⟩,kp⟩
 ·have:=bI.Hl h.row hi q hq
  rwa [bt]at this
 ·have:=bI.Hl r1 hj q hq
  rwa [bt]at this
 ·show bI _ _ _ _ _ (Sort.swp d i j).toList
  rw [uX d i j (by omega) (by omega)];exact r2
 ·intro x hx
  rw [uX d i j (by omega) (by omega)]at hx;rcases List.mem_or_eq_of_mem_set hx with hx|rfl
  ·rcases List.mem_or_eq_of_mem_set hx with hx|rfl
   ·exact h.mem x hx
   ·exact gj.1
  ·exact gi.1
end
section
variable{w w':World}{B b n cx:Nat}{d:Array HT}{F:Nat->Prop}{c k:Nat}{G:GS}{m:CM}{K:Value->World->Prop}
theorem Fu(h:SE w F c k G m B b n cx d){x y:Nat}(oY:x<=y)(hy:y<=n)(hn:n<=1000000)
 (hK:∀w',SE w' F c k G m B b n cx (Sort.insertionSort (gl G) d x y)->Kept (· =b) w w'->K (.tuple #[]) w'):
 bC prog jq.id #[.slice (some ⟨b,0,none⟩) n cx,.int .i64 (x:Int),.int .i64 (y:Int),.func (.func bE.id) #[.pointer (some ⟨c,0,none⟩)] #[]] w K:=by
 refine cH.of ?_;unfold cH.W;rw [dM (n:=(x:Int)) (by omega) (by omega)];refine cH.cC (I:=fun s v=>∃(i:Nat) (dk:Array HT),s=(i:Int)/\x<i/\i<=y+1/\SE v F c k G m B b n cx dk/\Sort.insOuter (gl G) x y i dk=Sort.insertionSort (gl G) d x y/\Kept (· =b) w v) (μ:=fun s _=>((y:Int)+1-s).toNat) (s:=(x:Int)+1) ⟨x+1,d,rfl,by omega,by omega,h,rfl,Kept.refl _ _⟩ ?_;rintro s v ⟨i,dk,rfl,RZ,hiy,hv,ho,kv⟩;refine Split.dec (fun cY=>?_) (fun gA=>?_)
 ·have cY:i<y:=by omega
  rw [Sort.insOuter,if_pos cY]at ho;refine cH.gU (I:=fun s v=>∃(j:Nat) (dj:Array HT),s=(j:Int)/\j<=i/\SE v F c k G m B b n cx dj/\Sort.insInner (gl G) x j dj=Sort.insInner (gl G) x i dk/\Kept (· =b) w v) (μ:=fun s _=>s.toNat) (s:=(i:Int)) ⟨i,dk,rfl,Nat.le_refl _,hv,rfl,kv⟩ ?_;rintro s u ⟨j,dj,rfl,KB,hu,gK,ku⟩;unfold cH.B2;intro w3;have k3:Kept Nil u w3:=(Kept.refl _ _).drew;clear_value w3;have stop:∀ {u':World},SE u' F c k G m B b n cx dj->Kept (· =b) w u'->Sort.insInner (gl G) x j dj=dj->cH.iN (some ⟨b,0,none⟩) n cx (x:Int) (y:Int) (some ⟨c,0,none⟩) (i:Int) (j:Int) (bR (cH.e1 (some ⟨b,0,none⟩) n cx (x:Int) (y:Int) (some ⟨c,0,none⟩)) (fun s v=>∃(i:Nat) (dk:Array HT),s=(i:Int)/\x<i/\i<=y+1/\SE v F c k G m B b n cx dk/\Sort.insOuter (gl G) x y i dk=Sort.insertionSort (gl G) d x y/\Kept (· =b) w v) (fun s _=>((y:Int)+1-s).toNat) (i:Int) v (cH.q1 K)) u':=fun IP Eb e=>by
   unfold cH.iN;rw [dM (n:=(i:Int)) (by omega) (by omega)];exact⟨(i:Int)+1,rfl,⟨i+1,dj,rfl,by omega,by omega,IP,by rw [<-ho,<-gK,e],Eb⟩,by simp only;omega⟩
  have P5:=hu.same k3;have Ea:Kept (· =b) w w3:=ku.trans k3 (fun _ _ h=>h.elim);refine Split.dec (fun hjx=>?_) (fun hjx=>?_)
  ·have YI:0<j:=by omega
   have ew:i64.wrap ((j:Int)-(1:Int))=((j-1:Nat):Int):=by
    rw [gF (by omega) (by omega)];omega
   rw [ew];have g1:=P5.get (i:=j) (by omega);have g2:=P5.get (i:=j-1) (by omega);refine⟨⟨by omega,by omega⟩,dj[j]!.1,⟨dj[j]!.2.1,by rw [Int.toNat_natCast];exact g1.2⟩,⟨by omega,by omega⟩,dj[j-1]!.1,⟨dj[j-1]!.2.1,by rw [Int.toNat_natCast];exact g2.2⟩,?_⟩;refine pU P5.C g1.1 g2.1 fun w4 k4=>⟨_,rfl,?_⟩;have hu4:=P5.same k4;have T5:Kept (· =b) w w4:=Ea.trans k4 (fun _ _ h=>h.elim);have ej:∃j',j=j'+1:=⟨j-1,by omega⟩;refine Split.dec (fun abZ=>?_) (fun aci=>?_)
   ·have QH:=zj.1 abZ
    intro w5;have k5:Kept Nil w4 w5:=(Kept.refl _ _).drew;clear_value w5;have R7:=hu4.same k5;have F6:Kept (· =b) w w5:=T5.trans k5 (fun _ _ h=>h.elim);have f1:=R7.get (i:=j) (by omega);have f2:=R7.get (i:=j-1) (by omega);obtain⟨⟨t1,t2⟩,t3,t4⟩:=R7.swap (i:=j) (j:=j-1) (by omega) (by omega);simp only [Int.toNat_natCast];refine⟨⟨by omega,by omega⟩,dj[j-1]!.1,⟨dj[j-1]!.2.1,f2.2⟩,⟨by omega,by omega⟩,dj[j]!.1,⟨dj[j]!.2.1,f1.2⟩,⟨by omega,by omega⟩,t1,⟨by omega,by omega⟩,t2,?_⟩;refine⟨((j-1:Nat):Int),rfl,⟨j-1,Sort.swp dj j (j-1),rfl,by omega,t3,?_,F6.tt t4⟩,by simp only;omega⟩;obtain⟨j',rfl⟩:=ej;rw [<-gK];show _=Sort.insInner (gl G) x (j'+1) dj
    rw [Sort.insInner,if_pos (by simp only [Bool.and_eq_true,decide_eq_true_eq];exact⟨by omega,QH⟩)];rfl
   ·rw [aR,cH.jN]
    refine stop hu4 T5 ?_;have QH:gl G dj[j]! dj[j-1]! =false:=by
     cases hg:gl G dj[j]! dj[j-1]!
     ·rfl
     ·exact absurd (zj.2 hg) aci
    obtain⟨j',rfl⟩:=ej;rw [Sort.insInner,if_neg (by simp only [Bool.and_eq_true,decide_eq_true_eq];intro e;have:=e.2;rw [show j'+1-1=j' from rfl]at QH;rw [QH]at this;cases this)]
  ·rw [aR,cH.jN]
   refine stop P5 Ea ?_;cases j with
   |zero=>rfl
   |succ j'=>rw [Sort.insInner,if_neg (by simp only [Bool.and_eq_true,decide_eq_true_eq];intro e;have:=e.1;omega)]
 ·rw [aR,cH.df]
  unfold cH.cU;rw [Sort.insOuter,if_neg (by omega)]at ho;rw [ho]at hv;exact hK v hv kv
end
theorem wN{x:Int}{i:Nat}(h:x=(i:Int))(hi:i<4000000):i64.wrap x=(i:Int):=by rw [gF (by omega) (by omega),h]
theorem v8(G:GS):Sort.SWO (gl G) where
 irrefl:=nS G
 trans:=fun _ _ _=>pS
 ntrans:=fun x y z h1 h2=>by
  cases h:gl G x z
  ·rfl
  ·exfalso
   cases h3:gl G y x
   ·have:=pT h1 h3
    subst this;rw [h2]at h;cases h
   ·rw [pS h3 h]at h2;cases h2
section
variable{w w':World}{B b n cx:Nat}{d:Array HT}{F:Nat->Prop}{c k:Nat}{G:GS}{m:CM}{K:Value->World->Prop}
theorem SE.cmp(h:SE w F c k G m B b n cx d){x y:Int}{i j:Nat}(hx:x=(i:Int))(hy:y=(j:Int))(hi:i<n)(hj:j<n){Z:Int->World->Prop}
 (hK:∀r w',SE w' F c k G m B b n cx d->Kept Nil w w'->(r<0↔gl G d[i]! d[j]! =true)->Z r w'):
 (0<=x/\x<(n:Int))/\Is (some (⟨b,0,none⟩:Addr)) fun a:Addr=>∃t:Array Value,(t.size=32/\Cells w (a.add (x.toNat*32)) t)/\(0<=y/\y<(n:Int))/\Is (some (⟨b,0,none⟩:Addr)) fun a:Addr=>∃u:Array Value,(u.size=32/\Cells w (a.add (y.toNat*32)) u)/\
   bC prog bE.id #[.pointer (some ⟨c,0,none⟩),.agg t,.agg u] w fun q r=>∃t:Int,q=.int .i64 t/\Z t r:=by
 subst hx hy;have g1:=h.get hi;have g2:=h.get hj;refine⟨⟨by omega,by omega⟩,Is.mk rfl ⟨d[i]!.1,⟨d[i]!.2.1,by rw [Int.toNat_natCast];exact g1.2⟩,⟨by omega,by omega⟩,Is.mk rfl ⟨d[j]!.1,⟨d[j]!.2.1,by rw [Int.toNat_natCast];exact g2.2⟩,?_⟩⟩⟩;exact pU h.C g1.1 g2.1 fun w4 k4=>⟨_,rfl,hK _ w4 (h.same k4) k4 zj⟩
theorem SE.sw(h:SE w F c k G m B b n cx d){x y:Int}{i j:Nat}(hx:x=(i:Int))(hy:y=(j:Int))(hi:i<n)(hj:j<n):
 ((0<=y/\y<(n:Int))/\(d[j]!.1.size=32/\Cells w ((⟨b,0,none⟩:Addr).add (y.toNat*32)) d[j]!.1)/\(0<=x/\x<(n:Int))/\(d[i]!.1.size=32/\Cells w ((⟨b,0,none⟩:Addr).add (x.toNat*32)) d[i]!.1)/\
   (d[j]!.1.size=32/\(∀a∈d[j]!.1.toList,a.oneCell'=true)/\∀q,q<32->Wr w (((⟨b,0,none⟩:Addr).add (x.toNat*32)).add q))/\
   d[i]!.1.size=32/\(∀a∈d[i]!.1.toList,a.oneCell'=true)/\∀q,q<32->Wr (setCells w ((⟨b,0,none⟩:Addr).add (x.toNat*32)) d[j]!.1.toList 0) (((⟨b,0,none⟩:Addr).add (y.toNat*32)).add q))/\
 SE (setCells (setCells w ((⟨b,0,none⟩:Addr).add (x.toNat*32)) d[j]!.1.toList 0) ((⟨b,0,none⟩:Addr).add (y.toNat*32)) d[i]!.1.toList 0) F c k G m B b n cx (Sort.swp d i j)/\
 Kept (· =b) w (setCells (setCells w ((⟨b,0,none⟩:Addr).add (x.toNat*32)) d[j]!.1.toList 0) ((⟨b,0,none⟩:Addr).add (y.toNat*32)) d[i]!.1.toList 0):=by
 subst hx hy;obtain⟨⟨t1,t2⟩,t3,t4⟩:=h.swap hi hj;have f1:=h.get hi;have f2:=h.get hj;rw [Int.toNat_natCast,Int.toNat_natCast];exact⟨⟨⟨by omega,by omega⟩,⟨d[j]!.2.1,f2.2⟩,⟨by omega,by omega⟩,⟨d[i]!.2.1,f1.2⟩,t1,t2⟩,t3,t4⟩
theorem SE.iG(h:SE w F c k G m B b n cx d){q:Nat}(hk:Kept (· =q) w w')(iG:¬m.own c q/\¬F q/\q≠b):SE w' F c k G m B b n cx d:=
 ⟨h.C.aF hk (fun j hj e=>iG.1 (by rw [<-e];exact hj)) (fun j hj e=>iG.2.1 (by rw [<-e];exact hj)),Row.aF h.row hk (fun j hj e=>by cases hj;exact iG.2.2 e.symm),h.mem,h.own⟩
theorem SE.lt(h:SE w F c k G m B b n cx d):b<w.heap.size:=by
 obtain⟨_,cur,kF⟩:=Row.bL h.row (k:=b) rfl;exact aU kF
theorem SE.fresh(h:SE w F c k G m B b n cx d){q:Nat}(hq:w.heap.size<=q):¬m.own c q/\¬F q/\q≠b:=
 ⟨fun e=>by have:=h.C.low q (.inl e);omega,fun e=>by have:=h.C.low q (.inr e);omega,fun e=>by have:=h.lt;omega⟩
theorem Fm(h:SE w F c k G m B b n cx d){x y:Nat}(oY:x<y)(hy:y<=n)(hn:n<=1000000)
 (hK:∀d' w',SE w' F c k G m B b n cx d'->Sort.PermIn x y d d'->Kept (· =b) w w'->K (.tuple #[]) w'):
 bC prog js.id #[.slice (some ⟨b,0,none⟩) n cx,.int .i64 (x:Int),.int .i64 (y:Int),.func (.func bE.id) #[.pointer (some ⟨c,0,none⟩)] #[]] w K:=by
 refine eZ.of ?_;unfold eZ.W;rw [wN (i:=y-1) (by omega) (by omega)];refine eZ.cC (I:=fun s v=>∃(i j:Nat) (dk:Array HT),s=((i:Int),(j:Int))/\x<=i/\j<y/\SE v F c k G m B b n cx dk/\Sort.PermIn x y d dk/\Kept (· =b) w v) (μ:=fun s _=>(s.2+1-s.1).toNat) (s:=((x:Int),((y-1:Nat):Int))) ⟨x,y-1,d,rfl,Nat.le_refl _,by omega,h,Sort.permIn_refl _ _ _,Kept.refl _ _⟩ ?_;rintro s v ⟨i,j,dk,rfl,hi,hj,hv,hp,kv⟩;unfold eZ.B1;refine Split.dec (fun cY=>?_) (fun gA=>?_)
 ·simp only at cY
  have cY:i<j:=by omega
  intro w3;have k3:Kept Nil v w3:=(Kept.refl _ _).drew;clear_value w3;have h3:=hv.same k3;have hs:=SR.size h3.row;obtain⟨⟨a1,a2,a3,a4,a5,a6⟩,h5,k5⟩:=h3.sw (x:=(i:Int)) (y:=(j:Int)) rfl rfl (by omega) (by omega);refine⟨a1,_,a2,a3,_,a4,a3,a5,a1,a6,?_⟩;simp only;rw [wN (x:=(i:Int)+1) (i:=i+1) (by omega) (by omega),wN (x:=(j:Int)-1) (i:=j-1) (by omega) (by omega)];refine⟨(((i+1:Nat):Int),((j-1:Nat):Int)),rfl,⟨i+1,j-1,_,rfl,by omega,by omega,h5,?_,(kv.trans k3 (fun _ _ h=>h.elim)).tt k5⟩,by simp only;omega⟩;exact Sort.permIn_trans _ _ _ x y hp (Sort.swp_permIn dk x y i j hi (by omega) (by omega) (by omega) (by omega))
 ·rw [aR,eZ.df]
  exact hK dk v hv hp kv
def OC(w:World)(q:Nat):Prop:=∃(u:Int) (t:TypeId),w.heap[q]? =some (.cells #[.int .i64 u] t (0,0))
theorem OC.aF{S:Nat->Prop}{q:Nat}(h:OC w q)(hk:Kept S w w')(hS:¬S q):OC w' q:=by
 obtain⟨u,t,h⟩:=h;exact⟨u,t,hk.heap h hS⟩
theorem sI(h:SE w F c k G m B b n cx d){x y q:Nat}(hx:x<n)(hy:y<n)(hq:OC w q)(iG:¬m.own c q/\¬F q/\q≠b)
 (hK:∀(x' y':Nat) w',((x'=x/\y'=y)\/(x'=y/\y'=x))->SE w' F c k G m B b n cx d->OC w' q->Kept (· =q) w w'->K (.tuple #[.int .i64 (x':Int),.int .i64 (y':Int)]) w'):
 bC prog kX.id #[.slice (some ⟨b,0,none⟩) n cx,.int .i64 (x:Int),.int .i64 (y:Int),.pointer (some ⟨q,0,none⟩),.func (.func bE.id) #[.pointer (some ⟨c,0,none⟩)] #[]] w K:=by
 refine sJ.of ?_;unfold sJ.W;intro w3;have k3:Kept Nil w w3:=(Kept.refl _ _).drew;clear_value w3;refine(h.same k3).cmp (i:=y) (j:=x) rfl rfl hy hx fun r w4 h4 k4 _=>?_;obtain⟨u,t,h0⟩:=(hq.aF k3 (fun h=>h)).aF k4 (fun h=>h);have mE:=k3.tt k4;refine Split.dec (fun _=>?_) (fun _=>hK x y w4 (.inl ⟨rfl,rfl⟩) h4 ⟨u,t,h0⟩ (mE.mono fun _ _ h=>h.elim));refine Is.mk rfl ⟨u,by rw [aD h0];rfl,Is.mk rfl ⟨dm h0 (by simp),?_⟩⟩;intro w5;have e5:w5.heap[q]? =some (.cells #[.int .i64 (i64.wrap (u+1))] t (0,0)):=by
  show(w4.setCell ⟨q,0,none⟩ _).heap[q]? =_;rw [cV h0 0];rfl
 have k5:Kept (· =q) w4 w5:=Kept.setCell (S:=(· =q)) (Kept.refl _ w4) (p:=⟨q,0,none⟩) (fun _=>rfl) _;clear_value w5;exact hK y x w5 (.inr ⟨rfl,rfl⟩) (h4.iG k5 iG) ⟨_,_,e5⟩ ((mE.mono fun _ _ h=>h.elim).tt k5)
theorem Ft(h:SE w F c k G m B b n cx d){x y z q:Nat}{p:Nat->Prop}(hx:p x)(hy:p y)(hz:p z)(hp:∀i,p i->i<n)(hq:OC w q)(iG:¬m.own c q/\¬F q/\q≠b)
 (hK:∀(r:Nat) w',p r->SE w' F c k G m B b n cx d->OC w' q->Kept (· =q) w w'->K (.int .i64 (r:Int)) w'):
 bC prog kY.id #[.slice (some ⟨b,0,none⟩) n cx,.int .i64 (x:Int),.int .i64 (y:Int),.int .i64 (z:Int),.pointer (some ⟨q,0,none⟩),.func (.func bE.id) #[.pointer (some ⟨c,0,none⟩)] #[]] w K:=by
 refine sK.of ?_;unfold sK.W;have two:∀ {x y x' y':Nat},p x->p y->((x'=x/\y'=y)\/(x'=y/\y'=x))->p x'/\p y':=fun hx hy e=>by
  rcases e with⟨rfl,rfl⟩|⟨rfl,rfl⟩
  ·exact⟨hx,hy⟩
  ·exact⟨hy,hx⟩
 refine sI h (hp _ hx) (hp _ hy) hq iG fun x1 y1 w1 e1 h1 c1 k1=>⟨_,_,rfl,?_⟩;obtain⟨px1,py1⟩:=two hx hy e1;refine sI h1 (hp _ py1) (hp _ hz) c1 iG fun x2 y2 w2 e2 h2 c2 k2=>⟨_,_,rfl,?_⟩;obtain⟨px2,_⟩:=two py1 hz e2;refine sI h2 (hp _ px1) (hp _ px2) c2 iG fun x3 y3 w3 e3 h3 c3 k3=>⟨_,_,rfl,?_⟩;exact hK y3 w3 (two px1 px2 e3).2 h3 c3 ((k1.tt k2).tt k3)
theorem Fo(h:SE w F c k G m B b n cx d){x y:Nat}(oY:x+12<y)(hy:y<=n)(hn:n<50)
 (hK:∀(r:Nat) (t:Int) w',x<=r->r<y->SE w' F c k G m B b n cx d->Kept Nil w w'->K (.tuple #[.int .i64 (r:Int),.int .i64 t]) w'):
 bC prog jC.id #[.slice (some ⟨b,0,none⟩) n cx,.int .i64 (x:Int),.int .i64 (y:Int),.func (.func bE.id) #[.pointer (some ⟨c,0,none⟩)] #[]] w K:=by
 refine sH.of ?_;unfold sH.W;intro w3;have k3:Kept Nil w w3:=(Kept.refl _ _).alloc _;have hc:OC w3 w.heap.size:=⟨_,_,aH w _⟩;clear_value w3;have e4:∀L:Nat,((L:Nat):Int).tdiv 4=((L/4:Nat):Int):=fun _=>rfl;have f4:(y-x)/4<=20:=by omega
 have g4:(y-x)/4*3+x<y:=by omega
 rw [wN (x:=(y:Int)-x) (i:=y-x) (by omega) (by omega),e4];generalize (y-x)/4=q at f4 g4;rw [wN (x:=((q:Nat):Int)) (i:=q) rfl (by omega),wN (x:=((q:Nat):Int)*1) (i:=q) (by omega) (by omega),wN (x:=((q:Nat):Int)*2) (i:=q*2) (by omega) (by omega),wN (x:=((q:Nat):Int)*3) (i:=q*3) (by omega) (by omega),
  wN (x:=(x:Int)+((q:Nat):Int)) (i:=x+q) (by omega) (by omega),wN (x:=(x:Int)+((q*2:Nat):Int)) (i:=x+q*2) (by omega) (by omega),wN (x:=(x:Int)+((q*3:Nat):Int)) (i:=x+q*3) (by omega) (by omega)]
 refine⟨by decide,by decide,by decide,Split.yes (decide_eq_true (by omega)) (Split.no (decide_eq_false (by omega)) ?_)⟩;have hf:=h.fresh (Nat.le_refl _);refine Ft (h.same k3) (p:=fun i=>x<=i/\i<y) ⟨by omega,by omega⟩ ⟨by omega,by omega⟩ ⟨by omega,by omega⟩ (fun i hi=>by omega) hc hf fun r w4 hr h4 c4 k4=>⟨_,rfl,?_⟩;obtain⟨u,t,h0⟩:=c4;have mE:Kept Nil w w4:=k3.trans k4 (fun j hj e=>by omega);refine⟨u,by rw [aD h0];rfl,Split.mk (fun _=>hK r _ w4 hr.1 hr.2 h4 mE) fun _=>Split.mk (fun _=>hK r _ w4 hr.1 hr.2 h4 mE) fun _=>hK r _ w4 hr.1 hr.2 h4 mE⟩
end
theorem GK(x M:Nat)(hM0:1<=M)(hM:M<4000000):∃O:Nat,O<M/\i64.wrap (u64.wrap (((BitVec.ofInt 64 (x:Int)&&& BitVec.ofInt 64 (u64.wrap ((M:Int)-(1:Int)))).toNat:Nat):Int))=(O:Int):=by
 have e1:u64.wrap ((M:Int)-(1:Int))=((M-1:Nat):Int):=by
  rw [show(M:Int)-1=((M-1:Nat):Int)by omega];exact jU (by omega)
 rw [e1];have hle:(BitVec.ofInt 64 (x:Int)&&& BitVec.ofInt 64 ((M-1:Nat):Int)).toNat<=M-1:=by
  rw [BitVec.toNat_and,BitVec.ofInt_natCast (n:=M-1),BitVec.toNat_ofNat,Nat.mod_eq_of_lt (a:=M-1) (by omega)];exact Nat.and_le_right
 generalize (BitVec.ofInt 64 (x:Int)&&& BitVec.ofInt 64 ((M-1:Nat):Int)).toNat=O at hle;exact⟨O,by omega,by rw [jU (by omega)];exact gF (by omega) (by omega)⟩
section
variable{w w':World}{B b n cx:Nat}{d:Array HT}{F:Nat->Prop}{c k:Nat}{G:GS}{m:CM}{K:Value->World->Prop}
theorem Fk{q X:Nat}{t:TypeId}(hX:X<18446744073709551616)(hq:w.heap[q]? =some (.cells #[.int .u64 (X:Int)] t (0,0)))
 (hK:∀(X':Nat) w',X'<18446744073709551616->w'.heap[q]? =some (.cells #[.int .u64 (X':Int)] t (0,0))->Kept (· =q) w w'->K (.int .u64 (X':Int)) w'):
 bC prog pz.id #[.pointer (some ⟨q,0,none⟩)] w K:=by
 have h:=AnyF.xorshift_Next (P:=prog) (ρ:=Tryz.qi) {Tryz.xD with} q 0 X hX w (by rw [aD hq];rfl) (dm hq (by simp)).2;refine Calls.mono h ?_;rintro e w' ⟨rfl,rfl⟩;refine⟨_,rfl,hK _ _ (Sort.xorNextN_lt X hX) ?_ ?_⟩
 ·show(w.setCell ⟨q,0,none⟩ _).heap[q]? =_
  rw [cV hq 0];rfl
 ·exact(((Kept.setCell (S:=(· =q)) (Kept.refl _ w) (p:=⟨q,0,none⟩) (fun _=>rfl) _).drew).drew).drew
theorem Fv(h:SE w F c k G m B b n cx d){x y:Nat}(oY:x+12<y)(hy:y<=n)(hn:n<=1000000)
 (hK:∀d' w',SE w' F c k G m B b n cx d'->Sort.PermIn x y d d'->Kept (· =b) w w'->K (.tuple #[]) w'):
 bC prog jr.id #[.slice (some ⟨b,0,none⟩) n cx,.int .i64 (x:Int),.int .i64 (y:Int),.func (.func bE.id) #[.pointer (some ⟨c,0,none⟩)] #[]] w K:=by
 refine e8.of ?_;unfold e8.W;have e4:∀L:Nat,((L:Nat):Int).tdiv 4=((L/4:Nat):Int):=fun _=>rfl;obtain⟨L,hL,g12⟩:∃L:Nat,y=x+L/\12<L:=⟨y-x,by omega,by omega⟩;subst hL;rw [wN (x:=((x+L:Nat):Int)-(x:Int)) (i:=L) (by omega) (by omega)];refine Split.yes (decide_eq_true (by omega)) ?_;intro w3;have k3:Kept Nil w w3:=(Kept.refl _ _).alloc _;obtain⟨tx,mK⟩:∃t:TypeId,w3.heap[w.heap.size]? =some (.cells #[.int .u64 0] t (0,0)):=⟨_,aH w _⟩;clear_value w3;refine⟨dm mK (by simp),?_⟩;intro w4;have ph:w4.heap[w.heap.size]? =some (.cells #[.int .u64 ((L:Nat):Int)] tx (0,0)):=by
  show(w3.setCell ⟨w.heap.size,0,none⟩ _).heap[w.heap.size]? =_;rw [cV mK 0,jU (by omega)];rfl
 have k4:Kept (· =w.heap.size) w3 w4:=Kept.setCell (S:=(· =w.heap.size)) (Kept.refl _ w3) (p:=⟨w.heap.size,0,none⟩) (fun _=>rfl) _;clear_value w4;have mE:Kept Nil w w4:=k3.trans k4 (fun j hj e=>by omega);have hf:=h.fresh (Nat.le_refl _);have h4:=h.same mE;refine Calls.mono (AnyF.nextPowerOfTwo (P:=prog) (ρ:=Tryz.qi) {Tryz.xD with} L (by omega) w4) ?_;rintro e w5 ⟨rfl,rfl⟩;have hM:=Sort.two_pow_bitsLen_le (n:=L) (by omega);have hM1:1<=2 ^ Sort.bitsLen L:=Nat.two_pow_pos _;rw [Nat.one_shiftLeft];generalize 2 ^ Sort.bitsLen L=M at hM hM1;have g4:1<=L/4/\L/4*2+1<L:=by omega
 refine⟨_,rfl,(M:Int),rfl,by decide,?_⟩;have ei:∀t:Nat,t<=1->True:=fun _ _=>trivial;rw [e4,wN (x:=((L/4:Nat):Int)) (i:=L/4) rfl (by omega),wN (x:=((L/4:Nat):Int)*2) (i:=L/4*2) (by omega) (by omega),wN (x:=(x:Int)+((L/4*2:Nat):Int)) (i:=x+L/4*2) (by omega) (by omega),wN (x:=((x+L/4*2:Nat):Int)-1) (i:=x+L/4*2-1) (by omega) (by omega)];refine e8.cC (I:=fun s v=>∃(i X:Nat) (dk:Array HT),s=(i:Int)/\x<=i/\i<=x+L/4*2+2/\X<18446744073709551616/\v.heap[w.heap.size]? =some (.cells #[.int .u64 (X:Int)] tx (0,0))/\SE v F c k G m B b n cx dk/\Sort.PermIn x (x+L) d dk/\Kept (· =b) w v) (μ:=fun s _=>(((x+L/4*2+2:Nat):Int)-s).toNat) (s:=((x+L/4*2-1:Nat):Int)) ⟨x+L/4*2-1,L,d,rfl,by omega,by omega,by omega,ph,h4,Sort.permIn_refl _ _ _,mE.mono fun _ _ h=>h.elim⟩ ?_;rintro s v ⟨i,X,dk,rfl,hi,CX,hX,EF,hv,hp,kv⟩;unfold e8.B1;rw [e4,wN (x:=((L/4:Nat):Int)) (i:=L/4) rfl (by omega),wN (x:=((L/4:Nat):Int)*2) (i:=L/4*2) (by omega) (by omega),wN (x:=(x:Int)+((L/4*2:Nat):Int)) (i:=x+L/4*2) (by omega) (by omega),wN (x:=((x+L/4*2:Nat):Int)+1) (i:=x+L/4*2+1) (by omega) (by omega)];refine⟨by decide,Split.dec (fun hle=>?_) (fun gA=>?_)⟩
 ·have dS:i<=x+L/4*2+1:=by omega
  refine Fk hX EF fun X' w6 hX' qE k6=>⟨(X':Int),rfl,?_⟩;obtain⟨O,hO,eO⟩:=GK X' M hM1 (by omega);rw [eO];have h6:=hv.iG k6 hf;have fin:∀(j:Nat),j<L->∀ {u:World},Kept Nil w6 u->_:=fun j hj {u} ku=>(h6.same ku).sw (x:=(i:Int)) (y:=((x+j:Nat):Int)) (i:=i) (j:=x+j) rfl rfl (by omega) (by omega);have Tv:∀ {j:Nat} {u t:World},j<L->Kept Nil w6 u->SE t F c k G m B b n cx (Sort.swp dk i (x+j))->Kept (· =b) u t->∃s1:Int,i64.wrap ((i:Int)+1)=s1/\(∃(i X:Nat) (dk:Array HT),s1=(i:Int)/\x<=i/\i<=x+L/4*2+2/\X<18446744073709551616/\t.heap[w.heap.size]? =some (.cells #[.int .u64 (X:Int)] tx (0,0))/\SE t F c k G m B b n cx dk/\Sort.PermIn x (x+L) d dk/\Kept (· =b) w t)/\(((x+L/4*2+2:Nat):Int)-s1).toNat<(((x+L/4*2+2:Nat):Int)-(i:Int)).toNat:=fun {j u t} hj ku ht kt=>by
   rw [wN (x:=(i:Int)+1) (i:=i+1) (by omega) (by omega)];have ml:=SR.size hv.row;exact⟨_,rfl,⟨i+1,X',_,rfl,by omega,by omega,hX',kt.heap (ku.heap qE (fun h=>h)) hf.2.2,ht,Sort.permIn_trans _ _ _ x (x+L) hp (Sort.swp_permIn dk x (x+L) i (x+j) hi (by omega) (by omega) (by omega) (by omega)),(((kv.trans k6 (fun j hj e=>by omega)).trans ku (fun _ _ h=>h.elim)).tt kt)⟩,by omega⟩
  refine Split.dec (fun hOL=>?_) (fun hOL=>?_)
  ·rw [wN (x:=(O:Int)-(L:Int)) (i:=O-L) (by omega) (by omega),wN (x:=(x:Int)+((O-L:Nat):Int)) (i:=x+(O-L)) (by omega) (by omega)]
   intro w7;have k7:Kept Nil w6 w7:=(Kept.refl _ _).drew;clear_value w7;obtain⟨⟨a1,a2,a3,a4,a5,a6⟩,h5,k5⟩:=fin (O-L) (by omega) k7;refine⟨a1,_,a2,a3,_,a4,a3,a5,a1,a6,?_⟩;obtain⟨s1,e1,e2,e3⟩:=Tv (by omega) k7 h5 k5;simp only;rw [e1];exact⟨s1,rfl,e2,e3⟩
  ·rw [wN (x:=(x:Int)+(O:Int)) (i:=x+O) (by omega) (by omega)]
   intro w7;have k7:Kept Nil w6 w7:=(Kept.refl _ _).drew;clear_value w7;obtain⟨⟨a1,a2,a3,a4,a5,a6⟩,h5,k5⟩:=fin O (by omega) k7;refine⟨a1,_,a2,a3,_,a4,a3,a5,a1,a6,?_⟩;obtain⟨s1,e1,e2,e3⟩:=Tv (by omega) k7 h5 k5;simp only;rw [e1];exact⟨s1,rfl,e2,e3⟩
 ·rw [aR,e8.df]
  exact hK dk v hv hp kv
theorem Cj{d:Array HT}{x y:Nat}(h:∀t,x<t->t<y->gl G d[t]! d[t-1]! =false):Sort.SortedIn (gl G) x y d:=by
 have key:∀(r i:Nat),x<=i->i+r+1<y->gl G d[i+r+1]! d[i]! =false:=by
  intro r
  induction r with
  |zero=>intro i hi hy;exact h (i+1) (by omega) hy
  |succ r ih=>
   intro i hi hy;have h1:=h (i+(r+1)+1) (by omega) hy;have h2:=ih i hi (by omega);exact(v8 G).ntrans _ _ _ h1 h2
 intro i j hi rC hj;have:=key (j-i-1) i hi (by omega)
 rwa [show i+(j-i-1)+1=j by omega]at this
theorem Fp(h:SE w F c k G m B b n cx d){x y:Nat}(oY:x<y)(hy:y<=n)(hn:n<50)
 (hK:∀(t:Bool) w',(t=true->Sort.SortedIn (gl G) x y d)->SE w' F c k G m B b n cx d->Kept Nil w w'->K (.bool t) w'):
 bC prog iB.id #[.slice (some ⟨b,0,none⟩) n cx,.int .i64 (x:Int),.int .i64 (y:Int),.func (.func bE.id) #[.pointer (some ⟨c,0,none⟩)] #[]] w K:=by
 refine bM.of ?_;unfold bM.W;rw [wN (x:=(x:Int)+1) (i:=x+1) (by omega) (by omega)];refine bM.cC (I:=fun s v=>s=(false,((x+1:Nat):Int),0)/\v=w) (μ:=fun _ _=>0) (s:=(false,((x+1:Nat):Int),0)) ⟨rfl,rfl⟩ ?_;rintro s v ⟨rfl,rfl⟩;unfold bM.B1;refine Split.yes (decide_eq_true (by simp only;omega)) ?_;refine bM.gU (I:=fun s u=>∃i:Nat,s=(i:Int)/\x<i/\i<=y/\(∀t,x<t->t<i->gl G d[t]! d[t-1]! =false)/\SE u F c k G m B b n cx d/\Kept Nil v u) (μ:=fun s _=>((y:Int)-s).toNat) (s:=((x+1:Nat):Int)) ⟨x+1,rfl,by omega,by omega,fun t h1 h2=>by omega,h,Kept.refl _ _⟩ ?_;rintro s u ⟨i,rfl,RZ,hiy,KE,hu,ku⟩;unfold bM.B2;intro w3;have k3:Kept Nil u w3:=(Kept.refl _ _).drew;clear_value w3;have h3:=hu.same k3;have kP:=ku.tt k3;have stop:∀ {t:World},SE t F c k G m B b n cx d->Kept Nil v t->(i=y->Sort.SortedIn (gl G) x y d)->bM.iN (some ⟨b,0,none⟩) n cx (x:Int) (y:Int) (some ⟨c,0,none⟩) false (i:Int) 0 (bR (bM.e1 (some ⟨b,0,none⟩) n cx (x:Int) (y:Int) (some ⟨c,0,none⟩)) (fun s v_1=>s=(false,((x+1:Nat):Int),0)/\v_1=v) (fun _ _=>0) (false,((x+1:Nat):Int),0) v (bM.q1 K)) t:=fun {t} ht kt hs=>by
  unfold bM.iN;by_cases he:i=y
  ·refine Split.yes (by rw [he];exact beq_self_eq_true _) ?_
   rw [iW];exact hK true t (fun _=>hs he) ht kt
  ·refine Split.no (beq_eq_false_iff_ne.2 (by omega)) ?_
   rw [wN (x:=(y:Int)-(x:Int)) (i:=y-x) (by omega) (by omega)];refine Split.yes (decide_eq_true (by omega)) ?_;rw [iW];exact hK false t (fun e=>by cases e) ht kt
 refine Split.dec (fun cY=>?_) (fun gA=>?_)
 ·have cY:i<y:=by omega
  rw [wN (x:=(i:Int)-1) (i:=i-1) (by omega) (by omega)];refine h3.cmp (i:=i) (j:=i-1) rfl rfl (by omega) (by omega) fun r w4 h4 k4 hr=>?_;have mE:=kP.tt k4;by_cases ti:r<0
  ·refine Split.no (by rw [decide_eq_true ti];rfl) ?_
   rw [aR,bM.jN];exact stop h4 mE (fun e=>absurd e (by omega))
  ·refine Split.yes (by rw [decide_eq_false ti];rfl) ?_
   rw [wN (x:=(i:Int)+1) (i:=i+1) (by omega) (by omega)];refine⟨((i+1:Nat):Int),rfl,⟨i+1,rfl,by omega,by omega,fun t h1 h2=>?_,h4,mE⟩,by simp only;omega⟩;rcases Nat.lt_or_ge t i with h5|h5
   ·exact KE t h1 h5
   ·obtain rfl:t=i:=by omega
    cases hg:gl G d[t]! d[t-1]!
    ·rfl
    ·exact absurd (hr.2 hg) ti
 ·rw [aR,bM.jN]
  exact stop h3 kP (fun e=>Cj (by subst e;exact KE))
end
section
variable{w w':World}{B b n cx:Nat}{d:Array HT}{F:Nat->Prop}{c k:Nat}{G:GS}{m:CM}{K:Value->World->Prop}
theorem u9(h:SE w F c k G m B b n cx d){x y z:Nat}(RX:z+y<=n)(oY:x<=y)(hn:n<=1000000){lo:Int}
 (hK:∀w',SE w' F c k G m B b n cx (Sort.siftDown (gl G) y z x d)->Kept (· =b) w w'->K (.tuple #[]) w'):
 bC prog kh.id #[.slice (some ⟨b,0,none⟩) n cx,.int .i64 (x:Int),.int .i64 (y:Int),.int .i64 (z:Int),.func (.func bE.id) #[.pointer (some ⟨c,0,none⟩)] #[]] w K:=by
 refine bY.of ?_;unfold bY.W;refine bY.cC (I:=fun s v=>∃(r:Nat) (dk:Array HT),s=(r:Int)/\r<=y/\SE v F c k G m B b n cx dk/\Sort.siftDown (gl G) y z r dk=Sort.siftDown (gl G) y z x d/\Kept (· =b) w v) (μ:=fun s _=>((y:Int)-s).toNat) (s:=(x:Int)) ⟨x,d,rfl,oY,h,rfl,Kept.refl _ _⟩ ?_;rintro s v ⟨r,dk,rfl,hr,hv,hs,kv⟩;unfold bY.B1;rw [wN (x:=2*(r:Int)) (i:=2*r) (by omega) (by omega),wN (x:=((2*r:Nat):Int)+1) (i:=2*r+1) (by omega) (by omega)];refine Split.dec (fun gA=>?_) (fun cY=>?_)
 ·rw [aR,bY.df]
  rw [Sort.siftDown,dif_pos (show 2*r+1>=y by omega)]at hs;rw [hs]at hv;exact hK v hv kv
 have kQ:2*r+1<y:=by omega
 rw [Sort.siftDown,dif_neg (by omega)]at hs;have fin:∀(ch:Nat) {u:World},r<ch->ch<y->SE u F c k G m B b n cx dk->Kept Nil v u->(if(!gl G dk[z+r]! dk[z+ch]!)=true then dk else Sort.siftDown (gl G) y z ch (Sort.swp dk (z+r) (z+ch)))=Sort.siftDown (gl G) y z x d->
  bY.J1 (some ⟨b,0,none⟩) n cx (y:Int) (z:Int) (some ⟨c,0,none⟩) (r:Int) (ch:Int) (bR (bY.e1 (some ⟨b,0,none⟩) n cx (y:Int) (z:Int) (some ⟨c,0,none⟩)) (fun s v=>∃(r:Nat) (dk:Array HT),s=(r:Int)/\r<=y/\SE v F c k G m B b n cx dk/\Sort.siftDown (gl G) y z r dk=Sort.siftDown (gl G) y z x d/\Kept (· =b) w v) (fun s _=>((y:Int)-s).toNat) (r:Int) v (bY.q1 K)) u:=fun ch {u} h1 h2 hu ku he=>by
  unfold bY.J1;rw [wN (x:=(z:Int)+(r:Int)) (i:=z+r) (by omega) (by omega),wN (x:=(z:Int)+(ch:Int)) (i:=z+ch) (by omega) (by omega)];intro w3;have k3:Kept Nil u w3:=(Kept.refl _ _).drew;clear_value w3;refine(hu.same k3).cmp (i:=z+r) (j:=z+ch) rfl rfl (by omega) (by omega) fun t w4 h4 k4 ht=>?_;have nJ:=kv.trans ((ku.tt k3).tt k4) (fun _ _ h=>h.elim);by_cases Nr:t<0
  ·refine Split.no (by rw [decide_eq_true Nr];rfl) (bY.qM ?_)
   rw [if_neg (by rw [ht.1 Nr];decide)]at he;unfold bY.J2;rw [wN (x:=(z:Int)+(r:Int)) (i:=z+r) (by omega) (by omega),wN (x:=(z:Int)+(ch:Int)) (i:=z+ch) (by omega) (by omega)];intro w5;have k5:Kept Nil w4 w5:=(Kept.refl _ _).drew;clear_value w5;obtain⟨⟨a1,a2,a3,a4,a5,a6⟩,h6,k6⟩:=(h4.same k5).sw (x:=((z+r:Nat):Int)) (y:=((z+ch:Nat):Int)) rfl rfl (by omega) (by omega);refine⟨a1,_,a2,a3,_,a4,a3,a5,a1,a6,?_⟩;exact⟨(ch:Int),rfl,⟨ch,_,rfl,by omega,h6,he,(nJ.trans k5 (fun _ _ h=>h.elim)).tt k6⟩,by simp only;omega⟩
  ·refine Split.yes (by rw [decide_eq_false Nr];rfl) ?_
   rw [iW];rw [if_pos (by cases hg:gl G dk[z+r]! dk[z+ch]!;rfl;exact absurd (ht.2 hg) Nr)]at he;rw [he]at h4;exact hK w4 h4 nJ
 intro w3;have k3:Kept Nil v w3:=(Kept.refl _ _).drew;clear_value w3;have h3:=hv.same k3;rw [wN (x:=((2*r+1:Nat):Int)+1) (i:=2*r+2) (by omega) (by omega)];refine Split.dec (fun VN=>?_) (fun L9=>?_)
 ·have zz:2*r+2<y:=by omega
  rw [wN (x:=(z:Int)+((2*r+1:Nat):Int)) (i:=z+(2*r+1)) (by omega) (by omega),wN (x:=((z+(2*r+1):Nat):Int)+1) (i:=z+(2*r+1)+1) (by omega) (by omega)];refine h3.cmp (i:=z+(2*r+1)) (j:=z+(2*r+1)+1) rfl rfl (by omega) (by omega) fun t w4 h4 k4 ht=>?_;have BR:=k3.tt k4;refine Split.dec (fun Nr=>bY.mF ?_) (fun Nr=>bY.mF ?_)
  ·rw [if_pos (by rw [ht.1 Nr];simp only [Bool.and_true,decide_eq_true_eq];omega),dif_pos zz]at hs
   exact fin (2*r+2) (by omega) zz h4 BR hs
  ·rw [if_neg (by simp only [Bool.and_eq_true,decide_eq_true_eq];intro e;exact Nr (ht.2 e.2))]at hs
   exact fin (2*r+1) (by omega) kQ h4 BR hs
 ·refine bY.mF ?_
  rw [if_neg (by simp only [Bool.and_eq_true,decide_eq_true_eq];intro e;omega)]at hs;exact fin (2*r+1) (by omega) kQ h3 k3 hs
theorem Ck(h:SE w F c k G m B b n cx d){x y:Nat}(oY:x+1<y)(hy:y<=n)(hn:n<=1000000)
 (hK:∀w',SE w' F c k G m B b n cx (Sort.heapSort (gl G) d x y)->Kept (· =b) w w'->K (.tuple #[]) w'):
 bC prog ki.id #[.slice (some ⟨b,0,none⟩) n cx,.int .i64 (x:Int),.int .i64 (y:Int),.func (.func bE.id) #[.pointer (some ⟨c,0,none⟩)] #[]] w K:=by
 refine cr.of ?_;unfold cr.W;have e2:∀L:Nat,((L:Nat):Int).tdiv 2=((L/2:Nat):Int):=fun _=>rfl;obtain⟨L,hL,g12⟩:∃L:Nat,y=x+L/\1<L:=⟨y-x,by omega,by omega⟩;subst hL;rw [wN (x:=((x+L:Nat):Int)-(x:Int)) (i:=L) (by omega) (by omega),wN (x:=(L:Int)-1) (i:=L-1) (by omega) (by omega),e2,wN (x:=(((L-1)/2:Nat):Int)) (i:=(L-1)/2) rfl (by omega)];refine⟨by decide,?_⟩;have hh:Sort.heapSort (gl G) d x (x+L)=Sort.heapPop (gl G) x L (Sort.heapBuild (gl G) L x ((L-1)/2+1) d):=by
  unfold Sort.heapSort;rw [show x+L-x=L by omega]
 rw [hh]at hK;refine cr.cC (I:=fun s v=>∃(t:Nat) (dk:Array HT),s=(t:Int)-1/\t<=L/\SE v F c k G m B b n cx dk/\Sort.heapBuild (gl G) L x t dk=Sort.heapBuild (gl G) L x ((L-1)/2+1) d/\Kept (· =b) w v) (μ:=fun s _=>(s+1).toNat) (s:=(((L-1)/2:Nat):Int)) ⟨(L-1)/2+1,d,by omega,by omega,h,rfl,Kept.refl _ _⟩ ?_;rintro s v ⟨t,dk,rfl,ht,hv,he,kv⟩;unfold cr.B1;refine Split.dec (fun gA=>?_) (fun cY=>?_)
 ·obtain⟨t',rfl⟩:∃t',t=t'+1:=⟨t-1,by omega⟩
  have e1:((t'+1:Nat):Int)-1=(t':Int):=by omega
  rw [e1];refine u9 (x:=t') (y:=L) (z:=x) (lo:=0) hv (by omega) (by omega) hn fun w4 h4 k4=>⟨rfl,?_⟩;rw [gF (x:=(t':Int)-1) (by omega) (by omega)];exact⟨(t':Int)-1,rfl,⟨t',_,rfl,by omega,h4,he,kv.tt k4⟩,by simp only;omega⟩
 ·obtain rfl:t=0:=by omega
  rw [aR,cr.df];unfold cr.cU
  replace he:dk=_:=he
  rw [<-he]at hK;rw [wN (x:=(L:Int)-1) (i:=L-1) (by omega) (by omega)];refine cr.gU (I:=fun s u=>∃(t:Nat) (dj:Array HT),s=(t:Int)-1/\t<=L/\SE u F c k G m B b n cx dj/\Sort.heapPop (gl G) x t dj=Sort.heapPop (gl G) x L dk/\Kept (· =b) w u) (μ:=fun s _=>(s+1).toNat) (s:=((L-1:Nat):Int)) ⟨L,dk,by omega,by omega,hv,rfl,kv⟩ ?_;rintro s u ⟨t,dj,rfl,ht,hu,Sn,ku⟩;unfold cr.B2;refine Split.dec (fun gA=>?_) (fun cY=>?_)
  ·obtain⟨t',rfl⟩:∃t',t=t'+1:=⟨t-1,by omega⟩
   have e1:((t'+1:Nat):Int)-1=(t':Int):=by omega
   rw [e1,wN (x:=(x:Int)+(t':Int)) (i:=x+t') (by omega) (by omega)];intro w5;have k5:Kept Nil u w5:=(Kept.refl _ _).drew;clear_value w5;obtain⟨⟨a1,a2,a3,a4,a5,a6⟩,h6,k6⟩:=(hu.same k5).sw (x:=(x:Int)) (y:=((x+t':Nat):Int)) rfl rfl (by omega) (by omega);refine⟨a1,_,a2,a3,_,a4,a3,a5,a1,a6,?_⟩;have Lk:=(ku.trans k5 (fun _ _ h=>h.elim)).tt k6;refine u9 (x:=0) (y:=t') (z:=x) (lo:=0) h6 (by omega) (by omega) hn fun w7 h7 k7=>⟨rfl,?_⟩;rw [gF (x:=(t':Int)-1) (by omega) (by omega)];exact⟨(t':Int)-1,rfl,⟨t',_,rfl,by omega,h7,Sn,Lk.tt k7⟩,by simp only;omega⟩
  ·obtain rfl:t=0:=by omega
   rw [aR,cr.jN]
   replace Sn:dj=_:=Sn
   rw [<-Sn]at hK;exact hK u hu ku
end
section
variable{w w':World}{B b n cx:Nat}{d:Array HT}{F:Nat->Prop}{c k:Nat}{G:GS}{m:CM}{K:Value->World->Prop}
abbrev Kr(G:GS)(d:Array HT)(x:Nat):HT->Bool:=fun z=>gl G z d[x]!
abbrev KG(G:GS)(d:Array HT)(x:Nat):HT->Bool:=fun z=> !gl G z d[x]!
set_option maxHeartbeats 1000000 in
theorem Fs(h:SE w F c k G m B b n cx d){x y p:Nat}(oY:x+1<y)(hp:x<=p)(Se:p<y)(hy:y<=n)(hn:n<=1000000)
 (hK:∀w',SE w' F c k G m B b n cx (Sort.partition (gl G) d x y p).2.2->Kept (· =b) w w'->K (.tuple #[.int .i64 ((Sort.partition (gl G) d x y p).1:Int),.bool (Sort.partition (gl G) d x y p).2.1]) w'):
 bC prog jP.id #[.slice (some ⟨b,0,none⟩) n cx,.int .i64 (x:Int),.int .i64 (y:Int),.int .i64 (p:Int),.func (.func bE.id) #[.pointer (some ⟨c,0,none⟩)] #[]] w K:=by
 refine aY.of ?_;unfold aY.W;intro w3;have k3:Kept Nil w w3:=(Kept.refl _ _).drew;clear_value w3;obtain⟨⟨a1,a2,a3,a4,a5,a6⟩,h5,k5⟩:=(h.same k3).sw (x:=(x:Int)) (y:=(p:Int)) rfl rfl (by omega) (by omega);refine⟨a1,_,a2,a3,_,a4,a3,a5,a1,a6,?_⟩;have q9:Kept (· =b) w _:=(k3.mono fun _ _ h=>h.elim).tt k5;clear a1 a2 a3 a4 a5 a6 k5;unfold Sort.partition at hK;simp only at hK;generalize Sort.swp d x p=d1 at hK h5;rw [wN (x:=(x:Int)+1) (i:=x+1) (by omega) (by omega),wN (x:=(y:Int)-1) (i:=y-1) (by omega) (by omega)];refine aY.cC (I:=fun s v=>∃i:Nat,s=(i:Int)/\x<i/\i<=y/\SE v F c k G m B b n cx d1/\Sort.scanUp (Kr G d1 x) d1 (y-1) i=Sort.scanUp (Kr G d1 x) d1 (y-1) (x+1)/\Kept (· =b) w v) (μ:=fun s _=>((y:Int)-s).toNat) (s:=((x+1:Nat):Int)) ⟨x+1,rfl,by omega,by omega,h5,rfl,q9⟩ ?_;clear h5 q9;rintro s v ⟨i,rfl,RZ,hiy,hv,Er,kv⟩;unfold aY.B1;intro w4;have k4:Kept Nil v w4:=(Kept.refl _ _).drew;clear_value w4;have h4:=hv.same k4;have nJ:=kv.trans k4 (fun _ _ h=>h.elim);have up:∀ {u:World},SE u F c k G m B b n cx d1->Kept (· =b) w u->Sort.scanUp (Kr G d1 x) d1 (y-1) (x+1)=i->aY.cU (some ⟨b,0,none⟩) n cx (x:Int) (some ⟨c,0,none⟩) 0 (i:Int) ((y-1:Nat):Int) K u:=fun {u} hu ku hi=>by
  rw [hi]at hK;unfold aY.cU;refine aY.gU (I:=fun s v=>∃j:Nat,s=(j:Int)/\x<=j/\j<y/\SE v F c k G m B b n cx d1/\Sort.scanDown (KG G d1 x) d1 i j=Sort.scanDown (KG G d1 x) d1 i (y-1)/\Kept (· =b) w v) (μ:=fun s _=>s.toNat) (s:=((y-1:Nat):Int)) ⟨y-1,rfl,by omega,by omega,hu,rfl,ku⟩ ?_;rintro s v ⟨j,rfl,hxj,hjy,hv,R9,kv⟩;unfold aY.B2;intro w5;have k5:Kept Nil v w5:=(Kept.refl _ _).drew;clear_value w5;have h5:=hv.same k5;have BQ:=kv.trans k5 (fun _ _ h=>h.elim);have down:∀ {u:World},SE u F c k G m B b n cx d1->Kept (· =b) w u->Sort.scanDown (KG G d1 x) d1 i (y-1)=j->aY.iN (some ⟨b,0,none⟩) n cx (x:Int) (some ⟨c,0,none⟩) 0 (i:Int) (j:Int) K u:=fun {u} hu ku hj=>by
   rw [hj]at hK;unfold aY.iN;refine Split.dec (fun xY=>?_) (fun hle=>?_)
   ·rw [if_pos (by omega)]at hK
    intro w6;have k6:Kept Nil u w6:=(Kept.refl _ _).drew;clear_value w6;obtain⟨⟨a1,a2,a3,a4,a5,a6⟩,h7,k7⟩:=(hu.same k6).sw (x:=(j:Int)) (y:=(x:Int)) rfl rfl (by omega) (by omega);refine⟨a1,_,a2,a3,_,a4,a3,a5,a1,a6,?_⟩;exact hK _ h7 ((ku.trans k6 (fun _ _ h=>h.elim)).tt k7)
   ·have rC:i<=j:=by omega
    rw [if_neg (by omega)]at hK;simp only at hK;intro w6;have k6:Kept Nil u w6:=(Kept.refl _ _).drew;clear_value w6;obtain⟨⟨a1,a2,a3,a4,a5,a6⟩,h7,k7⟩:=(hu.same k6).sw (x:=(i:Int)) (y:=(j:Int)) rfl rfl (by omega) (by omega);refine⟨a1,_,a2,a3,_,a4,a3,a5,a1,a6,?_⟩;have zv:=(ku.trans k6 (fun _ _ h=>h.elim)).tt k7;clear a1 a2 a3 a4 a5 a6 k7;generalize Sort.swp d1 i j=d2 at hK h7;rw [wN (x:=(i:Int)+1) (i:=i+1) (by omega) (by omega),wN (x:=(j:Int)-1) (i:=j-1) (by omega) (by omega)];refine aY.vM (I:=fun s v=>∃(i2 j2:Nat) (dk:Array HT),s=((i2:Int),(j2:Int))/\x<i2/\i2<=y/\x<=j2/\j2<y/\SE v F c k G m B b n cx dk/\Sort.partLoop (gl G) x i2 j2 dk=Sort.partLoop (gl G) x (i+1) (j-1) d2/\Kept (· =b) w v) (μ:=fun s _=>(s.2+1-s.1).toNat) (s:=(((i+1:Nat):Int),((j-1:Nat):Int))) ⟨i+1,j-1,d2,rfl,by omega,by omega,by omega,by omega,h7,rfl,zv⟩ ?_;clear h7 zv;rintro s v ⟨i2,j2,dk,rfl,aiv,ajY,aiu,ajU,hv2,ry,ui⟩;unfold aY.B3;simp only;refine aY.Ie (I:=fun s v=>∃i3:Nat,s=(i3:Int)/\i2<=i3/\i3<=y/\SE v F c k G m B b n cx dk/\Sort.scanUp (Kr G dk x) dk j2 i3=Sort.scanUp (Kr G dk x) dk j2 i2/\Kept (· =b) w v) (μ:=fun s _=>((y:Int)-s).toNat) (s:=(i2:Int)) ⟨i2,rfl,by omega,by omega,hv2,rfl,ui⟩ ?_;rintro s v3 ⟨i3,rfl,aj1,ajX,hv3,Gj,rZ⟩;unfold aY.B4;intro w8;have k8:Kept Nil v3 w8:=(Kept.refl _ _).drew;clear_value w8;have h8:=hv3.same k8;have kv8:=rZ.trans k8 (fun _ _ h=>h.elim);have up3:∀ {u:World},SE u F c k G m B b n cx dk->Kept (· =b) w u->Sort.scanUp (Kr G dk x) dk j2 i2=i3->aY.DB (some ⟨b,0,none⟩) n cx (x:Int) (some ⟨c,0,none⟩) 0 (i3:Int) (j2:Int) (bR (aY.e3 (some ⟨b,0,none⟩) n cx (x:Int) (some ⟨c,0,none⟩) 0) (fun s v=>∃(i2 j2:Nat) (dk:Array HT),s=((i2:Int),(j2:Int))/\x<i2/\i2<=y/\x<=j2/\j2<y/\SE v F c k G m B b n cx dk/\Sort.partLoop (gl G) x i2 j2 dk=Sort.partLoop (gl G) x (i+1) (j-1) d2/\Kept (· =b) w v) (fun s _=>(s.2+1-s.1).toNat) ((i2:Int),(j2:Int)) v (aY.q3 K)) u:=fun {u} hu ku hi3=>by
     unfold aY.DB;refine aY.TJ (I:=fun s v=>∃j3:Nat,s=(j3:Int)/\x<=j3/\j3<=j2/\SE v F c k G m B b n cx dk/\Sort.scanDown (KG G dk x) dk i3 j3=Sort.scanDown (KG G dk x) dk i3 j2/\Kept (· =b) w v) (μ:=fun s _=>s.toNat) (s:=(j2:Int)) ⟨j2,rfl,by omega,by omega,hu,rfl,ku⟩ ?_;rintro s v4 ⟨j3,rfl,ait,ajT,hv4,Gi,nJ⟩;unfold aY.B5;intro w9;have k9:Kept Nil v4 w9:=(Kept.refl _ _).drew;clear_value w9;have h9:=hv4.same k9;have RO:=nJ.trans k9 (fun _ _ h=>h.elim);have Oo:∀ {u:World},SE u F c k G m B b n cx dk->Kept (· =b) w u->Sort.scanDown (KG G dk x) dk i3 j2=j3->aY.Rw (some ⟨b,0,none⟩) n cx (x:Int) (some ⟨c,0,none⟩) 0 (i3:Int) (j3:Int) (bR (aY.e3 (some ⟨b,0,none⟩) n cx (x:Int) (some ⟨c,0,none⟩) 0) (fun s v=>∃(i2 j2:Nat) (dk:Array HT),s=((i2:Int),(j2:Int))/\x<i2/\i2<=y/\x<=j2/\j2<y/\SE v F c k G m B b n cx dk/\Sort.partLoop (gl G) x i2 j2 dk=Sort.partLoop (gl G) x (i+1) (j-1) d2/\Kept (· =b) w v) (fun s _=>(s.2+1-s.1).toNat) ((i2:Int),(j2:Int)) v (aY.q3 K)) u:=fun {u} hu ku hj3=>by
      rw [Sort.partLoop]at ry;rw [hi3,hj3]at ry;unfold aY.Rw;refine Split.dec (fun xY=>?_) (fun hle=>?_)
      ·rw [if_pos (by omega)]at ry
       rw [<-ry]at hK;rw [aR,aY.Ca];unfold aY.xu;intro w6;have k6:Kept Nil u w6:=(Kept.refl _ _).drew;clear_value w6;obtain⟨⟨a1,a2,a3,a4,a5,a6⟩,h7,k7⟩:=(hu.same k6).sw (x:=(j3:Int)) (y:=(x:Int)) rfl rfl (by omega) (by omega);refine⟨a1,_,a2,a3,_,a4,a3,a5,a1,a6,?_⟩;exact hK _ h7 ((ku.trans k6 (fun _ _ h=>h.elim)).tt k7)
      ·rw [if_neg (by omega),dif_pos (by omega)]at ry
       intro w6;have k6:Kept Nil u w6:=(Kept.refl _ _).drew;clear_value w6;obtain⟨⟨a1,a2,a3,a4,a5,a6⟩,h7,k7⟩:=(hu.same k6).sw (x:=(i3:Int)) (y:=(j3:Int)) rfl rfl (by omega) (by omega);refine⟨a1,_,a2,a3,_,a4,a3,a5,a1,a6,?_⟩;simp only;rw [wN (x:=(i3:Int)+1) (i:=i3+1) (by omega) (by omega),wN (x:=(j3:Int)-1) (i:=j3-1) (by omega) (by omega)];exact⟨(((i3+1:Nat):Int),((j3-1:Nat):Int)),rfl,⟨i3+1,j3-1,_,rfl,by omega,by omega,by omega,by omega,h7,ry,(ku.trans k6 (fun _ _ h=>h.elim)).tt k7⟩,by simp only;omega⟩
     refine Split.dec (fun hle=>?_) (fun xY=>?_)
     ·obtain⟨j',rfl⟩:∃j',j3=j'+1:=⟨j3-1,by omega⟩
      refine h9.cmp (i:=j'+1) (j:=x) rfl rfl (by omega) (by omega) fun r w10 wK lX hr=>?_;have vP:=RO.trans lX (fun _ _ h=>h.elim);rw [Sort.scanDown]at Gi;by_cases ti:r<0
      ·refine Split.no (by rw [decide_eq_true ti];rfl) ?_
       rw [aR,aY.SK];rw [if_neg (by simp only [KG,hr.1 ti,Bool.not_true,Bool.and_false];decide)]at Gi;exact Oo wK vP Gi.symm
      ·refine Split.yes (by rw [decide_eq_false ti];rfl) ?_
       have hg:gl G dk[j'+1]! dk[x]! =false:=by
        cases hg:gl G dk[j'+1]! dk[x]!
        ·rfl
        ·exact absurd (hr.2 hg) ti
       rw [if_pos (by simp only [KG,hg,Bool.not_false,Bool.and_true,decide_eq_true_eq];omega)]at Gi;rw [wN (x:=((j'+1:Nat):Int)-1) (i:=j') (by omega) (by omega)];exact⟨(j':Int),rfl,⟨j',rfl,by omega,by omega,wK,Gi,vP⟩,by simp only;omega⟩
     ·rw [aR,aY.SK]
      refine Oo h9 RO ?_;rw [<-Gi];cases j3 with
      |zero=>rfl
      |succ j'=>rw [Sort.scanDown,if_neg (by simp only [Bool.and_eq_true,decide_eq_true_eq];intro e;omega)]
    refine Split.dec (fun hle=>?_) (fun xY=>?_)
    ·refine h8.cmp (i:=i3) (j:=x) rfl rfl (by omega) (by omega) fun r w10 wK lX hr=>?_
     have vP:=kv8.trans lX (fun _ _ h=>h.elim);rw [Sort.scanUp]at Gj;refine Split.dec (fun ti=>?_) (fun ti=>?_)
     ·rw [if_pos (by simp only [Kr,hr.1 ti,Bool.and_true,decide_eq_true_eq];omega)]at Gj
      rw [wN (x:=(i3:Int)+1) (i:=i3+1) (by omega) (by omega)];exact⟨((i3+1:Nat):Int),rfl,⟨i3+1,rfl,by omega,by omega,wK,Gj,vP⟩,by simp only;omega⟩
     ·rw [aR,aY.Hk]
      rw [if_neg (by simp only [Kr,Bool.and_eq_true,decide_eq_true_eq];intro e;exact ti (hr.2 e.2))]at Gj;exact up3 wK vP Gj.symm
    ·rw [aR,aY.Hk]
     refine up3 h8 kv8 ?_;rw [<-Gj,Sort.scanUp,if_neg (by simp only [Bool.and_eq_true,decide_eq_true_eq];intro e;omega)]
  refine Split.dec (fun hle=>?_) (fun xY=>?_)
  ·obtain⟨j',rfl⟩:∃j',j=j'+1:=⟨j-1,by omega⟩
   refine h5.cmp (i:=j'+1) (j:=x) rfl rfl (by omega) (by omega) fun r w10 wK lX hr=>?_;have vP:=BQ.trans lX (fun _ _ h=>h.elim);rw [Sort.scanDown]at R9;by_cases ti:r<0
   ·refine Split.no (by rw [decide_eq_true ti];rfl) ?_
    rw [aR,aY.jN];rw [if_neg (by simp only [KG,hr.1 ti,Bool.not_true,Bool.and_false];decide)]at R9;exact down wK vP R9.symm
   ·refine Split.yes (by rw [decide_eq_false ti];rfl) ?_
    have hg:gl G d1[j'+1]! d1[x]! =false:=by
     cases hg:gl G d1[j'+1]! d1[x]!
     ·rfl
     ·exact absurd (hr.2 hg) ti
    rw [if_pos (by simp only [KG,hg,Bool.not_false,Bool.and_true,decide_eq_true_eq];omega)]at R9;rw [wN (x:=((j'+1:Nat):Int)-1) (i:=j') (by omega) (by omega)];exact⟨(j':Int),rfl,⟨j',rfl,by omega,by omega,wK,R9,vP⟩,by simp only;omega⟩
  ·rw [aR,aY.jN]
   refine down h5 BQ ?_;rw [<-R9];cases j with
   |zero=>rfl
   |succ j'=>rw [Sort.scanDown,if_neg (by simp only [Bool.and_eq_true,decide_eq_true_eq];intro e;omega)]
 refine Split.dec (fun hle=>?_) (fun xY=>?_)
 ·refine h4.cmp (i:=i) (j:=x) rfl rfl (by omega) (by omega) fun r w10 wK lX hr=>?_
  have vP:=nJ.trans lX (fun _ _ h=>h.elim);rw [Sort.scanUp]at Er;refine Split.dec (fun ti=>?_) (fun ti=>?_)
  ·rw [if_pos (by simp only [Kr,hr.1 ti,Bool.and_true,decide_eq_true_eq];omega)]at Er
   rw [wN (x:=(i:Int)+1) (i:=i+1) (by omega) (by omega)];exact⟨((i+1:Nat):Int),rfl,⟨i+1,rfl,by omega,by omega,wK,Er,vP⟩,by simp only;omega⟩
  ·rw [aR,aY.df]
   rw [if_neg (by simp only [Kr,Bool.and_eq_true,decide_eq_true_eq];intro e;exact ti (hr.2 e.2))]at Er;exact up wK vP Er.symm
 ·rw [aR,aY.df]
  refine up h4 nJ ?_;rw [<-Er,Sort.scanUp,if_neg (by simp only [Bool.and_eq_true,decide_eq_true_eq];intro e;omega)]
end
theorem lN{d d':Array HT}{x y:Nat}(oY:x<=y)(hy:y<=d.size)(h:Sort.PermIn x y d d'):d'.toList.Perm d.toList:=by
 have h1:=Sort.permIn_mono d d' x y 0 d.size (Nat.zero_le _) hy (Nat.le_refl _) h;have h2:=h1.2.2;have h3:=h1.1;rw [Array.extract_size,<-h3,Array.extract_size]at h2;exact h2
section
variable{w w':World}{B b n cx:Nat}{d:Array HT}{F:Nat->Prop}{c k:Nat}{G:GS}{m:CM}{K:Value->World->Prop}
set_option maxHeartbeats 1000000 in
theorem FF(hn:n<50){Q:aO}{v:World}{a e:Nat}{l:Int}{p q:Bool}{dk:Array HT}(Q6:a<=e)(QS:e<=n)(Be:0<=l)(uN:l<=100)(hv:SE v F c k G m B b n cx dk)(gu:dk.toList.Nodup)(hB:Sort.Below (gl G) a e dk)
 (rec:∀ {u:World} {dj:Array HT} {a' e':Nat} {l':Int} {K':Value->World->Prop},a'<=e'->e'-a'<e-a->e'<=n->0<=l'->l'<=100->SE u F c k G m B b n cx dj->dj.toList.Nodup->Sort.Below (gl G) a' e' dj->
   (∀d' w',SE w' F c k G m B b n cx d'->Sort.PermIn a' e' dj d'->Sort.SortedIn (gl G) a' e' d'->Kept (· =b) u w'->K' (.tuple #[]) w')->
   bC prog ig.id #[.slice (some ⟨b,0,none⟩) n cx,.int .i64 (a':Int),.int .i64 (e':Int),.int .i64 l',.func (.func bE.id) #[.pointer (some ⟨c,0,none⟩)] #[]] u K')
 (CP:∀(a' e' l' L:Int) (p' q':Bool) t u dj,(t= []\/∃r:Int,t= [(13,.int .i64 r)])->SE u F c k G m B b n cx dj->Sort.PermIn a e dk dj->Sort.SortedIn (gl G) a e dj->Kept (· =b) v u->Q .ret ((0,.slice (some ⟨b,0,none⟩) n cx)::(1,.int .i64 a')::(2,.int .i64 e')::(3,.int .i64 l')::(4,.func (.func bE.id) #[.pointer (some ⟨c,0,none⟩)] #[])::(10,.bool p')::(11,.bool q')::(12,.int .i64 L)::t) u)
 (ND:∀(a' e':Nat) (l':Int) (p' q':Bool) (dj:Array HT) (u:World),a<=a'->a'<=e'->e'<=e->e'-a'<e-a->0<=l'->l'<=100->SE u F c k G m B b n cx dj->dj.toList.Nodup->Sort.Below (gl G) a' e' dj->(∀R,Sort.PermIn a' e' dj R->Sort.SortedIn (gl G) a' e' R->Sort.PermIn a e dk R/\Sort.SortedIn (gl G) a e R)->Kept (· =b) v u->
   Q .normal [(0,.slice (some ⟨b,0,none⟩) n cx),(1,.int .i64 (a':Int)),(2,.int .i64 (e':Int)),(3,.int .i64 l'),(4,.func (.func bE.id) #[.pointer (some ⟨c,0,none⟩)] #[]),(10,.bool p'),(11,.bool q')] u):
 aC.B1 (some ⟨b,0,none⟩) n cx (a:Int) (e:Int) l (some ⟨c,0,none⟩) p q Q v:=by
 have ml:=SR.size hv.row;unfold aC.B1;rw [wN (x:=(e:Int)-(a:Int)) (i:=e-a) (by omega) (by omega)];refine Split.dec (fun EJ=>?_) (fun EJ=>?_)
 ·refine Fu hv Q6 QS (by omega) fun w' h' k'=>⟨rfl,?_⟩
  obtain⟨p1,p2⟩:=Sort.insertionSort_holds (v8 G) dk a e Q6 (by omega);exact CP _ _ _ _ _ _ [] _ _ (.inl rfl) h' p1 p2 k'
 have EJ:a+12<e:=by omega
 refine Split.mk (fun hl=>?_) (fun hl=>?_)
 ·refine Ck hv (by omega) QS (by omega) fun w' h' k'=>⟨rfl,?_⟩
  obtain⟨p1,p2⟩:=Sort.heapSort_holds (v8 G) dk a e Q6 (by omega);exact CP _ _ _ _ _ _ [] _ _ (.inl rfl) h' p1 p2 k'
 have hl:l≠0:=beq_eq_false_iff_ne.1 hl;have j1:∀ {u:World} {dj:Array HT} {l':Int},0<=l'->l'<=100->SE u F c k G m B b n cx dj->Sort.PermIn a e dk dj->Kept (· =b) v u->aC.J1 (some ⟨b,0,none⟩) n cx (a:Int) (e:Int) l' (some ⟨c,0,none⟩) p q ((e-a:Nat):Int) Q u:=by
  intro u dj l' Be uN hu BV ku;have j7:∀ {u:World} {dj:Array HT} {r:Nat},a<=r->r<e->SE u F c k G m B b n cx dj->Sort.PermIn a e dk dj->Kept (· =b) v u->aC.J7 (some ⟨b,0,none⟩) n cx (a:Int) (e:Int) l' (some ⟨c,0,none⟩) p q ((e-a:Nat):Int) (r:Int) Q u:=by
   intro u dj r mU jJ hu BV ku;have Yz:=SR.size hu.row;unfold aC.J7;have hBj:=hB.perm (by omega) BV;obtain⟨g1,g2,Sa,hBa,hBr,Jj,CO⟩:=Sort.round_part (v8 G) (Sort.partition_holds (gl G)) (d3:=dj) (mid:=(Sort.partition (gl G) dj a e r).1) (ap:=(Sort.partition (gl G) dj a e r).2.1) (d4:=(Sort.partition (gl G) dj a e r).2.2) mU jJ (by omega) hBj rfl;have U9:=(Sort.partition_holds (gl G) (v8 G) dj a e r mU jJ (by omega)).2.2.1;refine Fs hu (by omega) mU jJ QS (by omega) fun w5 h5 k5=>⟨_,_,rfl,aC.Ut ?_⟩;have F6:=ku.tt k5;generalize (Sort.partition (gl G) dj a e r)=res at g1 g2 Sa hBa hBr Jj CO U9 h5;obtain⟨mid,ap,d4⟩:=res;simp only at g1 g2 Sa hBa hBr Jj CO U9 h5⊢;have yV:=Sort.permIn_trans _ _ _ a e BV U9;have LU:d4.toList.Nodup:=(lN Q6 (by omega) yV).nodup_iff.2 gu;unfold aC.J8;refine aC.Us ?_;unfold aC.J9;rw [wN (x:=(mid:Int)-(a:Int)) (i:=mid-a) (by omega) (by omega),wN (x:=(e:Int)-(mid:Int)) (i:=e-mid) (by omega) (by omega)];refine aC.PR ?_;unfold aC.J10;refine⟨by decide,aC.PQ ?_⟩;unfold aC.J11;refine Split.dec (fun cY=>aC.PO ?_) (fun cY=>aC.PM ?_)
   ·unfold aC.J12
    refine rec g1 (by omega) (by omega) Be uN h5 LU hBa fun d' w' h' p' s' k'=>⟨rfl,aC.PL ?_⟩;unfold aC.J14;rw [wN (x:=(mid:Int)+1) (i:=mid+1) (by omega) (by omega)];obtain⟨hBL,hf⟩:=Jj d' p' s';refine ND (mid+1) e l' _ _ d' w' (by omega) (by omega) (Nat.le_refl _) (by omega) Be uN h' ((lN g1 (by omega) p').nodup_iff.2 LU) hBL (fun R hR sR=>?_) (F6.tt k');obtain⟨q1,q2⟩:=hf R hR sR;exact⟨Sort.permIn_trans _ _ _ a e BV q1,q2⟩
   ·unfold aC.J13
    rw [wN (x:=(mid:Int)+1) (i:=mid+1) (by omega) (by omega)];refine rec (by omega) (by omega) (by omega) Be uN h5 LU hBr fun d' w' h' p' s' k'=>⟨rfl,aC.PK ?_⟩;unfold aC.J15;obtain⟨hBL,hf⟩:=CO d' p' s';refine ND a mid l' _ _ d' w' (by omega) (by omega) (by omega) (by omega) Be uN h' ((lN (by omega) (by omega) p').nodup_iff.2 LU) hBL (fun R hR sR=>?_) (F6.tt k');obtain⟨q1,q2⟩:=hf R hR sR;exact⟨Sort.permIn_trans _ _ _ a e BV q1,q2⟩
  have j6:∀ {u:World} {dj:Array HT} {r:Nat},a<=r->r<e->SE u F c k G m B b n cx dj->Sort.PermIn a e dk dj->Kept (· =b) v u->aC.J6 (some ⟨b,0,none⟩) n cx (a:Int) (e:Int) l' (some ⟨c,0,none⟩) p q ((e-a:Nat):Int) (r:Int) Q u:=by
   intro u dj r mU jJ hu BV ku;have Yz:=SR.size hu.row;unfold aC.J6;intro w3;have k3:Kept Nil u w3:=(Kept.refl _ _).drew;clear_value w3;have h3:=hu.same k3;have Ea:=ku.trans k3 (fun _ _ h=>h.elim);refine Split.dec (fun ha0=>?_) (fun ha0=>aC.Na (j7 mU jJ h3 BV Ea));rw [wN (x:=(a:Int)-1) (i:=a-1) (by omega) (by omega)];refine h3.cmp (i:=a-1) (j:=r) rfl rfl (by omega) (by omega) fun z w4 h4 k4 hz=>?_;have hg:gl G dj[a-1]! dj[r]! =true:=by
    cases hg:gl G dj[a-1]! dj[r]!
    ·exfalso
     rcases hB.perm (by omega) BV with e0|e0
     ·omega
     ·have G8:dj.toList.Nodup:=(lN Q6 (by omega) BV).nodup_iff.2 gu
      have e1:=pT hg (e0 r mU jJ);have:=(List.getElem_inj (xs:=dj.toList) (i:=a-1) (j:=r) (h₀:=by simp;omega) (h₁:=by simp;omega) G8).1 (by
       simpa [getElem!_pos,Yz,show a-1<n by omega,show r<n by omega]using e1)
      omega
    ·rfl
   exact Split.no (by rw [decide_eq_true (hz.2 hg)];rfl) (aC.Na (j7 mU jJ h4 BV (Ea.trans k4 (fun _ _ h=>h.elim))))
  have j4:∀ {u:World} {dj:Array HT} {r:Nat} {t:Int},a<=r->r<e->SE u F c k G m B b n cx dj->Sort.PermIn a e dk dj->Kept (· =b) v u->aC.J4 (some ⟨b,0,none⟩) n cx (a:Int) (e:Int) l' (some ⟨c,0,none⟩) p q ((e-a:Nat):Int) (r:Int) t Q u:=by
   intro u dj r t mU jJ hu BV ku;unfold aC.J4;have go:=aC.Nb (j6 mU jJ hu BV ku);refine Split.mk (fun _=>Split.mk (fun _=>Split.mk (fun _=>?_) (fun _=>go)) (fun _=>go)) (fun _=>go);refine Fp hu (by omega) QS hn fun t w' hs h' k'=>⟨t,rfl,?_⟩;have Eb:=ku.trans k' (fun _ _ h=>h.elim);exact Split.mk (fun ht=>CP _ _ _ _ _ _ [_] _ _ (.inr ⟨_,rfl⟩) h' BV (hs ht) Eb) (fun _=>aC.Nb (j6 mU jJ h' BV Eb))
  unfold aC.J1;refine Fo hu EJ QS hn fun r t w4 mU jJ h4 k4=>⟨_,_,rfl,aC.qM ?_⟩;have T5:=ku.trans k4 (fun _ _ h=>h.elim);unfold aC.J2;refine Split.mk (fun ht=>?_) (fun ht=>aC.Nc (j4 mU jJ h4 BV T5));refine Fm h4 (by omega) QS (by omega) fun d' w' h' p' k'=>⟨rfl,aC.Uv ?_⟩;unfold aC.J3;rw [wN (x:=(e:Int)-1) (i:=e-1) (by omega) (by omega),wN (x:=(r:Int)-(a:Int)) (i:=r-a) (by omega) (by omega),wN (x:=((e-1:Nat):Int)-((r-a:Nat):Int)) (i:=e-1-(r-a)) (by omega) (by omega)];refine aC.Uu ?_;unfold aC.J5;exact aC.Nc (j4 (by omega) (by omega) h' (Sort.permIn_trans _ _ _ a e BV p') (T5.tt k'))
 refine Split.mk (fun hp=>?_) (fun hp=>aC.mF (j1 Be uN hv (Sort.permIn_refl _ _ _) (Kept.refl _ _)));refine Fv hv EJ QS (by omega) fun d' w' h' p' k'=>⟨rfl,aC.mF ?_⟩;rw [gF (x:=l-1) (by omega) (by omega)];exact j1 (by omega) (by omega) h' p' k'
theorem Fq(hn:n<50):∀(s:Nat) {w:World} {d:Array HT} {x y:Nat} {lim:Int} {K:Value->World->Prop},y<x+s->x<=y->y<=n->0<=lim->lim<=100->SE w F c k G m B b n cx d->d.toList.Nodup->Sort.Below (gl G) x y d->
 (∀d' w',SE w' F c k G m B b n cx d'->Sort.PermIn x y d d'->Sort.SortedIn (gl G) x y d'->Kept (· =b) w w'->K (.tuple #[]) w')->
 bC prog ig.id #[.slice (some ⟨b,0,none⟩) n cx,.int .i64 (x:Int),.int .i64 (y:Int),.int .i64 lim,.func (.func bE.id) #[.pointer (some ⟨c,0,none⟩)] #[]] w K:=by
 intro s
 induction s with
 |zero=>intro w d x y lim K h1 h2;omega
 |succ s ih=>
  intro w d x y lim K hs oY hy Be uN h gu hB hK;refine aC.of ?_;unfold aC.W;refine aC.cC (I:=fun st v=>∃(a e:Nat) (l:Int) (p q:Bool) (dk:Array HT),st=((a:Int),(e:Int),l,p,q)/\x<=a/\a<=e/\e<=y/\0<=l/\l<=100/\SE v F c k G m B b n cx dk/\dk.toList.Nodup/\Sort.Below (gl G) a e dk/\(∀R,Sort.PermIn a e dk R->Sort.SortedIn (gl G) a e R->Sort.PermIn x y d R/\Sort.SortedIn (gl G) x y R)/\Kept (· =b) w v) (μ:=fun st _=>(st.2.1-st.1).toNat) (s:=((x:Int),(y:Int),lim,true,true)) ⟨x,y,lim,true,true,d,rfl,Nat.le_refl _,oY,Nat.le_refl _,Be,uN,h,gu,hB,fun R h1 h2=>⟨h1,h2⟩,Kept.refl _ _⟩ ?_;rintro st v ⟨a,e,l,p,q,dk,rfl,hxa,Q6,hey,Be,uN,hv,gu,hB,vX,kv⟩;refine FF hn Q6 (by omega) Be uN hv gu hB (fun h1 h2 h3 h4 h5 h6 h7 h8 h9=>ih (by omega) h1 h3 h4 h5 h6 h7 h8 h9) (fun _ _ _ _ _ _ t u dj ht h1 h2 h3 h4=>?_) (fun a' e' l' p' q' dj u h1 h2 h3 h4 h5 h6 h7 h8 h9 wK Om=>?_)
  ·rw [iW]
   obtain⟨q1,q2⟩:=vX _ h2 h3;rcases ht with rfl|⟨r,rfl⟩
   ·exact hK dj u h1 q1 q2 (kv.tt h4)
   exact hK dj u h1 q1 q2 (kv.tt h4)
  ·exact⟨((a':Int),(e':Int),l',p',q'),rfl,⟨a',e',l',p',q',dj,rfl,by omega,h2,by omega,h5,h6,h7,h8,h9,fun R hR sR=>let ⟨q1,q2⟩:=wK R hR sR;vX R q1 q2,kv.tt Om⟩,by simp only;omega⟩
theorem Dt{n:Nat}(hn:n<50)(hK:∀(v:Int),0<=v->v<=100->K (.int .i64 v) w):bC prog bits_Len.id #[.int .u64 (n:Int)] w K:=by
 have h:=Any.bits_Len (SlLaysF0.n15.bits (P:=prog) (ρ:=Tryz.qi) {Tryz.xD with}) n w (by omega) (by omega);refine Calls.mono h ?_;rintro e w' ⟨rfl,rfl⟩;refine⟨_,rfl,hK _ (by omega) ?_⟩;rw [Int.toNat_natCast,bitLen_eq _ (by omega)];have:=(Sort.bitsLen_le_iff n 62).2 (by omega);omega
end
theorem KW:ES 49:=by
 intro w F c k G m B A n cx l K C row hn gu iY vV hK;have hlen:=bI.len row;by_cases h0:n=0
 ·subst h0
  have h:=AnyF.slices_SortFunc_none Tryz.xD A cx (.func (.func bE.id) #[.pointer (some ⟨c,0,none⟩)] #[]) w;refine Calls.mono h ?_;rintro e w' ⟨rfl,rfl⟩;have:l= []:=List.eq_nil_of_length_eq_zero hlen;subst this;exact⟨_,rfl,hK [] _ List.Pairwise.nil (fun _=>Iff.rfl) row (Kept.refl _ _)⟩
 ·obtain⟨b,rfl⟩:=Row.some row (by omega)
  have hE:SE w F c k G m B b n cx l.toArray:=⟨C,by simpa [SR]using row,by simpa using iY,vV b rfl⟩;refine qk.of ?_;unfold qk.W;have ew:u64.wrap (n:Int)=(n:Int):=jU (by omega);rw [ew];refine Dt (by omega) fun v hv0 CI=>⟨v,rfl,?_⟩;refine Fq (x:=0) (y:=n) (by omega) (n+1) (by omega) (Nat.zero_le _) (Nat.le_refl _) hv0 CI hE (by simpa using gu) (.inl rfl) fun d' w' h' p' s' k'=>⟨rfl,?_⟩;have nR:=SR.size h'.row;have BU:l.toArray.size=n:=by simpa using hlen
  have U6:=lN (Nat.zero_le _) (by omega) p';refine hK d'.toList w' ?_ (fun x=>by rw [U6.mem_iff]) h'.row (k'.mono fun j _ e=>by subst e;rfl);have uu:=U6.nodup_iff.2 (by simpa using gu);rw [SO,List.pairwise_iff_getElem];intro i j hi hj rC;have CY:i<d'.size:=by simpa using hi
  have vW:j<d'.size:=by simpa using hj
  have h1:=s' i j (Nat.zero_le _) rC (by omega);rw [getElem!_pos d' i CY,getElem!_pos d' j vW]at h1;rw [Array.getElem_toList,Array.getElem_toList];cases hg:gl G d'[i] d'[j]
  ·exfalso
   have e1:=pT hg h1;have:=(List.getElem_inj (xs:=d'.toList) (i:=i) (j:=j) (h₀:=hi) (h₁:=hj) uu).1 (by simpa using e1);omega
  ·rfl
end Go.Proofs.YtfleamccglihoaaGreatDoor
