import Derived.Test.YtnboahlopghcjaaGreatDoorMQ
import Derived.Test.YtnboahlopghcjaaGreatDoorMG
import Derived.Test.YtnboahlopghcjaaGreatDoorMJ
import Derived.Sort.AssemblyPlain
import Derived.Test.YtnboahlopghcjaaGreatDoorMO
set_option linter.unusedVariables false
namespace Go.Proofs.YtnboahlopghcjaaGreatDoor
open Go.Proofs.Tryz
open Go Go.bp Go.RowKit
section
variable{w w':World}{A B:Option Addr}{n cp m cq:Nat}{K:Value->World->Prop}
theorem Bo.none{l:List Bool}(h:Bo w none n l):n=0/\l= []:=by
 cases l with
 |nil=>exact⟨h.len.symm,rfl⟩
 |cons b l=>
  obtain⟨a,h1,_⟩:=h.at_ 0 b rfl;cases h1
theorem Bo.cells{a:Addr}{l:List Bool}(h:Bo w (some a) n l): ∀j u,(th l)[j]? =some u->w.cell? (a.add j)=some u:=by
 intro j u hj;unfold th at hj;rw [List.getElem?_map]at hj;cases hb:l[j]? with
 |none=>rw [hb]at hj;cases hj
 |some b=>
  rw [hb]at hj;cases hj;obtain⟨a',h1,_,h3⟩:=h.at_ j b hb;cases h1;exact h3
theorem Row.bo{l:List Bool}{C:Nat}(h:Row w C gP 1 A n cp (th l)):Bo w A n l:=by
 have hlen:=Row.len h;refine⟨by simpa [th]using hlen,fun i b hi=>?_⟩;have eI:=(List.getElem?_eq_some_iff.1 hi).1;have hn:0<n:=by simp [th]at hlen;omega
 obtain⟨k,rfl⟩:=Row.some h hn;obtain⟨_,cur,tG⟩:=Row.bC h (k:=k) rfl;exact⟨_,rfl,aQ tG,Row.cells h i _ (by simp [th,hi])⟩
theorem xo{l:List Bool}(hl:Bo w A n l)(hn:n<=400000)(hK: ∀A' c' w',Row w' w.heap.size gP 1 A' n c' (th l)->Kept Nil w w'->K (.slice A' n c') w'):
 aY prog cB.id #[.slice A n cp] w K:=by
 have hlen:=hl.len;refine cB.of ?_;cases A with
 |none=>
  obtain⟨rfl,rfl⟩:=hl.none;exact Split.yes rfl (hK none 0 w (Row.nil _ _ _ _) (Kept.refl _ _))
 |some a=>
  refine Split.no rfl ?_;intro w2;have k2:Kept Nil w w2:=(Kept.refl _ _).alloc _;have r0:Row w2 w.heap.size gP 1 (some ⟨w.heap.size,0,none⟩) 0 0 []:=Row.made (n:=0) (cur:= #[]) (aN w _) (Nat.le_refl _) rfl (Nat.zero_le _);clear_value w2;obtain⟨A',c',w4,hr,row,hg,_⟩:=fT (P:=prog) (t:=gS) (bytes:=1) (ty:=gS) AT r0 (a:=a) (m:=n) (cx:=cp) (news:=th l) (by simp [th,hlen]) (hl.same k2).cells (fun u hu=>by
   simp only [th,List.mem_map]at hu;obtain⟨b,_,rfl⟩:=hu;rfl) (by omega) (by unfold maxLen;omega) k2.size
  rw [Nat.zero_add]at hr row;rw [List.nil_append]at row;exact⟨A',n,c',w4,hr,hK A' c' w4 row (Kept.pY k2 hg (fun k hk=>by cases hk;exact Nat.le_refl _))⟩
theorem pL(c:p8)(hm:HS w A n c.merge)(hb:Bo w B m c.gB)(hn:n<=400000)(RV:m<=400000)
 (hK: ∀A' c1 B' c2 w',bQ w' w.heap.size A' n c1 c.merge->Row w' w.heap.size gP 1 B' m c2 (th c.gB)->(∀j,aX A'=some j->aX B'≠some j)->Kept Nil w w'->K (.agg (dT c A' n c1 B' m c2)) w'):
 aY prog eN.id #[.agg (dT c A n cp B m cq)] w K:=by
 refine eN.of ?_;unfold eN.W;intro w1 w2 w3;have k1:Kept Nil w w1:=(Kept.refl _ _).alloc _;have VE:w1.heap[w.heap.size]? =some (.cells (dT c A n cp B m cq) bX (0,0)):=aN w _;have k2:Kept Nil w1 w2:=(Kept.refl _ _).alloc _;have jw:w2.heap[w1.heap.size]? =some (.cells zC bX (0,0)):=aN w1 _;have k3:Kept Nil w2 w3:=(Kept.refl _ _).drew;clear_value w3;have O2:=k3.heap (k2.heap VE (fun h=>h)) (fun h=>h);have H7:=k3.heap jw (fun h=>h);have ph:=(k1.trans k2 (fun _ _ h=>h)).trans k3 (fun _ _ h=>h);have s1:=k1.size;have l1:=aQ VE;have l2:=aQ jw;have s3:=k3.size;clear_value w2 w1;have g:=fz c A n cp B m cq #[];rw [Array.append_empty]at g;refine⟨A,n,cp,by rw [a7,az O2];exact g.2.1,B,m,cq,by rw [a7,az O2];exact g.2.2.1,?_⟩;refine xn (hm.same ph) hn fun A' c1 w4 wq k4=>⟨A',n,c1,rfl,by rw [a7,az (k4.heap O2 (fun h=>h))];exact g.2.2.1,?_⟩;have pV:=ph.trans k4 (fun _ _ h=>h);have s4:=k4.size;refine xo (hb.same pV) RV fun B' c2 w5 rR k5=>⟨B',m,c2,rfl,?_⟩;have lO:=k4.trans k5 (fun _ _ h=>h);have VD:=lO.heap O2 (fun h=>h);have JJ:=lO.heap H7 (fun h=>h);have lP:=bM c A n cp B m cq;refine⟨by rw [a7];exact dE VD (by omega),?_⟩;intro w6;have W8:=rj c A n cp B m cq #[] A' n c1;rw [Array.append_empty,Array.append_empty]at W8;have HL:w6.heap[w.heap.size]? =some (.cells (dT c A' n c1 B m cq) bX (0,0)):=by
  show(w5.setCell ((⟨w.heap.size,0,none⟩:Addr).add 33) (.slice A' n c1)).heap[w.heap.size]? =_;rw [a7,cQ VD,W8]
 have k6:Kept (· =w.heap.size) w5 w6:=by
  show Kept (· =w.heap.size) w5 (w5.setCell ((⟨w.heap.size,0,none⟩:Addr).add 33) (.slice A' n c1))
  rw [a7];exact Kept.setCell (S:=(· =w.heap.size)) (Kept.refl _ w5) (p:=⟨w.heap.size,0+33,none⟩) (fun _=>rfl) _
 clear_value w6;have YZ:=bM c A' n c1 B m cq;refine⟨by rw [a7];exact dE HL (by omega),?_⟩;intro w7;have W7:=ri c A' n c1 B m cq #[] B' m c2;rw [Array.append_empty,Array.append_empty]at W7;have YH:w7.heap[w.heap.size]? =some (.cells (dT c A' n c1 B' m c2) bX (0,0)):=by
  show(w6.setCell ((⟨w.heap.size,0,none⟩:Addr).add 34) (.slice B' m c2)).heap[w.heap.size]? =_;rw [a7,cQ HL,W7]
 have k7:Kept (· =w.heap.size) w6 w7:=by
  show Kept (· =w.heap.size) w6 (w6.setCell ((⟨w.heap.size,0,none⟩:Addr).add 34) (.slice B' m c2))
  rw [a7];exact Kept.setCell (S:=(· =w.heap.size)) (Kept.refl _ w6) (p:=⟨w.heap.size,0+34,none⟩) (fun _=>rfl) _
 clear_value w7;have D8:=k6.trans k7 (fun _ _ h=>h);have FL:=D8.heap JJ (by omega);obtain⟨t1,t2,t3⟩:=ga FL (cs:=dT c A' n c1 B' m c2) (by rw [bM];rfl);refine⟨_,⟨bM ..,Cells.bC YH⟩,⟨bM ..,jT _ _ _ _ _ _ _,fun j hj=>t1 j (by rw [bM];exact hj)⟩,?_⟩;intro w8
 replace t2:w8.heap[w1.heap.size]? =_:=t2
 replace t3:Kept (· =w1.heap.size) w7 w8:=t3
 clear_value w8;refine⟨_,⟨bM ..,Cells.bC t2⟩,?_⟩;have zJ: ∀j,aX A'=some j->w3.heap.size<=j/\j<w4.heap.size:=fun j hj=>by obtain⟨g1,cur,g2⟩:=Row.bC wq hj;exact⟨g1,aQ g2⟩
 have IY: ∀j,aX B'=some j->w4.heap.size<=j:=fun j hj=>(Row.bC rR hj).1;have s5:=k5.size;have Bz:Kept (fun j=>j=w.heap.size\/j=w1.heap.size) w5 w8:=(D8.mono fun _ _ h=>.inl h).trans t3 (fun _ _ h=>.inr h);refine hK A' c1 B' c2 w8 ?_ ?_ (fun j hj he=>by have:=(zJ j hj).2;have:=IY j he;omega) ((ph.trans lO (fun _ _ h=>h)).trans Bz (fun j hj e=>by omega))
 ·exact Row.base (Row.aG (Row.aG wq k5 (fun _ _ h=>h)) Bz (fun j hj e=>by have:=(zJ j hj).1;omega)) (fun j hj=>by have:=(zJ j hj).1;omega)
 ·exact Row.base (Row.aG rR Bz (fun j hj e=>by have:=IY j hj;omega)) (fun j hj=>by have:=IY j hj;omega)
end
end Go.Proofs.YtnboahlopghcjaaGreatDoor
namespace Go.Proofs.YtnboahlopghcjaaGreatDoor
open Go.Proofs.Tryz
open Go Go.bp Go.RowKit
section
variable{w w':World}{F:Nat->Prop}{c k:Nat}{G:GS}{m:CM}{K:Value->World->Prop}
end
end Go.Proofs.YtnboahlopghcjaaGreatDoor
namespace Go.Proofs.YtnboahlopghcjaaGreatDoor
open Go.Proofs.Tryz
open Go Go.bp Go.RowKit
theorem tF(x:HT):x.1.size=32:=x.2.1
theorem yp{G:GS}{a b:HT}:vD G a b>0↔gl G b a=true:=by
 unfold vD;split
 ·rename_i h;rw [vp h];simp
 ·split<;>simp_all
section
variable{w w':World}{F:Nat->Prop}{c k:Nat}{G:GS}{m:CM}{K:Value->World->Prop}{A:Option Addr}{n cx:Nat}{l:List HT}
theorem zM(h:CV w F c k G m)(hl:HS w A n l)(h0:l≠ [])(hn:n<=400000)(fY: ∀x∈l,x∈ids G.D)(hK: ∀w',Kept Nil w w'->K (.agg (bH G l).1) w'):
 aY prog jh.id #[.slice A n cx,.func (.func aS.id) #[.pointer (some ⟨c,0,none⟩)] #[]] w K:=by
 have hlen:=hl.len;obtain⟨x0,t,rfl⟩: ∃x0 t,l=x0::t:=by cases l with|nil=>exact absurd rfl h0|cons a b=>exact⟨a,b,rfl⟩
 refine aj.of ?_;unfold aj.W;intro w1;have k1:Kept Nil w w1:=(Kept.refl _ _).alloc _;have oR:w1.heap[w.heap.size]? =some (.cells bI.1 ao (0,0)):=aN w _;clear_value w1;simp only [List.length_cons]at hlen;refine Split.no (decide_eq_false (by omega)) ((hl.same k1).load (i:=0) (by omega) rfl ?_);intro w2;have k2:Kept Nil w1 w2:=(Kept.refl _ _).alloc _;have oB:w2.heap[w1.heap.size]? =some (.cells bI.1 ao (0,0)):=aN w1 _;clear_value w2;have jw:=k2.heap oR (fun h=>h);have l1:=aQ oR;have l2:=aQ oB;obtain⟨t1,t2,t3⟩:=jQ x0 oB rfl;refine⟨t1,?_⟩;intro w3
 replace t2:w3.heap[w1.heap.size]? =some (.cells x0.1 ao (0,0)):=t2
 replace t3:Kept (· =w1.heap.size) w2 w3:=t3
 clear_value w3;have s1:=k1.size;have ph:Kept Nil w w3:=(k1.trans k2 (fun _ _ h=>h)).trans t3 (fun j hj e=>by omega);have H7:=t3.heap jw (by omega);refine aj.bU (I:=fun s v=> ∃(i:Nat) (b:HT),s=(i:Int)/\1<=i/\i<=n/\b∈ids G.D/\((x0::t).drop i).foldl (fun b y=>if gl G b y then y else b) b=bH G (x0::t)/\v.heap[w1.heap.size]? =some (.cells b.1 ao (0,0))/\v.heap[w.heap.size]? =some (.cells bI.1 ao (0,0))/\Kept Nil w v) (μ:=fun s _=>((n:Int)-s).toNat) (s:=1) ⟨1,x0,rfl,Nat.le_refl _,by omega,fY _ List.mem_cons_self,rfl,t2,H7,ph⟩ ?_;rintro s v ⟨i,b,rfl,MW,Ex,hb,he,IF,VV,kv⟩;unfold aj.B1;refine Split.dec (fun ck=>?_) (fun iy=>?_)
 ·have eI:i<n:=by omega
  obtain⟨y,hy⟩: ∃y,(x0::t)[i]? =some y:=⟨_,List.getElem?_eq_getElem (by simp;omega)⟩;have Vx:y∈ids G.D:=fY _ (List.mem_of_getElem? hy);have hd:(x0::t).drop i=y::(x0::t).drop (i+1):=by
   obtain⟨q1,q2⟩:=List.getElem?_eq_some_iff.1 hy;rw [List.drop_eq_getElem_cons q1,q2]
  rw [hd,List.foldl_cons]at he;intro w4;have k4:Kept Nil v w4:=(Kept.refl _ _).drew;clear_value w4;have Bu:=kv.trans k4 (fun _ _ h=>h);have O1:(x0::t)[((i:Nat):Int).toNat]? =some y:=by rw [Int.toNat_natCast];exact hy
  refine(hl.same Bu).load (i:=(i:Int)) (by omega) O1 ⟨b.1,⟨b.2.1,Cells.bC (k4.heap IF (fun h=>h))⟩,?_⟩;refine lT (h.same Bu) Vx hb fun w5 k5=>⟨_,rfl,?_⟩;have Ju:=Bu.trans k5 (fun _ _ h=>h);have tI:=k5.heap (k4.heap IF (fun h=>h)) (fun h=>h);have JJ:=k5.heap (k4.heap VV (fun h=>h)) (fun h=>h);rw [e8 (n:=(i:Int)) (by omega) (by omega)];refine Split.dec (fun vk=>?_) (fun hle=>?_)
  ·rw [if_pos (yp.1 vk)]at he
   refine(hl.same Ju).load (i:=(i:Int)) (by omega) O1 ?_;obtain⟨f1,f2,f3⟩:=jQ y tI b.2.1;refine⟨f1,?_⟩;exact⟨(i:Int)+1,rfl,⟨i+1,y,rfl,by omega,by omega,Vx,he,f2,f3.heap JJ (by omega),Ju.trans f3 (fun j hj e=>by omega)⟩,by simp only;omega⟩
  ·rw [if_neg (fun e=>hle (yp.2 e))]at he
   exact⟨(i:Int)+1,rfl,⟨i+1,b,rfl,by omega,by omega,hb,he,tI,JJ,Ju⟩,by simp only;omega⟩
 ·rw [aP,aj.dD]
  rw [List.drop_eq_nil_of_le (by simp;omega)]at he
  replace he:b=bH G (x0::t):=he
  subst he;refine⟨_,⟨tF _,Cells.bC IF⟩,?_⟩;obtain⟨f1,f2,f3⟩:=jQ (bH G (x0::t)) VV rfl;exact⟨f1,_,⟨tF _,Cells.bC f2⟩,hK _ (kv.trans f3 (fun j hj e=>by omega))⟩
theorem tK(h:CV w F c k G m)(hl:HS w A n l)(hn:n<=400000)(hK: ∀w',Kept Nil w w'->K (.tuple #[.agg (if mC G.D l=0 then bH G l else bI).1,.int .i64 (mC G.D l)]) w'):
 aY prog bL.id #[.pointer (some ⟨c,0,none⟩),.slice A n cx] w K:=by
 refine bL.of ?_;unfold bL.W;intro w1;have k1:Kept Nil w w1:=(Kept.refl _ _).alloc _;have oR:w1.heap[w.heap.size]? =some (.cells bI.1 ao (0,0)):=aN w _;clear_value w1;refine zL (h.same k1) (hl.same k1) hn fun w2 k2=>⟨_,rfl,?_⟩;have mr:=k1.trans k2 (fun _ _ h=>h);have jw:=k2.heap oR (fun h=>h);by_cases h0:mC G.D l=0
 ·rw [if_pos h0]at hK
  refine Split.no (by simp [h0]) ?_;have fc:l≠ []:=fun e=>by unfold mC at h0;rw [if_pos e]at h0;cases h0
  have fY: ∀x∈l,x∈ids G.D:=fun x hx=>by
   unfold mC at h0;rw [if_neg fc]at h0;by_cases VF:x∈ids G.D
   ·exact VF
   ·rw [if_pos ⟨x,hx,VF⟩]at h0;cases h0
  refine zM (h.same mr) (hl.same mr) fc hn fY fun w3 k3=>⟨_,rfl,?_⟩;obtain⟨f1,f2,f3⟩:=jQ (bH G l) (k3.heap jw (fun h=>h)) rfl;rw [h0]at hK;exact⟨f1,_,⟨tF _,Cells.bC f2⟩,hK _ ((mr.trans k3 (fun _ _ h=>h)).trans f3 (fun j hj e=>by omega))⟩
 ·rw [if_neg h0]at hK
  refine Split.yes (by simpa using h0) ?_;obtain⟨f1,f2,f3⟩:=jQ bI jw rfl;exact⟨f1,_,⟨tF _,Cells.bC f2⟩,hK _ (mr.trans f3 (fun j hj e=>by omega))⟩
end
end Go.Proofs.YtnboahlopghcjaaGreatDoor
namespace Go.Proofs.YtnboahlopghcjaaGreatDoor
open Go.Proofs.Tryz
open Go Go.bp Go.RowKit
abbrev SR(w:World)(B b n cx:Nat)(d:Array HT):Prop:=bQ w B (some ⟨b,0,none⟩) n cx d.toList
section
variable{w w':World}{B b n cx:Nat}{d:Array HT}
theorem SR.size(h:SR w B b n cx d):d.size=n:=by have:=bQ.len h;simpa using this
theorem qe(d:Array HT)(i j:Nat)(hi:i<d.size)(hj:j<d.size):(Sort.swp d i j).toList=(d.toList.set i d[j]!).set j d[i]! :=by
 unfold Sort.swp;simp
structure SE(w:World)(F:Nat->Prop)(c k:Nat)(G:GS)(m:CM)(B b n cx:Nat)(d:Array HT):Prop where
 C:CV w F c k G m
 row:SR w B b n cx d
 mem: ∀x∈d.toList,x∈ids G.D
 own: ¬m.own c b/\ ¬F b
variable{F:Nat->Prop}{c k:Nat}{G:GS}{m:CM}
theorem SE.same(h:SE w F c k G m B b n cx d)(hk:Kept Nil w w'):SE w' F c k G m B b n cx d:=⟨h.C.same hk,Row.aG h.row hk (fun _ _ h=>h),h.mem,h.own⟩
theorem SE.get(h:SE w F c k G m B b n cx d){i:Nat}(hi:i<n):d[i]! ∈ids G.D/\Cells w ((⟨b,0,none⟩:Addr).add (i*32)) d[i]!.1:=by
 have hs:=SR.size h.row;have e:d.toList[i]? =some d[i]! :=by simp [hs,hi]
 refine⟨h.mem _ (List.mem_of_getElem? e),?_⟩;obtain⟨a,h1,_,h3⟩:=(bQ.hs h.row).at_ i _ e;cases h1;exact h3
theorem SE.swap(h:SE w F c k G m B b n cx d){i j:Nat}(hi:i<n)(hj:j<n):
 ((d[j]!.1.size=32/\(∀a∈d[j]!.1.toList,a.oneCell'=true)/\ ∀q,q<32->Wr w (((⟨b,0,none⟩:Addr).add (i*32)).add q))/\
   d[i]!.1.size=32/\(∀a∈d[i]!.1.toList,a.oneCell'=true)/\ ∀q,q<32->Wr (setCells w ((⟨b,0,none⟩:Addr).add (i*32)) d[j]!.1.toList 0) (((⟨b,0,none⟩:Addr).add (j*32)).add q))/\
 SE (setCells (setCells w ((⟨b,0,none⟩:Addr).add (i*32)) d[j]!.1.toList 0) ((⟨b,0,none⟩:Addr).add (j*32)) d[i]!.1.toList 0) F c k G m B b n cx (Sort.swp d i j)/\
 Kept (· =b) w (setCells (setCells w ((⟨b,0,none⟩:Addr).add (i*32)) d[j]!.1.toList 0) ((⟨b,0,none⟩:Addr).add (j*32)) d[i]!.1.toList 0):=by
 have hs:=SR.size h.row;have gi:=h.get hi;have gj:=h.get hj;simp only [a7,Nat.zero_add];have r1:=bQ.setAt h.row hi d[j]!;have r2:=bQ.setAt r1 hj d[i]!;have kp:=(eU (b:=b) d[j]!.1.toList w (i*32) 0).trans (eU (b:=b) d[i]!.1.toList (setCells w ⟨b,i*32,none⟩ d[j]!.1.toList 0) (j*32) 0) (fun _ _ h=>h);refine⟨⟨⟨d[j]!.2.1,d[j]!.2.one,fun q hq=>?_⟩,d[i]!.2.1,d[i]!.2.one,fun q hq=>?_⟩,⟨h.C.aG kp (fun q hq e=>h.own.1 (by rw [<-e];exact hq)) (fun q hq e=>h.own.2 (by rw [<-e];exact hq)),?_,?_,h.own⟩,kp⟩
 ·have:=bQ.GH h.row hi q hq
  rwa [a7]at this
 ·have:=bQ.GH r1 hj q hq
  rwa [a7]at this
 ·show bQ _ _ _ _ _ (Sort.swp d i j).toList
  rw [qe d i j (by omega) (by omega)];exact r2
 ·intro x hx
  rw [qe d i j (by omega) (by omega)]at hx;rcases List.mem_or_eq_of_mem_set hx with hx|rfl
  ·rcases List.mem_or_eq_of_mem_set hx with hx|rfl
   ·exact h.mem x hx
   ·exact gj.1
  ·exact gi.1
end
end Go.Proofs.YtnboahlopghcjaaGreatDoor
namespace Go.Proofs.YtnboahlopghcjaaGreatDoor
open Go.Proofs.Tryz
open Go Go.bp Go.RowKit
section
variable{w w':World}{B b n cx:Nat}{d:Array HT}{F:Nat->Prop}{c k:Nat}{G:GS}{m:CM}{K:Value->World->Prop}
theorem yV(h:SE w F c k G m B b n cx d){x y:Nat}(mE:x<=y)(hy:y<=n)(hn:n<=1000000)
 (hK: ∀w',SE w' F c k G m B b n cx (Sort.insertionSort (gl G) d x y)->Kept (· =b) w w'->K (.tuple #[]) w'):
 aY prog fL.id #[.slice (some ⟨b,0,none⟩) n cx,.int .i64 (x:Int),.int .i64 (y:Int),.func (.func aS.id) #[.pointer (some ⟨c,0,none⟩)] #[]] w K:=by
 refine bz.of ?_;unfold bz.W;rw [e8 (n:=(x:Int)) (by omega) (by omega)];refine bz.bU (I:=fun s v=> ∃(i:Nat) (dk:Array HT),s=(i:Int)/\x<i/\i<=y+1/\SE v F c k G m B b n cx dk/\Sort.insOuter (gl G) x y i dk=Sort.insertionSort (gl G) d x y/\Kept (· =b) w v) (μ:=fun s _=>((y:Int)+1-s).toNat) (s:=(x:Int)+1) ⟨x+1,d,rfl,by omega,by omega,h,rfl,Kept.refl _ _⟩ ?_;rintro s v ⟨i,dk,rfl,JF,Wn,hv,ho,kv⟩;refine Split.dec (fun ck=>?_) (fun iy=>?_)
 ·have ck:i<y:=by omega
  rw [Sort.insOuter,if_pos ck]at ho;refine bz.gz (I:=fun s v=> ∃(j:Nat) (dj:Array HT),s=(j:Int)/\j<=i/\SE v F c k G m B b n cx dj/\Sort.insInner (gl G) x j dj=Sort.insInner (gl G) x i dk/\Kept (· =b) w v) (μ:=fun s _=>s.toNat) (s:=(i:Int)) ⟨i,dk,rfl,Nat.le_refl _,hv,rfl,kv⟩ ?_;rintro s u ⟨j,dj,rfl,Dh,hu,fY,ku⟩;unfold bz.B2;intro w3;have k3:Kept Nil u w3:=(Kept.refl _ _).drew;clear_value w3;have stop: ∀ {u':World},SE u' F c k G m B b n cx dj->Kept (· =b) w u'->Sort.insInner (gl G) x j dj=dj->bz.iS (some ⟨b,0,none⟩) n cx (x:Int) (y:Int) (some ⟨c,0,none⟩) (i:Int) (j:Int) (bF (bz.e1 (some ⟨b,0,none⟩) n cx (x:Int) (y:Int) (some ⟨c,0,none⟩)) (fun s v=> ∃(i:Nat) (dk:Array HT),s=(i:Int)/\x<i/\i<=y+1/\SE v F c k G m B b n cx dk/\Sort.insOuter (gl G) x y i dk=Sort.insertionSort (gl G) d x y/\Kept (· =b) w v) (fun s _=>((y:Int)+1-s).toNat) (i:Int) v (bz.q1 K)) u':=fun Eg OR e=>by
   unfold bz.iS;rw [e8 (n:=(i:Int)) (by omega) (by omega)];exact⟨(i:Int)+1,rfl,⟨i+1,dj,rfl,by omega,by omega,Eg,by rw [<-ho,<-fY,e],OR⟩,by simp only;omega⟩
  have LI:=hu.same k3;have Lc:Kept (· =b) w w3:=ku.trans k3 (fun _ _ h=>h.elim);refine Split.dec (fun ZV=>?_) (fun ZV=>?_)
  ·have hj0:0<j:=by omega
   have ew:IntKind.i64.wrap ((j:Int)-(1:Int))=((j-1:Nat):Int):=by
    rw [gu (by omega) (by omega)];omega
   rw [ew];have g1:=LI.get (i:=j) (by omega);have g2:=LI.get (i:=j-1) (by omega);refine⟨⟨by omega,by omega⟩,dj[j]!.1,⟨dj[j]!.2.1,by rw [Int.toNat_natCast];exact g1.2⟩,⟨by omega,by omega⟩,dj[j-1]!.1,⟨dj[j-1]!.2.1,by rw [Int.toNat_natCast];exact g2.2⟩,?_⟩;refine lT LI.C g1.1 g2.1 fun w4 k4=>⟨_,rfl,?_⟩;have VN:=LI.same k4;have Lb:Kept (· =b) w w4:=Lc.trans k4 (fun _ _ h=>h.elim);have ej: ∃j',j=j'+1:=⟨j-1,by omega⟩;refine Split.dec (fun R8=>?_) (fun Sm=>?_)
   ·have It:=tP.1 R8
    intro w5;have k5:Kept Nil w4 w5:=(Kept.refl _ _).drew;clear_value w5;have Q6:=VN.same k5;have OQ:Kept (· =b) w w5:=Lb.trans k5 (fun _ _ h=>h.elim);have f1:=Q6.get (i:=j) (by omega);have f2:=Q6.get (i:=j-1) (by omega);obtain⟨⟨t1,t2⟩,t3,t4⟩:=Q6.swap (i:=j) (j:=j-1) (by omega) (by omega);simp only [Int.toNat_natCast];refine⟨⟨by omega,by omega⟩,dj[j-1]!.1,⟨dj[j-1]!.2.1,f2.2⟩,⟨by omega,by omega⟩,dj[j]!.1,⟨dj[j]!.2.1,f1.2⟩,⟨by omega,by omega⟩,t1,⟨by omega,by omega⟩,t2,?_⟩;refine⟨((j-1:Nat):Int),rfl,⟨j-1,Sort.swp dj j (j-1),rfl,by omega,t3,?_,OQ.trans t4 (fun _ _ h=>h)⟩,by simp only;omega⟩;obtain⟨j',rfl⟩:=ej;rw [<-fY];show _=Sort.insInner (gl G) x (j'+1) dj
    rw [Sort.insInner,if_pos (by simp only [Bool.and_eq_true,decide_eq_true_eq];exact⟨by omega,It⟩)];rfl
   ·rw [aP,bz.jI]
    refine stop VN Lb ?_;have It:gl G dj[j]! dj[j-1]! =false:=by
     cases hg:gl G dj[j]! dj[j-1]!
     ·rfl
     ·exact absurd (tP.2 hg) Sm
    obtain⟨j',rfl⟩:=ej;rw [Sort.insInner,if_neg (by simp only [Bool.and_eq_true,decide_eq_true_eq];intro e;have:=e.2;rw [show j'+1-1=j' from rfl]at It;rw [It]at this;cases this)]
  ·rw [aP,bz.jI]
   refine stop LI Lc ?_;cases j with
   |zero=>rfl
   |succ j'=>rw [Sort.insInner,if_neg (by simp only [Bool.and_eq_true,decide_eq_true_eq];intro e;have:=e.1;omega)]
 ·rw [aP,bz.dD]
  unfold bz.cW;rw [Sort.insOuter,if_neg (by omega)]at ho;rw [ho]at hv;exact hK v hv kv
end
end Go.Proofs.YtnboahlopghcjaaGreatDoor
namespace Go.Proofs.YtnboahlopghcjaaGreatDoor
open Go.Proofs.Tryz
open Go Go.bp Go.RowKit
theorem wN{x:Int}{i:Nat}(h:x=(i:Int))(hi:i<4000000):IntKind.i64.wrap x=(i:Int):=by rw [gu (by omega) (by omega),h]
theorem qU(G:GS):Sort.SWO (gl G) where
 irrefl:=jR G
 trans:=fun _ _ _=>og
 ntrans:=fun x y z h1 h2=>by
  cases h:gl G x z
  ·rfl
  ·exfalso
   cases h3:gl G y x
   ·have:=oh h1 h3
    subst this;rw [h2]at h;cases h
   ·rw [og h3 h]at h2;cases h2
section
variable{w w':World}{B b n cx:Nat}{d:Array HT}{F:Nat->Prop}{c k:Nat}{G:GS}{m:CM}{K:Value->World->Prop}
theorem SE.cmp(h:SE w F c k G m B b n cx d){x y:Int}{i j:Nat}(hx:x=(i:Int))(hy:y=(j:Int))(hi:i<n)(hj:j<n){Z:Int->World->Prop}
 (hK: ∀r w',SE w' F c k G m B b n cx d->Kept Nil w w'->(r<0↔gl G d[i]! d[j]! =true)->Z r w'):
 (0<=x/\x<(n:Int))/\Is (some (⟨b,0,none⟩:Addr)) fun a:Addr=> ∃t:Array Value,(t.size=32/\Cells w (a.add (x.toNat*32)) t)/\(0<=y/\y<(n:Int))/\Is (some (⟨b,0,none⟩:Addr)) fun a:Addr=> ∃u:Array Value,(u.size=32/\Cells w (a.add (y.toNat*32)) u)/\
   aY prog aS.id #[.pointer (some ⟨c,0,none⟩),.agg t,.agg u] w fun q r=> ∃t:Int,q=.int .i64 t/\Z t r:=by
 subst hx hy;have g1:=h.get hi;have g2:=h.get hj;refine⟨⟨by omega,by omega⟩,Is.mk rfl ⟨d[i]!.1,⟨d[i]!.2.1,by rw [Int.toNat_natCast];exact g1.2⟩,⟨by omega,by omega⟩,Is.mk rfl ⟨d[j]!.1,⟨d[j]!.2.1,by rw [Int.toNat_natCast];exact g2.2⟩,?_⟩⟩⟩;exact lT h.C g1.1 g2.1 fun w4 k4=>⟨_,rfl,hK _ w4 (h.same k4) k4 tP⟩
theorem SE.sw(h:SE w F c k G m B b n cx d){x y:Int}{i j:Nat}(hx:x=(i:Int))(hy:y=(j:Int))(hi:i<n)(hj:j<n):
 ((0<=y/\y<(n:Int))/\(d[j]!.1.size=32/\Cells w ((⟨b,0,none⟩:Addr).add (y.toNat*32)) d[j]!.1)/\(0<=x/\x<(n:Int))/\(d[i]!.1.size=32/\Cells w ((⟨b,0,none⟩:Addr).add (x.toNat*32)) d[i]!.1)/\
   (d[j]!.1.size=32/\(∀a∈d[j]!.1.toList,a.oneCell'=true)/\ ∀q,q<32->Wr w (((⟨b,0,none⟩:Addr).add (x.toNat*32)).add q))/\
   d[i]!.1.size=32/\(∀a∈d[i]!.1.toList,a.oneCell'=true)/\ ∀q,q<32->Wr (setCells w ((⟨b,0,none⟩:Addr).add (x.toNat*32)) d[j]!.1.toList 0) (((⟨b,0,none⟩:Addr).add (y.toNat*32)).add q))/\
 SE (setCells (setCells w ((⟨b,0,none⟩:Addr).add (x.toNat*32)) d[j]!.1.toList 0) ((⟨b,0,none⟩:Addr).add (y.toNat*32)) d[i]!.1.toList 0) F c k G m B b n cx (Sort.swp d i j)/\
 Kept (· =b) w (setCells (setCells w ((⟨b,0,none⟩:Addr).add (x.toNat*32)) d[j]!.1.toList 0) ((⟨b,0,none⟩:Addr).add (y.toNat*32)) d[i]!.1.toList 0):=by
 subst hx hy;obtain⟨⟨t1,t2⟩,t3,t4⟩:=h.swap hi hj;have f1:=h.get hi;have f2:=h.get hj;rw [Int.toNat_natCast,Int.toNat_natCast];exact⟨⟨⟨by omega,by omega⟩,⟨d[j]!.2.1,f2.2⟩,⟨by omega,by omega⟩,⟨d[i]!.2.1,f1.2⟩,t1,t2⟩,t3,t4⟩
theorem SE.jb(h:SE w F c k G m B b n cx d){q:Nat}(hk:Kept (· =q) w w')(jb: ¬m.own c q/\ ¬F q/\q≠b):SE w' F c k G m B b n cx d:=
 ⟨h.C.aG hk (fun j hj e=>jb.1 (by rw [<-e];exact hj)) (fun j hj e=>jb.2.1 (by rw [<-e];exact hj)),Row.aG h.row hk (fun j hj e=>by cases hj;exact jb.2.2 e.symm),h.mem,h.own⟩
theorem SE.lt(h:SE w F c k G m B b n cx d):b<w.heap.size:=by
 obtain⟨_,cur,tG⟩:=Row.bC h.row (k:=b) rfl;exact aQ tG
theorem SE.fresh(h:SE w F c k G m B b n cx d){q:Nat}(hq:w.heap.size<=q): ¬m.own c q/\ ¬F q/\q≠b:=
 ⟨fun e=>by have:=h.C.low q (.inl e);omega,fun e=>by have:=h.C.low q (.inr e);omega,fun e=>by have:=h.lt;omega⟩
theorem yP(h:SE w F c k G m B b n cx d){x y:Nat}(mE:x<y)(hy:y<=n)(hn:n<=1000000)
 (hK: ∀d' w',SE w' F c k G m B b n cx d'->Sort.PermIn x y d d'->Kept (· =b) w w'->K (.tuple #[]) w'):
 aY prog fN.id #[.slice (some ⟨b,0,none⟩) n cx,.int .i64 (x:Int),.int .i64 (y:Int),.func (.func aS.id) #[.pointer (some ⟨c,0,none⟩)] #[]] w K:=by
 refine cS.of ?_;unfold cS.W;rw [wN (i:=y-1) (by omega) (by omega)];refine cS.bU (I:=fun s v=> ∃(i j:Nat) (dk:Array HT),s=((i:Int),(j:Int))/\x<=i/\j<y/\SE v F c k G m B b n cx dk/\Sort.PermIn x y d dk/\Kept (· =b) w v) (μ:=fun s _=>(s.2+1-s.1).toNat) (s:=((x:Int),((y-1:Nat):Int))) ⟨x,y-1,d,rfl,Nat.le_refl _,by omega,h,Sort.permIn_refl _ _ _,Kept.refl _ _⟩ ?_;rintro s v ⟨i,j,dk,rfl,hi,hj,hv,hp,kv⟩;unfold cS.B1;refine Split.dec (fun ck=>?_) (fun iy=>?_)
 ·simp only at ck
  have ck:i<j:=by omega
  intro w3;have k3:Kept Nil v w3:=(Kept.refl _ _).drew;clear_value w3;have h3:=hv.same k3;have hs:=SR.size h3.row;obtain⟨⟨a1,a2,a3,a4,a5,a6⟩,h5,k5⟩:=h3.sw (x:=(i:Int)) (y:=(j:Int)) rfl rfl (by omega) (by omega);refine⟨a1,_,a2,a3,_,a4,a3,a5,a1,a6,?_⟩;simp only;rw [wN (x:=(i:Int)+1) (i:=i+1) (by omega) (by omega),wN (x:=(j:Int)-1) (i:=j-1) (by omega) (by omega)];refine⟨(((i+1:Nat):Int),((j-1:Nat):Int)),rfl,⟨i+1,j-1,_,rfl,by omega,by omega,h5,?_,(kv.trans k3 (fun _ _ h=>h.elim)).trans k5 (fun _ _ h=>h)⟩,by simp only;omega⟩;exact Sort.permIn_trans _ _ _ x y hp (Sort.swp_permIn dk x y i j hi (by omega) (by omega) (by omega) (by omega))
 ·rw [aP,cS.dD]
  exact hK dk v hv hp kv
def GC(w:World)(q:Nat):Prop:= ∃(u:Int) (t:TypeId),w.heap[q]? =some (.cells #[.int .i64 u] t (0,0))
theorem GC.aG{S:Nat->Prop}{q:Nat}(h:GC w q)(hk:Kept S w w')(hS: ¬S q):GC w' q:=by
 obtain⟨u,t,h⟩:=h;exact⟨u,t,hk.heap h hS⟩
theorem oG(h:SE w F c k G m B b n cx d){x y q:Nat}(hx:x<n)(hy:y<n)(hq:GC w q)(jb: ¬m.own c q/\ ¬F q/\q≠b)
 (hK: ∀(x' y':Nat) w',((x'=x/\y'=y)\/(x'=y/\y'=x))->SE w' F c k G m B b n cx d->GC w' q->Kept (· =q) w w'->K (.tuple #[.int .i64 (x':Int),.int .i64 (y':Int)]) w'):
 aY prog gX.id #[.slice (some ⟨b,0,none⟩) n cx,.int .i64 (x:Int),.int .i64 (y:Int),.pointer (some ⟨q,0,none⟩),.func (.func aS.id) #[.pointer (some ⟨c,0,none⟩)] #[]] w K:=by
 refine oH.of ?_;unfold oH.W;intro w3;have k3:Kept Nil w w3:=(Kept.refl _ _).drew;clear_value w3;refine(h.same k3).cmp (i:=y) (j:=x) rfl rfl hy hx fun r w4 h4 k4 _=>?_;obtain⟨u,t,h0⟩:=(hq.aG k3 (fun h=>h)).aG k4 (fun h=>h);have pV:=k3.trans k4 (fun _ _ h=>h);refine Split.dec (fun _=>?_) (fun _=>hK x y w4 (.inl ⟨rfl,rfl⟩) h4 ⟨u,t,h0⟩ (pV.mono fun _ _ h=>h.elim));refine Is.mk rfl ⟨u,by rw [az h0];rfl,Is.mk rfl ⟨dE h0 (by simp),?_⟩⟩;intro w5;have e5:w5.heap[q]? =some (.cells #[.int .i64 (IntKind.i64.wrap (u+1))] t (0,0)):=by
  show(w4.setCell ⟨q,0,none⟩ _).heap[q]? =_;rw [cQ h0 0];rfl
 have k5:Kept (· =q) w4 w5:=Kept.setCell (S:=(· =q)) (Kept.refl _ w4) (p:=⟨q,0,none⟩) (fun _=>rfl) _;clear_value w5;exact hK y x w5 (.inr ⟨rfl,rfl⟩) (h4.jb k5 jb) ⟨_,_,e5⟩ ((pV.mono fun _ _ h=>h.elim).trans k5 (fun _ _ h=>h))
theorem yU(h:SE w F c k G m B b n cx d){x y z q:Nat}{p:Nat->Prop}(hx:p x)(hy:p y)(hz:p z)(hp: ∀i,p i->i<n)(hq:GC w q)(jb: ¬m.own c q/\ ¬F q/\q≠b)
 (hK: ∀(r:Nat) w',p r->SE w' F c k G m B b n cx d->GC w' q->Kept (· =q) w w'->K (.int .i64 (r:Int)) w'):
 aY prog gY.id #[.slice (some ⟨b,0,none⟩) n cx,.int .i64 (x:Int),.int .i64 (y:Int),.int .i64 (z:Int),.pointer (some ⟨q,0,none⟩),.func (.func aS.id) #[.pointer (some ⟨c,0,none⟩)] #[]] w K:=by
 refine oI.of ?_;unfold oI.W;have two: ∀ {x y x' y':Nat},p x->p y->((x'=x/\y'=y)\/(x'=y/\y'=x))->p x'/\p y':=fun hx hy e=>by
  rcases e with⟨rfl,rfl⟩|⟨rfl,rfl⟩
  ·exact⟨hx,hy⟩
  ·exact⟨hy,hx⟩
 refine oG h (hp _ hx) (hp _ hy) hq jb fun x1 y1 w1 e1 h1 c1 k1=>⟨_,_,rfl,?_⟩;obtain⟨UZ,UX⟩:=two hx hy e1;refine oG h1 (hp _ UX) (hp _ hz) c1 jb fun x2 y2 w2 e2 h2 c2 k2=>⟨_,_,rfl,?_⟩;obtain⟨UY,_⟩:=two UX hz e2;refine oG h2 (hp _ UZ) (hp _ UY) c2 jb fun x3 y3 w3 e3 h3 c3 k3=>⟨_,_,rfl,?_⟩;exact hK y3 w3 (two UZ UY e3).2 h3 c3 ((k1.trans k2 (fun _ _ h=>h)).trans k3 (fun _ _ h=>h))
theorem yQ(h:SE w F c k G m B b n cx d){x y:Nat}(mE:x+12<y)(hy:y<=n)(hn:n<50)
 (hK: ∀(r:Nat) (t:Int) w',x<=r->r<y->SE w' F c k G m B b n cx d->Kept Nil w w'->K (.tuple #[.int .i64 (r:Int),.int .i64 t]) w'):
 aY prog fZ.id #[.slice (some ⟨b,0,none⟩) n cx,.int .i64 (x:Int),.int .i64 (y:Int),.func (.func aS.id) #[.pointer (some ⟨c,0,none⟩)] #[]] w K:=by
 refine oF.of ?_;unfold oF.W;intro w3;have k3:Kept Nil w w3:=(Kept.refl _ _).alloc _;have hc:GC w3 w.heap.size:=⟨_,_,aN w _⟩;clear_value w3;have e4: ∀L:Nat,((L:Nat):Int).tdiv 4=((L/4:Nat):Int):=fun _=>rfl;have f4:(y-x)/4<=20:=by omega
 have g4:(y-x)/4*3+x<y:=by omega
 rw [wN (x:=(y:Int)-x) (i:=y-x) (by omega) (by omega),e4];generalize (y-x)/4=q at f4 g4;rw [wN (x:=((q:Nat):Int)) (i:=q) rfl (by omega),wN (x:=((q:Nat):Int)*1) (i:=q) (by omega) (by omega),wN (x:=((q:Nat):Int)*2) (i:=q*2) (by omega) (by omega),wN (x:=((q:Nat):Int)*3) (i:=q*3) (by omega) (by omega),
  wN (x:=(x:Int)+((q:Nat):Int)) (i:=x+q) (by omega) (by omega),wN (x:=(x:Int)+((q*2:Nat):Int)) (i:=x+q*2) (by omega) (by omega),wN (x:=(x:Int)+((q*3:Nat):Int)) (i:=x+q*3) (by omega) (by omega)]
 refine⟨by decide,by decide,by decide,Split.yes (decide_eq_true (by omega)) (Split.no (decide_eq_false (by omega)) ?_)⟩;have hf:=h.fresh (Nat.le_refl _);refine yU (h.same k3) (p:=fun i=>x<=i/\i<y) ⟨by omega,by omega⟩ ⟨by omega,by omega⟩ ⟨by omega,by omega⟩ (fun i hi=>by omega) hc hf fun r w4 hr h4 c4 k4=>⟨_,rfl,?_⟩;obtain⟨u,t,h0⟩:=c4;have pV:Kept Nil w w4:=k3.trans k4 (fun j hj e=>by omega);refine⟨u,by rw [az h0];rfl,Split.mk (fun _=>hK r _ w4 hr.1 hr.2 h4 pV) fun _=>Split.mk (fun _=>hK r _ w4 hr.1 hr.2 h4 pV) fun _=>hK r _ w4 hr.1 hr.2 h4 pV⟩
end
end Go.Proofs.YtnboahlopghcjaaGreatDoor
namespace Go.Proofs.YtnboahlopghcjaaGreatDoor
open Go.Proofs.Tryz
open Go Go.bp Go.RowKit
theorem zV(x M:Nat)(hM0:1<=M)(hM:M<4000000): ∃O:Nat,O<M/\IntKind.i64.wrap (IntKind.u64.wrap (((BitVec.ofInt 64 (x:Int)&&& BitVec.ofInt 64 (IntKind.u64.wrap ((M:Int)-(1:Int)))).toNat:Nat):Int))=(O:Int):=by
 have e1:IntKind.u64.wrap ((M:Int)-(1:Int))=((M-1:Nat):Int):=by
  rw [show(M:Int)-1=((M-1:Nat):Int)by omega];exact iC (by omega)
 rw [e1];have hle:(BitVec.ofInt 64 (x:Int)&&& BitVec.ofInt 64 ((M-1:Nat):Int)).toNat<=M-1:=by
  rw [BitVec.toNat_and,BitVec.ofInt_natCast (n:=M-1),BitVec.toNat_ofNat,Nat.mod_eq_of_lt (a:=M-1) (by omega)];exact Nat.and_le_right
 generalize (BitVec.ofInt 64 (x:Int)&&& BitVec.ofInt 64 ((M-1:Nat):Int)).toNat=O at hle;exact⟨O,by omega,by rw [iC (by omega)];exact gu (by omega) (by omega)⟩
section
variable{w w':World}{B b n cx:Nat}{d:Array HT}{F:Nat->Prop}{c k:Nat}{G:GS}{m:CM}{K:Value->World->Prop}
theorem yO{q X:Nat}{t:TypeId}(hX:X<18446744073709551616)(hq:w.heap[q]? =some (.cells #[.int .u64 (X:Int)] t (0,0)))
 (hK: ∀(X':Nat) w',X'<18446744073709551616->w'.heap[q]? =some (.cells #[.int .u64 (X':Int)] t (0,0))->Kept (· =q) w w'->K (.int .u64 (X':Int)) w'):
 aY prog lx.id #[.pointer (some ⟨q,0,none⟩)] w K:=by
 have h:=AnyF.xorshift_Next (P:=prog) (ρ:=Tryz.mh) {Tryz.sy with} q 0 X hX w (by rw [az hq];rfl) (dE hq (by simp)).2;refine Calls.mono h ?_;rintro e w' ⟨rfl,rfl⟩;refine⟨_,rfl,hK _ _ (Sort.xorNextN_lt X hX) ?_ ?_⟩
 ·show(w.setCell ⟨q,0,none⟩ _).heap[q]? =_
  rw [cQ hq 0];rfl
 ·exact(((Kept.setCell (S:=(· =q)) (Kept.refl _ w) (p:=⟨q,0,none⟩) (fun _=>rfl) _).drew).drew).drew
theorem yW(h:SE w F c k G m B b n cx d){x y:Nat}(mE:x+12<y)(hy:y<=n)(hn:n<=1000000)
 (hK: ∀d' w',SE w' F c k G m B b n cx d'->Sort.PermIn x y d d'->Kept (· =b) w w'->K (.tuple #[]) w'):
 aY prog fM.id #[.slice (some ⟨b,0,none⟩) n cx,.int .i64 (x:Int),.int .i64 (y:Int),.func (.func aS.id) #[.pointer (some ⟨c,0,none⟩)] #[]] w K:=by
 refine cU.of ?_;unfold cU.W;have e4: ∀L:Nat,((L:Nat):Int).tdiv 4=((L/4:Nat):Int):=fun _=>rfl;obtain⟨L,hL,g12⟩: ∃L:Nat,y=x+L/\12<L:=⟨y-x,by omega,by omega⟩;subst hL;rw [wN (x:=((x+L:Nat):Int)-(x:Int)) (i:=L) (by omega) (by omega)];refine Split.yes (decide_eq_true (by omega)) ?_;intro w3;have k3:Kept Nil w w3:=(Kept.refl _ _).alloc _;obtain⟨tx,nD⟩: ∃t:TypeId,w3.heap[w.heap.size]? =some (.cells #[.int .u64 0] t (0,0)):=⟨_,aN w _⟩;clear_value w3;refine⟨dE nD (by simp),?_⟩;intro w4;have vU:w4.heap[w.heap.size]? =some (.cells #[.int .u64 ((L:Nat):Int)] tx (0,0)):=by
  show(w3.setCell ⟨w.heap.size,0,none⟩ _).heap[w.heap.size]? =_;rw [cQ nD 0,iC (by omega)];rfl
 have k4:Kept (· =w.heap.size) w3 w4:=Kept.setCell (S:=(· =w.heap.size)) (Kept.refl _ w3) (p:=⟨w.heap.size,0,none⟩) (fun _=>rfl) _;clear_value w4;have pV:Kept Nil w w4:=k3.trans k4 (fun j hj e=>by omega);have hf:=h.fresh (Nat.le_refl _);have h4:=h.same pV;refine Calls.mono (AnyF.nextPowerOfTwo (P:=prog) (ρ:=Tryz.mh) {Tryz.sy with} L (by omega) w4) ?_;rintro e w5 ⟨rfl,rfl⟩;have hM:=Sort.two_pow_bitsLen_le (n:=L) (by omega);have WQ:1<=2 ^ Sort.bitsLen L:=Nat.two_pow_pos _;rw [Nat.one_shiftLeft];generalize 2 ^ Sort.bitsLen L=M at hM WQ;have g4:1<=L/4/\L/4*2+1<L:=by omega
 refine⟨_,rfl,(M:Int),rfl,by decide,?_⟩;have ei: ∀t:Nat,t<=1->True:=fun _ _=>trivial;rw [e4,wN (x:=((L/4:Nat):Int)) (i:=L/4) rfl (by omega),wN (x:=((L/4:Nat):Int)*2) (i:=L/4*2) (by omega) (by omega),wN (x:=(x:Int)+((L/4*2:Nat):Int)) (i:=x+L/4*2) (by omega) (by omega),wN (x:=((x+L/4*2:Nat):Int)-1) (i:=x+L/4*2-1) (by omega) (by omega)];refine cU.bU (I:=fun s v=> ∃(i X:Nat) (dk:Array HT),s=(i:Int)/\x<=i/\i<=x+L/4*2+2/\X<18446744073709551616/\v.heap[w.heap.size]? =some (.cells #[.int .u64 (X:Int)] tx (0,0))/\SE v F c k G m B b n cx dk/\Sort.PermIn x (x+L) d dk/\Kept (· =b) w v) (μ:=fun s _=>(((x+L/4*2+2:Nat):Int)-s).toNat) (s:=((x+L/4*2-1:Nat):Int)) ⟨x+L/4*2-1,L,d,rfl,by omega,by omega,by omega,vU,h4,Sort.permIn_refl _ _ _,pV.mono fun _ _ h=>h.elim⟩ ?_;rintro s v ⟨i,X,dk,rfl,hi,Cl,hX,IF,hv,hp,kv⟩;unfold cU.B1;rw [e4,wN (x:=((L/4:Nat):Int)) (i:=L/4) rfl (by omega),wN (x:=((L/4:Nat):Int)*2) (i:=L/4*2) (by omega) (by omega),wN (x:=(x:Int)+((L/4*2:Nat):Int)) (i:=x+L/4*2) (by omega) (by omega),wN (x:=((x+L/4*2:Nat):Int)+1) (i:=x+L/4*2+1) (by omega) (by omega)];refine⟨by decide,Split.dec (fun hle=>?_) (fun iy=>?_)⟩
 ·have eI:i<=x+L/4*2+1:=by omega
  refine yO hX IF fun X' w6 hX' oV k6=>⟨(X':Int),rfl,?_⟩;obtain⟨O,hO,eO⟩:=zV X' M WQ (by omega);rw [eO];have h6:=hv.jb k6 hf;have fin: ∀(j:Nat),j<L-> ∀ {u:World},Kept Nil w6 u->_:=fun j hj {u} ku=>(h6.same ku).sw (x:=(i:Int)) (y:=((x+j:Nat):Int)) (i:=i) (j:=x+j) rfl rfl (by omega) (by omega);have U3: ∀ {j:Nat} {u t:World},j<L->Kept Nil w6 u->SE t F c k G m B b n cx (Sort.swp dk i (x+j))->Kept (· =b) u t-> ∃s1:Int,IntKind.i64.wrap ((i:Int)+1)=s1/\(∃(i X:Nat) (dk:Array HT),s1=(i:Int)/\x<=i/\i<=x+L/4*2+2/\X<18446744073709551616/\t.heap[w.heap.size]? =some (.cells #[.int .u64 (X:Int)] tx (0,0))/\SE t F c k G m B b n cx dk/\Sort.PermIn x (x+L) d dk/\Kept (· =b) w t)/\(((x+L/4*2+2:Nat):Int)-s1).toNat<(((x+L/4*2+2:Nat):Int)-(i:Int)).toNat:=fun {j u t} hj ku ht kt=>by
   rw [wN (x:=(i:Int)+1) (i:=i+1) (by omega) (by omega)];have lP:=SR.size hv.row;exact⟨_,rfl,⟨i+1,X',_,rfl,by omega,by omega,hX',kt.heap (ku.heap oV (fun h=>h)) hf.2.2,ht,Sort.permIn_trans _ _ _ x (x+L) hp (Sort.swp_permIn dk x (x+L) i (x+j) hi (by omega) (by omega) (by omega) (by omega)),(((kv.trans k6 (fun j hj e=>by omega)).trans ku (fun _ _ h=>h.elim)).trans kt (fun _ _ h=>h))⟩,by omega⟩
  refine Split.dec (fun hOL=>?_) (fun hOL=>?_)
  ·rw [wN (x:=(O:Int)-(L:Int)) (i:=O-L) (by omega) (by omega),wN (x:=(x:Int)+((O-L:Nat):Int)) (i:=x+(O-L)) (by omega) (by omega)]
   intro w7;have k7:Kept Nil w6 w7:=(Kept.refl _ _).drew;clear_value w7;obtain⟨⟨a1,a2,a3,a4,a5,a6⟩,h5,k5⟩:=fin (O-L) (by omega) k7;refine⟨a1,_,a2,a3,_,a4,a3,a5,a1,a6,?_⟩;obtain⟨s1,e1,e2,e3⟩:=U3 (by omega) k7 h5 k5;simp only;rw [e1];exact⟨s1,rfl,e2,e3⟩
  ·rw [wN (x:=(x:Int)+(O:Int)) (i:=x+O) (by omega) (by omega)]
   intro w7;have k7:Kept Nil w6 w7:=(Kept.refl _ _).drew;clear_value w7;obtain⟨⟨a1,a2,a3,a4,a5,a6⟩,h5,k5⟩:=fin O (by omega) k7;refine⟨a1,_,a2,a3,_,a4,a3,a5,a1,a6,?_⟩;obtain⟨s1,e1,e2,e3⟩:=U3 (by omega) k7 h5 k5;simp only;rw [e1];exact⟨s1,rfl,e2,e3⟩
 ·rw [aP,cU.dD]
  exact hK dk v hv hp kv
theorem wi{d:Array HT}{x y:Nat}(h: ∀t,x<t->t<y->gl G d[t]! d[t-1]! =false):Sort.SortedIn (gl G) x y d:=by
 have key: ∀(r i:Nat),x<=i->i+r+1<y->gl G d[i+r+1]! d[i]! =false:=by
  intro r
  induction r with
  |zero=>intro i hi hy;exact h (i+1) (by omega) hy
  |succ r ih=>
   intro i hi hy;have h1:=h (i+(r+1)+1) (by omega) hy;have h2:=ih i hi (by omega);exact(qU G).ntrans _ _ _ h1 h2
 intro i j hi oe hj;have:=key (j-i-1) i hi (by omega)
 rwa [show i+(j-i-1)+1=j by omega]at this
theorem yR(h:SE w F c k G m B b n cx d){x y:Nat}(mE:x<y)(hy:y<=n)(hn:n<50)
 (hK: ∀(t:Bool) w',(t=true->Sort.SortedIn (gl G) x y d)->SE w' F c k G m B b n cx d->Kept Nil w w'->K (.bool t) w'):
 aY prog eT.id #[.slice (some ⟨b,0,none⟩) n cx,.int .i64 (x:Int),.int .i64 (y:Int),.func (.func aS.id) #[.pointer (some ⟨c,0,none⟩)] #[]] w K:=by
 refine aZ.of ?_;unfold aZ.W;rw [wN (x:=(x:Int)+1) (i:=x+1) (by omega) (by omega)];refine aZ.bU (I:=fun s v=>s=(false,((x+1:Nat):Int),0)/\v=w) (μ:=fun _ _=>0) (s:=(false,((x+1:Nat):Int),0)) ⟨rfl,rfl⟩ ?_;rintro s v ⟨rfl,rfl⟩;unfold aZ.B1;refine Split.yes (decide_eq_true (by simp only;omega)) ?_;refine aZ.gz (I:=fun s u=> ∃i:Nat,s=(i:Int)/\x<i/\i<=y/\(∀t,x<t->t<i->gl G d[t]! d[t-1]! =false)/\SE u F c k G m B b n cx d/\Kept Nil v u) (μ:=fun s _=>((y:Int)-s).toNat) (s:=((x+1:Nat):Int)) ⟨x+1,rfl,by omega,by omega,fun t h1 h2=>by omega,h,Kept.refl _ _⟩ ?_;rintro s u ⟨i,rfl,JF,Wn,Gq,hu,ku⟩;unfold aZ.B2;intro w3;have k3:Kept Nil u w3:=(Kept.refl _ _).drew;clear_value w3;have h3:=hu.same k3;have ph:=ku.trans k3 (fun _ _ h=>h);have stop: ∀ {t:World},SE t F c k G m B b n cx d->Kept Nil v t->(i=y->Sort.SortedIn (gl G) x y d)->aZ.iS (some ⟨b,0,none⟩) n cx (x:Int) (y:Int) (some ⟨c,0,none⟩) false (i:Int) 0 (bF (aZ.e1 (some ⟨b,0,none⟩) n cx (x:Int) (y:Int) (some ⟨c,0,none⟩)) (fun s Xz=>s=(false,((x+1:Nat):Int),0)/\Xz=v) (fun _ _=>0) (false,((x+1:Nat):Int),0) v (aZ.q1 K)) t:=fun {t} ht kt hs=>by
  unfold aZ.iS;by_cases he:i=y
  ·refine Split.yes (by rw [he];exact beq_self_eq_true _) ?_
   rw [fP];exact hK true t (fun _=>hs he) ht kt
  ·refine Split.no (beq_eq_false_iff_ne.2 (by omega)) ?_
   rw [wN (x:=(y:Int)-(x:Int)) (i:=y-x) (by omega) (by omega)];refine Split.yes (decide_eq_true (by omega)) ?_;rw [fP];exact hK false t (fun e=>by cases e) ht kt
 refine Split.dec (fun ck=>?_) (fun iy=>?_)
 ·have ck:i<y:=by omega
  rw [wN (x:=(i:Int)-1) (i:=i-1) (by omega) (by omega)];refine h3.cmp (i:=i) (j:=i-1) rfl rfl (by omega) (by omega) fun r w4 h4 k4 hr=>?_;have pV:=ph.trans k4 (fun _ _ h=>h);by_cases oS:r<0
  ·refine Split.no (by rw [decide_eq_true oS];rfl) ?_
   rw [aP,aZ.jI];exact stop h4 pV (fun e=>absurd e (by omega))
  ·refine Split.yes (by rw [decide_eq_false oS];rfl) ?_
   rw [wN (x:=(i:Int)+1) (i:=i+1) (by omega) (by omega)];refine⟨((i+1:Nat):Int),rfl,⟨i+1,rfl,by omega,by omega,fun t h1 h2=>?_,h4,pV⟩,by simp only;omega⟩;rcases Nat.lt_or_ge t i with h5|h5
   ·exact Gq t h1 h5
   ·obtain rfl:t=i:=by omega
    cases hg:gl G d[t]! d[t-1]!
    ·rfl
    ·exact absurd (hr.2 hg) oS
 ·rw [aP,aZ.jI]
  exact stop h3 ph (fun e=>wi (by subst e;exact Gq))
end
end Go.Proofs.YtnboahlopghcjaaGreatDoor
namespace Go.Proofs.YtnboahlopghcjaaGreatDoor
open Go.Proofs.Tryz
open Go Go.bp Go.RowKit
section
variable{w w':World}{B b n cx:Nat}{d:Array HT}{F:Nat->Prop}{c k:Nat}{G:GS}{m:CM}{K:Value->World->Prop}
theorem qg(h:SE w F c k G m B b n cx d){x y z:Nat}(JE:z+y<=n)(mE:x<=y)(hn:n<=1000000){lo:Int}
 (hK: ∀w',SE w' F c k G m B b n cx (Sort.siftDown (gl G) y z x d)->Kept (· =b) w w'->K (.tuple #[]) w'):
 aY prog gJ.id #[.slice (some ⟨b,0,none⟩) n cx,.int .i64 (x:Int),.int .i64 (y:Int),.int .i64 (z:Int),.func (.func aS.id) #[.pointer (some ⟨c,0,none⟩)] #[]] w K:=by
 refine bg.of ?_;unfold bg.W;refine bg.bU (I:=fun s v=> ∃(r:Nat) (dk:Array HT),s=(r:Int)/\r<=y/\SE v F c k G m B b n cx dk/\Sort.siftDown (gl G) y z r dk=Sort.siftDown (gl G) y z x d/\Kept (· =b) w v) (μ:=fun s _=>((y:Int)-s).toNat) (s:=(x:Int)) ⟨x,d,rfl,mE,h,rfl,Kept.refl _ _⟩ ?_;rintro s v ⟨r,dk,rfl,hr,hv,hs,kv⟩;unfold bg.B1;rw [wN (x:=2*(r:Int)) (i:=2*r) (by omega) (by omega),wN (x:=((2*r:Nat):Int)+1) (i:=2*r+1) (by omega) (by omega)];refine Split.dec (fun iy=>?_) (fun ck=>?_)
 ·rw [aP,bg.dD]
  rw [Sort.siftDown,dif_pos (show 2*r+1>=y by omega)]at hs;rw [hs]at hv;exact hK v hv kv
 have lR:2*r+1<y:=by omega
 rw [Sort.siftDown,dif_neg (by omega)]at hs;have fin: ∀(ch:Nat) {u:World},r<ch->ch<y->SE u F c k G m B b n cx dk->Kept Nil v u->(if(!gl G dk[z+r]! dk[z+ch]!)=true then dk else Sort.siftDown (gl G) y z ch (Sort.swp dk (z+r) (z+ch)))=Sort.siftDown (gl G) y z x d->
  bg.J1 (some ⟨b,0,none⟩) n cx (y:Int) (z:Int) (some ⟨c,0,none⟩) (r:Int) (ch:Int) (bF (bg.e1 (some ⟨b,0,none⟩) n cx (y:Int) (z:Int) (some ⟨c,0,none⟩)) (fun s v=> ∃(r:Nat) (dk:Array HT),s=(r:Int)/\r<=y/\SE v F c k G m B b n cx dk/\Sort.siftDown (gl G) y z r dk=Sort.siftDown (gl G) y z x d/\Kept (· =b) w v) (fun s _=>((y:Int)-s).toNat) (r:Int) v (bg.q1 K)) u:=fun ch {u} h1 h2 hu ku he=>by
  unfold bg.J1;rw [wN (x:=(z:Int)+(r:Int)) (i:=z+r) (by omega) (by omega),wN (x:=(z:Int)+(ch:Int)) (i:=z+ch) (by omega) (by omega)];intro w3;have k3:Kept Nil u w3:=(Kept.refl _ _).drew;clear_value w3;refine(hu.same k3).cmp (i:=z+r) (j:=z+ch) rfl rfl (by omega) (by omega) fun t w4 h4 k4 ht=>?_;have Bu:=kv.trans ((ku.trans k3 (fun _ _ h=>h)).trans k4 (fun _ _ h=>h)) (fun _ _ h=>h.elim);by_cases FH:t<0
  ·refine Split.no (by rw [decide_eq_true FH];rfl) (bg.BP ?_)
   rw [if_neg (by rw [ht.1 FH];decide)]at he;unfold bg.J2;rw [wN (x:=(z:Int)+(r:Int)) (i:=z+r) (by omega) (by omega),wN (x:=(z:Int)+(ch:Int)) (i:=z+ch) (by omega) (by omega)];intro w5;have k5:Kept Nil w4 w5:=(Kept.refl _ _).drew;clear_value w5;obtain⟨⟨a1,a2,a3,a4,a5,a6⟩,h6,k6⟩:=(h4.same k5).sw (x:=((z+r:Nat):Int)) (y:=((z+ch:Nat):Int)) rfl rfl (by omega) (by omega);refine⟨a1,_,a2,a3,_,a4,a3,a5,a1,a6,?_⟩;exact⟨(ch:Int),rfl,⟨ch,_,rfl,by omega,h6,he,(Bu.trans k5 (fun _ _ h=>h.elim)).trans k6 (fun _ _ h=>h)⟩,by simp only;omega⟩
  ·refine Split.yes (by rw [decide_eq_false FH];rfl) ?_
   rw [fP];rw [if_pos (by cases hg:gl G dk[z+r]! dk[z+ch]!;rfl;exact absurd (ht.2 hg) FH)]at he;rw [he]at h4;exact hK w4 h4 Bu
 intro w3;have k3:Kept Nil v w3:=(Kept.refl _ _).drew;clear_value w3;have h3:=hv.same k3;rw [wN (x:=((2*r+1:Nat):Int)+1) (i:=2*r+2) (by omega) (by omega)];refine Split.dec (fun ZJ=>?_) (fun Z7=>?_)
 ·have wZ:2*r+2<y:=by omega
  rw [wN (x:=(z:Int)+((2*r+1:Nat):Int)) (i:=z+(2*r+1)) (by omega) (by omega),wN (x:=((z+(2*r+1):Nat):Int)+1) (i:=z+(2*r+1)+1) (by omega) (by omega)];refine h3.cmp (i:=z+(2*r+1)) (j:=z+(2*r+1)+1) rfl rfl (by omega) (by omega) fun t w4 h4 k4 ht=>?_;have Da:=k3.trans k4 (fun _ _ h=>h);refine Split.dec (fun FH=>bg.sS ?_) (fun FH=>bg.sS ?_)
  ·rw [if_pos (by rw [ht.1 FH];simp only [Bool.and_true,decide_eq_true_eq];omega),dif_pos wZ]at hs
   exact fin (2*r+2) (by omega) wZ h4 Da hs
  ·rw [if_neg (by simp only [Bool.and_eq_true,decide_eq_true_eq];intro e;exact FH (ht.2 e.2))]at hs
   exact fin (2*r+1) (by omega) lR h4 Da hs
 ·refine bg.sS ?_
  rw [if_neg (by simp only [Bool.and_eq_true,decide_eq_true_eq];intro e;omega)]at hs;exact fin (2*r+1) (by omega) lR h3 k3 hs
theorem wj(h:SE w F c k G m B b n cx d){x y:Nat}(mE:x+1<y)(hy:y<=n)(hn:n<=1000000)
 (hK: ∀w',SE w' F c k G m B b n cx (Sort.heapSort (gl G) d x y)->Kept (· =b) w w'->K (.tuple #[]) w'):
 aY prog gK.id #[.slice (some ⟨b,0,none⟩) n cx,.int .i64 (x:Int),.int .i64 (y:Int),.func (.func aS.id) #[.pointer (some ⟨c,0,none⟩)] #[]] w K:=by
 refine bq.of ?_;unfold bq.W;have e2: ∀L:Nat,((L:Nat):Int).tdiv 2=((L/2:Nat):Int):=fun _=>rfl;obtain⟨L,hL,g12⟩: ∃L:Nat,y=x+L/\1<L:=⟨y-x,by omega,by omega⟩;subst hL;rw [wN (x:=((x+L:Nat):Int)-(x:Int)) (i:=L) (by omega) (by omega),wN (x:=(L:Int)-1) (i:=L-1) (by omega) (by omega),e2,wN (x:=(((L-1)/2:Nat):Int)) (i:=(L-1)/2) rfl (by omega)];refine⟨by decide,?_⟩;have hh:Sort.heapSort (gl G) d x (x+L)=Sort.heapPop (gl G) x L (Sort.heapBuild (gl G) L x ((L-1)/2+1) d):=by
  unfold Sort.heapSort;rw [show x+L-x=L by omega]
 rw [hh]at hK;refine bq.bU (I:=fun s v=> ∃(t:Nat) (dk:Array HT),s=(t:Int)-1/\t<=L/\SE v F c k G m B b n cx dk/\Sort.heapBuild (gl G) L x t dk=Sort.heapBuild (gl G) L x ((L-1)/2+1) d/\Kept (· =b) w v) (μ:=fun s _=>(s+1).toNat) (s:=(((L-1)/2:Nat):Int)) ⟨(L-1)/2+1,d,by omega,by omega,h,rfl,Kept.refl _ _⟩ ?_;rintro s v ⟨t,dk,rfl,ht,hv,he,kv⟩;unfold bq.B1;refine Split.dec (fun iy=>?_) (fun ck=>?_)
 ·obtain⟨t',rfl⟩: ∃t',t=t'+1:=⟨t-1,by omega⟩
  have e1:((t'+1:Nat):Int)-1=(t':Int):=by omega
  rw [e1];refine qg (x:=t') (y:=L) (z:=x) (lo:=0) hv (by omega) (by omega) hn fun w4 h4 k4=>⟨rfl,?_⟩;rw [gu (x:=(t':Int)-1) (by omega) (by omega)];exact⟨(t':Int)-1,rfl,⟨t',_,rfl,by omega,h4,he,kv.trans k4 (fun _ _ h=>h)⟩,by simp only;omega⟩
 ·obtain rfl:t=0:=by omega
  rw [aP,bq.dD];unfold bq.cW
  replace he:dk=_:=he
  rw [<-he]at hK;rw [wN (x:=(L:Int)-1) (i:=L-1) (by omega) (by omega)];refine bq.gz (I:=fun s u=> ∃(t:Nat) (dj:Array HT),s=(t:Int)-1/\t<=L/\SE u F c k G m B b n cx dj/\Sort.heapPop (gl G) x t dj=Sort.heapPop (gl G) x L dk/\Kept (· =b) w u) (μ:=fun s _=>(s+1).toNat) (s:=((L-1:Nat):Int)) ⟨L,dk,by omega,by omega,hv,rfl,kv⟩ ?_;rintro s u ⟨t,dj,rfl,ht,hu,JU,ku⟩;unfold bq.B2;refine Split.dec (fun iy=>?_) (fun ck=>?_)
  ·obtain⟨t',rfl⟩: ∃t',t=t'+1:=⟨t-1,by omega⟩
   have e1:((t'+1:Nat):Int)-1=(t':Int):=by omega
   rw [e1,wN (x:=(x:Int)+(t':Int)) (i:=x+t') (by omega) (by omega)];intro w5;have k5:Kept Nil u w5:=(Kept.refl _ _).drew;clear_value w5;obtain⟨⟨a1,a2,a3,a4,a5,a6⟩,h6,k6⟩:=(hu.same k5).sw (x:=(x:Int)) (y:=((x+t':Nat):Int)) rfl rfl (by omega) (by omega);refine⟨a1,_,a2,a3,_,a4,a3,a5,a1,a6,?_⟩;have Yj:=(ku.trans k5 (fun _ _ h=>h.elim)).trans k6 (fun _ _ h=>h);refine qg (x:=0) (y:=t') (z:=x) (lo:=0) h6 (by omega) (by omega) hn fun w7 h7 k7=>⟨rfl,?_⟩;rw [gu (x:=(t':Int)-1) (by omega) (by omega)];exact⟨(t':Int)-1,rfl,⟨t',_,rfl,by omega,h7,JU,Yj.trans k7 (fun _ _ h=>h)⟩,by simp only;omega⟩
  ·obtain rfl:t=0:=by omega
   rw [aP,bq.jI]
   replace JU:dj=_:=JU
   rw [<-JU]at hK;exact hK u hu ku
end
end Go.Proofs.YtnboahlopghcjaaGreatDoor
namespace Go.Proofs.YtnboahlopghcjaaGreatDoor
open Go.Proofs.Tryz
open Go Go.bp Go.RowKit
section
variable{w w':World}{B b n cx:Nat}{d:Array HT}{F:Nat->Prop}{c k:Nat}{G:GS}{m:CM}{K:Value->World->Prop}
abbrev C9(G:GS)(d:Array HT)(x:Nat):HT->Bool:=fun z=>gl G z d[x]!
abbrev Dm(G:GS)(d:Array HT)(x:Nat):HT->Bool:=fun z=> !gl G z d[x]!
set_option maxHeartbeats 1000000 in
theorem yT(h:SE w F c k G m B b n cx d){x y p:Nat}(mE:x+1<y)(hp:x<=p)(JM:p<y)(hy:y<=n)(hn:n<=1000000)
 (hK: ∀w',SE w' F c k G m B b n cx (Sort.partition (gl G) d x y p).2.2->Kept (· =b) w w'->K (.tuple #[.int .i64 ((Sort.partition (gl G) d x y p).1:Int),.bool (Sort.partition (gl G) d x y p).2.1]) w'):
 aY prog gw.id #[.slice (some ⟨b,0,none⟩) n cx,.int .i64 (x:Int),.int .i64 (y:Int),.int .i64 (p:Int),.func (.func aS.id) #[.pointer (some ⟨c,0,none⟩)] #[]] w K:=by
 refine aF.of ?_;unfold aF.W;intro w3;have k3:Kept Nil w w3:=(Kept.refl _ _).drew;clear_value w3;obtain⟨⟨a1,a2,a3,a4,a5,a6⟩,h5,k5⟩:=(h.same k3).sw (x:=(x:Int)) (y:=(p:Int)) rfl rfl (by omega) (by omega);refine⟨a1,_,a2,a3,_,a4,a3,a5,a1,a6,?_⟩;have rY:Kept (· =b) w _:=(k3.mono fun _ _ h=>h.elim).trans k5 (fun _ _ h=>h);clear a1 a2 a3 a4 a5 a6 k5;unfold Sort.partition at hK;simp only at hK;generalize Sort.swp d x p=d1 at hK h5;rw [wN (x:=(x:Int)+1) (i:=x+1) (by omega) (by omega),wN (x:=(y:Int)-1) (i:=y-1) (by omega) (by omega)];refine aF.bU (I:=fun s v=> ∃i:Nat,s=(i:Int)/\x<i/\i<=y/\SE v F c k G m B b n cx d1/\Sort.scanUp (C9 G d1 x) d1 (y-1) i=Sort.scanUp (C9 G d1 x) d1 (y-1) (x+1)/\Kept (· =b) w v) (μ:=fun s _=>((y:Int)-s).toNat) (s:=((x+1:Nat):Int)) ⟨x+1,rfl,by omega,by omega,h5,rfl,rY⟩ ?_;clear h5 rY;rintro s v ⟨i,rfl,JF,Wn,hv,Ah,kv⟩;unfold aF.B1;intro w4;have k4:Kept Nil v w4:=(Kept.refl _ _).drew;clear_value w4;have h4:=hv.same k4;have Bu:=kv.trans k4 (fun _ _ h=>h.elim);have up: ∀ {u:World},SE u F c k G m B b n cx d1->Kept (· =b) w u->Sort.scanUp (C9 G d1 x) d1 (y-1) (x+1)=i->aF.cW (some ⟨b,0,none⟩) n cx (x:Int) (some ⟨c,0,none⟩) 0 (i:Int) ((y-1:Nat):Int) K u:=fun {u} hu ku hi=>by
  rw [hi]at hK;unfold aF.cW;refine aF.gz (I:=fun s v=> ∃j:Nat,s=(j:Int)/\x<=j/\j<y/\SE v F c k G m B b n cx d1/\Sort.scanDown (Dm G d1 x) d1 i j=Sort.scanDown (Dm G d1 x) d1 i (y-1)/\Kept (· =b) w v) (μ:=fun s _=>s.toNat) (s:=((y-1:Nat):Int)) ⟨y-1,rfl,by omega,by omega,hu,rfl,ku⟩ ?_;rintro s v ⟨j,rfl,hxj,hjy,hv,JH,kv⟩;unfold aF.B2;intro w5;have k5:Kept Nil v w5:=(Kept.refl _ _).drew;clear_value w5;have h5:=hv.same k5;have Ju:=kv.trans k5 (fun _ _ h=>h.elim);have down: ∀ {u:World},SE u F c k G m B b n cx d1->Kept (· =b) w u->Sort.scanDown (Dm G d1 x) d1 i (y-1)=j->aF.iS (some ⟨b,0,none⟩) n cx (x:Int) (some ⟨c,0,none⟩) 0 (i:Int) (j:Int) K u:=fun {u} hu ku hj=>by
   rw [hj]at hK;unfold aF.iS;refine Split.dec (fun vk=>?_) (fun hle=>?_)
   ·rw [if_pos (by omega)]at hK
    intro w6;have k6:Kept Nil u w6:=(Kept.refl _ _).drew;clear_value w6;obtain⟨⟨a1,a2,a3,a4,a5,a6⟩,h7,k7⟩:=(hu.same k6).sw (x:=(j:Int)) (y:=(x:Int)) rfl rfl (by omega) (by omega);refine⟨a1,_,a2,a3,_,a4,a3,a5,a1,a6,?_⟩;exact hK _ h7 ((ku.trans k6 (fun _ _ h=>h.elim)).trans k7 (fun _ _ h=>h))
   ·have oe:i<=j:=by omega
    rw [if_neg (by omega)]at hK;simp only at hK;intro w6;have k6:Kept Nil u w6:=(Kept.refl _ _).drew;clear_value w6;obtain⟨⟨a1,a2,a3,a4,a5,a6⟩,h7,k7⟩:=(hu.same k6).sw (x:=(i:Int)) (y:=(j:Int)) rfl rfl (by omega) (by omega);refine⟨a1,_,a2,a3,_,a4,a3,a5,a1,a6,?_⟩;have wH:=(ku.trans k6 (fun _ _ h=>h.elim)).trans k7 (fun _ _ h=>h);clear a1 a2 a3 a4 a5 a6 k7;generalize Sort.swp d1 i j=d2 at hK h7;rw [wN (x:=(i:Int)+1) (i:=i+1) (by omega) (by omega),wN (x:=(j:Int)-1) (i:=j-1) (by omega) (by omega)];refine aF.uU (I:=fun s v=> ∃(i2 j2:Nat) (dk:Array HT),s=((i2:Int),(j2:Int))/\x<i2/\i2<=y/\x<=j2/\j2<y/\SE v F c k G m B b n cx dk/\Sort.partLoop (gl G) x i2 j2 dk=Sort.partLoop (gl G) x (i+1) (j-1) d2/\Kept (· =b) w v) (μ:=fun s _=>(s.2+1-s.1).toNat) (s:=(((i+1:Nat):Int),((j-1:Nat):Int))) ⟨i+1,j-1,d2,rfl,by omega,by omega,by omega,by omega,h7,rfl,wH⟩ ?_;clear h7 wH;rintro s v ⟨i2,j2,dk,rfl,YC,ZY,YB,ZU,Q4,pX,K9⟩;unfold aF.B3;simp only;refine aF.K0 (I:=fun s v=> ∃i3:Nat,s=(i3:Int)/\i2<=i3/\i3<=y/\SE v F c k G m B b n cx dk/\Sort.scanUp (C9 G dk x) dk j2 i3=Sort.scanUp (C9 G dk x) dk j2 i2/\Kept (· =b) w v) (μ:=fun s _=>((y:Int)-s).toNat) (s:=(i2:Int)) ⟨i2,rfl,by omega,by omega,Q4,rfl,K9⟩ ?_;rintro s v3 ⟨i3,rfl,Z1,ZX,YQ,zx,Yg⟩;unfold aF.B4;intro w8;have k8:Kept Nil v3 w8:=(Kept.refl _ _).drew;clear_value w8;have h8:=YQ.same k8;have Vg:=Yg.trans k8 (fun _ _ h=>h.elim);have UL: ∀ {u:World},SE u F c k G m B b n cx dk->Kept (· =b) w u->Sort.scanUp (C9 G dk x) dk j2 i2=i3->aF.Jc (some ⟨b,0,none⟩) n cx (x:Int) (some ⟨c,0,none⟩) 0 (i3:Int) (j2:Int) (bF (aF.e3 (some ⟨b,0,none⟩) n cx (x:Int) (some ⟨c,0,none⟩) 0) (fun s v=> ∃(i2 j2:Nat) (dk:Array HT),s=((i2:Int),(j2:Int))/\x<i2/\i2<=y/\x<=j2/\j2<y/\SE v F c k G m B b n cx dk/\Sort.partLoop (gl G) x i2 j2 dk=Sort.partLoop (gl G) x (i+1) (j-1) d2/\Kept (· =b) w v) (fun s _=>(s.2+1-s.1).toNat) ((i2:Int),(j2:Int)) v (aF.q3 K)) u:=fun {u} hu ku Si=>by
     unfold aF.Jc;refine aF.KZ (I:=fun s v=> ∃j3:Nat,s=(j3:Int)/\x<=j3/\j3<=j2/\SE v F c k G m B b n cx dk/\Sort.scanDown (Dm G dk x) dk i3 j3=Sort.scanDown (Dm G dk x) dk i3 j2/\Kept (· =b) w v) (μ:=fun s _=>s.toNat) (s:=(j2:Int)) ⟨j2,rfl,by omega,by omega,hu,rfl,ku⟩ ?_;rintro s v4 ⟨j3,rfl,YA,ZT,YP,zw,Bu⟩;unfold aF.B5;intro w9;have k9:Kept Nil v4 w9:=(Kept.refl _ _).drew;clear_value w9;have h9:=YP.same k9;have Vf:=Bu.trans k9 (fun _ _ h=>h.elim);have Gv: ∀ {u:World},SE u F c k G m B b n cx dk->Kept (· =b) w u->Sort.scanDown (Dm G dk x) dk i3 j2=j3->aF.Jb (some ⟨b,0,none⟩) n cx (x:Int) (some ⟨c,0,none⟩) 0 (i3:Int) (j3:Int) (bF (aF.e3 (some ⟨b,0,none⟩) n cx (x:Int) (some ⟨c,0,none⟩) 0) (fun s v=> ∃(i2 j2:Nat) (dk:Array HT),s=((i2:Int),(j2:Int))/\x<i2/\i2<=y/\x<=j2/\j2<y/\SE v F c k G m B b n cx dk/\Sort.partLoop (gl G) x i2 j2 dk=Sort.partLoop (gl G) x (i+1) (j-1) d2/\Kept (· =b) w v) (fun s _=>(s.2+1-s.1).toNat) ((i2:Int),(j2:Int)) v (aF.q3 K)) u:=fun {u} hu ku ZW=>by
      rw [Sort.partLoop]at pX;rw [Si,ZW]at pX;unfold aF.Jb;refine Split.dec (fun vk=>?_) (fun hle=>?_)
      ·rw [if_pos (by omega)]at pX
       rw [<-pX]at hK;rw [aP,aF.Aw];unfold aF.xz;intro w6;have k6:Kept Nil u w6:=(Kept.refl _ _).drew;clear_value w6;obtain⟨⟨a1,a2,a3,a4,a5,a6⟩,h7,k7⟩:=(hu.same k6).sw (x:=(j3:Int)) (y:=(x:Int)) rfl rfl (by omega) (by omega);refine⟨a1,_,a2,a3,_,a4,a3,a5,a1,a6,?_⟩;exact hK _ h7 ((ku.trans k6 (fun _ _ h=>h.elim)).trans k7 (fun _ _ h=>h))
      ·rw [if_neg (by omega),dif_pos (by omega)]at pX
       intro w6;have k6:Kept Nil u w6:=(Kept.refl _ _).drew;clear_value w6;obtain⟨⟨a1,a2,a3,a4,a5,a6⟩,h7,k7⟩:=(hu.same k6).sw (x:=(i3:Int)) (y:=(j3:Int)) rfl rfl (by omega) (by omega);refine⟨a1,_,a2,a3,_,a4,a3,a5,a1,a6,?_⟩;simp only;rw [wN (x:=(i3:Int)+1) (i:=i3+1) (by omega) (by omega),wN (x:=(j3:Int)-1) (i:=j3-1) (by omega) (by omega)];exact⟨(((i3+1:Nat):Int),((j3-1:Nat):Int)),rfl,⟨i3+1,j3-1,_,rfl,by omega,by omega,by omega,by omega,h7,pX,(ku.trans k6 (fun _ _ h=>h.elim)).trans k7 (fun _ _ h=>h)⟩,by simp only;omega⟩
     refine Split.dec (fun hle=>?_) (fun vk=>?_)
     ·obtain⟨j',rfl⟩: ∃j',j3=j'+1:=⟨j3-1,by omega⟩
      refine h9.cmp (i:=j'+1) (j:=x) rfl rfl (by omega) (by omega) fun r w10 rI oA hr=>?_;have qK:=Vf.trans oA (fun _ _ h=>h.elim);rw [Sort.scanDown]at zw;by_cases oS:r<0
      ·refine Split.no (by rw [decide_eq_true oS];rfl) ?_
       rw [aP,aF.Kp];rw [if_neg (by simp only [Dm,hr.1 oS,Bool.not_true,Bool.and_false];decide)]at zw;exact Gv rI qK zw.symm
      ·refine Split.yes (by rw [decide_eq_false oS];rfl) ?_
       have hg:gl G dk[j'+1]! dk[x]! =false:=by
        cases hg:gl G dk[j'+1]! dk[x]!
        ·rfl
        ·exact absurd (hr.2 hg) oS
       rw [if_pos (by simp only [Dm,hg,Bool.not_false,Bool.and_true,decide_eq_true_eq];omega)]at zw;rw [wN (x:=((j'+1:Nat):Int)-1) (i:=j') (by omega) (by omega)];exact⟨(j':Int),rfl,⟨j',rfl,by omega,by omega,rI,zw,qK⟩,by simp only;omega⟩
     ·rw [aP,aF.Kp]
      refine Gv h9 Vf ?_;rw [<-zw];cases j3 with
      |zero=>rfl
      |succ j'=>rw [Sort.scanDown,if_neg (by simp only [Bool.and_eq_true,decide_eq_true_eq];intro e;omega)]
    refine Split.dec (fun hle=>?_) (fun vk=>?_)
    ·refine h8.cmp (i:=i3) (j:=x) rfl rfl (by omega) (by omega) fun r w10 rI oA hr=>?_
     have qK:=Vg.trans oA (fun _ _ h=>h.elim);rw [Sort.scanUp]at zx;refine Split.dec (fun oS=>?_) (fun oS=>?_)
     ·rw [if_pos (by simp only [C9,hr.1 oS,Bool.and_true,decide_eq_true_eq];omega)]at zx
      rw [wN (x:=(i3:Int)+1) (i:=i3+1) (by omega) (by omega)];exact⟨((i3+1:Nat):Int),rfl,⟨i3+1,rfl,by omega,by omega,rI,zx,qK⟩,by simp only;omega⟩
     ·rw [aP,aF.Kq]
      rw [if_neg (by simp only [C9,Bool.and_eq_true,decide_eq_true_eq];intro e;exact oS (hr.2 e.2))]at zx;exact UL rI qK zx.symm
    ·rw [aP,aF.Kq]
     refine UL h8 Vg ?_;rw [<-zx,Sort.scanUp,if_neg (by simp only [Bool.and_eq_true,decide_eq_true_eq];intro e;omega)]
  refine Split.dec (fun hle=>?_) (fun vk=>?_)
  ·obtain⟨j',rfl⟩: ∃j',j=j'+1:=⟨j-1,by omega⟩
   refine h5.cmp (i:=j'+1) (j:=x) rfl rfl (by omega) (by omega) fun r w10 rI oA hr=>?_;have qK:=Ju.trans oA (fun _ _ h=>h.elim);rw [Sort.scanDown]at JH;by_cases oS:r<0
   ·refine Split.no (by rw [decide_eq_true oS];rfl) ?_
    rw [aP,aF.jI];rw [if_neg (by simp only [Dm,hr.1 oS,Bool.not_true,Bool.and_false];decide)]at JH;exact down rI qK JH.symm
   ·refine Split.yes (by rw [decide_eq_false oS];rfl) ?_
    have hg:gl G d1[j'+1]! d1[x]! =false:=by
     cases hg:gl G d1[j'+1]! d1[x]!
     ·rfl
     ·exact absurd (hr.2 hg) oS
    rw [if_pos (by simp only [Dm,hg,Bool.not_false,Bool.and_true,decide_eq_true_eq];omega)]at JH;rw [wN (x:=((j'+1:Nat):Int)-1) (i:=j') (by omega) (by omega)];exact⟨(j':Int),rfl,⟨j',rfl,by omega,by omega,rI,JH,qK⟩,by simp only;omega⟩
  ·rw [aP,aF.jI]
   refine down h5 Ju ?_;rw [<-JH];cases j with
   |zero=>rfl
   |succ j'=>rw [Sort.scanDown,if_neg (by simp only [Bool.and_eq_true,decide_eq_true_eq];intro e;omega)]
 refine Split.dec (fun hle=>?_) (fun vk=>?_)
 ·refine h4.cmp (i:=i) (j:=x) rfl rfl (by omega) (by omega) fun r w10 rI oA hr=>?_
  have qK:=Bu.trans oA (fun _ _ h=>h.elim);rw [Sort.scanUp]at Ah;refine Split.dec (fun oS=>?_) (fun oS=>?_)
  ·rw [if_pos (by simp only [C9,hr.1 oS,Bool.and_true,decide_eq_true_eq];omega)]at Ah
   rw [wN (x:=(i:Int)+1) (i:=i+1) (by omega) (by omega)];exact⟨((i+1:Nat):Int),rfl,⟨i+1,rfl,by omega,by omega,rI,Ah,qK⟩,by simp only;omega⟩
  ·rw [aP,aF.dD]
   rw [if_neg (by simp only [C9,Bool.and_eq_true,decide_eq_true_eq];intro e;exact oS (hr.2 e.2))]at Ah;exact up rI qK Ah.symm
 ·rw [aP,aF.dD]
  refine up h4 Bu ?_;rw [<-Ah,Sort.scanUp,if_neg (by simp only [Bool.and_eq_true,decide_eq_true_eq];intro e;omega)]
end
end Go.Proofs.YtnboahlopghcjaaGreatDoor
namespace Go.Proofs.YtnboahlopghcjaaGreatDoor
open Go.Proofs.Tryz
open Go Go.bp Go.RowKit
theorem iI{d d':Array HT}{x y:Nat}(mE:x<=y)(hy:y<=d.size)(h:Sort.PermIn x y d d'):d'.toList.Perm d.toList:=by
 have h1:=Sort.permIn_mono d d' x y 0 d.size (Nat.zero_le _) hy (Nat.le_refl _) h;have h2:=h1.2.2;have h3:=h1.1;rw [Array.extract_size,<-h3,Array.extract_size]at h2;exact h2
section
variable{w w':World}{B b n cx:Nat}{d:Array HT}{F:Nat->Prop}{c k:Nat}{G:GS}{m:CM}{K:Value->World->Prop}
set_option maxHeartbeats 1000000 in
theorem y8(hn:n<50){Q:aJ}{v:World}{a e:Nat}{l:Int}{p q:Bool}{dk:Array HT}(IN:a<=e)(IB:e<=n)(yg:0<=l)(ud:l<=100)(hv:SE v F c k G m B b n cx dk)(fG:dk.toList.Nodup)(hB:Sort.Below (gl G) a e dk)
 (rec: ∀ {u:World} {dj:Array HT} {a' e':Nat} {l':Int} {K':Value->World->Prop},a'<=e'->e'-a'<e-a->e'<=n->0<=l'->l'<=100->SE u F c k G m B b n cx dj->dj.toList.Nodup->Sort.Below (gl G) a' e' dj->
   (∀d' w',SE w' F c k G m B b n cx d'->Sort.PermIn a' e' dj d'->Sort.SortedIn (gl G) a' e' d'->Kept (· =b) u w'->K' (.tuple #[]) w')->
   aY prog eF.id #[.slice (some ⟨b,0,none⟩) n cx,.int .i64 (a':Int),.int .i64 (e':Int),.int .i64 l',.func (.func aS.id) #[.pointer (some ⟨c,0,none⟩)] #[]] u K')
 (B7: ∀(a' e' l' L:Int) (p' q':Bool) t u dj,(t= []\/ ∃r:Int,t= [(13,.int .i64 r)])->SE u F c k G m B b n cx dj->Sort.PermIn a e dk dj->Sort.SortedIn (gl G) a e dj->Kept (· =b) v u->Q .ret ((0,.slice (some ⟨b,0,none⟩) n cx)::(1,.int .i64 a')::(2,.int .i64 e')::(3,.int .i64 l')::(4,.func (.func aS.id) #[.pointer (some ⟨c,0,none⟩)] #[])::(10,.bool p')::(11,.bool q')::(12,.int .i64 L)::t) u)
 (FW: ∀(a' e':Nat) (l':Int) (p' q':Bool) (dj:Array HT) (u:World),a<=a'->a'<=e'->e'<=e->e'-a'<e-a->0<=l'->l'<=100->SE u F c k G m B b n cx dj->dj.toList.Nodup->Sort.Below (gl G) a' e' dj->(∀R,Sort.PermIn a' e' dj R->Sort.SortedIn (gl G) a' e' R->Sort.PermIn a e dk R/\Sort.SortedIn (gl G) a e R)->Kept (· =b) v u->
   Q .normal [(0,.slice (some ⟨b,0,none⟩) n cx),(1,.int .i64 (a':Int)),(2,.int .i64 (e':Int)),(3,.int .i64 l'),(4,.func (.func aS.id) #[.pointer (some ⟨c,0,none⟩)] #[]),(10,.bool p'),(11,.bool q')] u):
 au.B1 (some ⟨b,0,none⟩) n cx (a:Int) (e:Int) l (some ⟨c,0,none⟩) p q Q v:=by
 have lP:=SR.size hv.row;unfold au.B1;rw [wN (x:=(e:Int)-(a:Int)) (i:=e-a) (by omega) (by omega)];refine Split.dec (fun Dk=>?_) (fun Dk=>?_)
 ·refine yV hv IN IB (by omega) fun w' h' k'=>⟨rfl,?_⟩
  obtain⟨p1,p2⟩:=Sort.insertionSort_holds (qU G) dk a e IN (by omega);exact B7 _ _ _ _ _ _ [] _ _ (.inl rfl) h' p1 p2 k'
 have Dk:a+12<e:=by omega
 refine Split.mk (fun hl=>?_) (fun hl=>?_)
 ·refine wj hv (by omega) IB (by omega) fun w' h' k'=>⟨rfl,?_⟩
  obtain⟨p1,p2⟩:=Sort.heapSort_holds (qU G) dk a e IN (by omega);exact B7 _ _ _ _ _ _ [] _ _ (.inl rfl) h' p1 p2 k'
 have hl:l≠0:=beq_eq_false_iff_ne.1 hl;have j1: ∀ {u:World} {dj:Array HT} {l':Int},0<=l'->l'<=100->SE u F c k G m B b n cx dj->Sort.PermIn a e dk dj->Kept (· =b) v u->au.J1 (some ⟨b,0,none⟩) n cx (a:Int) (e:Int) l' (some ⟨c,0,none⟩) p q ((e-a:Nat):Int) Q u:=by
  intro u dj l' yg ud hu vS ku;have j7: ∀ {u:World} {dj:Array HT} {r:Nat},a<=r->r<e->SE u F c k G m B b n cx dj->Sort.PermIn a e dk dj->Kept (· =b) v u->au.J7 (some ⟨b,0,none⟩) n cx (a:Int) (e:Int) l' (some ⟨c,0,none⟩) p q ((e-a:Nat):Int) (r:Int) Q u:=by
   intro u dj r oR jw hu vS ku;have O6:=SR.size hu.row;unfold au.J7;have hBj:=hB.perm (by omega) vS;obtain⟨g1,g2,VU,TL,TK,Cf,wQ⟩:=Sort.round_part (qU G) (Sort.partition_holds (gl G)) (d3:=dj) (mid:=(Sort.partition (gl G) dj a e r).1) (ap:=(Sort.partition (gl G) dj a e r).2.1) (d4:=(Sort.partition (gl G) dj a e r).2.2) oR jw (by omega) hBj rfl;have RH:=(Sort.partition_holds (gl G) (qU G) dj a e r oR jw (by omega)).2.2.1;refine yT hu (by omega) oR jw IB (by omega) fun w5 h5 k5=>⟨_,_,rfl,au.Lv ?_⟩;have OQ:=ku.trans k5 (fun _ _ h=>h);generalize (Sort.partition (gl G) dj a e r)=res at g1 g2 VU TL TK Cf wQ RH h5;obtain⟨mid,ap,d4⟩:=res;simp only at g1 g2 VU TL TK Cf wQ RH h5⊢;have tD:=Sort.permIn_trans _ _ _ a e vS RH;have Es:d4.toList.Nodup:=(iI IN (by omega) tD).nodup_iff.2 fG;unfold au.J8;refine au.Lu ?_;unfold au.J9;rw [wN (x:=(mid:Int)-(a:Int)) (i:=mid-a) (by omega) (by omega),wN (x:=(e:Int)-(mid:Int)) (i:=e-mid) (by omega) (by omega)];refine au.HC ?_;unfold au.Uv;refine⟨by decide,au.HB ?_⟩;unfold au.Uu;refine Split.dec (fun ck=>au.HA ?_) (fun ck=>au.Hz ?_)
   ·unfold au.Ut
    refine rec g1 (by omega) (by omega) yg ud h5 Es TL fun d' w' h' p' s' k'=>⟨rfl,au.Hy ?_⟩;unfold au.Ur;rw [wN (x:=(mid:Int)+1) (i:=mid+1) (by omega) (by omega)];obtain⟨TM,hf⟩:=Cf d' p' s';refine FW (mid+1) e l' _ _ d' w' (by omega) (by omega) (Nat.le_refl _) (by omega) yg ud h' ((iI g1 (by omega) p').nodup_iff.2 Es) TM (fun R hR sR=>?_) (OQ.trans k' (fun _ _ h=>h));obtain⟨q1,q2⟩:=hf R hR sR;exact⟨Sort.permIn_trans _ _ _ a e vS q1,q2⟩
   ·unfold au.Us
    rw [wN (x:=(mid:Int)+1) (i:=mid+1) (by omega) (by omega)];refine rec (by omega) (by omega) (by omega) yg ud h5 Es TK fun d' w' h' p' s' k'=>⟨rfl,au.Hx ?_⟩;unfold au.Uq;obtain⟨TM,hf⟩:=wQ d' p' s';refine FW a mid l' _ _ d' w' (by omega) (by omega) (by omega) (by omega) yg ud h' ((iI (by omega) (by omega) p').nodup_iff.2 Es) TM (fun R hR sR=>?_) (OQ.trans k' (fun _ _ h=>h));obtain⟨q1,q2⟩:=hf R hR sR;exact⟨Sort.permIn_trans _ _ _ a e vS q1,q2⟩
  have j6: ∀ {u:World} {dj:Array HT} {r:Nat},a<=r->r<e->SE u F c k G m B b n cx dj->Sort.PermIn a e dk dj->Kept (· =b) v u->au.J6 (some ⟨b,0,none⟩) n cx (a:Int) (e:Int) l' (some ⟨c,0,none⟩) p q ((e-a:Nat):Int) (r:Int) Q u:=by
   intro u dj r oR jw hu vS ku;have O6:=SR.size hu.row;unfold au.J6;intro w3;have k3:Kept Nil u w3:=(Kept.refl _ _).drew;clear_value w3;have h3:=hu.same k3;have Lc:=ku.trans k3 (fun _ _ h=>h.elim);refine Split.dec (fun ha0=>?_) (fun ha0=>au.Fy (j7 oR jw h3 vS Lc));rw [wN (x:=(a:Int)-1) (i:=a-1) (by omega) (by omega)];refine h3.cmp (i:=a-1) (j:=r) rfl rfl (by omega) (by omega) fun z w4 h4 k4 hz=>?_;have hg:gl G dj[a-1]! dj[r]! =true:=by
    cases hg:gl G dj[a-1]! dj[r]!
    ·exfalso
     rcases hB.perm (by omega) vS with e0|e0
     ·omega
     ·have FV:dj.toList.Nodup:=(iI IN (by omega) vS).nodup_iff.2 fG
      have e1:=oh hg (e0 r oR jw);have:=(List.getElem_inj (xs:=dj.toList) (i:=a-1) (j:=r) (h₀:=by simp;omega) (h₁:=by simp;omega) FV).1 (by
       simpa [getElem!_pos,O6,show a-1<n by omega,show r<n by omega]using e1)
      omega
    ·rfl
   exact Split.no (by rw [decide_eq_true (hz.2 hg)];rfl) (au.Fy (j7 oR jw h4 vS (Lc.trans k4 (fun _ _ h=>h.elim))))
  have j4: ∀ {u:World} {dj:Array HT} {r:Nat} {t:Int},a<=r->r<e->SE u F c k G m B b n cx dj->Sort.PermIn a e dk dj->Kept (· =b) v u->au.J4 (some ⟨b,0,none⟩) n cx (a:Int) (e:Int) l' (some ⟨c,0,none⟩) p q ((e-a:Nat):Int) (r:Int) t Q u:=by
   intro u dj r t oR jw hu vS ku;unfold au.J4;have go:=au.Fz (j6 oR jw hu vS ku);refine Split.mk (fun _=>Split.mk (fun _=>Split.mk (fun _=>?_) (fun _=>go)) (fun _=>go)) (fun _=>go);refine yR hu (by omega) IB hn fun t w' hs h' k'=>⟨t,rfl,?_⟩;have OR:=ku.trans k' (fun _ _ h=>h.elim);exact Split.mk (fun ht=>B7 _ _ _ _ _ _ [_] _ _ (.inr ⟨_,rfl⟩) h' vS (hs ht) OR) (fun _=>au.Fz (j6 oR jw h' vS OR))
  unfold au.J1;refine yQ hu Dk IB hn fun r t w4 oR jw h4 k4=>⟨_,_,rfl,au.BP ?_⟩;have Lb:=ku.trans k4 (fun _ _ h=>h.elim);unfold au.J2;refine Split.mk (fun ht=>?_) (fun ht=>au.FA (j4 oR jw h4 vS Lb));refine yP h4 (by omega) IB (by omega) fun d' w' h' p' k'=>⟨rfl,au.Lx ?_⟩;unfold au.J3;rw [wN (x:=(e:Int)-1) (i:=e-1) (by omega) (by omega),wN (x:=(r:Int)-(a:Int)) (i:=r-a) (by omega) (by omega),wN (x:=((e-1:Nat):Int)-((r-a:Nat):Int)) (i:=e-1-(r-a)) (by omega) (by omega)];refine au.Lw ?_;unfold au.J5;exact au.FA (j4 (by omega) (by omega) h' (Sort.permIn_trans _ _ _ a e vS p') (Lb.trans k' (fun _ _ h=>h)))
 refine Split.mk (fun hp=>?_) (fun hp=>au.sS (j1 yg ud hv (Sort.permIn_refl _ _ _) (Kept.refl _ _)));refine yW hv Dk IB (by omega) fun d' w' h' p' k'=>⟨rfl,au.sS ?_⟩;rw [gu (x:=l-1) (by omega) (by omega)];exact j1 (by omega) (by omega) h' p' k'
theorem yS(hn:n<50): ∀(s:Nat) {w:World} {d:Array HT} {x y:Nat} {lim:Int} {K:Value->World->Prop},y<x+s->x<=y->y<=n->0<=lim->lim<=100->SE w F c k G m B b n cx d->d.toList.Nodup->Sort.Below (gl G) x y d->
 (∀d' w',SE w' F c k G m B b n cx d'->Sort.PermIn x y d d'->Sort.SortedIn (gl G) x y d'->Kept (· =b) w w'->K (.tuple #[]) w')->
 aY prog eF.id #[.slice (some ⟨b,0,none⟩) n cx,.int .i64 (x:Int),.int .i64 (y:Int),.int .i64 lim,.func (.func aS.id) #[.pointer (some ⟨c,0,none⟩)] #[]] w K:=by
 intro s
 induction s with
 |zero=>intro w d x y lim K h1 h2;omega
 |succ s ih=>
  intro w d x y lim K hs mE hy yg ud h fG hB hK;refine au.of ?_;unfold au.W;refine au.bU (I:=fun st v=> ∃(a e:Nat) (l:Int) (p q:Bool) (dk:Array HT),st=((a:Int),(e:Int),l,p,q)/\x<=a/\a<=e/\e<=y/\0<=l/\l<=100/\SE v F c k G m B b n cx dk/\dk.toList.Nodup/\Sort.Below (gl G) a e dk/\(∀R,Sort.PermIn a e dk R->Sort.SortedIn (gl G) a e R->Sort.PermIn x y d R/\Sort.SortedIn (gl G) x y R)/\Kept (· =b) w v) (μ:=fun st _=>(st.2.1-st.1).toNat) (s:=((x:Int),(y:Int),lim,true,true)) ⟨x,y,lim,true,true,d,rfl,Nat.le_refl _,mE,Nat.le_refl _,yg,ud,h,fG,hB,fun R h1 h2=>⟨h1,h2⟩,Kept.refl _ _⟩ ?_;rintro st v ⟨a,e,l,p,q,dk,rfl,hxa,IN,hey,yg,ud,hv,fG,hB,qR,kv⟩;refine y8 hn IN (by omega) yg ud hv fG hB (fun h1 h2 h3 h4 h5 h6 h7 h8 h9=>ih (by omega) h1 h3 h4 h5 h6 h7 h8 h9) (fun _ _ _ _ _ _ t u dj ht h1 h2 h3 h4=>?_) (fun a' e' l' p' q' dj u h1 h2 h3 h4 h5 h6 h7 h8 h9 rI Gt=>?_)
  ·rw [fP]
   obtain⟨q1,q2⟩:=qR _ h2 h3;rcases ht with rfl|⟨r,rfl⟩
   ·exact hK dj u h1 q1 q2 (kv.trans h4 (fun _ _ h=>h))
   exact hK dj u h1 q1 q2 (kv.trans h4 (fun _ _ h=>h))
  ·exact⟨((a':Int),(e':Int),l',p',q'),rfl,⟨a',e',l',p',q',dj,rfl,by omega,h2,by omega,h5,h6,h7,h8,h9,fun R hR sR=>let ⟨q1,q2⟩:=rI R hR sR;qR R q1 q2,kv.trans Gt (fun _ _ h=>h)⟩,by simp only;omega⟩
theorem xr{n:Nat}(hn:n<50)(hK: ∀(v:Int),0<=v->v<=100->K (.int .i64 v) w):aY prog bits_Len.id #[.int .u64 (n:Int)] w K:=by
 have h:=Any.bits_Len (SlLaysF0.n15.bits (P:=prog) (ρ:=Tryz.mh) {Tryz.sy with}) n w (by omega) (by omega);refine Calls.mono h ?_;rintro e w' ⟨rfl,rfl⟩;refine⟨_,rfl,hK _ (by omega) ?_⟩;rw [Int.toNat_natCast,bitLen_eq _ (by omega)];have:=(Sort.bitsLen_le_iff n 62).2 (by omega);omega
end
theorem DD:yw 49:=by
 intro w F c k G m B A n cx l K C row hn fG jm qP hK;have hlen:=bQ.len row;by_cases h0:n=0
 ·subst h0
  have h:=AnyF.slices_SortFunc_none Tryz.sy A cx (.func (.func aS.id) #[.pointer (some ⟨c,0,none⟩)] #[]) w;refine Calls.mono h ?_;rintro e w' ⟨rfl,rfl⟩;have:l= []:=List.eq_nil_of_length_eq_zero hlen;subst this;exact⟨_,rfl,hK [] _ List.Pairwise.nil (fun _=>Iff.rfl) row (Kept.refl _ _)⟩
 ·obtain⟨b,rfl⟩:=Row.some row (by omega)
  have hE:SE w F c k G m B b n cx l.toArray:=⟨C,by simpa [SR]using row,by simpa using jm,qP b rfl⟩;refine mi.of ?_;unfold mi.W;have ew:IntKind.u64.wrap (n:Int)=(n:Int):=iC (by omega);rw [ew];refine xr (by omega) fun v YR De=>⟨v,rfl,?_⟩;refine yS (x:=0) (y:=n) (by omega) (n+1) (by omega) (Nat.zero_le _) (Nat.le_refl _) YR De hE (by simpa using fG) (.inl rfl) fun d' w' h' p' s' k'=>⟨rfl,?_⟩;have jP:=SR.size h'.row;have Ei:l.toArray.size=n:=by simpa using hlen
  have V1:=iI (Nat.zero_le _) (by omega) p';refine hK d'.toList w' ?_ (fun x=>by rw [V1.mem_iff]) h'.row (k'.mono fun j _ e=>by subst e;rfl);have qQ:=V1.nodup_iff.2 (by simpa using fG);rw [SO,List.pairwise_iff_getElem];intro i j hi hj oe;have Ir:i<d'.size:=by simpa using hi
  have sU:j<d'.size:=by simpa using hj
  have h1:=s' i j (Nat.zero_le _) oe (by omega);rw [getElem!_pos d' i Ir,getElem!_pos d' j sU]at h1;rw [Array.getElem_toList,Array.getElem_toList];cases hg:gl G d'[i] d'[j]
  ·exfalso
   have e1:=oh hg h1;have:=(List.getElem_inj (xs:=d'.toList) (i:=i) (j:=j) (h₀:=hi) (h₁:=hj) qQ).1 (by simpa using e1);omega
  ·rfl
end Go.Proofs.YtnboahlopghcjaaGreatDoor
