import Derived.Test.YtfleamccglihoaaGreatDoorMQ
import Derived.Test.YtfleamccglihoaaGreatDoorMG
import Derived.Test.YtfleamccglihoaaGreatDoorMJ
import Derived.Sort.AssemblyPlain
import Derived.Test.YtfleamccglihoaaGreatDoorMO
open Go.IntKind (i64 u64)
set_option linter.unusedVariables false
namespace Go.Proofs.YtfleamccglihoaaGreatDoor
open Go.Proofs.Tryz
open Go Go.b0 Go.RowKit
section
variable{w w':World}{A B:Option Addr}{n cp m cq:Nat}{K:Value->World->Prop}
theorem Bo.none{l:List Bool}(h:Bo w none n l):n=0/\l= []:=by
 cases l with
 |nil=>exact⟨h.len.symm,rfl⟩
 |cons b l=>
  obtain⟨a,h1,_⟩:=h.at_ 0 b rfl;cases h1
theorem Bo.cells{a:Addr}{l:List Bool}(h:Bo w (some a) n l):∀j u,(tC l)[j]? =some u->w.cell? (a.add j)=some u:=by
 intro j u hj;unfold tC at hj;rw [List.getElem?_map]at hj;cases hb:l[j]? with
 |none=>rw [hb]at hj;cases hj
 |some b=>
  rw [hb]at hj;cases hj;obtain⟨a',h1,_,h3⟩:=h.at_ j b hb;cases h1;exact h3
theorem Row.bo{l:List Bool}{C:Nat}(h:Row w C jo 1 A n cp (tC l)):Bo w A n l:=by
 have hlen:=Row.len h;refine⟨by simpa [tC]using hlen,fun i b hi=>?_⟩;have eh:=(lgeS hi).1;have hn:0<n:=by simp [tC]at hlen;omega
 obtain⟨k,rfl⟩:=Row.some h hn;obtain⟨_,cur,p9⟩:=Row.bV h (k:=k) rfl;exact⟨_,rfl,aY p9,Row.cells h i _ (by simp [tC,hi])⟩
theorem Dr{l:List Bool}(hl:Bo w A n l)(hn:n<=400000)(hK:∀A' c' w',Row w' w.heap.size jo 1 A' n c' (tC l)->Kept Nil w w'->K (.slice A' n c') w'):
 bD prog dU.id #[.slice A n cp] w K:=by
 have hlen:=hl.len;refine dU.of ?_;cases A with
 |none=>
  obtain⟨rfl,rfl⟩:=hl.none;exact Split.yes rfl (hK none 0 w (Row.nil _ _ _ _) (Kept.refl _ _))
 |some a=>
  refine Split.no rfl ?_;intro w2;have k2:Kept Nil w w2:=(Kept.refl _ _).alloc _;have r0:Row w2 w.heap.size jo 1 (some ⟨w.heap.size,0,none⟩) 0 0 []:=Row.made (n:=0) (cur:= #[]) (aM w _) (Nat.le_refl _) rfl (Nat.zero_le _);clear_value w2;obtain⟨A',c',w4,hr,row,hg,_⟩:=fR (P:=prog) (t:=ig) (bytes:=1) (ty:=ig) Cd r0 (a:=a) (m:=n) (cx:=cp) (news:=tC l) (by simp [tC,hlen]) (hl.same k2).cells (fun u hu=>by
   simp only [tC,List.mem_map]at hu;obtain⟨b,_,rfl⟩:=hu;rfl) (by omega) (by unfold maxLen;omega) k2.size
  rw [Nat.zero_add]at hr row;rw [List.nil_append]at row;exact⟨A',n,c',w4,hr,hK A' c' w4 row (Kept.eA k2 hg (fun k hk=>by cases hk;exact Nat.le_refl _))⟩
theorem uB(c:pr)(hm:HS w A n c.merge)(hb:Bo w B m c.fX)(hn:n<=400000)(hn2:m<=400000)
 (hK:∀A' c1 B' c2 w',cC w' w.heap.size A' n c1 c.merge->Row w' w.heap.size jo 1 B' m c2 (tC c.fX)->(∀j,bG A'=some j->bG B'≠some j)->Kept Nil w w'->K (.agg (di c A' n c1 B' m c2)) w'):
 bD prog iJ.id #[.agg (di c A n cp B m cq)] w K:=by
 refine iJ.of ?_;unfold iJ.W;intro w1 w2 w3;have k1:Kept Nil w w1:=(Kept.refl _ _).alloc _;have M4:w1.heap[w.heap.size]? =some (.cells (di c A n cp B m cq) bL (0,0)):=aM w _;have k2:Kept Nil w1 w2:=(Kept.refl _ _).alloc _;have jU:w2.heap[w1.heap.size]? =some (.cells zC bL (0,0)):=aM w1 _;have k3:Kept Nil w2 w3:=(Kept.refl _ _).drew;clear_value w3;have BM:=k3.heap (k2.heap M4 (fun h=>h)) (fun h=>h);have yU:=k3.heap jU (fun h=>h);have jZ:=(k1.tt k2).tt k3;have s1:=k1.size;have l1:=aY M4;have l2:=aY jU;have s3:=k3.size;clear_value w2 w1;have g:=gN c A n cp B m cq #[];rw [Array.append_empty]at g;refine⟨A,n,cp,by rw [bC,aE BM];exact g.2.1,B,m,cq,by rw [bC,aE BM];exact g.2.2.1,?_⟩;refine Dq (hm.same jZ) hn fun A' c1 w4 kL k4=>⟨A',n,c1,rfl,by rw [bC,aE (k4.heap BM (fun h=>h))];exact g.2.2.1,?_⟩;have nt:=jZ.tt k4;have s4:=k4.size;refine Dr (hb.same nt) hn2 fun B' c2 w5 lC k5=>⟨B',m,c2,rfl,?_⟩;have ns:=k4.tt k5;have RC:=ns.heap BM (fun h=>h);have sA:=ns.heap yU (fun h=>h);have mF:=bH c A n cp B m cq;refine⟨by rw [bC];exact dN RC (by omega),?_⟩;intro w6;have e33:=rJ c A n cp B m cq #[] A' n c1;rw [Array.append_empty,Array.append_empty]at e33;have Li:w6.heap[w.heap.size]? =some (.cells (di c A' n c1 B m cq) bL (0,0)):=by
  show(w5.setCell ((aU w.heap.size).add 33) (.slice A' n c1)).heap[w.heap.size]? =_;rw [bC,dp RC,e33]
 have k6:Kept (· =w.heap.size) w5 w6:=by
  show Kept (· =w.heap.size) w5 (w5.setCell ((aU w.heap.size).add 33) (.slice A' n c1))
  rw [bC];exact Kept.setCell (S:=(· =w.heap.size)) (Kept.refl _ w5) (p:=⟨w.heap.size,0+33,none⟩) (fun _=>rfl) _
 clear_value w6;have ait:=bH c A' n c1 B m cq;refine⟨by rw [bC];exact dN Li (by omega),?_⟩;intro w7;have e34:=rI c A' n c1 B m cq #[] B' m c2;rw [Array.append_empty,Array.append_empty]at e34;have Z7:w7.heap[w.heap.size]? =some (.cells (di c A' n c1 B' m c2) bL (0,0)):=by
  show(w6.setCell ((aU w.heap.size).add 34) (.slice B' m c2)).heap[w.heap.size]? =_;rw [bC,dp Li,e34]
 have k7:Kept (· =w.heap.size) w6 w7:=by
  show Kept (· =w.heap.size) w6 (w6.setCell ((aU w.heap.size).add 34) (.slice B' m c2))
  rw [bC];exact Kept.setCell (S:=(· =w.heap.size)) (Kept.refl _ w6) (p:=⟨w.heap.size,0+34,none⟩) (fun _=>rfl) _
 clear_value w7;have K6:=k6.tt k7;have Ng:=K6.heap sA (by omega);obtain⟨t1,t2,t3⟩:=fY Ng (cs:=di c A' n c1 B' m c2) (by rw [bH];rfl);refine⟨_,⟨bH ..,Cells.bV Z7⟩,⟨bH ..,fu _ _ _ _ _ _ _,fun j hj=>t1 j (by rw [bH];exact hj)⟩,?_⟩;intro w8
 replace t2:w8.heap[w1.heap.size]? =_:=t2
 replace t3:Kept (· =w1.heap.size) w7 w8:=t3
 clear_value w8;refine⟨_,⟨bH ..,Cells.bV t2⟩,?_⟩;have Gt:∀j,bG A'=some j->w3.heap.size<=j/\j<w4.heap.size:=fun j hj=>by obtain⟨g1,cur,g2⟩:=Row.bV kL hj;exact⟨g1,aY g2⟩
 have QO:∀j,bG B'=some j->w4.heap.size<=j:=fun j hj=>(Row.bV lC hj).1;have s5:=k5.size;have H7:Kept (fun j=>j=w.heap.size\/j=w1.heap.size) w5 w8:=(K6.mono fun _ _ h=>.inl h).trans t3 (fun _ _ h=>.inr h);refine hK A' c1 B' c2 w8 ?_ ?_ (fun j hj he=>by have:=(Gt j hj).2;have:=QO j he;omega) ((jZ.tt ns).trans H7 (fun j hj e=>by omega))
 ·exact Row.base (Row.aJ (Row.aJ kL k5 (fun _ _ h=>h)) H7 (fun j hj e=>by have:=(Gt j hj).1;omega)) (fun j hj=>by have:=(Gt j hj).1;omega)
 ·exact Row.base (Row.aJ lC H7 (fun j hj e=>by have:=QO j hj;omega)) (fun j hj=>by have:=QO j hj;omega)
end
section
variable{w w':World}{F:Nat->Prop}{c k:Nat}{G:GS}{m:CM}{K:Value->World->Prop}
theorem uh(h:CV w F c k G m)(hK:K (.pointer (some ⟨m.x,0,none⟩)) w):bD prog eJ.id #[.pointer (some ⟨c,0,none⟩)] w K:=
 eJ.of (Split.no rfl (Is.mk rfl ⟨_,h.c1,hK⟩))
end
theorem tz(x:HT):x.1.size=32:=x.2.1
theorem EL{G:GS}{a b:HT}:Bu G a b>0↔gl G b a=true:=by
 unfold Bu;split
 ·rename_i h;rw [Bf h];simp
 ·split<;>simp_all
section
variable{w w':World}{F:Nat->Prop}{c k:Nat}{G:GS}{m:CM}{K:Value->World->Prop}{A:Option Addr}{n cx:Nat}{l:List HT}
theorem Gw(h:CV w F c k G m)(hl:HS w A n l)(h0:l≠ [])(hn:n<=400000)(gB:∀x∈l,x∈ids G.D)(hK:∀w',Kept Nil w w'->K (.agg (bQ G l).1) w'):
 bD prog mK.id #[.slice A n cx,.func (.func bK.id) #[.pointer (some ⟨c,0,none⟩)] #[]] w K:=by
 have hlen:=hl.len;obtain⟨x0,t,rfl⟩:∃x0 t,l=x0::t:=by cases l with|nil=>exact absurd rfl h0|cons a b=>exact⟨a,b,rfl⟩
 refine aw.of ?_;unfold aw.W;intro w1;have k1:Kept Nil w w1:=(Kept.refl _ _).alloc _;have nz:w1.heap[w.heap.size]? =some (.cells fz.1 al (0,0)):=aM w _;clear_value w1;simp only [List.length_cons]at hlen;refine Split.no (decide_eq_false (by omega)) ((hl.same k1).load (i:=0) (by omega) rfl ?_);intro w2;have k2:Kept Nil w1 w2:=(Kept.refl _ _).alloc _;have nA:w2.heap[w1.heap.size]? =some (.cells fz.1 al (0,0)):=aM w1 _;clear_value w2;have jU:=k2.heap nz (fun h=>h);have l1:=aY nz;have l2:=aY nA;obtain⟨t1,t2,t3⟩:=iW x0 nA rfl;refine⟨t1,?_⟩;intro w3
 replace t2:w3.heap[w1.heap.size]? =some (.cells x0.1 al (0,0)):=t2
 replace t3:Kept (· =w1.heap.size) w2 w3:=t3
 clear_value w3;have s1:=k1.size;have jZ:Kept Nil w w3:=(k1.tt k2).trans t3 (fun j hj e=>by omega);have yU:=t3.heap jU (by omega);refine aw.cJ (I:=fun s v=>∃(i:Nat) (b:HT),s=(i:Int)/\1<=i/\i<=n/\b∈ids G.D/\((x0::t).drop i).foldl (fun b y=>if gl G b y then y else b) b=bQ G (x0::t)/\v.heap[w1.heap.size]? =some (.cells b.1 al (0,0))/\v.heap[w.heap.size]? =some (.cells fz.1 al (0,0))/\Kept Nil w v) (μ:=fun s _=>((n:Int)-s).toNat) (s:=1) ⟨1,x0,rfl,Nat.le_refl _,by omega,gB _ List.mem_cons_self,rfl,t2,yU,jZ⟩ ?_;rintro s v ⟨i,b,rfl,LF,wZ,hb,he,CY,T7,kv⟩;unfold aw.B1;refine Split.dec (fun dg=>?_) (fun gK=>?_)
 ·have eh:i<n:=by omega
  obtain⟨y,hy⟩:∃y,(x0::t)[i]? =some y:=⟨_,List.getElem?_eq_getElem (by simp;omega)⟩;have MY:y∈ids G.D:=gB _ (List.mem_of_getElem? hy);have hd:(x0::t).drop i=y::(x0::t).drop (i+1):=by
   obtain⟨q1,q2⟩:=lgeS hy;rw [List.drop_eq_getElem_cons q1,q2]
  rw [hd,List.foldl_cons]at he;intro w4;have k4:Kept Nil v w4:=(Kept.refl _ _).drew;clear_value w4;have qK:=kv.tt k4;have Pw:(x0::t)[((i:Nat):Int).toNat]? =some y:=by rw [Int.toNat_natCast];exact hy
  refine(hl.same qK).load (i:=(i:Int)) (by omega) Pw ⟨b.1,⟨b.2.1,Cells.bV (k4.heap CY (fun h=>h))⟩,?_⟩;refine qg (h.same qK) MY hb fun w5 k5=>⟨_,rfl,?_⟩;have xU:=qK.tt k5;have pC:=k5.heap (k4.heap CY (fun h=>h)) (fun h=>h);have sA:=k5.heap (k4.heap T7 (fun h=>h)) (fun h=>h);rw [dH (n:=(i:Int)) (by omega) (by omega)];refine Split.dec (fun x9=>?_) (fun hle=>?_)
  ·rw [if_pos (EL.1 x9)]at he
   refine(hl.same xU).load (i:=(i:Int)) (by omega) Pw ?_;obtain⟨f1,f2,f3⟩:=iW y pC b.2.1;refine⟨f1,?_⟩;exact⟨(i:Int)+1,rfl,⟨i+1,y,rfl,by omega,by omega,MY,he,f2,f3.heap sA (by omega),xU.trans f3 (fun j hj e=>by omega)⟩,by simp only;omega⟩
  ·rw [if_neg (fun e=>hle (EL.2 e))]at he
   exact⟨(i:Int)+1,rfl,⟨i+1,b,rfl,by omega,by omega,hb,he,pC,sA,xU⟩,by simp only;omega⟩
 ·rw [aX,aw.dv]
  rw [List.drop_eq_nil_of_le (by simp;omega)]at he
  replace he:b=bQ G (x0::t):=he
  subst he;refine⟨_,⟨tz _,Cells.bV CY⟩,?_⟩;obtain⟨f1,f2,f3⟩:=iW (bQ G (x0::t)) T7 rfl;exact⟨f1,_,⟨tz _,Cells.bV f2⟩,hK _ (kv.trans f3 (fun j hj e=>by omega))⟩
theorem sE(h:CV w F c k G m)(hl:HS w A n l)(hn:n<=400000)(hK:∀w',Kept Nil w w'->K (.tuple #[.agg (if lD G.D l=0 then bQ G l else fz).1,.int .i64 (lD G.D l)]) w'):
 bD prog dF.id #[.pointer (some ⟨c,0,none⟩),.slice A n cx] w K:=by
 refine dF.of ?_;unfold dF.W;intro w1;have k1:Kept Nil w w1:=(Kept.refl _ _).alloc _;have nz:w1.heap[w.heap.size]? =some (.cells fz.1 al (0,0)):=aM w _;clear_value w1;refine yh (h.same k1) (hl.same k1) hn fun w2 k2=>⟨_,rfl,?_⟩;have mn:=k1.tt k2;have jU:=k2.heap nz (fun h=>h);by_cases h0:lD G.D l=0
 ·rw [if_pos h0]at hK
  refine Split.no (by simp [h0]) ?_;have fP:l≠ []:=fun e=>by unfold lD at h0;rw [if_pos e]at h0;cases h0
  have gB:∀x∈l,x∈ids G.D:=fun x hx=>by
   unfold lD at h0;rw [if_neg fP]at h0;by_cases XU:x∈ids G.D
   ·exact XU
   ·rw [if_pos ⟨x,hx,XU⟩]at h0;cases h0
  refine Gw (h.same mn) (hl.same mn) fP hn gB fun w3 k3=>⟨_,rfl,?_⟩;obtain⟨f1,f2,f3⟩:=iW (bQ G l) (k3.heap jU (fun h=>h)) rfl;rw [h0]at hK;exact⟨f1,_,⟨tz _,Cells.bV f2⟩,hK _ ((mn.tt k3).trans f3 (fun j hj e=>by omega))⟩
 ·rw [if_neg h0]at hK
  refine Split.yes (by simpa using h0) ?_;obtain⟨f1,f2,f3⟩:=iW fz jU rfl;exact⟨f1,_,⟨tz _,Cells.bV f2⟩,hK _ (mn.trans f3 (fun j hj e=>by omega))⟩
end
abbrev SR(w:World)(B b n cx:Nat)(d:Array HT):Prop:=cC w B (some ⟨b,0,none⟩) n cx d.toList
section
variable{w w':World}{B b n cx:Nat}{d:Array HT}
theorem SR.size(h:SR w B b n cx d):d.size=n:=by have:=cC.len h;simpa using this
theorem uV(d:Array HT)(i j:Nat)(hi:i<d.size)(hj:j<d.size):(Sort.swp d i j).toList=(d.toList.set i d[j]!).set j d[i]! :=by
 unfold Sort.swp;simp
structure SE(w:World)(F:Nat->Prop)(c k:Nat)(G:GS)(m:CM)(B b n cx:Nat)(d:Array HT):Prop where
 C:CV w F c k G m
 row:SR w B b n cx d
 mem:∀x∈d.toList,x∈ids G.D
 own:¬m.own c b/\¬F b
variable{F:Nat->Prop}{c k:Nat}{G:GS}{m:CM}
theorem SE.same(h:SE w F c k G m B b n cx d)(hk:Kept Nil w w'):SE w' F c k G m B b n cx d:=⟨h.C.same hk,Row.aJ h.row hk (fun _ _ h=>h),h.mem,h.own⟩
theorem SE.get(h:SE w F c k G m B b n cx d){i:Nat}(hi:i<n):d[i]! ∈ids G.D/\Cells w ((⟨b,0,none⟩:Addr).add (i*32)) d[i]!.1:=by
 have hs:=SR.size h.row;have e:d.toList[i]? =some d[i]! :=by simp [hs,hi]
 refine⟨h.mem _ (List.mem_of_getElem? e),?_⟩;obtain⟨a,h1,_,h3⟩:=(cC.hs h.row).at_ i _ e;cases h1;exact h3
theorem SE.swap(h:SE w F c k G m B b n cx d){i j:Nat}(hi:i<n)(hj:j<n):
 ((d[j]!.1.size=32/\(∀a∈d[j]!.1.toList,a.oneCell'=true)/\∀q,q<32->Wr w (((⟨b,0,none⟩:Addr).add (i*32)).add q))/\
   d[i]!.1.size=32/\(∀a∈d[i]!.1.toList,a.oneCell'=true)/\∀q,q<32->Wr (setCells w ((⟨b,0,none⟩:Addr).add (i*32)) d[j]!.1.toList 0) (((⟨b,0,none⟩:Addr).add (j*32)).add q))/\
 SE (setCells (setCells w ((⟨b,0,none⟩:Addr).add (i*32)) d[j]!.1.toList 0) ((⟨b,0,none⟩:Addr).add (j*32)) d[i]!.1.toList 0) F c k G m B b n cx (Sort.swp d i j)/\
 Kept (· =b) w (setCells (setCells w ((⟨b,0,none⟩:Addr).add (i*32)) d[j]!.1.toList 0) ((⟨b,0,none⟩:Addr).add (j*32)) d[i]!.1.toList 0):=by
 have hs:=SR.size h.row;have gi:=h.get hi;have gj:=h.get hj;simp only [bC,Nat.zero_add];have r1:=cC.setAt h.row hi d[j]!;have r2:=cC.setAt r1 hj d[i]!;have kp:=(gV (b:=b) d[j]!.1.toList w (i*32) 0).tt (gV (b:=b) d[i]!.1.toList (setCells w ⟨b,i*32,none⟩ d[j]!.1.toList 0) (j*32) 0);refine⟨⟨⟨d[j]!.2.1,d[j]!.2.one,fun q hq=>?_⟩,d[i]!.2.1,d[i]!.2.one,fun q hq=>?_⟩,⟨h.C.aJ kp (fun q hq e=>h.own.1 (by rw [<-e];exact hq)) (fun q hq e=>h.own.2 (by rw [<-e];exact hq)),?_,?_,h.own⟩,kp⟩
 ·have:=cC.Ol h.row hi q hq
  rwa [bC]at this
 ·have:=cC.Ol r1 hj q hq
  rwa [bC]at this
 ·show cC _ _ _ _ _ (Sort.swp d i j).toList
  rw [uV d i j (by omega) (by omega)];exact r2
 ·intro x hx
  rw [uV d i j (by omega) (by omega)]at hx;rcases List.mem_or_eq_of_mem_set hx with hx|rfl
  ·rcases List.mem_or_eq_of_mem_set hx with hx|rfl
   ·exact h.mem x hx
   ·exact gj.1
  ·exact gi.1
end
section
variable{w w':World}{B b n cx:Nat}{d:Array HT}{F:Nat->Prop}{c k:Nat}{G:GS}{m:CM}{K:Value->World->Prop}
theorem Ft(h:SE w F c k G m B b n cx d){x y:Nat}(ny:x<=y)(hy:y<=n)(hn:n<=1000000)
 (hK:∀w',SE w' F c k G m B b n cx (Sort.insertionSort (gl G) d x y)->Kept (· =b) w w'->K (.tuple #[]) w'):
 bD prog jy.id #[.slice (some ⟨b,0,none⟩) n cx,.int .i64 (x:Int),.int .i64 (y:Int),.func (.func bK.id) #[.pointer (some ⟨c,0,none⟩)] #[]] w K:=by
 refine cO.of ?_;unfold cO.W;rw [dH (n:=(x:Int)) (by omega) (by omega)];refine cO.cJ (I:=fun s v=>∃(i:Nat) (dk:Array HT),s=(i:Int)/\x<i/\i<=y+1/\SE v F c k G m B b n cx dk/\Sort.insOuter (gl G) x y i dk=Sort.insertionSort (gl G) d x y/\Kept (· =b) w v) (μ:=fun s _=>((y:Int)+1-s).toNat) (s:=(x:Int)+1) ⟨x+1,d,rfl,by omega,by omega,h,rfl,Kept.refl _ _⟩ ?_;rintro s v ⟨i,dk,rfl,RB,hiy,hv,ho,kv⟩;refine Split.dec (fun dg=>?_) (fun gK=>?_)
 ·have dg:i<y:=by omega
  rw [Sort.insOuter,if_pos dg]at ho;refine cO.iG (I:=fun s v=>∃(j:Nat) (dj:Array HT),s=(j:Int)/\j<=i/\SE v F c k G m B b n cx dj/\Sort.insInner (gl G) x j dj=Sort.insInner (gl G) x i dk/\Kept (· =b) w v) (μ:=fun s _=>s.toNat) (s:=(i:Int)) ⟨i,dk,rfl,Nat.le_refl _,hv,rfl,kv⟩ ?_;rintro s u ⟨j,dj,rfl,Kh,hu,gB,ku⟩;unfold cO.B2;intro w3;have k3:Kept Nil u w3:=(Kept.refl _ _).drew;clear_value w3;have stop:∀ {u':World},SE u' F c k G m B b n cx dj->Kept (· =b) w u'->Sort.insInner (gl G) x j dj=dj->cO.jr (some ⟨b,0,none⟩) n cx (x:Int) (y:Int) (some ⟨c,0,none⟩) (i:Int) (j:Int) (bW (cO.e1 (some ⟨b,0,none⟩) n cx (x:Int) (y:Int) (some ⟨c,0,none⟩)) (fun s v=>∃(i:Nat) (dk:Array HT),s=(i:Int)/\x<i/\i<=y+1/\SE v F c k G m B b n cx dk/\Sort.insOuter (gl G) x y i dk=Sort.insertionSort (gl G) d x y/\Kept (· =b) w v) (fun s _=>((y:Int)+1-s).toNat) (i:Int) v (cO.q1 K)) u':=fun Lk XE e=>by
   unfold cO.jr;rw [dH (n:=(i:Int)) (by omega) (by omega)];exact⟨(i:Int)+1,rfl,⟨i+1,dj,rfl,by omega,by omega,Lk,by rw [<-ho,<-gB,e],XE⟩,by simp only;omega⟩
  have TU:=hu.same k3;have ML:Kept (· =b) w w3:=ku.trans k3 (fun _ _ h=>h.elim);refine Split.dec (fun hjx=>?_) (fun hjx=>?_)
  ·have hj0:0<j:=by omega
   have ew:i64.wrap ((j:Int)-(1:Int))=((j-1:Nat):Int):=by
    rw [iZ (by omega) (by omega)];omega
   rw [ew];have g1:=TU.get (i:=j) (by omega);have g2:=TU.get (i:=j-1) (by omega);refine⟨⟨by omega,by omega⟩,dj[j]!.1,⟨dj[j]!.2.1,by rw [Int.toNat_natCast];exact g1.2⟩,⟨by omega,by omega⟩,dj[j-1]!.1,⟨dj[j-1]!.2.1,by rw [Int.toNat_natCast];exact g2.2⟩,?_⟩;refine qg TU.C g1.1 g2.1 fun w4 k4=>⟨_,rfl,?_⟩;have hu4:=TU.same k4;have Tl:Kept (· =b) w w4:=ML.trans k4 (fun _ _ h=>h.elim);have ej:∃j',j=j'+1:=⟨j-1,by omega⟩;refine Split.dec (fun abm=>?_) (fun abE=>?_)
   ·have Vm:=zc.1 abm
    intro w5;have k5:Kept Nil w4 w5:=(Kept.refl _ _).drew;clear_value w5;have hu5:=hu4.same k5;have FZ:Kept (· =b) w w5:=Tl.trans k5 (fun _ _ h=>h.elim);have f1:=hu5.get (i:=j) (by omega);have f2:=hu5.get (i:=j-1) (by omega);obtain⟨⟨t1,t2⟩,t3,t4⟩:=hu5.swap (i:=j) (j:=j-1) (by omega) (by omega);simp only [Int.toNat_natCast];refine⟨⟨by omega,by omega⟩,dj[j-1]!.1,⟨dj[j-1]!.2.1,f2.2⟩,⟨by omega,by omega⟩,dj[j]!.1,⟨dj[j]!.2.1,f1.2⟩,⟨by omega,by omega⟩,t1,⟨by omega,by omega⟩,t2,?_⟩;refine⟨((j-1:Nat):Int),rfl,⟨j-1,Sort.swp dj j (j-1),rfl,by omega,t3,?_,FZ.tt t4⟩,by simp only;omega⟩;obtain⟨j',rfl⟩:=ej;rw [<-gB];show _=Sort.insInner (gl G) x (j'+1) dj
    rw [Sort.insInner,if_pos (by simp only [Bool.and_eq_true,decide_eq_true_eq];exact⟨by omega,Vm⟩)];rfl
   ·rw [aX,cO.kW]
    refine stop hu4 Tl ?_;have Vm:gl G dj[j]! dj[j-1]! =false:=by
     cases hg:gl G dj[j]! dj[j-1]!
     ·rfl
     ·exact absurd (zc.2 hg) abE
    obtain⟨j',rfl⟩:=ej;rw [Sort.insInner,if_neg (by simp only [Bool.and_eq_true,decide_eq_true_eq];intro e;have:=e.2;rw [show j'+1-1=j' from rfl]at Vm;rw [Vm]at this;cases this)]
  ·rw [aX,cO.kW]
   refine stop TU ML ?_;cases j with
   |zero=>rfl
   |succ j'=>rw [Sort.insInner,if_neg (by simp only [Bool.and_eq_true,decide_eq_true_eq];intro e;have:=e.1;omega)]
 ·rw [aX,cO.dv]
  unfold cO.dd;rw [Sort.insOuter,if_neg (by omega)]at ho;rw [ho]at hv;exact hK v hv kv
end
theorem wN{x:Int}{i:Nat}(h:x=(i:Int))(hi:i<4000000):i64.wrap x=(i:Int):=by rw [iZ (by omega) (by omega),h]
theorem vV(G:GS):Sort.SWO (gl G) where
 irrefl:=mH G
 trans:=fun _ _ _=>mU
 ntrans:=fun x y z h1 h2=>by
  cases h:gl G x z
  ·rfl
  ·exfalso
   cases h3:gl G y x
   ·have:=mV h1 h3
    subst this;rw [h2]at h;cases h
   ·rw [mU h3 h]at h2;cases h2
section
variable{w w':World}{B b n cx:Nat}{d:Array HT}{F:Nat->Prop}{c k:Nat}{G:GS}{m:CM}{K:Value->World->Prop}
theorem SE.cmp(h:SE w F c k G m B b n cx d){x y:Int}{i j:Nat}(hx:x=(i:Int))(hy:y=(j:Int))(hi:i<n)(hj:j<n){Z:Int->World->Prop}
 (hK:∀r w',SE w' F c k G m B b n cx d->Kept Nil w w'->(r<0↔gl G d[i]! d[j]! =true)->Z r w'):
 (0<=x/\x<(n:Int))/\Is (some (⟨b,0,none⟩:Addr)) fun a:Addr=>∃t:Array Value,(t.size=32/\Cells w (a.add (x.toNat*32)) t)/\(0<=y/\y<(n:Int))/\Is (some (⟨b,0,none⟩:Addr)) fun a:Addr=>∃u:Array Value,(u.size=32/\Cells w (a.add (y.toNat*32)) u)/\
   bD prog bK.id #[.pointer (some ⟨c,0,none⟩),.agg t,.agg u] w fun q r=>∃t:Int,q=.int .i64 t/\Z t r:=by
 subst hx hy;have g1:=h.get hi;have g2:=h.get hj;refine⟨⟨by omega,by omega⟩,Is.mk rfl ⟨d[i]!.1,⟨d[i]!.2.1,by rw [Int.toNat_natCast];exact g1.2⟩,⟨by omega,by omega⟩,Is.mk rfl ⟨d[j]!.1,⟨d[j]!.2.1,by rw [Int.toNat_natCast];exact g2.2⟩,?_⟩⟩⟩;exact qg h.C g1.1 g2.1 fun w4 k4=>⟨_,rfl,hK _ w4 (h.same k4) k4 zc⟩
theorem SE.sw(h:SE w F c k G m B b n cx d){x y:Int}{i j:Nat}(hx:x=(i:Int))(hy:y=(j:Int))(hi:i<n)(hj:j<n):
 ((0<=y/\y<(n:Int))/\(d[j]!.1.size=32/\Cells w ((⟨b,0,none⟩:Addr).add (y.toNat*32)) d[j]!.1)/\(0<=x/\x<(n:Int))/\(d[i]!.1.size=32/\Cells w ((⟨b,0,none⟩:Addr).add (x.toNat*32)) d[i]!.1)/\
   (d[j]!.1.size=32/\(∀a∈d[j]!.1.toList,a.oneCell'=true)/\∀q,q<32->Wr w (((⟨b,0,none⟩:Addr).add (x.toNat*32)).add q))/\
   d[i]!.1.size=32/\(∀a∈d[i]!.1.toList,a.oneCell'=true)/\∀q,q<32->Wr (setCells w ((⟨b,0,none⟩:Addr).add (x.toNat*32)) d[j]!.1.toList 0) (((⟨b,0,none⟩:Addr).add (y.toNat*32)).add q))/\
 SE (setCells (setCells w ((⟨b,0,none⟩:Addr).add (x.toNat*32)) d[j]!.1.toList 0) ((⟨b,0,none⟩:Addr).add (y.toNat*32)) d[i]!.1.toList 0) F c k G m B b n cx (Sort.swp d i j)/\
 Kept (· =b) w (setCells (setCells w ((⟨b,0,none⟩:Addr).add (x.toNat*32)) d[j]!.1.toList 0) ((⟨b,0,none⟩:Addr).add (y.toNat*32)) d[i]!.1.toList 0):=by
 subst hx hy;obtain⟨⟨t1,t2⟩,t3,t4⟩:=h.swap hi hj;have f1:=h.get hi;have f2:=h.get hj;rw [Int.toNat_natCast,Int.toNat_natCast];exact⟨⟨⟨by omega,by omega⟩,⟨d[j]!.2.1,f2.2⟩,⟨by omega,by omega⟩,⟨d[i]!.2.1,f1.2⟩,t1,t2⟩,t3,t4⟩
theorem SE.iT(h:SE w F c k G m B b n cx d){q:Nat}(hk:Kept (· =q) w w')(iT:¬m.own c q/\¬F q/\q≠b):SE w' F c k G m B b n cx d:=
 ⟨h.C.aJ hk (fun j hj e=>iT.1 (by rw [<-e];exact hj)) (fun j hj e=>iT.2.1 (by rw [<-e];exact hj)),Row.aJ h.row hk (fun j hj e=>by cases hj;exact iT.2.2 e.symm),h.mem,h.own⟩
theorem SE.lt(h:SE w F c k G m B b n cx d):b<w.heap.size:=by
 obtain⟨_,cur,p9⟩:=Row.bV h.row (k:=b) rfl;exact aY p9
theorem SE.fresh(h:SE w F c k G m B b n cx d){q:Nat}(hq:w.heap.size<=q):¬m.own c q/\¬F q/\q≠b:=
 ⟨fun e=>by have:=h.C.low q (.inl e);omega,fun e=>by have:=h.C.low q (.inr e);omega,fun e=>by have:=h.lt;omega⟩
theorem Fk(h:SE w F c k G m B b n cx d){x y:Nat}(ny:x<y)(hy:y<=n)(hn:n<=1000000)
 (hK:∀d' w',SE w' F c k G m B b n cx d'->Sort.PermIn x y d d'->Kept (· =b) w w'->K (.tuple #[]) w'):
 bD prog jB.id #[.slice (some ⟨b,0,none⟩) n cx,.int .i64 (x:Int),.int .i64 (y:Int),.func (.func bK.id) #[.pointer (some ⟨c,0,none⟩)] #[]] w K:=by
 refine eW.of ?_;unfold eW.W;rw [wN (i:=y-1) (by omega) (by omega)];refine eW.cJ (I:=fun s v=>∃(i j:Nat) (dk:Array HT),s=((i:Int),(j:Int))/\x<=i/\j<y/\SE v F c k G m B b n cx dk/\Sort.PermIn x y d dk/\Kept (· =b) w v) (μ:=fun s _=>(s.2+1-s.1).toNat) (s:=((x:Int),((y-1:Nat):Int))) ⟨x,y-1,d,rfl,Nat.le_refl _,by omega,h,Sort.permIn_refl _ _ _,Kept.refl _ _⟩ ?_;rintro s v ⟨i,j,dk,rfl,hi,hj,hv,hp,kv⟩;unfold eW.B1;refine Split.dec (fun dg=>?_) (fun gK=>?_)
 ·simp only at dg
  have dg:i<j:=by omega
  intro w3;have k3:Kept Nil v w3:=(Kept.refl _ _).drew;clear_value w3;have h3:=hv.same k3;have hs:=SR.size h3.row;obtain⟨⟨a1,a2,a3,a4,a5,a6⟩,h5,k5⟩:=h3.sw (x:=(i:Int)) (y:=(j:Int)) rfl rfl (by omega) (by omega);refine⟨a1,_,a2,a3,_,a4,a3,a5,a1,a6,?_⟩;simp only;rw [wN (x:=(i:Int)+1) (i:=i+1) (by omega) (by omega),wN (x:=(j:Int)-1) (i:=j-1) (by omega) (by omega)];refine⟨(((i+1:Nat):Int),((j-1:Nat):Int)),rfl,⟨i+1,j-1,_,rfl,by omega,by omega,h5,?_,(kv.trans k3 (fun _ _ h=>h.elim)).tt k5⟩,by simp only;omega⟩;exact Sort.permIn_trans _ _ _ x y hp (Sort.swp_permIn dk x y i j hi (by omega) (by omega) (by omega) (by omega))
 ·rw [aX,eW.dv]
  exact hK dk v hv hp kv
def Oi(w:World)(q:Nat):Prop:=∃(u:Int) (t:TypeId),w.heap[q]? =some (.cells #[.int .i64 u] t (0,0))
theorem Oi.aJ{S:Nat->Prop}{q:Nat}(h:Oi w q)(hk:Kept S w w')(hS:¬S q):Oi w' q:=by
 obtain⟨u,t,h⟩:=h;exact⟨u,t,hk.heap h hS⟩
theorem sW(h:SE w F c k G m B b n cx d){x y q:Nat}(hx:x<n)(hy:y<n)(hq:Oi w q)(iT:¬m.own c q/\¬F q/\q≠b)
 (hK:∀(x' y':Nat) w',((x'=x/\y'=y)\/(x'=y/\y'=x))->SE w' F c k G m B b n cx d->Oi w' q->Kept (· =q) w w'->K (.tuple #[.int .i64 (x':Int),.int .i64 (y':Int)]) w'):
 bD prog lg.id #[.slice (some ⟨b,0,none⟩) n cx,.int .i64 (x:Int),.int .i64 (y:Int),.pointer (some ⟨q,0,none⟩),.func (.func bK.id) #[.pointer (some ⟨c,0,none⟩)] #[]] w K:=by
 refine sX.of ?_;unfold sX.W;intro w3;have k3:Kept Nil w w3:=(Kept.refl _ _).drew;clear_value w3;refine(h.same k3).cmp (i:=y) (j:=x) rfl rfl hy hx fun r w4 h4 k4 _=>?_;obtain⟨u,t,h0⟩:=(hq.aJ k3 (fun h=>h)).aJ k4 (fun h=>h);have nt:=k3.tt k4;refine Split.dec (fun _=>?_) (fun _=>hK x y w4 (.inl ⟨rfl,rfl⟩) h4 ⟨u,t,h0⟩ (nt.mono fun _ _ h=>h.elim));refine Is.mk rfl ⟨u,by rw [aE h0];rfl,Is.mk rfl ⟨dN h0 (by simp),?_⟩⟩;intro w5;have e5:w5.heap[q]? =some (.cells #[.int .i64 (i64.wrap (u+1))] t (0,0)):=by
  show(w4.setCell ⟨q,0,none⟩ _).heap[q]? =_;rw [dp h0 0];rfl
 have k5:Kept (· =q) w4 w5:=Kept.setCell (S:=(· =q)) (Kept.refl _ w4) (p:=⟨q,0,none⟩) (fun _=>rfl) _;clear_value w5;exact hK y x w5 (.inr ⟨rfl,rfl⟩) (h4.iT k5 iT) ⟨_,_,e5⟩ ((nt.mono fun _ _ h=>h.elim).tt k5)
theorem Fs(h:SE w F c k G m B b n cx d){x y z q:Nat}{p:Nat->Prop}(hx:p x)(hy:p y)(hz:p z)(hp:∀i,p i->i<n)(hq:Oi w q)(iT:¬m.own c q/\¬F q/\q≠b)
 (hK:∀(r:Nat) w',p r->SE w' F c k G m B b n cx d->Oi w' q->Kept (· =q) w w'->K (.int .i64 (r:Int)) w'):
 bD prog lh.id #[.slice (some ⟨b,0,none⟩) n cx,.int .i64 (x:Int),.int .i64 (y:Int),.int .i64 (z:Int),.pointer (some ⟨q,0,none⟩),.func (.func bK.id) #[.pointer (some ⟨c,0,none⟩)] #[]] w K:=by
 refine sY.of ?_;unfold sY.W;have two:∀ {x y x' y':Nat},p x->p y->((x'=x/\y'=y)\/(x'=y/\y'=x))->p x'/\p y':=fun hx hy e=>by
  rcases e with⟨rfl,rfl⟩|⟨rfl,rfl⟩
  ·exact⟨hx,hy⟩
  ·exact⟨hy,hx⟩
 refine sW h (hp _ hx) (hp _ hy) hq iT fun x1 y1 w1 e1 h1 c1 k1=>⟨_,_,rfl,?_⟩;obtain⟨px1,py1⟩:=two hx hy e1;refine sW h1 (hp _ py1) (hp _ hz) c1 iT fun x2 y2 w2 e2 h2 c2 k2=>⟨_,_,rfl,?_⟩;obtain⟨px2,_⟩:=two py1 hz e2;refine sW h2 (hp _ px1) (hp _ px2) c2 iT fun x3 y3 w3 e3 h3 c3 k3=>⟨_,_,rfl,?_⟩;exact hK y3 w3 (two px1 px2 e3).2 h3 c3 ((k1.tt k2).tt k3)
theorem Fm(h:SE w F c k G m B b n cx d){x y:Nat}(ny:x+12<y)(hy:y<=n)(hn:n<50)
 (hK:∀(r:Nat) (t:Int) w',x<=r->r<y->SE w' F c k G m B b n cx d->Kept Nil w w'->K (.tuple #[.int .i64 (r:Int),.int .i64 t]) w'):
 bD prog jM.id #[.slice (some ⟨b,0,none⟩) n cx,.int .i64 (x:Int),.int .i64 (y:Int),.func (.func bK.id) #[.pointer (some ⟨c,0,none⟩)] #[]] w K:=by
 refine sV.of ?_;unfold sV.W;intro w3;have k3:Kept Nil w w3:=(Kept.refl _ _).alloc _;have hc:Oi w3 w.heap.size:=⟨_,_,aM w _⟩;clear_value w3;have e4:∀L:Nat,((L:Nat):Int).tdiv 4=((L/4:Nat):Int):=fun _=>rfl;have f4:(y-x)/4<=20:=by omega
 have g4:(y-x)/4*3+x<y:=by omega
 rw [wN (x:=(y:Int)-x) (i:=y-x) (by omega) (by omega),e4];generalize (y-x)/4=q at f4 g4;rw [wN (x:=((q:Nat):Int)) (i:=q) rfl (by omega),wN (x:=((q:Nat):Int)*1) (i:=q) (by omega) (by omega),wN (x:=((q:Nat):Int)*2) (i:=q*2) (by omega) (by omega),wN (x:=((q:Nat):Int)*3) (i:=q*3) (by omega) (by omega),
  wN (x:=(x:Int)+((q:Nat):Int)) (i:=x+q) (by omega) (by omega),wN (x:=(x:Int)+((q*2:Nat):Int)) (i:=x+q*2) (by omega) (by omega),wN (x:=(x:Int)+((q*3:Nat):Int)) (i:=x+q*3) (by omega) (by omega)]
 refine⟨by decide,by decide,by decide,Split.yes (decide_eq_true (by omega)) (Split.no (decide_eq_false (by omega)) ?_)⟩;have hf:=h.fresh (Nat.le_refl _);refine Fs (h.same k3) (p:=fun i=>x<=i/\i<y) ⟨by omega,by omega⟩ ⟨by omega,by omega⟩ ⟨by omega,by omega⟩ (fun i hi=>by omega) hc hf fun r w4 hr h4 c4 k4=>⟨_,rfl,?_⟩;obtain⟨u,t,h0⟩:=c4;have nt:Kept Nil w w4:=k3.trans k4 (fun j hj e=>by omega);refine⟨u,by rw [aE h0];rfl,Split.mk (fun _=>hK r _ w4 hr.1 hr.2 h4 nt) fun _=>Split.mk (fun _=>hK r _ w4 hr.1 hr.2 h4 nt) fun _=>hK r _ w4 hr.1 hr.2 h4 nt⟩
end
theorem GJ(x M:Nat)(hM0:1<=M)(hM:M<4000000):∃O:Nat,O<M/\i64.wrap (u64.wrap (((BitVec.ofInt 64 (x:Int)&&& BitVec.ofInt 64 (u64.wrap ((M:Int)-(1:Int)))).toNat:Nat):Int))=(O:Int):=by
 have e1:u64.wrap ((M:Int)-(1:Int))=((M-1:Nat):Int):=by
  rw [show(M:Int)-1=((M-1:Nat):Int)by omega];exact km (by omega)
 rw [e1];have hle:(BitVec.ofInt 64 (x:Int)&&& BitVec.ofInt 64 ((M-1:Nat):Int)).toNat<=M-1:=by
  rw [BitVec.toNat_and,BitVec.ofInt_natCast (n:=M-1),BitVec.toNat_ofNat,Nat.mod_eq_of_lt (a:=M-1) (by omega)];exact Nat.and_le_right
 generalize (BitVec.ofInt 64 (x:Int)&&& BitVec.ofInt 64 ((M-1:Nat):Int)).toNat=O at hle;exact⟨O,by omega,by rw [km (by omega)];exact iZ (by omega) (by omega)⟩
section
variable{w w':World}{B b n cx:Nat}{d:Array HT}{F:Nat->Prop}{c k:Nat}{G:GS}{m:CM}{K:Value->World->Prop}
theorem Fj{q X:Nat}{t:TypeId}(hX:X<18446744073709551616)(hq:w.heap[q]? =some (.cells #[.int .u64 (X:Int)] t (0,0)))
 (hK:∀(X':Nat) w',X'<18446744073709551616->w'.heap[q]? =some (.cells #[.int .u64 (X':Int)] t (0,0))->Kept (· =q) w w'->K (.int .u64 (X':Int)) w'):
 bD prog pH.id #[.pointer (some ⟨q,0,none⟩)] w K:=by
 have h:=AnyF.xorshift_Next (P:=prog) (ρ:=Tryz.qy) {Tryz.xE with} q 0 X hX w (by rw [aE hq];rfl) (dN hq (by simp)).2;refine Calls.mono h ?_;rintro e w' ⟨rfl,rfl⟩;refine⟨_,rfl,hK _ _ (Sort.xorNextN_lt X hX) ?_ ?_⟩
 ·show(w.setCell ⟨q,0,none⟩ _).heap[q]? =_
  rw [dp hq 0];rfl
 ·exact(((Kept.setCell (S:=(· =q)) (Kept.refl _ w) (p:=⟨q,0,none⟩) (fun _=>rfl) _).drew).drew).drew
theorem Fu(h:SE w F c k G m B b n cx d){x y:Nat}(ny:x+12<y)(hy:y<=n)(hn:n<=1000000)
 (hK:∀d' w',SE w' F c k G m B b n cx d'->Sort.PermIn x y d d'->Kept (· =b) w w'->K (.tuple #[]) w'):
 bD prog jz.id #[.slice (some ⟨b,0,none⟩) n cx,.int .i64 (x:Int),.int .i64 (y:Int),.func (.func bK.id) #[.pointer (some ⟨c,0,none⟩)] #[]] w K:=by
 refine eZ.of ?_;unfold eZ.W;have e4:∀L:Nat,((L:Nat):Int).tdiv 4=((L/4:Nat):Int):=fun _=>rfl;obtain⟨L,hL,g12⟩:∃L:Nat,y=x+L/\12<L:=⟨y-x,by omega,by omega⟩;subst hL;rw [wN (x:=((x+L:Nat):Int)-(x:Int)) (i:=L) (by omega) (by omega)];refine Split.yes (decide_eq_true (by omega)) ?_;intro w3;have k3:Kept Nil w w3:=(Kept.refl _ _).alloc _;obtain⟨tx,qf⟩:∃t:TypeId,w3.heap[w.heap.size]? =some (.cells #[.int .u64 0] t (0,0)):=⟨_,aM w _⟩;clear_value w3;refine⟨dN qf (by simp),?_⟩;intro w4;have ud:w4.heap[w.heap.size]? =some (.cells #[.int .u64 ((L:Nat):Int)] tx (0,0)):=by
  show(w3.setCell ⟨w.heap.size,0,none⟩ _).heap[w.heap.size]? =_;rw [dp qf 0,km (by omega)];rfl
 have k4:Kept (· =w.heap.size) w3 w4:=Kept.setCell (S:=(· =w.heap.size)) (Kept.refl _ w3) (p:=⟨w.heap.size,0,none⟩) (fun _=>rfl) _;clear_value w4;have nt:Kept Nil w w4:=k3.trans k4 (fun j hj e=>by omega);have hf:=h.fresh (Nat.le_refl _);have h4:=h.same nt;refine Calls.mono (AnyF.nextPowerOfTwo (P:=prog) (ρ:=Tryz.qy) {Tryz.xE with} L (by omega) w4) ?_;rintro e w5 ⟨rfl,rfl⟩;have hM:=Sort.two_pow_bitsLen_le (n:=L) (by omega);have hM1:1<=2 ^ Sort.bitsLen L:=Nat.two_pow_pos _;rw [Nat.one_shiftLeft];generalize 2 ^ Sort.bitsLen L=M at hM hM1;have g4:1<=L/4/\L/4*2+1<L:=by omega
 refine⟨_,rfl,(M:Int),rfl,by decide,?_⟩;have ei:∀t:Nat,t<=1->True:=fun _ _=>trivial;rw [e4,wN (x:=((L/4:Nat):Int)) (i:=L/4) rfl (by omega),wN (x:=((L/4:Nat):Int)*2) (i:=L/4*2) (by omega) (by omega),wN (x:=(x:Int)+((L/4*2:Nat):Int)) (i:=x+L/4*2) (by omega) (by omega),wN (x:=((x+L/4*2:Nat):Int)-1) (i:=x+L/4*2-1) (by omega) (by omega)];refine eZ.cJ (I:=fun s v=>∃(i X:Nat) (dk:Array HT),s=(i:Int)/\x<=i/\i<=x+L/4*2+2/\X<18446744073709551616/\v.heap[w.heap.size]? =some (.cells #[.int .u64 (X:Int)] tx (0,0))/\SE v F c k G m B b n cx dk/\Sort.PermIn x (x+L) d dk/\Kept (· =b) w v) (μ:=fun s _=>(((x+L/4*2+2:Nat):Int)-s).toNat) (s:=((x+L/4*2-1:Nat):Int)) ⟨x+L/4*2-1,L,d,rfl,by omega,by omega,by omega,ud,h4,Sort.permIn_refl _ _ _,nt.mono fun _ _ h=>h.elim⟩ ?_;rintro s v ⟨i,X,dk,rfl,hi,CU,hX,CY,hv,hp,kv⟩;unfold eZ.B1;rw [e4,wN (x:=((L/4:Nat):Int)) (i:=L/4) rfl (by omega),wN (x:=((L/4:Nat):Int)*2) (i:=L/4*2) (by omega) (by omega),wN (x:=(x:Int)+((L/4*2:Nat):Int)) (i:=x+L/4*2) (by omega) (by omega),wN (x:=((x+L/4*2:Nat):Int)+1) (i:=x+L/4*2+1) (by omega) (by omega)];refine⟨by decide,Split.dec (fun hle=>?_) (fun gK=>?_)⟩
 ·have eh:i<=x+L/4*2+1:=by omega
  refine Fj hX CY fun X' w6 hX' qd k6=>⟨(X':Int),rfl,?_⟩;obtain⟨O,hO,eO⟩:=GJ X' M hM1 (by omega);rw [eO];have h6:=hv.iT k6 hf;have fin:∀(j:Nat),j<L->∀ {u:World},Kept Nil w6 u->_:=fun j hj {u} ku=>(h6.same ku).sw (x:=(i:Int)) (y:=((x+j:Nat):Int)) (i:=i) (j:=x+j) rfl rfl (by omega) (by omega);have nxt:∀ {j:Nat} {u t:World},j<L->Kept Nil w6 u->SE t F c k G m B b n cx (Sort.swp dk i (x+j))->Kept (· =b) u t->∃s1:Int,i64.wrap ((i:Int)+1)=s1/\(∃(i X:Nat) (dk:Array HT),s1=(i:Int)/\x<=i/\i<=x+L/4*2+2/\X<18446744073709551616/\t.heap[w.heap.size]? =some (.cells #[.int .u64 (X:Int)] tx (0,0))/\SE t F c k G m B b n cx dk/\Sort.PermIn x (x+L) d dk/\Kept (· =b) w t)/\(((x+L/4*2+2:Nat):Int)-s1).toNat<(((x+L/4*2+2:Nat):Int)-(i:Int)).toNat:=fun {j u t} hj ku ht kt=>by
   rw [wN (x:=(i:Int)+1) (i:=i+1) (by omega) (by omega)];have mF:=SR.size hv.row;exact⟨_,rfl,⟨i+1,X',_,rfl,by omega,by omega,hX',kt.heap (ku.heap qd (fun h=>h)) hf.2.2,ht,Sort.permIn_trans _ _ _ x (x+L) hp (Sort.swp_permIn dk x (x+L) i (x+j) hi (by omega) (by omega) (by omega) (by omega)),(((kv.trans k6 (fun j hj e=>by omega)).trans ku (fun _ _ h=>h.elim)).tt kt)⟩,by omega⟩
  refine Split.dec (fun hOL=>?_) (fun hOL=>?_)
  ·rw [wN (x:=(O:Int)-(L:Int)) (i:=O-L) (by omega) (by omega),wN (x:=(x:Int)+((O-L:Nat):Int)) (i:=x+(O-L)) (by omega) (by omega)]
   intro w7;have k7:Kept Nil w6 w7:=(Kept.refl _ _).drew;clear_value w7;obtain⟨⟨a1,a2,a3,a4,a5,a6⟩,h5,k5⟩:=fin (O-L) (by omega) k7;refine⟨a1,_,a2,a3,_,a4,a3,a5,a1,a6,?_⟩;obtain⟨s1,e1,e2,e3⟩:=nxt (by omega) k7 h5 k5;simp only;rw [e1];exact⟨s1,rfl,e2,e3⟩
  ·rw [wN (x:=(x:Int)+(O:Int)) (i:=x+O) (by omega) (by omega)]
   intro w7;have k7:Kept Nil w6 w7:=(Kept.refl _ _).drew;clear_value w7;obtain⟨⟨a1,a2,a3,a4,a5,a6⟩,h5,k5⟩:=fin O (by omega) k7;refine⟨a1,_,a2,a3,_,a4,a3,a5,a1,a6,?_⟩;obtain⟨s1,e1,e2,e3⟩:=nxt (by omega) k7 h5 k5;simp only;rw [e1];exact⟨s1,rfl,e2,e3⟩
 ·rw [aX,eZ.dv]
  exact hK dk v hv hp kv
theorem Cb{d:Array HT}{x y:Nat}(h:∀t,x<t->t<y->gl G d[t]! d[t-1]! =false):Sort.SortedIn (gl G) x y d:=by
 have key:∀(r i:Nat),x<=i->i+r+1<y->gl G d[i+r+1]! d[i]! =false:=by
  intro r
  induction r with
  |zero=>intro i hi hy;exact h (i+1) (by omega) hy
  |succ r ih=>
   intro i hi hy;have h1:=h (i+(r+1)+1) (by omega) hy;have h2:=ih i hi (by omega);exact(vV G).ntrans _ _ _ h1 h2
 intro i j hi sD hj;have:=key (j-i-1) i hi (by omega)
 rwa [show i+(j-i-1)+1=j by omega]at this
theorem Fo(h:SE w F c k G m B b n cx d){x y:Nat}(ny:x<y)(hy:y<=n)(hn:n<50)
 (hK:∀(t:Bool) w',(t=true->Sort.SortedIn (gl G) x y d)->SE w' F c k G m B b n cx d->Kept Nil w w'->K (.bool t) w'):
 bD prog iN.id #[.slice (some ⟨b,0,none⟩) n cx,.int .i64 (x:Int),.int .i64 (y:Int),.func (.func bK.id) #[.pointer (some ⟨c,0,none⟩)] #[]] w K:=by
 refine bP.of ?_;unfold bP.W;rw [wN (x:=(x:Int)+1) (i:=x+1) (by omega) (by omega)];refine bP.cJ (I:=fun s v=>s=(false,((x+1:Nat):Int),0)/\v=w) (μ:=fun _ _=>0) (s:=(false,((x+1:Nat):Int),0)) ⟨rfl,rfl⟩ ?_;rintro s v ⟨rfl,rfl⟩;unfold bP.B1;refine Split.yes (decide_eq_true (by simp only;omega)) ?_;refine bP.iG (I:=fun s u=>∃i:Nat,s=(i:Int)/\x<i/\i<=y/\(∀t,x<t->t<i->gl G d[t]! d[t-1]! =false)/\SE u F c k G m B b n cx d/\Kept Nil v u) (μ:=fun s _=>((y:Int)-s).toNat) (s:=((x+1:Nat):Int)) ⟨x+1,rfl,by omega,by omega,fun t h1 h2=>by omega,h,Kept.refl _ _⟩ ?_;rintro s u ⟨i,rfl,RB,hiy,NU,hu,ku⟩;unfold bP.B2;intro w3;have k3:Kept Nil u w3:=(Kept.refl _ _).drew;clear_value w3;have h3:=hu.same k3;have jZ:=ku.tt k3;have stop:∀ {t:World},SE t F c k G m B b n cx d->Kept Nil v t->(i=y->Sort.SortedIn (gl G) x y d)->bP.jr (some ⟨b,0,none⟩) n cx (x:Int) (y:Int) (some ⟨c,0,none⟩) false (i:Int) 0 (bW (bP.e1 (some ⟨b,0,none⟩) n cx (x:Int) (y:Int) (some ⟨c,0,none⟩)) (fun s v_1=>s=(false,((x+1:Nat):Int),0)/\v_1=v) (fun _ _=>0) (false,((x+1:Nat):Int),0) v (bP.q1 K)) t:=fun {t} ht kt hs=>by
  unfold bP.jr;by_cases he:i=y
  ·refine Split.yes (by rw [he];exact beq_self_eq_true _) ?_
   rw [iO];exact hK true t (fun _=>hs he) ht kt
  ·refine Split.no (beq_eq_false_iff_ne.2 (by omega)) ?_
   rw [wN (x:=(y:Int)-(x:Int)) (i:=y-x) (by omega) (by omega)];refine Split.yes (decide_eq_true (by omega)) ?_;rw [iO];exact hK false t (fun e=>by cases e) ht kt
 refine Split.dec (fun dg=>?_) (fun gK=>?_)
 ·have dg:i<y:=by omega
  rw [wN (x:=(i:Int)-1) (i:=i-1) (by omega) (by omega)];refine h3.cmp (i:=i) (j:=i-1) rfl rfl (by omega) (by omega) fun r w4 h4 k4 hr=>?_;have nt:=jZ.tt k4;by_cases ux:r<0
  ·refine Split.no (by rw [decide_eq_true ux];rfl) ?_
   rw [aX,bP.kW];exact stop h4 nt (fun e=>absurd e (by omega))
  ·refine Split.yes (by rw [decide_eq_false ux];rfl) ?_
   rw [wN (x:=(i:Int)+1) (i:=i+1) (by omega) (by omega)];refine⟨((i+1:Nat):Int),rfl,⟨i+1,rfl,by omega,by omega,fun t h1 h2=>?_,h4,nt⟩,by simp only;omega⟩;rcases Nat.lt_or_ge t i with h5|h5
   ·exact NU t h1 h5
   ·obtain rfl:t=i:=by omega
    cases hg:gl G d[t]! d[t-1]!
    ·rfl
    ·exact absurd (hr.2 hg) ux
 ·rw [aX,bP.kW]
  exact stop h3 jZ (fun e=>Cb (by subst e;exact NU))
end
section
variable{w w':World}{B b n cx:Nat}{d:Array HT}{F:Nat->Prop}{c k:Nat}{G:GS}{m:CM}{K:Value->World->Prop}
theorem uX(h:SE w F c k G m B b n cx d){x y z:Nat}(RA:z+y<=n)(ny:x<=y)(hn:n<=1000000){lo:Int}
 (hK:∀w',SE w' F c k G m B b n cx (Sort.siftDown (gl G) y z x d)->Kept (· =b) w w'->K (.tuple #[]) w'):
 bD prog kI.id #[.slice (some ⟨b,0,none⟩) n cx,.int .i64 (x:Int),.int .i64 (y:Int),.int .i64 (z:Int),.func (.func bK.id) #[.pointer (some ⟨c,0,none⟩)] #[]] w K:=by
 refine b7.of ?_;unfold b7.W;refine b7.cJ (I:=fun s v=>∃(r:Nat) (dk:Array HT),s=(r:Int)/\r<=y/\SE v F c k G m B b n cx dk/\Sort.siftDown (gl G) y z r dk=Sort.siftDown (gl G) y z x d/\Kept (· =b) w v) (μ:=fun s _=>((y:Int)-s).toNat) (s:=(x:Int)) ⟨x,d,rfl,ny,h,rfl,Kept.refl _ _⟩ ?_;rintro s v ⟨r,dk,rfl,hr,hv,hs,kv⟩;unfold b7.B1;rw [wN (x:=2*(r:Int)) (i:=2*r) (by omega) (by omega),wN (x:=((2*r:Nat):Int)+1) (i:=2*r+1) (by omega) (by omega)];refine Split.dec (fun gK=>?_) (fun dg=>?_)
 ·rw [aX,b7.dv]
  rw [Sort.siftDown,dif_pos (show 2*r+1>=y by omega)]at hs;rw [hs]at hv;exact hK v hv kv
 have pf:2*r+1<y:=by omega
 rw [Sort.siftDown,dif_neg (by omega)]at hs;have fin:∀(ch:Nat) {u:World},r<ch->ch<y->SE u F c k G m B b n cx dk->Kept Nil v u->(if(!gl G dk[z+r]! dk[z+ch]!)=true then dk else Sort.siftDown (gl G) y z ch (Sort.swp dk (z+r) (z+ch)))=Sort.siftDown (gl G) y z x d->
  b7.J1 (some ⟨b,0,none⟩) n cx (y:Int) (z:Int) (some ⟨c,0,none⟩) (r:Int) (ch:Int) (bW (b7.e1 (some ⟨b,0,none⟩) n cx (y:Int) (z:Int) (some ⟨c,0,none⟩)) (fun s v=>∃(r:Nat) (dk:Array HT),s=(r:Int)/\r<=y/\SE v F c k G m B b n cx dk/\Sort.siftDown (gl G) y z r dk=Sort.siftDown (gl G) y z x d/\Kept (· =b) w v) (fun s _=>((y:Int)-s).toNat) (r:Int) v (b7.q1 K)) u:=fun ch {u} h1 h2 hu ku he=>by
  unfold b7.J1;rw [wN (x:=(z:Int)+(r:Int)) (i:=z+r) (by omega) (by omega),wN (x:=(z:Int)+(ch:Int)) (i:=z+ch) (by omega) (by omega)];intro w3;have k3:Kept Nil u w3:=(Kept.refl _ _).drew;clear_value w3;refine(hu.same k3).cmp (i:=z+r) (j:=z+ch) rfl rfl (by omega) (by omega) fun t w4 h4 k4 ht=>?_;have qK:=kv.trans ((ku.tt k3).tt k4) (fun _ _ h=>h.elim);by_cases M7:t<0
  ·refine Split.no (by rw [decide_eq_true M7];rfl) (b7.qU ?_)
   rw [if_neg (by rw [ht.1 M7];decide)]at he;unfold b7.J2;rw [wN (x:=(z:Int)+(r:Int)) (i:=z+r) (by omega) (by omega),wN (x:=(z:Int)+(ch:Int)) (i:=z+ch) (by omega) (by omega)];intro w5;have k5:Kept Nil w4 w5:=(Kept.refl _ _).drew;clear_value w5;obtain⟨⟨a1,a2,a3,a4,a5,a6⟩,h6,k6⟩:=(h4.same k5).sw (x:=((z+r:Nat):Int)) (y:=((z+ch:Nat):Int)) rfl rfl (by omega) (by omega);refine⟨a1,_,a2,a3,_,a4,a3,a5,a1,a6,?_⟩;exact⟨(ch:Int),rfl,⟨ch,_,rfl,by omega,h6,he,(qK.trans k5 (fun _ _ h=>h.elim)).tt k6⟩,by simp only;omega⟩
  ·refine Split.yes (by rw [decide_eq_false M7];rfl) ?_
   rw [iO];rw [if_pos (by cases hg:gl G dk[z+r]! dk[z+ch]!;rfl;exact absurd (ht.2 hg) M7)]at he;rw [he]at h4;exact hK w4 h4 qK
 intro w3;have k3:Kept Nil v w3:=(Kept.refl _ _).drew;clear_value w3;have h3:=hv.same k3;rw [wN (x:=((2*r+1:Nat):Int)+1) (i:=2*r+2) (by omega) (by omega)];refine Split.dec (fun U1=>?_) (fun Vn=>?_)
 ·have C8:2*r+2<y:=by omega
  rw [wN (x:=(z:Int)+((2*r+1:Nat):Int)) (i:=z+(2*r+1)) (by omega) (by omega),wN (x:=((z+(2*r+1):Nat):Int)+1) (i:=z+(2*r+1)+1) (by omega) (by omega)];refine h3.cmp (i:=z+(2*r+1)) (j:=z+(2*r+1)+1) rfl rfl (by omega) (by omega) fun t w4 h4 k4 ht=>?_;have wE:=k3.tt k4;refine Split.dec (fun M7=>b7.kR ?_) (fun M7=>b7.kR ?_)
  ·rw [if_pos (by rw [ht.1 M7];simp only [Bool.and_true,decide_eq_true_eq];omega),dif_pos C8]at hs
   exact fin (2*r+2) (by omega) C8 h4 wE hs
  ·rw [if_neg (by simp only [Bool.and_eq_true,decide_eq_true_eq];intro e;exact M7 (ht.2 e.2))]at hs
   exact fin (2*r+1) (by omega) pf h4 wE hs
 ·refine b7.kR ?_
  rw [if_neg (by simp only [Bool.and_eq_true,decide_eq_true_eq];intro e;omega)]at hs;exact fin (2*r+1) (by omega) pf h3 k3 hs
theorem Cc(h:SE w F c k G m B b n cx d){x y:Nat}(ny:x+1<y)(hy:y<=n)(hn:n<=1000000)
 (hK:∀w',SE w' F c k G m B b n cx (Sort.heapSort (gl G) d x y)->Kept (· =b) w w'->K (.tuple #[]) w'):
 bD prog kK.id #[.slice (some ⟨b,0,none⟩) n cx,.int .i64 (x:Int),.int .i64 (y:Int),.func (.func bK.id) #[.pointer (some ⟨c,0,none⟩)] #[]] w K:=by
 refine cD.of ?_;unfold cD.W;have e2:∀L:Nat,((L:Nat):Int).tdiv 2=((L/2:Nat):Int):=fun _=>rfl;obtain⟨L,hL,g12⟩:∃L:Nat,y=x+L/\1<L:=⟨y-x,by omega,by omega⟩;subst hL;rw [wN (x:=((x+L:Nat):Int)-(x:Int)) (i:=L) (by omega) (by omega),wN (x:=(L:Int)-1) (i:=L-1) (by omega) (by omega),e2,wN (x:=(((L-1)/2:Nat):Int)) (i:=(L-1)/2) rfl (by omega)];refine⟨by decide,?_⟩;have hh:Sort.heapSort (gl G) d x (x+L)=Sort.heapPop (gl G) x L (Sort.heapBuild (gl G) L x ((L-1)/2+1) d):=by
  unfold Sort.heapSort;rw [show x+L-x=L by omega]
 rw [hh]at hK;refine cD.cJ (I:=fun s v=>∃(t:Nat) (dk:Array HT),s=(t:Int)-1/\t<=L/\SE v F c k G m B b n cx dk/\Sort.heapBuild (gl G) L x t dk=Sort.heapBuild (gl G) L x ((L-1)/2+1) d/\Kept (· =b) w v) (μ:=fun s _=>(s+1).toNat) (s:=(((L-1)/2:Nat):Int)) ⟨(L-1)/2+1,d,by omega,by omega,h,rfl,Kept.refl _ _⟩ ?_;rintro s v ⟨t,dk,rfl,ht,hv,he,kv⟩;unfold cD.B1;refine Split.dec (fun gK=>?_) (fun dg=>?_)
 ·obtain⟨t',rfl⟩:∃t',t=t'+1:=⟨t-1,by omega⟩
  have e1:((t'+1:Nat):Int)-1=(t':Int):=by omega
  rw [e1];refine uX (x:=t') (y:=L) (z:=x) (lo:=0) hv (by omega) (by omega) hn fun w4 h4 k4=>⟨rfl,?_⟩;rw [iZ (x:=(t':Int)-1) (by omega) (by omega)];exact⟨(t':Int)-1,rfl,⟨t',_,rfl,by omega,h4,he,kv.tt k4⟩,by simp only;omega⟩
 ·obtain rfl:t=0:=by omega
  rw [aX,cD.dv];unfold cD.dd
  replace he:dk=_:=he
  rw [<-he]at hK;rw [wN (x:=(L:Int)-1) (i:=L-1) (by omega) (by omega)];refine cD.iG (I:=fun s u=>∃(t:Nat) (dj:Array HT),s=(t:Int)-1/\t<=L/\SE u F c k G m B b n cx dj/\Sort.heapPop (gl G) x t dj=Sort.heapPop (gl G) x L dk/\Kept (· =b) w u) (μ:=fun s _=>(s+1).toNat) (s:=((L-1:Nat):Int)) ⟨L,dk,by omega,by omega,hv,rfl,kv⟩ ?_;rintro s u ⟨t,dj,rfl,ht,hu,RR,ku⟩;unfold cD.B2;refine Split.dec (fun gK=>?_) (fun dg=>?_)
  ·obtain⟨t',rfl⟩:∃t',t=t'+1:=⟨t-1,by omega⟩
   have e1:((t'+1:Nat):Int)-1=(t':Int):=by omega
   rw [e1,wN (x:=(x:Int)+(t':Int)) (i:=x+t') (by omega) (by omega)];intro w5;have k5:Kept Nil u w5:=(Kept.refl _ _).drew;clear_value w5;obtain⟨⟨a1,a2,a3,a4,a5,a6⟩,h6,k6⟩:=(hu.same k5).sw (x:=(x:Int)) (y:=((x+t':Nat):Int)) rfl rfl (by omega) (by omega);refine⟨a1,_,a2,a3,_,a4,a3,a5,a1,a6,?_⟩;have KZ:=(ku.trans k5 (fun _ _ h=>h.elim)).tt k6;refine uX (x:=0) (y:=t') (z:=x) (lo:=0) h6 (by omega) (by omega) hn fun w7 h7 k7=>⟨rfl,?_⟩;rw [iZ (x:=(t':Int)-1) (by omega) (by omega)];exact⟨(t':Int)-1,rfl,⟨t',_,rfl,by omega,h7,RR,KZ.tt k7⟩,by simp only;omega⟩
  ·obtain rfl:t=0:=by omega
   rw [aX,cD.kW]
   replace RR:dj=_:=RR
   rw [<-RR]at hK;exact hK u hu ku
end
section
variable{w w':World}{B b n cx:Nat}{d:Array HT}{F:Nat->Prop}{c k:Nat}{G:GS}{m:CM}{K:Value->World->Prop}
abbrev JR(G:GS)(d:Array HT)(x:Nat):HT->Bool:=fun z=>gl G z d[x]!
abbrev Kn(G:GS)(d:Array HT)(x:Nat):HT->Bool:=fun z=> !gl G z d[x]!
set_option maxHeartbeats 1000000 in
theorem Fq(h:SE w F c k G m B b n cx d){x y p:Nat}(ny:x+1<y)(hp:x<=p)(IM:p<y)(hy:y<=n)(hn:n<=1000000)
 (hK:∀w',SE w' F c k G m B b n cx (Sort.partition (gl G) d x y p).2.2->Kept (· =b) w w'->K (.tuple #[.int .i64 ((Sort.partition (gl G) d x y p).1:Int),.bool (Sort.partition (gl G) d x y p).2.1]) w'):
 bD prog kh.id #[.slice (some ⟨b,0,none⟩) n cx,.int .i64 (x:Int),.int .i64 (y:Int),.int .i64 (p:Int),.func (.func bK.id) #[.pointer (some ⟨c,0,none⟩)] #[]] w K:=by
 refine aZ.of ?_;unfold aZ.W;intro w3;have k3:Kept Nil w w3:=(Kept.refl _ _).drew;clear_value w3;obtain⟨⟨a1,a2,a3,a4,a5,a6⟩,h5,k5⟩:=(h.same k3).sw (x:=(x:Int)) (y:=(p:Int)) rfl rfl (by omega) (by omega);refine⟨a1,_,a2,a3,_,a4,a3,a5,a1,a6,?_⟩;have o7:Kept (· =b) w _:=(k3.mono fun _ _ h=>h.elim).tt k5;clear a1 a2 a3 a4 a5 a6 k5;unfold Sort.partition at hK;simp only at hK;generalize Sort.swp d x p=d1 at hK h5;rw [wN (x:=(x:Int)+1) (i:=x+1) (by omega) (by omega),wN (x:=(y:Int)-1) (i:=y-1) (by omega) (by omega)];refine aZ.cJ (I:=fun s v=>∃i:Nat,s=(i:Int)/\x<i/\i<=y/\SE v F c k G m B b n cx d1/\Sort.scanUp (JR G d1 x) d1 (y-1) i=Sort.scanUp (JR G d1 x) d1 (y-1) (x+1)/\Kept (· =b) w v) (μ:=fun s _=>((y:Int)-s).toNat) (s:=((x+1:Nat):Int)) ⟨x+1,rfl,by omega,by omega,h5,rfl,o7⟩ ?_;clear h5 o7;rintro s v ⟨i,rfl,RB,hiy,hv,Ew,kv⟩;unfold aZ.B1;intro w4;have k4:Kept Nil v w4:=(Kept.refl _ _).drew;clear_value w4;have h4:=hv.same k4;have qK:=kv.trans k4 (fun _ _ h=>h.elim);have up:∀ {u:World},SE u F c k G m B b n cx d1->Kept (· =b) w u->Sort.scanUp (JR G d1 x) d1 (y-1) (x+1)=i->aZ.dd (some ⟨b,0,none⟩) n cx (x:Int) (some ⟨c,0,none⟩) 0 (i:Int) ((y-1:Nat):Int) K u:=fun {u} hu ku hi=>by
  rw [hi]at hK;unfold aZ.dd;refine aZ.iG (I:=fun s v=>∃j:Nat,s=(j:Int)/\x<=j/\j<y/\SE v F c k G m B b n cx d1/\Sort.scanDown (Kn G d1 x) d1 i j=Sort.scanDown (Kn G d1 x) d1 i (y-1)/\Kept (· =b) w v) (μ:=fun s _=>s.toNat) (s:=((y-1:Nat):Int)) ⟨y-1,rfl,by omega,by omega,hu,rfl,ku⟩ ?_;rintro s v ⟨j,rfl,hxj,hjy,hv,RF,kv⟩;unfold aZ.B2;intro w5;have k5:Kept Nil v w5:=(Kept.refl _ _).drew;clear_value w5;have h5:=hv.same k5;have xU:=kv.trans k5 (fun _ _ h=>h.elim);have down:∀ {u:World},SE u F c k G m B b n cx d1->Kept (· =b) w u->Sort.scanDown (Kn G d1 x) d1 i (y-1)=j->aZ.jr (some ⟨b,0,none⟩) n cx (x:Int) (some ⟨c,0,none⟩) 0 (i:Int) (j:Int) K u:=fun {u} hu ku hj=>by
   rw [hj]at hK;unfold aZ.jr;refine Split.dec (fun x9=>?_) (fun hle=>?_)
   ·rw [if_pos (by omega)]at hK
    intro w6;have k6:Kept Nil u w6:=(Kept.refl _ _).drew;clear_value w6;obtain⟨⟨a1,a2,a3,a4,a5,a6⟩,h7,k7⟩:=(hu.same k6).sw (x:=(j:Int)) (y:=(x:Int)) rfl rfl (by omega) (by omega);refine⟨a1,_,a2,a3,_,a4,a3,a5,a1,a6,?_⟩;exact hK _ h7 ((ku.trans k6 (fun _ _ h=>h.elim)).tt k7)
   ·have sD:i<=j:=by omega
    rw [if_neg (by omega)]at hK;simp only at hK;intro w6;have k6:Kept Nil u w6:=(Kept.refl _ _).drew;clear_value w6;obtain⟨⟨a1,a2,a3,a4,a5,a6⟩,h7,k7⟩:=(hu.same k6).sw (x:=(i:Int)) (y:=(j:Int)) rfl rfl (by omega) (by omega);refine⟨a1,_,a2,a3,_,a4,a3,a5,a1,a6,?_⟩;have vJ:=(ku.trans k6 (fun _ _ h=>h.elim)).tt k7;clear a1 a2 a3 a4 a5 a6 k7;generalize Sort.swp d1 i j=d2 at hK h7;rw [wN (x:=(i:Int)+1) (i:=i+1) (by omega) (by omega),wN (x:=(j:Int)-1) (i:=j-1) (by omega) (by omega)];refine aZ.vC (I:=fun s v=>∃(i2 j2:Nat) (dk:Array HT),s=((i2:Int),(j2:Int))/\x<i2/\i2<=y/\x<=j2/\j2<y/\SE v F c k G m B b n cx dk/\Sort.partLoop (gl G) x i2 j2 dk=Sort.partLoop (gl G) x (i+1) (j-1) d2/\Kept (· =b) w v) (μ:=fun s _=>(s.2+1-s.1).toNat) (s:=(((i+1:Nat):Int),((j-1:Nat):Int))) ⟨i+1,j-1,d2,rfl,by omega,by omega,by omega,by omega,h7,rfl,vJ⟩ ?_;clear h7 vJ;rintro s v ⟨i2,j2,dk,rfl,ah9,ajC,ah8,ajy,hv2,rT,zq⟩;unfold aZ.B3;simp only;refine aZ.HZ (I:=fun s v=>∃i3:Nat,s=(i3:Int)/\i2<=i3/\i3<=y/\SE v F c k G m B b n cx dk/\Sort.scanUp (JR G dk x) dk j2 i3=Sort.scanUp (JR G dk x) dk j2 i2/\Kept (· =b) w v) (μ:=fun s _=>((y:Int)-s).toNat) (s:=(i2:Int)) ⟨i2,rfl,by omega,by omega,hv2,rfl,zq⟩ ?_;rintro s v3 ⟨i3,rfl,ajF,ajB,hv3,Gg,sq⟩;unfold aZ.B4;intro w8;have k8:Kept Nil v3 w8:=(Kept.refl _ _).drew;clear_value w8;have h8:=hv3.same k8;have kv8:=sq.trans k8 (fun _ _ h=>h.elim);have up3:∀ {u:World},SE u F c k G m B b n cx dk->Kept (· =b) w u->Sort.scanUp (JR G dk x) dk j2 i2=i3->aZ.DH (some ⟨b,0,none⟩) n cx (x:Int) (some ⟨c,0,none⟩) 0 (i3:Int) (j2:Int) (bW (aZ.e3 (some ⟨b,0,none⟩) n cx (x:Int) (some ⟨c,0,none⟩) 0) (fun s v=>∃(i2 j2:Nat) (dk:Array HT),s=((i2:Int),(j2:Int))/\x<i2/\i2<=y/\x<=j2/\j2<y/\SE v F c k G m B b n cx dk/\Sort.partLoop (gl G) x i2 j2 dk=Sort.partLoop (gl G) x (i+1) (j-1) d2/\Kept (· =b) w v) (fun s _=>(s.2+1-s.1).toNat) ((i2:Int),(j2:Int)) v (aZ.q3 K)) u:=fun {u} hu ku hi3=>by
     unfold aZ.DH;refine aZ.S5 (I:=fun s v=>∃j3:Nat,s=(j3:Int)/\x<=j3/\j3<=j2/\SE v F c k G m B b n cx dk/\Sort.scanDown (Kn G dk x) dk i3 j3=Sort.scanDown (Kn G dk x) dk i3 j2/\Kept (· =b) w v) (μ:=fun s _=>s.toNat) (s:=(j2:Int)) ⟨j2,rfl,by omega,by omega,hu,rfl,ku⟩ ?_;rintro s v4 ⟨j3,rfl,ah7,ajx,hv4,Gf,qK⟩;unfold aZ.B5;intro w9;have k9:Kept Nil v4 w9:=(Kept.refl _ _).drew;clear_value w9;have h9:=hv4.same k9;have kv9:=qK.trans k9 (fun _ _ h=>h.elim);have NZ:∀ {u:World},SE u F c k G m B b n cx dk->Kept (· =b) w u->Sort.scanDown (Kn G dk x) dk i3 j2=j3->aZ.Q6 (some ⟨b,0,none⟩) n cx (x:Int) (some ⟨c,0,none⟩) 0 (i3:Int) (j3:Int) (bW (aZ.e3 (some ⟨b,0,none⟩) n cx (x:Int) (some ⟨c,0,none⟩) 0) (fun s v=>∃(i2 j2:Nat) (dk:Array HT),s=((i2:Int),(j2:Int))/\x<i2/\i2<=y/\x<=j2/\j2<y/\SE v F c k G m B b n cx dk/\Sort.partLoop (gl G) x i2 j2 dk=Sort.partLoop (gl G) x (i+1) (j-1) d2/\Kept (· =b) w v) (fun s _=>(s.2+1-s.1).toNat) ((i2:Int),(j2:Int)) v (aZ.q3 K)) u:=fun {u} hu ku hj3=>by
      rw [Sort.partLoop]at rT;rw [hi3,hj3]at rT;unfold aZ.Q6;refine Split.dec (fun x9=>?_) (fun hle=>?_)
      ·rw [if_pos (by omega)]at rT
       rw [<-rT]at hK;rw [aX,aZ.BV];unfold aZ.xu;intro w6;have k6:Kept Nil u w6:=(Kept.refl _ _).drew;clear_value w6;obtain⟨⟨a1,a2,a3,a4,a5,a6⟩,h7,k7⟩:=(hu.same k6).sw (x:=(j3:Int)) (y:=(x:Int)) rfl rfl (by omega) (by omega);refine⟨a1,_,a2,a3,_,a4,a3,a5,a1,a6,?_⟩;exact hK _ h7 ((ku.trans k6 (fun _ _ h=>h.elim)).tt k7)
      ·rw [if_neg (by omega),dif_pos (by omega)]at rT
       intro w6;have k6:Kept Nil u w6:=(Kept.refl _ _).drew;clear_value w6;obtain⟨⟨a1,a2,a3,a4,a5,a6⟩,h7,k7⟩:=(hu.same k6).sw (x:=(i3:Int)) (y:=(j3:Int)) rfl rfl (by omega) (by omega);refine⟨a1,_,a2,a3,_,a4,a3,a5,a1,a6,?_⟩;simp only;rw [wN (x:=(i3:Int)+1) (i:=i3+1) (by omega) (by omega),wN (x:=(j3:Int)-1) (i:=j3-1) (by omega) (by omega)];exact⟨(((i3+1:Nat):Int),((j3-1:Nat):Int)),rfl,⟨i3+1,j3-1,_,rfl,by omega,by omega,by omega,by omega,h7,rT,(ku.trans k6 (fun _ _ h=>h.elim)).tt k7⟩,by simp only;omega⟩
     refine Split.dec (fun hle=>?_) (fun x9=>?_)
     ·obtain⟨j',rfl⟩:∃j',j3=j'+1:=⟨j3-1,by omega⟩
      refine h9.cmp (i:=j'+1) (j:=x) rfl rfl (by omega) (by omega) fun r w10 uO rR hr=>?_;have vF:=kv9.trans rR (fun _ _ h=>h.elim);rw [Sort.scanDown]at Gf;by_cases ux:r<0
      ·refine Split.no (by rw [decide_eq_true ux];rfl) ?_
       rw [aX,aZ.Sg];rw [if_neg (by simp only [Kn,hr.1 ux,Bool.not_true,Bool.and_false];decide)]at Gf;exact NZ uO vF Gf.symm
      ·refine Split.yes (by rw [decide_eq_false ux];rfl) ?_
       have hg:gl G dk[j'+1]! dk[x]! =false:=by
        cases hg:gl G dk[j'+1]! dk[x]!
        ·rfl
        ·exact absurd (hr.2 hg) ux
       rw [if_pos (by simp only [Kn,hg,Bool.not_false,Bool.and_true,decide_eq_true_eq];omega)]at Gf;rw [wN (x:=((j'+1:Nat):Int)-1) (i:=j') (by omega) (by omega)];exact⟨(j':Int),rfl,⟨j',rfl,by omega,by omega,uO,Gf,vF⟩,by simp only;omega⟩
     ·rw [aX,aZ.Sg]
      refine NZ h9 kv9 ?_;rw [<-Gf];cases j3 with
      |zero=>rfl
      |succ j'=>rw [Sort.scanDown,if_neg (by simp only [Bool.and_eq_true,decide_eq_true_eq];intro e;omega)]
    refine Split.dec (fun hle=>?_) (fun x9=>?_)
    ·refine h8.cmp (i:=i3) (j:=x) rfl rfl (by omega) (by omega) fun r w10 uO rR hr=>?_
     have vF:=kv8.trans rR (fun _ _ h=>h.elim);rw [Sort.scanUp]at Gg;refine Split.dec (fun ux=>?_) (fun ux=>?_)
     ·rw [if_pos (by simp only [JR,hr.1 ux,Bool.and_true,decide_eq_true_eq];omega)]at Gg
      rw [wN (x:=(i3:Int)+1) (i:=i3+1) (by omega) (by omega)];exact⟨((i3+1:Nat):Int),rfl,⟨i3+1,rfl,by omega,by omega,uO,Gg,vF⟩,by simp only;omega⟩
     ·rw [aX,aZ.Hh]
      rw [if_neg (by simp only [JR,Bool.and_eq_true,decide_eq_true_eq];intro e;exact ux (hr.2 e.2))]at Gg;exact up3 uO vF Gg.symm
    ·rw [aX,aZ.Hh]
     refine up3 h8 kv8 ?_;rw [<-Gg,Sort.scanUp,if_neg (by simp only [Bool.and_eq_true,decide_eq_true_eq];intro e;omega)]
  refine Split.dec (fun hle=>?_) (fun x9=>?_)
  ·obtain⟨j',rfl⟩:∃j',j=j'+1:=⟨j-1,by omega⟩
   refine h5.cmp (i:=j'+1) (j:=x) rfl rfl (by omega) (by omega) fun r w10 uO rR hr=>?_;have vF:=xU.trans rR (fun _ _ h=>h.elim);rw [Sort.scanDown]at RF;by_cases ux:r<0
   ·refine Split.no (by rw [decide_eq_true ux];rfl) ?_
    rw [aX,aZ.kW];rw [if_neg (by simp only [Kn,hr.1 ux,Bool.not_true,Bool.and_false];decide)]at RF;exact down uO vF RF.symm
   ·refine Split.yes (by rw [decide_eq_false ux];rfl) ?_
    have hg:gl G d1[j'+1]! d1[x]! =false:=by
     cases hg:gl G d1[j'+1]! d1[x]!
     ·rfl
     ·exact absurd (hr.2 hg) ux
    rw [if_pos (by simp only [Kn,hg,Bool.not_false,Bool.and_true,decide_eq_true_eq];omega)]at RF;rw [wN (x:=((j'+1:Nat):Int)-1) (i:=j') (by omega) (by omega)];exact⟨(j':Int),rfl,⟨j',rfl,by omega,by omega,uO,RF,vF⟩,by simp only;omega⟩
  ·rw [aX,aZ.kW]
   refine down h5 xU ?_;rw [<-RF];cases j with
   |zero=>rfl
   |succ j'=>rw [Sort.scanDown,if_neg (by simp only [Bool.and_eq_true,decide_eq_true_eq];intro e;omega)]
 refine Split.dec (fun hle=>?_) (fun x9=>?_)
 ·refine h4.cmp (i:=i) (j:=x) rfl rfl (by omega) (by omega) fun r w10 uO rR hr=>?_
  have vF:=qK.trans rR (fun _ _ h=>h.elim);rw [Sort.scanUp]at Ew;refine Split.dec (fun ux=>?_) (fun ux=>?_)
  ·rw [if_pos (by simp only [JR,hr.1 ux,Bool.and_true,decide_eq_true_eq];omega)]at Ew
   rw [wN (x:=(i:Int)+1) (i:=i+1) (by omega) (by omega)];exact⟨((i+1:Nat):Int),rfl,⟨i+1,rfl,by omega,by omega,uO,Ew,vF⟩,by simp only;omega⟩
  ·rw [aX,aZ.dv]
   rw [if_neg (by simp only [JR,Bool.and_eq_true,decide_eq_true_eq];intro e;exact ux (hr.2 e.2))]at Ew;exact up uO vF Ew.symm
 ·rw [aX,aZ.dv]
  refine up h4 qK ?_;rw [<-Ew,Sort.scanUp,if_neg (by simp only [Bool.and_eq_true,decide_eq_true_eq];intro e;omega)]
end
theorem lQ{d d':Array HT}{x y:Nat}(ny:x<=y)(hy:y<=d.size)(h:Sort.PermIn x y d d'):d'.toList.Perm d.toList:=by
 have h1:=Sort.permIn_mono d d' x y 0 d.size (Nat.zero_le _) hy (Nat.le_refl _) h;have h2:=h1.2.2;have h3:=h1.1;rw [Array.extract_size,<-h3,Array.extract_size]at h2;exact h2
section
variable{w w':World}{B b n cx:Nat}{d:Array HT}{F:Nat->Prop}{c k:Nat}{G:GS}{m:CM}{K:Value->World->Prop}
set_option maxHeartbeats 1000000 in
theorem FE(hn:n<50){Q:aR}{v:World}{a e:Nat}{l:Int}{p q:Bool}{dk:Array HT}(QH:a<=e)(Qu:e<=n)(yX:0<=l)(zz:l<=100)(hv:SE v F c k G m B b n cx dk)(gA:dk.toList.Nodup)(hB:Sort.Below (gl G) a e dk)
 (rec:∀ {u:World} {dj:Array HT} {a' e':Nat} {l':Int} {K':Value->World->Prop},a'<=e'->e'-a'<e-a->e'<=n->0<=l'->l'<=100->SE u F c k G m B b n cx dj->dj.toList.Nodup->Sort.Below (gl G) a' e' dj->
   (∀d' w',SE w' F c k G m B b n cx d'->Sort.PermIn a' e' dj d'->Sort.SortedIn (gl G) a' e' d'->Kept (· =b) u w'->K' (.tuple #[]) w')->
   bD prog iz.id #[.slice (some ⟨b,0,none⟩) n cx,.int .i64 (a':Int),.int .i64 (e':Int),.int .i64 l',.func (.func bK.id) #[.pointer (some ⟨c,0,none⟩)] #[]] u K')
 (II:∀(a' e' l' L:Int) (p' q':Bool) t u dj,(t= []\/∃r:Int,t= [(13,.int .i64 r)])->SE u F c k G m B b n cx dj->Sort.PermIn a e dk dj->Sort.SortedIn (gl G) a e dj->Kept (· =b) v u->Q .ret ((0,.slice (some ⟨b,0,none⟩) n cx)::(1,.int .i64 a')::(2,.int .i64 e')::(3,.int .i64 l')::(4,.func (.func bK.id) #[.pointer (some ⟨c,0,none⟩)] #[])::(10,.bool p')::(11,.bool q')::(12,.int .i64 L)::t) u)
 (Np:∀(a' e':Nat) (l':Int) (p' q':Bool) (dj:Array HT) (u:World),a<=a'->a'<=e'->e'<=e->e'-a'<e-a->0<=l'->l'<=100->SE u F c k G m B b n cx dj->dj.toList.Nodup->Sort.Below (gl G) a' e' dj->(∀R,Sort.PermIn a' e' dj R->Sort.SortedIn (gl G) a' e' R->Sort.PermIn a e dk R/\Sort.SortedIn (gl G) a e R)->Kept (· =b) v u->
   Q .normal [(0,.slice (some ⟨b,0,none⟩) n cx),(1,.int .i64 (a':Int)),(2,.int .i64 (e':Int)),(3,.int .i64 l'),(4,.func (.func bK.id) #[.pointer (some ⟨c,0,none⟩)] #[]),(10,.bool p'),(11,.bool q')] u):
 aD.B1 (some ⟨b,0,none⟩) n cx (a:Int) (e:Int) l (some ⟨c,0,none⟩) p q Q v:=by
 have mF:=SR.size hv.row;unfold aD.B1;rw [wN (x:=(e:Int)-(a:Int)) (i:=e-a) (by omega) (by omega)];refine Split.dec (fun BS=>?_) (fun BS=>?_)
 ·refine Ft hv QH Qu (by omega) fun w' h' k'=>⟨rfl,?_⟩
  obtain⟨p1,p2⟩:=Sort.insertionSort_holds (vV G) dk a e QH (by omega);exact II _ _ _ _ _ _ [] _ _ (.inl rfl) h' p1 p2 k'
 have BS:a+12<e:=by omega
 refine Split.mk (fun hl=>?_) (fun hl=>?_)
 ·refine Cc hv (by omega) Qu (by omega) fun w' h' k'=>⟨rfl,?_⟩
  obtain⟨p1,p2⟩:=Sort.heapSort_holds (vV G) dk a e QH (by omega);exact II _ _ _ _ _ _ [] _ _ (.inl rfl) h' p1 p2 k'
 have hl:l≠0:=beq_eq_false_iff_ne.1 hl;have j1:∀ {u:World} {dj:Array HT} {l':Int},0<=l'->l'<=100->SE u F c k G m B b n cx dj->Sort.PermIn a e dk dj->Kept (· =b) v u->aD.J1 (some ⟨b,0,none⟩) n cx (a:Int) (e:Int) l' (some ⟨c,0,none⟩) p q ((e-a:Nat):Int) Q u:=by
  intro u dj l' yX zz hu BN ku;have j7:∀ {u:World} {dj:Array HT} {r:Nat},a<=r->r<e->SE u F c k G m B b n cx dj->Sort.PermIn a e dk dj->Kept (· =b) v u->aD.J7 (some ⟨b,0,none⟩) n cx (a:Int) (e:Int) l' (some ⟨c,0,none⟩) p q ((e-a:Nat):Int) (r:Int) Q u:=by
   intro u dj r nz jU hu BN ku;have XZ:=SR.size hu.row;unfold aD.J7;have hBj:=hB.perm (by omega) BN;obtain⟨g1,g2,Nf,hBa,hBr,IV,CL⟩:=Sort.round_part (vV G) (Sort.partition_holds (gl G)) (d3:=dj) (mid:=(Sort.partition (gl G) dj a e r).1) (ap:=(Sort.partition (gl G) dj a e r).2.1) (d4:=(Sort.partition (gl G) dj a e r).2.2) nz jU (by omega) hBj rfl;have RI:=(Sort.partition_holds (gl G) (vV G) dj a e r nz jU (by omega)).2.2.1;refine Fq hu (by omega) nz jU Qu (by omega) fun w5 h5 k5=>⟨_,_,rfl,aD.TH ?_⟩;have FZ:=ku.tt k5;generalize (Sort.partition (gl G) dj a e r)=res at g1 g2 Nf hBa hBr IV CL RI h5;obtain⟨mid,ap,d4⟩:=res;simp only at g1 g2 Nf hBa hBr IV CL RI h5⊢;have yV:=Sort.permIn_trans _ _ _ a e BN RI;have Lw:d4.toList.Nodup:=(lQ QH (by omega) yV).nodup_iff.2 gA;unfold aD.J8;refine aD.TG ?_;unfold aD.J9;rw [wN (x:=(mid:Int)-(a:Int)) (i:=mid-a) (by omega) (by omega),wN (x:=(e:Int)-(mid:Int)) (i:=e-mid) (by omega) (by omega)];refine aD.Po ?_;unfold aD.J10;refine⟨by decide,aD.Pn ?_⟩;unfold aD.J11;refine Split.dec (fun dg=>aD.Pm ?_) (fun dg=>aD.Pk ?_)
   ·unfold aD.J12
    refine rec g1 (by omega) (by omega) yX zz h5 Lw hBa fun d' w' h' p' s' k'=>⟨rfl,aD.Pj ?_⟩;unfold aD.J14;rw [wN (x:=(mid:Int)+1) (i:=mid+1) (by omega) (by omega)];obtain⟨hBL,hf⟩:=IV d' p' s';refine Np (mid+1) e l' _ _ d' w' (by omega) (by omega) (Nat.le_refl _) (by omega) yX zz h' ((lQ g1 (by omega) p').nodup_iff.2 Lw) hBL (fun R hR sR=>?_) (FZ.tt k');obtain⟨q1,q2⟩:=hf R hR sR;exact⟨Sort.permIn_trans _ _ _ a e BN q1,q2⟩
   ·unfold aD.J13
    rw [wN (x:=(mid:Int)+1) (i:=mid+1) (by omega) (by omega)];refine rec (by omega) (by omega) (by omega) yX zz h5 Lw hBr fun d' w' h' p' s' k'=>⟨rfl,aD.Ph ?_⟩;unfold aD.J15;obtain⟨hBL,hf⟩:=CL d' p' s';refine Np a mid l' _ _ d' w' (by omega) (by omega) (by omega) (by omega) yX zz h' ((lQ (by omega) (by omega) p').nodup_iff.2 Lw) hBL (fun R hR sR=>?_) (FZ.tt k');obtain⟨q1,q2⟩:=hf R hR sR;exact⟨Sort.permIn_trans _ _ _ a e BN q1,q2⟩
  have j6:∀ {u:World} {dj:Array HT} {r:Nat},a<=r->r<e->SE u F c k G m B b n cx dj->Sort.PermIn a e dk dj->Kept (· =b) v u->aD.J6 (some ⟨b,0,none⟩) n cx (a:Int) (e:Int) l' (some ⟨c,0,none⟩) p q ((e-a:Nat):Int) (r:Int) Q u:=by
   intro u dj r nz jU hu BN ku;have XZ:=SR.size hu.row;unfold aD.J6;intro w3;have k3:Kept Nil u w3:=(Kept.refl _ _).drew;clear_value w3;have h3:=hu.same k3;have ML:=ku.trans k3 (fun _ _ h=>h.elim);refine Split.dec (fun ha0=>?_) (fun ha0=>aD.MU (j7 nz jU h3 BN ML));rw [wN (x:=(a:Int)-1) (i:=a-1) (by omega) (by omega)];refine h3.cmp (i:=a-1) (j:=r) rfl rfl (by omega) (by omega) fun z w4 h4 k4 hz=>?_;have hg:gl G dj[a-1]! dj[r]! =true:=by
    cases hg:gl G dj[a-1]! dj[r]!
    ·exfalso
     rcases hB.perm (by omega) BN with e0|e0
     ·omega
     ·have No:dj.toList.Nodup:=(lQ QH (by omega) BN).nodup_iff.2 gA
      have e1:=mV hg (e0 r nz jU);have:=(List.getElem_inj (xs:=dj.toList) (i:=a-1) (j:=r) (h₀:=by simp;omega) (h₁:=by simp;omega) No).1 (by
       simpa [getElem!_pos,XZ,show a-1<n by omega,show r<n by omega]using e1)
      omega
    ·rfl
   exact Split.no (by rw [decide_eq_true (hz.2 hg)];rfl) (aD.MU (j7 nz jU h4 BN (ML.trans k4 (fun _ _ h=>h.elim))))
  have j4:∀ {u:World} {dj:Array HT} {r:Nat} {t:Int},a<=r->r<e->SE u F c k G m B b n cx dj->Sort.PermIn a e dk dj->Kept (· =b) v u->aD.J4 (some ⟨b,0,none⟩) n cx (a:Int) (e:Int) l' (some ⟨c,0,none⟩) p q ((e-a:Nat):Int) (r:Int) t Q u:=by
   intro u dj r t nz jU hu BN ku;unfold aD.J4;have go:=aD.MV (j6 nz jU hu BN ku);refine Split.mk (fun _=>Split.mk (fun _=>Split.mk (fun _=>?_) (fun _=>go)) (fun _=>go)) (fun _=>go);refine Fo hu (by omega) Qu hn fun t w' hs h' k'=>⟨t,rfl,?_⟩;have XE:=ku.trans k' (fun _ _ h=>h.elim);exact Split.mk (fun ht=>II _ _ _ _ _ _ [_] _ _ (.inr ⟨_,rfl⟩) h' BN (hs ht) XE) (fun _=>aD.MV (j6 nz jU h' BN XE))
  unfold aD.J1;refine Fm hu BS Qu hn fun r t w4 nz jU h4 k4=>⟨_,_,rfl,aD.qU ?_⟩;have Tl:=ku.trans k4 (fun _ _ h=>h.elim);unfold aD.J2;refine Split.mk (fun ht=>?_) (fun ht=>aD.MW (j4 nz jU h4 BN Tl));refine Fk h4 (by omega) Qu (by omega) fun d' w' h' p' k'=>⟨rfl,aD.TJ ?_⟩;unfold aD.J3;rw [wN (x:=(e:Int)-1) (i:=e-1) (by omega) (by omega),wN (x:=(r:Int)-(a:Int)) (i:=r-a) (by omega) (by omega),wN (x:=((e-1:Nat):Int)-((r-a:Nat):Int)) (i:=e-1-(r-a)) (by omega) (by omega)];refine aD.TI ?_;unfold aD.J5;exact aD.MW (j4 (by omega) (by omega) h' (Sort.permIn_trans _ _ _ a e BN p') (Tl.tt k'))
 refine Split.mk (fun hp=>?_) (fun hp=>aD.kR (j1 yX zz hv (Sort.permIn_refl _ _ _) (Kept.refl _ _)));refine Fu hv BS Qu (by omega) fun d' w' h' p' k'=>⟨rfl,aD.kR ?_⟩;rw [iZ (x:=l-1) (by omega) (by omega)];exact j1 (by omega) (by omega) h' p' k'
theorem Fp(hn:n<50):∀(s:Nat) {w:World} {d:Array HT} {x y:Nat} {lim:Int} {K:Value->World->Prop},y<x+s->x<=y->y<=n->0<=lim->lim<=100->SE w F c k G m B b n cx d->d.toList.Nodup->Sort.Below (gl G) x y d->
 (∀d' w',SE w' F c k G m B b n cx d'->Sort.PermIn x y d d'->Sort.SortedIn (gl G) x y d'->Kept (· =b) w w'->K (.tuple #[]) w')->
 bD prog iz.id #[.slice (some ⟨b,0,none⟩) n cx,.int .i64 (x:Int),.int .i64 (y:Int),.int .i64 lim,.func (.func bK.id) #[.pointer (some ⟨c,0,none⟩)] #[]] w K:=by
 intro s
 induction s with
 |zero=>intro w d x y lim K h1 h2;omega
 |succ s ih=>
  intro w d x y lim K hs ny hy yX zz h gA hB hK;refine aD.of ?_;unfold aD.W;refine aD.cJ (I:=fun st v=>∃(a e:Nat) (l:Int) (p q:Bool) (dk:Array HT),st=((a:Int),(e:Int),l,p,q)/\x<=a/\a<=e/\e<=y/\0<=l/\l<=100/\SE v F c k G m B b n cx dk/\dk.toList.Nodup/\Sort.Below (gl G) a e dk/\(∀R,Sort.PermIn a e dk R->Sort.SortedIn (gl G) a e R->Sort.PermIn x y d R/\Sort.SortedIn (gl G) x y R)/\Kept (· =b) w v) (μ:=fun st _=>(st.2.1-st.1).toNat) (s:=((x:Int),(y:Int),lim,true,true)) ⟨x,y,lim,true,true,d,rfl,Nat.le_refl _,ny,Nat.le_refl _,yX,zz,h,gA,hB,fun R h1 h2=>⟨h1,h2⟩,Kept.refl _ _⟩ ?_;rintro st v ⟨a,e,l,p,q,dk,rfl,hxa,QH,hey,yX,zz,hv,gA,hB,vO,kv⟩;refine FE hn QH (by omega) yX zz hv gA hB (fun h1 h2 h3 h4 h5 h6 h7 h8 h9=>ih (by omega) h1 h3 h4 h5 h6 h7 h8 h9) (fun _ _ _ _ _ _ t u dj ht h1 h2 h3 h4=>?_) (fun a' e' l' p' q' dj u h1 h2 h3 h4 h5 h6 h7 h8 h9 uO Km=>?_)
  ·rw [iO]
   obtain⟨q1,q2⟩:=vO _ h2 h3;rcases ht with rfl|⟨r,rfl⟩
   ·exact hK dj u h1 q1 q2 (kv.tt h4)
   exact hK dj u h1 q1 q2 (kv.tt h4)
  ·exact⟨((a':Int),(e':Int),l',p',q'),rfl,⟨a',e',l',p',q',dj,rfl,by omega,h2,by omega,h5,h6,h7,h8,h9,fun R hR sR=>let ⟨q1,q2⟩:=uO R hR sR;vO R q1 q2,kv.tt Km⟩,by simp only;omega⟩
theorem Dx{n:Nat}(hn:n<50)(hK:∀(v:Int),0<=v->v<=100->K (.int .i64 v) w):bD prog bits_Len.id #[.int .u64 (n:Int)] w K:=by
 have h:=Any.bits_Len (SlLaysF0.n15.bits (P:=prog) (ρ:=Tryz.qy) {Tryz.xE with}) n w (by omega) (by omega);refine Calls.mono h ?_;rintro e w' ⟨rfl,rfl⟩;refine⟨_,rfl,hK _ (by omega) ?_⟩;rw [Int.toNat_natCast,bitLen_eq _ (by omega)];have:=(Sort.bitsLen_le_iff n 62).2 (by omega);omega
end
theorem DY:ES 49:=by
 intro w F c k G m B A n cx l K C row hn gA ji vM hK;have hlen:=cC.len row;by_cases h0:n=0
 ·subst h0
  have h:=AnyF.slices_SortFunc_none Tryz.xE A cx (.func (.func bK.id) #[.pointer (some ⟨c,0,none⟩)] #[]) w;refine Calls.mono h ?_;rintro e w' ⟨rfl,rfl⟩;have:l= []:=List.eq_nil_of_length_eq_zero hlen;subst this;exact⟨_,rfl,hK [] _ List.Pairwise.nil (fun _=>Iff.rfl) row (Kept.refl _ _)⟩
 ·obtain⟨b,rfl⟩:=Row.some row (by omega)
  have hE:SE w F c k G m B b n cx l.toArray:=⟨C,by simpa [SR]using row,by simpa using ji,vM b rfl⟩;refine qz.of ?_;unfold qz.W;have ew:u64.wrap (n:Int)=(n:Int):=km (by omega);rw [ew];refine Dx (by omega) fun v hv0 J0=>⟨v,rfl,?_⟩;refine Fp (x:=0) (y:=n) (by omega) (n+1) (by omega) (Nat.zero_le _) (Nat.le_refl _) hv0 J0 hE (by simpa using gA) (.inl rfl) fun d' w' h' p' s' k'=>⟨rfl,?_⟩;have ot:=SR.size h'.row;have CH:l.toArray.size=n:=by simpa using hlen
  have Uo:=lQ (Nat.zero_le _) (by omega) p';refine hK d'.toList w' ?_ (fun x=>by rw [Uo.mem_iff]) h'.row (k'.mono fun j _ e=>by subst e;rfl);have uz:=Uo.nodup_iff.2 (by simpa using gA);rw [SO,List.pairwise_iff_getElem];intro i j hi hj sD;have Gm:i<d'.size:=by simpa using hi
  have vN:j<d'.size:=by simpa using hj
  have h1:=s' i j (Nat.zero_le _) sD (by omega);rw [getElem!_pos d' i Gm,getElem!_pos d' j vN]at h1;rw [Array.getElem_toList,Array.getElem_toList];cases hg:gl G d'[i] d'[j]
  ·exfalso
   have e1:=mV hg h1;have:=(List.getElem_inj (xs:=d'.toList) (i:=i) (j:=j) (h₀:=hi) (h₁:=hj) uz).1 (by simpa using e1);omega
  ·rfl
end Go.Proofs.YtfleamccglihoaaGreatDoor
