import Derived.Test.YtfleamccglihoaaGreatDoorMQ
import Derived.Test.YtfleamccglihoaaGreatDoorMG
import Derived.Test.YtfleamccglihoaaGreatDoorMJ
import Derived.Sort.AssemblyPlain
import Derived.Test.YtfleamccglihoaaGreatDoorMO
open Go.IntKind (i64 u64)
set_option linter.unusedVariables false
namespace Go.Proofs.YtfleamccglihoaaGreatDoor
open Go.Proofs.Tryz
open Go Go.bE Go.RowKit
section
variable{w w':World}{A B:Option Addr}{n cp m cq:Nat}{K:Value->World->Prop}
theorem Bo.none{l:List Bool}(h:Bo w none n l):n=0/\l= []:=by
 cases l with
 |nil=>exact⟨h.len.symm,rfl⟩
 |cons b l=>
  obtain⟨a,h1,_⟩:=h.at_ 0 b rfl;cases h1
theorem Bo.cells{a:Addr}{l:List Bool}(h:Bo w (some a) n l):∀j u,(uZ l)[j]? =some u->w.cell? (a.add j)=some u:=by
 intro j u hj;unfold uZ at hj;rw [List.getElem?_map]at hj;cases hb:l[j]? with
 |none=>rw [hb]at hj;cases hj
 |some b=>
  rw [hb]at hj;cases hj;obtain⟨a',h1,_,h3⟩:=h.at_ j b hb;cases h1;exact h3
theorem Row.bo{l:List Bool}{C:Nat}(h:Row w C iV 1 A n cp (uZ l)):Bo w A n l:=by
 have hlen:=Row.len h;refine⟨by simpa [uZ]using hlen,fun i b hi=>?_⟩;have eV:=(lgeS hi).1;have hn:0<n:=by simp [uZ]at hlen;omega
 obtain⟨k,rfl⟩:=Row.some h hn;obtain⟨_,cur,vx⟩:=Row.bW h (k:=k) rfl;exact⟨_,rfl,a7 vx,Row.cells h i _ (by simp [uZ,hi])⟩
theorem zy{l:List Bool}(hl:Bo w A n l)(hn:n<=400000)(hK:∀A' c' w',Row w' w.heap.size iV 1 A' n c' (uZ l)->Kept Nil w w'->K (.slice A' n c') w'):
 bf prog db.id #[.slice A n cp] w K:=by
 have hlen:=hl.len;refine db.of ?_;cases A with
 |none=>
  obtain⟨rfl,rfl⟩:=hl.none;exact Split.yes rfl (hK none 0 w (Row.nil _ _ _ _) (Kept.refl _ _))
 |some a=>
  refine Split.no rfl ?_;intro w2;have k2:Kept Nil w w2:=(Kept.refl _ _).alloc _;have r0:Row w2 w.heap.size iV 1 (some ⟨w.heap.size,0,none⟩) 0 0 []:=Row.made (n:=0) (cur:= #[]) (aR w _) (Nat.le_refl _) rfl (Nat.zero_le _);clear_value w2;obtain⟨A',c',w4,hr,row,hg,_⟩:=im (P:=prog) (t:=iZ) (bytes:=1) (ty:=iZ) Dv r0 (a:=a) (m:=n) (cx:=cp) (news:=uZ l) (by simp [uZ,hlen]) (hl.same k2).cells (fun u hu=>by
   simp only [uZ,List.mem_map]at hu;obtain⟨b,_,rfl⟩:=hu;rfl) (by omega) (by unfold maxLen;omega) k2.size
  rw [Nat.zero_add]at hr row;rw [List.nil_append]at row;exact⟨A',n,c',w4,hr,hK A' c' w4 row (Kept.pO k2 hg (fun k hk=>by cases hk;exact Nat.le_refl _))⟩
theorem rr(c:q7)(hm:HS w A n c.merge)(hb:Bo w B m c.iH)(hn:n<=400000)(UT:m<=400000)
 (hK:∀A' c1 B' c2 w',cm w' w.heap.size A' n c1 c.merge->Row w' w.heap.size iV 1 B' m c2 (uZ c.iH)->(∀j,bm A'=some j->bm B'≠some j)->Kept Nil w w'->K (.agg (dS c A' n c1 B' m c2)) w'):
 bf prog fM.id #[.agg (dS c A n cp B m cq)] w K:=by
 refine fM.of ?_;unfold fM.W;intro w1 w2 w3;have k1:Kept Nil w w1:=(Kept.refl _ _).alloc _;have Yr:w1.heap[w.heap.size]? =some (.cells (dS c A n cp B m cq) cB (0,0)):=aR w _;have k2:Kept Nil w1 w2:=(Kept.refl _ _).alloc _;have la:w2.heap[w1.heap.size]? =some (.cells zC cB (0,0)):=aR w1 _;have k3:Kept Nil w2 w3:=(Kept.refl _ _).drew;clear_value w3;have Oo:=k3.heap (k2.heap Yr (fun h=>h)) (fun h=>h);have CX:=k3.heap la (fun h=>h);have jS:=(k1.tt k2).tt k3;have s1:=k1.size;have l1:=a7 Yr;have l2:=a7 la;have s3:=k3.size;clear_value w2 w1;have g:=gL c A n cp B m cq #[];rw [Array.append_empty]at g;refine⟨A,n,cp,by rw [bt,aA Oo];exact g.2.1,B,m,cq,by rw [bt,aA Oo];exact g.2.2.1,?_⟩;refine zx (hm.same jS) hn fun A' c1 w4 wv k4=>⟨A',n,c1,rfl,by rw [bt,aA (k4.heap Oo (fun h=>h))];exact g.2.2.1,?_⟩;have lh:=jS.tt k4;have s4:=k4.size;refine zy (hb.same lh) UT fun B' c2 w5 qg k5=>⟨B',m,c2,rfl,?_⟩;have lN:=k4.tt k5;have Yp:=lN.heap Oo (fun h=>h);have CW:=lN.heap CX (fun h=>h);have nK:=bX c A n cp B m cq;refine⟨by rw [bt];exact dz Yp (by omega),?_⟩;intro w6;have ZQ:=sZ c A n cp B m cq #[] A' n c1;rw [Array.append_empty,Array.append_empty]at ZQ;have GY:w6.heap[w.heap.size]? =some (.cells (dS c A' n c1 B m cq) cB (0,0)):=by
  show(w5.setCell ((aU w.heap.size).add 33) (.slice A' n c1)).heap[w.heap.size]? =_;rw [bt,cR Yp,ZQ]
 have k6:Kept (· =w.heap.size) w5 w6:=by
  show Kept (· =w.heap.size) w5 (w5.setCell ((aU w.heap.size).add 33) (.slice A' n c1))
  rw [bt];exact Kept.setCell (S:=(· =w.heap.size)) (Kept.refl _ w5) (p:=⟨w.heap.size,0+33,none⟩) (fun _=>rfl) _
 clear_value w6;have abD:=bX c A' n c1 B m cq;refine⟨by rw [bt];exact dz GY (by omega),?_⟩;intro w7;have ZP:=sY c A' n c1 B m cq #[] B' m c2;rw [Array.append_empty,Array.append_empty]at ZP;have hx7:w7.heap[w.heap.size]? =some (.cells (dS c A' n c1 B' m c2) cB (0,0)):=by
  show(w6.setCell ((aU w.heap.size).add 34) (.slice B' m c2)).heap[w.heap.size]? =_;rw [bt,cR GY,ZP]
 have k7:Kept (· =w.heap.size) w6 w7:=by
  show Kept (· =w.heap.size) w6 (w6.setCell ((aU w.heap.size).add 34) (.slice B' m c2))
  rw [bt];exact Kept.setCell (S:=(· =w.heap.size)) (Kept.refl _ w6) (p:=⟨w.heap.size,0+34,none⟩) (fun _=>rfl) _
 clear_value w7;have GL:=k6.tt k7;have Iz:=GL.heap CW (by omega);obtain⟨t1,t2,t3⟩:=lr Iz (cs:=dS c A' n c1 B' m c2) (by rw [bX];rfl);refine⟨_,⟨bX ..,Cells.bW hx7⟩,⟨bX ..,kR _ _ _ _ _ _ _,fun j hj=>t1 j (by rw [bX];exact hj)⟩,?_⟩;intro w8
 replace t2:w8.heap[w1.heap.size]? =_:=t2
 replace t3:Kept (· =w1.heap.size) w7 w8:=t3
 clear_value w8;refine⟨_,⟨bX ..,Cells.bW t2⟩,?_⟩;have Cm:∀j,bm A'=some j->w3.heap.size<=j/\j<w4.heap.size:=fun j hj=>by obtain⟨g1,cur,g2⟩:=Row.bW wv hj;exact⟨g1,a7 g2⟩
 have Lr:∀j,bm B'=some j->w4.heap.size<=j:=fun j hj=>(Row.bW qg hj).1;have s5:=k5.size;have D0:Kept (fun j=>j=w.heap.size\/j=w1.heap.size) w5 w8:=(GL.mono fun _ _ h=>.inl h).trans t3 (fun _ _ h=>.inr h);refine hK A' c1 B' c2 w8 ?_ ?_ (fun j hj he=>by have:=(Cm j hj).2;have:=Lr j he;omega) ((jS.tt lN).trans D0 (fun j hj e=>by omega))
 ·exact Row.base (Row.aK (Row.aK wv k5 (fun _ _ h=>h)) D0 (fun j hj e=>by have:=(Cm j hj).1;omega)) (fun j hj=>by have:=(Cm j hj).1;omega)
 ·exact Row.base (Row.aK qg D0 (fun j hj e=>by have:=Lr j hj;omega)) (fun j hj=>by have:=Lr j hj;omega)
end
section
variable{w w':World}{F:Nat->Prop}{c k:Nat}{G:GS}{m:CM}{K:Value->World->Prop}
theorem qR(h:CV w F c k G m)(hK:K (.pointer (some ⟨m.x,0,none⟩)) w):bf prog cD.id #[.pointer (some ⟨c,0,none⟩)] w K:=
 cD.of (Split.no rfl (Is.mk rfl ⟨_,h.c1,hK⟩))
end
theorem vu(x:HT):x.1.size=32:=x.2.1
theorem AM{G:GS}{a b:HT}:xH G a b>0↔gl G b a=true:=by
 unfold xH;split
 ·rename_i h;rw [xt h];simp
 ·split<;>simp_all
section
variable{w w':World}{F:Nat->Prop}{c k:Nat}{G:GS}{m:CM}{K:Value->World->Prop}{A:Option Addr}{n cx:Nat}{l:List HT}
theorem Cp(h:CV w F c k G m)(hl:HS w A n l)(h0:l≠ [])(hn:n<=400000)(gK:∀x∈l,x∈ids G.D)(hK:∀w',Kept Nil w w'->K (.agg (bK G l).1) w'):
 bf prog kH.id #[.slice A n cx,.func (.func cC.id) #[.pointer (some ⟨c,0,none⟩)] #[]] w K:=by
 have hlen:=hl.len;obtain⟨x0,t,rfl⟩:∃x0 t,l=x0::t:=by cases l with|nil=>exact absurd rfl h0|cons a b=>exact⟨a,b,rfl⟩
 refine ao.of ?_;unfold ao.W;intro w1;have k1:Kept Nil w w1:=(Kept.refl _ _).alloc _;have pJ:w1.heap[w.heap.size]? =some (.cells fy.1 ax (0,0)):=aR w _;clear_value w1;simp only [List.length_cons]at hlen;refine Split.no (decide_eq_false (by omega)) ((hl.same k1).load (i:=0) (by omega) rfl ?_);intro w2;have k2:Kept Nil w1 w2:=(Kept.refl _ _).alloc _;have o6:w2.heap[w1.heap.size]? =some (.cells fy.1 ax (0,0)):=aR w1 _;clear_value w2;have la:=k2.heap pJ (fun h=>h);have l1:=a7 pJ;have l2:=a7 o6;obtain⟨t1,t2,t3⟩:=jr x0 o6 rfl;refine⟨t1,?_⟩;intro w3
 replace t2:w3.heap[w1.heap.size]? =some (.cells x0.1 ax (0,0)):=t2
 replace t3:Kept (· =w1.heap.size) w2 w3:=t3
 clear_value w3;have s1:=k1.size;have jS:Kept Nil w w3:=(k1.tt k2).trans t3 (fun j hj e=>by omega);have CX:=t3.heap la (by omega);refine ao.b9 (I:=fun s v=>∃(i:Nat) (b:HT),s=(i:Int)/\1<=i/\i<=n/\b∈ids G.D/\((x0::t).drop i).foldl (fun b y=>if gl G b y then y else b) b=bK G (x0::t)/\v.heap[w1.heap.size]? =some (.cells b.1 ax (0,0))/\v.heap[w.heap.size]? =some (.cells fy.1 ax (0,0))/\Kept Nil w v) (μ:=fun s _=>((n:Int)-s).toNat) (s:=1) ⟨1,x0,rfl,Nat.le_refl _,by omega,gK _ List.mem_cons_self,rfl,t2,CX,jS⟩ ?_;rintro s v ⟨i,b,rfl,PK,Hg,hb,he,EN,YH,kv⟩;unfold ao.B1;refine Split.dec (fun cI=>?_) (fun iG=>?_)
 ·have eV:i<n:=by omega
  obtain⟨y,hy⟩:∃y,(x0::t)[i]? =some y:=⟨_,List.getElem?_eq_getElem (by simp;omega)⟩;have Yl:y∈ids G.D:=gK _ (List.mem_of_getElem? hy);have hd:(x0::t).drop i=y::(x0::t).drop (i+1):=by
   obtain⟨q1,q2⟩:=lgeS hy;rw [List.drop_eq_getElem_cons q1,q2]
  rw [hd,List.foldl_cons]at he;intro w4;have k4:Kept Nil v w4:=(Kept.refl _ _).drew;clear_value w4;have DW:=kv.tt k4;have RF:(x0::t)[((i:Nat):Int).toNat]? =some y:=by rw [Int.toNat_natCast];exact hy
  refine(hl.same DW).load (i:=(i:Int)) (by omega) RF ⟨b.1,⟨b.2.1,Cells.bW (k4.heap EN (fun h=>h))⟩,?_⟩;refine qQ (h.same DW) Yl hb fun w5 k5=>⟨_,rfl,?_⟩;have FB:=DW.tt k5;have vz:=k5.heap (k4.heap EN (fun h=>h)) (fun h=>h);have CW:=k5.heap (k4.heap YH (fun h=>h)) (fun h=>h);rw [eF (n:=(i:Int)) (by omega) (by omega)];refine Split.dec (fun xn=>?_) (fun hle=>?_)
  ·rw [if_pos (AM.1 xn)]at he
   refine(hl.same FB).load (i:=(i:Int)) (by omega) RF ?_;obtain⟨f1,f2,f3⟩:=jr y vz b.2.1;refine⟨f1,?_⟩;exact⟨(i:Int)+1,rfl,⟨i+1,y,rfl,by omega,by omega,Yl,he,f2,f3.heap CW (by omega),FB.trans f3 (fun j hj e=>by omega)⟩,by simp only;omega⟩
  ·rw [if_neg (fun e=>hle (AM.2 e))]at he
   exact⟨(i:Int)+1,rfl,⟨i+1,b,rfl,by omega,by omega,hb,he,vz,CW,FB⟩,by simp only;omega⟩
 ·rw [aY,ao.dw]
  rw [List.drop_eq_nil_of_le (by simp;omega)]at he
  replace he:b=bK G (x0::t):=he
  subst he;refine⟨_,⟨vu _,Cells.bW EN⟩,?_⟩;obtain⟨f1,f2,f3⟩:=jr (bK G (x0::t)) YH rfl;exact⟨f1,_,⟨vu _,Cells.bW f2⟩,hK _ (kv.trans f3 (fun j hj e=>by omega))⟩
theorem pQ(h:CV w F c k G m)(hl:HS w A n l)(hn:n<=400000)(hK:∀w',Kept Nil w w'->K (.tuple #[.agg (if ki G.D l=0 then bK G l else fy).1,.int .i64 (ki G.D l)]) w'):
 bf prog cP.id #[.pointer (some ⟨c,0,none⟩),.slice A n cx] w K:=by
 refine cP.of ?_;unfold cP.W;intro w1;have k1:Kept Nil w w1:=(Kept.refl _ _).alloc _;have pJ:w1.heap[w.heap.size]? =some (.cells fy.1 ax (0,0)):=aR w _;clear_value w1;refine uT (h.same k1) (hl.same k1) hn fun w2 k2=>⟨_,rfl,?_⟩;have oA:=k1.tt k2;have la:=k2.heap pJ (fun h=>h);by_cases h0:ki G.D l=0
 ·rw [if_pos h0]at hK
  refine Split.no (by simp [h0]) ?_;have fG:l≠ []:=fun e=>by unfold ki at h0;rw [if_pos e]at h0;cases h0
  have gK:∀x∈l,x∈ids G.D:=fun x hx=>by
   unfold ki at h0;rw [if_neg fG]at h0;by_cases Ys:x∈ids G.D
   ·exact Ys
   ·rw [if_pos ⟨x,hx,Ys⟩]at h0;cases h0
  refine Cp (h.same oA) (hl.same oA) fG hn gK fun w3 k3=>⟨_,rfl,?_⟩;obtain⟨f1,f2,f3⟩:=jr (bK G l) (k3.heap la (fun h=>h)) rfl;rw [h0]at hK;exact⟨f1,_,⟨vu _,Cells.bW f2⟩,hK _ ((oA.tt k3).trans f3 (fun j hj e=>by omega))⟩
 ·rw [if_neg h0]at hK
  refine Split.yes (by simpa using h0) ?_;obtain⟨f1,f2,f3⟩:=jr fy la rfl;exact⟨f1,_,⟨vu _,Cells.bW f2⟩,hK _ (oA.trans f3 (fun j hj e=>by omega))⟩
end
abbrev SR(w:World)(B b n cx:Nat)(d:Array HT):Prop:=cm w B (some ⟨b,0,none⟩) n cx d.toList
section
variable{w w':World}{B b n cx:Nat}{d:Array HT}
theorem SR.size(h:SR w B b n cx d):d.size=n:=by have:=cm.len h;simpa using this
theorem rQ(d:Array HT)(i j:Nat)(hi:i<d.size)(hj:j<d.size):(Sort.swp d i j).toList=(d.toList.set i d[j]!).set j d[i]! :=by
 unfold Sort.swp;simp
end
structure F8 where
 z:Bool
 c:Nat
 lt:HT->HT->Bool
 M:HT->Prop
 U:Nat->Prop
 E:World->Prop
 aK:∀ {w w':World} {S:Nat->Prop},E w->Kept S w w'->(∀j,U j->¬S j)->E w'
 low:∀ {w:World},E w->∀j,U j->j<w.heap.size
 cmp:∀ {w:World} {x y:HT} {K:Value->World->Prop},E w->M x->M y->(∀(r:Int) w',Kept Nil w w'->(r<0↔lt x y=true)->K (.int .i64 r) w')->bf prog (CF z) (CA z (some ⟨c,0,none⟩) x.1 y.1) w K
 swo:Sort.SWO lt
 total:∀ {x y:HT},lt x y=false->lt y x=false->x=y
structure SQ(w:World)(Z:F8)(B b n cx:Nat)(d:Array HT):Prop where
 E:Z.E w
 row:SR w B b n cx d
 mem:∀x∈d.toList,Z.M x
 own:¬Z.U b
section
variable{w w':World}{B b n cx:Nat}{d:Array HT}{Z:F8}{K:Value->World->Prop}
theorem SQ.wX{S:Nat->Prop}{d':Array HT}(h:SQ w Z B b n cx d)(hk:Kept S w w')(hS:∀j,Z.U j->¬S j)(hr:SR w' B b n cx d')(hm:∀x∈d'.toList,Z.M x):SQ w' Z B b n cx d':=by
 exact⟨Z.aK h.E hk hS,hr,hm,h.own⟩
theorem SQ.same(h:SQ w Z B b n cx d)(hk:Kept Nil w w'):SQ w' Z B b n cx d:=h.wX hk (fun _ _ h=>h) (Row.aK h.row hk (fun _ _ h=>h)) h.mem
theorem SQ.get(h:SQ w Z B b n cx d){i:Nat}(hi:i<n):Z.M d[i]! /\Cells w ((⟨b,0,none⟩:Addr).add (i*32)) d[i]!.1:=by
 have hs:=SR.size h.row;have e:d.toList[i]? =some d[i]! :=by simp [hs,hi]
 refine⟨h.mem _ (List.mem_of_getElem? e),?_⟩;obtain⟨a,h1,_,h3⟩:=(cm.hs h.row).at_ i _ e;cases h1;exact h3
theorem SQ.swap(h:SQ w Z B b n cx d){i j:Nat}(hi:i<n)(hj:j<n):
 ((d[j]!.1.size=32/\(∀a∈d[j]!.1.toList,a.oneCell'=true)/\∀q,q<32->Wr w (((⟨b,0,none⟩:Addr).add (i*32)).add q))/\
   d[i]!.1.size=32/\(∀a∈d[i]!.1.toList,a.oneCell'=true)/\∀q,q<32->Wr (setCells w ((⟨b,0,none⟩:Addr).add (i*32)) d[j]!.1.toList 0) (((⟨b,0,none⟩:Addr).add (j*32)).add q))/\
 SQ (setCells (setCells w ((⟨b,0,none⟩:Addr).add (i*32)) d[j]!.1.toList 0) ((⟨b,0,none⟩:Addr).add (j*32)) d[i]!.1.toList 0) Z B b n cx (Sort.swp d i j)/\
 Kept (· =b) w (setCells (setCells w ((⟨b,0,none⟩:Addr).add (i*32)) d[j]!.1.toList 0) ((⟨b,0,none⟩:Addr).add (j*32)) d[i]!.1.toList 0):=by
 have hs:=SR.size h.row;have gi:=h.get hi;have gj:=h.get hj;simp only [bt,Nat.zero_add];have r1:=cm.setAt h.row hi d[j]!;have r2:=cm.setAt r1 hj d[i]!;have kp:=(fR (b:=b) d[j]!.1.toList w (i*32) 0).tt (fR (b:=b) d[i]!.1.toList (setCells w ⟨b,i*32,none⟩ d[j]!.1.toList 0) (j*32) 0);refine⟨⟨⟨d[j]!.2.1,d[j]!.2.one,fun q hq=>?_⟩,d[i]!.2.1,d[i]!.2.one,fun q hq=>?_⟩,h.wX kp (fun q hq e=>h.own (by rw [<-e];exact hq)) ?_ ?_,kp⟩
 ·have:=cm.Jl h.row hi q hq
  rwa [bt]at this
 ·have:=cm.Jl r1 hj q hq
  rwa [bt]at this
 ·show cm _ _ _ _ _ (Sort.swp d i j).toList
  rw [rQ d i j (by omega) (by omega)];exact r2
 ·intro x hx
  rw [rQ d i j (by omega) (by omega)]at hx;rcases List.mem_or_eq_of_mem_set hx with hx|rfl
  ·rcases List.mem_or_eq_of_mem_set hx with hx|rfl
   ·exact h.mem x hx
   ·exact gj.1
  ·exact gi.1
theorem SQ.cmp(h:SQ w Z B b n cx d){x y:Int}{i j:Nat}(hx:x=(i:Int))(hy:y=(j:Int))(hi:i<n)(hj:j<n){Y:Int->World->Prop}
 (hK:∀r w',SQ w' Z B b n cx d->Kept Nil w w'->(r<0↔Z.lt d[i]! d[j]! =true)->Y r w'):
 (0<=x/\x<(n:Int))/\Is (some (⟨b,0,none⟩:Addr)) fun a:Addr=>∃t:Array Value,(t.size=32/\Cells w (a.add (x.toNat*32)) t)/\(0<=y/\y<(n:Int))/\Is (some (⟨b,0,none⟩:Addr)) fun a:Addr=>∃u:Array Value,(u.size=32/\Cells w (a.add (y.toNat*32)) u)/\
   bf prog (CF Z.z) (CA Z.z (some ⟨Z.c,0,none⟩) t u) w fun q r=>∃t:Int,q=.int .i64 t/\Y t r:=by
 subst hx hy;have g1:=h.get hi;have g2:=h.get hj;refine⟨⟨by omega,by omega⟩,Is.mk rfl ⟨d[i]!.1,⟨d[i]!.2.1,by rw [Int.toNat_natCast];exact g1.2⟩,⟨by omega,by omega⟩,Is.mk rfl ⟨d[j]!.1,⟨d[j]!.2.1,by rw [Int.toNat_natCast];exact g2.2⟩,?_⟩⟩⟩;exact Z.cmp h.E g1.1 g2.1 fun r w4 k4 hr=>⟨r,rfl,hK r w4 (h.same k4) k4 hr⟩
theorem SQ.sw(h:SQ w Z B b n cx d){x y:Int}{i j:Nat}(hx:x=(i:Int))(hy:y=(j:Int))(hi:i<n)(hj:j<n):
 ((0<=y/\y<(n:Int))/\(d[j]!.1.size=32/\Cells w ((⟨b,0,none⟩:Addr).add (y.toNat*32)) d[j]!.1)/\(0<=x/\x<(n:Int))/\(d[i]!.1.size=32/\Cells w ((⟨b,0,none⟩:Addr).add (x.toNat*32)) d[i]!.1)/\
   (d[j]!.1.size=32/\(∀a∈d[j]!.1.toList,a.oneCell'=true)/\∀q,q<32->Wr w (((⟨b,0,none⟩:Addr).add (x.toNat*32)).add q))/\
   d[i]!.1.size=32/\(∀a∈d[i]!.1.toList,a.oneCell'=true)/\∀q,q<32->Wr (setCells w ((⟨b,0,none⟩:Addr).add (x.toNat*32)) d[j]!.1.toList 0) (((⟨b,0,none⟩:Addr).add (y.toNat*32)).add q))/\
 SQ (setCells (setCells w ((⟨b,0,none⟩:Addr).add (x.toNat*32)) d[j]!.1.toList 0) ((⟨b,0,none⟩:Addr).add (y.toNat*32)) d[i]!.1.toList 0) Z B b n cx (Sort.swp d i j)/\
 Kept (· =b) w (setCells (setCells w ((⟨b,0,none⟩:Addr).add (x.toNat*32)) d[j]!.1.toList 0) ((⟨b,0,none⟩:Addr).add (y.toNat*32)) d[i]!.1.toList 0):=by
 subst hx hy;obtain⟨⟨t1,t2⟩,t3,t4⟩:=h.swap hi hj;have f1:=h.get hi;have f2:=h.get hj;rw [Int.toNat_natCast,Int.toNat_natCast];exact⟨⟨⟨by omega,by omega⟩,⟨d[j]!.2.1,f2.2⟩,⟨by omega,by omega⟩,⟨d[i]!.2.1,f1.2⟩,t1,t2⟩,t3,t4⟩
theorem SQ.kQ(h:SQ w Z B b n cx d){q:Nat}(hk:Kept (· =q) w w')(kQ:True/\¬Z.U q/\q≠b):SQ w' Z B b n cx d:=
 h.wX hk (fun j hj e=>kQ.2.1 (by rw [<-e];exact hj)) (Row.aK h.row hk (fun j hj e=>by cases hj;exact kQ.2.2 e.symm)) h.mem
theorem SQ.lt(h:SQ w Z B b n cx d):b<w.heap.size:=by
 obtain⟨_,cur,vx⟩:=Row.bW h.row (k:=b) rfl;exact a7 vx
theorem SQ.fresh(h:SQ w Z B b n cx d){q:Nat}(hq:w.heap.size<=q):True/\¬Z.U q/\q≠b:=
 ⟨trivial,fun e=>by have:=Z.low h.E q e;omega,fun e=>by have:=h.lt;omega⟩
end
section
variable{w w':World}{B b n cx:Nat}{d:Array HT}{Z:F8}{K:Value->World->Prop}
theorem Bu(h:SQ w Z B b n cx d){x y:Nat}(lW:x<=y)(hy:y<=n)(hn:n<=1000000)
 (hK:∀w',SQ w' Z B b n cx (Sort.insertionSort (Z.lt) d x y)->Kept (· =b) w w'->K (.tuple #[]) w'):
 bf prog gU.id #[.slice (some ⟨b,0,none⟩) n cx,.int .i64 (x:Int),.int .i64 (y:Int),CL Z.z (some ⟨Z.c,0,none⟩)] w K:=by
 refine bU.of ?_;unfold bU.W;rw [eF (n:=(x:Int)) (by omega) (by omega)];refine bU.b9 (I:=fun s v=>∃(i:Nat) (dk:Array HT),s=(i:Int)/\x<i/\i<=y+1/\SQ v Z B b n cx dk/\Sort.insOuter (Z.lt) x y i dk=Sort.insertionSort (Z.lt) d x y/\Kept (· =b) w v) (μ:=fun s _=>((y:Int)+1-s).toNat) (s:=(x:Int)+1) ⟨x+1,d,rfl,by omega,by omega,h,rfl,Kept.refl _ _⟩ ?_;rintro s v ⟨i,dk,rfl,Mj,Y9,hv,ho,kv⟩;refine Split.dec (fun cI=>?_) (fun iG=>?_)
 ·have cI:i<y:=by omega
  rw [Sort.insOuter,if_pos cI]at ho;refine bU.iK (I:=fun s v=>∃(j:Nat) (dj:Array HT),s=(j:Int)/\j<=i/\SQ v Z B b n cx dj/\Sort.insInner (Z.lt) x j dj=Sort.insInner (Z.lt) x i dk/\Kept (· =b) w v) (μ:=fun s _=>s.toNat) (s:=(i:Int)) ⟨i,dk,rfl,Nat.le_refl _,hv,rfl,kv⟩ ?_;rintro s u ⟨j,dj,rfl,FT,hu,gK,ku⟩;unfold bU.B2;intro w3;have k3:Kept Nil u w3:=(Kept.refl _ _).drew;clear_value w3;have stop:∀ {u':World},SQ u' Z B b n cx dj->Kept (· =b) w u'->Sort.insInner (Z.lt) x j dj=dj->bU.jX Z.z (some ⟨b,0,none⟩) n cx (x:Int) (y:Int) (some ⟨Z.c,0,none⟩) (i:Int) (j:Int) (bS (bU.e1 Z.z (some ⟨b,0,none⟩) n cx (x:Int) (y:Int) (some ⟨Z.c,0,none⟩)) (fun s v=>∃(i:Nat) (dk:Array HT),s=(i:Int)/\x<i/\i<=y+1/\SQ v Z B b n cx dk/\Sort.insOuter (Z.lt) x y i dk=Sort.insertionSort (Z.lt) d x y/\Kept (· =b) w v) (fun s _=>((y:Int)+1-s).toNat) (i:Int) v (bU.q1 K)) u':=fun GZ Rw e=>by
   unfold bU.jX;rw [eF (n:=(i:Int)) (by omega) (by omega)];exact⟨(i:Int)+1,rfl,⟨i+1,dj,rfl,by omega,by omega,GZ,by rw [<-ho,<-gK,e],Rw⟩,by simp only;omega⟩
  have Ox:=hu.same k3;have NJ:Kept (· =b) w w3:=ku.trans k3 (fun _ _ h=>h.elim);refine Split.dec (fun hjx=>?_) (fun hjx=>?_)
  ·have hj0:0<j:=by omega
   have ew:i64.wrap ((j:Int)-(1:Int))=((j-1:Nat):Int):=by
    rw [iF (by omega) (by omega)];omega
   rw [ew];have g1:=Ox.get (i:=j) (by omega);have g2:=Ox.get (i:=j-1) (by omega);refine⟨⟨by omega,by omega⟩,dj[j]!.1,⟨dj[j]!.2.1,by rw [Int.toNat_natCast];exact g1.2⟩,⟨by omega,by omega⟩,dj[j-1]!.1,⟨dj[j-1]!.2.1,by rw [Int.toNat_natCast];exact g2.2⟩,?_⟩;refine Z.cmp Ox.E g1.1 g2.1 fun r w4 k4 hr=>⟨_,rfl,?_⟩;have YA:=Ox.same k4;have NI:Kept (· =b) w w4:=NJ.trans k4 (fun _ _ h=>h.elim);have ej:∃j',j=j'+1:=⟨j-1,by omega⟩;refine Split.dec (fun U4=>?_) (fun Vi=>?_)
   ·have PO:=hr.1 U4
    intro w5;have k5:Kept Nil w4 w5:=(Kept.refl _ _).drew;clear_value w5;have T3:=YA.same k5;have Rv:Kept (· =b) w w5:=NI.trans k5 (fun _ _ h=>h.elim);have f1:=T3.get (i:=j) (by omega);have f2:=T3.get (i:=j-1) (by omega);obtain⟨⟨t1,t2⟩,t3,t4⟩:=T3.swap (i:=j) (j:=j-1) (by omega) (by omega);simp only [Int.toNat_natCast];refine⟨⟨by omega,by omega⟩,dj[j-1]!.1,⟨dj[j-1]!.2.1,f2.2⟩,⟨by omega,by omega⟩,dj[j]!.1,⟨dj[j]!.2.1,f1.2⟩,⟨by omega,by omega⟩,t1,⟨by omega,by omega⟩,t2,?_⟩;refine⟨((j-1:Nat):Int),rfl,⟨j-1,Sort.swp dj j (j-1),rfl,by omega,t3,?_,Rv.tt t4⟩,by simp only;omega⟩;obtain⟨j',rfl⟩:=ej;rw [<-gK];show _=Sort.insInner (Z.lt) x (j'+1) dj
    rw [Sort.insInner,if_pos (by simp only [Bool.and_eq_true,decide_eq_true_eq];exact⟨by omega,PO⟩)];rfl
   ·rw [aY,bU.lI]
    refine stop YA NI ?_;have PO:Z.lt dj[j]! dj[j-1]! =false:=by
     cases hg:Z.lt dj[j]! dj[j-1]!
     ·rfl
     ·exact absurd (hr.2 hg) Vi
    obtain⟨j',rfl⟩:=ej;rw [Sort.insInner,if_neg (by simp only [Bool.and_eq_true,decide_eq_true_eq];intro e;have:=e.2;rw [show j'+1-1=j' from rfl]at PO;rw [PO]at this;cases this)]
  ·rw [aY,bU.lI]
   refine stop Ox NJ ?_;cases j with
   |zero=>rfl
   |succ j'=>rw [Sort.insInner,if_neg (by simp only [Bool.and_eq_true,decide_eq_true_eq];intro e;have:=e.1;omega)]
 ·rw [aY,bU.dw]
  unfold bU.cU;rw [Sort.insOuter,if_neg (by omega)]at ho;rw [ho]at hv;exact hK v hv kv
end
theorem wN{x:Int}{i:Nat}(h:x=(i:Int))(hi:i<4000000):i64.wrap x=(i:Int):=by rw [iF (by omega) (by omega),h]
section
variable{w w':World}{B b n cx:Nat}{d:Array HT}{Z:F8}{K:Value->World->Prop}
theorem Bn(h:SQ w Z B b n cx d){x y:Nat}(lW:x<y)(hy:y<=n)(hn:n<=1000000)
 (hK:∀d' w',SQ w' Z B b n cx d'->Sort.PermIn x y d d'->Kept (· =b) w w'->K (.tuple #[]) w'):
 bf prog gX.id #[.slice (some ⟨b,0,none⟩) n cx,.int .i64 (x:Int),.int .i64 (y:Int),CL Z.z (some ⟨Z.c,0,none⟩)] w K:=by
 refine dC.of ?_;unfold dC.W;rw [wN (i:=y-1) (by omega) (by omega)];refine dC.b9 (I:=fun s v=>∃(i j:Nat) (dk:Array HT),s=((i:Int),(j:Int))/\x<=i/\j<y/\SQ v Z B b n cx dk/\Sort.PermIn x y d dk/\Kept (· =b) w v) (μ:=fun s _=>(s.2+1-s.1).toNat) (s:=((x:Int),((y-1:Nat):Int))) ⟨x,y-1,d,rfl,Nat.le_refl _,by omega,h,Sort.permIn_refl _ _ _,Kept.refl _ _⟩ ?_;rintro s v ⟨i,j,dk,rfl,hi,hj,hv,hp,kv⟩;unfold dC.B1;refine Split.dec (fun cI=>?_) (fun iG=>?_)
 ·simp only at cI
  have cI:i<j:=by omega
  intro w3;have k3:Kept Nil v w3:=(Kept.refl _ _).drew;clear_value w3;have h3:=hv.same k3;have hs:=SR.size h3.row;obtain⟨⟨a1,a2,a3,a4,a5,a6⟩,h5,k5⟩:=h3.sw (x:=(i:Int)) (y:=(j:Int)) rfl rfl (by omega) (by omega);refine⟨a1,_,a2,a3,_,a4,a3,a5,a1,a6,?_⟩;simp only;rw [wN (x:=(i:Int)+1) (i:=i+1) (by omega) (by omega),wN (x:=(j:Int)-1) (i:=j-1) (by omega) (by omega)];refine⟨(((i+1:Nat):Int),((j-1:Nat):Int)),rfl,⟨i+1,j-1,_,rfl,by omega,by omega,h5,?_,(kv.trans k3 (fun _ _ h=>h.elim)).tt k5⟩,by simp only;omega⟩;exact Sort.permIn_trans _ _ _ x y hp (Sort.swp_permIn dk x y i j hi (by omega) (by omega) (by omega) (by omega))
 ·rw [aY,dC.dw]
  exact hK dk v hv hp kv
def Jj(w:World)(q:Nat):Prop:=∃(u:Int) (t:TypeId),w.heap[q]? =some (.cells #[.int .i64 u] t (0,0))
theorem Jj.aK{S:Nat->Prop}{q:Nat}(h:Jj w q)(hk:Kept S w w')(hS:¬S q):Jj w' q:=by
 obtain⟨u,t,h⟩:=h;exact⟨u,t,hk.heap h hS⟩
theorem p9(h:SQ w Z B b n cx d){x y q:Nat}(hx:x<n)(hy:y<n)(hq:Jj w q)(kQ:True/\¬Z.U q/\q≠b)
 (hK:∀(x' y':Nat) w',((x'=x/\y'=y)\/(x'=y/\y'=x))->SQ w' Z B b n cx d->Jj w' q->Kept (· =q) w w'->K (.tuple #[.int .i64 (x':Int),.int .i64 (y':Int)]) w'):
 bf prog ji.id #[.slice (some ⟨b,0,none⟩) n cx,.int .i64 (x:Int),.int .i64 (y:Int),.pointer (some ⟨q,0,none⟩),CL Z.z (some ⟨Z.c,0,none⟩)] w K:=by
 refine qc.of ?_;unfold qc.W;intro w3;have k3:Kept Nil w w3:=(Kept.refl _ _).drew;clear_value w3;refine(h.same k3).cmp (i:=y) (j:=x) rfl rfl hy hx fun r w4 h4 k4 _=>?_;obtain⟨u,t,h0⟩:=(hq.aK k3 (fun h=>h)).aK k4 (fun h=>h);have lh:=k3.tt k4;refine Split.dec (fun _=>?_) (fun _=>hK x y w4 (.inl ⟨rfl,rfl⟩) h4 ⟨u,t,h0⟩ (lh.mono fun _ _ h=>h.elim));refine Is.mk rfl ⟨u,by rw [aA h0];rfl,Is.mk rfl ⟨dz h0 (by simp),?_⟩⟩;intro w5;have e5:w5.heap[q]? =some (.cells #[.int .i64 (i64.wrap (u+1))] t (0,0)):=by
  show(w4.setCell ⟨q,0,none⟩ _).heap[q]? =_;rw [cR h0 0];rfl
 have k5:Kept (· =q) w4 w5:=Kept.setCell (S:=(· =q)) (Kept.refl _ w4) (p:=⟨q,0,none⟩) (fun _=>rfl) _;clear_value w5;exact hK y x w5 (.inr ⟨rfl,rfl⟩) (h4.kQ k5 kQ) ⟨_,_,e5⟩ ((lh.mono fun _ _ h=>h.elim).tt k5)
theorem Bt(h:SQ w Z B b n cx d){x y z q:Nat}{p:Nat->Prop}(hx:p x)(hy:p y)(hz:p z)(hp:∀i,p i->i<n)(hq:Jj w q)(kQ:True/\¬Z.U q/\q≠b)
 (hK:∀(r:Nat) w',p r->SQ w' Z B b n cx d->Jj w' q->Kept (· =q) w w'->K (.int .i64 (r:Int)) w'):
 bf prog jl.id #[.slice (some ⟨b,0,none⟩) n cx,.int .i64 (x:Int),.int .i64 (y:Int),.int .i64 (z:Int),.pointer (some ⟨q,0,none⟩),CL Z.z (some ⟨Z.c,0,none⟩)] w K:=by
 refine qd.of ?_;unfold qd.W;have two:∀ {x y x' y':Nat},p x->p y->((x'=x/\y'=y)\/(x'=y/\y'=x))->p x'/\p y':=fun hx hy e=>by
  rcases e with⟨rfl,rfl⟩|⟨rfl,rfl⟩
  ·exact⟨hx,hy⟩
  ·exact⟨hy,hx⟩
 refine p9 h (hp _ hx) (hp _ hy) hq kQ fun x1 y1 w1 e1 h1 c1 k1=>⟨_,_,rfl,?_⟩;obtain⟨XG,XE⟩:=two hx hy e1;refine p9 h1 (hp _ XE) (hp _ hz) c1 kQ fun x2 y2 w2 e2 h2 c2 k2=>⟨_,_,rfl,?_⟩;obtain⟨XF,_⟩:=two XE hz e2;refine p9 h2 (hp _ XG) (hp _ XF) c2 kQ fun x3 y3 w3 e3 h3 c3 k3=>⟨_,_,rfl,?_⟩;exact hK y3 w3 (two XG XF e3).2 h3 c3 ((k1.tt k2).tt k3)
theorem Bp(h:SQ w Z B b n cx d){x y:Nat}(lW:x+12<y)(hy:y<=n)(hn:n<50)
 (hK:∀(r:Nat) (t:Int) w',x<=r->r<y->SQ w' Z B b n cx d->Kept Nil w w'->K (.tuple #[.int .i64 (r:Int),.int .i64 t]) w'):
 bf prog iz.id #[.slice (some ⟨b,0,none⟩) n cx,.int .i64 (x:Int),.int .i64 (y:Int),CL Z.z (some ⟨Z.c,0,none⟩)] w K:=by
 refine p8.of ?_;unfold p8.W;intro w3;have k3:Kept Nil w w3:=(Kept.refl _ _).alloc _;have hc:Jj w3 w.heap.size:=⟨_,_,aR w _⟩;clear_value w3;have e4:∀L:Nat,((L:Nat):Int).tdiv 4=((L/4:Nat):Int):=fun _=>rfl;have f4:(y-x)/4<=20:=by omega
 have g4:(y-x)/4*3+x<y:=by omega
 rw [wN (x:=(y:Int)-x) (i:=y-x) (by omega) (by omega),e4];generalize (y-x)/4=q at f4 g4;rw [wN (x:=((q:Nat):Int)) (i:=q) rfl (by omega),wN (x:=((q:Nat):Int)*1) (i:=q) (by omega) (by omega),wN (x:=((q:Nat):Int)*2) (i:=q*2) (by omega) (by omega),wN (x:=((q:Nat):Int)*3) (i:=q*3) (by omega) (by omega),
  wN (x:=(x:Int)+((q:Nat):Int)) (i:=x+q) (by omega) (by omega),wN (x:=(x:Int)+((q*2:Nat):Int)) (i:=x+q*2) (by omega) (by omega),wN (x:=(x:Int)+((q*3:Nat):Int)) (i:=x+q*3) (by omega) (by omega)]
 refine⟨by decide,by decide,by decide,Split.yes (decide_eq_true (by omega)) (Split.no (decide_eq_false (by omega)) ?_)⟩;have hf:=h.fresh (Nat.le_refl _);refine Bt (h.same k3) (p:=fun i=>x<=i/\i<y) ⟨by omega,by omega⟩ ⟨by omega,by omega⟩ ⟨by omega,by omega⟩ (fun i hi=>by omega) hc hf fun r w4 hr h4 c4 k4=>⟨_,rfl,?_⟩;obtain⟨u,t,h0⟩:=c4;have lh:Kept Nil w w4:=k3.trans k4 (fun j hj e=>by omega);refine⟨u,by rw [aA h0];rfl,Split.mk (fun _=>hK r _ w4 hr.1 hr.2 h4 lh) fun _=>Split.mk (fun _=>hK r _ w4 hr.1 hr.2 h4 lh) fun _=>hK r _ w4 hr.1 hr.2 h4 lh⟩
end
theorem Cz(x M:Nat)(hM0:1<=M)(hM:M<4000000):∃O:Nat,O<M/\i64.wrap (u64.wrap (((BitVec.ofInt 64 (x:Int)&&& BitVec.ofInt 64 (u64.wrap ((M:Int)-(1:Int)))).toNat:Nat):Int))=(O:Int):=by
 have e1:u64.wrap ((M:Int)-(1:Int))=((M-1:Nat):Int):=by
  rw [show(M:Int)-1=((M-1:Nat):Int)by omega];exact jC (by omega)
 rw [e1];have hle:(BitVec.ofInt 64 (x:Int)&&& BitVec.ofInt 64 ((M-1:Nat):Int)).toNat<=M-1:=by
  rw [BitVec.toNat_and,BitVec.ofInt_natCast (n:=M-1),BitVec.toNat_ofNat,Nat.mod_eq_of_lt (a:=M-1) (by omega)];exact Nat.and_le_right
 generalize (BitVec.ofInt 64 (x:Int)&&& BitVec.ofInt 64 ((M-1:Nat):Int)).toNat=O at hle;exact⟨O,by omega,by rw [jC (by omega)];exact iF (by omega) (by omega)⟩
section
variable{w w':World}{B b n cx:Nat}{d:Array HT}{Z:F8}{K:Value->World->Prop}
theorem Bm{q X:Nat}{t:TypeId}(hX:X<18446744073709551616)(hq:w.heap[q]? =some (.cells #[.int .u64 (X:Int)] t (0,0)))
 (hK:∀(X':Nat) w',X'<18446744073709551616->w'.heap[q]? =some (.cells #[.int .u64 (X':Int)] t (0,0))->Kept (· =q) w w'->K (.int .u64 (X':Int)) w'):
 bf prog ns.id #[.pointer (some ⟨q,0,none⟩)] w K:=by
 have h:=AnyF.xorshift_Next (P:=prog) (ρ:=Tryz.nX) {Tryz.uw with} q 0 X hX w (by rw [aA hq];rfl) (dz hq (by simp)).2;refine Calls.mono h ?_;rintro e w' ⟨rfl,rfl⟩;refine⟨_,rfl,hK _ _ (Sort.xorNextN_lt X hX) ?_ ?_⟩
 ·show(w.setCell ⟨q,0,none⟩ _).heap[q]? =_
  rw [cR hq 0];rfl
 ·exact(((Kept.setCell (S:=(· =q)) (Kept.refl _ w) (p:=⟨q,0,none⟩) (fun _=>rfl) _).drew).drew).drew
theorem Bw(h:SQ w Z B b n cx d){x y:Nat}(lW:x+12<y)(hy:y<=n)(hn:n<=1000000)
 (hK:∀d' w',SQ w' Z B b n cx d'->Sort.PermIn x y d d'->Kept (· =b) w w'->K (.tuple #[]) w'):
 bf prog gV.id #[.slice (some ⟨b,0,none⟩) n cx,.int .i64 (x:Int),.int .i64 (y:Int),CL Z.z (some ⟨Z.c,0,none⟩)] w K:=by
 refine dD.of ?_;unfold dD.W;have e4:∀L:Nat,((L:Nat):Int).tdiv 4=((L/4:Nat):Int):=fun _=>rfl;obtain⟨L,hL,g12⟩:∃L:Nat,y=x+L/\12<L:=⟨y-x,by omega,by omega⟩;subst hL;rw [wN (x:=((x+L:Nat):Int)-(x:Int)) (i:=L) (by omega) (by omega)];refine Split.yes (decide_eq_true (by omega)) ?_;intro w3;have k3:Kept Nil w w3:=(Kept.refl _ _).alloc _;obtain⟨tx,oX⟩:∃t:TypeId,w3.heap[w.heap.size]? =some (.cells #[.int .u64 0] t (0,0)):=⟨_,aR w _⟩;clear_value w3;refine⟨dz oX (by simp),?_⟩;intro w4;have AI:w4.heap[w.heap.size]? =some (.cells #[.int .u64 ((L:Nat):Int)] tx (0,0)):=by
  show(w3.setCell ⟨w.heap.size,0,none⟩ _).heap[w.heap.size]? =_;rw [cR oX 0,jC (by omega)];rfl
 have k4:Kept (· =w.heap.size) w3 w4:=Kept.setCell (S:=(· =w.heap.size)) (Kept.refl _ w3) (p:=⟨w.heap.size,0,none⟩) (fun _=>rfl) _;clear_value w4;have lh:Kept Nil w w4:=k3.trans k4 (fun j hj e=>by omega);have hf:=h.fresh (Nat.le_refl _);have h4:=h.same lh;refine Calls.mono (AnyF.nextPowerOfTwo (P:=prog) (ρ:=Tryz.nX) {Tryz.uw with} L (by omega) w4) ?_;rintro e w5 ⟨rfl,rfl⟩;have hM:=Sort.two_pow_bitsLen_le (n:=L) (by omega);have ZA:1<=2 ^ Sort.bitsLen L:=Nat.two_pow_pos _;rw [Nat.one_shiftLeft];generalize 2 ^ Sort.bitsLen L=M at hM ZA;have g4:1<=L/4/\L/4*2+1<L:=by omega
 refine⟨_,rfl,(M:Int),rfl,by decide,?_⟩;have ei:∀t:Nat,t<=1->True:=fun _ _=>trivial;rw [e4,wN (x:=((L/4:Nat):Int)) (i:=L/4) rfl (by omega),wN (x:=((L/4:Nat):Int)*2) (i:=L/4*2) (by omega) (by omega),wN (x:=(x:Int)+((L/4*2:Nat):Int)) (i:=x+L/4*2) (by omega) (by omega),wN (x:=((x+L/4*2:Nat):Int)-1) (i:=x+L/4*2-1) (by omega) (by omega)];refine dD.b9 (I:=fun s v=>∃(i X:Nat) (dk:Array HT),s=(i:Int)/\x<=i/\i<=x+L/4*2+2/\X<18446744073709551616/\v.heap[w.heap.size]? =some (.cells #[.int .u64 (X:Int)] tx (0,0))/\SQ v Z B b n cx dk/\Sort.PermIn x (x+L) d dk/\Kept (· =b) w v) (μ:=fun s _=>(((x+L/4*2+2:Nat):Int)-s).toNat) (s:=((x+L/4*2-1:Nat):Int)) ⟨x+L/4*2-1,L,d,rfl,by omega,by omega,by omega,AI,h4,Sort.permIn_refl _ _ _,lh.mono fun _ _ h=>h.elim⟩ ?_;rintro s v ⟨i,X,dk,rfl,hi,Ce,hX,EN,hv,hp,kv⟩;unfold dD.B1;rw [e4,wN (x:=((L/4:Nat):Int)) (i:=L/4) rfl (by omega),wN (x:=((L/4:Nat):Int)*2) (i:=L/4*2) (by omega) (by omega),wN (x:=(x:Int)+((L/4*2:Nat):Int)) (i:=x+L/4*2) (by omega) (by omega),wN (x:=((x+L/4*2:Nat):Int)+1) (i:=x+L/4*2+1) (by omega) (by omega)];refine⟨by decide,Split.dec (fun hle=>?_) (fun iG=>?_)⟩
 ·have eV:i<=x+L/4*2+1:=by omega
  refine Bm hX EN fun X' w6 hX' pN k6=>⟨(X':Int),rfl,?_⟩;obtain⟨O,hO,eO⟩:=Cz X' M ZA (by omega);rw [eO];have h6:=hv.kQ k6 hf;have fin:∀(j:Nat),j<L->∀ {u:World},Kept Nil w6 u->_:=fun j hj {u} ku=>(h6.same ku).sw (x:=(i:Int)) (y:=((x+j:Nat):Int)) (i:=i) (j:=x+j) rfl rfl (by omega) (by omega);have XL:∀ {j:Nat} {u t:World},j<L->Kept Nil w6 u->SQ t Z B b n cx (Sort.swp dk i (x+j))->Kept (· =b) u t->∃s1:Int,i64.wrap ((i:Int)+1)=s1/\(∃(i X:Nat) (dk:Array HT),s1=(i:Int)/\x<=i/\i<=x+L/4*2+2/\X<18446744073709551616/\t.heap[w.heap.size]? =some (.cells #[.int .u64 (X:Int)] tx (0,0))/\SQ t Z B b n cx dk/\Sort.PermIn x (x+L) d dk/\Kept (· =b) w t)/\(((x+L/4*2+2:Nat):Int)-s1).toNat<(((x+L/4*2+2:Nat):Int)-(i:Int)).toNat:=fun {j u t} hj ku ht kt=>by
   rw [wN (x:=(i:Int)+1) (i:=i+1) (by omega) (by omega)];have nK:=SR.size hv.row;exact⟨_,rfl,⟨i+1,X',_,rfl,by omega,by omega,hX',kt.heap (ku.heap pN (fun h=>h)) hf.2.2,ht,Sort.permIn_trans _ _ _ x (x+L) hp (Sort.swp_permIn dk x (x+L) i (x+j) hi (by omega) (by omega) (by omega) (by omega)),(((kv.trans k6 (fun j hj e=>by omega)).trans ku (fun _ _ h=>h.elim)).tt kt)⟩,by omega⟩
  refine Split.dec (fun hOL=>?_) (fun hOL=>?_)
  ·rw [wN (x:=(O:Int)-(L:Int)) (i:=O-L) (by omega) (by omega),wN (x:=(x:Int)+((O-L:Nat):Int)) (i:=x+(O-L)) (by omega) (by omega)]
   intro w7;have k7:Kept Nil w6 w7:=(Kept.refl _ _).drew;clear_value w7;obtain⟨⟨a1,a2,a3,a4,a5,a6⟩,h5,k5⟩:=fin (O-L) (by omega) k7;refine⟨a1,_,a2,a3,_,a4,a3,a5,a1,a6,?_⟩;obtain⟨s1,e1,e2,e3⟩:=XL (by omega) k7 h5 k5;simp only;rw [e1];exact⟨s1,rfl,e2,e3⟩
  ·rw [wN (x:=(x:Int)+(O:Int)) (i:=x+O) (by omega) (by omega)]
   intro w7;have k7:Kept Nil w6 w7:=(Kept.refl _ _).drew;clear_value w7;obtain⟨⟨a1,a2,a3,a4,a5,a6⟩,h5,k5⟩:=fin O (by omega) k7;refine⟨a1,_,a2,a3,_,a4,a3,a5,a1,a6,?_⟩;obtain⟨s1,e1,e2,e3⟩:=XL (by omega) k7 h5 k5;simp only;rw [e1];exact⟨s1,rfl,e2,e3⟩
 ·rw [aY,dD.dw]
  exact hK dk v hv hp kv
theorem yl{d:Array HT}{x y:Nat}(h:∀t,x<t->t<y->Z.lt d[t]! d[t-1]! =false):Sort.SortedIn (Z.lt) x y d:=by
 have key:∀(r i:Nat),x<=i->i+r+1<y->Z.lt d[i+r+1]! d[i]! =false:=by
  intro r
  induction r with
  |zero=>intro i hi hy;exact h (i+1) (by omega) hy
  |succ r ih=>
   intro i hi hy;have h1:=h (i+(r+1)+1) (by omega) hy;have h2:=ih i hi (by omega);exact Z.swo.ntrans _ _ _ h1 h2
 intro i j hi pM hj;have:=key (j-i-1) i hi (by omega)
 rwa [show i+(j-i-1)+1=j by omega]at this
theorem Bq(h:SQ w Z B b n cx d){x y:Nat}(lW:x<y)(hy:y<=n)(hn:n<50)
 (hK:∀(t:Bool) w',(t=true->Sort.SortedIn (Z.lt) x y d)->SQ w' Z B b n cx d->Kept Nil w w'->K (.bool t) w'):
 bf prog fQ.id #[.slice (some ⟨b,0,none⟩) n cx,.int .i64 (x:Int),.int .i64 (y:Int),CL Z.z (some ⟨Z.c,0,none⟩)] w K:=by
 refine bu.of ?_;unfold bu.W;rw [wN (x:=(x:Int)+1) (i:=x+1) (by omega) (by omega)];refine bu.b9 (I:=fun s v=>s=(false,((x+1:Nat):Int),0)/\v=w) (μ:=fun _ _=>0) (s:=(false,((x+1:Nat):Int),0)) ⟨rfl,rfl⟩ ?_;rintro s v ⟨rfl,rfl⟩;unfold bu.B1;refine Split.yes (decide_eq_true (by simp only;omega)) ?_;refine bu.iK (I:=fun s u=>∃i:Nat,s=(i:Int)/\x<i/\i<=y/\(∀t,x<t->t<i->Z.lt d[t]! d[t-1]! =false)/\SQ u Z B b n cx d/\Kept Nil v u) (μ:=fun s _=>((y:Int)-s).toNat) (s:=((x+1:Nat):Int)) ⟨x+1,rfl,by omega,by omega,fun t h1 h2=>by omega,h,Kept.refl _ _⟩ ?_;rintro s u ⟨i,rfl,Mj,Y9,I7,hu,ku⟩;unfold bu.B2;intro w3;have k3:Kept Nil u w3:=(Kept.refl _ _).drew;clear_value w3;have h3:=hu.same k3;have jS:=ku.tt k3;have stop:∀ {t:World},SQ t Z B b n cx d->Kept Nil v t->(i=y->Sort.SortedIn (Z.lt) x y d)->bu.jX Z.z (some ⟨b,0,none⟩) n cx (x:Int) (y:Int) (some ⟨Z.c,0,none⟩) false (i:Int) 0 (bS (bu.e1 Z.z (some ⟨b,0,none⟩) n cx (x:Int) (y:Int) (some ⟨Z.c,0,none⟩)) (fun s v_1=>s=(false,((x+1:Nat):Int),0)/\v_1=v) (fun _ _=>0) (false,((x+1:Nat):Int),0) v (bu.q1 K)) t:=fun {t} ht kt hs=>by
  unfold bu.jX;by_cases he:i=y
  ·refine Split.yes (by rw [he];exact beq_self_eq_true _) ?_
   rw [fS];exact hK true t (fun _=>hs he) ht kt
  ·refine Split.no (beq_eq_false_iff_ne.2 (by omega)) ?_
   rw [wN (x:=(y:Int)-(x:Int)) (i:=y-x) (by omega) (by omega)];refine Split.yes (decide_eq_true (by omega)) ?_;rw [fS];exact hK false t (fun e=>by cases e) ht kt
 refine Split.dec (fun cI=>?_) (fun iG=>?_)
 ·have cI:i<y:=by omega
  rw [wN (x:=(i:Int)-1) (i:=i-1) (by omega) (by omega)];refine h3.cmp (i:=i) (j:=i-1) rfl rfl (by omega) (by omega) fun r w4 h4 k4 hr=>?_;have lh:=jS.tt k4;by_cases rl:r<0
  ·refine Split.no (by rw [decide_eq_true rl];rfl) ?_
   rw [aY,bu.lI];exact stop h4 lh (fun e=>absurd e (by omega))
  ·refine Split.yes (by rw [decide_eq_false rl];rfl) ?_
   rw [wN (x:=(i:Int)+1) (i:=i+1) (by omega) (by omega)];refine⟨((i+1:Nat):Int),rfl,⟨i+1,rfl,by omega,by omega,fun t h1 h2=>?_,h4,lh⟩,by simp only;omega⟩;rcases Nat.lt_or_ge t i with h5|h5
   ·exact I7 t h1 h5
   ·obtain rfl:t=i:=by omega
    cases hg:Z.lt d[t]! d[t-1]!
    ·rfl
    ·exact absurd (hr.2 hg) rl
 ·rw [aY,bu.lI]
  exact stop h3 jS (fun e=>yl (by subst e;exact I7))
end
section
variable{w w':World}{B b n cx:Nat}{d:Array HT}{Z:F8}{K:Value->World->Prop}
theorem rS(h:SQ w Z B b n cx d){x y z:Nat}(Mi:z+y<=n)(lW:x<=y)(hn:n<=1000000){lo:Int}
 (hK:∀w',SQ w' Z B b n cx (Sort.siftDown (Z.lt) y z x d)->Kept (· =b) w w'->K (.tuple #[]) w'):
 bf prog iQ.id #[.slice (some ⟨b,0,none⟩) n cx,.int .i64 (x:Int),.int .i64 (y:Int),.int .i64 (z:Int),CL Z.z (some ⟨Z.c,0,none⟩)] w K:=by
 refine bF.of ?_;unfold bF.W;refine bF.b9 (I:=fun s v=>∃(r:Nat) (dk:Array HT),s=(r:Int)/\r<=y/\SQ v Z B b n cx dk/\Sort.siftDown (Z.lt) y z r dk=Sort.siftDown (Z.lt) y z x d/\Kept (· =b) w v) (μ:=fun s _=>((y:Int)-s).toNat) (s:=(x:Int)) ⟨x,d,rfl,lW,h,rfl,Kept.refl _ _⟩ ?_;rintro s v ⟨r,dk,rfl,hr,hv,hs,kv⟩;unfold bF.B1;rw [wN (x:=2*(r:Int)) (i:=2*r) (by omega) (by omega),wN (x:=((2*r:Nat):Int)+1) (i:=2*r+1) (by omega) (by omega)];refine Split.dec (fun iG=>?_) (fun cI=>?_)
 ·rw [aY,bF.dw]
  rw [Sort.siftDown,dif_pos (show 2*r+1>=y by omega)]at hs;rw [hs]at hv;exact hK v hv kv
 have mP:2*r+1<y:=by omega
 rw [Sort.siftDown,dif_neg (by omega)]at hs;have fin:∀(ch:Nat) {u:World},r<ch->ch<y->SQ u Z B b n cx dk->Kept Nil v u->(if(!Z.lt dk[z+r]! dk[z+ch]!)=true then dk else Sort.siftDown (Z.lt) y z ch (Sort.swp dk (z+r) (z+ch)))=Sort.siftDown (Z.lt) y z x d->
  bF.J1 Z.z (some ⟨b,0,none⟩) n cx (y:Int) (z:Int) (some ⟨Z.c,0,none⟩) (r:Int) (ch:Int) (bS (bF.e1 Z.z (some ⟨b,0,none⟩) n cx (y:Int) (z:Int) (some ⟨Z.c,0,none⟩)) (fun s v=>∃(r:Nat) (dk:Array HT),s=(r:Int)/\r<=y/\SQ v Z B b n cx dk/\Sort.siftDown (Z.lt) y z r dk=Sort.siftDown (Z.lt) y z x d/\Kept (· =b) w v) (fun s _=>((y:Int)-s).toNat) (r:Int) v (bF.q1 K)) u:=fun ch {u} h1 h2 hu ku he=>by
  unfold bF.J1;rw [wN (x:=(z:Int)+(r:Int)) (i:=z+r) (by omega) (by omega),wN (x:=(z:Int)+(ch:Int)) (i:=z+ch) (by omega) (by omega)];intro w3;have k3:Kept Nil u w3:=(Kept.refl _ _).drew;clear_value w3;refine(hu.same k3).cmp (i:=z+r) (j:=z+ch) rfl rfl (by omega) (by omega) fun t w4 h4 k4 ht=>?_;have DW:=kv.trans ((ku.tt k3).tt k4) (fun _ _ h=>h.elim);by_cases Ix:t<0
  ·refine Split.no (by rw [decide_eq_true Ix];rfl) (bF.Eh ?_)
   rw [if_neg (by rw [ht.1 Ix];decide)]at he;unfold bF.J2;rw [wN (x:=(z:Int)+(r:Int)) (i:=z+r) (by omega) (by omega),wN (x:=(z:Int)+(ch:Int)) (i:=z+ch) (by omega) (by omega)];intro w5;have k5:Kept Nil w4 w5:=(Kept.refl _ _).drew;clear_value w5;obtain⟨⟨a1,a2,a3,a4,a5,a6⟩,h6,k6⟩:=(h4.same k5).sw (x:=((z+r:Nat):Int)) (y:=((z+ch:Nat):Int)) rfl rfl (by omega) (by omega);refine⟨a1,_,a2,a3,_,a4,a3,a5,a1,a6,?_⟩;exact⟨(ch:Int),rfl,⟨ch,_,rfl,by omega,h6,he,(DW.trans k5 (fun _ _ h=>h.elim)).tt k6⟩,by simp only;omega⟩
  ·refine Split.yes (by rw [decide_eq_false Ix];rfl) ?_
   rw [fS];rw [if_pos (by cases hg:Z.lt dk[z+r]! dk[z+ch]!;rfl;exact absurd (ht.2 hg) Ix)]at he;rw [he]at h4;exact hK w4 h4 DW
 intro w3;have k3:Kept Nil v w3:=(Kept.refl _ _).drew;clear_value w3;have h3:=hv.same k3;rw [wN (x:=((2*r+1:Nat):Int)+1) (i:=2*r+2) (by omega) (by omega)];refine Split.dec (fun acr=>?_) (fun acR=>?_)
 ·have zf:2*r+2<y:=by omega
  rw [wN (x:=(z:Int)+((2*r+1:Nat):Int)) (i:=z+(2*r+1)) (by omega) (by omega),wN (x:=((z+(2*r+1):Nat):Int)+1) (i:=z+(2*r+1)+1) (by omega) (by omega)];refine h3.cmp (i:=z+(2*r+1)) (j:=z+(2*r+1)+1) rfl rfl (by omega) (by omega) fun t w4 h4 k4 ht=>?_;have xU:=k3.tt k4;refine Split.dec (fun Ix=>bF.kN ?_) (fun Ix=>bF.kN ?_)
  ·rw [if_pos (by rw [ht.1 Ix];simp only [Bool.and_true,decide_eq_true_eq];omega),dif_pos zf]at hs
   exact fin (2*r+2) (by omega) zf h4 xU hs
  ·rw [if_neg (by simp only [Bool.and_eq_true,decide_eq_true_eq];intro e;exact Ix (ht.2 e.2))]at hs
   exact fin (2*r+1) (by omega) mP h4 xU hs
 ·refine bF.kN ?_
  rw [if_neg (by simp only [Bool.and_eq_true,decide_eq_true_eq];intro e;omega)]at hs;exact fin (2*r+1) (by omega) mP h3 k3 hs
theorem ym(h:SQ w Z B b n cx d){x y:Nat}(lW:x+1<y)(hy:y<=n)(hn:n<=1000000)
 (hK:∀w',SQ w' Z B b n cx (Sort.heapSort (Z.lt) d x y)->Kept (· =b) w w'->K (.tuple #[]) w'):
 bf prog iR.id #[.slice (some ⟨b,0,none⟩) n cx,.int .i64 (x:Int),.int .i64 (y:Int),CL Z.z (some ⟨Z.c,0,none⟩)] w K:=by
 refine bM.of ?_;unfold bM.W;have e2:∀L:Nat,((L:Nat):Int).tdiv 2=((L/2:Nat):Int):=fun _=>rfl;obtain⟨L,hL,g12⟩:∃L:Nat,y=x+L/\1<L:=⟨y-x,by omega,by omega⟩;subst hL;rw [wN (x:=((x+L:Nat):Int)-(x:Int)) (i:=L) (by omega) (by omega),wN (x:=(L:Int)-1) (i:=L-1) (by omega) (by omega),e2,wN (x:=(((L-1)/2:Nat):Int)) (i:=(L-1)/2) rfl (by omega)];refine⟨by decide,?_⟩;have hh:Sort.heapSort (Z.lt) d x (x+L)=Sort.heapPop (Z.lt) x L (Sort.heapBuild (Z.lt) L x ((L-1)/2+1) d):=by
  unfold Sort.heapSort;rw [show x+L-x=L by omega]
 rw [hh]at hK;refine bM.b9 (I:=fun s v=>∃(t:Nat) (dk:Array HT),s=(t:Int)-1/\t<=L/\SQ v Z B b n cx dk/\Sort.heapBuild (Z.lt) L x t dk=Sort.heapBuild (Z.lt) L x ((L-1)/2+1) d/\Kept (· =b) w v) (μ:=fun s _=>(s+1).toNat) (s:=(((L-1)/2:Nat):Int)) ⟨(L-1)/2+1,d,by omega,by omega,h,rfl,Kept.refl _ _⟩ ?_;rintro s v ⟨t,dk,rfl,ht,hv,he,kv⟩;unfold bM.B1;refine Split.dec (fun iG=>?_) (fun cI=>?_)
 ·obtain⟨t',rfl⟩:∃t',t=t'+1:=⟨t-1,by omega⟩
  have e1:((t'+1:Nat):Int)-1=(t':Int):=by omega
  rw [e1];refine rS (x:=t') (y:=L) (z:=x) (lo:=0) hv (by omega) (by omega) hn fun w4 h4 k4=>⟨rfl,?_⟩;rw [iF (x:=(t':Int)-1) (by omega) (by omega)];exact⟨(t':Int)-1,rfl,⟨t',_,rfl,by omega,h4,he,kv.tt k4⟩,by simp only;omega⟩
 ·obtain rfl:t=0:=by omega
  rw [aY,bM.dw];unfold bM.cU
  replace he:dk=_:=he
  rw [<-he]at hK;rw [wN (x:=(L:Int)-1) (i:=L-1) (by omega) (by omega)];refine bM.iK (I:=fun s u=>∃(t:Nat) (dj:Array HT),s=(t:Int)-1/\t<=L/\SQ u Z B b n cx dj/\Sort.heapPop (Z.lt) x t dj=Sort.heapPop (Z.lt) x L dk/\Kept (· =b) w u) (μ:=fun s _=>(s+1).toNat) (s:=((L-1:Nat):Int)) ⟨L,dk,by omega,by omega,hv,rfl,kv⟩ ?_;rintro s u ⟨t,dj,rfl,ht,hu,My,ku⟩;unfold bM.B2;refine Split.dec (fun iG=>?_) (fun cI=>?_)
  ·obtain⟨t',rfl⟩:∃t',t=t'+1:=⟨t-1,by omega⟩
   have e1:((t'+1:Nat):Int)-1=(t':Int):=by omega
   rw [e1,wN (x:=(x:Int)+(t':Int)) (i:=x+t') (by omega) (by omega)];intro w5;have k5:Kept Nil u w5:=(Kept.refl _ _).drew;clear_value w5;obtain⟨⟨a1,a2,a3,a4,a5,a6⟩,h6,k6⟩:=(hu.same k5).sw (x:=(x:Int)) (y:=((x+t':Nat):Int)) rfl rfl (by omega) (by omega);refine⟨a1,_,a2,a3,_,a4,a3,a5,a1,a6,?_⟩;have ku6:=(ku.trans k5 (fun _ _ h=>h.elim)).tt k6;refine rS (x:=0) (y:=t') (z:=x) (lo:=0) h6 (by omega) (by omega) hn fun w7 h7 k7=>⟨rfl,?_⟩;rw [iF (x:=(t':Int)-1) (by omega) (by omega)];exact⟨(t':Int)-1,rfl,⟨t',_,rfl,by omega,h7,My,ku6.tt k7⟩,by simp only;omega⟩
  ·obtain rfl:t=0:=by omega
   rw [aY,bM.lI]
   replace My:dj=_:=My
   rw [<-My]at hK;exact hK u hu ku
end
section
variable{w w':World}{B b n cx:Nat}{d:Array HT}{Z:F8}{K:Value->World->Prop}
abbrev FA(lt:HT->HT->Bool)(d:Array HT)(x:Nat):HT->Bool:=fun z=>lt z d[x]!
abbrev FZ(lt:HT->HT->Bool)(d:Array HT)(x:Nat):HT->Bool:=fun z=> !lt z d[x]!
set_option maxHeartbeats 1000000 in
theorem Bs(h:SQ w Z B b n cx d){x y p:Nat}(lW:x+1<y)(hp:x<=p)(Mq:p<y)(hy:y<=n)(hn:n<=1000000)
 (hK:∀w',SQ w' Z B b n cx (Sort.partition (Z.lt) d x y p).2.2->Kept (· =b) w w'->K (.tuple #[.int .i64 ((Sort.partition (Z.lt) d x y p).1:Int),.bool (Sort.partition (Z.lt) d x y p).2.1]) w'):
 bf prog iJ.id #[.slice (some ⟨b,0,none⟩) n cx,.int .i64 (x:Int),.int .i64 (y:Int),.int .i64 (p:Int),CL Z.z (some ⟨Z.c,0,none⟩)] w K:=by
 refine aN.of ?_;unfold aN.W;intro w3;have k3:Kept Nil w w3:=(Kept.refl _ _).drew;clear_value w3;obtain⟨⟨a1,a2,a3,a4,a5,a6⟩,h5,k5⟩:=(h.same k3).sw (x:=(x:Int)) (y:=(p:Int)) rfl rfl (by omega) (by omega);refine⟨a1,_,a2,a3,_,a4,a3,a5,a1,a6,?_⟩;have o5:Kept (· =b) w _:=(k3.mono fun _ _ h=>h.elim).tt k5;clear a1 a2 a3 a4 a5 a6 k5;unfold Sort.partition at hK;simp only at hK;generalize Sort.swp d x p=d1 at hK h5;rw [wN (x:=(x:Int)+1) (i:=x+1) (by omega) (by omega),wN (x:=(y:Int)-1) (i:=y-1) (by omega) (by omega)];refine aN.b9 (I:=fun s v=>∃i:Nat,s=(i:Int)/\x<i/\i<=y/\SQ v Z B b n cx d1/\Sort.scanUp (FA Z.lt d1 x) d1 (y-1) i=Sort.scanUp (FA Z.lt d1 x) d1 (y-1) (x+1)/\Kept (· =b) w v) (μ:=fun s _=>((y:Int)-s).toNat) (s:=((x+1:Nat):Int)) ⟨x+1,rfl,by omega,by omega,h5,rfl,o5⟩ ?_;clear h5 o5;rintro s v ⟨i,rfl,Mj,Y9,hv,CT,kv⟩;unfold aN.B1;intro w4;have k4:Kept Nil v w4:=(Kept.refl _ _).drew;clear_value w4;have h4:=hv.same k4;have DW:=kv.trans k4 (fun _ _ h=>h.elim);have up:∀ {u:World},SQ u Z B b n cx d1->Kept (· =b) w u->Sort.scanUp (FA Z.lt d1 x) d1 (y-1) (x+1)=i->aN.cU Z.z (some ⟨b,0,none⟩) n cx (x:Int) (some ⟨Z.c,0,none⟩) 0 (i:Int) ((y-1:Nat):Int) K u:=fun {u} hu ku hi=>by
  rw [hi]at hK;unfold aN.cU;refine aN.iK (I:=fun s v=>∃j:Nat,s=(j:Int)/\x<=j/\j<y/\SQ v Z B b n cx d1/\Sort.scanDown (FZ Z.lt d1 x) d1 i j=Sort.scanDown (FZ Z.lt d1 x) d1 i (y-1)/\Kept (· =b) w v) (μ:=fun s _=>s.toNat) (s:=((y-1:Nat):Int)) ⟨y-1,rfl,by omega,by omega,hu,rfl,ku⟩ ?_;rintro s v ⟨j,rfl,hxj,hjy,hv,Ml,kv⟩;unfold aN.B2;intro w5;have k5:Kept Nil v w5:=(Kept.refl _ _).drew;clear_value w5;have h5:=hv.same k5;have FB:=kv.trans k5 (fun _ _ h=>h.elim);have down:∀ {u:World},SQ u Z B b n cx d1->Kept (· =b) w u->Sort.scanDown (FZ Z.lt d1 x) d1 i (y-1)=j->aN.jX Z.z (some ⟨b,0,none⟩) n cx (x:Int) (some ⟨Z.c,0,none⟩) 0 (i:Int) (j:Int) K u:=fun {u} hu ku hj=>by
   rw [hj]at hK;unfold aN.jX;refine Split.dec (fun xn=>?_) (fun hle=>?_)
   ·rw [if_pos (by omega)]at hK
    intro w6;have k6:Kept Nil u w6:=(Kept.refl _ _).drew;clear_value w6;obtain⟨⟨a1,a2,a3,a4,a5,a6⟩,h7,k7⟩:=(hu.same k6).sw (x:=(j:Int)) (y:=(x:Int)) rfl rfl (by omega) (by omega);refine⟨a1,_,a2,a3,_,a4,a3,a5,a1,a6,?_⟩;exact hK _ h7 ((ku.trans k6 (fun _ _ h=>h.elim)).tt k7)
   ·have pM:i<=j:=by omega
    rw [if_neg (by omega)]at hK;simp only at hK;intro w6;have k6:Kept Nil u w6:=(Kept.refl _ _).drew;clear_value w6;obtain⟨⟨a1,a2,a3,a4,a5,a6⟩,h7,k7⟩:=(hu.same k6).sw (x:=(i:Int)) (y:=(j:Int)) rfl rfl (by omega) (by omega);refine⟨a1,_,a2,a3,_,a4,a3,a5,a1,a6,?_⟩;have tB:=(ku.trans k6 (fun _ _ h=>h.elim)).tt k7;clear a1 a2 a3 a4 a5 a6 k7;generalize Sort.swp d1 i j=d2 at hK h7;rw [wN (x:=(i:Int)+1) (i:=i+1) (by omega) (by omega),wN (x:=(j:Int)-1) (i:=j-1) (by omega) (by omega)];refine aN.wP (I:=fun s v=>∃(i2 j2:Nat) (dk:Array HT),s=((i2:Int),(j2:Int))/\x<i2/\i2<=y/\x<=j2/\j2<y/\SQ v Z B b n cx dk/\Sort.partLoop (Z.lt) x i2 j2 dk=Sort.partLoop (Z.lt) x (i+1) (j-1) d2/\Kept (· =b) w v) (μ:=fun s _=>(s.2+1-s.1).toNat) (s:=(((i+1:Nat):Int),((j-1:Nat):Int))) ⟨i+1,j-1,d2,rfl,by omega,by omega,by omega,by omega,h7,rfl,tB⟩ ?_;clear h7 tB;rintro s v ⟨i2,j2,dk,rfl,abj,acH,abi,acD,TY,rF,NF⟩;unfold aN.B3;simp only;refine aN.Nv (I:=fun s v=>∃i3:Nat,s=(i3:Int)/\i2<=i3/\i3<=y/\SQ v Z B b n cx dk/\Sort.scanUp (FA Z.lt dk x) dk j2 i3=Sort.scanUp (FA Z.lt dk x) dk j2 i2/\Kept (· =b) w v) (μ:=fun s _=>((y:Int)-s).toNat) (s:=(i2:Int)) ⟨i2,rfl,by omega,by omega,TY,rfl,NF⟩ ?_;rintro s v3 ⟨i3,rfl,acK,acG,hv3,B9,kv3⟩;unfold aN.B4;intro w8;have k8:Kept Nil v3 w8:=(Kept.refl _ _).drew;clear_value w8;have h8:=hv3.same k8;have X3:=kv3.trans k8 (fun _ _ h=>h.elim);have Xt:∀ {u:World},SQ u Z B b n cx dk->Kept (· =b) w u->Sort.scanUp (FA Z.lt dk x) dk j2 i2=i3->aN.LM Z.z (some ⟨b,0,none⟩) n cx (x:Int) (some ⟨Z.c,0,none⟩) 0 (i3:Int) (j2:Int) (bS (aN.e3 Z.z (some ⟨b,0,none⟩) n cx (x:Int) (some ⟨Z.c,0,none⟩) 0) (fun s v=>∃(i2 j2:Nat) (dk:Array HT),s=((i2:Int),(j2:Int))/\x<i2/\i2<=y/\x<=j2/\j2<y/\SQ v Z B b n cx dk/\Sort.partLoop (Z.lt) x i2 j2 dk=Sort.partLoop (Z.lt) x (i+1) (j-1) d2/\Kept (· =b) w v) (fun s _=>(s.2+1-s.1).toNat) ((i2:Int),(j2:Int)) v (aN.q3 K)) u:=fun {u} hu ku Ve=>by
     unfold aN.LM;refine aN.Nu (I:=fun s v=>∃j3:Nat,s=(j3:Int)/\x<=j3/\j3<=j2/\SQ v Z B b n cx dk/\Sort.scanDown (FZ Z.lt dk x) dk i3 j3=Sort.scanDown (FZ Z.lt dk x) dk i3 j2/\Kept (· =b) w v) (μ:=fun s _=>s.toNat) (s:=(j2:Int)) ⟨j2,rfl,by omega,by omega,hu,rfl,ku⟩ ?_;rintro s v4 ⟨j3,rfl,abh,acC,hv4,B8,DW⟩;unfold aN.B5;intro w9;have k9:Kept Nil v4 w9:=(Kept.refl _ _).drew;clear_value w9;have h9:=hv4.same k9;have X1:=DW.trans k9 (fun _ _ h=>h.elim);have Ja:∀ {u:World},SQ u Z B b n cx dk->Kept (· =b) w u->Sort.scanDown (FZ Z.lt dk x) dk i3 j2=j3->aN.LL Z.z (some ⟨b,0,none⟩) n cx (x:Int) (some ⟨Z.c,0,none⟩) 0 (i3:Int) (j3:Int) (bS (aN.e3 Z.z (some ⟨b,0,none⟩) n cx (x:Int) (some ⟨Z.c,0,none⟩) 0) (fun s v=>∃(i2 j2:Nat) (dk:Array HT),s=((i2:Int),(j2:Int))/\x<i2/\i2<=y/\x<=j2/\j2<y/\SQ v Z B b n cx dk/\Sort.partLoop (Z.lt) x i2 j2 dk=Sort.partLoop (Z.lt) x (i+1) (j-1) d2/\Kept (· =b) w v) (fun s _=>(s.2+1-s.1).toNat) ((i2:Int),(j2:Int)) v (aN.q3 K)) u:=fun {u} hu ku hj3=>by
      rw [Sort.partLoop]at rF;rw [Ve,hj3]at rF;unfold aN.LL;refine Split.dec (fun xn=>?_) (fun hle=>?_)
      ·rw [if_pos (by omega)]at rF
       rw [<-rF]at hK;rw [aY,aN.Da];unfold aN.zJ;intro w6;have k6:Kept Nil u w6:=(Kept.refl _ _).drew;clear_value w6;obtain⟨⟨a1,a2,a3,a4,a5,a6⟩,h7,k7⟩:=(hu.same k6).sw (x:=(j3:Int)) (y:=(x:Int)) rfl rfl (by omega) (by omega);refine⟨a1,_,a2,a3,_,a4,a3,a5,a1,a6,?_⟩;exact hK _ h7 ((ku.trans k6 (fun _ _ h=>h.elim)).tt k7)
      ·rw [if_neg (by omega),dif_pos (by omega)]at rF
       intro w6;have k6:Kept Nil u w6:=(Kept.refl _ _).drew;clear_value w6;obtain⟨⟨a1,a2,a3,a4,a5,a6⟩,h7,k7⟩:=(hu.same k6).sw (x:=(i3:Int)) (y:=(j3:Int)) rfl rfl (by omega) (by omega);refine⟨a1,_,a2,a3,_,a4,a3,a5,a1,a6,?_⟩;simp only;rw [wN (x:=(i3:Int)+1) (i:=i3+1) (by omega) (by omega),wN (x:=(j3:Int)-1) (i:=j3-1) (by omega) (by omega)];exact⟨(((i3+1:Nat):Int),((j3-1:Nat):Int)),rfl,⟨i3+1,j3-1,_,rfl,by omega,by omega,by omega,by omega,h7,rF,(ku.trans k6 (fun _ _ h=>h.elim)).tt k7⟩,by simp only;omega⟩
     refine Split.dec (fun hle=>?_) (fun xn=>?_)
     ·obtain⟨j',rfl⟩:∃j',j3=j'+1:=⟨j3-1,by omega⟩
      refine h9.cmp (i:=j'+1) (j:=x) rfl rfl (by omega) (by omega) fun r w10 rI tR hr=>?_;have sq:=X1.trans tR (fun _ _ h=>h.elim);rw [Sort.scanDown]at B8;by_cases rl:r<0
      ·refine Split.no (by rw [decide_eq_true rl];rfl) ?_
       rw [aY,aN.MT];rw [if_neg (by simp only [FZ,hr.1 rl,Bool.not_true,Bool.and_false];decide)]at B8;exact Ja rI sq B8.symm
      ·refine Split.yes (by rw [decide_eq_false rl];rfl) ?_
       have hg:Z.lt dk[j'+1]! dk[x]! =false:=by
        cases hg:Z.lt dk[j'+1]! dk[x]!
        ·rfl
        ·exact absurd (hr.2 hg) rl
       rw [if_pos (by simp only [FZ,hg,Bool.not_false,Bool.and_true,decide_eq_true_eq];omega)]at B8;rw [wN (x:=((j'+1:Nat):Int)-1) (i:=j') (by omega) (by omega)];exact⟨(j':Int),rfl,⟨j',rfl,by omega,by omega,rI,B8,sq⟩,by simp only;omega⟩
     ·rw [aY,aN.MT]
      refine Ja h9 X1 ?_;rw [<-B8];cases j3 with
      |zero=>rfl
      |succ j'=>rw [Sort.scanDown,if_neg (by simp only [Bool.and_eq_true,decide_eq_true_eq];intro e;omega)]
    refine Split.dec (fun hle=>?_) (fun xn=>?_)
    ·refine h8.cmp (i:=i3) (j:=x) rfl rfl (by omega) (by omega) fun r w10 rI tR hr=>?_
     have sq:=X3.trans tR (fun _ _ h=>h.elim);rw [Sort.scanUp]at B9;refine Split.dec (fun rl=>?_) (fun rl=>?_)
     ·rw [if_pos (by simp only [FA,hr.1 rl,Bool.and_true,decide_eq_true_eq];omega)]at B9
      rw [wN (x:=(i3:Int)+1) (i:=i3+1) (by omega) (by omega)];exact⟨((i3+1:Nat):Int),rfl,⟨i3+1,rfl,by omega,by omega,rI,B9,sq⟩,by simp only;omega⟩
     ·rw [aY,aN.MU]
      rw [if_neg (by simp only [FA,Bool.and_eq_true,decide_eq_true_eq];intro e;exact rl (hr.2 e.2))]at B9;exact Xt rI sq B9.symm
    ·rw [aY,aN.MU]
     refine Xt h8 X3 ?_;rw [<-B9,Sort.scanUp,if_neg (by simp only [Bool.and_eq_true,decide_eq_true_eq];intro e;omega)]
  refine Split.dec (fun hle=>?_) (fun xn=>?_)
  ·obtain⟨j',rfl⟩:∃j',j=j'+1:=⟨j-1,by omega⟩
   refine h5.cmp (i:=j'+1) (j:=x) rfl rfl (by omega) (by omega) fun r w10 rI tR hr=>?_;have sq:=FB.trans tR (fun _ _ h=>h.elim);rw [Sort.scanDown]at Ml;by_cases rl:r<0
   ·refine Split.no (by rw [decide_eq_true rl];rfl) ?_
    rw [aY,aN.lI];rw [if_neg (by simp only [FZ,hr.1 rl,Bool.not_true,Bool.and_false];decide)]at Ml;exact down rI sq Ml.symm
   ·refine Split.yes (by rw [decide_eq_false rl];rfl) ?_
    have hg:Z.lt d1[j'+1]! d1[x]! =false:=by
     cases hg:Z.lt d1[j'+1]! d1[x]!
     ·rfl
     ·exact absurd (hr.2 hg) rl
    rw [if_pos (by simp only [FZ,hg,Bool.not_false,Bool.and_true,decide_eq_true_eq];omega)]at Ml;rw [wN (x:=((j'+1:Nat):Int)-1) (i:=j') (by omega) (by omega)];exact⟨(j':Int),rfl,⟨j',rfl,by omega,by omega,rI,Ml,sq⟩,by simp only;omega⟩
  ·rw [aY,aN.lI]
   refine down h5 FB ?_;rw [<-Ml];cases j with
   |zero=>rfl
   |succ j'=>rw [Sort.scanDown,if_neg (by simp only [Bool.and_eq_true,decide_eq_true_eq];intro e;omega)]
 refine Split.dec (fun hle=>?_) (fun xn=>?_)
 ·refine h4.cmp (i:=i) (j:=x) rfl rfl (by omega) (by omega) fun r w10 rI tR hr=>?_
  have sq:=DW.trans tR (fun _ _ h=>h.elim);rw [Sort.scanUp]at CT;refine Split.dec (fun rl=>?_) (fun rl=>?_)
  ·rw [if_pos (by simp only [FA,hr.1 rl,Bool.and_true,decide_eq_true_eq];omega)]at CT
   rw [wN (x:=(i:Int)+1) (i:=i+1) (by omega) (by omega)];exact⟨((i+1:Nat):Int),rfl,⟨i+1,rfl,by omega,by omega,rI,CT,sq⟩,by simp only;omega⟩
  ·rw [aY,aN.dw]
   rw [if_neg (by simp only [FA,Bool.and_eq_true,decide_eq_true_eq];intro e;exact rl (hr.2 e.2))]at CT;exact up rI sq CT.symm
 ·rw [aY,aN.dw]
  refine up h4 DW ?_;rw [<-CT,Sort.scanUp,if_neg (by simp only [Bool.and_eq_true,decide_eq_true_eq];intro e;omega)]
end
theorem jI{d d':Array HT}{x y:Nat}(lW:x<=y)(hy:y<=d.size)(h:Sort.PermIn x y d d'):d'.toList.Perm d.toList:=by
 have h1:=Sort.permIn_mono d d' x y 0 d.size (Nat.zero_le _) hy (Nat.le_refl _) h;have h2:=h1.2.2;have h3:=h1.1;rw [Array.extract_size,<-h3,Array.extract_size]at h2;exact h2
section
variable{w w':World}{B b n cx:Nat}{d:Array HT}{Z:F8}{K:Value->World->Prop}
set_option maxHeartbeats 1000000 in
theorem BH(hn:n<50){Q:aM}{v:World}{a e:Nat}{l:Int}{p q:Bool}{dk:Array HT}(Lk:a<=e)(K9:e<=n)(vv:0<=l)(vR:l<=100)(hv:SQ v Z B b n cx dk)(gJ:dk.toList.Nodup)(hB:Sort.Below (Z.lt) a e dk)
 (rec:∀ {u:World} {dj:Array HT} {a' e':Nat} {l':Int} {K':Value->World->Prop},a'<=e'->e'-a'<e-a->e'<=n->0<=l'->l'<=100->SQ u Z B b n cx dj->dj.toList.Nodup->Sort.Below (Z.lt) a' e' dj->
   (∀d' w',SQ w' Z B b n cx d'->Sort.PermIn a' e' dj d'->Sort.SortedIn (Z.lt) a' e' d'->Kept (· =b) u w'->K' (.tuple #[]) w')->
   bf prog fJ.id #[.slice (some ⟨b,0,none⟩) n cx,.int .i64 (a':Int),.int .i64 (e':Int),.int .i64 l',CL Z.z (some ⟨Z.c,0,none⟩)] u K')
 (Eu:∀(a' e' l' L:Int) (p' q':Bool) t u dj,(t= []\/∃r:Int,t= [(13,.int .i64 r)])->SQ u Z B b n cx dj->Sort.PermIn a e dk dj->Sort.SortedIn (Z.lt) a e dj->Kept (· =b) v u->Q .ret ((0,.slice (some ⟨b,0,none⟩) n cx)::(1,.int .i64 a')::(2,.int .i64 e')::(3,.int .i64 l')::(4,CL Z.z (some ⟨Z.c,0,none⟩))::(10,.bool p')::(11,.bool q')::(12,.int .i64 L)::t) u)
 (IH:∀(a' e':Nat) (l':Int) (p' q':Bool) (dj:Array HT) (u:World),a<=a'->a'<=e'->e'<=e->e'-a'<e-a->0<=l'->l'<=100->SQ u Z B b n cx dj->dj.toList.Nodup->Sort.Below (Z.lt) a' e' dj->(∀R,Sort.PermIn a' e' dj R->Sort.SortedIn (Z.lt) a' e' R->Sort.PermIn a e dk R/\Sort.SortedIn (Z.lt) a e R)->Kept (· =b) v u->
   Q .normal [(0,.slice (some ⟨b,0,none⟩) n cx),(1,.int .i64 (a':Int)),(2,.int .i64 (e':Int)),(3,.int .i64 l'),(4,CL Z.z (some ⟨Z.c,0,none⟩)),(10,.bool p'),(11,.bool q')] u):
 az.B1 Z.z (some ⟨b,0,none⟩) n cx (a:Int) (e:Int) l (some ⟨Z.c,0,none⟩) p q Q v:=by
 have nK:=SR.size hv.row;unfold az.B1;rw [wN (x:=(e:Int)-(a:Int)) (i:=e-a) (by omega) (by omega)];refine Split.dec (fun C5=>?_) (fun C5=>?_)
 ·refine Bu hv Lk K9 (by omega) fun w' h' k'=>⟨rfl,?_⟩
  obtain⟨p1,p2⟩:=Sort.insertionSort_holds Z.swo dk a e Lk (by omega);exact Eu _ _ _ _ _ _ [] _ _ (.inl rfl) h' p1 p2 k'
 have C5:a+12<e:=by omega
 refine Split.mk (fun hl=>?_) (fun hl=>?_)
 ·refine ym hv (by omega) K9 (by omega) fun w' h' k'=>⟨rfl,?_⟩
  obtain⟨p1,p2⟩:=Sort.heapSort_holds Z.swo dk a e Lk (by omega);exact Eu _ _ _ _ _ _ [] _ _ (.inl rfl) h' p1 p2 k'
 have hl:l≠0:=beq_eq_false_iff_ne.1 hl;have j1:∀ {u:World} {dj:Array HT} {l':Int},0<=l'->l'<=100->SQ u Z B b n cx dj->Sort.PermIn a e dk dj->Kept (· =b) v u->az.J1 Z.z (some ⟨b,0,none⟩) n cx (a:Int) (e:Int) l' (some ⟨Z.c,0,none⟩) p q ((e-a:Nat):Int) Q u:=by
  intro u dj l' vv vR hu xX ku;have j7:∀ {u:World} {dj:Array HT} {r:Nat},a<=r->r<e->SQ u Z B b n cx dj->Sort.PermIn a e dk dj->Kept (· =b) v u->az.J7 Z.z (some ⟨b,0,none⟩) n cx (a:Int) (e:Int) l' (some ⟨Z.c,0,none⟩) p q ((e-a:Nat):Int) (r:Int) Q u:=by
   intro u dj r pJ la hu xX ku;have RJ:=SR.size hu.row;unfold az.J7;have hBj:=hB.perm (by omega) xX;obtain⟨g1,g2,RK,Wx,Ww,EE,yS⟩:=Sort.round_part Z.swo (Sort.partition_holds (Z.lt)) (d3:=dj) (mid:=(Sort.partition (Z.lt) dj a e r).1) (ap:=(Sort.partition (Z.lt) dj a e r).2.1) (d4:=(Sort.partition (Z.lt) dj a e r).2.2) pJ la (by omega) hBj rfl;have Mp:=(Sort.partition_holds (Z.lt) Z.swo dj a e r pJ la (by omega)).2.2.1;refine Bs hu (by omega) pJ la K9 (by omega) fun w5 h5 k5=>⟨_,_,rfl,az.Od ?_⟩;have Rv:=ku.tt k5;generalize (Sort.partition (Z.lt) dj a e r)=res at g1 g2 RK Wx Ww EE yS Mp h5;obtain⟨mid,ap,d4⟩:=res;simp only at g1 g2 RK Wx Ww EE yS Mp h5⊢;have vt:=Sort.permIn_trans _ _ _ a e xX Mp;have Hb:d4.toList.Nodup:=(jI Lk (by omega) vt).nodup_iff.2 gJ;unfold az.J8;refine az.Oc ?_;unfold az.J9;rw [wN (x:=(mid:Int)-(a:Int)) (i:=mid-a) (by omega) (by omega),wN (x:=(e:Int)-(mid:Int)) (i:=e-mid) (by omega) (by omega)];refine az.Kf ?_;unfold az.Xe;refine⟨by decide,az.Ke ?_⟩;unfold az.Xd;refine Split.dec (fun cI=>az.Kc ?_) (fun cI=>az.Kb ?_)
   ·unfold az.Xc
    refine rec g1 (by omega) (by omega) vv vR h5 Hb Wx fun d' w' h' p' s' k'=>⟨rfl,az.Ka ?_⟩;unfold az.Xa;rw [wN (x:=(mid:Int)+1) (i:=mid+1) (by omega) (by omega)];obtain⟨Wy,hf⟩:=EE d' p' s';refine IH (mid+1) e l' _ _ d' w' (by omega) (by omega) (Nat.le_refl _) (by omega) vv vR h' ((jI g1 (by omega) p').nodup_iff.2 Hb) Wy (fun R hR sR=>?_) (Rv.tt k');obtain⟨q1,q2⟩:=hf R hR sR;exact⟨Sort.permIn_trans _ _ _ a e xX q1,q2⟩
   ·unfold az.Xb
    rw [wN (x:=(mid:Int)+1) (i:=mid+1) (by omega) (by omega)];refine rec (by omega) (by omega) (by omega) vv vR h5 Hb Ww fun d' w' h' p' s' k'=>⟨rfl,az.J0 ?_⟩;unfold az.W9;obtain⟨Wy,hf⟩:=yS d' p' s';refine IH a mid l' _ _ d' w' (by omega) (by omega) (by omega) (by omega) vv vR h' ((jI (by omega) (by omega) p').nodup_iff.2 Hb) Wy (fun R hR sR=>?_) (Rv.tt k');obtain⟨q1,q2⟩:=hf R hR sR;exact⟨Sort.permIn_trans _ _ _ a e xX q1,q2⟩
  have j6:∀ {u:World} {dj:Array HT} {r:Nat},a<=r->r<e->SQ u Z B b n cx dj->Sort.PermIn a e dk dj->Kept (· =b) v u->az.J6 Z.z (some ⟨b,0,none⟩) n cx (a:Int) (e:Int) l' (some ⟨Z.c,0,none⟩) p q ((e-a:Nat):Int) (r:Int) Q u:=by
   intro u dj r pJ la hu xX ku;have RJ:=SR.size hu.row;unfold az.J6;intro w3;have k3:Kept Nil u w3:=(Kept.refl _ _).drew;clear_value w3;have h3:=hu.same k3;have NJ:=ku.trans k3 (fun _ _ h=>h.elim);refine Split.dec (fun ha0=>?_) (fun ha0=>az.Il (j7 pJ la h3 xX NJ));rw [wN (x:=(a:Int)-1) (i:=a-1) (by omega) (by omega)];refine h3.cmp (i:=a-1) (j:=r) rfl rfl (by omega) (by omega) fun z w4 h4 k4 hz=>?_;have hg:Z.lt dj[a-1]! dj[r]! =true:=by
    cases hg:Z.lt dj[a-1]! dj[r]!
    ·exfalso
     rcases hB.perm (by omega) xX with e0|e0
     ·omega
     ·have IG:dj.toList.Nodup:=(jI Lk (by omega) xX).nodup_iff.2 gJ
      have e1:=Z.total hg (e0 r pJ la);have:=(List.getElem_inj (xs:=dj.toList) (i:=a-1) (j:=r) (h₀:=by simp;omega) (h₁:=by simp;omega) IG).1 (by
       simpa [getElem!_pos,RJ,show a-1<n by omega,show r<n by omega]using e1)
      omega
    ·rfl
   exact Split.no (by rw [decide_eq_true (hz.2 hg)];rfl) (az.Il (j7 pJ la h4 xX (NJ.trans k4 (fun _ _ h=>h.elim))))
  have j4:∀ {u:World} {dj:Array HT} {r:Nat} {t:Int},a<=r->r<e->SQ u Z B b n cx dj->Sort.PermIn a e dk dj->Kept (· =b) v u->az.J4 Z.z (some ⟨b,0,none⟩) n cx (a:Int) (e:Int) l' (some ⟨Z.c,0,none⟩) p q ((e-a:Nat):Int) (r:Int) t Q u:=by
   intro u dj r t pJ la hu xX ku;unfold az.J4;have go:=az.Im (j6 pJ la hu xX ku);refine Split.mk (fun _=>Split.mk (fun _=>Split.mk (fun _=>?_) (fun _=>go)) (fun _=>go)) (fun _=>go);refine Bq hu (by omega) K9 hn fun t w' hs h' k'=>⟨t,rfl,?_⟩;have Rw:=ku.trans k' (fun _ _ h=>h.elim);exact Split.mk (fun ht=>Eu _ _ _ _ _ _ [_] _ _ (.inr ⟨_,rfl⟩) h' xX (hs ht) Rw) (fun _=>az.Im (j6 pJ la h' xX Rw))
  unfold az.J1;refine Bp hu C5 K9 hn fun r t w4 pJ la h4 k4=>⟨_,_,rfl,az.Eh ?_⟩;have NI:=ku.trans k4 (fun _ _ h=>h.elim);unfold az.J2;refine Split.mk (fun ht=>?_) (fun ht=>az.Io (j4 pJ la h4 xX NI));refine Bn h4 (by omega) K9 (by omega) fun d' w' h' p' k'=>⟨rfl,az.Of ?_⟩;unfold az.J3;rw [wN (x:=(e:Int)-1) (i:=e-1) (by omega) (by omega),wN (x:=(r:Int)-(a:Int)) (i:=r-a) (by omega) (by omega),wN (x:=((e-1:Nat):Int)-((r-a:Nat):Int)) (i:=e-1-(r-a)) (by omega) (by omega)];refine az.Oe ?_;unfold az.J5;exact az.Io (j4 (by omega) (by omega) h' (Sort.permIn_trans _ _ _ a e xX p') (NI.tt k'))
 refine Split.mk (fun hp=>?_) (fun hp=>az.kN (j1 vv vR hv (Sort.permIn_refl _ _ _) (Kept.refl _ _)));refine Bw hv C5 K9 (by omega) fun d' w' h' p' k'=>⟨rfl,az.kN ?_⟩;rw [iF (x:=l-1) (by omega) (by omega)];exact j1 (by omega) (by omega) h' p' k'
theorem Br(hn:n<50):∀(s:Nat) {w:World} {d:Array HT} {x y:Nat} {lim:Int} {K:Value->World->Prop},y<x+s->x<=y->y<=n->0<=lim->lim<=100->SQ w Z B b n cx d->d.toList.Nodup->Sort.Below (Z.lt) x y d->
 (∀d' w',SQ w' Z B b n cx d'->Sort.PermIn x y d d'->Sort.SortedIn (Z.lt) x y d'->Kept (· =b) w w'->K (.tuple #[]) w')->
 bf prog fJ.id #[.slice (some ⟨b,0,none⟩) n cx,.int .i64 (x:Int),.int .i64 (y:Int),.int .i64 lim,CL Z.z (some ⟨Z.c,0,none⟩)] w K:=by
 intro s
 induction s with
 |zero=>intro w d x y lim K h1 h2;omega
 |succ s ih=>
  intro w d x y lim K hs lW hy vv vR h gJ hB hK;refine az.of ?_;unfold az.W;refine az.b9 (I:=fun st v=>∃(a e:Nat) (l:Int) (p q:Bool) (dk:Array HT),st=((a:Int),(e:Int),l,p,q)/\x<=a/\a<=e/\e<=y/\0<=l/\l<=100/\SQ v Z B b n cx dk/\dk.toList.Nodup/\Sort.Below (Z.lt) a e dk/\(∀R,Sort.PermIn a e dk R->Sort.SortedIn (Z.lt) a e R->Sort.PermIn x y d R/\Sort.SortedIn (Z.lt) x y R)/\Kept (· =b) w v) (μ:=fun st _=>(st.2.1-st.1).toNat) (s:=((x:Int),(y:Int),lim,true,true)) ⟨x,y,lim,true,true,d,rfl,Nat.le_refl _,lW,Nat.le_refl _,vv,vR,h,gJ,hB,fun R h1 h2=>⟨h1,h2⟩,Kept.refl _ _⟩ ?_;rintro st v ⟨a,e,l,p,q,dk,rfl,hxa,Lk,hey,vv,vR,hv,gJ,hB,sC,kv⟩;refine BH hn Lk (by omega) vv vR hv gJ hB (fun h1 h2 h3 h4 h5 h6 h7 h8 h9=>ih (by omega) h1 h3 h4 h5 h6 h7 h8 h9) (fun _ _ _ _ _ _ t u dj ht h1 h2 h3 h4=>?_) (fun a' e' l' p' q' dj u h1 h2 h3 h4 h5 h6 h7 h8 h9 rI FY=>?_)
  ·rw [fS]
   obtain⟨q1,q2⟩:=sC _ h2 h3;rcases ht with rfl|⟨r,rfl⟩
   ·exact hK dj u h1 q1 q2 (kv.tt h4)
   exact hK dj u h1 q1 q2 (kv.tt h4)
  ·exact⟨((a':Int),(e':Int),l',p',q'),rfl,⟨a',e',l',p',q',dj,rfl,by omega,h2,by omega,h5,h6,h7,h8,h9,fun R hR sR=>let ⟨q1,q2⟩:=rI R hR sR;sC R q1 q2,kv.tt FY⟩,by simp only;omega⟩
theorem zB{n:Nat}(hn:n<50)(hK:∀(v:Int),0<=v->v<=100->K (.int .i64 v) w):bf prog bits_Len.id #[.int .u64 (n:Int)] w K:=by
 have h:=Any.bits_Len (SlLaysF0.n15.bits (P:=prog) (ρ:=Tryz.nX) {Tryz.uw with}) n w (by omega) (by omega);refine Calls.mono h ?_;rintro e w' ⟨rfl,rfl⟩;refine⟨_,rfl,hK _ (by omega) ?_⟩;rw [Int.toNat_natCast,bitLen_eq _ (by omega)];have:=(Sort.bitsLen_le_iff n 62).2 (by omega);omega
end
theorem Lx(G:GS):Sort.SWO (gl G) where
 irrefl:=lQ G
 trans:=fun _ _ _=>pP
 ntrans:=fun x y z h1 h2=>by
  cases h:gl G x z
  ·rfl
  ·exfalso
   cases h3:gl G y x
   ·have:=sG h1 h3
    subst this;rw [h2]at h;cases h
   ·rw [pP h3 h]at h2;cases h2
theorem M4{Z:F8}{w:World}{B:Nat}{A:Option Addr}{n cx:Nat}{l:List HT}{K:Value->World->Prop}(hE:Z.E w)(row:cm w B A n cx l)(hn:n<=49)(gJ:l.Nodup)(jW:∀x∈l,Z.M x)(pL:∀j,bm A=some j->¬Z.U j)
 (hK:∀l' w',(l'.Pairwise fun a b=>Z.lt a b=true)->(∀x,x∈l'↔x∈l)->cm w' B A n cx l'->Kept (fun j=>bm A=some j) w w'->K (.tuple #[]) w'):
 bf prog fp.id #[.slice A n cx,CL Z.z (some ⟨Z.c,0,none⟩)] w K:=by
 have hlen:=cm.len row;by_cases h0:n=0
 ·subst h0
  have h:=AnyF.slices_SortFunc_none Tryz.uw A cx (CL Z.z (some ⟨Z.c,0,none⟩)) w;refine Calls.mono h ?_;rintro e w' ⟨rfl,rfl⟩;have:l= []:=List.eq_nil_of_length_eq_zero hlen;subst this;exact⟨_,rfl,hK [] _ List.Pairwise.nil (fun _=>Iff.rfl) row (Kept.refl _ _)⟩
 ·obtain⟨b,rfl⟩:=Row.some row (by omega)
  have hSQ:SQ w Z B b n cx l.toArray:=⟨hE,by simpa [SR]using row,by simpa using jW,pL b rfl⟩;refine nY.of ?_;unfold nY.W;have ew:u64.wrap (n:Int)=(n:Int):=jC (by omega);rw [ew];refine zB (by omega) fun v hv0 FI=>⟨v,rfl,?_⟩;refine Br (x:=0) (y:=n) (by omega) (n+1) (by omega) (Nat.zero_le _) (Nat.le_refl _) hv0 FI hSQ (by simpa using gJ) (.inl rfl) fun d' w' h' p' s' k'=>⟨rfl,?_⟩;have lP:=SR.size h'.row;have FL:l.toArray.size=n:=by simpa using hlen
  have YM:=jI (Nat.zero_le _) (by omega) p';refine hK d'.toList w' ?_ (fun x=>by rw [YM.mem_iff]) h'.row (k'.mono fun j _ e=>by subst e;rfl);have sA:=YM.nodup_iff.2 (by simpa using gJ);rw [List.pairwise_iff_getElem];intro i j hi hj pM;have KZ:i<d'.size:=by simpa using hi
  have uP:j<d'.size:=by simpa using hj
  have h1:=s' i j (Nat.zero_le _) pM (by omega);rw [getElem!_pos d' i KZ,getElem!_pos d' j uP]at h1;rw [Array.getElem_toList,Array.getElem_toList];cases hg:Z.lt d'[i] d'[j]
  ·exfalso
   have e1:=Z.total hg h1;have:=(List.getElem_inj (xs:=d'.toList) (i:=i) (j:=j) (h₀:=hi) (h₁:=hj) sA).1 (by simpa using e1);omega
  ·rfl
theorem zX:AS 49:=by
 intro w F c k G m B A n cx l K C row hn gJ jW pL hK
 let Z:F8:=⟨true,c,gl G,fun x=>x∈ids G.D,fun j=>m.own c j\/F j,fun u=>CV u F c k G m,fun h hk hS=>h.aK hk (fun j hj=>hS j (.inl hj)) (fun j hj=>hS j (.inr hj)),fun h j hj=>h.low j hj,fun h hx hy hK=>qQ h hx hy fun w' k'=>hK _ w' k' HN,Lx G,sG⟩
 exact M4 (Z:=Z) C row hn gJ jW (fun j hj e=>e.elim (pL j hj).1 (pL j hj).2) hK
end Go.Proofs.YtfleamccglihoaaGreatDoor
