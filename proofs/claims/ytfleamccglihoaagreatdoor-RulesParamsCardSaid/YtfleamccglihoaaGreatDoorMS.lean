import Derived.Test.YtfleamccglihoaaGreatDoorMQ
import Derived.Test.YtfleamccglihoaaGreatDoorMG
import Derived.Test.YtfleamccglihoaaGreatDoorMJ
import Derived.Sort.AssemblyPlain
import Derived.Test.YtfleamccglihoaaGreatDoorMO
open Go.IntKind (i64 u64)
set_option linter.unusedVariables false
namespace Go.Proofs.YtfleamccglihoaaGreatDoor
open Go.Proofs.Tryz
open Go Go.bE Go.RowKit
section
variable{w w':World}{A B:Option Addr}{n cp m cq:Nat}{K:Value->World->Prop}
theorem Bo.none{l:List Bool}(h:Bo w none n l):n=0/\l= []:=by
 cases l with
 |nil=>exact⟨h.len.symm,rfl⟩
 |cons b l=>
  obtain⟨a,h1,_⟩:=h.at_ 0 b rfl;cases h1
theorem Bo.cells{a:Addr}{l:List Bool}(h:Bo w (some a) n l):∀j u,(vc l)[j]? =some u->w.cell? (a.add j)=some u:=by
 intro j u hj;unfold vc at hj;rw [List.getElem?_map]at hj;cases hb:l[j]? with
 |none=>rw [hb]at hj;cases hj
 |some b=>
  rw [hb]at hj;cases hj;obtain⟨a',h1,_,h3⟩:=h.at_ j b hb;cases h1;exact h3
theorem Row.bo{l:List Bool}{C:Nat}(h:Row w C iW 1 A n cp (vc l)):Bo w A n l:=by
 have hlen:=Row.len h;refine⟨by simpa [vc]using hlen,fun i b hi=>?_⟩;have fg:=(lgeS hi).1;have hn:0<n:=by simp [vc]at hlen;omega
 obtain⟨k,rfl⟩:=Row.some h hn;obtain⟨_,cur,vB⟩:=Row.bS h (k:=k) rfl;exact⟨_,rfl,bf vB,Row.cells h i _ (by simp [vc,hi])⟩
theorem zA{l:List Bool}(hl:Bo w A n l)(hn:n<=400000)(hK:∀A' c' w',Row w' w.heap.size iW 1 A' n c' (vc l)->Kept Nil w w'->K (.slice A' n c') w'):
 bm prog db.id #[.slice A n cp] w K:=by
 have hlen:=hl.len;refine db.of ?_;cases A with
 |none=>
  obtain⟨rfl,rfl⟩:=hl.none;exact Split.yes rfl (hK none 0 w (Row.nil _ _ _ _) (Kept.refl _ _))
 |some a=>
  refine Split.no rfl ?_;intro w2;have k2:Kept Nil w w2:=(Kept.refl _ _).alloc _;have r0:Row w2 w.heap.size iW 1 (some ⟨w.heap.size,0,none⟩) 0 0 []:=Row.made (n:=0) (cur:= #[]) (aR w _) (Nat.le_refl _) rfl (Nat.zero_le _);clear_value w2;obtain⟨A',c',w4,hr,row,hg,_⟩:=iu (P:=prog) (t:=jb) (bytes:=1) (ty:=jb) Dx r0 (a:=a) (m:=n) (cx:=cp) (news:=vc l) (by simp [vc,hlen]) (hl.same k2).cells (fun u hu=>by
   simp only [vc,List.mem_map]at hu;obtain⟨b,_,rfl⟩:=hu;rfl) (by omega) (by unfold maxLen;omega) k2.size
  rw [Nat.zero_add]at hr row;rw [List.nil_append]at row;exact⟨A',n,c',w4,hr,hK A' c' w4 row (Kept.pR k2 hg (fun k hk=>by cases hk;exact Nat.le_refl _))⟩
theorem rE(c:rl)(hm:HS w A n c.merge)(hb:Bo w B m c.iJ)(hn:n<=400000)(U0:m<=400000)
 (hK:∀A' c1 B' c2 w',cg w' w.heap.size A' n c1 c.merge->Row w' w.heap.size iW 1 B' m c2 (vc c.iJ)->(∀j,bp A'=some j->bp B'≠some j)->Kept Nil w w'->K (.agg (dT c A' n c1 B' m c2)) w'):
 bm prog fQ.id #[.agg (dT c A n cp B m cq)] w K:=by
 refine fQ.of ?_;unfold fQ.W;intro w1 w2 w3;have k1:Kept Nil w w1:=(Kept.refl _ _).alloc _;have Yz:w1.heap[w.heap.size]? =some (.cells (dT c A n cp B m cq) cB (0,0)):=aR w _;have k2:Kept Nil w1 w2:=(Kept.refl _ _).alloc _;have lg:w2.heap[w1.heap.size]? =some (.cells zC cB (0,0)):=aR w1 _;have k3:Kept Nil w2 w3:=(Kept.refl _ _).drew;clear_value w3;have Oq:=k3.heap (k2.heap Yz (fun h=>h)) (fun h=>h);have CX:=k3.heap lg (fun h=>h);have km:=(k1.tt k2).tt k3;have s1:=k1.size;have l1:=bf Yz;have l2:=bf lg;have s3:=k3.size;clear_value w2 w1;have g:=gN c A n cp B m cq #[];rw [Array.append_empty]at g;refine⟨A,n,cp,by rw [bu,aD Oq];exact g.2.1,B,m,cq,by rw [bu,aD Oq];exact g.2.2.1,?_⟩;refine zz (hm.same km) hn fun A' c1 w4 wA k4=>⟨A',n,c1,rfl,by rw [bu,aD (k4.heap Oq (fun h=>h))];exact g.2.2.1,?_⟩;have lj:=km.tt k4;have s4:=k4.size;refine zA (hb.same lj) U0 fun B' c2 w5 qn k5=>⟨B',m,c2,rfl,?_⟩;have lQ:=k4.tt k5;have Yx:=lQ.heap Oq (fun h=>h);have CW:=lQ.heap CX (fun h=>h);have nN:=bX c A n cp B m cq;refine⟨by rw [bu];exact dL Yx (by omega),?_⟩;intro w6;have Z3:=tn c A n cp B m cq #[] A' n c1;rw [Array.append_empty,Array.append_empty]at Z3;have GX:w6.heap[w.heap.size]? =some (.cells (dT c A' n c1 B m cq) cB (0,0)):=by
  show(w5.setCell ((aU w.heap.size).add 33) (.slice A' n c1)).heap[w.heap.size]? =_;rw [bu,cY Yx,Z3]
 have k6:Kept (· =w.heap.size) w5 w6:=by
  show Kept (· =w.heap.size) w5 (w5.setCell ((aU w.heap.size).add 33) (.slice A' n c1))
  rw [bu];exact Kept.setCell (S:=(· =w.heap.size)) (Kept.refl _ w5) (p:=⟨w.heap.size,0+33,none⟩) (fun _=>rfl) _
 clear_value w6;have abV:=bX c A' n c1 B m cq;refine⟨by rw [bu];exact dL GX (by omega),?_⟩;intro w7;have Z2:=tm c A' n c1 B m cq #[] B' m c2;rw [Array.append_empty,Array.append_empty]at Z2;have hx7:w7.heap[w.heap.size]? =some (.cells (dT c A' n c1 B' m c2) cB (0,0)):=by
  show(w6.setCell ((aU w.heap.size).add 34) (.slice B' m c2)).heap[w.heap.size]? =_;rw [bu,cY GX,Z2]
 have k7:Kept (· =w.heap.size) w6 w7:=by
  show Kept (· =w.heap.size) w6 (w6.setCell ((aU w.heap.size).add 34) (.slice B' m c2))
  rw [bu];exact Kept.setCell (S:=(· =w.heap.size)) (Kept.refl _ w6) (p:=⟨w.heap.size,0+34,none⟩) (fun _=>rfl) _
 clear_value w7;have GL:=k6.tt k7;have Iz:=GL.heap CW (by omega);obtain⟨t1,t2,t3⟩:=lu Iz (cs:=dT c A' n c1 B' m c2) (by rw [bX];rfl);refine⟨_,⟨bX ..,Cells.bS hx7⟩,⟨bX ..,kW _ _ _ _ _ _ _,fun j hj=>t1 j (by rw [bX];exact hj)⟩,?_⟩;intro w8
 replace t2:w8.heap[w1.heap.size]? =_:=t2
 replace t3:Kept (· =w1.heap.size) w7 w8:=t3
 clear_value w8;refine⟨_,⟨bX ..,Cells.bS t2⟩,?_⟩;have Co:∀j,bp A'=some j->w3.heap.size<=j/\j<w4.heap.size:=fun j hj=>by obtain⟨g1,cur,g2⟩:=Row.bS wA hj;exact⟨g1,bf g2⟩
 have Lv:∀j,bp B'=some j->w4.heap.size<=j:=fun j hj=>(Row.bS qn hj).1;have s5:=k5.size;have D3:Kept (fun j=>j=w.heap.size\/j=w1.heap.size) w5 w8:=(GL.mono fun _ _ h=>.inl h).trans t3 (fun _ _ h=>.inr h);refine hK A' c1 B' c2 w8 ?_ ?_ (fun j hj he=>by have:=(Co j hj).2;have:=Lv j he;omega) ((km.tt lQ).trans D3 (fun j hj e=>by omega))
 ·exact Row.base (Row.aK (Row.aK wA k5 (fun _ _ h=>h)) D3 (fun j hj e=>by have:=(Co j hj).1;omega)) (fun j hj=>by have:=(Co j hj).1;omega)
 ·exact Row.base (Row.aK qn D3 (fun j hj e=>by have:=Lv j hj;omega)) (fun j hj=>by have:=Lv j hj;omega)
end
section
variable{w w':World}{F:Nat->Prop}{c k:Nat}{G:GS}{m:CM}{K:Value->World->Prop}
theorem qX(h:CV w F c k G m)(hK:K (.pointer (some ⟨m.x,0,none⟩)) w):bm prog dm.id #[.pointer (some ⟨c,0,none⟩)] w K:=
 dm.of (Split.no rfl (Is.mk rfl ⟨_,h.c1,hK⟩))
end
theorem vx(x:HT):x.1.size=32:=x.2.1
theorem AR{G:GS}{a b:HT}:xK G a b>0↔gl G b a=true:=by
 unfold xK;split
 ·rename_i h;rw [xx h];simp
 ·split<;>simp_all
section
variable{w w':World}{F:Nat->Prop}{c k:Nat}{G:GS}{m:CM}{K:Value->World->Prop}{A:Option Addr}{n cx:Nat}{l:List HT}
theorem Cr(h:CV w F c k G m)(hl:HS w A n l)(h0:l≠ [])(hn:n<=400000)(gM:∀x∈l,x∈ids G.D)(hK:∀w',Kept Nil w w'->K (.agg (bK G l).1) w'):
 bm prog kK.id #[.slice A n cx,.func (.func cC.id) #[.pointer (some ⟨c,0,none⟩)] #[]] w K:=by
 have hlen:=hl.len;obtain⟨x0,t,rfl⟩:∃x0 t,l=x0::t:=by cases l with|nil=>exact absurd rfl h0|cons a b=>exact⟨a,b,rfl⟩
 refine ao.of ?_;unfold ao.W;intro w1;have k1:Kept Nil w w1:=(Kept.refl _ _).alloc _;have qz:w1.heap[w.heap.size]? =some (.cells fI.1 ax (0,0)):=aR w _;clear_value w1;simp only [List.length_cons]at hlen;refine Split.no (decide_eq_false (by omega)) ((hl.same k1).load (i:=0) (by omega) rfl ?_);intro w2;have k2:Kept Nil w1 w2:=(Kept.refl _ _).alloc _;have oy:w2.heap[w1.heap.size]? =some (.cells fI.1 ax (0,0)):=aR w1 _;clear_value w2;have lg:=k2.heap qz (fun h=>h);have l1:=bf qz;have l2:=bf oy;obtain⟨t1,t2,t3⟩:=js x0 oy rfl;refine⟨t1,?_⟩;intro w3
 replace t2:w3.heap[w1.heap.size]? =some (.cells x0.1 ax (0,0)):=t2
 replace t3:Kept (· =w1.heap.size) w2 w3:=t3
 clear_value w3;have s1:=k1.size;have km:Kept Nil w w3:=(k1.tt k2).trans t3 (fun j hj e=>by omega);have CX:=t3.heap lg (by omega);refine ao.cf (I:=fun s v=>∃(i:Nat) (b:HT),s=(i:Int)/\1<=i/\i<=n/\b∈ids G.D/\((x0::t).drop i).foldl (fun b y=>if gl G b y then y else b) b=bK G (x0::t)/\v.heap[w1.heap.size]? =some (.cells b.1 ax (0,0))/\v.heap[w.heap.size]? =some (.cells fI.1 ax (0,0))/\Kept Nil w v) (μ:=fun s _=>((n:Int)-s).toNat) (s:=1) ⟨1,x0,rfl,Nat.le_refl _,by omega,gM _ List.mem_cons_self,rfl,t2,CX,km⟩ ?_;rintro s v ⟨i,b,rfl,PK,Hg,hb,he,EM,YP,kv⟩;unfold ao.B1;refine Split.dec (fun cK=>?_) (fun iK=>?_)
 ·have fg:i<n:=by omega
  obtain⟨y,hy⟩:∃y,(x0::t)[i]? =some y:=⟨_,List.getElem?_eq_getElem (by simp;omega)⟩;have Yt:y∈ids G.D:=gM _ (List.mem_of_getElem? hy);have hd:(x0::t).drop i=y::(x0::t).drop (i+1):=by
   obtain⟨q1,q2⟩:=lgeS hy;rw [List.drop_eq_getElem_cons q1,q2]
  rw [hd,List.foldl_cons]at he;intro w4;have k4:Kept Nil v w4:=(Kept.refl _ _).drew;clear_value w4;have DX:=kv.tt k4;have RM:(x0::t)[((i:Nat):Int).toNat]? =some y:=by rw [Int.toNat_natCast];exact hy
  refine(hl.same DX).load (i:=(i:Int)) (by omega) RM ⟨b.1,⟨b.2.1,Cells.bS (k4.heap EM (fun h=>h))⟩,?_⟩;refine qW (h.same DX) Yt hb fun w5 k5=>⟨_,rfl,?_⟩;have FB:=DX.tt k5;have vD:=k5.heap (k4.heap EM (fun h=>h)) (fun h=>h);have CW:=k5.heap (k4.heap YP (fun h=>h)) (fun h=>h);rw [eK (n:=(i:Int)) (by omega) (by omega)];refine Split.dec (fun xq=>?_) (fun hle=>?_)
  ·rw [if_pos (AR.1 xq)]at he
   refine(hl.same FB).load (i:=(i:Int)) (by omega) RM ?_;obtain⟨f1,f2,f3⟩:=js y vD b.2.1;refine⟨f1,?_⟩;exact⟨(i:Int)+1,rfl,⟨i+1,y,rfl,by omega,by omega,Yt,he,f2,f3.heap CW (by omega),FB.trans f3 (fun j hj e=>by omega)⟩,by simp only;omega⟩
  ·rw [if_neg (fun e=>hle (AR.2 e))]at he
   exact⟨(i:Int)+1,rfl,⟨i+1,b,rfl,by omega,by omega,hb,he,vD,CW,FB⟩,by simp only;omega⟩
 ·rw [aY,ao.dB]
  rw [List.drop_eq_nil_of_le (by simp;omega)]at he
  replace he:b=bK G (x0::t):=he
  subst he;refine⟨_,⟨vx _,Cells.bS EM⟩,?_⟩;obtain⟨f1,f2,f3⟩:=js (bK G (x0::t)) YP rfl;exact⟨f1,_,⟨vx _,Cells.bS f2⟩,hK _ (kv.trans f3 (fun j hj e=>by omega))⟩
theorem pT(h:CV w F c k G m)(hl:HS w A n l)(hn:n<=400000)(hK:∀w',Kept Nil w w'->K (.tuple #[.agg (if kl G.D l=0 then bK G l else fI).1,.int .i64 (kl G.D l)]) w'):
 bm prog cQ.id #[.pointer (some ⟨c,0,none⟩),.slice A n cx] w K:=by
 refine cQ.of ?_;unfold cQ.W;intro w1;have k1:Kept Nil w w1:=(Kept.refl _ _).alloc _;have qz:w1.heap[w.heap.size]? =some (.cells fI.1 ax (0,0)):=aR w _;clear_value w1;refine uX (h.same k1) (hl.same k1) hn fun w2 k2=>⟨_,rfl,?_⟩;have oD:=k1.tt k2;have lg:=k2.heap qz (fun h=>h);by_cases h0:kl G.D l=0
 ·rw [if_pos h0]at hK
  refine Split.no (by simp [h0]) ?_;have fJ:l≠ []:=fun e=>by unfold kl at h0;rw [if_pos e]at h0;cases h0
  have gM:∀x∈l,x∈ids G.D:=fun x hx=>by
   unfold kl at h0;rw [if_neg fJ]at h0;by_cases YA:x∈ids G.D
   ·exact YA
   ·rw [if_pos ⟨x,hx,YA⟩]at h0;cases h0
  refine Cr (h.same oD) (hl.same oD) fJ hn gM fun w3 k3=>⟨_,rfl,?_⟩;obtain⟨f1,f2,f3⟩:=js (bK G l) (k3.heap lg (fun h=>h)) rfl;rw [h0]at hK;exact⟨f1,_,⟨vx _,Cells.bS f2⟩,hK _ ((oD.tt k3).trans f3 (fun j hj e=>by omega))⟩
 ·rw [if_neg h0]at hK
  refine Split.yes (by simpa using h0) ?_;obtain⟨f1,f2,f3⟩:=js fI lg rfl;exact⟨f1,_,⟨vx _,Cells.bS f2⟩,hK _ (oD.trans f3 (fun j hj e=>by omega))⟩
end
abbrev SR(w:World)(B b n cx:Nat)(d:Array HT):Prop:=cg w B (some ⟨b,0,none⟩) n cx d.toList
section
variable{w w':World}{B b n cx:Nat}{d:Array HT}
theorem SR.size(h:SR w B b n cx d):d.size=n:=by have:=cg.len h;simpa using this
theorem rX(d:Array HT)(i j:Nat)(hi:i<d.size)(hj:j<d.size):(Sort.swp d i j).toList=(d.toList.set i d[j]!).set j d[i]! :=by
 unfold Sort.swp;simp
end
structure F8 where
 z:Bool
 c:Nat
 lt:HT->HT->Bool
 M:HT->Prop
 U:Nat->Prop
 E:World->Prop
 aK:∀ {w w':World} {S:Nat->Prop},E w->Kept S w w'->(∀j,U j->¬S j)->E w'
 low:∀ {w:World},E w->∀j,U j->j<w.heap.size
 cmp:∀ {w:World} {x y:HT} {K:Value->World->Prop},E w->M x->M y->(∀(r:Int) w',Kept Nil w w'->(r<0↔lt x y=true)->K (.int .i64 r) w')->bm prog (CF z) (CA z (some ⟨c,0,none⟩) x.1 y.1) w K
 swo:Sort.SWO lt
 total:∀ {x y:HT},lt x y=false->lt y x=false->x=y
structure SQ(w:World)(Z:F8)(B b n cx:Nat)(d:Array HT):Prop where
 E:Z.E w
 row:SR w B b n cx d
 mem:∀x∈d.toList,Z.M x
 own:¬Z.U b
section
variable{w w':World}{B b n cx:Nat}{d:Array HT}{Z:F8}{K:Value->World->Prop}
theorem SQ.xf{S:Nat->Prop}{d':Array HT}(h:SQ w Z B b n cx d)(hk:Kept S w w')(hS:∀j,Z.U j->¬S j)(hr:SR w' B b n cx d')(hm:∀x∈d'.toList,Z.M x):SQ w' Z B b n cx d':=by
 exact⟨Z.aK h.E hk hS,hr,hm,h.own⟩
theorem SQ.same(h:SQ w Z B b n cx d)(hk:Kept Nil w w'):SQ w' Z B b n cx d:=h.xf hk (fun _ _ h=>h) (Row.aK h.row hk (fun _ _ h=>h)) h.mem
theorem SQ.get(h:SQ w Z B b n cx d){i:Nat}(hi:i<n):Z.M d[i]! /\Cells w ((⟨b,0,none⟩:Addr).add (i*32)) d[i]!.1:=by
 have hs:=SR.size h.row;have e:d.toList[i]? =some d[i]! :=by simp [hs,hi]
 refine⟨h.mem _ (List.mem_of_getElem? e),?_⟩;obtain⟨a,h1,_,h3⟩:=(cg.hs h.row).at_ i _ e;cases h1;exact h3
theorem SQ.swap(h:SQ w Z B b n cx d){i j:Nat}(hi:i<n)(hj:j<n):
 ((d[j]!.1.size=32/\(∀a∈d[j]!.1.toList,a.oneCell'=true)/\∀q,q<32->Wr w (((⟨b,0,none⟩:Addr).add (i*32)).add q))/\
   d[i]!.1.size=32/\(∀a∈d[i]!.1.toList,a.oneCell'=true)/\∀q,q<32->Wr (setCells w ((⟨b,0,none⟩:Addr).add (i*32)) d[j]!.1.toList 0) (((⟨b,0,none⟩:Addr).add (j*32)).add q))/\
 SQ (setCells (setCells w ((⟨b,0,none⟩:Addr).add (i*32)) d[j]!.1.toList 0) ((⟨b,0,none⟩:Addr).add (j*32)) d[i]!.1.toList 0) Z B b n cx (Sort.swp d i j)/\
 Kept (· =b) w (setCells (setCells w ((⟨b,0,none⟩:Addr).add (i*32)) d[j]!.1.toList 0) ((⟨b,0,none⟩:Addr).add (j*32)) d[i]!.1.toList 0):=by
 have hs:=SR.size h.row;have gi:=h.get hi;have gj:=h.get hj;simp only [bu,Nat.zero_add];have r1:=cg.setAt h.row hi d[j]!;have r2:=cg.setAt r1 hj d[i]!;have kp:=(fU (b:=b) d[j]!.1.toList w (i*32) 0).tt (fU (b:=b) d[i]!.1.toList (setCells w ⟨b,i*32,none⟩ d[j]!.1.toList 0) (j*32) 0);refine⟨⟨⟨d[j]!.2.1,d[j]!.2.one,fun q hq=>?_⟩,d[i]!.2.1,d[i]!.2.one,fun q hq=>?_⟩,h.xf kp (fun q hq e=>h.own (by rw [<-e];exact hq)) ?_ ?_,kp⟩
 ·have:=cg.Jm h.row hi q hq
  rwa [bu]at this
 ·have:=cg.Jm r1 hj q hq
  rwa [bu]at this
 ·show cg _ _ _ _ _ (Sort.swp d i j).toList
  rw [rX d i j (by omega) (by omega)];exact r2
 ·intro x hx
  rw [rX d i j (by omega) (by omega)]at hx;rcases List.mem_or_eq_of_mem_set hx with hx|rfl
  ·rcases List.mem_or_eq_of_mem_set hx with hx|rfl
   ·exact h.mem x hx
   ·exact gj.1
  ·exact gi.1
theorem SQ.cmp(h:SQ w Z B b n cx d){x y:Int}{i j:Nat}(hx:x=(i:Int))(hy:y=(j:Int))(hi:i<n)(hj:j<n){Y:Int->World->Prop}
 (hK:∀r w',SQ w' Z B b n cx d->Kept Nil w w'->(r<0↔Z.lt d[i]! d[j]! =true)->Y r w'):
 (0<=x/\x<(n:Int))/\Is (some (⟨b,0,none⟩:Addr)) fun a:Addr=>∃t:Array Value,(t.size=32/\Cells w (a.add (x.toNat*32)) t)/\(0<=y/\y<(n:Int))/\Is (some (⟨b,0,none⟩:Addr)) fun a:Addr=>∃u:Array Value,(u.size=32/\Cells w (a.add (y.toNat*32)) u)/\
   bm prog (CF Z.z) (CA Z.z (some ⟨Z.c,0,none⟩) t u) w fun q r=>∃t:Int,q=.int .i64 t/\Y t r:=by
 subst hx hy;have g1:=h.get hi;have g2:=h.get hj;refine⟨⟨by omega,by omega⟩,Is.mk rfl ⟨d[i]!.1,⟨d[i]!.2.1,by rw [Int.toNat_natCast];exact g1.2⟩,⟨by omega,by omega⟩,Is.mk rfl ⟨d[j]!.1,⟨d[j]!.2.1,by rw [Int.toNat_natCast];exact g2.2⟩,?_⟩⟩⟩;exact Z.cmp h.E g1.1 g2.1 fun r w4 k4 hr=>⟨r,rfl,hK r w4 (h.same k4) k4 hr⟩
theorem SQ.sw(h:SQ w Z B b n cx d){x y:Int}{i j:Nat}(hx:x=(i:Int))(hy:y=(j:Int))(hi:i<n)(hj:j<n):
 ((0<=y/\y<(n:Int))/\(d[j]!.1.size=32/\Cells w ((⟨b,0,none⟩:Addr).add (y.toNat*32)) d[j]!.1)/\(0<=x/\x<(n:Int))/\(d[i]!.1.size=32/\Cells w ((⟨b,0,none⟩:Addr).add (x.toNat*32)) d[i]!.1)/\
   (d[j]!.1.size=32/\(∀a∈d[j]!.1.toList,a.oneCell'=true)/\∀q,q<32->Wr w (((⟨b,0,none⟩:Addr).add (x.toNat*32)).add q))/\
   d[i]!.1.size=32/\(∀a∈d[i]!.1.toList,a.oneCell'=true)/\∀q,q<32->Wr (setCells w ((⟨b,0,none⟩:Addr).add (x.toNat*32)) d[j]!.1.toList 0) (((⟨b,0,none⟩:Addr).add (y.toNat*32)).add q))/\
 SQ (setCells (setCells w ((⟨b,0,none⟩:Addr).add (x.toNat*32)) d[j]!.1.toList 0) ((⟨b,0,none⟩:Addr).add (y.toNat*32)) d[i]!.1.toList 0) Z B b n cx (Sort.swp d i j)/\
 Kept (· =b) w (setCells (setCells w ((⟨b,0,none⟩:Addr).add (x.toNat*32)) d[j]!.1.toList 0) ((⟨b,0,none⟩:Addr).add (y.toNat*32)) d[i]!.1.toList 0):=by
 subst hx hy;obtain⟨⟨t1,t2⟩,t3,t4⟩:=h.swap hi hj;have f1:=h.get hi;have f2:=h.get hj;rw [Int.toNat_natCast,Int.toNat_natCast];exact⟨⟨⟨by omega,by omega⟩,⟨d[j]!.2.1,f2.2⟩,⟨by omega,by omega⟩,⟨d[i]!.2.1,f1.2⟩,t1,t2⟩,t3,t4⟩
theorem SQ.kV(h:SQ w Z B b n cx d){q:Nat}(hk:Kept (· =q) w w')(kV:True/\¬Z.U q/\q≠b):SQ w' Z B b n cx d:=
 h.xf hk (fun j hj e=>kV.2.1 (by rw [<-e];exact hj)) (Row.aK h.row hk (fun j hj e=>by cases hj;exact kV.2.2 e.symm)) h.mem
theorem SQ.lt(h:SQ w Z B b n cx d):b<w.heap.size:=by
 obtain⟨_,cur,vB⟩:=Row.bS h.row (k:=b) rfl;exact bf vB
theorem SQ.fresh(h:SQ w Z B b n cx d){q:Nat}(hq:w.heap.size<=q):True/\¬Z.U q/\q≠b:=
 ⟨trivial,fun e=>by have:=Z.low h.E q e;omega,fun e=>by have:=h.lt;omega⟩
end
section
variable{w w':World}{B b n cx:Nat}{d:Array HT}{Z:F8}{K:Value->World->Prop}
theorem BB(h:SQ w Z B b n cx d){x y:Nat}(lZ:x<=y)(hy:y<=n)(hn:n<=1000000)
 (hK:∀w',SQ w' Z B b n cx (Sort.insertionSort (Z.lt) d x y)->Kept (· =b) w w'->K (.tuple #[]) w'):
 bm prog gW.id #[.slice (some ⟨b,0,none⟩) n cx,.int .i64 (x:Int),.int .i64 (y:Int),CL Z.z (some ⟨Z.c,0,none⟩)] w K:=by
 refine bQ.of ?_;unfold bQ.W;rw [eK (n:=(x:Int)) (by omega) (by omega)];refine bQ.cf (I:=fun s v=>∃(i:Nat) (dk:Array HT),s=(i:Int)/\x<i/\i<=y+1/\SQ v Z B b n cx dk/\Sort.insOuter (Z.lt) x y i dk=Sort.insertionSort (Z.lt) d x y/\Kept (· =b) w v) (μ:=fun s _=>((y:Int)+1-s).toNat) (s:=(x:Int)+1) ⟨x+1,d,rfl,by omega,by omega,h,rfl,Kept.refl _ _⟩ ?_;rintro s v ⟨i,dk,rfl,Mm,Zi,hv,ho,kv⟩;refine Split.dec (fun cK=>?_) (fun iK=>?_)
 ·have cK:i<y:=by omega
  rw [Sort.insOuter,if_pos cK]at ho;refine bQ.iN (I:=fun s v=>∃(j:Nat) (dj:Array HT),s=(j:Int)/\j<=i/\SQ v Z B b n cx dj/\Sort.insInner (Z.lt) x j dj=Sort.insInner (Z.lt) x i dk/\Kept (· =b) w v) (μ:=fun s _=>s.toNat) (s:=(i:Int)) ⟨i,dk,rfl,Nat.le_refl _,hv,rfl,kv⟩ ?_;rintro s u ⟨j,dj,rfl,FQ,hu,gM,ku⟩;unfold bQ.B2;intro w3;have k3:Kept Nil u w3:=(Kept.refl _ _).drew;clear_value w3;have stop:∀ {u':World},SQ u' Z B b n cx dj->Kept (· =b) w u'->Sort.insInner (Z.lt) x j dj=dj->bQ.jY Z.z (some ⟨b,0,none⟩) n cx (x:Int) (y:Int) (some ⟨Z.c,0,none⟩) (i:Int) (j:Int) (bR (bQ.e1 Z.z (some ⟨b,0,none⟩) n cx (x:Int) (y:Int) (some ⟨Z.c,0,none⟩)) (fun s v=>∃(i:Nat) (dk:Array HT),s=(i:Int)/\x<i/\i<=y+1/\SQ v Z B b n cx dk/\Sort.insOuter (Z.lt) x y i dk=Sort.insertionSort (Z.lt) d x y/\Kept (· =b) w v) (fun s _=>((y:Int)+1-s).toNat) (i:Int) v (bQ.q1 K)) u':=fun GZ RD e=>by
   unfold bQ.jY;rw [eK (n:=(i:Int)) (by omega) (by omega)];exact⟨(i:Int)+1,rfl,⟨i+1,dj,rfl,by omega,by omega,GZ,by rw [<-ho,<-gM,e],RD⟩,by simp only;omega⟩
  have Ox:=hu.same k3;have NN:Kept (· =b) w w3:=ku.trans k3 (fun _ _ h=>h.elim);refine Split.dec (fun hjx=>?_) (fun hjx=>?_)
  ·have hj0:0<j:=by omega
   have ew:i64.wrap ((j:Int)-(1:Int))=((j-1:Nat):Int):=by
    rw [iI (by omega) (by omega)];omega
   rw [ew];have g1:=Ox.get (i:=j) (by omega);have g2:=Ox.get (i:=j-1) (by omega);refine⟨⟨by omega,by omega⟩,dj[j]!.1,⟨dj[j]!.2.1,by rw [Int.toNat_natCast];exact g1.2⟩,⟨by omega,by omega⟩,dj[j-1]!.1,⟨dj[j-1]!.2.1,by rw [Int.toNat_natCast];exact g2.2⟩,?_⟩;refine Z.cmp Ox.E g1.1 g2.1 fun r w4 k4 hr=>⟨_,rfl,?_⟩;have YI:=Ox.same k4;have NL:Kept (· =b) w w4:=NN.trans k4 (fun _ _ h=>h.elim);have ej:∃j',j=j'+1:=⟨j-1,by omega⟩;refine Split.dec (fun Va=>?_) (fun Vo=>?_)
   ·have PO:=hr.1 Va
    intro w5;have k5:Kept Nil w4 w5:=(Kept.refl _ _).drew;clear_value w5;have T8:=YI.same k5;have RC:Kept (· =b) w w5:=NL.trans k5 (fun _ _ h=>h.elim);have f1:=T8.get (i:=j) (by omega);have f2:=T8.get (i:=j-1) (by omega);obtain⟨⟨t1,t2⟩,t3,t4⟩:=T8.swap (i:=j) (j:=j-1) (by omega) (by omega);simp only [Int.toNat_natCast];refine⟨⟨by omega,by omega⟩,dj[j-1]!.1,⟨dj[j-1]!.2.1,f2.2⟩,⟨by omega,by omega⟩,dj[j]!.1,⟨dj[j]!.2.1,f1.2⟩,⟨by omega,by omega⟩,t1,⟨by omega,by omega⟩,t2,?_⟩;refine⟨((j-1:Nat):Int),rfl,⟨j-1,Sort.swp dj j (j-1),rfl,by omega,t3,?_,RC.tt t4⟩,by simp only;omega⟩;obtain⟨j',rfl⟩:=ej;rw [<-gM];show _=Sort.insInner (Z.lt) x (j'+1) dj
    rw [Sort.insInner,if_pos (by simp only [Bool.and_eq_true,decide_eq_true_eq];exact⟨by omega,PO⟩)];rfl
   ·rw [aY,bQ.lL]
    refine stop YI NL ?_;have PO:Z.lt dj[j]! dj[j-1]! =false:=by
     cases hg:Z.lt dj[j]! dj[j-1]!
     ·rfl
     ·exact absurd (hr.2 hg) Vo
    obtain⟨j',rfl⟩:=ej;rw [Sort.insInner,if_neg (by simp only [Bool.and_eq_true,decide_eq_true_eq];intro e;have:=e.2;rw [show j'+1-1=j' from rfl]at PO;rw [PO]at this;cases this)]
  ·rw [aY,bQ.lL]
   refine stop Ox NN ?_;cases j with
   |zero=>rfl
   |succ j'=>rw [Sort.insInner,if_neg (by simp only [Bool.and_eq_true,decide_eq_true_eq];intro e;have:=e.1;omega)]
 ·rw [aY,bQ.dB]
  unfold bQ.cX;rw [Sort.insOuter,if_neg (by omega)]at ho;rw [ho]at hv;exact hK v hv kv
end
theorem wN{x:Int}{i:Nat}(h:x=(i:Int))(hi:i<4000000):i64.wrap x=(i:Int):=by rw [iI (by omega) (by omega),h]
section
variable{w w':World}{B b n cx:Nat}{d:Array HT}{Z:F8}{K:Value->World->Prop}
theorem Bt(h:SQ w Z B b n cx d){x y:Nat}(lZ:x<y)(hy:y<=n)(hn:n<=1000000)
 (hK:∀d' w',SQ w' Z B b n cx d'->Sort.PermIn x y d d'->Kept (· =b) w w'->K (.tuple #[]) w'):
 bm prog gZ.id #[.slice (some ⟨b,0,none⟩) n cx,.int .i64 (x:Int),.int .i64 (y:Int),CL Z.z (some ⟨Z.c,0,none⟩)] w K:=by
 refine dC.of ?_;unfold dC.W;rw [wN (i:=y-1) (by omega) (by omega)];refine dC.cf (I:=fun s v=>∃(i j:Nat) (dk:Array HT),s=((i:Int),(j:Int))/\x<=i/\j<y/\SQ v Z B b n cx dk/\Sort.PermIn x y d dk/\Kept (· =b) w v) (μ:=fun s _=>(s.2+1-s.1).toNat) (s:=((x:Int),((y-1:Nat):Int))) ⟨x,y-1,d,rfl,Nat.le_refl _,by omega,h,Sort.permIn_refl _ _ _,Kept.refl _ _⟩ ?_;rintro s v ⟨i,j,dk,rfl,hi,hj,hv,hp,kv⟩;unfold dC.B1;refine Split.dec (fun cK=>?_) (fun iK=>?_)
 ·simp only at cK
  have cK:i<j:=by omega
  intro w3;have k3:Kept Nil v w3:=(Kept.refl _ _).drew;clear_value w3;have h3:=hv.same k3;have hs:=SR.size h3.row;obtain⟨⟨a1,a2,a3,a4,a5,a6⟩,h5,k5⟩:=h3.sw (x:=(i:Int)) (y:=(j:Int)) rfl rfl (by omega) (by omega);refine⟨a1,_,a2,a3,_,a4,a3,a5,a1,a6,?_⟩;simp only;rw [wN (x:=(i:Int)+1) (i:=i+1) (by omega) (by omega),wN (x:=(j:Int)-1) (i:=j-1) (by omega) (by omega)];refine⟨(((i+1:Nat):Int),((j-1:Nat):Int)),rfl,⟨i+1,j-1,_,rfl,by omega,by omega,h5,?_,(kv.trans k3 (fun _ _ h=>h.elim)).tt k5⟩,by simp only;omega⟩;exact Sort.permIn_trans _ _ _ x y hp (Sort.swp_permIn dk x y i j hi (by omega) (by omega) (by omega) (by omega))
 ·rw [aY,dC.dB]
  exact hK dk v hv hp kv
def Jk(w:World)(q:Nat):Prop:=∃(u:Int) (t:TypeId),w.heap[q]? =some (.cells #[.int .i64 u] t (0,0))
theorem Jk.aK{S:Nat->Prop}{q:Nat}(h:Jk w q)(hk:Kept S w w')(hS:¬S q):Jk w' q:=by
 obtain⟨u,t,h⟩:=h;exact⟨u,t,hk.heap h hS⟩
theorem qf(h:SQ w Z B b n cx d){x y q:Nat}(hx:x<n)(hy:y<n)(hq:Jk w q)(kV:True/\¬Z.U q/\q≠b)
 (hK:∀(x' y':Nat) w',((x'=x/\y'=y)\/(x'=y/\y'=x))->SQ w' Z B b n cx d->Jk w' q->Kept (· =q) w w'->K (.tuple #[.int .i64 (x':Int),.int .i64 (y':Int)]) w'):
 bm prog jl.id #[.slice (some ⟨b,0,none⟩) n cx,.int .i64 (x:Int),.int .i64 (y:Int),.pointer (some ⟨q,0,none⟩),CL Z.z (some ⟨Z.c,0,none⟩)] w K:=by
 refine qg.of ?_;unfold qg.W;intro w3;have k3:Kept Nil w w3:=(Kept.refl _ _).drew;clear_value w3;refine(h.same k3).cmp (i:=y) (j:=x) rfl rfl hy hx fun r w4 h4 k4 _=>?_;obtain⟨u,t,h0⟩:=(hq.aK k3 (fun h=>h)).aK k4 (fun h=>h);have lj:=k3.tt k4;refine Split.dec (fun _=>?_) (fun _=>hK x y w4 (.inl ⟨rfl,rfl⟩) h4 ⟨u,t,h0⟩ (lj.mono fun _ _ h=>h.elim));refine Is.mk rfl ⟨u,by rw [aD h0];rfl,Is.mk rfl ⟨dL h0 (by simp),?_⟩⟩;intro w5;have e5:w5.heap[q]? =some (.cells #[.int .i64 (i64.wrap (u+1))] t (0,0)):=by
  show(w4.setCell ⟨q,0,none⟩ _).heap[q]? =_;rw [cY h0 0];rfl
 have k5:Kept (· =q) w4 w5:=Kept.setCell (S:=(· =q)) (Kept.refl _ w4) (p:=⟨q,0,none⟩) (fun _=>rfl) _;clear_value w5;exact hK y x w5 (.inr ⟨rfl,rfl⟩) (h4.kV k5 kV) ⟨_,_,e5⟩ ((lj.mono fun _ _ h=>h.elim).tt k5)
theorem BA(h:SQ w Z B b n cx d){x y z q:Nat}{p:Nat->Prop}(hx:p x)(hy:p y)(hz:p z)(hp:∀i,p i->i<n)(hq:Jk w q)(kV:True/\¬Z.U q/\q≠b)
 (hK:∀(r:Nat) w',p r->SQ w' Z B b n cx d->Jk w' q->Kept (· =q) w w'->K (.int .i64 (r:Int)) w'):
 bm prog jm.id #[.slice (some ⟨b,0,none⟩) n cx,.int .i64 (x:Int),.int .i64 (y:Int),.int .i64 (z:Int),.pointer (some ⟨q,0,none⟩),CL Z.z (some ⟨Z.c,0,none⟩)] w K:=by
 refine qh.of ?_;unfold qh.W;have two:∀ {x y x' y':Nat},p x->p y->((x'=x/\y'=y)\/(x'=y/\y'=x))->p x'/\p y':=fun hx hy e=>by
  rcases e with⟨rfl,rfl⟩|⟨rfl,rfl⟩
  ·exact⟨hx,hy⟩
  ·exact⟨hy,hx⟩
 refine qf h (hp _ hx) (hp _ hy) hq kV fun x1 y1 w1 e1 h1 c1 k1=>⟨_,_,rfl,?_⟩;obtain⟨XQ,XO⟩:=two hx hy e1;refine qf h1 (hp _ XO) (hp _ hz) c1 kV fun x2 y2 w2 e2 h2 c2 k2=>⟨_,_,rfl,?_⟩;obtain⟨XP,_⟩:=two XO hz e2;refine qf h2 (hp _ XQ) (hp _ XP) c2 kV fun x3 y3 w3 e3 h3 c3 k3=>⟨_,_,rfl,?_⟩;exact hK y3 w3 (two XQ XP e3).2 h3 c3 ((k1.tt k2).tt k3)
theorem Bu(h:SQ w Z B b n cx d){x y:Nat}(lZ:x+12<y)(hy:y<=n)(hn:n<50)
 (hK:∀(r:Nat) (t:Int) w',x<=r->r<y->SQ w' Z B b n cx d->Kept Nil w w'->K (.tuple #[.int .i64 (r:Int),.int .i64 t]) w'):
 bm prog iC.id #[.slice (some ⟨b,0,none⟩) n cx,.int .i64 (x:Int),.int .i64 (y:Int),CL Z.z (some ⟨Z.c,0,none⟩)] w K:=by
 refine qd.of ?_;unfold qd.W;intro w3;have k3:Kept Nil w w3:=(Kept.refl _ _).alloc _;have hc:Jk w3 w.heap.size:=⟨_,_,aR w _⟩;clear_value w3;have e4:∀L:Nat,((L:Nat):Int).tdiv 4=((L/4:Nat):Int):=fun _=>rfl;have f4:(y-x)/4<=20:=by omega
 have g4:(y-x)/4*3+x<y:=by omega
 rw [wN (x:=(y:Int)-x) (i:=y-x) (by omega) (by omega),e4];generalize (y-x)/4=q at f4 g4;rw [wN (x:=((q:Nat):Int)) (i:=q) rfl (by omega),wN (x:=((q:Nat):Int)*1) (i:=q) (by omega) (by omega),wN (x:=((q:Nat):Int)*2) (i:=q*2) (by omega) (by omega),wN (x:=((q:Nat):Int)*3) (i:=q*3) (by omega) (by omega),
  wN (x:=(x:Int)+((q:Nat):Int)) (i:=x+q) (by omega) (by omega),wN (x:=(x:Int)+((q*2:Nat):Int)) (i:=x+q*2) (by omega) (by omega),wN (x:=(x:Int)+((q*3:Nat):Int)) (i:=x+q*3) (by omega) (by omega)]
 refine⟨by decide,by decide,by decide,Split.yes (decide_eq_true (by omega)) (Split.no (decide_eq_false (by omega)) ?_)⟩;have hf:=h.fresh (Nat.le_refl _);refine BA (h.same k3) (p:=fun i=>x<=i/\i<y) ⟨by omega,by omega⟩ ⟨by omega,by omega⟩ ⟨by omega,by omega⟩ (fun i hi=>by omega) hc hf fun r w4 hr h4 c4 k4=>⟨_,rfl,?_⟩;obtain⟨u,t,h0⟩:=c4;have lj:Kept Nil w w4:=k3.trans k4 (fun j hj e=>by omega);refine⟨u,by rw [aD h0];rfl,Split.mk (fun _=>hK r _ w4 hr.1 hr.2 h4 lj) fun _=>Split.mk (fun _=>hK r _ w4 hr.1 hr.2 h4 lj) fun _=>hK r _ w4 hr.1 hr.2 h4 lj⟩
end
theorem CC(x M:Nat)(hM0:1<=M)(hM:M<4000000):∃O:Nat,O<M/\i64.wrap (u64.wrap (((BitVec.ofInt 64 (x:Int)&&& BitVec.ofInt 64 (u64.wrap ((M:Int)-(1:Int)))).toNat:Nat):Int))=(O:Int):=by
 have e1:u64.wrap ((M:Int)-(1:Int))=((M-1:Nat):Int):=by
  rw [show(M:Int)-1=((M-1:Nat):Int)by omega];exact jD (by omega)
 rw [e1];have hle:(BitVec.ofInt 64 (x:Int)&&& BitVec.ofInt 64 ((M-1:Nat):Int)).toNat<=M-1:=by
  rw [BitVec.toNat_and,BitVec.ofInt_natCast (n:=M-1),BitVec.toNat_ofNat,Nat.mod_eq_of_lt (a:=M-1) (by omega)];exact Nat.and_le_right
 generalize (BitVec.ofInt 64 (x:Int)&&& BitVec.ofInt 64 ((M-1:Nat):Int)).toNat=O at hle;exact⟨O,by omega,by rw [jD (by omega)];exact iI (by omega) (by omega)⟩
section
variable{w w':World}{B b n cx:Nat}{d:Array HT}{Z:F8}{K:Value->World->Prop}
theorem Bs{q X:Nat}{t:TypeId}(hX:X<18446744073709551616)(hq:w.heap[q]? =some (.cells #[.int .u64 (X:Int)] t (0,0)))
 (hK:∀(X':Nat) w',X'<18446744073709551616->w'.heap[q]? =some (.cells #[.int .u64 (X':Int)] t (0,0))->Kept (· =q) w w'->K (.int .u64 (X':Int)) w'):
 bm prog nu.id #[.pointer (some ⟨q,0,none⟩)] w K:=by
 have h:=AnyF.xorshift_Next (P:=prog) (ρ:=Tryz.nZ) {Tryz.uy with} q 0 X hX w (by rw [aD hq];rfl) (dL hq (by simp)).2;refine Calls.mono h ?_;rintro e w' ⟨rfl,rfl⟩;refine⟨_,rfl,hK _ _ (Sort.xorNextN_lt X hX) ?_ ?_⟩
 ·show(w.setCell ⟨q,0,none⟩ _).heap[q]? =_
  rw [cY hq 0];rfl
 ·exact(((Kept.setCell (S:=(· =q)) (Kept.refl _ w) (p:=⟨q,0,none⟩) (fun _=>rfl) _).drew).drew).drew
theorem BC(h:SQ w Z B b n cx d){x y:Nat}(lZ:x+12<y)(hy:y<=n)(hn:n<=1000000)
 (hK:∀d' w',SQ w' Z B b n cx d'->Sort.PermIn x y d d'->Kept (· =b) w w'->K (.tuple #[]) w'):
 bm prog gX.id #[.slice (some ⟨b,0,none⟩) n cx,.int .i64 (x:Int),.int .i64 (y:Int),CL Z.z (some ⟨Z.c,0,none⟩)] w K:=by
 refine dD.of ?_;unfold dD.W;have e4:∀L:Nat,((L:Nat):Int).tdiv 4=((L/4:Nat):Int):=fun _=>rfl;obtain⟨L,hL,g12⟩:∃L:Nat,y=x+L/\12<L:=⟨y-x,by omega,by omega⟩;subst hL;rw [wN (x:=((x+L:Nat):Int)-(x:Int)) (i:=L) (by omega) (by omega)];refine Split.yes (decide_eq_true (by omega)) ?_;intro w3;have k3:Kept Nil w w3:=(Kept.refl _ _).alloc _;obtain⟨tx,o5⟩:∃t:TypeId,w3.heap[w.heap.size]? =some (.cells #[.int .u64 0] t (0,0)):=⟨_,aR w _⟩;clear_value w3;refine⟨dL o5 (by simp),?_⟩;intro w4;have AO:w4.heap[w.heap.size]? =some (.cells #[.int .u64 ((L:Nat):Int)] tx (0,0)):=by
  show(w3.setCell ⟨w.heap.size,0,none⟩ _).heap[w.heap.size]? =_;rw [cY o5 0,jD (by omega)];rfl
 have k4:Kept (· =w.heap.size) w3 w4:=Kept.setCell (S:=(· =w.heap.size)) (Kept.refl _ w3) (p:=⟨w.heap.size,0,none⟩) (fun _=>rfl) _;clear_value w4;have lj:Kept Nil w w4:=k3.trans k4 (fun j hj e=>by omega);have hf:=h.fresh (Nat.le_refl _);have h4:=h.same lj;refine Calls.mono (AnyF.nextPowerOfTwo (P:=prog) (ρ:=Tryz.nZ) {Tryz.uy with} L (by omega) w4) ?_;rintro e w5 ⟨rfl,rfl⟩;have hM:=Sort.two_pow_bitsLen_le (n:=L) (by omega);have ZM:1<=2 ^ Sort.bitsLen L:=Nat.two_pow_pos _;rw [Nat.one_shiftLeft];generalize 2 ^ Sort.bitsLen L=M at hM ZM;have g4:1<=L/4/\L/4*2+1<L:=by omega
 refine⟨_,rfl,(M:Int),rfl,by decide,?_⟩;have ei:∀t:Nat,t<=1->True:=fun _ _=>trivial;rw [e4,wN (x:=((L/4:Nat):Int)) (i:=L/4) rfl (by omega),wN (x:=((L/4:Nat):Int)*2) (i:=L/4*2) (by omega) (by omega),wN (x:=(x:Int)+((L/4*2:Nat):Int)) (i:=x+L/4*2) (by omega) (by omega),wN (x:=((x+L/4*2:Nat):Int)-1) (i:=x+L/4*2-1) (by omega) (by omega)];refine dD.cf (I:=fun s v=>∃(i X:Nat) (dk:Array HT),s=(i:Int)/\x<=i/\i<=x+L/4*2+2/\X<18446744073709551616/\v.heap[w.heap.size]? =some (.cells #[.int .u64 (X:Int)] tx (0,0))/\SQ v Z B b n cx dk/\Sort.PermIn x (x+L) d dk/\Kept (· =b) w v) (μ:=fun s _=>(((x+L/4*2+2:Nat):Int)-s).toNat) (s:=((x+L/4*2-1:Nat):Int)) ⟨x+L/4*2-1,L,d,rfl,by omega,by omega,by omega,AO,h4,Sort.permIn_refl _ _ _,lj.mono fun _ _ h=>h.elim⟩ ?_;rintro s v ⟨i,X,dk,rfl,hi,EE,hX,EM,hv,hp,kv⟩;unfold dD.B1;rw [e4,wN (x:=((L/4:Nat):Int)) (i:=L/4) rfl (by omega),wN (x:=((L/4:Nat):Int)*2) (i:=L/4*2) (by omega) (by omega),wN (x:=(x:Int)+((L/4*2:Nat):Int)) (i:=x+L/4*2) (by omega) (by omega),wN (x:=((x+L/4*2:Nat):Int)+1) (i:=x+L/4*2+1) (by omega) (by omega)];refine⟨by decide,Split.dec (fun hle=>?_) (fun iK=>?_)⟩
 ·have fg:i<=x+L/4*2+1:=by omega
  refine Bs hX EM fun X' w6 hX' pQ k6=>⟨(X':Int),rfl,?_⟩;obtain⟨O,hO,eO⟩:=CC X' M ZM (by omega);rw [eO];have h6:=hv.kV k6 hf;have fin:∀(j:Nat),j<L->∀ {u:World},Kept Nil w6 u->_:=fun j hj {u} ku=>(h6.same ku).sw (x:=(i:Int)) (y:=((x+j:Nat):Int)) (i:=i) (j:=x+j) rfl rfl (by omega) (by omega);have XW:∀ {j:Nat} {u t:World},j<L->Kept Nil w6 u->SQ t Z B b n cx (Sort.swp dk i (x+j))->Kept (· =b) u t->∃s1:Int,i64.wrap ((i:Int)+1)=s1/\(∃(i X:Nat) (dk:Array HT),s1=(i:Int)/\x<=i/\i<=x+L/4*2+2/\X<18446744073709551616/\t.heap[w.heap.size]? =some (.cells #[.int .u64 (X:Int)] tx (0,0))/\SQ t Z B b n cx dk/\Sort.PermIn x (x+L) d dk/\Kept (· =b) w t)/\(((x+L/4*2+2:Nat):Int)-s1).toNat<(((x+L/4*2+2:Nat):Int)-(i:Int)).toNat:=fun {j u t} hj ku ht kt=>by
   rw [wN (x:=(i:Int)+1) (i:=i+1) (by omega) (by omega)];have nN:=SR.size hv.row;exact⟨_,rfl,⟨i+1,X',_,rfl,by omega,by omega,hX',kt.heap (ku.heap pQ (fun h=>h)) hf.2.2,ht,Sort.permIn_trans _ _ _ x (x+L) hp (Sort.swp_permIn dk x (x+L) i (x+j) hi (by omega) (by omega) (by omega) (by omega)),(((kv.trans k6 (fun j hj e=>by omega)).trans ku (fun _ _ h=>h.elim)).tt kt)⟩,by omega⟩
  refine Split.dec (fun hOL=>?_) (fun hOL=>?_)
  ·rw [wN (x:=(O:Int)-(L:Int)) (i:=O-L) (by omega) (by omega),wN (x:=(x:Int)+((O-L:Nat):Int)) (i:=x+(O-L)) (by omega) (by omega)]
   intro w7;have k7:Kept Nil w6 w7:=(Kept.refl _ _).drew;clear_value w7;obtain⟨⟨a1,a2,a3,a4,a5,a6⟩,h5,k5⟩:=fin (O-L) (by omega) k7;refine⟨a1,_,a2,a3,_,a4,a3,a5,a1,a6,?_⟩;obtain⟨s1,e1,e2,e3⟩:=XW (by omega) k7 h5 k5;simp only;rw [e1];exact⟨s1,rfl,e2,e3⟩
  ·rw [wN (x:=(x:Int)+(O:Int)) (i:=x+O) (by omega) (by omega)]
   intro w7;have k7:Kept Nil w6 w7:=(Kept.refl _ _).drew;clear_value w7;obtain⟨⟨a1,a2,a3,a4,a5,a6⟩,h5,k5⟩:=fin O (by omega) k7;refine⟨a1,_,a2,a3,_,a4,a3,a5,a1,a6,?_⟩;obtain⟨s1,e1,e2,e3⟩:=XW (by omega) k7 h5 k5;simp only;rw [e1];exact⟨s1,rfl,e2,e3⟩
 ·rw [aY,dD.dB]
  exact hK dk v hv hp kv
theorem yq{d:Array HT}{x y:Nat}(h:∀t,x<t->t<y->Z.lt d[t]! d[t-1]! =false):Sort.SortedIn (Z.lt) x y d:=by
 have key:∀(r i:Nat),x<=i->i+r+1<y->Z.lt d[i+r+1]! d[i]! =false:=by
  intro r
  induction r with
  |zero=>intro i hi hy;exact h (i+1) (by omega) hy
  |succ r ih=>
   intro i hi hy;have h1:=h (i+(r+1)+1) (by omega) hy;have h2:=ih i hi (by omega);exact Z.swo.ntrans _ _ _ h1 h2
 intro i j hi pP hj;have:=key (j-i-1) i hi (by omega)
 rwa [show i+(j-i-1)+1=j by omega]at this
theorem Bw(h:SQ w Z B b n cx d){x y:Nat}(lZ:x<y)(hy:y<=n)(hn:n<50)
 (hK:∀(t:Bool) w',(t=true->Sort.SortedIn (Z.lt) x y d)->SQ w' Z B b n cx d->Kept Nil w w'->K (.bool t) w'):
 bm prog fT.id #[.slice (some ⟨b,0,none⟩) n cx,.int .i64 (x:Int),.int .i64 (y:Int),CL Z.z (some ⟨Z.c,0,none⟩)] w K:=by
 refine bw.of ?_;unfold bw.W;rw [wN (x:=(x:Int)+1) (i:=x+1) (by omega) (by omega)];refine bw.cf (I:=fun s v=>s=(false,((x+1:Nat):Int),0)/\v=w) (μ:=fun _ _=>0) (s:=(false,((x+1:Nat):Int),0)) ⟨rfl,rfl⟩ ?_;rintro s v ⟨rfl,rfl⟩;unfold bw.B1;refine Split.yes (decide_eq_true (by simp only;omega)) ?_;refine bw.iN (I:=fun s u=>∃i:Nat,s=(i:Int)/\x<i/\i<=y/\(∀t,x<t->t<i->Z.lt d[t]! d[t-1]! =false)/\SQ u Z B b n cx d/\Kept Nil v u) (μ:=fun s _=>((y:Int)-s).toNat) (s:=((x+1:Nat):Int)) ⟨x+1,rfl,by omega,by omega,fun t h1 h2=>by omega,h,Kept.refl _ _⟩ ?_;rintro s u ⟨i,rfl,Mm,Zi,I7,hu,ku⟩;unfold bw.B2;intro w3;have k3:Kept Nil u w3:=(Kept.refl _ _).drew;clear_value w3;have h3:=hu.same k3;have km:=ku.tt k3;have stop:∀ {t:World},SQ t Z B b n cx d->Kept Nil v t->(i=y->Sort.SortedIn (Z.lt) x y d)->bw.jY Z.z (some ⟨b,0,none⟩) n cx (x:Int) (y:Int) (some ⟨Z.c,0,none⟩) false (i:Int) 0 (bR (bw.e1 Z.z (some ⟨b,0,none⟩) n cx (x:Int) (y:Int) (some ⟨Z.c,0,none⟩)) (fun s v_1=>s=(false,((x+1:Nat):Int),0)/\v_1=v) (fun _ _=>0) (false,((x+1:Nat):Int),0) v (bw.q1 K)) t:=fun {t} ht kt hs=>by
  unfold bw.jY;by_cases he:i=y
  ·refine Split.yes (by rw [he];exact beq_self_eq_true _) ?_
   rw [gH];exact hK true t (fun _=>hs he) ht kt
  ·refine Split.no (beq_eq_false_iff_ne.2 (by omega)) ?_
   rw [wN (x:=(y:Int)-(x:Int)) (i:=y-x) (by omega) (by omega)];refine Split.yes (decide_eq_true (by omega)) ?_;rw [gH];exact hK false t (fun e=>by cases e) ht kt
 refine Split.dec (fun cK=>?_) (fun iK=>?_)
 ·have cK:i<y:=by omega
  rw [wN (x:=(i:Int)-1) (i:=i-1) (by omega) (by omega)];refine h3.cmp (i:=i) (j:=i-1) rfl rfl (by omega) (by omega) fun r w4 h4 k4 hr=>?_;have lj:=km.tt k4;by_cases rz:r<0
  ·refine Split.no (by rw [decide_eq_true rz];rfl) ?_
   rw [aY,bw.lL];exact stop h4 lj (fun e=>absurd e (by omega))
  ·refine Split.yes (by rw [decide_eq_false rz];rfl) ?_
   rw [wN (x:=(i:Int)+1) (i:=i+1) (by omega) (by omega)];refine⟨((i+1:Nat):Int),rfl,⟨i+1,rfl,by omega,by omega,fun t h1 h2=>?_,h4,lj⟩,by simp only;omega⟩;rcases Nat.lt_or_ge t i with h5|h5
   ·exact I7 t h1 h5
   ·obtain rfl:t=i:=by omega
    cases hg:Z.lt d[t]! d[t-1]!
    ·rfl
    ·exact absurd (hr.2 hg) rz
 ·rw [aY,bw.lL]
  exact stop h3 km (fun e=>yq (by subst e;exact I7))
end
section
variable{w w':World}{B b n cx:Nat}{d:Array HT}{Z:F8}{K:Value->World->Prop}
theorem rZ(h:SQ w Z B b n cx d){x y z:Nat}(Ml:z+y<=n)(lZ:x<=y)(hn:n<=1000000){lo:Int}
 (hK:∀w',SQ w' Z B b n cx (Sort.siftDown (Z.lt) y z x d)->Kept (· =b) w w'->K (.tuple #[]) w'):
 bm prog iS.id #[.slice (some ⟨b,0,none⟩) n cx,.int .i64 (x:Int),.int .i64 (y:Int),.int .i64 (z:Int),CL Z.z (some ⟨Z.c,0,none⟩)] w K:=by
 refine bF.of ?_;unfold bF.W;refine bF.cf (I:=fun s v=>∃(r:Nat) (dk:Array HT),s=(r:Int)/\r<=y/\SQ v Z B b n cx dk/\Sort.siftDown (Z.lt) y z r dk=Sort.siftDown (Z.lt) y z x d/\Kept (· =b) w v) (μ:=fun s _=>((y:Int)-s).toNat) (s:=(x:Int)) ⟨x,d,rfl,lZ,h,rfl,Kept.refl _ _⟩ ?_;rintro s v ⟨r,dk,rfl,hr,hv,hs,kv⟩;unfold bF.B1;rw [wN (x:=2*(r:Int)) (i:=2*r) (by omega) (by omega),wN (x:=((2*r:Nat):Int)+1) (i:=2*r+1) (by omega) (by omega)];refine Split.dec (fun iK=>?_) (fun cK=>?_)
 ·rw [aY,bF.dB]
  rw [Sort.siftDown,dif_pos (show 2*r+1>=y by omega)]at hs;rw [hs]at hv;exact hK v hv kv
 have mR:2*r+1<y:=by omega
 rw [Sort.siftDown,dif_neg (by omega)]at hs;have fin:∀(ch:Nat) {u:World},r<ch->ch<y->SQ u Z B b n cx dk->Kept Nil v u->(if(!Z.lt dk[z+r]! dk[z+ch]!)=true then dk else Sort.siftDown (Z.lt) y z ch (Sort.swp dk (z+r) (z+ch)))=Sort.siftDown (Z.lt) y z x d->
  bF.J1 Z.z (some ⟨b,0,none⟩) n cx (y:Int) (z:Int) (some ⟨Z.c,0,none⟩) (r:Int) (ch:Int) (bR (bF.e1 Z.z (some ⟨b,0,none⟩) n cx (y:Int) (z:Int) (some ⟨Z.c,0,none⟩)) (fun s v=>∃(r:Nat) (dk:Array HT),s=(r:Int)/\r<=y/\SQ v Z B b n cx dk/\Sort.siftDown (Z.lt) y z r dk=Sort.siftDown (Z.lt) y z x d/\Kept (· =b) w v) (fun s _=>((y:Int)-s).toNat) (r:Int) v (bF.q1 K)) u:=fun ch {u} h1 h2 hu ku he=>by
  unfold bF.J1;rw [wN (x:=(z:Int)+(r:Int)) (i:=z+r) (by omega) (by omega),wN (x:=(z:Int)+(ch:Int)) (i:=z+ch) (by omega) (by omega)];intro w3;have k3:Kept Nil u w3:=(Kept.refl _ _).drew;clear_value w3;refine(hu.same k3).cmp (i:=z+r) (j:=z+ch) rfl rfl (by omega) (by omega) fun t w4 h4 k4 ht=>?_;have DX:=kv.trans ((ku.tt k3).tt k4) (fun _ _ h=>h.elim);by_cases Ix:t<0
  ·refine Split.no (by rw [decide_eq_true Ix];rfl) (bF.Eg ?_)
   rw [if_neg (by rw [ht.1 Ix];decide)]at he;unfold bF.J2;rw [wN (x:=(z:Int)+(r:Int)) (i:=z+r) (by omega) (by omega),wN (x:=(z:Int)+(ch:Int)) (i:=z+ch) (by omega) (by omega)];intro w5;have k5:Kept Nil w4 w5:=(Kept.refl _ _).drew;clear_value w5;obtain⟨⟨a1,a2,a3,a4,a5,a6⟩,h6,k6⟩:=(h4.same k5).sw (x:=((z+r:Nat):Int)) (y:=((z+ch:Nat):Int)) rfl rfl (by omega) (by omega);refine⟨a1,_,a2,a3,_,a4,a3,a5,a1,a6,?_⟩;exact⟨(ch:Int),rfl,⟨ch,_,rfl,by omega,h6,he,(DX.trans k5 (fun _ _ h=>h.elim)).tt k6⟩,by simp only;omega⟩
  ·refine Split.yes (by rw [decide_eq_false Ix];rfl) ?_
   rw [gH];rw [if_pos (by cases hg:Z.lt dk[z+r]! dk[z+ch]!;rfl;exact absurd (ht.2 hg) Ix)]at he;rw [he]at h4;exact hK w4 h4 DX
 intro w3;have k3:Kept Nil v w3:=(Kept.refl _ _).drew;clear_value w3;have h3:=hv.same k3;rw [wN (x:=((2*r+1:Nat):Int)+1) (i:=2*r+2) (by omega) (by omega)];refine Split.dec (fun acK=>?_) (fun ac9=>?_)
 ·have zh:2*r+2<y:=by omega
  rw [wN (x:=(z:Int)+((2*r+1:Nat):Int)) (i:=z+(2*r+1)) (by omega) (by omega),wN (x:=((z+(2*r+1):Nat):Int)+1) (i:=z+(2*r+1)+1) (by omega) (by omega)];refine h3.cmp (i:=z+(2*r+1)) (j:=z+(2*r+1)+1) rfl rfl (by omega) (by omega) fun t w4 h4 k4 ht=>?_;have xX:=k3.tt k4;refine Split.dec (fun Ix=>bF.lx ?_) (fun Ix=>bF.lx ?_)
  ·rw [if_pos (by rw [ht.1 Ix];simp only [Bool.and_true,decide_eq_true_eq];omega),dif_pos zh]at hs
   exact fin (2*r+2) (by omega) zh h4 xX hs
  ·rw [if_neg (by simp only [Bool.and_eq_true,decide_eq_true_eq];intro e;exact Ix (ht.2 e.2))]at hs
   exact fin (2*r+1) (by omega) mR h4 xX hs
 ·refine bF.lx ?_
  rw [if_neg (by simp only [Bool.and_eq_true,decide_eq_true_eq];intro e;omega)]at hs;exact fin (2*r+1) (by omega) mR h3 k3 hs
theorem yr(h:SQ w Z B b n cx d){x y:Nat}(lZ:x+1<y)(hy:y<=n)(hn:n<=1000000)
 (hK:∀w',SQ w' Z B b n cx (Sort.heapSort (Z.lt) d x y)->Kept (· =b) w w'->K (.tuple #[]) w'):
 bm prog iT.id #[.slice (some ⟨b,0,none⟩) n cx,.int .i64 (x:Int),.int .i64 (y:Int),CL Z.z (some ⟨Z.c,0,none⟩)] w K:=by
 refine bM.of ?_;unfold bM.W;have e2:∀L:Nat,((L:Nat):Int).tdiv 2=((L/2:Nat):Int):=fun _=>rfl;obtain⟨L,hL,g12⟩:∃L:Nat,y=x+L/\1<L:=⟨y-x,by omega,by omega⟩;subst hL;rw [wN (x:=((x+L:Nat):Int)-(x:Int)) (i:=L) (by omega) (by omega),wN (x:=(L:Int)-1) (i:=L-1) (by omega) (by omega),e2,wN (x:=(((L-1)/2:Nat):Int)) (i:=(L-1)/2) rfl (by omega)];refine⟨by decide,?_⟩;have hh:Sort.heapSort (Z.lt) d x (x+L)=Sort.heapPop (Z.lt) x L (Sort.heapBuild (Z.lt) L x ((L-1)/2+1) d):=by
  unfold Sort.heapSort;rw [show x+L-x=L by omega]
 rw [hh]at hK;refine bM.cf (I:=fun s v=>∃(t:Nat) (dk:Array HT),s=(t:Int)-1/\t<=L/\SQ v Z B b n cx dk/\Sort.heapBuild (Z.lt) L x t dk=Sort.heapBuild (Z.lt) L x ((L-1)/2+1) d/\Kept (· =b) w v) (μ:=fun s _=>(s+1).toNat) (s:=(((L-1)/2:Nat):Int)) ⟨(L-1)/2+1,d,by omega,by omega,h,rfl,Kept.refl _ _⟩ ?_;rintro s v ⟨t,dk,rfl,ht,hv,he,kv⟩;unfold bM.B1;refine Split.dec (fun iK=>?_) (fun cK=>?_)
 ·obtain⟨t',rfl⟩:∃t',t=t'+1:=⟨t-1,by omega⟩
  have e1:((t'+1:Nat):Int)-1=(t':Int):=by omega
  rw [e1];refine rZ (x:=t') (y:=L) (z:=x) (lo:=0) hv (by omega) (by omega) hn fun w4 h4 k4=>⟨rfl,?_⟩;rw [iI (x:=(t':Int)-1) (by omega) (by omega)];exact⟨(t':Int)-1,rfl,⟨t',_,rfl,by omega,h4,he,kv.tt k4⟩,by simp only;omega⟩
 ·obtain rfl:t=0:=by omega
  rw [aY,bM.dB];unfold bM.cX
  replace he:dk=_:=he
  rw [<-he]at hK;rw [wN (x:=(L:Int)-1) (i:=L-1) (by omega) (by omega)];refine bM.iN (I:=fun s u=>∃(t:Nat) (dj:Array HT),s=(t:Int)-1/\t<=L/\SQ u Z B b n cx dj/\Sort.heapPop (Z.lt) x t dj=Sort.heapPop (Z.lt) x L dk/\Kept (· =b) w u) (μ:=fun s _=>(s+1).toNat) (s:=((L-1:Nat):Int)) ⟨L,dk,by omega,by omega,hv,rfl,kv⟩ ?_;rintro s u ⟨t,dj,rfl,ht,hu,MB,ku⟩;unfold bM.B2;refine Split.dec (fun iK=>?_) (fun cK=>?_)
  ·obtain⟨t',rfl⟩:∃t',t=t'+1:=⟨t-1,by omega⟩
   have e1:((t'+1:Nat):Int)-1=(t':Int):=by omega
   rw [e1,wN (x:=(x:Int)+(t':Int)) (i:=x+t') (by omega) (by omega)];intro w5;have k5:Kept Nil u w5:=(Kept.refl _ _).drew;clear_value w5;obtain⟨⟨a1,a2,a3,a4,a5,a6⟩,h6,k6⟩:=(hu.same k5).sw (x:=(x:Int)) (y:=((x+t':Nat):Int)) rfl rfl (by omega) (by omega);refine⟨a1,_,a2,a3,_,a4,a3,a5,a1,a6,?_⟩;have ku6:=(ku.trans k5 (fun _ _ h=>h.elim)).tt k6;refine rZ (x:=0) (y:=t') (z:=x) (lo:=0) h6 (by omega) (by omega) hn fun w7 h7 k7=>⟨rfl,?_⟩;rw [iI (x:=(t':Int)-1) (by omega) (by omega)];exact⟨(t':Int)-1,rfl,⟨t',_,rfl,by omega,h7,MB,ku6.tt k7⟩,by simp only;omega⟩
  ·obtain rfl:t=0:=by omega
   rw [aY,bM.lL]
   replace MB:dj=_:=MB
   rw [<-MB]at hK;exact hK u hu ku
end
section
variable{w w':World}{B b n cx:Nat}{d:Array HT}{Z:F8}{K:Value->World->Prop}
abbrev FA(lt:HT->HT->Bool)(d:Array HT)(x:Nat):HT->Bool:=fun z=>lt z d[x]!
abbrev FZ(lt:HT->HT->Bool)(d:Array HT)(x:Nat):HT->Bool:=fun z=> !lt z d[x]!
set_option maxHeartbeats 1000000 in
theorem Bz(h:SQ w Z B b n cx d){x y p:Nat}(lZ:x+1<y)(hp:x<=p)(Mt:p<y)(hy:y<=n)(hn:n<=1000000)
 (hK:∀w',SQ w' Z B b n cx (Sort.partition (Z.lt) d x y p).2.2->Kept (· =b) w w'->K (.tuple #[.int .i64 ((Sort.partition (Z.lt) d x y p).1:Int),.bool (Sort.partition (Z.lt) d x y p).2.1]) w'):
 bm prog iM.id #[.slice (some ⟨b,0,none⟩) n cx,.int .i64 (x:Int),.int .i64 (y:Int),.int .i64 (p:Int),CL Z.z (some ⟨Z.c,0,none⟩)] w K:=by
 refine aL.of ?_;unfold aL.W;intro w3;have k3:Kept Nil w w3:=(Kept.refl _ _).drew;clear_value w3;obtain⟨⟨a1,a2,a3,a4,a5,a6⟩,h5,k5⟩:=(h.same k3).sw (x:=(x:Int)) (y:=(p:Int)) rfl rfl (by omega) (by omega);refine⟨a1,_,a2,a3,_,a4,a3,a5,a1,a6,?_⟩;have pf:Kept (· =b) w _:=(k3.mono fun _ _ h=>h.elim).tt k5;clear a1 a2 a3 a4 a5 a6 k5;unfold Sort.partition at hK;simp only at hK;generalize Sort.swp d x p=d1 at hK h5;rw [wN (x:=(x:Int)+1) (i:=x+1) (by omega) (by omega),wN (x:=(y:Int)-1) (i:=y-1) (by omega) (by omega)];refine aL.cf (I:=fun s v=>∃i:Nat,s=(i:Int)/\x<i/\i<=y/\SQ v Z B b n cx d1/\Sort.scanUp (FA Z.lt d1 x) d1 (y-1) i=Sort.scanUp (FA Z.lt d1 x) d1 (y-1) (x+1)/\Kept (· =b) w v) (μ:=fun s _=>((y:Int)-s).toNat) (s:=((x+1:Nat):Int)) ⟨x+1,rfl,by omega,by omega,h5,rfl,pf⟩ ?_;clear h5 pf;rintro s v ⟨i,rfl,Mm,Zi,hv,CT,kv⟩;unfold aL.B1;intro w4;have k4:Kept Nil v w4:=(Kept.refl _ _).drew;clear_value w4;have h4:=hv.same k4;have DX:=kv.trans k4 (fun _ _ h=>h.elim);have up:∀ {u:World},SQ u Z B b n cx d1->Kept (· =b) w u->Sort.scanUp (FA Z.lt d1 x) d1 (y-1) (x+1)=i->aL.cX Z.z (some ⟨b,0,none⟩) n cx (x:Int) (some ⟨Z.c,0,none⟩) 0 (i:Int) ((y-1:Nat):Int) K u:=fun {u} hu ku hi=>by
  rw [hi]at hK;unfold aL.cX;refine aL.iN (I:=fun s v=>∃j:Nat,s=(j:Int)/\x<=j/\j<y/\SQ v Z B b n cx d1/\Sort.scanDown (FZ Z.lt d1 x) d1 i j=Sort.scanDown (FZ Z.lt d1 x) d1 i (y-1)/\Kept (· =b) w v) (μ:=fun s _=>s.toNat) (s:=((y-1:Nat):Int)) ⟨y-1,rfl,by omega,by omega,hu,rfl,ku⟩ ?_;rintro s v ⟨j,rfl,hxj,hjy,hv,Mo,kv⟩;unfold aL.B2;intro w5;have k5:Kept Nil v w5:=(Kept.refl _ _).drew;clear_value w5;have h5:=hv.same k5;have FB:=kv.trans k5 (fun _ _ h=>h.elim);have down:∀ {u:World},SQ u Z B b n cx d1->Kept (· =b) w u->Sort.scanDown (FZ Z.lt d1 x) d1 i (y-1)=j->aL.jY Z.z (some ⟨b,0,none⟩) n cx (x:Int) (some ⟨Z.c,0,none⟩) 0 (i:Int) (j:Int) K u:=fun {u} hu ku hj=>by
   rw [hj]at hK;unfold aL.jY;refine Split.dec (fun xq=>?_) (fun hle=>?_)
   ·rw [if_pos (by omega)]at hK
    intro w6;have k6:Kept Nil u w6:=(Kept.refl _ _).drew;clear_value w6;obtain⟨⟨a1,a2,a3,a4,a5,a6⟩,h7,k7⟩:=(hu.same k6).sw (x:=(j:Int)) (y:=(x:Int)) rfl rfl (by omega) (by omega);refine⟨a1,_,a2,a3,_,a4,a3,a5,a1,a6,?_⟩;exact hK _ h7 ((ku.trans k6 (fun _ _ h=>h.elim)).tt k7)
   ·have pP:i<=j:=by omega
    rw [if_neg (by omega)]at hK;simp only at hK;intro w6;have k6:Kept Nil u w6:=(Kept.refl _ _).drew;clear_value w6;obtain⟨⟨a1,a2,a3,a4,a5,a6⟩,h7,k7⟩:=(hu.same k6).sw (x:=(i:Int)) (y:=(j:Int)) rfl rfl (by omega) (by omega);refine⟨a1,_,a2,a3,_,a4,a3,a5,a1,a6,?_⟩;have uR:=(ku.trans k6 (fun _ _ h=>h.elim)).tt k7;clear a1 a2 a3 a4 a5 a6 k7;generalize Sort.swp d1 i j=d2 at hK h7;rw [wN (x:=(i:Int)+1) (i:=i+1) (by omega) (by omega),wN (x:=(j:Int)-1) (i:=j-1) (by omega) (by omega)];refine aL.wT (I:=fun s v=>∃(i2 j2:Nat) (dk:Array HT),s=((i2:Int),(j2:Int))/\x<i2/\i2<=y/\x<=j2/\j2<y/\SQ v Z B b n cx dk/\Sort.partLoop (Z.lt) x i2 j2 dk=Sort.partLoop (Z.lt) x (i+1) (j-1) d2/\Kept (· =b) w v) (μ:=fun s _=>(s.2+1-s.1).toNat) (s:=(((i+1:Nat):Int),((j-1:Nat):Int))) ⟨i+1,j-1,d2,rfl,by omega,by omega,by omega,by omega,h7,rfl,uR⟩ ?_;clear h7 uR;rintro s v ⟨i2,j2,dk,rfl,abC,acZ,abB,acV,T5,rM,NJ⟩;unfold aL.B3;simp only;refine aL.Ny (I:=fun s v=>∃i3:Nat,s=(i3:Int)/\i2<=i3/\i3<=y/\SQ v Z B b n cx dk/\Sort.scanUp (FA Z.lt dk x) dk j2 i3=Sort.scanUp (FA Z.lt dk x) dk j2 i2/\Kept (· =b) w v) (μ:=fun s _=>((y:Int)-s).toNat) (s:=(i2:Int)) ⟨i2,rfl,by omega,by omega,T5,rfl,NJ⟩ ?_;rintro s v3 ⟨i3,rfl,ac2,acY,hv3,Cd,kv3⟩;unfold aL.B4;intro w8;have k8:Kept Nil v3 w8:=(Kept.refl _ _).drew;clear_value w8;have h8:=hv3.same k8;have Ye:=kv3.trans k8 (fun _ _ h=>h.elim);have XB:∀ {u:World},SQ u Z B b n cx dk->Kept (· =b) w u->Sort.scanUp (FA Z.lt dk x) dk j2 i2=i3->aL.LQ Z.z (some ⟨b,0,none⟩) n cx (x:Int) (some ⟨Z.c,0,none⟩) 0 (i3:Int) (j2:Int) (bR (aL.e3 Z.z (some ⟨b,0,none⟩) n cx (x:Int) (some ⟨Z.c,0,none⟩) 0) (fun s v=>∃(i2 j2:Nat) (dk:Array HT),s=((i2:Int),(j2:Int))/\x<i2/\i2<=y/\x<=j2/\j2<y/\SQ v Z B b n cx dk/\Sort.partLoop (Z.lt) x i2 j2 dk=Sort.partLoop (Z.lt) x (i+1) (j-1) d2/\Kept (· =b) w v) (fun s _=>(s.2+1-s.1).toNat) ((i2:Int),(j2:Int)) v (aL.q3 K)) u:=fun {u} hu ku Vk=>by
     unfold aL.LQ;refine aL.Nx (I:=fun s v=>∃j3:Nat,s=(j3:Int)/\x<=j3/\j3<=j2/\SQ v Z B b n cx dk/\Sort.scanDown (FZ Z.lt dk x) dk i3 j3=Sort.scanDown (FZ Z.lt dk x) dk i3 j2/\Kept (· =b) w v) (μ:=fun s _=>s.toNat) (s:=(j2:Int)) ⟨j2,rfl,by omega,by omega,hu,rfl,ku⟩ ?_;rintro s v4 ⟨j3,rfl,abA,acU,hv4,Cc,DX⟩;unfold aL.B5;intro w9;have k9:Kept Nil v4 w9:=(Kept.refl _ _).drew;clear_value w9;have h9:=hv4.same k9;have Yd:=DX.trans k9 (fun _ _ h=>h.elim);have Jb:∀ {u:World},SQ u Z B b n cx dk->Kept (· =b) w u->Sort.scanDown (FZ Z.lt dk x) dk i3 j2=j3->aL.LP Z.z (some ⟨b,0,none⟩) n cx (x:Int) (some ⟨Z.c,0,none⟩) 0 (i3:Int) (j3:Int) (bR (aL.e3 Z.z (some ⟨b,0,none⟩) n cx (x:Int) (some ⟨Z.c,0,none⟩) 0) (fun s v=>∃(i2 j2:Nat) (dk:Array HT),s=((i2:Int),(j2:Int))/\x<i2/\i2<=y/\x<=j2/\j2<y/\SQ v Z B b n cx dk/\Sort.partLoop (Z.lt) x i2 j2 dk=Sort.partLoop (Z.lt) x (i+1) (j-1) d2/\Kept (· =b) w v) (fun s _=>(s.2+1-s.1).toNat) ((i2:Int),(j2:Int)) v (aL.q3 K)) u:=fun {u} hu ku hj3=>by
      rw [Sort.partLoop]at rM;rw [Vk,hj3]at rM;unfold aL.LP;refine Split.dec (fun xq=>?_) (fun hle=>?_)
      ·rw [if_pos (by omega)]at rM
       rw [<-rM]at hK;rw [aY,aL.Db];unfold aL.zM;intro w6;have k6:Kept Nil u w6:=(Kept.refl _ _).drew;clear_value w6;obtain⟨⟨a1,a2,a3,a4,a5,a6⟩,h7,k7⟩:=(hu.same k6).sw (x:=(j3:Int)) (y:=(x:Int)) rfl rfl (by omega) (by omega);refine⟨a1,_,a2,a3,_,a4,a3,a5,a1,a6,?_⟩;exact hK _ h7 ((ku.trans k6 (fun _ _ h=>h.elim)).tt k7)
      ·rw [if_neg (by omega),dif_pos (by omega)]at rM
       intro w6;have k6:Kept Nil u w6:=(Kept.refl _ _).drew;clear_value w6;obtain⟨⟨a1,a2,a3,a4,a5,a6⟩,h7,k7⟩:=(hu.same k6).sw (x:=(i3:Int)) (y:=(j3:Int)) rfl rfl (by omega) (by omega);refine⟨a1,_,a2,a3,_,a4,a3,a5,a1,a6,?_⟩;simp only;rw [wN (x:=(i3:Int)+1) (i:=i3+1) (by omega) (by omega),wN (x:=(j3:Int)-1) (i:=j3-1) (by omega) (by omega)];exact⟨(((i3+1:Nat):Int),((j3-1:Nat):Int)),rfl,⟨i3+1,j3-1,_,rfl,by omega,by omega,by omega,by omega,h7,rM,(ku.trans k6 (fun _ _ h=>h.elim)).tt k7⟩,by simp only;omega⟩
     refine Split.dec (fun hle=>?_) (fun xq=>?_)
     ·obtain⟨j',rfl⟩:∃j',j3=j'+1:=⟨j3-1,by omega⟩
      refine h9.cmp (i:=j'+1) (j:=x) rfl rfl (by omega) (by omega) fun r w10 rP tV hr=>?_;have sE:=Yd.trans tV (fun _ _ h=>h.elim);rw [Sort.scanDown]at Cc;by_cases rz:r<0
      ·refine Split.no (by rw [decide_eq_true rz];rfl) ?_
       rw [aY,aL.MW];rw [if_neg (by simp only [FZ,hr.1 rz,Bool.not_true,Bool.and_false];decide)]at Cc;exact Jb rP sE Cc.symm
      ·refine Split.yes (by rw [decide_eq_false rz];rfl) ?_
       have hg:Z.lt dk[j'+1]! dk[x]! =false:=by
        cases hg:Z.lt dk[j'+1]! dk[x]!
        ·rfl
        ·exact absurd (hr.2 hg) rz
       rw [if_pos (by simp only [FZ,hg,Bool.not_false,Bool.and_true,decide_eq_true_eq];omega)]at Cc;rw [wN (x:=((j'+1:Nat):Int)-1) (i:=j') (by omega) (by omega)];exact⟨(j':Int),rfl,⟨j',rfl,by omega,by omega,rP,Cc,sE⟩,by simp only;omega⟩
     ·rw [aY,aL.MW]
      refine Jb h9 Yd ?_;rw [<-Cc];cases j3 with
      |zero=>rfl
      |succ j'=>rw [Sort.scanDown,if_neg (by simp only [Bool.and_eq_true,decide_eq_true_eq];intro e;omega)]
    refine Split.dec (fun hle=>?_) (fun xq=>?_)
    ·refine h8.cmp (i:=i3) (j:=x) rfl rfl (by omega) (by omega) fun r w10 rP tV hr=>?_
     have sE:=Ye.trans tV (fun _ _ h=>h.elim);rw [Sort.scanUp]at Cd;refine Split.dec (fun rz=>?_) (fun rz=>?_)
     ·rw [if_pos (by simp only [FA,hr.1 rz,Bool.and_true,decide_eq_true_eq];omega)]at Cd
      rw [wN (x:=(i3:Int)+1) (i:=i3+1) (by omega) (by omega)];exact⟨((i3+1:Nat):Int),rfl,⟨i3+1,rfl,by omega,by omega,rP,Cd,sE⟩,by simp only;omega⟩
     ·rw [aY,aL.MX]
      rw [if_neg (by simp only [FA,Bool.and_eq_true,decide_eq_true_eq];intro e;exact rz (hr.2 e.2))]at Cd;exact XB rP sE Cd.symm
    ·rw [aY,aL.MX]
     refine XB h8 Ye ?_;rw [<-Cd,Sort.scanUp,if_neg (by simp only [Bool.and_eq_true,decide_eq_true_eq];intro e;omega)]
  refine Split.dec (fun hle=>?_) (fun xq=>?_)
  ·obtain⟨j',rfl⟩:∃j',j=j'+1:=⟨j-1,by omega⟩
   refine h5.cmp (i:=j'+1) (j:=x) rfl rfl (by omega) (by omega) fun r w10 rP tV hr=>?_;have sE:=FB.trans tV (fun _ _ h=>h.elim);rw [Sort.scanDown]at Mo;by_cases rz:r<0
   ·refine Split.no (by rw [decide_eq_true rz];rfl) ?_
    rw [aY,aL.lL];rw [if_neg (by simp only [FZ,hr.1 rz,Bool.not_true,Bool.and_false];decide)]at Mo;exact down rP sE Mo.symm
   ·refine Split.yes (by rw [decide_eq_false rz];rfl) ?_
    have hg:Z.lt d1[j'+1]! d1[x]! =false:=by
     cases hg:Z.lt d1[j'+1]! d1[x]!
     ·rfl
     ·exact absurd (hr.2 hg) rz
    rw [if_pos (by simp only [FZ,hg,Bool.not_false,Bool.and_true,decide_eq_true_eq];omega)]at Mo;rw [wN (x:=((j'+1:Nat):Int)-1) (i:=j') (by omega) (by omega)];exact⟨(j':Int),rfl,⟨j',rfl,by omega,by omega,rP,Mo,sE⟩,by simp only;omega⟩
  ·rw [aY,aL.lL]
   refine down h5 FB ?_;rw [<-Mo];cases j with
   |zero=>rfl
   |succ j'=>rw [Sort.scanDown,if_neg (by simp only [Bool.and_eq_true,decide_eq_true_eq];intro e;omega)]
 refine Split.dec (fun hle=>?_) (fun xq=>?_)
 ·refine h4.cmp (i:=i) (j:=x) rfl rfl (by omega) (by omega) fun r w10 rP tV hr=>?_
  have sE:=DX.trans tV (fun _ _ h=>h.elim);rw [Sort.scanUp]at CT;refine Split.dec (fun rz=>?_) (fun rz=>?_)
  ·rw [if_pos (by simp only [FA,hr.1 rz,Bool.and_true,decide_eq_true_eq];omega)]at CT
   rw [wN (x:=(i:Int)+1) (i:=i+1) (by omega) (by omega)];exact⟨((i+1:Nat):Int),rfl,⟨i+1,rfl,by omega,by omega,rP,CT,sE⟩,by simp only;omega⟩
  ·rw [aY,aL.dB]
   rw [if_neg (by simp only [FA,Bool.and_eq_true,decide_eq_true_eq];intro e;exact rz (hr.2 e.2))]at CT;exact up rP sE CT.symm
 ·rw [aY,aL.dB]
  refine up h4 DX ?_;rw [<-CT,Sort.scanUp,if_neg (by simp only [Bool.and_eq_true,decide_eq_true_eq];intro e;omega)]
end
theorem jJ{d d':Array HT}{x y:Nat}(lZ:x<=y)(hy:y<=d.size)(h:Sort.PermIn x y d d'):d'.toList.Perm d.toList:=by
 have h1:=Sort.permIn_mono d d' x y 0 d.size (Nat.zero_le _) hy (Nat.le_refl _) h;have h2:=h1.2.2;have h3:=h1.1;rw [Array.extract_size,<-h3,Array.extract_size]at h2;exact h2
section
variable{w w':World}{B b n cx:Nat}{d:Array HT}{Z:F8}{K:Value->World->Prop}
set_option maxHeartbeats 1000000 in
theorem BM(hn:n<50){Q:aM}{v:World}{a e:Nat}{l:Int}{p q:Bool}{dk:Array HT}(Lo:a<=e)(Ld:e<=n)(vz:0<=l)(vV:l<=100)(hv:SQ v Z B b n cx dk)(gL:dk.toList.Nodup)(hB:Sort.Below (Z.lt) a e dk)
 (rec:∀ {u:World} {dj:Array HT} {a' e':Nat} {l':Int} {K':Value->World->Prop},a'<=e'->e'-a'<e-a->e'<=n->0<=l'->l'<=100->SQ u Z B b n cx dj->dj.toList.Nodup->Sort.Below (Z.lt) a' e' dj->
   (∀d' w',SQ w' Z B b n cx d'->Sort.PermIn a' e' dj d'->Sort.SortedIn (Z.lt) a' e' d'->Kept (· =b) u w'->K' (.tuple #[]) w')->
   bm prog fM.id #[.slice (some ⟨b,0,none⟩) n cx,.int .i64 (a':Int),.int .i64 (e':Int),.int .i64 l',CL Z.z (some ⟨Z.c,0,none⟩)] u K')
 (Et:∀(a' e' l' L:Int) (p' q':Bool) t u dj,(t= []\/∃r:Int,t= [(13,.int .i64 r)])->SQ u Z B b n cx dj->Sort.PermIn a e dk dj->Sort.SortedIn (Z.lt) a e dj->Kept (· =b) v u->Q .ret ((0,.slice (some ⟨b,0,none⟩) n cx)::(1,.int .i64 a')::(2,.int .i64 e')::(3,.int .i64 l')::(4,CL Z.z (some ⟨Z.c,0,none⟩))::(10,.bool p')::(11,.bool q')::(12,.int .i64 L)::t) u)
 (II:∀(a' e':Nat) (l':Int) (p' q':Bool) (dj:Array HT) (u:World),a<=a'->a'<=e'->e'<=e->e'-a'<e-a->0<=l'->l'<=100->SQ u Z B b n cx dj->dj.toList.Nodup->Sort.Below (Z.lt) a' e' dj->(∀R,Sort.PermIn a' e' dj R->Sort.SortedIn (Z.lt) a' e' R->Sort.PermIn a e dk R/\Sort.SortedIn (Z.lt) a e R)->Kept (· =b) v u->
   Q .normal [(0,.slice (some ⟨b,0,none⟩) n cx),(1,.int .i64 (a':Int)),(2,.int .i64 (e':Int)),(3,.int .i64 l'),(4,CL Z.z (some ⟨Z.c,0,none⟩)),(10,.bool p'),(11,.bool q')] u):
 az.B1 Z.z (some ⟨b,0,none⟩) n cx (a:Int) (e:Int) l (some ⟨Z.c,0,none⟩) p q Q v:=by
 have nN:=SR.size hv.row;unfold az.B1;rw [wN (x:=(e:Int)-(a:Int)) (i:=e-a) (by omega) (by omega)];refine Split.dec (fun C5=>?_) (fun C5=>?_)
 ·refine BB hv Lo Ld (by omega) fun w' h' k'=>⟨rfl,?_⟩
  obtain⟨p1,p2⟩:=Sort.insertionSort_holds Z.swo dk a e Lo (by omega);exact Et _ _ _ _ _ _ [] _ _ (.inl rfl) h' p1 p2 k'
 have C5:a+12<e:=by omega
 refine Split.mk (fun hl=>?_) (fun hl=>?_)
 ·refine yr hv (by omega) Ld (by omega) fun w' h' k'=>⟨rfl,?_⟩
  obtain⟨p1,p2⟩:=Sort.heapSort_holds Z.swo dk a e Lo (by omega);exact Et _ _ _ _ _ _ [] _ _ (.inl rfl) h' p1 p2 k'
 have hl:l≠0:=beq_eq_false_iff_ne.1 hl;have j1:∀ {u:World} {dj:Array HT} {l':Int},0<=l'->l'<=100->SQ u Z B b n cx dj->Sort.PermIn a e dk dj->Kept (· =b) v u->az.J1 Z.z (some ⟨b,0,none⟩) n cx (a:Int) (e:Int) l' (some ⟨Z.c,0,none⟩) p q ((e-a:Nat):Int) Q u:=by
  intro u dj l' vz vV hu x4 ku;have j7:∀ {u:World} {dj:Array HT} {r:Nat},a<=r->r<e->SQ u Z B b n cx dj->Sort.PermIn a e dk dj->Kept (· =b) v u->az.J7 Z.z (some ⟨b,0,none⟩) n cx (a:Int) (e:Int) l' (some ⟨Z.c,0,none⟩) p q ((e-a:Nat):Int) (r:Int) Q u:=by
   intro u dj r qz lg hu x4 ku;have RQ:=SR.size hu.row;unfold az.J7;have hBj:=hB.perm (by omega) x4;obtain⟨g1,g2,RR,WD,WC,EC,yW⟩:=Sort.round_part Z.swo (Sort.partition_holds (Z.lt)) (d3:=dj) (mid:=(Sort.partition (Z.lt) dj a e r).1) (ap:=(Sort.partition (Z.lt) dj a e r).2.1) (d4:=(Sort.partition (Z.lt) dj a e r).2.2) qz lg (by omega) hBj rfl;have Ms:=(Sort.partition_holds (Z.lt) Z.swo dj a e r qz lg (by omega)).2.2.1;refine Bz hu (by omega) qz lg Ld (by omega) fun w5 h5 k5=>⟨_,_,rfl,az.Og ?_⟩;have RC:=ku.tt k5;generalize (Sort.partition (Z.lt) dj a e r)=res at g1 g2 RR WD WC EC yW Ms h5;obtain⟨mid,ap,d4⟩:=res;simp only at g1 g2 RR WD WC EC yW Ms h5⊢;have vw:=Sort.permIn_trans _ _ _ a e x4 Ms;have Hb:d4.toList.Nodup:=(jJ Lo (by omega) vw).nodup_iff.2 gL;unfold az.J8;refine az.Of ?_;unfold az.J9;rw [wN (x:=(mid:Int)-(a:Int)) (i:=mid-a) (by omega) (by omega),wN (x:=(e:Int)-(mid:Int)) (i:=e-mid) (by omega) (by omega)];refine az.Km ?_;unfold az.Xl;refine⟨by decide,az.Kl ?_⟩;unfold az.Xk;refine Split.dec (fun cK=>az.Kk ?_) (fun cK=>az.Kj ?_)
   ·unfold az.Xj
    refine rec g1 (by omega) (by omega) vz vV h5 Hb WD fun d' w' h' p' s' k'=>⟨rfl,az.Ki ?_⟩;unfold az.Xh;rw [wN (x:=(mid:Int)+1) (i:=mid+1) (by omega) (by omega)];obtain⟨WE,hf⟩:=EC d' p' s';refine II (mid+1) e l' _ _ d' w' (by omega) (by omega) (Nat.le_refl _) (by omega) vz vV h' ((jJ g1 (by omega) p').nodup_iff.2 Hb) WE (fun R hR sR=>?_) (RC.tt k');obtain⟨q1,q2⟩:=hf R hR sR;exact⟨Sort.permIn_trans _ _ _ a e x4 q1,q2⟩
   ·unfold az.Xi
    rw [wN (x:=(mid:Int)+1) (i:=mid+1) (by omega) (by omega)];refine rec (by omega) (by omega) (by omega) vz vV h5 Hb WC fun d' w' h' p' s' k'=>⟨rfl,az.Kh ?_⟩;unfold az.Xg;obtain⟨WE,hf⟩:=yW d' p' s';refine II a mid l' _ _ d' w' (by omega) (by omega) (by omega) (by omega) vz vV h' ((jJ (by omega) (by omega) p').nodup_iff.2 Hb) WE (fun R hR sR=>?_) (RC.tt k');obtain⟨q1,q2⟩:=hf R hR sR;exact⟨Sort.permIn_trans _ _ _ a e x4 q1,q2⟩
  have j6:∀ {u:World} {dj:Array HT} {r:Nat},a<=r->r<e->SQ u Z B b n cx dj->Sort.PermIn a e dk dj->Kept (· =b) v u->az.J6 Z.z (some ⟨b,0,none⟩) n cx (a:Int) (e:Int) l' (some ⟨Z.c,0,none⟩) p q ((e-a:Nat):Int) (r:Int) Q u:=by
   intro u dj r qz lg hu x4 ku;have RQ:=SR.size hu.row;unfold az.J6;intro w3;have k3:Kept Nil u w3:=(Kept.refl _ _).drew;clear_value w3;have h3:=hu.same k3;have NN:=ku.trans k3 (fun _ _ h=>h.elim);refine Split.dec (fun ha0=>?_) (fun ha0=>az.Il (j7 qz lg h3 x4 NN));rw [wN (x:=(a:Int)-1) (i:=a-1) (by omega) (by omega)];refine h3.cmp (i:=a-1) (j:=r) rfl rfl (by omega) (by omega) fun z w4 h4 k4 hz=>?_;have hg:Z.lt dj[a-1]! dj[r]! =true:=by
    cases hg:Z.lt dj[a-1]! dj[r]!
    ·exfalso
     rcases hB.perm (by omega) x4 with e0|e0
     ·omega
     ·have IH:dj.toList.Nodup:=(jJ Lo (by omega) x4).nodup_iff.2 gL
      have e1:=Z.total hg (e0 r qz lg);have:=(List.getElem_inj (xs:=dj.toList) (i:=a-1) (j:=r) (h₀:=by simp;omega) (h₁:=by simp;omega) IH).1 (by
       simpa [getElem!_pos,RQ,show a-1<n by omega,show r<n by omega]using e1)
      omega
    ·rfl
   exact Split.no (by rw [decide_eq_true (hz.2 hg)];rfl) (az.Il (j7 qz lg h4 x4 (NN.trans k4 (fun _ _ h=>h.elim))))
  have j4:∀ {u:World} {dj:Array HT} {r:Nat} {t:Int},a<=r->r<e->SQ u Z B b n cx dj->Sort.PermIn a e dk dj->Kept (· =b) v u->az.J4 Z.z (some ⟨b,0,none⟩) n cx (a:Int) (e:Int) l' (some ⟨Z.c,0,none⟩) p q ((e-a:Nat):Int) (r:Int) t Q u:=by
   intro u dj r t qz lg hu x4 ku;unfold az.J4;have go:=az.Im (j6 qz lg hu x4 ku);refine Split.mk (fun _=>Split.mk (fun _=>Split.mk (fun _=>?_) (fun _=>go)) (fun _=>go)) (fun _=>go);refine Bw hu (by omega) Ld hn fun t w' hs h' k'=>⟨t,rfl,?_⟩;have RD:=ku.trans k' (fun _ _ h=>h.elim);exact Split.mk (fun ht=>Et _ _ _ _ _ _ [_] _ _ (.inr ⟨_,rfl⟩) h' x4 (hs ht) RD) (fun _=>az.Im (j6 qz lg h' x4 RD))
  unfold az.J1;refine Bu hu C5 Ld hn fun r t w4 qz lg h4 k4=>⟨_,_,rfl,az.Eg ?_⟩;have NL:=ku.trans k4 (fun _ _ h=>h.elim);unfold az.J2;refine Split.mk (fun ht=>?_) (fun ht=>az.Io (j4 qz lg h4 x4 NL));refine Bt h4 (by omega) Ld (by omega) fun d' w' h' p' k'=>⟨rfl,az.Oi ?_⟩;unfold az.J3;rw [wN (x:=(e:Int)-1) (i:=e-1) (by omega) (by omega),wN (x:=(r:Int)-(a:Int)) (i:=r-a) (by omega) (by omega),wN (x:=((e-1:Nat):Int)-((r-a:Nat):Int)) (i:=e-1-(r-a)) (by omega) (by omega)];refine az.Oh ?_;unfold az.J5;exact az.Io (j4 (by omega) (by omega) h' (Sort.permIn_trans _ _ _ a e x4 p') (NL.tt k'))
 refine Split.mk (fun hp=>?_) (fun hp=>az.lx (j1 vz vV hv (Sort.permIn_refl _ _ _) (Kept.refl _ _)));refine BC hv C5 Ld (by omega) fun d' w' h' p' k'=>⟨rfl,az.lx ?_⟩;rw [iI (x:=l-1) (by omega) (by omega)];exact j1 (by omega) (by omega) h' p' k'
theorem Bx(hn:n<50):∀(s:Nat) {w:World} {d:Array HT} {x y:Nat} {lim:Int} {K:Value->World->Prop},y<x+s->x<=y->y<=n->0<=lim->lim<=100->SQ w Z B b n cx d->d.toList.Nodup->Sort.Below (Z.lt) x y d->
 (∀d' w',SQ w' Z B b n cx d'->Sort.PermIn x y d d'->Sort.SortedIn (Z.lt) x y d'->Kept (· =b) w w'->K (.tuple #[]) w')->
 bm prog fM.id #[.slice (some ⟨b,0,none⟩) n cx,.int .i64 (x:Int),.int .i64 (y:Int),.int .i64 lim,CL Z.z (some ⟨Z.c,0,none⟩)] w K:=by
 intro s
 induction s with
 |zero=>intro w d x y lim K h1 h2;omega
 |succ s ih=>
  intro w d x y lim K hs lZ hy vz vV h gL hB hK;refine az.of ?_;unfold az.W;refine az.cf (I:=fun st v=>∃(a e:Nat) (l:Int) (p q:Bool) (dk:Array HT),st=((a:Int),(e:Int),l,p,q)/\x<=a/\a<=e/\e<=y/\0<=l/\l<=100/\SQ v Z B b n cx dk/\dk.toList.Nodup/\Sort.Below (Z.lt) a e dk/\(∀R,Sort.PermIn a e dk R->Sort.SortedIn (Z.lt) a e R->Sort.PermIn x y d R/\Sort.SortedIn (Z.lt) x y R)/\Kept (· =b) w v) (μ:=fun st _=>(st.2.1-st.1).toNat) (s:=((x:Int),(y:Int),lim,true,true)) ⟨x,y,lim,true,true,d,rfl,Nat.le_refl _,lZ,Nat.le_refl _,vz,vV,h,gL,hB,fun R h1 h2=>⟨h1,h2⟩,Kept.refl _ _⟩ ?_;rintro st v ⟨a,e,l,p,q,dk,rfl,hxa,Lo,hey,vz,vV,hv,gL,hB,sK,kv⟩;refine BM hn Lo (by omega) vz vV hv gL hB (fun h1 h2 h3 h4 h5 h6 h7 h8 h9=>ih (by omega) h1 h3 h4 h5 h6 h7 h8 h9) (fun _ _ _ _ _ _ t u dj ht h1 h2 h3 h4=>?_) (fun a' e' l' p' q' dj u h1 h2 h3 h4 h5 h6 h7 h8 h9 rP FY=>?_)
  ·rw [gH]
   obtain⟨q1,q2⟩:=sK _ h2 h3;rcases ht with rfl|⟨r,rfl⟩
   ·exact hK dj u h1 q1 q2 (kv.tt h4)
   exact hK dj u h1 q1 q2 (kv.tt h4)
  ·exact⟨((a':Int),(e':Int),l',p',q'),rfl,⟨a',e',l',p',q',dj,rfl,by omega,h2,by omega,h5,h6,h7,h8,h9,fun R hR sR=>let ⟨q1,q2⟩:=rP R hR sR;sK R q1 q2,kv.tt FY⟩,by simp only;omega⟩
theorem zE{n:Nat}(hn:n<50)(hK:∀(v:Int),0<=v->v<=100->K (.int .i64 v) w):bm prog bits_Len.id #[.int .u64 (n:Int)] w K:=by
 have h:=Any.bits_Len (SlLaysF0.n15.bits (P:=prog) (ρ:=Tryz.nZ) {Tryz.uy with}) n w (by omega) (by omega);refine Calls.mono h ?_;rintro e w' ⟨rfl,rfl⟩;refine⟨_,rfl,hK _ (by omega) ?_⟩;rw [Int.toNat_natCast,bitLen_eq _ (by omega)];have:=(Sort.bitsLen_le_iff n 62).2 (by omega);omega
end
theorem LB(G:GS):Sort.SWO (gl G) where
 irrefl:=lT G
 trans:=fun _ _ _=>pS
 ntrans:=fun x y z h1 h2=>by
  cases h:gl G x z
  ·rfl
  ·exfalso
   cases h3:gl G y x
   ·have:=sP h1 h3
    subst this;rw [h2]at h;cases h
   ·rw [pS h3 h]at h2;cases h2
theorem M7{Z:F8}{w:World}{B:Nat}{A:Option Addr}{n cx:Nat}{l:List HT}{K:Value->World->Prop}(hE:Z.E w)(row:cg w B A n cx l)(hn:n<=49)(gL:l.Nodup)(jX:∀x∈l,Z.M x)(pO:∀j,bp A=some j->¬Z.U j)
 (hK:∀l' w',(l'.Pairwise fun a b=>Z.lt a b=true)->(∀x,x∈l'↔x∈l)->cg w' B A n cx l'->Kept (fun j=>bp A=some j) w w'->K (.tuple #[]) w'):
 bm prog ft.id #[.slice A n cx,CL Z.z (some ⟨Z.c,0,none⟩)] w K:=by
 have hlen:=cg.len row;by_cases h0:n=0
 ·subst h0
  have h:=AnyF.slices_SortFunc_none Tryz.uy A cx (CL Z.z (some ⟨Z.c,0,none⟩)) w;refine Calls.mono h ?_;rintro e w' ⟨rfl,rfl⟩;have:l= []:=List.eq_nil_of_length_eq_zero hlen;subst this;exact⟨_,rfl,hK [] _ List.Pairwise.nil (fun _=>Iff.rfl) row (Kept.refl _ _)⟩
 ·obtain⟨b,rfl⟩:=Row.some row (by omega)
  have hSQ:SQ w Z B b n cx l.toArray:=⟨hE,by simpa [SR]using row,by simpa using jX,pO b rfl⟩;refine og.of ?_;unfold og.W;have ew:u64.wrap (n:Int)=(n:Int):=jD (by omega);rw [ew];refine zE (by omega) fun v hv0 FG=>⟨v,rfl,?_⟩;refine Bx (x:=0) (y:=n) (by omega) (n+1) (by omega) (Nat.zero_le _) (Nat.le_refl _) hv0 FG hSQ (by simpa using gL) (.inl rfl) fun d' w' h' p' s' k'=>⟨rfl,?_⟩;have lS:=SR.size h'.row;have FJ:l.toArray.size=n:=by simpa using hlen
  have YV:=jJ (Nat.zero_le _) (by omega) p';refine hK d'.toList w' ?_ (fun x=>by rw [YV.mem_iff]) h'.row (k'.mono fun j _ e=>by subst e;rfl);have sJ:=YV.nodup_iff.2 (by simpa using gL);rw [List.pairwise_iff_getElem];intro i j hi hj pP;have K5:i<d'.size:=by simpa using hi
  have uT:j<d'.size:=by simpa using hj
  have h1:=s' i j (Nat.zero_le _) pP (by omega);rw [getElem!_pos d' i K5,getElem!_pos d' j uT]at h1;rw [Array.getElem_toList,Array.getElem_toList];cases hg:Z.lt d'[i] d'[j]
  ·exfalso
   have e1:=Z.total hg h1;have:=(List.getElem_inj (xs:=d'.toList) (i:=i) (j:=j) (h₀:=hi) (h₁:=hj) sJ).1 (by simpa using e1);omega
  ·rfl
theorem z6:AY 49:=by
 intro w F c k G m B A n cx l K C row hn gL jX pO hK
 let Z:F8:=⟨true,c,gl G,fun x=>x∈ids G.D,fun j=>m.own c j\/F j,fun u=>CV u F c k G m,fun h hk hS=>h.aK hk (fun j hj=>hS j (.inl hj)) (fun j hj=>hS j (.inr hj)),fun h j hj=>h.low j hj,fun h hx hy hK=>qW h hx hy fun w' k'=>hK _ w' k' HM,LB G,sP⟩
 exact M7 (Z:=Z) C row hn gL jX (fun j hj e=>e.elim (pO j hj).1 (pO j hj).2) hK
end Go.Proofs.YtfleamccglihoaaGreatDoor
