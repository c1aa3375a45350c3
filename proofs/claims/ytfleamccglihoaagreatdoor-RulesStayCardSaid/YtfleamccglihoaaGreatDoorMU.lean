import Derived.Test.YtfleamccglihoaaGreatDoorMT
import Derived.Test.YtfleamccglihoaaGreatDoorMN
open Go.IntKind (i64 u64)
set_option linter.unusedVariables false
namespace Go.Proofs.YtfleamccglihoaaGreatDoor
open Go.Proofs.Tryz
open Go Go.b0 Go.RowKit
structure rO(w:World)(F:Nat->Prop)(A:Option Addr)(n:Nat)(l:List pr):Prop where
 len:l.length=n
 at_:∀(i:Nat) x,l[i]? =some x->∃a A1 n1 c1 B1 m1 d1,A=some a/\a.block<w.heap.size/\F a.block/\Cells w (a.add (i*35)) (di x A1 n1 c1 B1 m1 d1)/\HS w A1 n1 x.merge/\Bo w B1 m1 x.fX/\(∀b,A1=some b->F b.block)/\(∀b,B1=some b->F b.block)
structure qu(w:World)(F:Nat->Prop)(A:Option Addr)(n:Nat)(l:List (List HT)):Prop where
 len:l.length=n
 at_:∀(i:Nat) x,l[i]? =some x->∃a A1 n1 c1,A=some a/\a.block<w.heap.size/\F a.block/\w.cell? (a.add (i*1))=some (.slice A1 n1 c1)/\HS w A1 n1 x/\(∀b,A1=some b->F b.block)
section
variable{w w':World}{F F' S:Nat->Prop}{A:Option Addr}{n:Nat}
theorem rO.aJ{l:List pr}(h:rO w F A n l)(hk:Kept S w w')(hn:∀j,F j->¬S j):rO w' F A n l:=⟨h.len,fun i x hi=>by
 obtain⟨a,A1,n1,c1,B1,m1,d1,g1,g2,g3,g4,g5,g6,g7,g8⟩:=h.at_ i x hi;exact⟨a,A1,n1,c1,B1,m1,d1,g1,Nat.lt_of_lt_of_le g2 hk.size,g3,Cells.aJ g4 hk (by rw [fg];exact hn _ g3),g5.aJ hk (fun b hb=>hn _ (g7 b hb)),g6.aJ hk (fun b hb=>hn _ (g8 b hb)),g7,g8⟩⟩
theorem rO.mono{l:List pr}(h:rO w F A n l)(hf:∀j,F j->F' j):rO w F' A n l:=⟨h.len,fun i x hi=>by
 obtain⟨a,A1,n1,c1,B1,m1,d1,g1,g2,g3,g4,g5,g6,g7,g8⟩:=h.at_ i x hi;exact⟨a,A1,n1,c1,B1,m1,d1,g1,g2,hf _ g3,g4,g5,g6,fun b hb=>hf _ (g7 b hb),fun b hb=>hf _ (g8 b hb)⟩⟩
theorem qu.aJ{l:List (List HT)}(h:qu w F A n l)(hk:Kept S w w')(hn:∀j,F j->¬S j):qu w' F A n l:=⟨h.len,fun i x hi=>by
 obtain⟨a,A1,n1,c1,g1,g2,g3,g4,g5,g6⟩:=h.at_ i x hi;exact⟨a,A1,n1,c1,g1,Nat.lt_of_lt_of_le g2 hk.size,g3,hk.cell g4 (by rw [fg];exact hn _ g3),g5.aJ hk (fun b hb=>hn _ (g6 b hb)),g6⟩⟩
theorem qu.mono{l:List (List HT)}(h:qu w F A n l)(hf:∀j,F j->F' j):qu w F' A n l:=⟨h.len,fun i x hi=>by
 obtain⟨a,A1,n1,c1,g1,g2,g3,g4,g5,g6⟩:=h.at_ i x hi;exact⟨a,A1,n1,c1,g1,g2,hf _ g3,g4,g5,fun b hb=>hf _ (g6 b hb)⟩⟩
end
structure R3(w:World)(F:Nat->Prop)(r x k:Nat)(G:GS):Prop where
 top:∃A c B e,w.heap[r]? =some (.cells #[.int .i64 (k:Int),.pointer (some ⟨x,0,none⟩),.slice A G.D.length c,.slice B G.D.length e] iy (0,0))/\rO w F A G.D.length G.sI/\qu w F B G.D.length G.kZ
 X:qv w F x G.D G.P
 iT:¬F r
 ne:r≠x
 hZ:jT k G
 lo:∀j,F j->j<w.heap.size
section
variable{w w':World}{F F' S:Nat->Prop}{r x k:Nat}{G:GS}{K:Value->World->Prop}
theorem R3.aJ(h:R3 w F r x k G)(hk:Kept S w w')(hr:¬S r)(hx:¬S x)(hF:∀j,F j->¬S j):R3 w' F r x k G:=by
 obtain⟨A,c,B,e,g1,g2,g3⟩:=h.top;exact⟨⟨A,c,B,e,hk.heap g1 hr,g2.aJ hk hF,g3.aJ hk hF⟩,h.X.aJ hk hx hF,h.iT,h.ne,h.hZ,fun j e=>Nat.lt_of_lt_of_le (h.lo j e) hk.size⟩
theorem R3.same(h:R3 w F r x k G)(hk:Kept Nil w w'):R3 w' F r x k G:=h.aJ hk (fun h=>h) (fun h=>h) (fun _ _ h=>h)
theorem R3.lt(h:R3 w F r x k G):r<w.heap.size:=by obtain⟨_,_,_,_,g,_⟩:=h.top;exact aY g
theorem R3.lx(h:R3 w F r x k G):x<w.heap.size:=h.X.lt
theorem R3.c0(h:R3 w F r x k G):w.cell? ((⟨r,0,none⟩:Addr).add 0)=some (.int .i64 (k:Int)):=by obtain⟨_,_,_,_,g,_⟩:=h.top;rw [bC,aE g];rfl
theorem R3.c1(h:R3 w F r x k G):w.cell? ((⟨r,0,none⟩:Addr).add 1)=some (.pointer (some ⟨x,0,none⟩)):=by obtain⟨_,_,_,_,g,_⟩:=h.top;rw [bC,aE g];rfl
theorem Od(h:jT k G){y:HT}(hy:y∈ids G.D):∃(i:Nat) (nd:DN) (c:pr) (l:List HT),G.D[i]? =some nd/\nd.id=y/\G.sI[i]? =some c/\G.kZ[i]? =some l/\Hc G.D y=(i:Int)/\G.jW y=c/\G.world y=l/\i<G.D.length:=by
 obtain⟨nd,gA,rfl⟩:=dI.1 hy;obtain⟨i,hi⟩:=List.mem_iff_getElem?.1 gA;have eh:=(lgeS hi).1;obtain⟨c,hc⟩:∃c,G.sI[i]? =some c:=⟨_,List.getElem?_eq_getElem (by rw [h.lc];exact eh)⟩;obtain⟨l,hl⟩:∃l,G.kZ[i]? =some l:=⟨_,List.getElem?_eq_getElem (by rw [h.lw];exact eh)⟩;exact⟨i,nd,c,l,hi,rfl,hc,hl,Q2 h.W hi,GS.QY h.W hi hc,GS.Hi h.W hi hl,eh⟩
theorem ln(h:R3 w F r x k G)(hD:G.D.length<=5000){a:HT}(ha:a∈ids G.D)(hK:∀w',Kept Nil w w'->K (.int .u64 (G.score a:Int)) w'):
 bD prog dK.id #[.pointer (some ⟨r,0,none⟩),.agg a.1] w K:=by
 refine dK.of ?_;unfold dK.W;intro w4 w5;have k4:Kept Nil w w4:=(Kept.refl _ _).alloc _;have C1:w4.heap[w.heap.size]? =some (.cells a.1 al (0,0)):=aM w _;have k5:Kept Nil w4 w5:=(Kept.refl _ _).drew;clear_value w5;have LX:=k5.heap C1 (fun h=>h);have o7:=k4.tt k5;have h5:=h.same o7;obtain⟨A,c,B,e,g1,g2,g3⟩:=h5.top;refine Is.mk rfl ⟨A,_,c,by rw [bC,aE g1];rfl,Is.mk rfl ⟨_,h5.c1,Is.mk rfl ⟨a.1,⟨a.2.1,Cells.bV LX⟩,?_⟩⟩⟩;rw [add_zero];refine pN h5.X.gr (by omega) a fun w6 k6=>⟨_,rfl,?_⟩;have g16:=k6.heap g1 (fun h=>h);obtain⟨i,nd,cl,l,q1,q2,q3,q4,q5,q6,q7,q8⟩:=Od h.hZ ha;rw [q5];obtain⟨aa,A1,n1,c1,B1,m1,d1,p1,p2,p3,p4,_⟩:=(g2.aJ k6 (fun _ _ h=>h)).at_ i cl q3;subst p1;refine⟨by rw [bC,aE g16];rfl,⟨by omega,by omega⟩,Is.mk rfl ⟨((G.score a:Nat):Int),?_,?_⟩⟩
 ·have:=gN cl A1 n1 c1 B1 m1 d1 #[]
  rw [Array.append_empty]at this;have WO:=p4 32 _ this.1;rw [Int.toNat_natCast,WO];unfold GS.score;rw [q6]
 ·exact hK w6 (o7.tt k6)
theorem zX(h:jT k G){a:HT}(ha:a∈ids G.D):G.score a<=G.D.length:=by
 rw [(h.wd a ha).2.2];exact sT h ha
theorem qP(h:R3 w F r x k G)(hD:G.D.length<=5000){a b:HT}(ha:a∈ids G.D)(hb:b∈ids G.D)(hK:∀w',Kept Nil w w'->K (.bool (gl G a b)) w'):
 bD prog dV.id #[.pointer (some ⟨r,0,none⟩),.agg a.1,.agg b.1] w K:=by
 refine dV.of ?_;unfold dV.W;intro w4 w5 w6;have k4:Kept Nil w w4:=(Kept.refl _ _).alloc _;have C1:w4.heap[w.heap.size]? =some (.cells a.1 al (0,0)):=aM w _;have k5:Kept Nil w4 w5:=(Kept.refl _ _).alloc _;have pC:w5.heap[w4.heap.size]? =some (.cells b.1 al (0,0)):=aM w4 _;have k6:Kept Nil w5 w6:=(Kept.refl _ _).drew;clear_value w6;have xg:=k6.heap (k5.heap C1 (fun h=>h)) (fun h=>h);have qd:=k6.heap pC (fun h=>h);have p7:=(k4.tt k5).tt k6;refine⟨a.1,⟨a.2.1,Cells.bV xg⟩,b.1,⟨b.2.1,Cells.bV qd⟩,?_⟩;refine ln (h.same p7) hD ha fun w7 k7=>⟨_,rfl,⟨_,rfl,b.2.1,Cells.bV (k7.heap qd (fun h=>h))⟩,?_⟩;have vJ:=p7.tt k7;refine ln (h.same vJ) hD hb fun w8 k8=>⟨_,rfl,?_⟩;have zu:=vJ.tt k8;have XI:=k7.tt k8;by_cases he:G.score a=G.score b
 ·refine Split.no (by rw [he];simp) ⟨a.1,⟨a.2.1,Cells.bV (XI.heap xg (fun h=>h))⟩,b.1,⟨b.2.1,Cells.bV (XI.heap qd (fun h=>h))⟩,?_⟩
  refine tP a b fun w9 k9=>⟨_,rfl,?_⟩;have e:decide (lW a b<0)=gl G a b:=by
   rw [Bool.eq_iff_iff,decide_eq_true_eq,sJ];unfold gl;rw [decide_eq_false (by omega),decide_eq_true he];simp
  rw [e];exact hK w9 (zu.tt k9)
 ·refine Split.yes (by simp only [bne_iff_ne,ne_eq];omega) ?_
  have e:decide ((G.score a:Int)<(G.score b:Int))=gl G a b:=by
   unfold gl;rw [decide_eq_false he];simp
  rw [e];exact hK w8 zu
theorem KF(h:R3 w F r x k G)(hD:G.D.length<=5000){A:Option Addr}{n cx:Nat}{l:List HT}(hl:HS w A n l)(hn:n<=400000)(hK:∀w',Kept Nil w w'->K (.int .i64 (lD G.D l)) w'):
 bD prog bE.id #[.pointer (some ⟨r,0,none⟩),.slice A n cx] w K:=by
 have hlen:=hl.len;refine bE.of ?_;unfold bE.W;by_cases h0:n=0
 ·subst h0
  have e:l= []:=List.eq_nil_of_length_eq_zero hlen;refine Split.yes rfl ?_;have:=hK w (Kept.refl _ _);unfold lD at this;rw [if_pos e]at this;exact this
 have fP:l≠ []:=fun e=>by subst e;exact h0 hlen.symm
 refine Split.no (by simpa using (by omega:¬(n:Int)=0)) ?_;refine bE.cJ (I:=fun s v=>∃i:Nat,s=(0,(i:Int))/\i<=n/\(∀p∈l.take i,p∈ids G.D)/\Kept Nil w v) (μ:=fun s _=>((n:Int)-s.2).toNat) (s:=(0,0)) ⟨0,rfl,Nat.zero_le _,by simp,Kept.refl _ _⟩ ?_;rintro s v ⟨i,rfl,hi,cZ,kv⟩;unfold bE.B1;refine Split.dec (fun dg=>?_) (fun gK=>?_)
 ·simp only at dg
  have eh:i<n:=by omega
  obtain⟨y,hy⟩:∃y,l[i]? =some y:=⟨_,List.getElem?_eq_getElem (by omega)⟩;intro w3;have k3:Kept Nil v w3:=(Kept.refl _ _).drew;clear_value w3;have sq:=kv.tt k3;have h3:=h.same sq;refine Is.mk rfl ⟨_,h3.c1,Is.mk rfl ((hl.same sq).load (i:=(i:Int)) (by omega) hy ?_)⟩;rw [add_zero];refine pN h3.X.gr (by omega) y fun w4 k4=>⟨_,rfl,?_⟩;have qK:=sq.tt k4;refine Split.dec (fun AY=>?_) (fun jO=>?_)
  ·rw [iO]
   have:=hK w4 qK;unfold lD at this;rw [if_neg fP,if_pos ⟨y,List.mem_of_getElem? hy,sM.1 AY⟩]at this;exact this
  ·simp only
   rw [dH (n:=(i:Int)) (by omega) (by omega)];refine⟨(0,(i:Int)+1),rfl,⟨i+1,rfl,eh,fun p hp=>?_,qK⟩,by simp only;omega⟩;rcases(bT hy).1 hp with hp|rfl
   ·exact cZ p hp
   ·exact Classical.byContradiction fun e=>jO (sM.2 e)
 ·simp only at gK
  rw [aX,bE.dv];rw [List.take_of_length_le (by omega)]at cZ;have:=hK v kv;unfold lD at this;rw [if_neg fP,if_neg (fun⟨p,hp,hn⟩=>hn (cZ p hp))]at this;exact this
theorem uw(h:R3 w F r x k G)(hD:G.D.length<=5000){A:Option Addr}{n cx:Nat}{l:List HT}(hl:HS w A n l)(h0:l≠ [])(hn:n<=400000)(gB:∀y∈l,y∈ids G.D)(hK:∀w',Kept Nil w w'->K (.agg (bQ G l).1) w'):
 bD prog bn.id #[.pointer (some ⟨r,0,none⟩),.slice A n cx] w K:=by
 have hlen:=hl.len;obtain⟨x0,t,rfl⟩:∃x0 t,l=x0::t:=by cases l with|nil=>exact absurd rfl h0|cons a b=>exact⟨a,b,rfl⟩
 refine bn.of ?_;unfold bn.W;intro w1;have k1:Kept Nil w w1:=(Kept.refl _ _).alloc _;have nz:w1.heap[w.heap.size]? =some (.cells fz.1 al (0,0)):=aM w _;clear_value w1;simp only [List.length_cons]at hlen;refine(hl.same k1).load (i:=0) (by omega) rfl ?_;intro w2;have k2:Kept Nil w1 w2:=(Kept.refl _ _).alloc _;have nA:w2.heap[w1.heap.size]? =some (.cells fz.1 al (0,0)):=aM w1 _;clear_value w2;have jU:=k2.heap nz (fun h=>h);have l1:=aY nz;have l2:=aY nA;obtain⟨t1,t2,t3⟩:=iW x0 nA rfl;refine⟨t1,?_⟩;intro w3
 replace t2:w3.heap[w1.heap.size]? =some (.cells x0.1 al (0,0)):=t2
 replace t3:Kept (· =w1.heap.size) w2 w3:=t3
 clear_value w3;have s1:=k1.size;have jZ:Kept Nil w w3:=(k1.tt k2).trans t3 (fun j hj e=>by omega);have yU:=t3.heap jU (by omega);refine bn.cJ (I:=fun s v=>∃(i:Nat) (b:HT),s=(i:Int)/\1<=i/\i<=n/\b∈ids G.D/\((x0::t).drop i).foldl (fun b y=>if gl G b y then y else b) b=bQ G (x0::t)/\v.heap[w1.heap.size]? =some (.cells b.1 al (0,0))/\v.heap[w.heap.size]? =some (.cells fz.1 al (0,0))/\Kept Nil w v) (μ:=fun s _=>((n:Int)-s).toNat) (s:=1) ⟨1,x0,rfl,Nat.le_refl _,by omega,gB _ List.mem_cons_self,rfl,t2,yU,jZ⟩ ?_;rintro s v ⟨i,b,rfl,LF,wZ,hb,he,CY,T7,kv⟩;unfold bn.B1;refine Split.dec (fun dg=>?_) (fun gK=>?_)
 ·have eh:i<n:=by omega
  obtain⟨y,hy⟩:∃y,(x0::t)[i]? =some y:=⟨_,List.getElem?_eq_getElem (by simp;omega)⟩;have MY:y∈ids G.D:=gB _ (List.mem_of_getElem? hy);have hd:(x0::t).drop i=y::(x0::t).drop (i+1):=by
   obtain⟨q1,q2⟩:=lgeS hy;rw [List.drop_eq_getElem_cons q1,q2]
  rw [hd,List.foldl_cons]at he;intro w4;have k4:Kept Nil v w4:=(Kept.refl _ _).drew;clear_value w4;have qK:=kv.tt k4;have Pw:(x0::t)[((i:Nat):Int).toNat]? =some y:=by rw [Int.toNat_natCast];exact hy
  refine⟨b.1,⟨b.2.1,Cells.bV (k4.heap CY (fun h=>h))⟩,(hl.same qK).load (i:=(i:Int)) (by omega) Pw ?_⟩;refine qP (h.same qK) hD hb MY fun w5 k5=>⟨_,rfl,?_⟩;have xU:=qK.tt k5;have pC:=k5.heap (k4.heap CY (fun h=>h)) (fun h=>h);have sA:=k5.heap (k4.heap T7 (fun h=>h)) (fun h=>h);rw [dH (n:=(i:Int)) (by omega) (by omega)];refine Split.mk (fun x9=>?_) (fun hle=>?_)
  ·rw [if_pos x9]at he
   refine(hl.same xU).load (i:=(i:Int)) (by omega) Pw ?_;obtain⟨f1,f2,f3⟩:=iW y pC b.2.1;refine⟨f1,?_⟩;exact⟨(i:Int)+1,rfl,⟨i+1,y,rfl,by omega,by omega,MY,he,f2,f3.heap sA (by omega),xU.trans f3 (fun j hj e=>by omega)⟩,by simp only;omega⟩
  ·rw [if_neg (by rw [hle];decide)]at he
   exact⟨(i:Int)+1,rfl,⟨i+1,b,rfl,by omega,by omega,hb,he,pC,sA,xU⟩,by simp only;omega⟩
 ·rw [aX,bn.dv]
  rw [List.drop_eq_nil_of_le (by simp;omega)]at he
  replace he:b=bQ G (x0::t):=he
  subst he;refine⟨_,⟨tz _,Cells.bV CY⟩,?_⟩;obtain⟨f1,f2,f3⟩:=iW (bQ G (x0::t)) T7 rfl;exact⟨f1,_,⟨tz _,Cells.bV f2⟩,hK _ (kv.trans f3 (fun j hj e=>by omega))⟩
theorem pO(h:R3 w F r x k G)(hD:G.D.length<=5000){A:Option Addr}{n cx:Nat}{l:List HT}(hl:HS w A n l)(hn:n<=100000)(y:HT)(hK:∀A' c' w',cC w' w.heap.size A' (cg G.D l y).length c' (cg G.D l y)->Kept Nil w w'->K (.slice A' (cg G.D l y).length c') w'):
 bD prog bt.id #[.pointer (some ⟨r,0,none⟩),.slice A n cx,.agg y.1] w K:=by
 have hlen:=hl.len;refine bt.of ?_;unfold bt.W;intro w1;have k1:Kept Nil w w1:=(Kept.refl _ _).alloc _;have Lg:w1.heap[w.heap.size]? =some (.cells y.1 al (0,0)):=aM w _;clear_value w1;refine bt.cJ (I:=fun s v=>∃(i:Nat) (B:Option Addr) (c:Nat),s=(B,(cg G.D (l.take i) y).length,c,(i:Int))/\i<=n/\cC v w1.heap.size B (cg G.D (l.take i) y).length c (cg G.D (l.take i) y)/\Kept Nil w1 v) (μ:=fun s _=>((n:Int)-s.2.2.2).toNat) (s:=(none,0,0,0)) ⟨0,none,0,rfl,Nat.zero_le _,cC.nil _ _,Kept.refl _ _⟩ ?_;rintro s v ⟨i,B,c,rfl,hi,row,kv⟩;unfold bt.B1;have wT:=k1.tt kv;refine Split.dec (fun dg=>?_) (fun gK=>?_)
 ·simp only at dg
  have eh:i<n:=by omega
  obtain⟨z,hz⟩:∃z,l[i]? =some z:=⟨_,List.getElem?_eq_getElem (by omega)⟩;have rT:(cg G.D (l.take i) y).length<=100000:=by
   have:=List.length_filter_le (fun b=>decide (oC G.D b y)) (l.take i);have h2:=List.length_take_le i l;unfold cg;omega
  intro w3;have k3:Kept Nil v w3:=(Kept.refl _ _).drew;clear_value w3;have sq:=kv.tt k3;have jZ:=k1.tt sq;have h3:=h.same jZ;have zv:l[((i:Nat):Int).toNat]? =some z:=by rw [Int.toNat_natCast];exact hz
  refine Is.mk rfl ⟨_,h3.c1,Is.mk rfl ((hl.same jZ).load (i:=(i:Int)) (by omega) zv ⟨y.1,⟨y.2.1,Cells.bV (sq.heap Lg (fun h=>h))⟩,?_⟩)⟩;rw [add_zero];refine FB h3.X.gr h.hZ.W (by omega) z y fun w4 b hb k4=>⟨b,rfl,?_⟩
  replace hb:b=true↔oC G.D z y:=hb
  have qK:=sq.tt k4;have nt:=k1.tt qK;have kL:=Row.aJ row (k3.tt k4) (fun _ _ h=>h);have Gz:cg G.D (l.take (i+1)) y=cg G.D (l.take i) y++if oC G.D z y then [z]else []:=by
   rw [List.take_add_one,hz,gg]
   congr 1
   unfold cg;by_cases hp:oC G.D z y
   ·rw [if_pos hp];simp [hp]
   ·rw [if_neg hp];simp [hp]
  cases b with
  |true=>
   rw [if_pos (hb.1 rfl)]at Gz;refine Split.yes rfl ((hl.same nt).load (i:=(i:Int)) (by omega) zv ⟨z.2.1,?_⟩);intro w5;have k5:Kept Nil w4 w5:=(Kept.refl _ _).alloc _;have RC:=jF w4 z;have s5:=(qK.tt k5).size;obtain⟨A',c',w6,hr,yC,hg,_⟩:=dc (cx:=1) aF (Row.aJ kL k5 (fun _ _ h=>h)) RC (by omega) s5;refine⟨A',_,c',w6,hr,?_⟩;rw [dH (n:=(i:Int)) (by omega) (by omega)];have e:(cg G.D (l.take (i+1)) y).length=(cg G.D (l.take i) y).length+1:=by rw [Gz];simp
   refine⟨(A',(cg G.D (l.take i) y).length+1,c',(i:Int)+1),rfl,⟨i+1,A',c',by rw [e];rfl,eh,by rw [e,Gz];exact yC,?_⟩,by simp only;omega⟩;exact Kept.eA (qK.tt k5) hg (fun j hj=>(Row.bV row hj).1)
  |false=>
   rw [if_neg (fun e=>by have:=hb.2 e;cases this),List.append_nil]at Gz;refine Split.no rfl ?_;simp only;rw [dH (n:=(i:Int)) (by omega) (by omega)];exact⟨(B,(cg G.D (l.take i) y).length,c,(i:Int)+1),rfl,⟨i+1,B,c,by rw [Gz];rfl,eh,by rw [Gz];exact kL,qK⟩,by simp only;omega⟩
 ·simp only at gK
  rw [aX,bt.dv];rw [List.take_of_length_le (by omega)]at row;have e:i=n:=by omega
  subst e;rw [List.take_of_length_le (by omega)];exact hK B c v (Row.base row (fun j hj=>by have:=(Row.bV row hj).1;have:=k1.size;omega)) wT
end
structure VJ(v:World)(B0 xb rb:Nat)(x:pr)(A:Option Addr)(n cp:Nat)(E:Option Addr)(e ce:Nat)(W:Option Addr)(nw cw:Nat)(wd:List HT):Prop where
 top:v.heap[xb]? =some (.cells (di x A n cp E e ce) bL (0,0))
 mg:cC v B0 A n cp x.merge
 bl:Row v B0 jo 1 E e ce (tC x.fX)
 wr:cC v B0 W nw cw wd
 box:v.heap[rb]? =some (.cells zC bL (0,0))
 AE:∀j,bG A=some j->bG E≠some j
 AW:∀j,bG A=some j->bG W≠some j
 EW:∀j,bG E=some j->bG W≠some j
 xB:xb<B0
 rB:rb<B0
 xr:xb≠rb
section
variable{v v' u:World}{B0 xb rb n cp e ce nw cw:Nat}{x:pr}{A E W:Option Addr}{wd:List HT}{K:Value->World->Prop}
theorem VJ.same(h:VJ v B0 xb rb x A n cp E e ce W nw cw wd)(k:Kept Nil v v'):VJ v' B0 xb rb x A n cp E e ce W nw cw wd:=
 ⟨k.heap h.top (fun h=>h),Row.aJ h.mg k (fun _ _ h=>h),Row.aJ h.bl k (fun _ _ h=>h),Row.aJ h.wr k (fun _ _ h=>h),k.heap h.box (fun h=>h),h.AE,h.AW,h.EW,h.xB,h.rB,h.xr⟩
theorem VJ.f32(h:VJ v B0 xb rb x A n cp E e ce W nw cw wd):v.cell? ((⟨xb,0,none⟩:Addr).add 32)=some (.int .u64 (x.score:Int)):=by
 have:=(gN x A n cp E e ce #[]).1;rw [Array.append_empty]at this;rw [bC,aE h.top];exact this
theorem VJ.f33(h:VJ v B0 xb rb x A n cp E e ce W nw cw wd):v.cell? ((⟨xb,0,none⟩:Addr).add 33)=some (.slice A n cp):=by
 have:=(gN x A n cp E e ce #[]).2.1;rw [Array.append_empty]at this;rw [bC,aE h.top];exact this
theorem VJ.f34(h:VJ v B0 xb rb x A n cp E e ce W nw cw wd):v.cell? ((⟨xb,0,none⟩:Addr).add 34)=some (.slice E e ce):=by
 have:=(gN x A n cp E e ce #[]).2.2.1;rw [Array.append_empty]at this;rw [bC,aE h.top];exact this
theorem VJ.wrx(h:VJ v B0 xb rb x A n cp E e ce W nw cw wd){j:Nat}(hj:j<35):Wr v ((⟨xb,0,none⟩:Addr).add j):=by
 rw [bC];exact dN h.top (by rw [bH];omega)
theorem VJ.OH(h:VJ v B0 xb rb x A n cp E e ce W nw cw wd)(j:Nat)(z:Value):Kept (· =xb) v (v.setCell ((⟨xb,0,none⟩:Addr).add j) z):=by
 rw [bC];exact Kept.setCell (S:=(· =xb)) (Kept.refl _ v) (p:=⟨xb,0+j,none⟩) (fun _=>rfl) _
theorem VJ.OJ(h:VJ v B0 xb rb x A n cp E e ce W nw cw wd)(s:Nat):VJ (v.setCell ((⟨xb,0,none⟩:Addr).add 32) (.int .u64 (s:Int))) B0 xb rb {x with score:=s} A n cp E e ce W nw cw wd:=by
 have k:=h.OH 32 (.int .u64 (s:Int));have xB:=h.xB;refine⟨?_,Row.aJ h.mg k (fun j hj e=>by have:=(Row.bV h.mg hj).1;omega),Row.aJ h.bl k (fun j hj e=>by have:=(Row.bV h.bl hj).1;omega),Row.aJ h.wr k (fun j hj e=>by have:=(Row.bV h.wr hj).1;omega),k.heap h.box h.xr.symm,h.AE,h.AW,h.EW,h.xB,h.rB,h.xr⟩;rw [bC,dp h.top];have:=wm x A n cp E e ce #[] s;rw [Array.append_empty,Array.append_empty]at this;rw [this]
theorem VJ.SF(h:VJ v B0 xb rb x A n cp E e ce W nw cw wd)(hB:B0<=v.heap.size)(hn:nw<=100000){z:HT}(rz:Kept Nil v v'){bx:Nat}(hx:HS v' (some ⟨bx,0,none⟩) 1 [z]):
 ∃W' RZ u,(Builtin.append_ #[aF,aF] aF #[.slice W nw cw,.slice (some ⟨bx,0,none⟩) 1 1]).run prog v'=.ok (.slice W' (nw+1) RZ) u/\VJ u B0 xb rb x A n cp E e ce W' (nw+1) RZ (wd++ [z])/\Kept (fun j=>j=xb\/B0<=j) v u:=by
 have h':=h.same rz;have s16:=rz.size;obtain⟨W',c',u,hr,row,hg,hb⟩:=dc (cx:=1) aF h'.wr hx (by omega) (by omega);have kg:Kept (fun j=>bG W=some j) v' u:=Kept.grown (Kept.refl _ _) hg (fun j hj _=>hj);have nB:∀j,j<B0->bG W≠some j:=fun j hj e=>by have:=(Row.bV h.wr e).1;omega
 refine⟨W',c',u,hr,⟨kg.heap h'.top (nB _ h.xB),Row.aJ h'.mg kg (fun j hj=>h.AW j hj),Row.aJ h'.bl kg (fun j hj=>h.EW j hj),row,kg.heap h'.box (nB _ h.rB),h.AE,fun j hj e=>?_,fun j hj e=>?_,h.xB,h.rB,h.xr⟩,(rz.mono fun _ _ h=>h.elim).trans kg (fun j hj e=>.inr (Row.bV h.wr e).1)⟩
 ·rcases hb j e with e'|e'
  ·exact h.AW j hj e'
  ·obtain⟨_,cur,hc⟩:=Row.bV h'.mg hj
   have:=aY hc;omega
 ·rcases hb j e with e'|e'
  ·exact h.EW j hj e'
  ·obtain⟨_,cur,hc⟩:=Row.bV h'.bl hj
   have:=aY hc;omega
theorem VJ.HL(h:VJ v B0 xb rb x A n cp E e ce W nw cw wd)(hB:B0<=v.heap.size)(hn:e<=100000){b:Bool}(rz:Kept Nil v v'){bx:Nat}(hx:v'.cell? ⟨bx,0,none⟩=some (.bool b)):
 ∃E' sQ u,(Builtin.append_ #[ig,ig] ig #[.slice E e ce,.slice (some ⟨bx,0,none⟩) 1 1]).run prog v'=.ok (.slice E' (e+1) sQ) u/\Wr u ((⟨xb,0,none⟩:Addr).add 34)/\
  VJ (u.setCell ((⟨xb,0,none⟩:Addr).add 34) (.slice E' (e+1) sQ)) B0 xb rb {x with fX:=x.fX++ [b]} A n cp E' (e+1) sQ W nw cw wd/\Kept (fun j=>j=xb\/B0<=j) v (u.setCell ((⟨xb,0,none⟩:Addr).add 34) (.slice E' (e+1) sQ)):=by
 have h':=h.same rz;have s16:=rz.size;have xB:=h.xB;obtain⟨E',c',u,hr,row,hg,hb⟩:=fR (P:=prog) (t:=ig) (bytes:=1) (ty:=ig) Cd h'.bl (a:=⟨bx,0,none⟩) (m:=1) (cx:=1) (news:= [.bool b]) rfl (fun j z hj=>by
  cases j with
  |zero=>simp only [List.getElem?_cons_zero,Option.some.injEq]at hj;subst hj;rw [add_zero];exact hx
  |succ j=>simp at hj) (fun z hz=>by
  have:z=.bool b:=by simpa using hz
  subst this;rfl) (by omega) (by unfold maxLen;omega) (by omega)
 have kg:Kept (fun j=>bG E=some j) v' u:=Kept.grown (Kept.refl _ _) hg (fun j hj _=>hj);have nB:∀j,j<B0->bG E≠some j:=fun j hj e=>by have:=(Row.bV h.bl e).1;omega
 have top:=kg.heap h'.top (nB _ h.xB);have ks:Kept (· =xb) u (u.setCell ((⟨xb,0,none⟩:Addr).add 34) (.slice E' (e+1) c')):=by
  rw [bC];exact Kept.setCell (S:=(· =xb)) (Kept.refl _ u) (p:=⟨xb,0+34,none⟩) (fun _=>rfl) _
 have lS:Kept (fun j=>j=xb\/bG E=some j) v' (u.setCell ((⟨xb,0,none⟩:Addr).add 34) (.slice E' (e+1) c')):=(kg.mono fun _ _ h=>.inr h).trans ks (fun _ _ h=>.inl h);refine⟨E',c',u,hr,by rw [bC];exact dN top (by rw [bH];omega),⟨?_,?_,?_,?_,?_,fun j hj e=>?_,h.AW,fun j hj e=>?_,h.xB,h.rB,h.xr⟩,(rz.mono fun _ _ h=>h.elim).trans lS (fun j hj e=>e.imp (fun h=>h) (fun e=>(Row.bV h.bl e).1))⟩
 ·rw [bC,dp top]
  have:=rI x A n cp E e ce #[] E' (e+1) c';rw [Array.append_empty,Array.append_empty]at this;rw [this];rfl
 ·exact Row.aJ h'.mg lS (fun j hj e=>e.elim (fun e=>by have:=(Row.bV h.mg hj).1;omega) (h.AE j hj))
 ·have e1:tC (x.fX++ [b])=tC x.fX++ [.bool b]:=by simp [tC]
  show Row _ B0 jo 1 E' (e+1) c' (tC (x.fX++ [b]))
  rw [e1];exact Row.aJ row ks (fun j hj e=>by have:=(Row.bV row hj).1;omega)
 ·exact Row.aJ h'.wr lS (fun j hj e=>e.elim (fun e=>by have:=(Row.bV h.wr hj).1;omega) (fun e=>h.EW j e hj))
 ·exact lS.heap h'.box (fun e=>e.elim (fun e=>h.xr e.symm) (nB _ h.rB))
 ·rcases hb j e with e'|e'
  ·exact h.AE j hj e'
  ·obtain⟨_,cur,hc⟩:=Row.bV h'.mg hj
   have:=aY hc;omega
 ·rcases hb j hj with e'|e'
  ·exact h.EW j e' e
  ·obtain⟨_,cur,hc⟩:=Row.bV h'.wr e
   have:=aY hc;omega
end
section
variable{y w w':World}{F F' S:Nat->Prop}{r x k:Nat}{G:GS}{K:Value->World->Prop}{B0 xb rb n cp e ce nw cw:Nat}{A E W:Option Addr}{s:HT}{l:List HT}
set_option maxHeartbeats 2000000 in
theorem Fa(h:R3 y F r x k G)(hD:G.D.length<=300)(pB:k<=1000)(hB:B0<=y.heap.size)(iT:∀j,(j=r\/j=x\/F j)->j<B0/\j≠xb/\j≠rb)(hM:∀z∈cI G s l,z∈ids G.D)(hs:s∈ids G.D)
 (V:VJ y B0 xb rb ⟨s,G.score s+1,cI G s l,[]⟩ A n cp none 0 0 W nw cw (G.world s++ [s]))
 (hK:∀v E e ce W nw cw,VJ v B0 xb rb (dr k G s l) A n cp E e ce W nw cw (im k G s l).wd->Kept (fun j=>j=xb\/j=rb\/B0<=j) y (setCells v ⟨rb,0,none⟩ (di (dr k G s l) A n cp E e ce).toList 0)->K (.tuple #[.agg (di (dr k G s l) A n cp E e ce),.slice W nw cw]) (setCells v ⟨rb,0,none⟩ (di (dr k G s l) A n cp E e ce).toList 0)):
 af.dd (some ⟨r,0,none⟩) ⟨B0,0,none⟩ ⟨rb,0,none⟩ none 0 0 ⟨xb,0,none⟩ W nw cw none 0 0 0 K y:=by
 unfold af.dd;have IQ:(cI G s l).length<=300:=by
  have:=dJ (m:=ids G.D) (lM G s l).nodup hM;rw [iI]at this;omega
 have hn:(cI G s l).length=n:=cC.len V.mg;have hwl:=sT h.hZ hs;have Ew:=zX h.hZ hs;have hR:∀ {v:World},Kept (fun j=>j=xb\/B0<=j) y v->R3 v F r x k G:=fun kv=>h.aJ kv (fun e=>by have:=iT r (.inl rfl);omega) (fun e=>by have:=iT x (.inr (.inl rfl));omega) (fun j hj e=>by have:=iT j (.inr (.inr hj));omega);have vl:∀i,i<=n->(la k G s l i).wd.length<=700:=fun i hi=>by
  obtain⟨b,h1,h2⟩:=Hp k G.D (G.world s++ [s]) ((cI G s l).take i);have h3:=yp ((cI G s l).take i) b;rw [List.length_take]at h3;show(((cI G s l).take i).foldl (rV k G.D) ⟨G.world s++ [s],[]⟩).wd.length<=700;rw [h2];simp only [List.length_append,List.length_singleton];omega
 refine af.vC (I:=fun st v=>∃(i:Nat) (E:Option Addr) (e ce:Nat) (W:Option Addr) (nw cw:Nat),st=(W,nw,cw,(i:Int))/\i<=n/\VJ v B0 xb rb ⟨s,G.score s+1+(la k G s l i).bl.count true,cI G s l,(la k G s l i).bl⟩ A n cp E e ce W nw cw (la k G s l i).wd/\Kept (fun j=>j=xb\/B0<=j) y v) (μ:=fun st _=>((n:Int)-st.2.2.2).toNat) (s:=(W,nw,cw,0)) ⟨0,none,0,0,W,nw,cw,rfl,Nat.zero_le _,V,Kept.refl _ _⟩ ?_;rintro st v ⟨i,E,e,ce,W,nw,cw,rfl,hi,Vv,kv⟩;unfold af.B3;refine⟨A,n,cp,Vv.f33,Split.dec (fun dg=>?_) (fun gK=>?_)⟩
 ·simp only at dg
  have eh:i<n:=by omega
  obtain⟨z,hz⟩:∃z,(cI G s l)[i]? =some z:=⟨_,List.getElem?_eq_getElem (by omega)⟩;have oU:=zM (k:=k) hz;have zv:(cI G s l)[((i:Nat):Int).toNat]? =some z:=by rw [Int.toNat_natCast];exact hz
  have hnw:(la k G s l i).wd.length=nw:=cC.len Vv.wr;have XW:=vl i hi;have sv:=kv.size;refine⟨A,n,cp,Vv.f33,(cC.hs Vv.mg).load (i:=(i:Int)) (by omega) zv ?_⟩;refine pO (hR kv) (by omega) (cC.hs Vv.wr) (by omega) z fun N cN w4 Su k4=>⟨N,_,cN,rfl,?_⟩;have qK:=kv.trans k4 (fun _ _ h=>h.elim);have Yw:=hR qK;refine Is.mk rfl ⟨_,Yw.c0,?_⟩;have zy:(cg G.D (la k G s l i).wd z).length<=700:=by
   have:=List.length_filter_le (fun b=>decide (oC G.D b z)) (la k G s l i).wd;unfold cg;omega
  generalize Nr:cg G.D (la k G s l i).wd z=Ap at Su zy;have V4:=Vv.same k4;refine af.HZ (I:=fun st u=>∃(b:Bool) (q:Nat),st=(b,(q:Int))/\q<=Ap.length/\b=(decide (Ap.length<=k)&&(Ap.take q).all fun z=>decide ((cg G.D (la k G s l i).wd z).length+1<=k))/\Kept Nil w4 u) (μ:=fun st _=>((Ap.length:Int)-st.2).toNat) (s:=(decide ((Ap.length:Int)<=(k:Int)),0)) ⟨_,0,rfl,Nat.zero_le _,by simp,Kept.refl _ _⟩ ?_;rintro st u ⟨b,q,rfl,hq,hb,ku⟩;have XB:=qK.trans ku (fun _ _ h=>h.elim);have Vu:=V4.same ku;have fin:∀ {t:World},Kept Nil w4 t->b=qX k G.D (la k G s l i).wd z->af.DH (some ⟨r,0,none⟩) ⟨rb,0,none⟩ none 0 0 ⟨xb,0,none⟩ W nw cw (i:Int) N Ap.length cN b (q:Int) (bW (af.e3 (some ⟨r,0,none⟩) ⟨rb,0,none⟩ none 0 0 ⟨xb,0,none⟩) (fun st v=>∃(i:Nat) (E:Option Addr) (e ce:Nat) (W:Option Addr) (nw cw:Nat),st=(W,nw,cw,(i:Int))/\i<=n/\VJ v B0 xb rb ⟨s,G.score s+1+(la k G s l i).bl.count true,cI G s l,(la k G s l i).bl⟩ A n cp E e ce W nw cw (la k G s l i).wd/\Kept (fun j=>j=xb\/B0<=j) y v) (fun st _=>((n:Int)-st.2.2.2).toNat) (W,nw,cw,(i:Int)) v (af.q3 K)) t:=fun {t} kt CZ=>by
   have Vt:=V4.same kt;have Tg:=qK.trans kt (fun _ _ h=>h.elim);have st:=Tg.size;have Yr:(la k G s l i).bl.length=e:=by have:=(Row.bo Vt.bl).len;simpa using this
   have hbi:=DR k G s l i (by omega);unfold af.DH;refine⟨E,e,ce,Vt.f34,?_⟩;intro w5;have k5:Kept Nil t w5:=(Kept.refl _ _).alloc _;have pC:w5.cell? ⟨t.heap.size,0,none⟩=some (.bool b):=by rw [aE (aM t _)];rfl
   clear_value w5;obtain⟨E',sQ,u6,q1,q2,q3,q4⟩:=Vt.HL (by omega) (by omega) k5 pC;refine⟨E',e+1,sQ,u6,q1,q2,?_⟩;have Rs:=Tg.tt q4;rw [dH (n:=(i:Int)) (by omega) (by omega)];rw [rV,<-CZ]at oU;generalize u6.setCell ((⟨xb,0,none⟩:Addr).add 34) (.slice E' (e+1) sQ)=w6 at q3 q4 Rs⊢;have s6:=Rs.size;cases b with
   |false=>
    refine Split.no rfl ⟨(W,nw,cw,(i:Int)+1),rfl,⟨i+1,E',e+1,sQ,W,nw,cw,rfl,eh,?_,Rs⟩,by simp only;omega⟩;rw [oU];simpa [List.count_append]using q3
   |true=>
    refine Split.yes rfl ⟨A,n,cp,q3.f33,(cC.hs q3.mg).load (i:=(i:Int)) (by omega) zv ⟨z.2.1,?_⟩⟩;intro w7;have k7:Kept Nil w6 w7:=(Kept.refl _ _).alloc _;have Z7:=jF w6 z;obtain⟨W',RZ,w8,r1,r2,r3⟩:=q3.SF (by omega) (by omega) k7 Z7;refine⟨W',nw+1,RZ,w8,r1,_,r2.f32,r2.wrx (by omega),?_⟩;have ajW:(la k G s l i).bl.count true<=300:=by have:=List.count_le_length (a:=true) (l:=(la k G s l i).bl);omega
    have ew:u64.wrap (((G.score s+1+(la k G s l i).bl.count true:Nat):Int)+1)=((G.score s+1+(la k G s l i).bl.count true+1:Nat):Int):=by
     rw [show((G.score s+1+(la k G s l i).bl.count true:Nat):Int)+1=((G.score s+1+(la k G s l i).bl.count true+1:Nat):Int)by omega];exact km (by omega)
    simp only;rw [ew];have r4:=r2.OJ (G.score s+1+(la k G s l i).bl.count true+1);have r5:=r2.OH 32 (.int .u64 ((G.score s+1+(la k G s l i).bl.count true+1:Nat):Int));refine⟨(W',nw+1,RZ,(i:Int)+1),rfl,⟨i+1,E',e+1,sQ,W',nw+1,RZ,rfl,eh,?_,(Rs.tt r3).trans r5 (fun _ _ h=>.inl h)⟩,by simp only;omega⟩;rw [oU];have ec:((la k G s l i).bl++ [true]).count true=(la k G s l i).bl.count true+1:=by simp [List.count_append]
    simp only [if_true];rw [ec,<-Nat.add_assoc];exact r4
  unfold af.B4;refine Split.dec (fun U1=>?_) (fun Vn=>?_)
  ·simp only at U1
   refine Split.mk (fun xc=>?_) (fun xc=>?_)
   ·replace xc:b=true:=xc
    subst xc;have Lr:q<Ap.length:=by omega
    obtain⟨z2,XQ⟩:∃z2,Ap[q]? =some z2:=⟨_,List.getElem?_eq_getElem Lr⟩;intro w5;have k5:Kept Nil u w5:=(Kept.refl _ _).drew;clear_value w5;have FZ:=ku.tt k5;have xU:=qK.trans FZ (fun _ _ h=>h.elim);have hR5:=hR xU;refine((cC.hs Su).same FZ).load (i:=(q:Int)) (by omega) (by rw [Int.toNat_natCast];exact XQ) (Is.mk rfl ⟨_,hR5.c0,?_⟩);refine pO hR5 (by omega) (cC.hs (V4.same FZ).wr) (by omega) z2 fun N2 c2 w6 yC k6=>⟨N2,_,c2,rfl,?_⟩;have KZ:=FZ.tt k6;refine⟨(hR5.same k6).c0,?_⟩;simp only;rw [dH (n:=(q:Int)) (by omega) (by omega),iZ (x:=(k:Int)-1) (by omega) (by omega)];refine⟨(decide (((cg G.D (la k G s l i).wd z2).length:Int)<=(k:Int)-1),(q:Int)+1),rfl,⟨_,q+1,rfl,Lr,?_,KZ⟩,by simp only;omega⟩;rw [eq_comm,Bool.and_eq_true,decide_eq_true_eq]at hb;rw [decide_eq_true hb.1,Bool.true_and,List.take_add_one,XQ];simp only [Option.toList_some,List.all_append,hb.2,Bool.true_and,List.all_cons,List.all_nil,Bool.and_true];rw [decide_eq_decide];omega
   ·rw [aX,af.Hh]
    replace xc:b=false:=xc
    refine fin ku ?_;rw [xc]at hb⊢
    symm
    unfold qX;rw [Nr,decide_eq_false_iff_not];rintro⟨g1,g2⟩;rw [decide_eq_true g1,Bool.true_and]at hb;have:=List.all_eq_false.1 hb.symm;obtain⟨z0,Z5,Z4⟩:=this;exact Z4 (decide_eq_true (g2 z0 (List.mem_of_mem_take Z5)))
  ·simp only at Vn
   rw [aX,af.Hh];refine fin ku ?_;rw [List.take_of_length_le (by omega)]at hb;rw [hb];unfold qX;rw [Nr,Bool.eq_iff_iff,Bool.and_eq_true,decide_eq_true_eq,decide_eq_true_eq,List.all_eq_true];simp only [decide_eq_true_eq]
 ·simp only at gK
  have:i=n:=by omega
  subst this;rw [aX,af.BV];rw [<-hn,DS]at Vv;have GA:(⟨s,G.score s+1+(im k G s l).bl.count true,cI G s l,(im k G s l).bl⟩:pr)=dr k G s l:=rfl;rw [GA]at Vv;unfold af.xu;obtain⟨t1,t2,t3⟩:=fY Vv.box (cs:=di (dr k G s l) A (cI G s l).length cp E e ce) (by rw [bH];rfl);refine⟨_,⟨bH ..,Cells.bV Vv.top⟩,⟨bH ..,fu _ _ _ _ _ _ _,fun j hj=>t1 j (by rw [bH];exact hj)⟩,_,⟨bH ..,Cells.bV t2⟩,?_⟩;rw [hn]at t3 Vv⊢;exact hK v E e ce W nw cw Vv ((kv.mono fun _ _ h=>h.imp (fun h=>h) (fun h=>.inr h)).trans t3 (fun _ _ h=>.inr (.inl h)))
end
theorem Q9{G:GS}{l:List HT}{k:Nat}{x:HT}(h:SO G l)(h1:∀y∈l.take k,gl G y x=true)(h2:∀y∈l.drop k,gl G x y=true):SO G (l.take k++x::l.drop k):=by
 have h0:SO G (l.take k++l.drop k):=by rw [List.take_append_drop];exact h
 unfold SO at h0⊢;rw [List.pairwise_append]at h0⊢;refine⟨h0.1,List.pairwise_cons.2 ⟨h2,h0.2.1⟩,fun a ha b hb=>?_⟩;rcases List.mem_cons.1 hb with rfl|hb
 ·exact h1 a ha
 ·exact h0.2.2 a ha b hb
section
variable{y w w':World}{F F' S:Nat->Prop}{r x k:Nat}{G:GS}{K:Value->World->Prop}{B0 xb rb sb n cp e ce nw cw na ca:Nat}{A E W AA:Option Addr}{s:HT}{l all wd:List HT}
set_option maxHeartbeats 2000000 in
theorem Fb(h:R3 y F r x k G)(hD:G.D.length<=300)(hB:B0<=y.heap.size)(iT:∀j,(j=r\/j=x\/F j)->j≠xb)(hs:s∈ids G.D)(IB:y.heap[sb]? =some (.cells s.1 al (0,0)))(RE:sb≠xb)
 (cZ:HS y AA na all) (YA:∀a,AA=some a->a.block≠xb) (hSS:SS all) (gB:∀z∈all,z∈ids G.D)
 (V:VJ y B0 xb rb ⟨s,G.score s+1,[],[]⟩ none 0 0 none 0 0 W nw cw wd)
 (hK:∀v A n cp M i,SO G M->(∀z,z∈M↔z∈all/\z≠s/\¬fw G.D z s)->VJ v B0 xb rb ⟨s,G.score s+1,M,[]⟩ A n cp none 0 0 W nw cw wd->Kept (· =xb) y v->af.dd (some ⟨r,0,none⟩) ⟨sb,0,none⟩ ⟨rb,0,none⟩ none 0 0 ⟨xb,0,none⟩ W nw cw AA na ca i K v):
 Holds none [] prog 179 (.loop (lB (bB (sR (sL (cG (body af.fn))))))) (af.q1 K) [(0,.pointer (some ⟨r,0,none⟩)),(4,.pointer (some ⟨sb,0,none⟩)),(6,.pointer (some ⟨rb,0,none⟩)),(7,.slice none 0 0),(8,.pointer (some ⟨xb,0,none⟩)),(9,.slice W nw cw),(10,.slice AA na ca),(11,.int .i64 0)] y:=by
 have Lx:=cZ.len;have ai9:na<=300:=by
  have:=dJ (m:=ids G.D) hSS.nodup gB;rw [iI]at this;omega
 have hR:∀ {v:World},Kept (· =xb) y v->R3 v F r x k G:=fun kv=>h.aJ kv (iT r (.inl rfl)) (iT x (.inr (.inl rfl))) (fun j hj=>iT j (.inr (.inr hj)));refine af.cJ (I:=fun st v=>∃(i:Nat) (M:List HT) (A:Option Addr) (n cp:Nat),st=(i:Int)/\i<=na/\VJ v B0 xb rb ⟨s,G.score s+1,M,[]⟩ A n cp none 0 0 W nw cw wd/\SO G M/\(∀z,z∈M↔z∈all.take i/\z≠s/\¬fw G.D z s)/\Kept (· =xb) y v) (μ:=fun st _=>((na:Int)-st).toNat) (s:=0) ⟨0,[],none,0,0,rfl,Nat.zero_le _,V,List.Pairwise.nil,by simp,Kept.refl _ _⟩ ?_;rintro st v ⟨i,M,A,n,cp,rfl,hi,Vv,Ge,ji,kv⟩;unfold af.B1;refine Split.dec (fun dg=>?_) (fun gK=>?_)
 ·have eh:i<na:=by omega
  obtain⟨z,hz⟩:∃z,all[i]? =some z:=⟨_,List.getElem?_eq_getElem (by omega)⟩;have Pu:=gB z (List.mem_of_getElem? hz);have Gz:all.take (i+1)=all.take i++ [z]:=by rw [List.take_add_one,hz];rfl
  have hMi:∀y∈M,y∈ids G.D:=fun y hy=>gB y (List.mem_of_mem_take ((ji y).1 hy).1);have hMl:M.length<=300:=by
   have:=dJ (m:=ids G.D) Ge.nodup hMi;rw [iI]at this;omega
  have hMn:M.length=n:=cC.len Vv.mg;have sv:=kv.size;refine(cZ.aJ kv YA).load (i:=(i:Int)) (by omega) hz ?_;intro w2;obtain⟨tq,j0,kz⟩:=iL (w:=v) (z:=fz.1) (cs:=z.1) (t:=al) (by rw [z.2.1];rfl);refine⟨⟨z.2.1,z.2.one,fun j hj=>tq j (by rw [z.2.1];exact hj)⟩,?_⟩;intro w3 w4
  replace j0:w3.heap[v.heap.size]? =some (.cells z.1 al (0,0)):=j0
  replace kz:Kept Nil v w3:=kz
  have k4:Kept Nil w3 w4:=(Kept.refl _ _).drew;clear_value w4;have ud:=k4.heap j0 (fun h=>h);have O0:=kz.tt k4;clear_value w3;have qK:=kv.trans O0 (fun _ _ h=>h.elim);have PH:∀ {u:World},Kept (· =xb) y u->Cells u ⟨sb,0,none⟩ s.1:=fun ku=>Cells.bV (ku.heap IB RE);have next:∀ {u:World} {M':List HT} {A':Option Addr} {n' xh:Nat},VJ u B0 xb rb ⟨s,G.score s+1,M',[]⟩ A' n' xh none 0 0 W nw cw wd->SO G M'->(∀z,z∈M'↔z∈all.take (i+1)/\z≠s/\¬fw G.D z s)->Kept (· =xb) y u->
   ∃s1:Int,i64.wrap ((i:Int)+(1:Int))=s1/\(∃(i:Nat) (M:List HT) (A:Option Addr) (n cp:Nat),s1=(i:Int)/\i<=na/\VJ u B0 xb rb ⟨s,G.score s+1,M,[]⟩ A n cp none 0 0 W nw cw wd/\SO G M/\(∀z,z∈M↔z∈all.take i/\z≠s/\¬fw G.D z s)/\Kept (· =xb) y u)/\((na:Int)-s1).toNat<((na:Int)-(i:Int)).toNat:=fun h1 h2 h3 h4=>by
   rw [dH (n:=(i:Int)) (by omega) (by omega)];exact⟨(i:Int)+1,rfl,⟨i+1,_,_,_,_,rfl,eh,h1,h2,h3,h4⟩,by omega⟩
  have skip:(z=s\/fw G.D z s)->∀z',z'∈M↔z'∈all.take (i+1)/\z'≠s/\¬fw G.D z' s:=fun Z5 z'=>by
   rw [ji,Gz,List.mem_append,List.mem_singleton];constructor
   ·rintro⟨a,b⟩;exact⟨.inl a,b⟩
   ·rintro⟨a|rfl,b,c⟩
    ·exact⟨a,b,c⟩
    ·rcases Z5 with e|e
     ·exact absurd e b
     ·exact absurd e c
  refine⟨z.1,⟨z.2.1,Cells.bV ud⟩,s.1,⟨s.2.1,PH qK⟩,⟨z.2.ints,s.2.ints⟩,?_⟩;rw [fL];refine Split.dec (fun Eu=>?_) (fun Eu=>?_)
  ·obtain⟨s1,e1,e2,e3⟩:=next (Vv.same O0) Ge (skip (.inl Eu)) qK
   rw [e1];exact⟨s1,rfl,e2,e3⟩
  have Yw:=hR qK;refine Is.mk rfl ⟨_,Yw.c1,Is.mk rfl ⟨z.1,⟨z.2.1,Cells.bV ud⟩,s.1,⟨s.2.1,PH qK⟩,?_⟩⟩;rw [add_zero];refine ri Yw.X.gr h.hZ.W (by omega) z s fun w5 b hb k5=>⟨b,rfl,?_⟩;have OZ:=O0.tt k5;have xU:=kv.trans OZ (fun _ _ h=>h.elim);refine Split.mk (fun hbt=>?_) (fun Ys=>?_)
  ·obtain⟨s1,e1,e2,e3⟩:=next (Vv.same OZ) Ge (skip (.inr (hb.1 hbt))) xU
   rw [e1];exact⟨s1,rfl,e2,e3⟩
  have hzA:¬fw G.D z s:=fun e=>by rw [hb.2 e]at Ys;cases Ys
  have V5:=Vv.same OZ;have pC:=k5.heap ud (fun h=>h);have hzM:z∉M:=fun e=>by
   have h1:=((ji z).1 e).1;have gA:=hSS.nodup;obtain⟨q,hq⟩:=List.mem_iff_getElem?.1 h1;rw [List.getElem?_take]at hq;split at hq
   ·rename_i hqi
    have:=(List.getElem?_inj (i:=q) (j:=i) (by rw [Lx];omega) gA).1 (by rw [hq,hz]);omega
   ·cases hq
  refine⟨A,n,cp,V5.f33,?_⟩;refine af.iG (I:=fun st u=>∃q:Nat,st=(q:Int)/\q<=M.length/\(∀y∈M.drop q,gl G z y=true)/\Kept Nil w5 u) (μ:=fun st _=>st.toNat) (s:=(n:Int)) ⟨n,rfl,by omega,by rw [<-hMn];simp,Kept.refl _ _⟩ ?_;rintro st u ⟨q,rfl,hq,vQ,ku⟩;unfold af.B2;have vP:∀ {t:World},Kept Nil w5 t->(∀y∈M.take q,gl G y z=true)->af.jr (some ⟨r,0,none⟩) ⟨sb,0,none⟩ ⟨rb,0,none⟩ none 0 0 ⟨xb,0,none⟩ W nw cw AA na ca (i:Int) ⟨v.heap.size,0,none⟩ (q:Int) (bW (af.e1 (some ⟨r,0,none⟩) ⟨sb,0,none⟩ ⟨rb,0,none⟩ none 0 0 ⟨xb,0,none⟩ W nw cw AA na ca) (fun st v=>∃(i:Nat) (M:List HT) (A:Option Addr) (n cp:Nat),st=(i:Int)/\i<=na/\VJ v B0 xb rb ⟨s,G.score s+1,M,[]⟩ A n cp none 0 0 W nw cw wd/\SO G M/\(∀z,z∈M↔z∈all.take i/\z≠s/\¬fw G.D z s)/\Kept (· =xb) y v) (fun st _=>((na:Int)-st).toNat) (i:Int) v (af.q1 K)) t:=by
   intro t kt Iz;have Vt:=V5.same kt;have Tg:=xU.trans kt (fun _ _ h=>h.elim);have st:=Tg.size;have yA:=Vt.mg;have I0:n<=cp:=by rcases Row.own yA with⟨_,h1,h2,_⟩|⟨_,_,_,_,_,h1,_⟩<;>omega
   unfold af.jr;refine⟨A,n,cp,Vt.f33,⟨by omega,by omega⟩,?_⟩;have wG:HS t (if cp=0 then A else A.map (·.add (0*32))) ((q:Int).toNat -0) (M.take q):=by
    have h:=yA.hs.take (k:=q) (by omega);rw [Nat.sub_zero,Int.toNat_natCast];have e:(if cp=0 then A else A.map (·.add (0*32)))=A:=by
     split
     ·rfl
     ·cases A<;>simp [add_zero]
    rw [e];exact h
   obtain⟨A1,c1,u2,nz,hU,LK,nA⟩:=dc (cx:=cp-0) aF (cC.nil t t.heap.size) wG (by simp;omega) (Nat.le_refl _);have k2:Kept Nil t u2:=Kept.eA (Kept.refl _ _) LK (fun k hk=>by cases hk);rw [Nat.zero_add,Nat.sub_zero,Int.toNat_natCast]at nz hU;rw [List.nil_append]at hU;refine⟨A1,_,c1,u2,by rw [Nat.sub_zero,Int.toNat_natCast];exact nz,?_⟩;refine⟨z.1,⟨z.2.1,Cells.bV ((kt.tt k2).heap pC (fun h=>h))⟩,z.2.1,?_⟩;intro u3;have k3:Kept Nil u2 u3:=(Kept.refl _ _).alloc _;have VZ:HS u3 (some ⟨u2.heap.size,0,none⟩) 1 [z]:=jF u2 z;clear_value u3;have nE:cC u3 t.heap.size A1 q c1 (M.take q):=Row.aJ hU k3 (fun _ _ h=>h);have s2:=k2.size;have s3:=k3.size;obtain⟨A4,c4,u4,x7,kL,EG,aj4⟩:=dc (cx:=1) aF nE VZ (by omega) (by omega);have XO:Kept Nil t u4:=Kept.eA (k2.tt k3) EG (fun k hk=>by rcases nA k hk with h|h;cases h;exact h);have V4:=Vt.same XO;refine⟨A4,_,c4,u4,x7,A,n,cp,V4.f33,⟨by omega,by omega⟩,?_⟩;have Nf:HS u4 (if cp=(q:Int).toNat then A else A.map (·.add ((q:Int).toNat*32))) (n-(q:Int).toNat) (M.drop q):=by
    rw [Int.toNat_natCast];exact(yA.hs.same XO).drop I0 (by omega)
   have hdl:(n-(q:Int).toNat)=n-q:=by rw [Int.toNat_natCast]
   have s4:=XO.size;obtain⟨A5,c5,u5,sA,lC,LJ,aj3⟩:=dc (cx:=cp-(q:Int).toNat) aF kL Nf (by omega) s4;have RW:∀j,bG A4=some j->t.heap.size<=j:=fun j hj=>(Row.bV kL hj).1;have k5':Kept Nil t u5:=Kept.eA XO LJ RW;have Hd:=Vt.same k5';refine⟨A5,_,c5,u5,sA,Hd.wrx (by omega),?_⟩;have nK:M.take q++ [z]++M.drop q=M.take q++z::M.drop q:=by simp
   have zy:(M.take q++z::M.drop q).length=n+1:=by simp;omega
   rw [nK]at lC;have e5:q+1+(n-(q:Int).toNat)=n+1:=by omega
   rw [e5]at lC⊢;have Gs:∀j,bG A5=some j->t.heap.size<=j:=fun j hj=>(Row.bV lC hj).1;have ks:=Hd.OH 33 (.slice A5 (n+1) c5);have Vf:VJ (u5.setCell ((⟨xb,0,none⟩:Addr).add 33) (.slice A5 (n+1) c5)) B0 xb rb ⟨s,G.score s+1,M.take q++z::M.drop q,[]⟩ A5 (n+1) c5 none 0 0 W nw cw wd:=by
    have xB:=Hd.xB;refine⟨?_,?_,Row.aJ Hd.bl ks (fun j hj=>by cases hj),Row.aJ Hd.wr ks (fun j hj e=>by have:=(Row.bV Hd.wr hj).1;omega),ks.heap Hd.box Hd.xr.symm,fun j hj e=>(by cases e),fun j hj e=>?_,fun j hj=>(by cases hj),Hd.xB,Hd.rB,Hd.xr⟩
    ·rw [bC,dp Hd.top]
     have:=rJ ⟨s,G.score s+1,M,[]⟩ A n cp none 0 0 #[] A5 (n+1) c5;rw [Array.append_empty,Array.append_empty]at this;rw [this];rfl
    ·have T9:cC u5 B0 A5 (n+1) c5 (M.take q++z::M.drop q):=Row.base lC (fun j hj=>by have:=Gs j hj;omega)
     exact Row.aJ T9 ks (fun j hj e=>by have:=Gs j hj;omega)
    ·obtain⟨_,cur,hc⟩:=Row.bV Vt.wr e
     have:=aY hc;have:=Gs j hj;omega
   generalize u5.setCell ((⟨xb,0,none⟩:Addr).add 33) (.slice A5 (n+1) c5)=u6 at ks Vf⊢;obtain⟨s1,e1,e2,e3⟩:=next Vf (Q9 Ge Iz vQ) (fun z'=>by
    rw [Gz,List.mem_append (s:=all.take i),List.mem_singleton];have hM2:z'∈M.take q++z::M.drop q↔z'=z\/z'∈M:=by
     rw [List.mem_append,List.mem_cons];constructor
     ·rintro(h|h|h)
      ·exact .inr (List.mem_of_mem_take h)
      ·exact .inl h
      ·exact .inr (List.mem_of_mem_drop h)
     ·rintro(h|h)
      ·exact .inr (.inl h)
      ·rw [<-List.take_append_drop q M,List.mem_append]at h
       exact h.imp (fun h=>h) (fun h=>.inr h)
    rw [hM2,ji];constructor
    ·rintro(rfl|⟨a,b⟩)
     ·exact⟨.inr rfl,Eu,hzA⟩
     ·exact⟨.inl a,b⟩
    ·rintro⟨a|rfl,b⟩
     ·exact .inr ⟨a,b⟩
     ·exact .inl rfl) ((Tg.trans k5' (fun _ _ h=>h.elim)).tt ks)
   rw [e1];exact⟨s1,rfl,e2,e3⟩
  intro w6;have k6:Kept Nil u w6:=(Kept.refl _ _).drew;clear_value w6;have KZ:=ku.tt k6;have V6:=V5.same KZ;have Rs:=xU.trans KZ (fun _ _ h=>h.elim);refine Split.dec (fun jO=>?_) (fun AY=>?_)
  ·have Ul:0<q:=by omega
   obtain⟨y1,Lg⟩:∃y1,M[q-1]? =some y1:=⟨_,List.getElem?_eq_getElem (by omega)⟩;have MY:=List.mem_of_getElem? Lg;rw [wN (x:=(q:Int)-1) (i:=q-1) (by omega) (by omega)];refine⟨z.1,⟨z.2.1,Cells.bV (KZ.heap pC (fun h=>h))⟩,A,n,cp,V6.f33,(cC.hs V6.mg).load (i:=((q-1:Nat):Int)) (by omega) (by rw [Int.toNat_natCast];exact Lg) ?_⟩;refine qP (hR Rs) (by omega) Pu (hMi y1 MY) fun w7 k7=>⟨_,rfl,?_⟩;have ku7:=KZ.tt k7;refine Split.mk (fun hc=>?_) (fun hc=>?_)
   ·refine⟨((q-1:Nat):Int),rfl,⟨q-1,rfl,by omega,fun z' zv=>?_,ku7⟩,by simp only;omega⟩
    have hd:M.drop (q-1)=y1::M.drop q:=by
     obtain⟨h1,h2⟩:=lgeS Lg;rw [List.drop_eq_getElem_cons h1,h2,show q-1+1=q by omega]
    rw [hd]at zv;rcases List.mem_cons.1 zv with rfl|zv
    ·exact hc
    ·exact vQ z' zv
   ·rw [aX,af.kW]
    refine vP ku7 fun z' zv=>?_;have Ev:gl G y1 z=true:=by
     cases hg:gl G y1 z
     ·exact absurd (mV hc hg) (fun e=>hzM (by rw [e];exact MY))
     ·rfl
    obtain⟨j,hj⟩:=List.mem_iff_getElem?.1 zv;rw [List.getElem?_take]at hj;split at hj
    ·rename_i hjq
     by_cases e:j=q-1
     ·subst e;rw [Lg]at hj;cases hj;exact Ev
     ·obtain⟨a1,a2⟩:=lgeS hj
      obtain⟨b1,b2⟩:=lgeS Lg;have:=List.pairwise_iff_getElem.1 Ge j (q-1) a1 b1 (by omega);rw [a2,b2]at this;exact mU this Ev
    ·cases hj
  ·rw [aX,af.kW]
   have Ul:q=0:=by omega
   refine vP KZ fun z' zv=>?_;rw [Ul]at zv;simp at zv
 ·rw [aX,af.dv]
  rw [List.take_of_length_le (by omega)]at ji;exact hK v A n cp M (i:Int) Ge ji Vv kv
end
section
variable{w w':World}{F F' S:Nat->Prop}{r x k:Nat}{G:GS}{K:Value->World->Prop}{xb rb sb n cx:Nat}{A:Option Addr}{s:HT}{l:List HT}
theorem Ow{v:World}(h:R3 v F r x k G)(hD:G.D.length<=300)(pB:k<=1000)(hs:s∈ids G.D)(hl:HS v A n l)(hn:n<=5000)(gB:∀z∈l,z∈ids G.D)(iT:∀j,(j=r\/j=x\/F j)->j≠xb/\j≠rb)
 (IB:v.heap[sb]? =some (.cells s.1 al (0,0))) (Gh:v.heap[rb]? =some (.cells zC bL (0,0))) (M1:v.heap[xb]? =some (.cells (di ⟨s,G.score s+1,[],[]⟩ none 0 0 none 0 0) bL (0,0))) (RE:sb≠xb) (hrx:xb≠rb)
 (hK:∀u A n cp E e ce W nw cw,cC u v.heap.size A n cp (dr k G s l).merge->Row u v.heap.size jo 1 E e ce (tC (dr k G s l).fX)->cC u v.heap.size W nw cw (im k G s l).wd->Kept (fun j=>j=xb\/j=rb) v u->K (.tuple #[.agg (di (dr k G s l) A n cp E e ce),.slice W nw cw]) u):
 af.J1 (some ⟨r,0,none⟩) A n cx ⟨sb,0,none⟩ ⟨rb,0,none⟩ none 0 0 ⟨xb,0,none⟩ K v:=by
 have W0:=h.hZ.W;have lsb:=aY IB;have lrb:=aY Gh;have lxb:=aY M1;have hwl:=sT h.hZ hs;have j2:∀ {u:World} {W:Option Addr} {nw cw:Nat},cC u v.heap.size W nw cw (G.world s++ [s])->Kept Nil v u->af.J2 (some ⟨r,0,none⟩) A n cx ⟨sb,0,none⟩ ⟨rb,0,none⟩ none 0 0 ⟨xb,0,none⟩ W nw cw K u:=by
  intro u W nw cw Zp ku;have hu:=h.same ku;have su:=ku.size;unfold af.J2;refine Is.mk rfl ⟨_,hu.c1,Is.mk rfl ?_⟩;rw [add_zero];refine Ag hu.X.gr W0 (by omega) (hl.same ku) (by omega) fun A1 c1 w1 nW k1=>⟨A1,_,c1,rfl,?_⟩;have rT:(eF G.D l).length<=300:=Nat.le_trans (nY _ _) hD;have s1:=k1.size;have F0:=ku.tt k1;obtain⟨A2,c2,w2,jU,hU,g2,_⟩:=dc aF nW (cx:=cx) (hl.same F0) (by omega) s1;have k2:Kept Nil u w2:=Kept.eA k1 g2 (fun j hj=>(Row.bV nW hj).1);refine⟨A2,_,c2,w2,jU,?_⟩;refine rh hU.hs (by omega) fun A3 c3 w3 nE k3=>⟨A3,_,c3,rfl,?_⟩;have ML:=k2.tt k3;have sq:=ku.tt ML;have h3:=h.same sq;have cZ:∀z∈dB (eF G.D l++l),z∈ids G.D:=fun z hz=>by
   rcases List.mem_append.1 (dT.1 hz)with hz|hz
   ·exact(ki.1 hz).1
   ·exact gB z hz
  have V3:VJ w3 v.heap.size xb rb ⟨s,G.score s+1,[],[]⟩ none 0 0 none 0 0 W nw cw (G.world s++ [s]):=
   ⟨sq.heap M1 (fun h=>h),cC.nil _ _,Row.nil _ _ _ _,Row.aJ Zp ML (fun _ _ h=>h),sq.heap Gh (fun h=>h),fun j hj=>(by cases hj),fun j hj=>(by cases hj),fun j hj=>(by cases hj),lxb,lrb,hrx⟩
  have s3:=sq.size;refine Fb h3 (by omega) (by omega) (fun j hj=>(iT j hj).1) hs (sq.heap IB (fun h=>h)) RE nE.hs (fun a ha e=>by
   subst ha;have:=(Row.bV nE (k:=a.block) rfl).1;have:=(ku.tt k2).size;omega) (ju _) cZ V3 fun t A n cp M i Ge ji Vt kt=>?_
  have hM:M=cI G s l:=ti Ge fun z=>by
   rw [ji];unfold pX;rw [List.mem_filter,decide_eq_true_eq]
  subst hM;have ht:=h3.aJ kt (iT r (.inl rfl)).1 (iT x (.inr (.inl rfl))).1 (fun j hj=>(iT j (.inr (.inr hj))).1);have st:=kt.size;refine Fa (B0:=v.heap.size) ht (by omega) pB (by omega) (fun j hj=>⟨?_,iT j hj⟩) (fun z hz=>?_) hs Vt fun t2 E e ce W nw cw V2 G1=>?_
  ·rcases hj with rfl|rfl|hj
   ·exact h.lt
   ·exact h.lx
   ·exact h.lo j hj
  ·exact cZ z ((ji z).1 hz).1
  ·have box:=V2.box
   obtain⟨_,_,f3⟩:=fY box (cs:=di (dr k G s l) A n cp E e ce) (by rw [bH];rfl);refine hK _ A n cp E e ce W nw cw (Row.aJ V2.mg f3 (fun j hj e=>by have:=(Row.bV V2.mg hj).1;omega)) (Row.aJ V2.bl f3 (fun j hj e=>by have:=(Row.bV V2.bl hj).1;omega)) (Row.aJ V2.wr f3 (fun j hj e=>by have:=(Row.bV V2.wr hj).1;omega)) ?_;exact((sq.mono fun _ _ h=>h.elim).trans kt (fun j hj e=>.inl e)).trans G1 (fun j hj e=>by
    rcases e with e|e|e
    ·exact .inl e
    ·exact .inr e
    ·omega)
 unfold af.J1;intro w1;have k1:Kept Nil v w1:=(Kept.refl _ _).drew;clear_value w1;have h1:=h.same k1;obtain⟨i,nd,cl,wl,q1,q2,q3,q4,q5,q6,q7,q8⟩:=Od h.hZ hs;obtain⟨A0,c0,B,e,g1,g2,g3⟩:=h.top;have cB:∀ {u:World},Kept Nil v u->u.cell? ((⟨r,0,none⟩:Addr).add 3)=some (.slice B G.D.length e):=fun ku=>by rw [bC,aE (ku.heap g1 (fun h=>h))];rfl
 have gW:∀ {u:World},Kept Nil v u->qu u F B G.D.length G.kZ:=fun ku=>g3.aJ ku (fun _ _ h=>h);obtain⟨aB,Aw,nw,cw,p1,p2,p3,p4,p5,p6⟩:=g3.at_ i wl q4;subst p1;have aif:wl.length=nw:=p5.len;rw [q7]at hwl;have cW:∀ {u:World},Kept Nil v u->u.cell? (aB.add (((i:Nat):Int).toNat*1))=some (.slice Aw nw cw):=fun ku=>by rw [Int.toNat_natCast];exact ku.cell p4 (fun h=>h)
 have hW:∀ {u:World},Kept Nil v u->HS u Aw nw wl:=fun ku=>p5.same ku;have bx:∀ {u:World},Kept Nil v u->∃cs:Array Value,(.agg s.1:Value)=.agg cs/\cs.size=32/\Cells u ⟨sb,0,none⟩ cs:=fun ku=>⟨_,rfl,s.2.1,Cells.bV (ku.heap IB (fun h=>h))⟩;have Q4:∀ {u:World},Kept Nil v u->∃A' c' u',(Builtin.append_ #[aF,aF] aF #[.slice none 0 0,.slice Aw nw cw]).run prog u=.ok (.slice A' nw c') u'/\cC u' v.heap.size A' nw c' wl/\Kept Nil u u':=fun {u} ku=>by
  obtain⟨A',c',u',hr,row,hg,_⟩:=dc (cx:=cw) aF (cC.nil u v.heap.size) (hW ku) (by omega) ku.size;rw [Nat.zero_add]at hr row;rw [List.nil_append]at row;exact⟨A',c',u',hr,row,Kept.eA (Kept.refl _ _) hg (fun j hj=>by cases hj)⟩
 have Q3:∀ {u:World} {A':Option Addr} {c' bq:Nat},Kept Nil v u->cC u v.heap.size A' nw c' wl->HS u (some ⟨bq,0,none⟩) 1 [s]->∃A2 c2 u',(Builtin.append_ #[aF,aF] aF #[.slice A' nw c',.slice (some ⟨bq,0,none⟩) 1 1]).run prog u=.ok (.slice A2 (nw+1) c2) u'/\cC u' v.heap.size A2 (nw+1) c2 (G.world s++ [s])/\Kept Nil v u':=fun {u A' c' bq} ku row hx=>by
  obtain⟨A2,c2,u',hr,hU,hg,_⟩:=dc (cx:=1) aF row hx (by omega) ku.size;rw [<-q7]at hU;exact⟨A2,c2,u',hr,hU,Kept.eA ku hg (fun j hj=>(Row.bV row hj).1)⟩
 refine Is.mk rfl ⟨some aB,_,e,cB k1,Is.mk rfl ⟨_,h1.c1,Is.mk rfl ⟨s.1,⟨s.2.1,Cells.bV (k1.heap IB (fun h=>h))⟩,s.1,⟨s.2.1,Cells.bV (k1.heap IB (fun h=>h))⟩,?_,?_⟩⟩⟩
 ·rw [add_zero]
  refine pN h1.X.gr (by omega) s fun w2 k2=>⟨_,rfl,?_⟩;have zq:=k1.tt k2;rw [q5];refine⟨bx zq,cB zq,⟨by omega,by omega⟩,Is.mk rfl ⟨Aw,nw,cw,cW zq,?_,?_⟩⟩
  ·obtain⟨A1,c1,w3,yU,nE,k3⟩:=Q4 zq
   have sq:=zq.tt k3;refine⟨A1,nw,c1,w3,yU,bx sq,s.2.1,?_⟩;intro w4;have k4:Kept Nil w3 w4:=(Kept.refl _ _).alloc _;have TP:=jF w3 s;obtain⟨A2,c2,w5,sA,lC,k5⟩:=Q3 (sq.tt k4) (Row.aJ nE k4 (fun _ _ h=>h)) TP;exact⟨A2,nw+1,c2,w5,sA,af.qU (j2 lC k5)⟩
  ·refine⟨s.2.1,?_⟩
   intro w3;have k3:Kept Nil w2 w3:=(Kept.refl _ _).alloc _;have BM:HS w3 (some ⟨w2.heap.size,0,none⟩) 1 [s]:=jF w2 s;clear_value w3;have sq:=zq.tt k3;obtain⟨A1,c1,w4,x7,kL,k4⟩:=Q4 sq;obtain⟨A2,c2,w5,sA,lC,k5⟩:=Q3 (sq.tt k4) kL (BM.same k4);exact⟨cW sq,cB sq,A1,nw,c1,w4,x7,A2,nw+1,c2,w5,sA,af.qU (j2 lC k5)⟩
 ·refine⟨s.2.1,?_⟩
  intro w2;have k2:Kept Nil w1 w2:=(Kept.refl _ _).alloc _;have Lj:HS w2 (some ⟨w1.heap.size,0,none⟩) 1 [s]:=jF w1 s;clear_value w2;have zq:=k1.tt k2;refine⟨bx zq,(h.same zq).c1,cB zq,?_⟩;rw [add_zero];refine pN (h.same zq).X.gr (by omega) s fun w3 k3=>⟨_,rfl,?_⟩;have sq:=zq.tt k3;rw [q5];obtain⟨A1,c1,w4,x7,kL,k4⟩:=Q4 sq;obtain⟨A2,c2,w5,sA,lC,k5⟩:=Q3 (sq.tt k4) kL ((Lj.same k3).same k4);exact⟨cB sq,⟨by omega,by omega⟩,Is.mk rfl ⟨Aw,nw,cw,cW sq,A1,nw,c1,w4,x7,A2,nw+1,c2,w5,sA,af.qU (j2 lC k5)⟩⟩
theorem wM(h:R3 w F r x k G)(hD:G.D.length<=300)(pB:k<=1000)(hs:s∈ids G.D)(hl:HS w A n l)(hn:n<=5000)(gB:∀z∈l,z∈ids G.D)
 (hK:∀u A n cp E e ce W nw cw,cC u w.heap.size A n cp (dr k G s l).merge->Row u w.heap.size jo 1 E e ce (tC (dr k G s l).fX)->cC u w.heap.size W nw cw (im k G s l).wd->Kept Nil w u->K (.tuple #[.agg (di (dr k G s l) A n cp E e ce),.slice W nw cw]) u):
 bD prog af.id #[.pointer (some ⟨r,0,none⟩),.agg s.1,.slice A n cx] w K:=by
 refine af.of ?_;unfold af.W;intro w1 w2 w3;have k1:Kept Nil w w1:=(Kept.refl _ _).alloc _;have wG:w1.heap[w.heap.size]? =some (.cells s.1 al (0,0)):=aM w _;have k2:Kept Nil w1 w2:=(Kept.refl _ _).alloc _;have jU:w2.heap[w1.heap.size]? =some (.cells zC bL (0,0)):=aM w1 _;have k3:Kept Nil w2 w3:=(Kept.refl _ _).drew;clear_value w3;have yU:=k3.heap jU (fun h=>h);have CI:=k3.heap (k2.heap wG (fun h=>h)) (fun h=>h);have jZ:=(k1.tt k2).tt k3;have s1:=k1.size;have l1:=aY wG;have l2:=aY yU;clear_value w2 w1;have Ew:=zX h.hZ hs;have ew:u64.wrap ((G.score s:Int)+(1:Int))=((G.score s+1:Nat):Int):=by
  rw [show(G.score s:Int)+1=((G.score s+1:Nat):Int)by omega];exact km (by omega)
 have GA:(s.1++ #[.int .u64 ((G.score s+1:Nat):Int),.slice none 0 0,.slice none 0 0]:Array Value)=di ⟨s,G.score s+1,[],[]⟩ none 0 0 none 0 0:=rfl;have go:∀ {u:World} {xb:Nat},Kept Nil w3 u->w3.heap.size<=xb->u.heap[xb]? =some (.cells (di ⟨s,G.score s+1,[],[]⟩ none 0 0 none 0 0) bL (0,0))->af.J1 (some ⟨r,0,none⟩) A n cx ⟨w.heap.size,0,none⟩ ⟨w1.heap.size,0,none⟩ none 0 0 ⟨xb,0,none⟩ K u:=fun {u xb} ku hx M1=>by
  have XP:=jZ.tt ku;have s0:=jZ.size;refine Ow (h.same XP) hD pB hs (hl.same XP) hn gB (fun j hj=>?_) (ku.heap CI (fun h=>h)) (ku.heap yU (fun h=>h)) M1 (by omega) (by omega) fun t A n cp E e ce W nw cw g1 g2 g3 g4=>?_
  ·have:j<w.heap.size:=by
    rcases hj with rfl|rfl|hj
    ·exact h.lt
    ·exact h.lx
    ·exact h.lo j hj
   exact⟨by omega,by omega⟩
  ·have s0u:=XP.size
   exact hK t A n cp E e ce W nw cw (Row.base g1 (fun j hj=>by have:=(Row.bV g1 hj).1;omega)) (Row.base g2 (fun j hj=>by have:=(Row.bV g2 hj).1;omega)) (Row.base g3 (fun j hj=>by have:=(Row.bV g3 hj).1;omega)) (XP.trans g4 (fun j hj e=>by rcases e with e|e<;>omega))
 have bx:∀ {u:World},Kept Nil w3 u->∃cs:Array Value,(.agg s.1:Value)=.agg cs/\cs.size=32/\Cells u ⟨w.heap.size,0,none⟩ cs:=fun ku=>⟨_,rfl,s.2.1,Cells.bV (ku.heap CI (fun h=>h))⟩;refine⟨s.1,⟨s.2.1,Cells.bV CI⟩,s.1,⟨s.2.1,Cells.bV CI⟩,?_,?_⟩
 ·refine ln (h.same jZ) (by omega) hs fun w4 k4=>⟨_,rfl,bx k4,?_⟩
  rw [ew,wu s];refine Is.mk rfl ?_;rw [GA];intro w5;have k5:Kept Nil w4 w5:=(Kept.refl _ _).alloc _;have RC:w5.heap[w4.heap.size]? =some (.cells zC bL (0,0)):=aM w4 _;clear_value w5;have ns:=k4.tt k5;obtain⟨t1,t2,t3⟩:=fY RC (cs:=di ⟨s,G.score s+1,[],[]⟩ none 0 0 none 0 0) (by rw [bH];rfl);refine⟨bx ns,⟨bH ..,fu _ _ _ _ _ _ _,fun j hj=>t1 j (by rw [bH];exact hj)⟩,?_⟩;have s4:=k4.size;exact af.kR (go (ns.trans t3 (fun j hj e=>by omega)) s4 t2)
 ·intro w4
  have k4:Kept Nil w3 w4:=(Kept.refl _ _).alloc _;have TP:w4.heap[w3.heap.size]? =some (.cells zC bL (0,0)):=aM w3 _;clear_value w4;refine⟨bx k4,bx k4,?_⟩;refine ln (h.same (jZ.tt k4)) (by omega) hs fun w5 k5=>⟨_,rfl,bx (k4.tt k5),?_⟩;have ns:=k4.tt k5;rw [ew,wu s];refine Is.mk rfl ?_;rw [GA];obtain⟨t1,t2,t3⟩:=fY (k5.heap TP (fun h=>h)) (cs:=di ⟨s,G.score s+1,[],[]⟩ none 0 0 none 0 0) (by rw [bH];rfl);refine⟨⟨bH ..,fu _ _ _ _ _ _ _,fun j hj=>t1 j (by rw [bH];exact hj)⟩,?_⟩;exact af.kR (go (ns.trans t3 (fun j hj e=>by omega)) (Nat.le_refl _) t2)
end
theorem DZ:zD prog uF bL 35 88:=⟨by kernel_rfl,by kernel_rfl⟩
theorem Sr:zD prog fT aF 1 24:=⟨by kernel_rfl,by kernel_rfl⟩
section
variable{w w':World}{F F' S:Nat->Prop}{A:Option Addr}{n c B m bytes:Nat}{tS tE:TypeId}{news:List Value}
theorem zW{a:Addr}(P:Nat->Array Value->Prop):∀n,(∀i,i<n->∃arr:Array Value,arr.size=m/\(∀u∈arr.toList,u.oneCell'=true)/\Cells w (a.add (i*m)) arr/\P i arr)->
 ∃news:List Value,news.length=n*m/\(∀j u,news[j]? =some u->w.cell? (a.add j)=some u)/\(∀u∈news,u.oneCell'=true)/\∀i,i<n->∃arr:Array Value,P i arr/\arr.size=m/\∀(j:Nat) v,arr[j]? =some v->news[i*m+j]? =some v
 |0,_=>⟨[],by simp,fun j u h=>by simp at h,fun u h=>by simp at h,fun i h=>by omega⟩
 |n+1,H=>by
  obtain⟨news,h1,h2,h3,h4⟩:=zW P n fun i hi=>H i (by omega);obtain⟨arr,g1,g2,g3,g4⟩:=H n (by omega);refine⟨news++arr.toList,by rw [List.length_append,h1,Array.length_toList,g1,Nat.add_mul,Nat.one_mul],fun j u hj=>?_,fun u hu=>?_,fun i hi=>?_⟩
  ·rw [List.getElem?_append]at hj
   split at hj
   ·exact h2 j u hj
   ·rename_i gK
    rw [h1]at hj gK;have:=g3 (j-n*m) u (by simpa using hj)
    rwa [lY,show n*m+(j-n*m)=j by omega]at this
  ·rcases List.mem_append.1 hu with hu|hu
   ·exact h3 u hu
   ·exact g2 u hu
  ·by_cases gB:i<n
   ·obtain⟨ar,q1,q2,q3⟩:=h4 i gB
    exact⟨ar,q1,q2,fun j v hj=>by
     have:=q3 j v hj;rw [List.getElem?_append_left (lgeS this).1];exact this⟩
   ·obtain rfl:i=n:=by omega
    exact⟨arr,g4,g1,fun j v hj=>by
     rw [List.getElem?_append_right (by omega),h1,show i*m+j-i*m=j by omega,Array.getElem?_toList];exact hj⟩
theorem zi(T:zD prog tS tE m bytes)(hb:bytes<=1000)(hn:n<=100000){a:Addr}{cx:Nat}(P:Nat->Array Value->Prop)(H:∀i,i<n->∃arr:Array Value,arr.size=m/\(∀u∈arr.toList,u.oneCell'=true)/\Cells w (a.add (i*m)) arr/\P i arr):
 ∃A' c' w' news,(Builtin.append_ #[tS,tS] tS #[.slice none 0 0,.slice (some a) n cx]).run prog w=.ok (.slice A' n c') w'/\Row w' w.heap.size tE m A' n c' news/\Kept Nil w w'/\∀i,i<n->∃arr:Array Value,P i arr/\arr.size=m/\∀(j:Nat) v,arr[j]? =some v->news[i*m+j]? =some v:=by
 obtain⟨news,e1,e2,e3,e4⟩:=zW (w:=w) (m:=m) P n H;obtain⟨A',c',w',hr,fJ,hg,_⟩:=fR (P:=prog) (ty:=tS) T (Row.nil w w.heap.size _ _) (a:=a) (m:=n) (cx:=cx) (news:=news) e1 e2 e3 (by rw [Nat.zero_add];have:=Nat.mul_le_mul hn hb;omega) (by unfold maxLen;omega) (Nat.le_refl _);rw [Nat.zero_add]at hr fJ;rw [List.nil_append]at fJ;exact⟨A',c',w',news,hr,fJ,Kept.eA (Kept.refl _ _) hg (fun j hj=>by cases hj),e4⟩
theorem zh(T:zD prog tS tE m bytes)(hb:bytes<=1000)(hn:n<=100000)(h:Row w B tE m A n c news)(hB:B<=w.heap.size){b:Nat}{arr:Array Value}{t:TypeId}(j0:w.heap[b]? =some (.cells arr t (0,0)))(hs:arr.size=m)(h1:∀u∈arr.toList,u.oneCell'=true):
 ∃A' c' w',(Builtin.append_ #[tS,tS] tS #[.slice A n c,.slice (some ⟨b,0,none⟩) 1 1]).run prog w=.ok (.slice A' (n+1) c') w'/\Row w' B tE m A' (n+1) c' (news++arr.toList)/\w.grownBy w' (bG A):=by
 obtain⟨A',c',w',hr,fJ,hg,_⟩:=fR (P:=prog) (ty:=tS) T h (a:=⟨b,0,none⟩) (m:=1) (cx:=1) (news:=arr.toList) (by simpa using hs)
  (fun j u hj=>by rw [bC,Nat.zero_add,aE j0];simpa using hj) h1 (by have:=Nat.mul_le_mul (show n+1<=100001 by omega) hb;omega) (by unfold maxLen;omega) hB
 exact⟨A',c',w',hr,fJ,hg⟩
def JM(w:World)(F:Nat->Prop)(l:List pr)(i:Nat)(arr:Array Value):Prop:=∃x A1 n1 c1 B1 m1 d1,l[i]? =some x/\arr=di x A1 n1 c1 B1 m1 d1/\HS w A1 n1 x.merge/\Bo w B1 m1 x.fX/\(∀b,A1=some b->F b.block)/\(∀b,B1=some b->F b.block)
def Q8(w:World)(F:Nat->Prop)(l:List (List HT))(i:Nat)(arr:Array Value):Prop:=∃x A1 n1 c1,l[i]? =some x/\arr= #[.slice A1 n1 c1]/\HS w A1 n1 x/\(∀b,A1=some b->F b.block)
theorem rO.zW{l:List pr}(h:rO w F A n l):(0<n->∃a,A=some a)/\∀a,A=some a->∀i,i<n->∃arr:Array Value,arr.size=35/\(∀u∈arr.toList,u.oneCell'=true)/\Cells w (a.add (i*35)) arr/\JM w F l i arr:=by
 have hl:=h.len;refine⟨fun h0=>?_,fun a ha i hi=>?_⟩
 ·obtain⟨x,hx⟩:∃x,l[0]? =some x:=⟨_,List.getElem?_eq_getElem (by omega)⟩
  obtain⟨a,_,_,_,_,_,_,g1,_⟩:=h.at_ 0 x hx;exact⟨a,g1⟩
 ·obtain⟨x,hx⟩:∃x,l[i]? =some x:=⟨_,List.getElem?_eq_getElem (by omega)⟩
  obtain⟨a',A1,n1,c1,B1,m1,d1,g1,g2,g3,g4,g5,g6,g7,g8⟩:=h.at_ i x hx;rw [ha]at g1;cases g1;exact⟨_,bH ..,fu _ _ _ _ _ _ _,g4,x,A1,n1,c1,B1,m1,d1,hx,rfl,g5,g6,g7,g8⟩
theorem qu.zW{l:List (List HT)}(h:qu w F A n l):(0<n->∃a,A=some a)/\∀a,A=some a->∀i,i<n->∃arr:Array Value,arr.size=1/\(∀u∈arr.toList,u.oneCell'=true)/\Cells w (a.add (i*1)) arr/\Q8 w F l i arr:=by
 have hl:=h.len;refine⟨fun h0=>?_,fun a ha i hi=>?_⟩
 ·obtain⟨x,hx⟩:∃x,l[0]? =some x:=⟨_,List.getElem?_eq_getElem (by omega)⟩
  obtain⟨a,_,_,_,g1,_⟩:=h.at_ 0 x hx;exact⟨a,g1⟩
 ·obtain⟨x,hx⟩:∃x,l[i]? =some x:=⟨_,List.getElem?_eq_getElem (by omega)⟩
  obtain⟨a',A1,n1,c1,g1,g2,g3,g4,g5,g6⟩:=h.at_ i x hx;rw [ha]at g1;cases g1;refine⟨#[.slice A1 n1 c1],rfl,fun u hu=>?_,fun j u hj=>?_,x,A1,n1,c1,hx,rfl,g5,g6⟩
  ·simp at hu;subst hu;rfl
  ·cases j with
   |zero=>simp at hj;subst hj;rw [add_zero];exact g4
   |succ j=>simp at hj
theorem rO.snoc{l:List pr}{x:pr}{A1 B1:Option Addr}{n1 c1 m1 d1:Nat}{w0:World}(h:Row w B bL 35 A (n+1) c (news++(di x A1 n1 c1 B1 m1 d1).toList))(zy:news.length=n*35)(hl:l.length=n)(k0:Kept Nil w0 w)(hF:∀j,bG A=some j->F' j)(Yx:∀j,F j->F' j)
 (hc:∀i,i<n->∃arr:Array Value,JM w0 F l i arr/\arr.size=35/\∀(j:Nat) v,arr[j]? =some v->news[i*35+j]? =some v)
 (g1:HS w A1 n1 x.merge) (g2:Bo w B1 m1 x.fX) (g3:∀b,A1=some b->F' b.block) (g4:∀b,B1=some b->F' b.block):rO w F' A (n+1) (l++ [x]):=by
 refine⟨by simp [hl],fun i y hi=>?_⟩;obtain⟨b,rfl⟩:=Row.some h (by omega);obtain⟨_,cur,p9⟩:=Row.bV h (k:=b) rfl;rw [List.getElem?_append]at hi;split at hi
 ·rename_i dg
  obtain⟨arr,⟨y',A2,n2,c2,B2,m2,d2,q1,rfl,q3,q4,q5,q6⟩,q7,q8⟩:=hc i (by omega);rw [hi]at q1;cases q1;exact⟨_,A2,n2,c2,B2,m2,d2,rfl,aY p9,hF b rfl,fun j v hj=>by
   rw [lY];have:=q8 j v hj;exact Row.cells h _ _ (by rw [List.getElem?_append_left (lgeS this).1];exact this),q3.same k0,q4.same k0,fun b hb=>Yx _ (q5 b hb),fun b hb=>Yx _ (q6 b hb)⟩
 ·rename_i gK
  have Gm:i=n/\y=x:=by
   cases hk:i-l.length with
   |zero=>rw [hk]at hi;exact⟨by omega,by simpa using hi.symm⟩
   |succ k=>rw [hk]at hi;simp at hi
  obtain⟨rfl,rfl⟩:=Gm;exact⟨_,A1,n1,c1,B1,m1,d1,rfl,aY p9,hF b rfl,fun j v hj=>by
   rw [lY];exact Row.cells h _ _ (by rw [List.getElem?_append_right (by omega),zy,show i*35+j-i*35=j by omega,Array.getElem?_toList];exact hj),g1,g2,g3,g4⟩
theorem qu.snoc{l:List (List HT)}{x:List HT}{A1:Option Addr}{n1 c1:Nat}{w0:World}(h:Row w B aF 1 A (n+1) c (news++(#[.slice A1 n1 c1]:Array Value).toList))(zy:news.length=n*1)(hl:l.length=n)(k0:Kept Nil w0 w)(hF:∀j,bG A=some j->F' j)(Yx:∀j,F j->F' j)
 (hc:∀i,i<n->∃arr:Array Value,Q8 w0 F l i arr/\arr.size=1/\∀(j:Nat) v,arr[j]? =some v->news[i*1+j]? =some v)
 (g1:HS w A1 n1 x) (g3:∀b,A1=some b->F' b.block):qu w F' A (n+1) (l++ [x]):=by
 refine⟨by simp [hl],fun i y hi=>?_⟩;obtain⟨b,rfl⟩:=Row.some h (by omega);obtain⟨_,cur,p9⟩:=Row.bV h (k:=b) rfl;rw [List.getElem?_append]at hi;split at hi
 ·rename_i dg
  obtain⟨arr,⟨y',A2,n2,c2,q1,rfl,q3,q4⟩,q7,q8⟩:=hc i (by omega);rw [hi]at q1;cases q1;have:=q8 0 _ rfl;exact⟨_,A2,n2,c2,rfl,aY p9,hF b rfl,Row.cells h _ _ (by rw [Nat.add_zero]at this;rw [List.getElem?_append_left (lgeS this).1];exact this),q3.same k0,fun b hb=>Yx _ (q4 b hb)⟩
 ·rename_i gK
  have Gm:i=n/\y=x:=by
   cases hk:i-l.length with
   |zero=>rw [hk]at hi;exact⟨by omega,by simpa using hi.symm⟩
   |succ k=>rw [hk]at hi;simp at hi
  obtain⟨rfl,rfl⟩:=Gm;exact⟨_,A1,n1,c1,rfl,aY p9,hF b rfl,Row.cells h _ _ (by rw [List.getElem?_append_right (by omega),zy,show i*1-i*1=0 by omega];rfl),g1,g3⟩
end
section
variable{w w':World}{F:Nat->Prop}{r x k:Nat}{G:GS}{K:Value->World->Prop}
theorem yF(root:HT)(k:Nat)(hK:∀v r x F,R3 v F r x k (eV root)->(∀j,F j->w.heap.size<=j)->w.heap.size<=r->w.heap.size<=x->Kept Nil w v->K (.pointer (some ⟨r,0,none⟩)) v):
 bD prog kO.id #[.int .i64 (k:Int),.agg root.1] w K:=by
 refine kO.of ?_;unfold kO.W;intro w1;have k1:Kept Nil w w1:=(Kept.refl _ _).alloc _;have Be:w1.heap[w.heap.size]? =some (.cells root.1 al (0,0)):=aM w _;clear_value w1;refine⟨root.1,⟨root.2.1,Cells.bV Be⟩,?_⟩;refine yH root fun w2 x FX hX hFX hx k2=>⟨_,rfl,rfl,?_⟩;have mn:=k1.tt k2;intro w3 w4 w5;have k3:Kept Nil w2 w3:=(Kept.refl _ _).alloc _;have VP:w3.heap[w2.heap.size]? =some (.cells zC bL (0,0)):=aM w2 _;have k4:Kept Nil w3 w4:=(Kept.refl _ _).alloc _;have hw4:w4.heap[w3.heap.size]? =some (.cells #[.slice none 0 0] aF (0,0)):=aM w3 _;have k5:Kept Nil w4 w5:=(Kept.refl _ _).alloc _;have ht5:w5.heap[w4.heap.size]? =some (.cells #[.int .i64 (k:Int),.pointer (some ⟨x,0,none⟩),.slice (some ⟨w2.heap.size,0,none⟩) 1 1,.slice (some ⟨w3.heap.size,0,none⟩) 1 1] iy (0,0)):=aM w4 _;clear_value w5;have hw5:=k5.heap hw4 (fun h=>h);have hc5:=k5.heap (k4.heap VP (fun h=>h)) (fun h=>h);have En:=(k3.tt k4).tt k5;have Zn:=mn.size;have l3:=aY VP;have l4:=aY hw4;have l5:=aY ht5;have s1:=k1.size;have s2:=k2.size;have lx:=hX.lt;clear_value w4 w3;refine hK w5 w4.heap.size x (fun j=>FX j\/j=w2.heap.size\/j=w3.heap.size) ⟨⟨some ⟨w2.heap.size,0,none⟩,1,some ⟨w3.heap.size,0,none⟩,1,ht5,⟨rfl,fun i y hi=>?_⟩,⟨rfl,fun i y hi=>?_⟩⟩,(hX.same En).mono (fun j e=>.inl e) (fun e=>?_),fun e=>?_,by omega,mN k root,fun j e=>?_⟩ (fun j e=>?_) (by omega) (by omega) (mn.tt En)
 ·cases i with
  |zero=>
   have:y=⟨fz,0,[],[]⟩:=by simpa [eV]using hi.symm
   subst this;refine⟨_,none,0,0,none,0,0,rfl,by show w2.heap.size<_;omega,.inr (.inl rfl),fun j u hj=>?_,HS.nil _ _,⟨rfl,fun i b h=>by simp at h⟩,fun b hb=>(by cases hb),fun b hb=>(by cases hb)⟩;rw [Nat.zero_mul,add_zero,bC,Nat.zero_add,aE hc5];exact hj
  |succ i=>simp [eV]at hi
 ·cases i with
  |zero=>
   have:y= []:=by simpa [eV]using hi.symm
   subst this;refine⟨_,none,0,0,rfl,by show w3.heap.size<_;omega,.inr (.inr rfl),?_,HS.nil _ _,fun b hb=>(by cases hb)⟩;rw [Nat.zero_mul,add_zero,aE hw5];rfl
  |succ i=>simp [eV]at hi
 ·rcases e with e|e|e
  ·exact hX.iT e
  ·omega
  ·omega
 ·rcases e with e|e|e
  ·have:=(hFX _ e).2;omega
  ·omega
  ·omega
 ·rcases e with e|e|e
  ·have:=(hFX _ e).2;omega
  ·omega
  ·omega
 ·rcases e with e|e|e
  ·have:=(hFX _ e).1;omega
  ·omega
  ·omega
end
section
variable{w w':World}{F:Nat->Prop}{r x k:Nat}{G:GS}{K:Value->World->Prop}{A:Option Addr}{n cx:Nat}{l:List HT}
set_option maxHeartbeats 2000000 in
theorem yG(h:R3 w F r x k G)(hD:G.D.length<=300)(pB:k<=1000)(hl:HS w A n l)(hn:n<=5000)(id:HT)
 (hE:dR G.D id l≠0->∀w',Kept Nil w w'->K (.tuple #[.agg Mj,.int .i64 (dR G.D id l)]) w')
 (hO:dR G.D id l=0->∀w' A n c B e ce,R3 w' (fun j=>F j\/(w.heap.size<=j/\j<w'.heap.size)) r x k (eo k G id l)->Kept (fun j=>j=r\/j=x) w w'->HS w' A n (dr k G (bQ G l) l).merge->Bo w' B e (dr k G (bQ G l) l).fX->(∀a,A=some a\/B=some a->w.heap.size<=a.block)->K (.tuple #[.agg (di (dr k G (bQ G l) l) A n c B e ce),.int .i64 0]) w'):
 bD prog dP.id #[.pointer (some ⟨r,0,none⟩),.agg id.1,.slice A n cx] w K:=by
 have W0:=h.hZ.W;have Yd:=h.lt;have Nu:=h.lx;refine dP.of ?_;unfold dP.W;intro w1 w2;have k1:Kept Nil w w1:=(Kept.refl _ _).alloc _;have LF:w1.heap[w.heap.size]? =some (.cells id.1 al (0,0)):=aM w _;have k2:Kept Nil w1 w2:=(Kept.refl _ _).alloc _;have jU:w2.heap[w1.heap.size]? =some (.cells zC bL (0,0)):=aM w1 _;clear_value w2;have CU:=k2.heap LF (fun h=>h);have mn:=k1.tt k2;have s1:=k1.size;have l1:=aY LF;have l2:=aY jU;clear_value w1;have h2:=h.same mn;obtain⟨A0,c0,B0,e0,sl,g1,g2,g3,g4,g5⟩:=h2.X.ex;refine Is.mk rfl ⟨_,h2.c1,Is.mk rfl ⟨#[.slice A0 G.D.length c0],⟨rfl,fun j u hj=>?_⟩,?_⟩⟩
 ·cases j with
  |zero=>simp at hj;subst hj;rw [add_zero,add_zero,aE g1];rfl
  |succ j=>simp at hj
 intro w3;have k3:Kept Nil w2 w3:=(Kept.refl _ _).alloc _;have Vs:w3.heap[w2.heap.size]? =some (.cells #[.slice none 0 0] iV (0,0)):=aM w2 _;clear_value w3;obtain⟨t1,t2,t3⟩:=fY Vs (cs:= #[.slice A0 G.D.length c0]) rfl;refine⟨⟨rfl,fun u hu=>by simp at hu;subst hu;rfl,fun j hj=>t1 j hj⟩,?_⟩;intro w4
 replace t2:w4.heap[w2.heap.size]? =some (.cells #[.slice A0 G.D.length c0] iV (0,0)):=t2
 replace t3:Kept (· =w2.heap.size) w3 w4:=t3
 clear_value w4;have qT:Kept Nil w2 w4:=k3.trans t3 (fun j hj e=>by omega);have nt:=mn.tt qT;have s2:=mn.size;refine⟨id.1,⟨id.2.1,Cells.bV (qT.heap CU (fun h=>h))⟩,?_⟩;have hIR:uG w4 F w2.heap.size G.D:=⟨⟨A0,c0,_,_,t2,rfl,g2.same qT⟩,fun e=>by have:=h.lo _ e;omega⟩;refine D9 hIR W0 (by omega) (hl.same nt) (by omega) fun w5 _ k5=>⟨_,rfl,?_⟩;have En:Kept Nil w2 w5:=qT.trans k5 (fun j hj e=>by omega);have o7:=mn.tt En;have sA:=En.heap jU (fun h=>h);have LD:=En.heap CU (fun h=>h);by_cases hc:dR G.D id l≠0
 ·obtain⟨f1,f2,f3⟩:=fY sA (cs:=zC) rfl
  refine Split.yes (by simpa using hc) ⟨⟨rfl,by show ∀u∈(Mj:Array Value).toList,_;exact fu _ _ _ _ _ _ _,fun j hj=>f1 j hj⟩,?_⟩;exact⟨_,⟨rfl,Cells.bV f2⟩,hE hc _ (o7.trans f3 (fun j hj e=>by omega))⟩
 have hc:dR G.D id l=0:=by omega
 refine Split.no (by rw [hc];rfl) ?_;obtain⟨_,fP,_,cZ⟩:=lO hc;have gB:∀z∈l,z∈ids G.D:=fun z hz=>cZ z (dT.2 hz);refine uw (h.same o7) (by omega) (hl.same o7) fP (by omega) gB fun w6 k6=>⟨_,rfl,?_⟩;have AN:=En.tt k6;have p7:=mn.tt AN;generalize oL:bQ G l=s;have CH:s∈l:=by rw [<-oL];exact iE fP
 intro w7;have k7:Kept Nil w6 w7:=(Kept.refl _ _).alloc _;have hb7:w7.heap[w6.heap.size]? =some (.cells fz.1 al (0,0)):=aM w6 _;clear_value w7;obtain⟨q1,q2,q3⟩:=iW s hb7 rfl;refine⟨q1,?_⟩;intro w8
 replace q2:w8.heap[w6.heap.size]? =some (.cells s.1 al (0,0)):=q2
 replace q3:Kept (· =w6.heap.size) w7 w8:=q3
 clear_value w8;have XI:Kept Nil w6 w8:=k7.trans q3 (fun j hj e=>by omega);have Ia:=AN.tt XI;have zu:=mn.tt Ia;have s06:=p7.size;have s08:=zu.size;have s28:=Ia.size;refine⟨s.1,⟨s.2.1,Cells.bV q2⟩,?_⟩;refine wM (h.same zu) hD pB (gB s CH) (hl.same zu) hn gB fun w9 Am nm cm E e ce Wd nw cw rm rb rw9 k9=>⟨_,Wd,nw,cw,rfl,?_⟩;have K9:=Ia.tt k9;have Gb:=mn.tt K9;have s09:=Gb.size;have s89:=k9.size;intro w10;have rR:Kept Nil w9 w10:=(Kept.refl _ _).alloc _;have aca:w10.heap[w9.heap.size]? =some (.cells zC bL (0,0)):=aM w9 _;clear_value w10;obtain⟨f1,f2,f3⟩:=fY aca (cs:=di (dr k G s l) Am nm cm E e ce) (by rw [bH];rfl);refine⟨⟨bH ..,fu _ _ _ _ _ _ _,fun j hj=>f1 j (by rw [bH];exact hj)⟩,?_⟩;intro xC nv
 replace f2:xC.heap[w9.heap.size]? =some (.cells (di (dr k G s l) Am nm cm E e ce) bL (0,0)):=f2
 replace f3:Kept (· =w9.heap.size) w10 xC:=f3
 have zt:Kept Nil xC nv:=(Kept.refl _ _).drew;clear_value nv;have VR:=zt.heap f2 (fun h=>h);have O3:Kept Nil w9 nv:=(rR.trans f3 (fun j hj e=>by omega)).tt zt;clear_value xC;have O9:=K9.tt O3;have tn:=mn.tt O9;have ag6:=tn.size;have ahy:=aY VR;have BS:=h.same tn;refine Is.mk rfl ⟨_,BS.c1,id.1,⟨id.2.1,Cells.bV (O9.heap CU (fun h=>h))⟩,s.1,⟨s.2.1,Cells.bV ((k9.tt O3).heap q2 (fun h=>h))⟩,?_⟩;refine FC BS.X BS.lo (by omega) (hl.same tn) (by omega) fun pw Wt Cz=>⟨_,rfl,?_⟩;have eX:oy G.D id s l=(eo k G id l).D/\ox G.D G.P id s l=(eo k G id l).P:=by rw [<-oL];exact⟨JG.symm,JH.symm⟩
 rw [eX.1,eX.2]at Wt;intro jb;have JW:Kept Nil pw jb:=(Kept.refl _ _).drew;clear_value jb;have AO:Kept (· =x) nv jb:=Cz.trans JW (fun _ _ h=>h.elim);have Es:Kept (· =x) w jb:=(tn.mono fun _ _ h=>h.elim).tt AO;have ad8:=AO.size;have wW:=lZ (k:=k) (G:=G) (h:=id) (ps:=l) hc;rw [oL]at wW;obtain⟨A1,c1,B1,e1,p1,p2,p3⟩:=h.top;have OR:=Es.heap p1 h.ne;have OQ:rO jb F A1 G.D.length G.sI:=p2.aJ Es (fun j hj e=>h.X.iT (by rw [<-e];exact hj));have Zs:qu jb F B1 G.D.length G.kZ:=p3.aJ Es (fun j hj e=>h.X.iT (by rw [<-e];exact hj));have jO:=W0.pos;obtain⟨⟨a1,ha1⟩,Nb⟩:=(⟨OQ.zW.1 jO,OQ.zW.2⟩:(∃a,A1=some a)/\_);subst ha1;have Qw:=AO.heap VR (by omega);have aaM:=AO.heap (O9.heap jU (fun h=>h)) (by omega);have bm:∀j,bG Am=some j->w8.heap.size<=j/\j<w9.heap.size:=fun j hj=>by obtain⟨z1,cur,z2⟩:=Row.bV rm hj;exact⟨z1,aY z2⟩
 have bb:∀j,bG E=some j->w8.heap.size<=j/\j<w9.heap.size:=fun j hj=>by obtain⟨z1,cur,z2⟩:=Row.bV rb hj;exact⟨z1,aY z2⟩
 have bw:∀j,bG Wd=some j->w8.heap.size<=j/\j<w9.heap.size:=fun j hj=>by obtain⟨z1,cur,z2⟩:=Row.bV rw9 hj;exact⟨z1,aY z2⟩
 have K0:Kept (· =x) w9 jb:=(O3.mono fun _ _ h=>h.elim).tt AO;have agO:=K0.size;have SP:HS jb Am nm (dr k G s l).merge:=(cC.hs rm).aJ K0 (fun a ha e=>by have:=bm a.block (by rw [ha];rfl);omega);have Xb:Bo jb E e (dr k G s l).fX:=(Row.bo rb).aJ K0 (fun a ha e=>by have:=bb a.block (by rw [ha];rfl);omega);have Y6:HS jb Wd nw (im k G s l).wd:=(cC.hs rw9).aJ K0 (fun a ha e=>by have:=bw a.block (by rw [ha];rfl);omega);have bF:∀ {A:Option Addr} {b:Addr},(∀j,bG A=some j->w8.heap.size<=j/\j<w9.heap.size)->A=some b->w.heap.size<=b.block/\b.block<jb.heap.size:=fun hA hb=>by
  have:=hA _ (by rw [hb];rfl);omega
 rw [oL]at hO;have tail:∀ {u:World} {Aa:Option Addr} {ca:Nat} {news:List Value},Row u jb.heap.size bL 35 Aa (G.D.length+1) ca (news++(di (dr k G s l) Am nm cm E e ce).toList)->news.length=G.D.length*35->(∀i,i<G.D.length->∃arr:Array Value,JM jb F G.sI i arr/\arr.size=35/\∀(j:Nat) v,arr[j]? =some v->news[i*35+j]? =some v)->Kept Nil jb u->
  Wr u ((⟨r,0,none⟩:Addr).add 2)/\let a3:=u.setCell ((⟨r,0,none⟩:Addr).add 2) (.slice Aa (G.D.length+1) ca);Is (some (⟨r,0,none⟩:Addr)) fun b3:Addr=>∃c3:Option Addr,∃d3 e3:Nat,a3.cell? (b3.add 3)=some (.slice c3 d3 e3)/\∃(f3:Option Addr) (g3 i3:Nat) (j3:World),(Builtin.append_ #[fT,fT] fT #[.slice none 0 0,.slice c3 d3 e3]).run prog a3=.ok (.slice f3 g3 i3) j3/\let k3:=j3.alloc (.cells #[.slice Wd nw cw] aF);∃(m3:Option Addr) (n3 o3:Nat) (p3:World),(Builtin.append_ #[fT,fT] fT #[.slice f3 g3 i3,.slice (some (aU j3.heap.size)) 1 1]).run prog k3=.ok (.slice m3 n3 o3) p3/\Is (some (⟨r,0,none⟩:Addr)) fun q3:Addr=>Wr p3 (q3.add 3)/\let r3:=p3.setCell (q3.add 3) (.slice m3 n3 o3);∃t3:Array Value,(t3.size=35/\Cells r3 (aU w9.heap.size) t3)/\(t3.size=35/\(∀u3∈t3.toList,u3.oneCell'=true)/\∀v3,v3<35->Wr r3 ((aU w1.heap.size).add v3))/\let x3:=setCells r3 (aU w1.heap.size) t3.toList 0;∃y3:Array Value,(y3.size=35/\Cells x3 (aU w1.heap.size) y3)/\K (.tuple #[.agg y3,.int .i64 0]) x3:=by
  intro u Aa ca news row zy vR ku;have pu:=ku.heap OR (fun h=>h);have su:=ku.size;refine⟨by rw [bC];exact dN pu (by simp),?_⟩;intro u1;have pu1:u1.heap[r]? =some (.cells #[.int .i64 (k:Int),.pointer (some ⟨x,0,none⟩),.slice Aa (G.D.length+1) ca,.slice B1 G.D.length e1] iy (0,0)):=by
   show(u.setCell ((⟨r,0,none⟩:Addr).add 2) (.slice Aa (G.D.length+1) ca)).heap[r]? =_;rw [bC,dp pu];rfl
  have F0:Kept (· =r) u u1:=by
   show Kept (· =r) u (u.setCell ((⟨r,0,none⟩:Addr).add 2) (.slice Aa (G.D.length+1) ca))
   rw [bC];exact Kept.setCell (S:=(· =r)) (Kept.refl _ u) (p:=⟨r,0+2,none⟩) (fun _=>rfl) _
  clear_value u1;have Ij:Kept (· =r) jb u1:=(ku.mono fun _ _ h=>h.elim).tt F0;have pw1:qu u1 F B1 G.D.length G.kZ:=Zs.aJ Ij (fun j hj e=>h.iT (by rw [<-e];exact hj));obtain⟨⟨b1,Be⟩,T4⟩:=(⟨pw1.zW.1 jO,pw1.zW.2⟩:(∃a,B1=some a)/\_);subst Be;obtain⟨Aw,c2,u2,nws,Lq,hU,G1,hcw⟩:=zi (w:=u1) Sr (by omega) (by omega) (cx:=e1) (Q8 u1 F G.kZ) (T4 b1 rfl);refine Is.mk rfl ⟨some b1,G.D.length,e1,by rw [bC,aE pu1];rfl,Aw,_,c2,u2,Lq,?_⟩;intro u3;have F8:Kept Nil u2 u3:=(Kept.refl _ _).alloc _;have BM:u3.heap[u2.heap.size]? =some (.cells #[.slice Wd nw cw] aF (0,0)):=aM u2 _;clear_value u3;have su1:=F0.size;have su2:=G1.size;have Ze:=F8.size;obtain⟨Xr,c3,u4,x7,kL,EG⟩:=zh Sr (by omega) (by omega) (Row.aJ hU F8 (fun _ _ h=>h)) (by omega) BM rfl (fun v hv=>by simp at hv;subst hv;rfl);have Lc:Kept Nil u1 u4:=Kept.eA (G1.tt F8) EG (fun j hj=>(Row.bV hU hj).1);have pu4:=Lc.heap pu1 (fun h=>h);refine⟨Xr,_,c3,u4,x7,Is.mk rfl ⟨by rw [bC];exact dN pu4 (by simp),?_⟩⟩;intro u5;have pu5:u5.heap[r]? =some (.cells #[.int .i64 (k:Int),.pointer (some ⟨x,0,none⟩),.slice Aa (G.D.length+1) ca,.slice Xr (G.D.length+1) c3] iy (0,0)):=by
   show(u4.setCell ((⟨r,0,none⟩:Addr).add 3) (.slice Xr (G.D.length+1) c3)).heap[r]? =_;rw [bC,dp pu4];rfl
  have FZ:Kept (· =r) u4 u5:=by
   show Kept (· =r) u4 (u4.setCell ((⟨r,0,none⟩:Addr).add 3) (.slice Xr (G.D.length+1) c3))
   rw [bC];exact Kept.setCell (S:=(· =r)) (Kept.refl _ u4) (p:=⟨r,0+3,none⟩) (fun _=>rfl) _
  clear_value u5;have Tm:Kept (· =r) u1 u5:=(Lc.mono fun _ _ h=>h.elim).tt FZ;have MT:Kept (· =r) jb u5:=Ij.tt Tm;have hc5:=MT.heap Qw (by omega);have sA:=MT.heap aaM (by omega);obtain⟨z1,z2,z3⟩:=fY sA (cs:=di (dr k G s l) Am nm cm E e ce) (by rw [bH];rfl);refine⟨_,⟨bH ..,Cells.bV hc5⟩,⟨bH ..,fu _ _ _ _ _ _ _,fun j hj=>z1 j (by rw [bH];exact hj)⟩,?_⟩;intro u6
  replace z2:u6.heap[w1.heap.size]? =some (.cells (di (dr k G s l) Am nm cm E e ce) bL (0,0)):=z2
  replace z3:Kept (· =w1.heap.size) u5 u6:=z3
  clear_value u6;refine⟨_,⟨bH ..,Cells.bV z2⟩,?_⟩;have kwr:∀j,j=r\/j=w1.heap.size->¬jb.heap.size<=j:=fun j hj e=>by rcases hj with hj|hj<;>omega
  have XC:Kept (fun j=>j=r\/j=w1.heap.size) u u6:=((F0.mono fun _ _ h=>.inl h).trans Tm (fun _ _ h=>.inl h)).trans z3 (fun _ _ h=>.inr h);have Ep:Kept (fun j=>j=r\/j=w1.heap.size) jb u6:=(ku.mono fun _ _ h=>h.elim).tt XC;have su6:=Ep.size;have s46:u4.heap.size<=u6.heap.size:=by have:=FZ.size;have:=z3.size;omega
  have s26:u.heap.size<=u6.heap.size:=XC.size;have KP:∀j,F j->j<w.heap.size:=h.lo
  let F2:Nat->Prop:=fun j=>F j\/(w8.heap.size<=j/\j<w9.heap.size)\/(jb.heap.size<=j/\j<u6.heap.size)
  have QN:∀j,F2 j->¬(j=r\/j=w1.heap.size):=fun j hj e=>by
   rcases hj with hj|hj|hj
   ·have:=KP j hj
    rcases e with e|e
    ·exact h.iT (by rw [<-e];exact hj)
    ·omega
   ·omega
   ·omega
  have WJ:∀j,F2 j->F j\/(w.heap.size<=j/\j<u6.heap.size):=fun j hj=>by
   rcases hj with hj|hj|hj
   ·exact .inl hj
   ·exact .inr ⟨by omega,by omega⟩
   ·exact .inr ⟨by omega,hj.2⟩
  refine hO hc u6 Am nm cm E e ce ⟨⟨Aa,ca,Xr,c3,?_,?_,?_⟩,?_,fun hj=>?_,h.ne,h.hZ.add id l,fun j hj=>?_⟩ ?_ (SP.aJ Ep (fun a ha e=>by have:=bm a.block (by rw [ha];rfl);rcases e with e|e<;>omega)) (Xb.aJ Ep (fun a ha e=>by have:=bb a.block (by rw [ha];rfl);rcases e with e|e<;>omega)) (fun a ha=>ha.elim (fun ha=>(bF bm ha).1) (fun ha=>(bF bb ha).1))
  ·rw [wW]
   simp only [List.length_append,List.length_singleton];exact z3.heap pu5 (by omega)
  ·rw [wW]
   simp only [List.length_append,List.length_singleton];refine rO.mono (F:=F2) (rO.aJ (S:=fun j=>j=r\/j=w1.heap.size) (w:=u) (rO.snoc row zy p2.len ku (fun j hj=>?_) (fun j hj=>.inl hj) vR (SP.same ku) (Xb.same ku) (fun b hb=>.inr (.inl ?_)) (fun b hb=>.inr (.inl ?_))) XC QN) WJ
   ·obtain⟨y1,cur,y2⟩:=Row.bV row hj
    have:=aY y2;exact .inr (.inr ⟨y1,by omega⟩)
   ·exact bm b.block (by rw [hb];rfl)
   ·exact bb b.block (by rw [hb];rfl)
  ·rw [wW]
   simp only [List.length_append,List.length_singleton];have JU:Kept (fun j=>j=r\/j=w1.heap.size) u4 u6:=(FZ.mono fun _ _ h=>.inl h).trans z3 (fun _ _ h=>.inr h);refine qu.mono (F:=F2) (qu.aJ (S:=fun j=>j=r\/j=w1.heap.size) (w:=u4) (qu.snoc kL (Row.len hU) p3.len Lc (fun j hj=>?_) (fun j hj=>.inl hj) hcw (Y6.aJ (Ij.trans Lc (fun _ _ h=>h.elim)) (fun a ha e=>by have:=bw a.block (by rw [ha];rfl);omega)) (fun b hb=>.inr (.inl ?_))) JU QN) WJ
   ·obtain⟨y1,cur,y2⟩:=Row.bV kL hj
    have:=aY y2;exact .inr (.inr ⟨by omega,by omega⟩)
   ·exact bw b.block (by rw [hb];rfl)
  ·refine((Wt.aJ (JW.tt ku) (fun h=>h) (fun _ _ h=>h)).aJ XC (fun e=>?_) (fun j hj e=>?_)).mono (fun j hj=>?_) (fun e=>?_)
   ·rcases e with e|e
    ·exact h.ne e.symm
    ·omega
   ·rcases hj with hj|hj
    ·have:=KP j hj
     rcases e with e|e
     ·exact h.iT (by rw [<-e];exact hj)
     ·omega
    ·omega
   ·rcases hj with hj|hj
    ·exact .inl hj
    ·have:=Cz.size
     have:=JW.size;exact .inr ⟨by omega,by omega⟩
   ·rcases e with e|e
    ·exact h.X.iT e
    ·omega
  ·rcases hj with hj|hj
   ·exact h.iT hj
   ·omega
  ·rcases hj with hj|hj
   ·have:=KP j hj
    omega
   ·exact hj.2
  ·exact(Es.mono fun _ _ h=>.inr h).trans Ep (fun j hj e=>by
    rcases e with e|e
    ·exact .inl e
    ·omega)
 have Gk:(di (dr k G s l) Am nm cm E e ce).toList++ []=(di (dr k G s l) Am nm cm E e ce).toList:=List.append_nil _;refine Is.mk rfl ⟨some a1,G.D.length,c1,by rw [bC,aE OR];rfl,_,⟨bH ..,Cells.bV Qw⟩,?_,?_⟩
 ·obtain⟨Aa,c2,u2,news,RG,hU,G1,vR⟩:=zi (w:=jb) DZ (by omega) (by omega) (cx:=c1) (JM jb F G.sI) (Nb a1 rfl)
  refine⟨Aa,_,c2,u2,RG,⟨_,rfl,bH ..,Cells.bV (G1.heap Qw (fun h=>h))⟩,bH ..,?_⟩;intro u3;have F8:Kept Nil u2 u3:=(Kept.refl _ _).alloc _;have BM:u3.heap[u2.heap.size]? =some (.cells (di (dr k G s l) Am nm cm E e ce) bL (0,0)):=by
   have:=aM u2 (.cells (di (dr k G s l) Am nm cm E e ce) bL);show(u2.alloc (.cells ((di (dr k G s l) Am nm cm E e ce).toList++ []).toArray bL)).heap[u2.heap.size]? =_;rw [Gk,Array.toArray_toList];exact this
  clear_value u3;have su2:=G1.size;have Ze:=F8.size;obtain⟨Ab,c3,u4,x7,kL,EG⟩:=zh DZ (by omega) (by omega) (Row.aJ hU F8 (fun _ _ h=>h)) (by omega) BM (bH ..) (fu _ _ _ _ _ _ _);have ku:Kept Nil jb u4:=Kept.eA (G1.tt F8) EG (fun j hj=>(Row.bV hU hj).1);refine⟨Ab,_,c3,u4,x7,Is.mk rfl ?_⟩;exact tail kL (Row.len hU) vR ku
 ·refine⟨bH ..,?_⟩
  intro u3;have F8:Kept Nil jb u3:=(Kept.refl _ _).alloc _;have BM:u3.heap[jb.heap.size]? =some (.cells (di (dr k G s l) Am nm cm E e ce) bL (0,0)):=by
   have:=aM jb (.cells (di (dr k G s l) Am nm cm E e ce) bL);show(jb.alloc (.cells ((di (dr k G s l) Am nm cm E e ce).toList++ []).toArray bL)).heap[jb.heap.size]? =_;rw [Gk,Array.toArray_toList];exact this
  clear_value u3;have Ze:=F8.size;refine⟨by rw [bC,aE (F8.heap OR (fun h=>h))];rfl,?_⟩;have p23:=OQ.aJ F8 (fun _ _ h=>h);obtain⟨Aa,c2,u2,news,RG,hU,G1,vR⟩:=zi (w:=u3) (n:=G.D.length) (a:=a1) DZ (by omega) (by omega) (cx:=c1) (JM jb F G.sI) (fun i hi=>by
   obtain⟨arr,y1,y2,y3,y4⟩:=Nb a1 rfl i hi;exact⟨arr,y1,y2,Cells.aJ y3 F8 (fun h=>h),y4⟩)
  have su2:=G1.size;have Lj:=G1.heap BM (fun h=>h);obtain⟨Ab,c3,u4,x7,kL,EG⟩:=zh DZ (by omega) (by omega) (Row.base hU (B':=jb.heap.size) (fun j hj=>by have:=(Row.bV hU hj).1;omega)) (by omega) Lj (bH ..) (fu _ _ _ _ _ _ _);have ku:Kept Nil jb u4:=Kept.eA (F8.tt G1) EG (fun j hj=>by have:=(Row.bV hU hj).1;omega);refine⟨Aa,_,c2,u2,RG,Ab,_,c3,u4,x7,Is.mk rfl ?_⟩;exact tail kL (Row.len hU) vR ku
end
end Go.Proofs.YtfleamccglihoaaGreatDoor
