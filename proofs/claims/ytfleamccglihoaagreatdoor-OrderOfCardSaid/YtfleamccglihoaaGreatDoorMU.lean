import Derived.Test.YtfleamccglihoaaGreatDoorMT
import Derived.Test.YtfleamccglihoaaGreatDoorMN
open Go.IntKind (i64 u64)
set_option linter.unusedVariables false
namespace Go.Proofs.YtfleamccglihoaaGreatDoor
open Go.Proofs.Tryz
open Go Go.bW Go.RowKit
structure qG(w:World)(F:Nat->Prop)(A:Option Addr)(n:Nat)(l:List ou):Prop where
 len:l.length=n
 at_:∀(i:Nat) x,l[i]? =some x->∃a A1 n1 c1 B1 m1 d1,A=some a/\a.block<w.heap.size/\F a.block/\Cells w (a.add (i*35)) (cS x A1 n1 c1 B1 m1 d1)/\HS w A1 n1 x.merge/\Bo w B1 m1 x.fK/\(∀b,A1=some b->F b.block)/\(∀b,B1=some b->F b.block)
structure qd(w:World)(F:Nat->Prop)(A:Option Addr)(n:Nat)(l:List (List HT)):Prop where
 len:l.length=n
 at_:∀(i:Nat) x,l[i]? =some x->∃a A1 n1 c1,A=some a/\a.block<w.heap.size/\F a.block/\w.cell? (a.add (i*1))=some (.slice A1 n1 c1)/\HS w A1 n1 x/\(∀b,A1=some b->F b.block)
section
variable{w w':World}{F F' S:Nat->Prop}{A:Option Addr}{n:Nat}
theorem qG.aF{l:List ou}(h:qG w F A n l)(hk:Kept S w w')(hn:∀j,F j->¬S j):qG w' F A n l:=⟨h.len,fun i x hi=>by
 obtain⟨a,A1,n1,c1,B1,m1,d1,g1,g2,g3,g4,g5,g6,g7,g8⟩:=h.at_ i x hi;exact⟨a,A1,n1,c1,B1,m1,d1,g1,Nat.lt_of_lt_of_le g2 hk.size,g3,Cells.aF g4 hk (by rw [fg];exact hn _ g3),g5.aF hk (fun b hb=>hn _ (g7 b hb)),g6.aF hk (fun b hb=>hn _ (g8 b hb)),g7,g8⟩⟩
theorem qG.mono{l:List ou}(h:qG w F A n l)(hf:∀j,F j->F' j):qG w F' A n l:=⟨h.len,fun i x hi=>by
 obtain⟨a,A1,n1,c1,B1,m1,d1,g1,g2,g3,g4,g5,g6,g7,g8⟩:=h.at_ i x hi;exact⟨a,A1,n1,c1,B1,m1,d1,g1,g2,hf _ g3,g4,g5,g6,fun b hb=>hf _ (g7 b hb),fun b hb=>hf _ (g8 b hb)⟩⟩
theorem qd.aF{l:List (List HT)}(h:qd w F A n l)(hk:Kept S w w')(hn:∀j,F j->¬S j):qd w' F A n l:=⟨h.len,fun i x hi=>by
 obtain⟨a,A1,n1,c1,g1,g2,g3,g4,g5,g6⟩:=h.at_ i x hi;exact⟨a,A1,n1,c1,g1,Nat.lt_of_lt_of_le g2 hk.size,g3,hk.cell g4 (by rw [fg];exact hn _ g3),g5.aF hk (fun b hb=>hn _ (g6 b hb)),g6⟩⟩
theorem qd.mono{l:List (List HT)}(h:qd w F A n l)(hf:∀j,F j->F' j):qd w F' A n l:=⟨h.len,fun i x hi=>by
 obtain⟨a,A1,n1,c1,g1,g2,g3,g4,g5,g6⟩:=h.at_ i x hi;exact⟨a,A1,n1,c1,g1,g2,hf _ g3,g4,g5,fun b hb=>hf _ (g6 b hb)⟩⟩
end
structure R3(w:World)(F:Nat->Prop)(r x k:Nat)(G:GS):Prop where
 top:∃A c B e,w.heap[r]? =some (.cells #[.int .i64 (k:Int),.pointer (some ⟨x,0,none⟩),.slice A G.D.length c,.slice B G.D.length e] hU (0,0))/\qG w F A G.D.length G.qF/\qd w F B G.D.length G.kV
 X:o8 w F x G.D G.P
 iG:¬F r
 ne:r≠x
 fc:iH k G
 lo:∀j,F j->j<w.heap.size
section
variable{w w':World}{F F' S:Nat->Prop}{r x k:Nat}{G:GS}{K:Value->World->Prop}
theorem R3.aF(h:R3 w F r x k G)(hk:Kept S w w')(hr:¬S r)(hx:¬S x)(hF:∀j,F j->¬S j):R3 w' F r x k G:=by
 obtain⟨A,c,B,e,g1,g2,g3⟩:=h.top;exact⟨⟨A,c,B,e,hk.heap g1 hr,g2.aF hk hF,g3.aF hk hF⟩,h.X.aF hk hx hF,h.iG,h.ne,h.fc,fun j e=>Nat.lt_of_lt_of_le (h.lo j e) hk.size⟩
theorem R3.same(h:R3 w F r x k G)(hk:Kept Nil w w'):R3 w' F r x k G:=h.aF hk (fun h=>h) (fun h=>h) (fun _ _ h=>h)
theorem R3.lt(h:R3 w F r x k G):r<w.heap.size:=by obtain⟨_,_,_,_,g,_⟩:=h.top;exact aU g
theorem R3.lx(h:R3 w F r x k G):x<w.heap.size:=h.X.lt
theorem R3.c0(h:R3 w F r x k G):w.cell? ((⟨r,0,none⟩:Addr).add 0)=some (.int .i64 (k:Int)):=by obtain⟨_,_,_,_,g,_⟩:=h.top;rw [bt,aD g];rfl
theorem R3.c1(h:R3 w F r x k G):w.cell? ((⟨r,0,none⟩:Addr).add 1)=some (.pointer (some ⟨x,0,none⟩)):=by obtain⟨_,_,_,_,g,_⟩:=h.top;rw [bt,aD g];rfl
theorem Ox(h:iH k G){y:HT}(hy:y∈ids G.D):∃(i:Nat) (nd:DN) (c:ou) (l:List HT),G.D[i]? =some nd/\nd.id=y/\G.qF[i]? =some c/\G.kV[i]? =some l/\sE G.D y=(i:Int)/\G.fZ y=c/\G.world y=l/\i<G.D.length:=by
 obtain⟨nd,gu,rfl⟩:=dr.1 hy;obtain⟨i,hi⟩:=List.mem_iff_getElem?.1 gu;have dS:=(lgeS hi).1;obtain⟨c,hc⟩:∃c,G.qF[i]? =some c:=⟨_,List.getElem?_eq_getElem (by rw [h.lc];exact dS)⟩;obtain⟨l,hl⟩:∃l,G.kV[i]? =some l:=⟨_,List.getElem?_eq_getElem (by rw [h.lw];exact dS)⟩;exact⟨i,nd,c,l,hi,rfl,hc,hl,Dv h.W hi,GS.JQ h.W hi hc,GS.Hm h.W hi hl,dS⟩
theorem lf(h:R3 w F r x k G)(hD:G.D.length<=5000){a:HT}(ha:a∈ids G.D)(hK:∀w',Kept Nil w w'->K (.int .u64 (G.score a:Int)) w'):
 bC prog dG.id #[.pointer (some ⟨r,0,none⟩),.agg a.1] w K:=by
 refine dG.of ?_;unfold dG.W;intro w4 w5;have k4:Kept Nil w w4:=(Kept.refl _ _).alloc _;have Bj:w4.heap[w.heap.size]? =some (.cells a.1 ag (0,0)):=aH w _;have k5:Kept Nil w4 w5:=(Kept.refl _ _).drew;clear_value w5;have Mk:=k5.heap Bj (fun h=>h);have q9:=k4.tt k5;have h5:=h.same q9;obtain⟨A,c,B,e,g1,g2,g3⟩:=h5.top;refine Is.mk rfl ⟨A,_,c,by rw [bt,aD g1];rfl,Is.mk rfl ⟨_,h5.c1,Is.mk rfl ⟨a.1,⟨a.2.1,Cells.bL Mk⟩,?_⟩⟩⟩;rw [add_zero];refine jI h5.X.gr (by omega) a fun w6 k6=>⟨_,rfl,?_⟩;have g16:=k6.heap g1 (fun h=>h);obtain⟨i,nd,cl,l,q1,q2,q3,q4,q5,q6,q7,q8⟩:=Ox h.fc ha;rw [q5];obtain⟨aa,A1,n1,c1,B1,m1,d1,p1,p2,p3,p4,_⟩:=(g2.aF k6 (fun _ _ h=>h)).at_ i cl q3;subst p1;refine⟨by rw [bt,aD g16];rfl,⟨by omega,by omega⟩,Is.mk rfl ⟨((G.score a:Nat):Int),?_,?_⟩⟩
 ·have:=gJ cl A1 n1 c1 B1 m1 d1 #[]
  rw [Array.append_empty]at this;have Hd:=p4 32 _ this.1;rw [Int.toNat_natCast,Hd];unfold GS.score;rw [q6]
 ·exact hK w6 (q9.tt k6)
theorem zV(h:iH k G){a:HT}(ha:a∈ids G.D):G.score a<=G.D.length:=by
 rw [(h.wd a ha).2.2];exact sF h ha
theorem qJ(h:R3 w F r x k G)(hD:G.D.length<=5000){a b:HT}(ha:a∈ids G.D)(hb:b∈ids G.D)(hK:∀w',Kept Nil w w'->K (.bool (gl G a b)) w'):
 bC prog dX.id #[.pointer (some ⟨r,0,none⟩),.agg a.1,.agg b.1] w K:=by
 refine dX.of ?_;unfold dX.W;intro w4 w5 w6;have k4:Kept Nil w w4:=(Kept.refl _ _).alloc _;have Bj:w4.heap[w.heap.size]? =some (.cells a.1 ag (0,0)):=aH w _;have k5:Kept Nil w4 w5:=(Kept.refl _ _).alloc _;have oS:w5.heap[w4.heap.size]? =some (.cells b.1 ag (0,0)):=aH w4 _;have k6:Kept Nil w5 w6:=(Kept.refl _ _).drew;clear_value w6;have xi:=k6.heap (k5.heap Bj (fun h=>h)) (fun h=>h);have qE:=k6.heap oS (fun h=>h);have qZ:=(k4.tt k5).tt k6;refine⟨a.1,⟨a.2.1,Cells.bL xi⟩,b.1,⟨b.2.1,Cells.bL qE⟩,?_⟩;refine lf (h.same qZ) hD ha fun w7 k7=>⟨_,rfl,⟨_,rfl,b.2.1,Cells.bL (k7.heap qE (fun h=>h))⟩,?_⟩;have zv:=qZ.tt k7;refine lf (h.same zv) hD hb fun w8 k8=>⟨_,rfl,?_⟩;have uL:=zv.tt k8;have Yl:=k7.tt k8;by_cases he:G.score a=G.score b
 ·refine Split.no (by rw [he];simp) ⟨a.1,⟨a.2.1,Cells.bL (Yl.heap xi (fun h=>h))⟩,b.1,⟨b.2.1,Cells.bL (Yl.heap qE (fun h=>h))⟩,?_⟩
  refine tH a b fun w9 k9=>⟨_,rfl,?_⟩;have e:decide (lT a b<0)=gl G a b:=by
   rw [Bool.eq_iff_iff,decide_eq_true_eq,si];unfold gl;rw [decide_eq_false (by omega),decide_eq_true he];simp
  rw [e];exact hK w9 (uL.tt k9)
 ·refine Split.yes (by simp only [bne_iff_ne,ne_eq];omega) ?_
  have e:decide ((G.score a:Int)<(G.score b:Int))=gl G a b:=by
   unfold gl;rw [decide_eq_false he];simp
  rw [e];exact hK w8 uL
theorem KZ(h:R3 w F r x k G)(hD:G.D.length<=5000){A:Option Addr}{n cx:Nat}{l:List HT}(hl:HS w A n l)(hn:n<=400000)(hK:∀w',Kept Nil w w'->K (.int .i64 (nQ G.D l)) w'):
 bC prog bz.id #[.pointer (some ⟨r,0,none⟩),.slice A n cx] w K:=by
 have hlen:=hl.len;refine bz.of ?_;unfold bz.W;by_cases h0:n=0
 ·subst h0
  have e:l= []:=List.eq_nil_of_length_eq_zero hlen;refine Split.yes rfl ?_;have:=hK w (Kept.refl _ _);unfold nQ at this;rw [if_pos e]at this;exact this
 have fM:l≠ []:=fun e=>by subst e;exact h0 hlen.symm
 refine Split.no (by simpa using (by omega:¬(n:Int)=0)) ?_;refine bz.cC (I:=fun s v=>∃i:Nat,s=(0,(i:Int))/\i<=n/\(∀p∈l.take i,p∈ids G.D)/\Kept Nil w v) (μ:=fun s _=>((n:Int)-s.2).toNat) (s:=(0,0)) ⟨0,rfl,Nat.zero_le _,by simp,Kept.refl _ _⟩ ?_;rintro s v ⟨i,rfl,hi,dt,kv⟩;unfold bz.B1;refine Split.dec (fun cY=>?_) (fun gA=>?_)
 ·simp only at cY
  have dS:i<n:=by omega
  obtain⟨y,hy⟩:∃y,l[i]? =some y:=⟨_,List.getElem?_eq_getElem (by omega)⟩;intro w3;have k3:Kept Nil v w3:=(Kept.refl _ _).drew;clear_value w3;have rZ:=kv.tt k3;have h3:=h.same rZ;refine Is.mk rfl ⟨_,h3.c1,Is.mk rfl ((hl.same rZ).load (i:=(i:Int)) (by omega) hy ?_)⟩;rw [add_zero];refine jI h3.X.gr (by omega) y fun w4 k4=>⟨_,rfl,?_⟩;have nJ:=rZ.tt k4;refine Split.dec (fun yY=>?_) (fun jF=>?_)
  ·rw [iW]
   have:=hK w4 nJ;unfold nQ at this;rw [if_neg fM,if_pos ⟨y,List.mem_of_getElem? hy,oM.1 yY⟩]at this;exact this
  ·simp only
   rw [dM (n:=(i:Int)) (by omega) (by omega)];refine⟨(0,(i:Int)+1),rfl,⟨i+1,rfl,dS,fun p hp=>?_,nJ⟩,by simp only;omega⟩;rcases(bP hy).1 hp with hp|rfl
   ·exact dt p hp
   ·exact Classical.byContradiction fun e=>jF (oM.2 e)
 ·simp only at gA
  rw [aR,bz.df];rw [List.take_of_length_le (by omega)]at dt;have:=hK v kv;unfold nQ at this;rw [if_neg fM,if_neg (fun⟨p,hp,hn⟩=>hn (dt p hp))]at this;exact this
theorem uh(h:R3 w F r x k G)(hD:G.D.length<=5000){A:Option Addr}{n cx:Nat}{l:List HT}(hl:HS w A n l)(h0:l≠ [])(hn:n<=400000)(gK:∀y∈l,y∈ids G.D)(hK:∀w',Kept Nil w w'->K (.agg (cF G l).1) w'):
 bC prog a7.id #[.pointer (some ⟨r,0,none⟩),.slice A n cx] w K:=by
 have hlen:=hl.len;obtain⟨x0,t,rfl⟩:∃x0 t,l=x0::t:=by cases l with|nil=>exact absurd rfl h0|cons a b=>exact⟨a,b,rfl⟩
 refine a7.of ?_;unfold a7.W;intro w1;have k1:Kept Nil w w1:=(Kept.refl _ _).alloc _;have mU:w1.heap[w.heap.size]? =some (.cells eN.1 ag (0,0)):=aH w _;clear_value w1;simp only [List.length_cons]at hlen;refine(hl.same k1).load (i:=0) (by omega) rfl ?_;intro w2;have k2:Kept Nil w1 w2:=(Kept.refl _ _).alloc _;have lE:w2.heap[w1.heap.size]? =some (.cells eN.1 ag (0,0)):=aH w1 _;clear_value w2;have jJ:=k2.heap mU (fun h=>h);have l1:=aU mU;have l2:=aU lE;obtain⟨t1,t2,t3⟩:=jS x0 lE rfl;refine⟨t1,?_⟩;intro w3
 replace t2:w3.heap[w1.heap.size]? =some (.cells x0.1 ag (0,0)):=t2
 replace t3:Kept (· =w1.heap.size) w2 w3:=t3
 clear_value w3;have s1:=k1.size;have kP:Kept Nil w w3:=(k1.tt k2).trans t3 (fun j hj e=>by omega);have uq:=t3.heap jJ (by omega);refine a7.cC (I:=fun s v=>∃(i:Nat) (b:HT),s=(i:Int)/\1<=i/\i<=n/\b∈ids G.D/\((x0::t).drop i).foldl (fun b y=>if gl G b y then y else b) b=cF G (x0::t)/\v.heap[w1.heap.size]? =some (.cells b.1 ag (0,0))/\v.heap[w.heap.size]? =some (.cells eN.1 ag (0,0))/\Kept Nil w v) (μ:=fun s _=>((n:Int)-s).toNat) (s:=1) ⟨1,x0,rfl,Nat.le_refl _,by omega,gK _ List.mem_cons_self,rfl,t2,uq,kP⟩ ?_;rintro s v ⟨i,b,rfl,L8,xf,hb,he,EF,UN,kv⟩;unfold a7.B1;refine Split.dec (fun cY=>?_) (fun gA=>?_)
 ·have dS:i<n:=by omega
  obtain⟨y,hy⟩:∃y,(x0::t)[i]? =some y:=⟨_,List.getElem?_eq_getElem (by simp;omega)⟩;have Ng:y∈ids G.D:=gK _ (List.mem_of_getElem? hy);have hd:(x0::t).drop i=y::(x0::t).drop (i+1):=by
   obtain⟨q1,q2⟩:=lgeS hy;rw [List.drop_eq_getElem_cons q1,q2]
  rw [hd,List.foldl_cons]at he;intro w4;have k4:Kept Nil v w4:=(Kept.refl _ _).drew;clear_value w4;have nJ:=kv.tt k4;have PZ:(x0::t)[((i:Nat):Int).toNat]? =some y:=by rw [Int.toNat_natCast];exact hy
  refine⟨b.1,⟨b.2.1,Cells.bL (k4.heap EF (fun h=>h))⟩,(hl.same nJ).load (i:=(i:Int)) (by omega) PZ ?_⟩;refine qJ (h.same nJ) hD hb Ng fun w5 k5=>⟨_,rfl,?_⟩;have BQ:=nJ.tt k5;have oS:=k5.heap (k4.heap EF (fun h=>h)) (fun h=>h);have th:=k5.heap (k4.heap UN (fun h=>h)) (fun h=>h);rw [dM (n:=(i:Int)) (by omega) (by omega)];refine Split.mk (fun xY=>?_) (fun hle=>?_)
  ·rw [if_pos xY]at he
   refine(hl.same BQ).load (i:=(i:Int)) (by omega) PZ ?_;obtain⟨f1,f2,f3⟩:=jS y oS b.2.1;refine⟨f1,?_⟩;exact⟨(i:Int)+1,rfl,⟨i+1,y,rfl,by omega,by omega,Ng,he,f2,f3.heap th (by omega),BQ.trans f3 (fun j hj e=>by omega)⟩,by simp only;omega⟩
  ·rw [if_neg (by rw [hle];decide)]at he
   exact⟨(i:Int)+1,rfl,⟨i+1,b,rfl,by omega,by omega,hb,he,oS,th,BQ⟩,by simp only;omega⟩
 ·rw [aR,a7.df]
  rw [List.drop_eq_nil_of_le (by simp;omega)]at he
  replace he:b=cF G (x0::t):=he
  subst he;refine⟨_,⟨tl _,Cells.bL EF⟩,?_⟩;obtain⟨f1,f2,f3⟩:=jS (cF G (x0::t)) UN rfl;exact⟨f1,_,⟨tl _,Cells.bL f2⟩,hK _ (kv.trans f3 (fun j hj e=>by omega))⟩
theorem pF(h:R3 w F r x k G)(hD:G.D.length<=5000){A:Option Addr}{n cx:Nat}{l:List HT}(hl:HS w A n l)(hn:n<=100000)(y:HT)(hK:∀A' c' w',bI w' w.heap.size A' (bZ G.D l y).length c' (bZ G.D l y)->Kept Nil w w'->K (.slice A' (bZ G.D l y).length c') w'):
 bC prog bf.id #[.pointer (some ⟨r,0,none⟩),.slice A n cx,.agg y.1] w K:=by
 have hlen:=hl.len;refine bf.of ?_;unfold bf.W;intro w1;have k1:Kept Nil w w1:=(Kept.refl _ _).alloc _;have PY:w1.heap[w.heap.size]? =some (.cells y.1 ag (0,0)):=aH w _;clear_value w1;refine bf.cC (I:=fun s v=>∃(i:Nat) (B:Option Addr) (c:Nat),s=(B,(bZ G.D (l.take i) y).length,c,(i:Int))/\i<=n/\bI v w1.heap.size B (bZ G.D (l.take i) y).length c (bZ G.D (l.take i) y)/\Kept Nil w1 v) (μ:=fun s _=>((n:Int)-s.2.2.2).toNat) (s:=(none,0,0,0)) ⟨0,none,0,rfl,Nat.zero_le _,bI.nil _ _,Kept.refl _ _⟩ ?_;rintro s v ⟨i,B,c,rfl,hi,row,kv⟩;unfold bf.B1;have El:=k1.tt kv;refine Split.dec (fun cY=>?_) (fun gA=>?_)
 ·simp only at cY
  have dS:i<n:=by omega
  obtain⟨z,hz⟩:∃z,l[i]? =some z:=⟨_,List.getElem?_eq_getElem (by omega)⟩;have ry:(bZ G.D (l.take i) y).length<=100000:=by
   have:=List.length_filter_le (fun b=>decide (oq G.D b y)) (l.take i);have h2:=List.length_take_le i l;unfold bZ;omega
  intro w3;have k3:Kept Nil v w3:=(Kept.refl _ _).drew;clear_value w3;have rZ:=kv.tt k3;have kP:=k1.tt rZ;have h3:=h.same kP;have zw:l[((i:Nat):Int).toNat]? =some z:=by rw [Int.toNat_natCast];exact hz
  refine Is.mk rfl ⟨_,h3.c1,Is.mk rfl ((hl.same kP).load (i:=(i:Int)) (by omega) zw ⟨y.1,⟨y.2.1,Cells.bL (rZ.heap PY (fun h=>h))⟩,?_⟩)⟩;rw [add_zero];refine FC h3.X.gr h.fc.W (by omega) z y fun w4 b hb k4=>⟨b,rfl,?_⟩
  replace hb:b=true↔oq G.D z y:=hb
  have nJ:=rZ.tt k4;have mE:=k1.tt nJ;have iC:=Row.aF row (k3.tt k4) (fun _ _ h=>h);have GA:bZ G.D (l.take (i+1)) y=bZ G.D (l.take i) y++if oq G.D z y then [z]else []:=by
   rw [List.take_add_one,hz,fX]
   congr 1
   unfold bZ;by_cases hp:oq G.D z y
   ·rw [if_pos hp];simp [hp]
   ·rw [if_neg hp];simp [hp]
  cases b with
  |true=>
   rw [if_pos (hb.1 rfl)]at GA;refine Split.yes rfl ((hl.same mE).load (i:=(i:Int)) (by omega) zw ⟨z.2.1,?_⟩);intro w5;have k5:Kept Nil w4 w5:=(Kept.refl _ _).alloc _;have Nk:=jf w4 z;have s5:=(nJ.tt k5).size;obtain⟨A',c',w6,hr,rN,hg,_⟩:=cK (cx:=1) ay (Row.aF iC k5 (fun _ _ h=>h)) Nk (by omega) s5;refine⟨A',_,c',w6,hr,?_⟩;rw [dM (n:=(i:Int)) (by omega) (by omega)];have e:(bZ G.D (l.take (i+1)) y).length=(bZ G.D (l.take i) y).length+1:=by rw [GA];simp
   refine⟨(A',(bZ G.D (l.take i) y).length+1,c',(i:Int)+1),rfl,⟨i+1,A',c',by rw [e];rfl,dS,by rw [e,GA];exact rN,?_⟩,by simp only;omega⟩;exact Kept.dO (nJ.tt k5) hg (fun j hj=>(Row.bL row hj).1)
  |false=>
   rw [if_neg (fun e=>by have:=hb.2 e;cases this),List.append_nil]at GA;refine Split.no rfl ?_;simp only;rw [dM (n:=(i:Int)) (by omega) (by omega)];exact⟨(B,(bZ G.D (l.take i) y).length,c,(i:Int)+1),rfl,⟨i+1,B,c,by rw [GA];rfl,dS,by rw [GA];exact iC,nJ⟩,by simp only;omega⟩
 ·simp only at gA
  rw [aR,bf.df];rw [List.take_of_length_le (by omega)]at row;have e:i=n:=by omega
  subst e;rw [List.take_of_length_le (by omega)];exact hK B c v (Row.base row (fun j hj=>by have:=(Row.bL row hj).1;have:=k1.size;omega)) El
end
structure VJ(v:World)(B0 xb rb:Nat)(x:ou)(A:Option Addr)(n cp:Nat)(E:Option Addr)(e ce:Nat)(W:Option Addr)(nw cw:Nat)(wd:List HT):Prop where
 top:v.heap[xb]? =some (.cells (cS x A n cp E e ce) br (0,0))
 mg:bI v B0 A n cp x.merge
 bl:Row v B0 gZ 1 E e ce (sD x.fK)
 wr:bI v B0 W nw cw wd
 box:v.heap[rb]? =some (.cells zC br (0,0))
 AE:∀j,bn A=some j->bn E≠some j
 AW:∀j,bn A=some j->bn W≠some j
 EW:∀j,bn E=some j->bn W≠some j
 xB:xb<B0
 rB:rb<B0
 xr:xb≠rb
section
variable{v v' u:World}{B0 xb rb n cp e ce nw cw:Nat}{x:ou}{A E W:Option Addr}{wd:List HT}{K:Value->World->Prop}
theorem VJ.same(h:VJ v B0 xb rb x A n cp E e ce W nw cw wd)(k:Kept Nil v v'):VJ v' B0 xb rb x A n cp E e ce W nw cw wd:=
 ⟨k.heap h.top (fun h=>h),Row.aF h.mg k (fun _ _ h=>h),Row.aF h.bl k (fun _ _ h=>h),Row.aF h.wr k (fun _ _ h=>h),k.heap h.box (fun h=>h),h.AE,h.AW,h.EW,h.xB,h.rB,h.xr⟩
theorem VJ.f32(h:VJ v B0 xb rb x A n cp E e ce W nw cw wd):v.cell? ((⟨xb,0,none⟩:Addr).add 32)=some (.int .u64 (x.score:Int)):=by
 have:=(gJ x A n cp E e ce #[]).1;rw [Array.append_empty]at this;rw [bt,aD h.top];exact this
theorem VJ.f33(h:VJ v B0 xb rb x A n cp E e ce W nw cw wd):v.cell? ((⟨xb,0,none⟩:Addr).add 33)=some (.slice A n cp):=by
 have:=(gJ x A n cp E e ce #[]).2.1;rw [Array.append_empty]at this;rw [bt,aD h.top];exact this
theorem VJ.f34(h:VJ v B0 xb rb x A n cp E e ce W nw cw wd):v.cell? ((⟨xb,0,none⟩:Addr).add 34)=some (.slice E e ce):=by
 have:=(gJ x A n cp E e ce #[]).2.2.1;rw [Array.append_empty]at this;rw [bt,aD h.top];exact this
theorem VJ.wrx(h:VJ v B0 xb rb x A n cp E e ce W nw cw wd){j:Nat}(hj:j<35):Wr v ((⟨xb,0,none⟩:Addr).add j):=by
 rw [bt];exact dm h.top (by rw [a8];omega)
theorem VJ.OZ(h:VJ v B0 xb rb x A n cp E e ce W nw cw wd)(j:Nat)(z:Value):Kept (· =xb) v (v.setCell ((⟨xb,0,none⟩:Addr).add j) z):=by
 rw [bt];exact Kept.setCell (S:=(· =xb)) (Kept.refl _ v) (p:=⟨xb,0+j,none⟩) (fun _=>rfl) _
theorem VJ.O1(h:VJ v B0 xb rb x A n cp E e ce W nw cw wd)(s:Nat):VJ (v.setCell ((⟨xb,0,none⟩:Addr).add 32) (.int .u64 (s:Int))) B0 xb rb {x with score:=s} A n cp E e ce W nw cw wd:=by
 have k:=h.OZ 32 (.int .u64 (s:Int));have xB:=h.xB;refine⟨?_,Row.aF h.mg k (fun j hj e=>by have:=(Row.bL h.mg hj).1;omega),Row.aF h.bl k (fun j hj e=>by have:=(Row.bL h.bl hj).1;omega),Row.aF h.wr k (fun j hj e=>by have:=(Row.bL h.wr hj).1;omega),k.heap h.box h.xr.symm,h.AE,h.AW,h.EW,h.xB,h.rB,h.xr⟩;rw [bt,cV h.top];have:=wA x A n cp E e ce #[] s;rw [Array.append_empty,Array.append_empty]at this;rw [this]
theorem VJ.To(h:VJ v B0 xb rb x A n cp E e ce W nw cw wd)(hB:B0<=v.heap.size)(hn:nw<=100000){z:HT}(nt:Kept Nil v v'){bx:Nat}(hx:HS v' (some ⟨bx,0,none⟩) 1 [z]):
 ∃W' Sv u,(Builtin.append_ #[ay,ay] ay #[.slice W nw cw,.slice (some ⟨bx,0,none⟩) 1 1]).run prog v'=.ok (.slice W' (nw+1) Sv) u/\VJ u B0 xb rb x A n cp E e ce W' (nw+1) Sv (wd++ [z])/\Kept (fun j=>j=xb\/B0<=j) v u:=by
 have h':=h.same nt;have Tc:=nt.size;obtain⟨W',c',u,hr,row,hg,hb⟩:=cK (cx:=1) ay h'.wr hx (by omega) (by omega);have kg:Kept (fun j=>bn W=some j) v' u:=Kept.grown (Kept.refl _ _) hg (fun j hj _=>hj);have nB:∀j,j<B0->bn W≠some j:=fun j hj e=>by have:=(Row.bL h.wr e).1;omega
 refine⟨W',c',u,hr,⟨kg.heap h'.top (nB _ h.xB),Row.aF h'.mg kg (fun j hj=>h.AW j hj),Row.aF h'.bl kg (fun j hj=>h.EW j hj),row,kg.heap h'.box (nB _ h.rB),h.AE,fun j hj e=>?_,fun j hj e=>?_,h.xB,h.rB,h.xr⟩,(nt.mono fun _ _ h=>h.elim).trans kg (fun j hj e=>.inr (Row.bL h.wr e).1)⟩
 ·rcases hb j e with e'|e'
  ·exact h.AW j hj e'
  ·obtain⟨_,cur,hc⟩:=Row.bL h'.mg hj
   have:=aU hc;omega
 ·rcases hb j e with e'|e'
  ·exact h.EW j hj e'
  ·obtain⟨_,cur,hc⟩:=Row.bL h'.bl hj
   have:=aU hc;omega
theorem VJ.HU(h:VJ v B0 xb rb x A n cp E e ce W nw cw wd)(hB:B0<=v.heap.size)(hn:e<=100000){b:Bool}(nt:Kept Nil v v'){bx:Nat}(hx:v'.cell? ⟨bx,0,none⟩=some (.bool b)):
 ∃E' sC u,(Builtin.append_ #[gQ,gQ] gQ #[.slice E e ce,.slice (some ⟨bx,0,none⟩) 1 1]).run prog v'=.ok (.slice E' (e+1) sC) u/\Wr u ((⟨xb,0,none⟩:Addr).add 34)/\
  VJ (u.setCell ((⟨xb,0,none⟩:Addr).add 34) (.slice E' (e+1) sC)) B0 xb rb {x with fK:=x.fK++ [b]} A n cp E' (e+1) sC W nw cw wd/\Kept (fun j=>j=xb\/B0<=j) v (u.setCell ((⟨xb,0,none⟩:Addr).add 34) (.slice E' (e+1) sC)):=by
 have h':=h.same nt;have Tc:=nt.size;have xB:=h.xB;obtain⟨E',c',u,hr,row,hg,hb⟩:=fP (P:=prog) (t:=gQ) (bytes:=1) (ty:=gQ) Cl h'.bl (a:=⟨bx,0,none⟩) (m:=1) (cx:=1) (news:= [.bool b]) rfl (fun j z hj=>by
  cases j with
  |zero=>simp only [List.getElem?_cons_zero,Option.some.injEq]at hj;subst hj;rw [add_zero];exact hx
  |succ j=>simp at hj) (fun z hz=>by
  have:z=.bool b:=by simpa using hz
  subst this;rfl) (by omega) (by unfold maxLen;omega) (by omega)
 have kg:Kept (fun j=>bn E=some j) v' u:=Kept.grown (Kept.refl _ _) hg (fun j hj _=>hj);have nB:∀j,j<B0->bn E≠some j:=fun j hj e=>by have:=(Row.bL h.bl e).1;omega
 have top:=kg.heap h'.top (nB _ h.xB);have ks:Kept (· =xb) u (u.setCell ((⟨xb,0,none⟩:Addr).add 34) (.slice E' (e+1) c')):=by
  rw [bt];exact Kept.setCell (S:=(· =xb)) (Kept.refl _ u) (p:=⟨xb,0+34,none⟩) (fun _=>rfl) _
 have lP:Kept (fun j=>j=xb\/bn E=some j) v' (u.setCell ((⟨xb,0,none⟩:Addr).add 34) (.slice E' (e+1) c')):=(kg.mono fun _ _ h=>.inr h).trans ks (fun _ _ h=>.inl h);refine⟨E',c',u,hr,by rw [bt];exact dm top (by rw [a8];omega),⟨?_,?_,?_,?_,?_,fun j hj e=>?_,h.AW,fun j hj e=>?_,h.xB,h.rB,h.xr⟩,(nt.mono fun _ _ h=>h.elim).trans lP (fun j hj e=>e.imp (fun h=>h) (fun e=>(Row.bL h.bl e).1))⟩
 ·rw [bt,cV top]
  have:=ri x A n cp E e ce #[] E' (e+1) c';rw [Array.append_empty,Array.append_empty]at this;rw [this];rfl
 ·exact Row.aF h'.mg lP (fun j hj e=>e.elim (fun e=>by have:=(Row.bL h.mg hj).1;omega) (h.AE j hj))
 ·have e1:sD (x.fK++ [b])=sD x.fK++ [.bool b]:=by simp [sD]
  show Row _ B0 gZ 1 E' (e+1) c' (sD (x.fK++ [b]))
  rw [e1];exact Row.aF row ks (fun j hj e=>by have:=(Row.bL row hj).1;omega)
 ·exact Row.aF h'.wr lP (fun j hj e=>e.elim (fun e=>by have:=(Row.bL h.wr hj).1;omega) (fun e=>h.EW j e hj))
 ·exact lP.heap h'.box (fun e=>e.elim (fun e=>h.xr e.symm) (nB _ h.rB))
 ·rcases hb j e with e'|e'
  ·exact h.AE j hj e'
  ·obtain⟨_,cur,hc⟩:=Row.bL h'.mg hj
   have:=aU hc;omega
 ·rcases hb j hj with e'|e'
  ·exact h.EW j e' e
  ·obtain⟨_,cur,hc⟩:=Row.bL h'.wr e
   have:=aU hc;omega
end
section
variable{y w w':World}{F F' S:Nat->Prop}{r x k:Nat}{G:GS}{K:Value->World->Prop}{B0 xb rb n cp e ce nw cw:Nat}{A E W:Option Addr}{s:HT}{l:List HT}
set_option maxHeartbeats 2000000 in
theorem Fb(h:R3 y F r x k G)(hD:G.D.length<=300)(rz:k<=1000)(hB:B0<=y.heap.size)(iG:∀j,(j=r\/j=x\/F j)->j<B0/\j≠xb/\j≠rb)(hM:∀z∈cR G s l,z∈ids G.D)(hs:s∈ids G.D)
 (V:VJ y B0 xb rb ⟨s,G.score s+1,cR G s l,[]⟩ A n cp none 0 0 W nw cw (G.world s++ [s]))
 (hK:∀v E e ce W nw cw,VJ v B0 xb rb (dg k G s l) A n cp E e ce W nw cw (fU k G s l).wd->Kept (fun j=>j=xb\/j=rb\/B0<=j) y (setCells v ⟨rb,0,none⟩ (cS (dg k G s l) A n cp E e ce).toList 0)->K (.tuple #[.agg (cS (dg k G s l) A n cp E e ce),.slice W nw cw]) (setCells v ⟨rb,0,none⟩ (cS (dg k G s l) A n cp E e ce).toList 0)):
 af.cU (some ⟨r,0,none⟩) ⟨B0,0,none⟩ ⟨rb,0,none⟩ none 0 0 ⟨xb,0,none⟩ W nw cw none 0 0 0 K y:=by
 unfold af.cU;have LY:(cR G s l).length<=300:=by
  have:=dq (m:=ids G.D) (mr G s l).nodup hM;rw [gz]at this;omega
 have hn:(cR G s l).length=n:=bI.len V.mg;have hwl:=sF h.fc hs;have Er:=zV h.fc hs;have hR:∀ {v:World},Kept (fun j=>j=xb\/B0<=j) y v->R3 v F r x k G:=fun kv=>h.aF kv (fun e=>by have:=iG r (.inl rfl);omega) (fun e=>by have:=iG x (.inr (.inl rfl));omega) (fun j hj e=>by have:=iG j (.inr (.inr hj));omega);have vl:∀i,i<=n->(kW k G s l i).wd.length<=700:=fun i hi=>by
  obtain⟨b,h1,h2⟩:=Hs k G.D (G.world s++ [s]) ((cR G s l).take i);have h3:=yk ((cR G s l).take i) b;rw [List.length_take]at h3;show(((cR G s l).take i).foldl (oO k G.D) ⟨G.world s++ [s],[]⟩).wd.length<=700;rw [h2];simp only [List.length_append,List.length_singleton];omega
 refine af.vM (I:=fun st v=>∃(i:Nat) (E:Option Addr) (e ce:Nat) (W:Option Addr) (nw cw:Nat),st=(W,nw,cw,(i:Int))/\i<=n/\VJ v B0 xb rb ⟨s,G.score s+1+(kW k G s l i).bl.count true,cR G s l,(kW k G s l i).bl⟩ A n cp E e ce W nw cw (kW k G s l i).wd/\Kept (fun j=>j=xb\/B0<=j) y v) (μ:=fun st _=>((n:Int)-st.2.2.2).toNat) (s:=(W,nw,cw,0)) ⟨0,none,0,0,W,nw,cw,rfl,Nat.zero_le _,V,Kept.refl _ _⟩ ?_;rintro st v ⟨i,E,e,ce,W,nw,cw,rfl,hi,Vv,kv⟩;unfold af.B3;refine⟨A,n,cp,Vv.f33,Split.dec (fun cY=>?_) (fun gA=>?_)⟩
 ·simp only at cY
  have dS:i<n:=by omega
  obtain⟨z,hz⟩:∃z,(cR G s l)[i]? =some z:=⟨_,List.getElem?_eq_getElem (by omega)⟩;have qy:=zM (k:=k) hz;have zw:(cR G s l)[((i:Nat):Int).toNat]? =some z:=by rw [Int.toNat_natCast];exact hz
  have hnw:(kW k G s l i).wd.length=nw:=bI.len Vv.wr;have Yu:=vl i hi;have sv:=kv.size;refine⟨A,n,cp,Vv.f33,(bI.hs Vv.mg).load (i:=(i:Int)) (by omega) zw ?_⟩;refine pF (hR kv) (by omega) (bI.hs Vv.wr) (by omega) z fun N cN w4 Td k4=>⟨N,_,cN,rfl,?_⟩;have nJ:=kv.trans k4 (fun _ _ h=>h.elim);have YX:=hR nJ;refine Is.mk rfl ⟨_,YX.c0,?_⟩;have yX:(bZ G.D (kW k G s l i).wd z).length<=700:=by
   have:=List.length_filter_le (fun b=>decide (oq G.D b z)) (kW k G s l i).wd;unfold bZ;omega
  generalize NH:bZ G.D (kW k G s l i).wd z=Ap at Td yX;have V4:=Vv.same k4;refine af.Ie (I:=fun st u=>∃(b:Bool) (q:Nat),st=(b,(q:Int))/\q<=Ap.length/\b=(decide (Ap.length<=k)&&(Ap.take q).all fun z=>decide ((bZ G.D (kW k G s l i).wd z).length+1<=k))/\Kept Nil w4 u) (μ:=fun st _=>((Ap.length:Int)-st.2).toNat) (s:=(decide ((Ap.length:Int)<=(k:Int)),0)) ⟨_,0,rfl,Nat.zero_le _,by simp,Kept.refl _ _⟩ ?_;rintro st u ⟨b,q,rfl,hq,hb,ku⟩;have Pg:=nJ.trans ku (fun _ _ h=>h.elim);have Vu:=V4.same ku;have fin:∀ {t:World},Kept Nil w4 t->b=oV k G.D (kW k G s l i).wd z->af.DB (some ⟨r,0,none⟩) ⟨rb,0,none⟩ none 0 0 ⟨xb,0,none⟩ W nw cw (i:Int) N Ap.length cN b (q:Int) (bR (af.e3 (some ⟨r,0,none⟩) ⟨rb,0,none⟩ none 0 0 ⟨xb,0,none⟩) (fun st v=>∃(i:Nat) (E:Option Addr) (e ce:Nat) (W:Option Addr) (nw cw:Nat),st=(W,nw,cw,(i:Int))/\i<=n/\VJ v B0 xb rb ⟨s,G.score s+1+(kW k G s l i).bl.count true,cR G s l,(kW k G s l i).bl⟩ A n cp E e ce W nw cw (kW k G s l i).wd/\Kept (fun j=>j=xb\/B0<=j) y v) (fun st _=>((n:Int)-st.2.2.2).toNat) (W,nw,cw,(i:Int)) v (af.q3 K)) t:=fun {t} kt C6=>by
   have Vt:=V4.same kt;have TW:=nJ.trans kt (fun _ _ h=>h.elim);have st:=TW.size;have YT:(kW k G s l i).bl.length=e:=by have:=(Row.bo Vt.bl).len;simpa using this
   have hbi:=DK k G s l i (by omega);unfold af.DB;refine⟨E,e,ce,Vt.f34,?_⟩;intro w5;have k5:Kept Nil t w5:=(Kept.refl _ _).alloc _;have oS:w5.cell? ⟨t.heap.size,0,none⟩=some (.bool b):=by rw [aD (aH t _)];rfl
   clear_value w5;obtain⟨E',sC,u6,q1,q2,q3,q4⟩:=Vt.HU (by omega) (by omega) k5 oS;refine⟨E',e+1,sC,u6,q1,q2,?_⟩;have RP:=TW.tt q4;rw [dM (n:=(i:Int)) (by omega) (by omega)];rw [oO,<-C6]at qy;generalize u6.setCell ((⟨xb,0,none⟩:Addr).add 34) (.slice E' (e+1) sC)=w6 at q3 q4 RP⊢;have s6:=RP.size;cases b with
   |false=>
    refine Split.no rfl ⟨(W,nw,cw,(i:Int)+1),rfl,⟨i+1,E',e+1,sC,W,nw,cw,rfl,dS,?_,RP⟩,by simp only;omega⟩;rw [qy];simpa [List.count_append]using q3
   |true=>
    refine Split.yes rfl ⟨A,n,cp,q3.f33,(bI.hs q3.mg).load (i:=(i:Int)) (by omega) zw ⟨z.2.1,?_⟩⟩;intro w7;have k7:Kept Nil w6 w7:=(Kept.refl _ _).alloc _;have hx7:=jf w6 z;obtain⟨W',Sv,w8,r1,r2,r3⟩:=q3.To (by omega) (by omega) k7 hx7;refine⟨W',nw+1,Sv,w8,r1,_,r2.f32,r2.wrx (by omega),?_⟩;have aki:(kW k G s l i).bl.count true<=300:=by have:=List.count_le_length (a:=true) (l:=(kW k G s l i).bl);omega
    have ew:u64.wrap (((G.score s+1+(kW k G s l i).bl.count true:Nat):Int)+1)=((G.score s+1+(kW k G s l i).bl.count true+1:Nat):Int):=by
     rw [show((G.score s+1+(kW k G s l i).bl.count true:Nat):Int)+1=((G.score s+1+(kW k G s l i).bl.count true+1:Nat):Int)by omega];exact jU (by omega)
    simp only;rw [ew];have r4:=r2.O1 (G.score s+1+(kW k G s l i).bl.count true+1);have r5:=r2.OZ 32 (.int .u64 ((G.score s+1+(kW k G s l i).bl.count true+1:Nat):Int));refine⟨(W',nw+1,Sv,(i:Int)+1),rfl,⟨i+1,E',e+1,sC,W',nw+1,Sv,rfl,dS,?_,(RP.tt r3).trans r5 (fun _ _ h=>.inl h)⟩,by simp only;omega⟩;rw [qy];have ec:((kW k G s l i).bl++ [true]).count true=(kW k G s l i).bl.count true+1:=by simp [List.count_append]
    simp only [if_true];rw [ec,<-Nat.add_assoc];exact r4
  unfold af.B4;refine Split.dec (fun VN=>?_) (fun L9=>?_)
  ·simp only at VN
   refine Split.mk (fun xg=>?_) (fun xg=>?_)
   ·replace xg:b=true:=xg
    subst xg;have LK:q<Ap.length:=by omega
    obtain⟨z2,hz2⟩:∃z2,Ap[q]? =some z2:=⟨_,List.getElem?_eq_getElem LK⟩;intro w5;have k5:Kept Nil u w5:=(Kept.refl _ _).drew;clear_value w5;have F6:=ku.tt k5;have BQ:=nJ.trans F6 (fun _ _ h=>h.elim);have hR5:=hR BQ;refine((bI.hs Td).same F6).load (i:=(q:Int)) (by omega) (by rw [Int.toNat_natCast];exact hz2) (Is.mk rfl ⟨_,hR5.c0,?_⟩);refine pF hR5 (by omega) (bI.hs (V4.same F6).wr) (by omega) z2 fun N2 c2 w6 rN k6=>⟨N2,_,c2,rfl,?_⟩;have Lk:=F6.tt k6;refine⟨(hR5.same k6).c0,?_⟩;simp only;rw [dM (n:=(q:Int)) (by omega) (by omega),gF (x:=(k:Int)-1) (by omega) (by omega)];refine⟨(decide (((bZ G.D (kW k G s l i).wd z2).length:Int)<=(k:Int)-1),(q:Int)+1),rfl,⟨_,q+1,rfl,LK,?_,Lk⟩,by simp only;omega⟩;rw [eq_comm,Bool.and_eq_true,decide_eq_true_eq]at hb;rw [decide_eq_true hb.1,Bool.true_and,List.take_add_one,hz2];simp only [Option.toList_some,List.all_append,hb.2,Bool.true_and,List.all_cons,List.all_nil,Bool.and_true];rw [decide_eq_decide];omega
   ·rw [aR,af.Hk]
    replace xg:b=false:=xg
    refine fin ku ?_;rw [xg]at hb⊢
    symm
    unfold oV;rw [NH,decide_eq_false_iff_not];rintro⟨g1,g2⟩;rw [decide_eq_true g1,Bool.true_and]at hb;have:=List.all_eq_false.1 hb.symm;obtain⟨z0,hz0,hz1⟩:=this;exact hz1 (decide_eq_true (g2 z0 (List.mem_of_mem_take hz0)))
  ·simp only at L9
   rw [aR,af.Hk];refine fin ku ?_;rw [List.take_of_length_le (by omega)]at hb;rw [hb];unfold oV;rw [NH,Bool.eq_iff_iff,Bool.and_eq_true,decide_eq_true_eq,decide_eq_true_eq,List.all_eq_true];simp only [decide_eq_true_eq]
 ·simp only at gA
  have:i=n:=by omega
  subst this;rw [aR,af.Ca];rw [<-hn,DL]at Vv;have Bx:(⟨s,G.score s+1+(fU k G s l).bl.count true,cR G s l,(fU k G s l).bl⟩:ou)=dg k G s l:=rfl;rw [Bx]at Vv;unfold af.xu;obtain⟨t1,t2,t3⟩:=dU Vv.box (cs:=cS (dg k G s l) A (cR G s l).length cp E e ce) (by rw [a8];rfl);refine⟨_,⟨a8 ..,Cells.bL Vv.top⟩,⟨a8 ..,eh _ _ _ _ _ _ _,fun j hj=>t1 j (by rw [a8];exact hj)⟩,_,⟨a8 ..,Cells.bL t2⟩,?_⟩;rw [hn]at t3 Vv⊢;exact hK v E e ce W nw cw Vv ((kv.mono fun _ _ h=>h.imp (fun h=>h) (fun h=>.inr h)).trans t3 (fun _ _ h=>.inr (.inl h)))
end
theorem RA{G:GS}{l:List HT}{k:Nat}{x:HT}(h:SO G l)(h1:∀y∈l.take k,gl G y x=true)(h2:∀y∈l.drop k,gl G x y=true):SO G (l.take k++x::l.drop k):=by
 have h0:SO G (l.take k++l.drop k):=by rw [List.take_append_drop];exact h
 unfold SO at h0⊢;rw [List.pairwise_append]at h0⊢;refine⟨h0.1,List.pairwise_cons.2 ⟨h2,h0.2.1⟩,fun a ha b hb=>?_⟩;rcases List.mem_cons.1 hb with rfl|hb
 ·exact h1 a ha
 ·exact h0.2.2 a ha b hb
section
variable{y w w':World}{F F' S:Nat->Prop}{r x k:Nat}{G:GS}{K:Value->World->Prop}{B0 xb rb sb n cp e ce nw cw na ca:Nat}{A E W AA:Option Addr}{s:HT}{l all wd:List HT}
set_option maxHeartbeats 2000000 in
theorem Fc(h:R3 y F r x k G)(hD:G.D.length<=300)(hB:B0<=y.heap.size)(iG:∀j,(j=r\/j=x\/F j)->j≠xb)(hs:s∈ids G.D)(Es:y.heap[sb]? =some (.cells s.1 ag (0,0)))(R8:sb≠xb)
 (dt:HS y AA na all) (Y0:∀a,AA=some a->a.block≠xb) (hSS:SS all) (gK:∀z∈all,z∈ids G.D)
 (V:VJ y B0 xb rb ⟨s,G.score s+1,[],[]⟩ none 0 0 none 0 0 W nw cw wd)
 (hK:∀v A n cp M i,SO G M->(∀z,z∈M↔z∈all/\z≠s/\¬fz G.D z s)->VJ v B0 xb rb ⟨s,G.score s+1,M,[]⟩ A n cp none 0 0 W nw cw wd->Kept (· =xb) y v->af.cU (some ⟨r,0,none⟩) ⟨sb,0,none⟩ ⟨rb,0,none⟩ none 0 0 ⟨xb,0,none⟩ W nw cw AA na ca i K v):
 Holds none [] prog 179 (.loop (lB (bB (sR (sL (bU (body af.fn))))))) (af.q1 K) [(0,.pointer (some ⟨r,0,none⟩)),(4,.pointer (some ⟨sb,0,none⟩)),(6,.pointer (some ⟨rb,0,none⟩)),(7,.slice none 0 0),(8,.pointer (some ⟨xb,0,none⟩)),(9,.slice W nw cw),(10,.slice AA na ca),(11,.int .i64 0)] y:=by
 have LV:=dt.len;have ajw:na<=300:=by
  have:=dq (m:=ids G.D) hSS.nodup gK;rw [gz]at this;omega
 have hR:∀ {v:World},Kept (· =xb) y v->R3 v F r x k G:=fun kv=>h.aF kv (iG r (.inl rfl)) (iG x (.inr (.inl rfl))) (fun j hj=>iG j (.inr (.inr hj)));refine af.cC (I:=fun st v=>∃(i:Nat) (M:List HT) (A:Option Addr) (n cp:Nat),st=(i:Int)/\i<=na/\VJ v B0 xb rb ⟨s,G.score s+1,M,[]⟩ A n cp none 0 0 W nw cw wd/\SO G M/\(∀z,z∈M↔z∈all.take i/\z≠s/\¬fz G.D z s)/\Kept (· =xb) y v) (μ:=fun st _=>((na:Int)-st).toNat) (s:=0) ⟨0,[],none,0,0,rfl,Nat.zero_le _,V,List.Pairwise.nil,by simp,Kept.refl _ _⟩ ?_;rintro st v ⟨i,M,A,n,cp,rfl,hi,Vv,Gh,iY,kv⟩;unfold af.B1;refine Split.dec (fun cY=>?_) (fun gA=>?_)
 ·have dS:i<na:=by omega
  obtain⟨z,hz⟩:∃z,all[i]? =some z:=⟨_,List.getElem?_eq_getElem (by omega)⟩;have PW:=gK z (List.mem_of_getElem? hz);have GA:all.take (i+1)=all.take i++ [z]:=by rw [List.take_add_one,hz];rfl
  have hMi:∀y∈M,y∈ids G.D:=fun y hy=>gK y (List.mem_of_mem_take ((iY y).1 hy).1);have hMl:M.length<=300:=by
   have:=dq (m:=ids G.D) Gh.nodup hMi;rw [gz]at this;omega
  have hMn:M.length=n:=bI.len Vv.mg;have sv:=kv.size;refine(dt.aF kv Y0).load (i:=(i:Int)) (by omega) hz ?_;intro w2;obtain⟨tf,jM,kz⟩:=iy (w:=v) (z:=eN.1) (cs:=z.1) (t:=ag) (by rw [z.2.1];rfl);refine⟨⟨z.2.1,z.2.one,fun j hj=>tf j (by rw [z.2.1];exact hj)⟩,?_⟩;intro w3 w4
  replace jM:w3.heap[v.heap.size]? =some (.cells z.1 ag (0,0)):=jM
  replace kz:Kept Nil v w3:=kz
  have k4:Kept Nil w3 w4:=(Kept.refl _ _).drew;clear_value w4;have ph:=k4.heap jM (fun h=>h);have Pj:=kz.tt k4;clear_value w3;have nJ:=kv.trans Pj (fun _ _ h=>h.elim);have P9:∀ {u:World},Kept (· =xb) y u->Cells u ⟨sb,0,none⟩ s.1:=fun ku=>Cells.bL (ku.heap Es R8);have next:∀ {u:World} {M':List HT} {A':Option Addr} {n' xj:Nat},VJ u B0 xb rb ⟨s,G.score s+1,M',[]⟩ A' n' xj none 0 0 W nw cw wd->SO G M'->(∀z,z∈M'↔z∈all.take (i+1)/\z≠s/\¬fz G.D z s)->Kept (· =xb) y u->
   ∃s1:Int,i64.wrap ((i:Int)+(1:Int))=s1/\(∃(i:Nat) (M:List HT) (A:Option Addr) (n cp:Nat),s1=(i:Int)/\i<=na/\VJ u B0 xb rb ⟨s,G.score s+1,M,[]⟩ A n cp none 0 0 W nw cw wd/\SO G M/\(∀z,z∈M↔z∈all.take i/\z≠s/\¬fz G.D z s)/\Kept (· =xb) y u)/\((na:Int)-s1).toNat<((na:Int)-(i:Int)).toNat:=fun h1 h2 h3 h4=>by
   rw [dM (n:=(i:Int)) (by omega) (by omega)];exact⟨(i:Int)+1,rfl,⟨i+1,_,_,_,_,rfl,dS,h1,h2,h3,h4⟩,by omega⟩
  have skip:(z=s\/fz G.D z s)->∀z',z'∈M↔z'∈all.take (i+1)/\z'≠s/\¬fz G.D z' s:=fun hz0 z'=>by
   rw [iY,GA,List.mem_append,List.mem_singleton];constructor
   ·rintro⟨a,b⟩;exact⟨.inl a,b⟩
   ·rintro⟨a|rfl,b,c⟩
    ·exact⟨a,b,c⟩
    ·rcases hz0 with e|e
     ·exact absurd e b
     ·exact absurd e c
  refine⟨z.1,⟨z.2.1,Cells.bL ph⟩,s.1,⟨s.2.1,P9 nJ⟩,⟨z.2.ints,s.2.ints⟩,?_⟩;rw [dF];refine Split.dec (fun Eo=>?_) (fun Eo=>?_)
  ·obtain⟨s1,e1,e2,e3⟩:=next (Vv.same Pj) Gh (skip (.inl Eo)) nJ
   rw [e1];exact⟨s1,rfl,e2,e3⟩
  have YX:=hR nJ;refine Is.mk rfl ⟨_,YX.c1,Is.mk rfl ⟨z.1,⟨z.2.1,Cells.bL ph⟩,s.1,⟨s.2.1,P9 nJ⟩,?_⟩⟩;rw [add_zero];refine qT YX.X.gr h.fc.W (by omega) z s fun w5 b hb k5=>⟨b,rfl,?_⟩;have Ph:=Pj.tt k5;have BQ:=kv.trans Ph (fun _ _ h=>h.elim);refine Split.mk (fun hbt=>?_) (fun YU=>?_)
  ·obtain⟨s1,e1,e2,e3⟩:=next (Vv.same Ph) Gh (skip (.inr (hb.1 hbt))) BQ
   rw [e1];exact⟨s1,rfl,e2,e3⟩
  have hzA:¬fz G.D z s:=fun e=>by rw [hb.2 e]at YU;cases YU
  have V5:=Vv.same Ph;have oS:=k5.heap ph (fun h=>h);have hzM:z∉M:=fun e=>by
   have h1:=((iY z).1 e).1;have gu:=hSS.nodup;obtain⟨q,hq⟩:=List.mem_iff_getElem?.1 h1;rw [List.getElem?_take]at hq;split at hq
   ·rename_i hqi
    have:=(List.getElem?_inj (i:=q) (j:=i) (by rw [LV];omega) gu).1 (by rw [hq,hz]);omega
   ·cases hq
  refine⟨A,n,cp,V5.f33,?_⟩;refine af.gU (I:=fun st u=>∃q:Nat,st=(q:Int)/\q<=M.length/\(∀y∈M.drop q,gl G z y=true)/\Kept Nil w5 u) (μ:=fun st _=>st.toNat) (s:=(n:Int)) ⟨n,rfl,by omega,by rw [<-hMn];simp,Kept.refl _ _⟩ ?_;rintro st u ⟨q,rfl,hq,vY,ku⟩;unfold af.B2;have r9:∀ {t:World},Kept Nil w5 t->(∀y∈M.take q,gl G y z=true)->af.iN (some ⟨r,0,none⟩) ⟨sb,0,none⟩ ⟨rb,0,none⟩ none 0 0 ⟨xb,0,none⟩ W nw cw AA na ca (i:Int) ⟨v.heap.size,0,none⟩ (q:Int) (bR (af.e1 (some ⟨r,0,none⟩) ⟨sb,0,none⟩ ⟨rb,0,none⟩ none 0 0 ⟨xb,0,none⟩ W nw cw AA na ca) (fun st v=>∃(i:Nat) (M:List HT) (A:Option Addr) (n cp:Nat),st=(i:Int)/\i<=na/\VJ v B0 xb rb ⟨s,G.score s+1,M,[]⟩ A n cp none 0 0 W nw cw wd/\SO G M/\(∀z,z∈M↔z∈all.take i/\z≠s/\¬fz G.D z s)/\Kept (· =xb) y v) (fun st _=>((na:Int)-st).toNat) (i:Int) v (af.q1 K)) t:=by
   intro t kt IV;have Vt:=V5.same kt;have TW:=BQ.trans kt (fun _ _ h=>h.elim);have st:=TW.size;have vh:=Vt.mg;have C5:n<=cp:=by rcases Row.own vh with⟨_,h1,h2,_⟩|⟨_,_,_,_,_,h1,_⟩<;>omega
   unfold af.iN;refine⟨A,n,cp,Vt.f33,⟨by omega,by omega⟩,?_⟩;have yT:HS t (if cp=0 then A else A.map (·.add (0*32))) ((q:Int).toNat -0) (M.take q):=by
    have h:=vh.hs.take (k:=q) (by omega);rw [Nat.sub_zero,Int.toNat_natCast];have e:(if cp=0 then A else A.map (·.add (0*32)))=A:=by
     split
     ·rfl
     ·cases A<;>simp [add_zero]
    rw [e];exact h
   obtain⟨A1,c1,u2,mU,fV,Md,lE⟩:=cK (cx:=cp-0) ay (bI.nil t t.heap.size) yT (by simp;omega) (Nat.le_refl _);have k2:Kept Nil t u2:=Kept.dO (Kept.refl _ _) Md (fun k hk=>by cases hk);rw [Nat.zero_add,Nat.sub_zero,Int.toNat_natCast]at mU fV;rw [List.nil_append]at fV;refine⟨A1,_,c1,u2,by rw [Nat.sub_zero,Int.toNat_natCast];exact mU,?_⟩;refine⟨z.1,⟨z.2.1,Cells.bL ((kt.tt k2).heap oS (fun h=>h))⟩,z.2.1,?_⟩;intro u3;have k3:Kept Nil u2 u3:=(Kept.refl _ _).alloc _;have WI:HS u3 (some ⟨u2.heap.size,0,none⟩) 1 [z]:=jf u2 z;clear_value u3;have lj:bI u3 t.heap.size A1 q c1 (M.take q):=Row.aF fV k3 (fun _ _ h=>h);have s2:=k2.size;have s3:=k3.size;obtain⟨A4,c4,u4,wJ,iC,EC,akp⟩:=cK (cx:=1) ay lj WI (by omega) (by omega);have Ls:Kept Nil t u4:=Kept.dO (k2.tt k3) EC (fun k hk=>by rcases lE k hk with h|h;cases h;exact h);have V4:=Vt.same Ls;refine⟨A4,_,c4,u4,wJ,A,n,cp,V4.f33,⟨by omega,by omega⟩,?_⟩;have Sa:HS u4 (if cp=(q:Int).toNat then A else A.map (·.add ((q:Int).toNat*32))) (n-(q:Int).toNat) (M.drop q):=by
    rw [Int.toNat_natCast];exact(vh.hs.same Ls).drop C5 (by omega)
   have YM:(n-(q:Int).toNat)=n-q:=by rw [Int.toNat_natCast]
   have s4:=Ls.size;obtain⟨A5,c5,u5,th,ju,Wc,ako⟩:=cK (cx:=cp-(q:Int).toNat) ay iC Sa (by omega) s4;have Rk:∀j,bn A4=some j->t.heap.size<=j:=fun j hj=>(Row.bL iC hj).1;have k5':Kept Nil t u5:=Kept.dO Ls Wc Rk;have Hh:=Vt.same k5';refine⟨A5,_,c5,u5,th,Hh.wrx (by omega),?_⟩;have nz:M.take q++ [z]++M.drop q=M.take q++z::M.drop q:=by simp
   have yX:(M.take q++z::M.drop q).length=n+1:=by simp;omega
   rw [nz]at ju;have e5:q+1+(n-(q:Int).toNat)=n+1:=by omega
   rw [e5]at ju⊢;have Gv:∀j,bn A5=some j->t.heap.size<=j:=fun j hj=>(Row.bL ju hj).1;have ks:=Hh.OZ 33 (.slice A5 (n+1) c5);have Vf:VJ (u5.setCell ((⟨xb,0,none⟩:Addr).add 33) (.slice A5 (n+1) c5)) B0 xb rb ⟨s,G.score s+1,M.take q++z::M.drop q,[]⟩ A5 (n+1) c5 none 0 0 W nw cw wd:=by
    have xB:=Hh.xB;refine⟨?_,?_,Row.aF Hh.bl ks (fun j hj=>by cases hj),Row.aF Hh.wr ks (fun j hj e=>by have:=(Row.bL Hh.wr hj).1;omega),ks.heap Hh.box Hh.xr.symm,fun j hj e=>(by cases e),fun j hj e=>?_,fun j hj=>(by cases hj),Hh.xB,Hh.rB,Hh.xr⟩
    ·rw [bt,cV Hh.top]
     have:=rk ⟨s,G.score s+1,M,[]⟩ A n cp none 0 0 #[] A5 (n+1) c5;rw [Array.append_empty,Array.append_empty]at this;rw [this];rfl
    ·have UP:bI u5 B0 A5 (n+1) c5 (M.take q++z::M.drop q):=Row.base ju (fun j hj=>by have:=Gv j hj;omega)
     exact Row.aF UP ks (fun j hj e=>by have:=Gv j hj;omega)
    ·obtain⟨_,cur,hc⟩:=Row.bL Vt.wr e
     have:=aU hc;have:=Gv j hj;omega
   generalize u5.setCell ((⟨xb,0,none⟩:Addr).add 33) (.slice A5 (n+1) c5)=u6 at ks Vf⊢;obtain⟨s1,e1,e2,e3⟩:=next Vf (RA Gh IV vY) (fun z'=>by
    rw [GA,List.mem_append (s:=all.take i),List.mem_singleton];have hM2:z'∈M.take q++z::M.drop q↔z'=z\/z'∈M:=by
     rw [List.mem_append,List.mem_cons];constructor
     ·rintro(h|h|h)
      ·exact .inr (List.mem_of_mem_take h)
      ·exact .inl h
      ·exact .inr (List.mem_of_mem_drop h)
     ·rintro(h|h)
      ·exact .inr (.inl h)
      ·rw [<-List.take_append_drop q M,List.mem_append]at h
       exact h.imp (fun h=>h) (fun h=>.inr h)
    rw [hM2,iY];constructor
    ·rintro(rfl|⟨a,b⟩)
     ·exact⟨.inr rfl,Eo,hzA⟩
     ·exact⟨.inl a,b⟩
    ·rintro⟨a|rfl,b⟩
     ·exact .inr ⟨a,b⟩
     ·exact .inl rfl) ((TW.trans k5' (fun _ _ h=>h.elim)).tt ks)
   rw [e1];exact⟨s1,rfl,e2,e3⟩
  intro w6;have k6:Kept Nil u w6:=(Kept.refl _ _).drew;clear_value w6;have Lk:=ku.tt k6;have V6:=V5.same Lk;have RP:=BQ.trans Lk (fun _ _ h=>h.elim);refine Split.dec (fun jF=>?_) (fun yY=>?_)
  ·have NA:0<q:=by omega
   obtain⟨y1,PY⟩:∃y1,M[q-1]? =some y1:=⟨_,List.getElem?_eq_getElem (by omega)⟩;have Ng:=List.mem_of_getElem? PY;rw [wN (x:=(q:Int)-1) (i:=q-1) (by omega) (by omega)];refine⟨z.1,⟨z.2.1,Cells.bL (Lk.heap oS (fun h=>h))⟩,A,n,cp,V6.f33,(bI.hs V6.mg).load (i:=((q-1:Nat):Int)) (by omega) (by rw [Int.toNat_natCast];exact PY) ?_⟩;refine qJ (hR RP) (by omega) PW (hMi y1 Ng) fun w7 k7=>⟨_,rfl,?_⟩;have ku7:=Lk.tt k7;refine Split.mk (fun hc=>?_) (fun hc=>?_)
   ·refine⟨((q-1:Nat):Int),rfl,⟨q-1,rfl,by omega,fun z' zw=>?_,ku7⟩,by simp only;omega⟩
    have hd:M.drop (q-1)=y1::M.drop q:=by
     obtain⟨h1,h2⟩:=lgeS PY;rw [List.drop_eq_getElem_cons h1,h2,show q-1+1=q by omega]
    rw [hd]at zw;rcases List.mem_cons.1 zw with rfl|zw
    ·exact hc
    ·exact vY z' zw
   ·rw [aR,af.jN]
    refine r9 ku7 fun z' zw=>?_;have Ep:gl G y1 z=true:=by
     cases hg:gl G y1 z
     ·exact absurd (pT hc hg) (fun e=>hzM (by rw [e];exact Ng))
     ·rfl
    obtain⟨j,hj⟩:=List.mem_iff_getElem?.1 zw;rw [List.getElem?_take]at hj;split at hj
    ·rename_i hjq
     by_cases e:j=q-1
     ·subst e;rw [PY]at hj;cases hj;exact Ep
     ·obtain⟨a1,a2⟩:=lgeS hj
      obtain⟨b1,b2⟩:=lgeS PY;have:=List.pairwise_iff_getElem.1 Gh j (q-1) a1 b1 (by omega);rw [a2,b2]at this;exact pS this Ep
    ·cases hj
  ·rw [aR,af.jN]
   have NA:q=0:=by omega
   refine r9 Lk fun z' zw=>?_;rw [NA]at zw;simp at zw
 ·rw [aR,af.df]
  rw [List.take_of_length_le (by omega)]at iY;exact hK v A n cp M (i:Int) Gh iY Vv kv
end
section
variable{w w':World}{F F' S:Nat->Prop}{r x k:Nat}{G:GS}{K:Value->World->Prop}{xb rb sb n cx:Nat}{A:Option Addr}{s:HT}{l:List HT}
theorem OO{v:World}(h:R3 v F r x k G)(hD:G.D.length<=300)(rz:k<=1000)(hs:s∈ids G.D)(hl:HS v A n l)(hn:n<=5000)(gK:∀z∈l,z∈ids G.D)(iG:∀j,(j=r\/j=x\/F j)->j≠xb/\j≠rb)
 (Es:v.heap[sb]? =some (.cells s.1 ag (0,0))) (wY:v.heap[rb]? =some (.cells zC br (0,0))) (Nj:v.heap[xb]? =some (.cells (cS ⟨s,G.score s+1,[],[]⟩ none 0 0 none 0 0) br (0,0))) (R8:sb≠xb) (hrx:xb≠rb)
 (hK:∀u A n cp E e ce W nw cw,bI u v.heap.size A n cp (dg k G s l).merge->Row u v.heap.size gZ 1 E e ce (sD (dg k G s l).fK)->bI u v.heap.size W nw cw (fU k G s l).wd->Kept (fun j=>j=xb\/j=rb) v u->K (.tuple #[.agg (cS (dg k G s l) A n cp E e ce),.slice W nw cw]) u):
 af.J1 (some ⟨r,0,none⟩) A n cx ⟨sb,0,none⟩ ⟨rb,0,none⟩ none 0 0 ⟨xb,0,none⟩ K v:=by
 have W0:=h.fc.W;have lsb:=aU Es;have lrb:=aU wY;have lxb:=aU Nj;have hwl:=sF h.fc hs;have j2:∀ {u:World} {W:Option Addr} {nw cw:Nat},bI u v.heap.size W nw cw (G.world s++ [s])->Kept Nil v u->af.J2 (some ⟨r,0,none⟩) A n cx ⟨sb,0,none⟩ ⟨rb,0,none⟩ none 0 0 ⟨xb,0,none⟩ W nw cw K u:=by
  intro u W nw cw ZT ku;have hu:=h.same ku;have su:=ku.size;unfold af.J2;refine Is.mk rfl ⟨_,hu.c1,Is.mk rfl ?_⟩;rw [add_zero];refine Af hu.X.gr W0 (by omega) (hl.same ku) (by omega) fun A1 c1 w1 lM k1=>⟨A1,_,c1,rfl,?_⟩;have ry:(eF G.D l).length<=300:=Nat.le_trans (nO _ _) hD;have s1:=k1.size;have F7:=ku.tt k1;obtain⟨A2,c2,w2,jJ,fV,g2,_⟩:=cK ay lM (cx:=cx) (hl.same F7) (by omega) s1;have k2:Kept Nil u w2:=Kept.dO k1 g2 (fun j hj=>(Row.bL lM hj).1);refine⟨A2,_,c2,w2,jJ,?_⟩;refine qS fV.hs (by omega) fun A3 c3 w3 lj k3=>⟨A3,_,c3,rfl,?_⟩;have Ea:=k2.tt k3;have rZ:=ku.tt Ea;have h3:=h.same rZ;have dt:∀z∈dD (eF G.D l++l),z∈ids G.D:=fun z hz=>by
   rcases List.mem_append.1 (dV.1 hz)with hz|hz
   ·exact(jQ.1 hz).1
   ·exact gK z hz
  have V3:VJ w3 v.heap.size xb rb ⟨s,G.score s+1,[],[]⟩ none 0 0 none 0 0 W nw cw (G.world s++ [s]):=
   ⟨rZ.heap Nj (fun h=>h),bI.nil _ _,Row.nil _ _ _ _,Row.aF ZT Ea (fun _ _ h=>h),rZ.heap wY (fun h=>h),fun j hj=>(by cases hj),fun j hj=>(by cases hj),fun j hj=>(by cases hj),lxb,lrb,hrx⟩
  have s3:=rZ.size;refine Fc h3 (by omega) (by omega) (fun j hj=>(iG j hj).1) hs (rZ.heap Es (fun h=>h)) R8 lj.hs (fun a ha e=>by
   subst ha;have:=(Row.bL lj (k:=a.block) rfl).1;have:=(ku.tt k2).size;omega) (jl _) dt V3 fun t A n cp M i Gh iY Vt kt=>?_
  have hM:M=cR G s l:=sU Gh fun z=>by
   rw [iY];unfold sT;rw [List.mem_filter,decide_eq_true_eq]
  subst hM;have ht:=h3.aF kt (iG r (.inl rfl)).1 (iG x (.inr (.inl rfl))).1 (fun j hj=>(iG j (.inr (.inr hj))).1);have st:=kt.size;refine Fb (B0:=v.heap.size) ht (by omega) rz (by omega) (fun j hj=>⟨?_,iG j hj⟩) (fun z hz=>?_) hs Vt fun t2 E e ce W nw cw V2 Cz=>?_
  ·rcases hj with rfl|rfl|hj
   ·exact h.lt
   ·exact h.lx
   ·exact h.lo j hj
  ·exact dt z ((iY z).1 hz).1
  ·have box:=V2.box
   obtain⟨_,_,f3⟩:=dU box (cs:=cS (dg k G s l) A n cp E e ce) (by rw [a8];rfl);refine hK _ A n cp E e ce W nw cw (Row.aF V2.mg f3 (fun j hj e=>by have:=(Row.bL V2.mg hj).1;omega)) (Row.aF V2.bl f3 (fun j hj e=>by have:=(Row.bL V2.bl hj).1;omega)) (Row.aF V2.wr f3 (fun j hj e=>by have:=(Row.bL V2.wr hj).1;omega)) ?_;exact((rZ.mono fun _ _ h=>h.elim).trans kt (fun j hj e=>.inl e)).trans Cz (fun j hj e=>by
    rcases e with e|e|e
    ·exact .inl e
    ·exact .inr e
    ·omega)
 unfold af.J1;intro w1;have k1:Kept Nil v w1:=(Kept.refl _ _).drew;clear_value w1;have h1:=h.same k1;obtain⟨i,nd,cl,wl,q1,q2,q3,q4,q5,q6,q7,q8⟩:=Ox h.fc hs;obtain⟨A0,c0,B,e,g1,g2,g3⟩:=h.top;have cB:∀ {u:World},Kept Nil v u->u.cell? ((⟨r,0,none⟩:Addr).add 3)=some (.slice B G.D.length e):=fun ku=>by rw [bt,aD (ku.heap g1 (fun h=>h))];rfl
 have gW:∀ {u:World},Kept Nil v u->qd u F B G.D.length G.kV:=fun ku=>g3.aF ku (fun _ _ h=>h);obtain⟨aB,Aw,nw,cw,p1,p2,p3,p4,p5,p6⟩:=g3.at_ i wl q4;subst p1;have aiC:wl.length=nw:=p5.len;rw [q7]at hwl;have cW:∀ {u:World},Kept Nil v u->u.cell? (aB.add (((i:Nat):Int).toNat*1))=some (.slice Aw nw cw):=fun ku=>by rw [Int.toNat_natCast];exact ku.cell p4 (fun h=>h)
 have hW:∀ {u:World},Kept Nil v u->HS u Aw nw wl:=fun ku=>p5.same ku;have bx:∀ {u:World},Kept Nil v u->∃cs:Array Value,(.agg s.1:Value)=.agg cs/\cs.size=32/\Cells u ⟨sb,0,none⟩ cs:=fun ku=>⟨_,rfl,s.2.1,Cells.bL (ku.heap Es (fun h=>h))⟩;have Ru:∀ {u:World},Kept Nil v u->∃A' c' u',(Builtin.append_ #[ay,ay] ay #[.slice none 0 0,.slice Aw nw cw]).run prog u=.ok (.slice A' nw c') u'/\bI u' v.heap.size A' nw c' wl/\Kept Nil u u':=fun {u} ku=>by
  obtain⟨A',c',u',hr,row,hg,_⟩:=cK (cx:=cw) ay (bI.nil u v.heap.size) (hW ku) (by omega) ku.size;rw [Nat.zero_add]at hr row;rw [List.nil_append]at row;exact⟨A',c',u',hr,row,Kept.dO (Kept.refl _ _) hg (fun j hj=>by cases hj)⟩
 have Rt:∀ {u:World} {A':Option Addr} {c' bq:Nat},Kept Nil v u->bI u v.heap.size A' nw c' wl->HS u (some ⟨bq,0,none⟩) 1 [s]->∃A2 c2 u',(Builtin.append_ #[ay,ay] ay #[.slice A' nw c',.slice (some ⟨bq,0,none⟩) 1 1]).run prog u=.ok (.slice A2 (nw+1) c2) u'/\bI u' v.heap.size A2 (nw+1) c2 (G.world s++ [s])/\Kept Nil v u':=fun {u A' c' bq} ku row hx=>by
  obtain⟨A2,c2,u',hr,fV,hg,_⟩:=cK (cx:=1) ay row hx (by omega) ku.size;rw [<-q7]at fV;exact⟨A2,c2,u',hr,fV,Kept.dO ku hg (fun j hj=>(Row.bL row hj).1)⟩
 refine Is.mk rfl ⟨some aB,_,e,cB k1,Is.mk rfl ⟨_,h1.c1,Is.mk rfl ⟨s.1,⟨s.2.1,Cells.bL (k1.heap Es (fun h=>h))⟩,s.1,⟨s.2.1,Cells.bL (k1.heap Es (fun h=>h))⟩,?_,?_⟩⟩⟩
 ·rw [add_zero]
  refine jI h1.X.gr (by omega) s fun w2 k2=>⟨_,rfl,?_⟩;have ui:=k1.tt k2;rw [q5];refine⟨bx ui,cB ui,⟨by omega,by omega⟩,Is.mk rfl ⟨Aw,nw,cw,cW ui,?_,?_⟩⟩
  ·obtain⟨A1,c1,w3,uq,lj,k3⟩:=Ru ui
   have rZ:=ui.tt k3;refine⟨A1,nw,c1,w3,uq,bx rZ,s.2.1,?_⟩;intro w4;have k4:Kept Nil w3 w4:=(Kept.refl _ _).alloc _;have UA:=jf w3 s;obtain⟨A2,c2,w5,th,ju,k5⟩:=Rt (rZ.tt k4) (Row.aF lj k4 (fun _ _ h=>h)) UA;exact⟨A2,nw+1,c2,w5,th,af.qM (j2 ju k5)⟩
  ·refine⟨s.2.1,?_⟩
   intro w3;have k3:Kept Nil w2 w3:=(Kept.refl _ _).alloc _;have AY:HS w3 (some ⟨w2.heap.size,0,none⟩) 1 [s]:=jf w2 s;clear_value w3;have rZ:=ui.tt k3;obtain⟨A1,c1,w4,wJ,iC,k4⟩:=Ru rZ;obtain⟨A2,c2,w5,th,ju,k5⟩:=Rt (rZ.tt k4) iC (AY.same k4);exact⟨cW rZ,cB rZ,A1,nw,c1,w4,wJ,A2,nw+1,c2,w5,th,af.qM (j2 ju k5)⟩
 ·refine⟨s.2.1,?_⟩
  intro w2;have k2:Kept Nil w1 w2:=(Kept.refl _ _).alloc _;have Nl:HS w2 (some ⟨w1.heap.size,0,none⟩) 1 [s]:=jf w1 s;clear_value w2;have ui:=k1.tt k2;refine⟨bx ui,(h.same ui).c1,cB ui,?_⟩;rw [add_zero];refine jI (h.same ui).X.gr (by omega) s fun w3 k3=>⟨_,rfl,?_⟩;have rZ:=ui.tt k3;rw [q5];obtain⟨A1,c1,w4,wJ,iC,k4⟩:=Ru rZ;obtain⟨A2,c2,w5,th,ju,k5⟩:=Rt (rZ.tt k4) iC ((Nl.same k3).same k4);exact⟨cB rZ,⟨by omega,by omega⟩,Is.mk rfl ⟨Aw,nw,cw,cW rZ,A1,nw,c1,w4,wJ,A2,nw+1,c2,w5,th,af.qM (j2 ju k5)⟩⟩
theorem wQ(h:R3 w F r x k G)(hD:G.D.length<=300)(rz:k<=1000)(hs:s∈ids G.D)(hl:HS w A n l)(hn:n<=5000)(gK:∀z∈l,z∈ids G.D)
 (hK:∀u A n cp E e ce W nw cw,bI u w.heap.size A n cp (dg k G s l).merge->Row u w.heap.size gZ 1 E e ce (sD (dg k G s l).fK)->bI u w.heap.size W nw cw (fU k G s l).wd->Kept Nil w u->K (.tuple #[.agg (cS (dg k G s l) A n cp E e ce),.slice W nw cw]) u):
 bC prog af.id #[.pointer (some ⟨r,0,none⟩),.agg s.1,.slice A n cx] w K:=by
 refine af.of ?_;unfold af.W;intro w1 w2 w3;have k1:Kept Nil w w1:=(Kept.refl _ _).alloc _;have yT:w1.heap[w.heap.size]? =some (.cells s.1 ag (0,0)):=aH w _;have k2:Kept Nil w1 w2:=(Kept.refl _ _).alloc _;have jJ:w2.heap[w1.heap.size]? =some (.cells zC br (0,0)):=aH w1 _;have k3:Kept Nil w2 w3:=(Kept.refl _ _).drew;clear_value w3;have uq:=k3.heap jJ (fun h=>h);have CK:=k3.heap (k2.heap yT (fun h=>h)) (fun h=>h);have kP:=(k1.tt k2).tt k3;have s1:=k1.size;have l1:=aU yT;have l2:=aU uq;clear_value w2 w1;have Er:=zV h.fc hs;have ew:u64.wrap ((G.score s:Int)+(1:Int))=((G.score s+1:Nat):Int):=by
  rw [show(G.score s:Int)+1=((G.score s+1:Nat):Int)by omega];exact jU (by omega)
 have Bx:(s.1++ #[.int .u64 ((G.score s+1:Nat):Int),.slice none 0 0,.slice none 0 0]:Array Value)=cS ⟨s,G.score s+1,[],[]⟩ none 0 0 none 0 0:=rfl;have go:∀ {u:World} {xb:Nat},Kept Nil w3 u->w3.heap.size<=xb->u.heap[xb]? =some (.cells (cS ⟨s,G.score s+1,[],[]⟩ none 0 0 none 0 0) br (0,0))->af.J1 (some ⟨r,0,none⟩) A n cx ⟨w.heap.size,0,none⟩ ⟨w1.heap.size,0,none⟩ none 0 0 ⟨xb,0,none⟩ K u:=fun {u xb} ku hx Nj=>by
  have PD:=kP.tt ku;have s0:=kP.size;refine OO (h.same PD) hD rz hs (hl.same PD) hn gK (fun j hj=>?_) (ku.heap CK (fun h=>h)) (ku.heap uq (fun h=>h)) Nj (by omega) (by omega) fun t A n cp E e ce W nw cw g1 g2 g3 g4=>?_
  ·have:j<w.heap.size:=by
    rcases hj with rfl|rfl|hj
    ·exact h.lt
    ·exact h.lx
    ·exact h.lo j hj
   exact⟨by omega,by omega⟩
  ·have s0u:=PD.size
   exact hK t A n cp E e ce W nw cw (Row.base g1 (fun j hj=>by have:=(Row.bL g1 hj).1;omega)) (Row.base g2 (fun j hj=>by have:=(Row.bL g2 hj).1;omega)) (Row.base g3 (fun j hj=>by have:=(Row.bL g3 hj).1;omega)) (PD.trans g4 (fun j hj e=>by rcases e with e|e<;>omega))
 have bx:∀ {u:World},Kept Nil w3 u->∃cs:Array Value,(.agg s.1:Value)=.agg cs/\cs.size=32/\Cells u ⟨w.heap.size,0,none⟩ cs:=fun ku=>⟨_,rfl,s.2.1,Cells.bL (ku.heap CK (fun h=>h))⟩;refine⟨s.1,⟨s.2.1,Cells.bL CK⟩,s.1,⟨s.2.1,Cells.bL CK⟩,?_,?_⟩
 ·refine lf (h.same kP) (by omega) hs fun w4 k4=>⟨_,rfl,bx k4,?_⟩
  rw [ew,wD s];refine Is.mk rfl ?_;rw [Bx];intro w5;have k5:Kept Nil w4 w5:=(Kept.refl _ _).alloc _;have Nk:w5.heap[w4.heap.size]? =some (.cells zC br (0,0)):=aH w4 _;clear_value w5;have mW:=k4.tt k5;obtain⟨t1,t2,t3⟩:=dU Nk (cs:=cS ⟨s,G.score s+1,[],[]⟩ none 0 0 none 0 0) (by rw [a8];rfl);refine⟨bx mW,⟨a8 ..,eh _ _ _ _ _ _ _,fun j hj=>t1 j (by rw [a8];exact hj)⟩,?_⟩;have s4:=k4.size;exact af.mF (go (mW.trans t3 (fun j hj e=>by omega)) s4 t2)
 ·intro w4
  have k4:Kept Nil w3 w4:=(Kept.refl _ _).alloc _;have UA:w4.heap[w3.heap.size]? =some (.cells zC br (0,0)):=aH w3 _;clear_value w4;refine⟨bx k4,bx k4,?_⟩;refine lf (h.same (kP.tt k4)) (by omega) hs fun w5 k5=>⟨_,rfl,bx (k4.tt k5),?_⟩;have mW:=k4.tt k5;rw [ew,wD s];refine Is.mk rfl ?_;rw [Bx];obtain⟨t1,t2,t3⟩:=dU (k5.heap UA (fun h=>h)) (cs:=cS ⟨s,G.score s+1,[],[]⟩ none 0 0 none 0 0) (by rw [a8];rfl);refine⟨⟨a8 ..,eh _ _ _ _ _ _ _,fun j hj=>t1 j (by rw [a8];exact hj)⟩,?_⟩;exact af.mF (go (mW.trans t3 (fun j hj e=>by omega)) (Nat.le_refl _) t2)
end
theorem DQ:zE prog uB br 35 88:=⟨by kernel_rfl,by kernel_rfl⟩
theorem S9:zE prog fQ ay 1 24:=⟨by kernel_rfl,by kernel_rfl⟩
section
variable{w w':World}{F F' S:Nat->Prop}{A:Option Addr}{n c B m bytes:Nat}{tS tE:TypeId}{news:List Value}
theorem zU{a:Addr}(P:Nat->Array Value->Prop):∀n,(∀i,i<n->∃arr:Array Value,arr.size=m/\(∀u∈arr.toList,u.oneCell'=true)/\Cells w (a.add (i*m)) arr/\P i arr)->
 ∃news:List Value,news.length=n*m/\(∀j u,news[j]? =some u->w.cell? (a.add j)=some u)/\(∀u∈news,u.oneCell'=true)/\∀i,i<n->∃arr:Array Value,P i arr/\arr.size=m/\∀(j:Nat) v,arr[j]? =some v->news[i*m+j]? =some v
 |0,_=>⟨[],by simp,fun j u h=>by simp at h,fun u h=>by simp at h,fun i h=>by omega⟩
 |n+1,H=>by
  obtain⟨news,h1,h2,h3,h4⟩:=zU P n fun i hi=>H i (by omega);obtain⟨arr,g1,g2,g3,g4⟩:=H n (by omega);refine⟨news++arr.toList,by rw [List.length_append,h1,Array.length_toList,g1,Nat.add_mul,Nat.one_mul],fun j u hj=>?_,fun u hu=>?_,fun i hi=>?_⟩
  ·rw [List.getElem?_append]at hj
   split at hj
   ·exact h2 j u hj
   ·rename_i gA
    rw [h1]at hj gA;have:=g3 (j-n*m) u (by simpa using hj)
    rwa [lU,show n*m+(j-n*m)=j by omega]at this
  ·rcases List.mem_append.1 hu with hu|hu
   ·exact h3 u hu
   ·exact g2 u hu
  ·by_cases gK:i<n
   ·obtain⟨ar,q1,q2,q3⟩:=h4 i gK
    exact⟨ar,q1,q2,fun j v hj=>by
     have:=q3 j v hj;rw [List.getElem?_append_left (lgeS this).1];exact this⟩
   ·obtain rfl:i=n:=by omega
    exact⟨arr,g4,g1,fun j v hj=>by
     rw [List.getElem?_append_right (by omega),h1,show i*m+j-i*m=j by omega,Array.getElem?_toList];exact hj⟩
theorem zn(T:zE prog tS tE m bytes)(hb:bytes<=1000)(hn:n<=100000){a:Addr}{cx:Nat}(P:Nat->Array Value->Prop)(H:∀i,i<n->∃arr:Array Value,arr.size=m/\(∀u∈arr.toList,u.oneCell'=true)/\Cells w (a.add (i*m)) arr/\P i arr):
 ∃A' c' w' news,(Builtin.append_ #[tS,tS] tS #[.slice none 0 0,.slice (some a) n cx]).run prog w=.ok (.slice A' n c') w'/\Row w' w.heap.size tE m A' n c' news/\Kept Nil w w'/\∀i,i<n->∃arr:Array Value,P i arr/\arr.size=m/\∀(j:Nat) v,arr[j]? =some v->news[i*m+j]? =some v:=by
 obtain⟨news,e1,e2,e3,e4⟩:=zU (w:=w) (m:=m) P n H;obtain⟨A',c',w',hr,fF,hg,_⟩:=fP (P:=prog) (ty:=tS) T (Row.nil w w.heap.size _ _) (a:=a) (m:=n) (cx:=cx) (news:=news) e1 e2 e3 (by rw [Nat.zero_add];have:=Nat.mul_le_mul hn hb;omega) (by unfold maxLen;omega) (Nat.le_refl _);rw [Nat.zero_add]at hr fF;rw [List.nil_append]at fF;exact⟨A',c',w',news,hr,fF,Kept.dO (Kept.refl _ _) hg (fun j hj=>by cases hj),e4⟩
theorem zm(T:zE prog tS tE m bytes)(hb:bytes<=1000)(hn:n<=100000)(h:Row w B tE m A n c news)(hB:B<=w.heap.size){b:Nat}{arr:Array Value}{t:TypeId}(jM:w.heap[b]? =some (.cells arr t (0,0)))(hs:arr.size=m)(h1:∀u∈arr.toList,u.oneCell'=true):
 ∃A' c' w',(Builtin.append_ #[tS,tS] tS #[.slice A n c,.slice (some ⟨b,0,none⟩) 1 1]).run prog w=.ok (.slice A' (n+1) c') w'/\Row w' B tE m A' (n+1) c' (news++arr.toList)/\w.grownBy w' (bn A):=by
 obtain⟨A',c',w',hr,fF,hg,_⟩:=fP (P:=prog) (ty:=tS) T h (a:=⟨b,0,none⟩) (m:=1) (cx:=1) (news:=arr.toList) (by simpa using hs)
  (fun j u hj=>by rw [bt,Nat.zero_add,aD jM];simpa using hj) h1 (by have:=Nat.mul_le_mul (show n+1<=100001 by omega) hb;omega) (by unfold maxLen;omega) hB
 exact⟨A',c',w',hr,fF,hg⟩
def Kl(w:World)(F:Nat->Prop)(l:List ou)(i:Nat)(arr:Array Value):Prop:=∃x A1 n1 c1 B1 m1 d1,l[i]? =some x/\arr=cS x A1 n1 c1 B1 m1 d1/\HS w A1 n1 x.merge/\Bo w B1 m1 x.fK/\(∀b,A1=some b->F b.block)/\(∀b,B1=some b->F b.block)
def Rz(w:World)(F:Nat->Prop)(l:List (List HT))(i:Nat)(arr:Array Value):Prop:=∃x A1 n1 c1,l[i]? =some x/\arr= #[.slice A1 n1 c1]/\HS w A1 n1 x/\(∀b,A1=some b->F b.block)
theorem qG.zU{l:List ou}(h:qG w F A n l):(0<n->∃a,A=some a)/\∀a,A=some a->∀i,i<n->∃arr:Array Value,arr.size=35/\(∀u∈arr.toList,u.oneCell'=true)/\Cells w (a.add (i*35)) arr/\Kl w F l i arr:=by
 have hl:=h.len;refine⟨fun h0=>?_,fun a ha i hi=>?_⟩
 ·obtain⟨x,hx⟩:∃x,l[0]? =some x:=⟨_,List.getElem?_eq_getElem (by omega)⟩
  obtain⟨a,_,_,_,_,_,_,g1,_⟩:=h.at_ 0 x hx;exact⟨a,g1⟩
 ·obtain⟨x,hx⟩:∃x,l[i]? =some x:=⟨_,List.getElem?_eq_getElem (by omega)⟩
  obtain⟨a',A1,n1,c1,B1,m1,d1,g1,g2,g3,g4,g5,g6,g7,g8⟩:=h.at_ i x hx;rw [ha]at g1;cases g1;exact⟨_,a8 ..,eh _ _ _ _ _ _ _,g4,x,A1,n1,c1,B1,m1,d1,hx,rfl,g5,g6,g7,g8⟩
theorem qd.zU{l:List (List HT)}(h:qd w F A n l):(0<n->∃a,A=some a)/\∀a,A=some a->∀i,i<n->∃arr:Array Value,arr.size=1/\(∀u∈arr.toList,u.oneCell'=true)/\Cells w (a.add (i*1)) arr/\Rz w F l i arr:=by
 have hl:=h.len;refine⟨fun h0=>?_,fun a ha i hi=>?_⟩
 ·obtain⟨x,hx⟩:∃x,l[0]? =some x:=⟨_,List.getElem?_eq_getElem (by omega)⟩
  obtain⟨a,_,_,_,g1,_⟩:=h.at_ 0 x hx;exact⟨a,g1⟩
 ·obtain⟨x,hx⟩:∃x,l[i]? =some x:=⟨_,List.getElem?_eq_getElem (by omega)⟩
  obtain⟨a',A1,n1,c1,g1,g2,g3,g4,g5,g6⟩:=h.at_ i x hx;rw [ha]at g1;cases g1;refine⟨#[.slice A1 n1 c1],rfl,fun u hu=>?_,fun j u hj=>?_,x,A1,n1,c1,hx,rfl,g5,g6⟩
  ·simp at hu;subst hu;rfl
  ·cases j with
   |zero=>simp at hj;subst hj;rw [add_zero];exact g4
   |succ j=>simp at hj
theorem qG.snoc{l:List ou}{x:ou}{A1 B1:Option Addr}{n1 c1 m1 d1:Nat}{w0:World}(h:Row w B br 35 A (n+1) c (news++(cS x A1 n1 c1 B1 m1 d1).toList))(yX:news.length=n*35)(hl:l.length=n)(k0:Kept Nil w0 w)(hF:∀j,bn A=some j->F' j)(YY:∀j,F j->F' j)
 (hc:∀i,i<n->∃arr:Array Value,Kl w0 F l i arr/\arr.size=35/\∀(j:Nat) v,arr[j]? =some v->news[i*35+j]? =some v)
 (g1:HS w A1 n1 x.merge) (g2:Bo w B1 m1 x.fK) (g3:∀b,A1=some b->F' b.block) (g4:∀b,B1=some b->F' b.block):qG w F' A (n+1) (l++ [x]):=by
 refine⟨by simp [hl],fun i y hi=>?_⟩;obtain⟨b,rfl⟩:=Row.some h (by omega);obtain⟨_,cur,kF⟩:=Row.bL h (k:=b) rfl;rw [List.getElem?_append]at hi;split at hi
 ·rename_i cY
  obtain⟨arr,⟨y',A2,n2,c2,B2,m2,d2,q1,rfl,q3,q4,q5,q6⟩,q7,q8⟩:=hc i (by omega);rw [hi]at q1;cases q1;exact⟨_,A2,n2,c2,B2,m2,d2,rfl,aU kF,hF b rfl,fun j v hj=>by
   rw [lU];have:=q8 j v hj;exact Row.cells h _ _ (by rw [List.getElem?_append_left (lgeS this).1];exact this),q3.same k0,q4.same k0,fun b hb=>YY _ (q5 b hb),fun b hb=>YY _ (q6 b hb)⟩
 ·rename_i gA
  have CY:i=n/\y=x:=by
   cases hk:i-l.length with
   |zero=>rw [hk]at hi;exact⟨by omega,by simpa using hi.symm⟩
   |succ k=>rw [hk]at hi;simp at hi
  obtain⟨rfl,rfl⟩:=CY;exact⟨_,A1,n1,c1,B1,m1,d1,rfl,aU kF,hF b rfl,fun j v hj=>by
   rw [lU];exact Row.cells h _ _ (by rw [List.getElem?_append_right (by omega),yX,show i*35+j-i*35=j by omega,Array.getElem?_toList];exact hj),g1,g2,g3,g4⟩
theorem qd.snoc{l:List (List HT)}{x:List HT}{A1:Option Addr}{n1 c1:Nat}{w0:World}(h:Row w B ay 1 A (n+1) c (news++(#[.slice A1 n1 c1]:Array Value).toList))(yX:news.length=n*1)(hl:l.length=n)(k0:Kept Nil w0 w)(hF:∀j,bn A=some j->F' j)(YY:∀j,F j->F' j)
 (hc:∀i,i<n->∃arr:Array Value,Rz w0 F l i arr/\arr.size=1/\∀(j:Nat) v,arr[j]? =some v->news[i*1+j]? =some v)
 (g1:HS w A1 n1 x) (g3:∀b,A1=some b->F' b.block):qd w F' A (n+1) (l++ [x]):=by
 refine⟨by simp [hl],fun i y hi=>?_⟩;obtain⟨b,rfl⟩:=Row.some h (by omega);obtain⟨_,cur,kF⟩:=Row.bL h (k:=b) rfl;rw [List.getElem?_append]at hi;split at hi
 ·rename_i cY
  obtain⟨arr,⟨y',A2,n2,c2,q1,rfl,q3,q4⟩,q7,q8⟩:=hc i (by omega);rw [hi]at q1;cases q1;have:=q8 0 _ rfl;exact⟨_,A2,n2,c2,rfl,aU kF,hF b rfl,Row.cells h _ _ (by rw [Nat.add_zero]at this;rw [List.getElem?_append_left (lgeS this).1];exact this),q3.same k0,fun b hb=>YY _ (q4 b hb)⟩
 ·rename_i gA
  have CY:i=n/\y=x:=by
   cases hk:i-l.length with
   |zero=>rw [hk]at hi;exact⟨by omega,by simpa using hi.symm⟩
   |succ k=>rw [hk]at hi;simp at hi
  obtain⟨rfl,rfl⟩:=CY;exact⟨_,A1,n1,c1,rfl,aU kF,hF b rfl,Row.cells h _ _ (by rw [List.getElem?_append_right (by omega),yX,show i*1-i*1=0 by omega];rfl),g1,g3⟩
end
section
variable{w w':World}{F:Nat->Prop}{r x k:Nat}{G:GS}{K:Value->World->Prop}
theorem yB(root:HT)(k:Nat)(hK:∀v r x F,R3 v F r x k (du root)->(∀j,F j->w.heap.size<=j)->w.heap.size<=r->w.heap.size<=x->Kept Nil w v->K (.pointer (some ⟨r,0,none⟩)) v):
 bC prog kH.id #[.int .i64 (k:Int),.agg root.1] w K:=by
 refine kH.of ?_;unfold kH.W;intro w1;have k1:Kept Nil w w1:=(Kept.refl _ _).alloc _;have y7:w1.heap[w.heap.size]? =some (.cells root.1 ag (0,0)):=aH w _;clear_value w1;refine⟨root.1,⟨root.2.1,Cells.bL y7⟩,?_⟩;refine yD root fun w2 x FX hX hFX hx k2=>⟨_,rfl,rfl,?_⟩;have jE:=k1.tt k2;intro w3 w4 w5;have k3:Kept Nil w2 w3:=(Kept.refl _ _).alloc _;have QV:w3.heap[w2.heap.size]? =some (.cells zC br (0,0)):=aH w2 _;have k4:Kept Nil w3 w4:=(Kept.refl _ _).alloc _;have R6:w4.heap[w3.heap.size]? =some (.cells #[.slice none 0 0] ay (0,0)):=aH w3 _;have k5:Kept Nil w4 w5:=(Kept.refl _ _).alloc _;have ht5:w5.heap[w4.heap.size]? =some (.cells #[.int .i64 (k:Int),.pointer (some ⟨x,0,none⟩),.slice (some ⟨w2.heap.size,0,none⟩) 1 1,.slice (some ⟨w3.heap.size,0,none⟩) 1 1] hU (0,0)):=aH w4 _;clear_value w5;have P1:=k5.heap R6 (fun h=>h);have hc5:=k5.heap (k4.heap QV (fun h=>h)) (fun h=>h);have Eh:=(k3.tt k4).tt k5;have s02:=jE.size;have l3:=aU QV;have l4:=aU R6;have l5:=aU ht5;have s1:=k1.size;have s2:=k2.size;have lx:=hX.lt;clear_value w4 w3;refine hK w5 w4.heap.size x (fun j=>FX j\/j=w2.heap.size\/j=w3.heap.size) ⟨⟨some ⟨w2.heap.size,0,none⟩,1,some ⟨w3.heap.size,0,none⟩,1,ht5,⟨rfl,fun i y hi=>?_⟩,⟨rfl,fun i y hi=>?_⟩⟩,(hX.same Eh).mono (fun j e=>.inl e) (fun e=>?_),fun e=>?_,by omega,mC k root,fun j e=>?_⟩ (fun j e=>?_) (by omega) (by omega) (jE.tt Eh)
 ·cases i with
  |zero=>
   have:y=⟨eN,0,[],[]⟩:=by simpa [du]using hi.symm
   subst this;refine⟨_,none,0,0,none,0,0,rfl,by show w2.heap.size<_;omega,.inr (.inl rfl),fun j u hj=>?_,HS.nil _ _,⟨rfl,fun i b h=>by simp at h⟩,fun b hb=>(by cases hb),fun b hb=>(by cases hb)⟩;rw [Nat.zero_mul,add_zero,bt,Nat.zero_add,aD hc5];exact hj
  |succ i=>simp [du]at hi
 ·cases i with
  |zero=>
   have:y= []:=by simpa [du]using hi.symm
   subst this;refine⟨_,none,0,0,rfl,by show w3.heap.size<_;omega,.inr (.inr rfl),?_,HS.nil _ _,fun b hb=>(by cases hb)⟩;rw [Nat.zero_mul,add_zero,aD P1];rfl
  |succ i=>simp [du]at hi
 ·rcases e with e|e|e
  ·exact hX.iG e
  ·omega
  ·omega
 ·rcases e with e|e|e
  ·have:=(hFX _ e).2;omega
  ·omega
  ·omega
 ·rcases e with e|e|e
  ·have:=(hFX _ e).2;omega
  ·omega
  ·omega
 ·rcases e with e|e|e
  ·have:=(hFX _ e).1;omega
  ·omega
  ·omega
end
section
variable{w w':World}{F:Nat->Prop}{r x k:Nat}{G:GS}{K:Value->World->Prop}{A:Option Addr}{n cx:Nat}{l:List HT}
set_option maxHeartbeats 2000000 in
theorem yC(h:R3 w F r x k G)(hD:G.D.length<=300)(rz:k<=1000)(hl:HS w A n l)(hn:n<=5000)(id:HT)
 (hE:dL G.D id l≠0->∀w',Kept Nil w w'->K (.tuple #[.agg Mz,.int .i64 (dL G.D id l)]) w')
 (hO:dL G.D id l=0->∀w' A n c B e ce,R3 w' (fun j=>F j\/(w.heap.size<=j/\j<w'.heap.size)) r x k (dE k G id l)->Kept (fun j=>j=r\/j=x) w w'->HS w' A n (dg k G (cF G l) l).merge->Bo w' B e (dg k G (cF G l) l).fK->(∀a,A=some a\/B=some a->w.heap.size<=a.block)->K (.tuple #[.agg (cS (dg k G (cF G l) l) A n c B e ce),.int .i64 0]) w'):
 bC prog dN.id #[.pointer (some ⟨r,0,none⟩),.agg id.1,.slice A n cx] w K:=by
 have W0:=h.fc.W;have LZ:=h.lt;have NK:=h.lx;refine dN.of ?_;unfold dN.W;intro w1 w2;have k1:Kept Nil w w1:=(Kept.refl _ _).alloc _;have L8:w1.heap[w.heap.size]? =some (.cells id.1 ag (0,0)):=aH w _;have k2:Kept Nil w1 w2:=(Kept.refl _ _).alloc _;have jJ:w2.heap[w1.heap.size]? =some (.cells zC br (0,0)):=aH w1 _;clear_value w2;have CX:=k2.heap L8 (fun h=>h);have jE:=k1.tt k2;have s1:=k1.size;have l1:=aU L8;have l2:=aU jJ;clear_value w1;have h2:=h.same jE;obtain⟨A0,c0,B0,e0,sl,g1,g2,g3,g4,g5⟩:=h2.X.ex;refine Is.mk rfl ⟨_,h2.c1,Is.mk rfl ⟨#[.slice A0 G.D.length c0],⟨rfl,fun j u hj=>?_⟩,?_⟩⟩
 ·cases j with
  |zero=>simp at hj;subst hj;rw [add_zero,add_zero,aD g1];rfl
  |succ j=>simp at hj
 intro w3;have k3:Kept Nil w2 w3:=(Kept.refl _ _).alloc _;have Wf:w3.heap[w2.heap.size]? =some (.cells #[.slice none 0 0] iK (0,0)):=aH w2 _;clear_value w3;obtain⟨t1,t2,t3⟩:=dU Wf (cs:= #[.slice A0 G.D.length c0]) rfl;refine⟨⟨rfl,fun u hu=>by simp at hu;subst hu;rfl,fun j hj=>t1 j hj⟩,?_⟩;intro w4
 replace t2:w4.heap[w2.heap.size]? =some (.cells #[.slice A0 G.D.length c0] iK (0,0)):=t2
 replace t3:Kept (· =w2.heap.size) w3 w4:=t3
 clear_value w4;have mX:Kept Nil w2 w4:=k3.trans t3 (fun j hj e=>by omega);have mE:=jE.tt mX;have s2:=jE.size;refine⟨id.1,⟨id.2.1,Cells.bL (mX.heap CX (fun h=>h))⟩,?_⟩;have hIR:uR w4 F w2.heap.size G.D:=⟨⟨A0,c0,_,_,t2,rfl,g2.same mX⟩,fun e=>by have:=h.lo _ e;omega⟩;refine DX hIR W0 (by omega) (hl.same mE) (by omega) fun w5 _ k5=>⟨_,rfl,?_⟩;have Eh:Kept Nil w2 w5:=mX.trans k5 (fun j hj e=>by omega);have q9:=jE.tt Eh;have th:=Eh.heap jJ (fun h=>h);have L7:=Eh.heap CX (fun h=>h);by_cases hc:dL G.D id l≠0
 ·obtain⟨f1,f2,f3⟩:=dU th (cs:=zC) rfl
  refine Split.yes (by simpa using hc) ⟨⟨rfl,by show ∀u∈(Mz:Array Value).toList,_;exact eh _ _ _ _ _ _ _,fun j hj=>f1 j hj⟩,?_⟩;exact⟨_,⟨rfl,Cells.bL f2⟩,hE hc _ (q9.trans f3 (fun j hj e=>by omega))⟩
 have hc:dL G.D id l=0:=by omega
 refine Split.no (by rw [hc];rfl) ?_;obtain⟨_,fM,_,dt⟩:=lI hc;have gK:∀z∈l,z∈ids G.D:=fun z hz=>dt z (dV.2 hz);refine uh (h.same q9) (by omega) (hl.same q9) fM (by omega) gK fun w6 k6=>⟨_,rfl,?_⟩;have AR:=Eh.tt k6;have qZ:=jE.tt AR;generalize nv:cF G l=s;have BU:s∈l:=by rw [<-nv];exact lL fM
 intro w7;have k7:Kept Nil w6 w7:=(Kept.refl _ _).alloc _;have Og:w7.heap[w6.heap.size]? =some (.cells eN.1 ag (0,0)):=aH w6 _;clear_value w7;obtain⟨q1,q2,q3⟩:=jS s Og rfl;refine⟨q1,?_⟩;intro w8
 replace q2:w8.heap[w6.heap.size]? =some (.cells s.1 ag (0,0)):=q2
 replace q3:Kept (· =w6.heap.size) w7 w8:=q3
 clear_value w8;have Yl:Kept Nil w6 w8:=k7.trans q3 (fun j hj e=>by omega);have It:=AR.tt Yl;have uL:=jE.tt It;have s06:=qZ.size;have s08:=uL.size;have s28:=It.size;refine⟨s.1,⟨s.2.1,Cells.bL q2⟩,?_⟩;refine wQ (h.same uL) hD rz (gK s BU) (hl.same uL) hn gK fun w9 Am nm cm E e ce Wd nw cw rm rb rw9 k9=>⟨_,Wd,nw,cw,rfl,?_⟩;have Lu:=It.tt k9;have Ge:=jE.tt Lu;have s09:=Ge.size;have s89:=k9.size;intro w10;have lX:Kept Nil w9 w10:=(Kept.refl _ _).alloc _;have acO:w10.heap[w9.heap.size]? =some (.cells zC br (0,0)):=aH w9 _;clear_value w10;obtain⟨f1,f2,f3⟩:=dU acO (cs:=cS (dg k G s l) Am nm cm E e ce) (by rw [a8];rfl);refine⟨⟨a8 ..,eh _ _ _ _ _ _ _,fun j hj=>f1 j (by rw [a8];exact hj)⟩,?_⟩;intro po lK
 replace f2:po.heap[w9.heap.size]? =some (.cells (cS (dg k G s l) Am nm cm E e ce) br (0,0)):=f2
 replace f3:Kept (· =w9.heap.size) w10 po:=f3
 have um:Kept Nil po lK:=(Kept.refl _ _).drew;clear_value lK;have WA:=um.heap f2 (fun h=>h);have Pp:Kept Nil w9 lK:=(lX.trans f3 (fun j hj e=>by omega)).tt um;clear_value po;have Pz:=Lu.tt Pp;have sX:=jE.tt Pz;have ahA:=sX.size;have ah0:=aU WA;have EJ:=h.same sX;refine Is.mk rfl ⟨_,EJ.c1,id.1,⟨id.2.1,Cells.bL (Pz.heap CX (fun h=>h))⟩,s.1,⟨s.2.1,Cells.bL ((k9.tt Pp).heap q2 (fun h=>h))⟩,?_⟩;refine FD EJ.X EJ.lo (by omega) (hl.same sX) (by omega) fun mT W9 tQ=>⟨_,rfl,?_⟩;have eX:nY G.D id s l=(dE k G id l).D/\nX G.D G.P id s l=(dE k G id l).P:=by rw [<-nv];exact⟨Kf.symm,Kg.symm⟩
 rw [eX.1,eX.2]at W9;intro iR;have Ku:Kept Nil mT iR:=(Kept.refl _ _).drew;clear_value iR;have AS:Kept (· =x) lK iR:=tQ.trans Ku (fun _ _ h=>h.elim);have Em:Kept (· =x) w iR:=(sX.mono fun _ _ h=>h.elim).tt AS;have aeH:=AS.size;have uo:=mP (k:=k) (G:=G) (h:=id) (ps:=l) hc;rw [nv]at uo;obtain⟨A1,c1,B1,e1,p1,p2,p3⟩:=h.top;have O8:=Em.heap p1 h.ne;have O7:qG iR F A1 G.D.length G.qF:=p2.aF Em (fun j hj e=>h.X.iG (by rw [<-e];exact hj));have ZV:qd iR F B1 G.D.length G.kV:=p3.aF Em (fun j hj e=>h.X.iG (by rw [<-e];exact hj));have jF:=W0.pos;obtain⟨⟨a1,y8⟩,Nv⟩:=(⟨O7.zU.1 jF,O7.zU.2⟩:(∃a,A1=some a)/\_);subst y8;have QW:=AS.heap WA (by omega);have abl:=AS.heap (Pz.heap jJ (fun h=>h)) (by omega);have bm:∀j,bn Am=some j->w8.heap.size<=j/\j<w9.heap.size:=fun j hj=>by obtain⟨z1,cur,z2⟩:=Row.bL rm hj;exact⟨z1,aU z2⟩
 have bb:∀j,bn E=some j->w8.heap.size<=j/\j<w9.heap.size:=fun j hj=>by obtain⟨z1,cur,z2⟩:=Row.bL rb hj;exact⟨z1,aU z2⟩
 have bw:∀j,bn Wd=some j->w8.heap.size<=j/\j<w9.heap.size:=fun j hj=>by obtain⟨z1,cur,z2⟩:=Row.bL rw9 hj;exact⟨z1,aU z2⟩
 have Ll:Kept (· =x) w9 iR:=(Pp.mono fun _ _ h=>h.elim).tt AS;have ahh:=Ll.size;have TC:HS iR Am nm (dg k G s l).merge:=(bI.hs rm).aF Ll (fun a ha e=>by have:=bm a.block (by rw [ha];rfl);omega);have XH:Bo iR E e (dg k G s l).fK:=(Row.bo rb).aF Ll (fun a ha e=>by have:=bb a.block (by rw [ha];rfl);omega);have Zy:HS iR Wd nw (fU k G s l).wd:=(bI.hs rw9).aF Ll (fun a ha e=>by have:=bw a.block (by rw [ha];rfl);omega);have bF:∀ {A:Option Addr} {b:Addr},(∀j,bn A=some j->w8.heap.size<=j/\j<w9.heap.size)->A=some b->w.heap.size<=b.block/\b.block<iR.heap.size:=fun hA hb=>by
  have:=hA _ (by rw [hb];rfl);omega
 rw [nv]at hO;have tail:∀ {u:World} {Aa:Option Addr} {ca:Nat} {news:List Value},Row u iR.heap.size br 35 Aa (G.D.length+1) ca (news++(cS (dg k G s l) Am nm cm E e ce).toList)->news.length=G.D.length*35->(∀i,i<G.D.length->∃arr:Array Value,Kl iR F G.qF i arr/\arr.size=35/\∀(j:Nat) v,arr[j]? =some v->news[i*35+j]? =some v)->Kept Nil iR u->
  Wr u ((⟨r,0,none⟩:Addr).add 2)/\let a3:=u.setCell ((⟨r,0,none⟩:Addr).add 2) (.slice Aa (G.D.length+1) ca);Is (some (⟨r,0,none⟩:Addr)) fun b3:Addr=>∃c3:Option Addr,∃d3 e3:Nat,a3.cell? (b3.add 3)=some (.slice c3 d3 e3)/\∃(f3:Option Addr) (g3 i3:Nat) (j3:World),(Builtin.append_ #[fQ,fQ] fQ #[.slice none 0 0,.slice c3 d3 e3]).run prog a3=.ok (.slice f3 g3 i3) j3/\let k3:=j3.alloc (.cells #[.slice Wd nw cw] ay);∃(m3:Option Addr) (n3 o3:Nat) (p3:World),(Builtin.append_ #[fQ,fQ] fQ #[.slice f3 g3 i3,.slice (some (aP j3.heap.size)) 1 1]).run prog k3=.ok (.slice m3 n3 o3) p3/\Is (some (⟨r,0,none⟩:Addr)) fun q3:Addr=>Wr p3 (q3.add 3)/\let r3:=p3.setCell (q3.add 3) (.slice m3 n3 o3);∃t3:Array Value,(t3.size=35/\Cells r3 (aP w9.heap.size) t3)/\(t3.size=35/\(∀u3∈t3.toList,u3.oneCell'=true)/\∀v3,v3<35->Wr r3 ((aP w1.heap.size).add v3))/\let x3:=setCells r3 (aP w1.heap.size) t3.toList 0;∃y3:Array Value,(y3.size=35/\Cells x3 (aP w1.heap.size) y3)/\K (.tuple #[.agg y3,.int .i64 0]) x3:=by
  intro u Aa ca news row yX vZ ku;have pu:=ku.heap O8 (fun h=>h);have su:=ku.size;refine⟨by rw [bt];exact dm pu (by simp),?_⟩;intro u1;have pu1:u1.heap[r]? =some (.cells #[.int .i64 (k:Int),.pointer (some ⟨x,0,none⟩),.slice Aa (G.D.length+1) ca,.slice B1 G.D.length e1] hU (0,0)):=by
   show(u.setCell ((⟨r,0,none⟩:Addr).add 2) (.slice Aa (G.D.length+1) ca)).heap[r]? =_;rw [bt,cV pu];rfl
  have F7:Kept (· =r) u u1:=by
   show Kept (· =r) u (u.setCell ((⟨r,0,none⟩:Addr).add 2) (.slice Aa (G.D.length+1) ca))
   rw [bt];exact Kept.setCell (S:=(· =r)) (Kept.refl _ u) (p:=⟨r,0+2,none⟩) (fun _=>rfl) _
  clear_value u1;have IC:Kept (· =r) iR u1:=(ku.mono fun _ _ h=>h.elim).tt F7;have pw1:qd u1 F B1 G.D.length G.kV:=ZV.aF IC (fun j hj e=>h.iG (by rw [<-e];exact hj));obtain⟨⟨b1,y7⟩,UJ⟩:=(⟨pw1.zU.1 jF,pw1.zU.2⟩:(∃a,B1=some a)/\_);subst y7;obtain⟨Aw,c2,u2,nws,LJ,fV,Cz,hcw⟩:=zn (w:=u1) S9 (by omega) (by omega) (cx:=e1) (Rz u1 F G.kV) (UJ b1 rfl);refine Is.mk rfl ⟨some b1,G.D.length,e1,by rw [bt,aD pu1];rfl,Aw,_,c2,u2,LJ,?_⟩;intro u3;have AQ:Kept Nil u2 u3:=(Kept.refl _ _).alloc _;have AY:u3.heap[u2.heap.size]? =some (.cells #[.slice Wd nw cw] ay (0,0)):=aH u2 _;clear_value u3;have su1:=F7.size;have su2:=Cz.size;have ZH:=AQ.size;obtain⟨X4,c3,u4,wJ,iC,EC⟩:=zm S9 (by omega) (by omega) (Row.aF fV AQ (fun _ _ h=>h)) (by omega) AY rfl (fun v hv=>by simp at hv;subst hv;rfl);have Lw:Kept Nil u1 u4:=Kept.dO (Cz.tt AQ) EC (fun j hj=>(Row.bL fV hj).1);have pu4:=Lw.heap pu1 (fun h=>h);refine⟨X4,_,c3,u4,wJ,Is.mk rfl ⟨by rw [bt];exact dm pu4 (by simp),?_⟩⟩;intro u5;have pu5:u5.heap[r]? =some (.cells #[.int .i64 (k:Int),.pointer (some ⟨x,0,none⟩),.slice Aa (G.D.length+1) ca,.slice X4 (G.D.length+1) c3] hU (0,0)):=by
   show(u4.setCell ((⟨r,0,none⟩:Addr).add 3) (.slice X4 (G.D.length+1) c3)).heap[r]? =_;rw [bt,cV pu4];rfl
  have F6:Kept (· =r) u4 u5:=by
   show Kept (· =r) u4 (u4.setCell ((⟨r,0,none⟩:Addr).add 3) (.slice X4 (G.D.length+1) c3))
   rw [bt];exact Kept.setCell (S:=(· =r)) (Kept.refl _ u4) (p:=⟨r,0+3,none⟩) (fun _=>rfl) _
  clear_value u5;have T6:Kept (· =r) u1 u5:=(Lw.mono fun _ _ h=>h.elim).tt F6;have M9:Kept (· =r) iR u5:=IC.tt T6;have hc5:=M9.heap QW (by omega);have th:=M9.heap abl (by omega);obtain⟨z1,z2,z3⟩:=dU th (cs:=cS (dg k G s l) Am nm cm E e ce) (by rw [a8];rfl);refine⟨_,⟨a8 ..,Cells.bL hc5⟩,⟨a8 ..,eh _ _ _ _ _ _ _,fun j hj=>z1 j (by rw [a8];exact hj)⟩,?_⟩;intro u6
  replace z2:u6.heap[w1.heap.size]? =some (.cells (cS (dg k G s l) Am nm cm E e ce) br (0,0)):=z2
  replace z3:Kept (· =w1.heap.size) u5 u6:=z3
  clear_value u6;refine⟨_,⟨a8 ..,Cells.bL z2⟩,?_⟩;have kwr:∀j,j=r\/j=w1.heap.size->¬iR.heap.size<=j:=fun j hj e=>by rcases hj with hj|hj<;>omega
  have Yg:Kept (fun j=>j=r\/j=w1.heap.size) u u6:=((F7.mono fun _ _ h=>.inl h).trans T6 (fun _ _ h=>.inl h)).trans z3 (fun _ _ h=>.inr h);have Ej:Kept (fun j=>j=r\/j=w1.heap.size) iR u6:=(ku.mono fun _ _ h=>h.elim).tt Yg;have su6:=Ej.size;have s46:u4.heap.size<=u6.heap.size:=by have:=F6.size;have:=z3.size;omega
  have s26:u.heap.size<=u6.heap.size:=Yg.size;have Lb:∀j,F j->j<w.heap.size:=h.lo
  let F2:Nat->Prop:=fun j=>F j\/(w8.heap.size<=j/\j<w9.heap.size)\/(iR.heap.size<=j/\j<u6.heap.size)
  have Rg:∀j,F2 j->¬(j=r\/j=w1.heap.size):=fun j hj e=>by
   rcases hj with hj|hj|hj
   ·have:=Lb j hj
    rcases e with e|e
    ·exact h.iG (by rw [<-e];exact hj)
    ·omega
   ·omega
   ·omega
  have Xn:∀j,F2 j->F j\/(w.heap.size<=j/\j<u6.heap.size):=fun j hj=>by
   rcases hj with hj|hj|hj
   ·exact .inl hj
   ·exact .inr ⟨by omega,by omega⟩
   ·exact .inr ⟨by omega,hj.2⟩
  refine hO hc u6 Am nm cm E e ce ⟨⟨Aa,ca,X4,c3,?_,?_,?_⟩,?_,fun hj=>?_,h.ne,h.fc.add id l,fun j hj=>?_⟩ ?_ (TC.aF Ej (fun a ha e=>by have:=bm a.block (by rw [ha];rfl);rcases e with e|e<;>omega)) (XH.aF Ej (fun a ha e=>by have:=bb a.block (by rw [ha];rfl);rcases e with e|e<;>omega)) (fun a ha=>ha.elim (fun ha=>(bF bm ha).1) (fun ha=>(bF bb ha).1))
  ·rw [uo]
   simp only [List.length_append,List.length_singleton];exact z3.heap pu5 (by omega)
  ·rw [uo]
   simp only [List.length_append,List.length_singleton];refine qG.mono (F:=F2) (qG.aF (S:=fun j=>j=r\/j=w1.heap.size) (w:=u) (qG.snoc row yX p2.len ku (fun j hj=>?_) (fun j hj=>.inl hj) vZ (TC.same ku) (XH.same ku) (fun b hb=>.inr (.inl ?_)) (fun b hb=>.inr (.inl ?_))) Yg Rg) Xn
   ·obtain⟨y1,cur,y2⟩:=Row.bL row hj
    have:=aU y2;exact .inr (.inr ⟨y1,by omega⟩)
   ·exact bm b.block (by rw [hb];rfl)
   ·exact bb b.block (by rw [hb];rfl)
  ·rw [uo]
   simp only [List.length_append,List.length_singleton];have Ec:Kept (fun j=>j=r\/j=w1.heap.size) u4 u6:=(F6.mono fun _ _ h=>.inl h).trans z3 (fun _ _ h=>.inr h);refine qd.mono (F:=F2) (qd.aF (S:=fun j=>j=r\/j=w1.heap.size) (w:=u4) (qd.snoc iC (Row.len fV) p3.len Lw (fun j hj=>?_) (fun j hj=>.inl hj) hcw (Zy.aF (IC.trans Lw (fun _ _ h=>h.elim)) (fun a ha e=>by have:=bw a.block (by rw [ha];rfl);omega)) (fun b hb=>.inr (.inl ?_))) Ec Rg) Xn
   ·obtain⟨y1,cur,y2⟩:=Row.bL iC hj
    have:=aU y2;exact .inr (.inr ⟨by omega,by omega⟩)
   ·exact bw b.block (by rw [hb];rfl)
  ·refine((W9.aF (Ku.tt ku) (fun h=>h) (fun _ _ h=>h)).aF Yg (fun e=>?_) (fun j hj e=>?_)).mono (fun j hj=>?_) (fun e=>?_)
   ·rcases e with e|e
    ·exact h.ne e.symm
    ·omega
   ·rcases hj with hj|hj
    ·have:=Lb j hj
     rcases e with e|e
     ·exact h.iG (by rw [<-e];exact hj)
     ·omega
    ·omega
   ·rcases hj with hj|hj
    ·exact .inl hj
    ·have:=tQ.size
     have:=Ku.size;exact .inr ⟨by omega,by omega⟩
   ·rcases e with e|e
    ·exact h.X.iG e
    ·omega
  ·rcases hj with hj|hj
   ·exact h.iG hj
   ·omega
  ·rcases hj with hj|hj
   ·have:=Lb j hj
    omega
   ·exact hj.2
  ·exact(Em.mono fun _ _ h=>.inr h).trans Ej (fun j hj e=>by
    rcases e with e|e
    ·exact .inl e
    ·omega)
 have Gm:(cS (dg k G s l) Am nm cm E e ce).toList++ []=(cS (dg k G s l) Am nm cm E e ce).toList:=List.append_nil _;refine Is.mk rfl ⟨some a1,G.D.length,c1,by rw [bt,aD O8];rfl,_,⟨a8 ..,Cells.bL QW⟩,?_,?_⟩
 ·obtain⟨Aa,c2,u2,news,Sc,fV,Cz,vZ⟩:=zn (w:=iR) DQ (by omega) (by omega) (cx:=c1) (Kl iR F G.qF) (Nv a1 rfl)
  refine⟨Aa,_,c2,u2,Sc,⟨_,rfl,a8 ..,Cells.bL (Cz.heap QW (fun h=>h))⟩,a8 ..,?_⟩;intro u3;have AQ:Kept Nil u2 u3:=(Kept.refl _ _).alloc _;have AY:u3.heap[u2.heap.size]? =some (.cells (cS (dg k G s l) Am nm cm E e ce) br (0,0)):=by
   have:=aH u2 (.cells (cS (dg k G s l) Am nm cm E e ce) br);show(u2.alloc (.cells ((cS (dg k G s l) Am nm cm E e ce).toList++ []).toArray br)).heap[u2.heap.size]? =_;rw [Gm,Array.toArray_toList];exact this
  clear_value u3;have su2:=Cz.size;have ZH:=AQ.size;obtain⟨Ab,c3,u4,wJ,iC,EC⟩:=zm DQ (by omega) (by omega) (Row.aF fV AQ (fun _ _ h=>h)) (by omega) AY (a8 ..) (eh _ _ _ _ _ _ _);have ku:Kept Nil iR u4:=Kept.dO (Cz.tt AQ) EC (fun j hj=>(Row.bL fV hj).1);refine⟨Ab,_,c3,u4,wJ,Is.mk rfl ?_⟩;exact tail iC (Row.len fV) vZ ku
 ·refine⟨a8 ..,?_⟩
  intro u3;have AQ:Kept Nil iR u3:=(Kept.refl _ _).alloc _;have AY:u3.heap[iR.heap.size]? =some (.cells (cS (dg k G s l) Am nm cm E e ce) br (0,0)):=by
   have:=aH iR (.cells (cS (dg k G s l) Am nm cm E e ce) br);show(iR.alloc (.cells ((cS (dg k G s l) Am nm cm E e ce).toList++ []).toArray br)).heap[iR.heap.size]? =_;rw [Gm,Array.toArray_toList];exact this
  clear_value u3;have ZH:=AQ.size;refine⟨by rw [bt,aD (AQ.heap O8 (fun h=>h))];rfl,?_⟩;have p23:=O7.aF AQ (fun _ _ h=>h);obtain⟨Aa,c2,u2,news,Sc,fV,Cz,vZ⟩:=zn (w:=u3) (n:=G.D.length) (a:=a1) DQ (by omega) (by omega) (cx:=c1) (Kl iR F G.qF) (fun i hi=>by
   obtain⟨arr,y1,y2,y3,y4⟩:=Nv a1 rfl i hi;exact⟨arr,y1,y2,Cells.aF y3 AQ (fun h=>h),y4⟩)
  have su2:=Cz.size;have Nl:=Cz.heap AY (fun h=>h);obtain⟨Ab,c3,u4,wJ,iC,EC⟩:=zm DQ (by omega) (by omega) (Row.base fV (B':=iR.heap.size) (fun j hj=>by have:=(Row.bL fV hj).1;omega)) (by omega) Nl (a8 ..) (eh _ _ _ _ _ _ _);have ku:Kept Nil iR u4:=Kept.dO (AQ.tt Cz) EC (fun j hj=>by have:=(Row.bL fV hj).1;omega);refine⟨Aa,_,c2,u2,Sc,Ab,_,c3,u4,wJ,Is.mk rfl ?_⟩;exact tail iC (Row.len fV) vZ ku
end
end Go.Proofs.YtfleamccglihoaaGreatDoor
