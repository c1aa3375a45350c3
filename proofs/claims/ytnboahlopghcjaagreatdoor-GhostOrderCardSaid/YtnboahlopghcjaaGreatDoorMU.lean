import Derived.Test.YtnboahlopghcjaaGreatDoorMT
import Derived.Test.YtnboahlopghcjaaGreatDoorMN
open Go.IntKind (i64 u64)
set_option linter.unusedVariables false
namespace Go.Proofs.YtnboahlopghcjaaGreatDoor
open Go.Proofs.Tryz
open Go Go.bP Go.RowKit
structure qe(w:World)(F:Nat->Prop)(A:Option Addr)(n:Nat)(l:List nW):Prop where
 len:l.length=n
 at_:∀(i:Nat) x,l[i]? =some x->∃a A1 n1 c1 B1 m1 d1,A=some a/\a.block<w.heap.size/\F a.block/\Cells w (a.add (i*35)) (cD x A1 n1 c1 B1 m1 d1)/\HS w A1 n1 x.merge/\Bo w B1 m1 x.dJ/\(∀b,A1=some b->F b.block)/\(∀b,B1=some b->F b.block)
structure oV(w:World)(F:Nat->Prop)(A:Option Addr)(n:Nat)(l:List (List HT)):Prop where
 len:l.length=n
 at_:∀(i:Nat) x,l[i]? =some x->∃a A1 n1 c1,A=some a/\a.block<w.heap.size/\F a.block/\w.cell? (a.add (i*1))=some (.slice A1 n1 c1)/\HS w A1 n1 x/\(∀b,A1=some b->F b.block)
section
variable{w w':World}{F F' S:Nat->Prop}{A:Option Addr}{n:Nat}
theorem qe.aD{l:List nW}(h:qe w F A n l)(hk:Kept S w w')(hn:∀j,F j->¬S j):qe w' F A n l:=⟨h.len,fun i x hi=>by
 obtain⟨a,A1,n1,c1,B1,m1,d1,g1,g2,g3,g4,g5,g6,g7,g8⟩:=h.at_ i x hi;exact⟨a,A1,n1,c1,B1,m1,d1,g1,Nat.lt_of_lt_of_le g2 hk.size,g3,Cells.aD g4 hk (by rw [ee];exact hn _ g3),g5.aD hk (fun b hb=>hn _ (g7 b hb)),g6.aD hk (fun b hb=>hn _ (g8 b hb)),g7,g8⟩⟩
theorem qe.mono{l:List nW}(h:qe w F A n l)(hf:∀j,F j->F' j):qe w F' A n l:=⟨h.len,fun i x hi=>by
 obtain⟨a,A1,n1,c1,B1,m1,d1,g1,g2,g3,g4,g5,g6,g7,g8⟩:=h.at_ i x hi;exact⟨a,A1,n1,c1,B1,m1,d1,g1,g2,hf _ g3,g4,g5,g6,fun b hb=>hf _ (g7 b hb),fun b hb=>hf _ (g8 b hb)⟩⟩
theorem oV.aD{l:List (List HT)}(h:oV w F A n l)(hk:Kept S w w')(hn:∀j,F j->¬S j):oV w' F A n l:=⟨h.len,fun i x hi=>by
 obtain⟨a,A1,n1,c1,g1,g2,g3,g4,g5,g6⟩:=h.at_ i x hi;exact⟨a,A1,n1,c1,g1,Nat.lt_of_lt_of_le g2 hk.size,g3,hk.cell g4 (by rw [ee];exact hn _ g3),g5.aD hk (fun b hb=>hn _ (g6 b hb)),g6⟩⟩
theorem oV.mono{l:List (List HT)}(h:oV w F A n l)(hf:∀j,F j->F' j):oV w F' A n l:=⟨h.len,fun i x hi=>by
 obtain⟨a,A1,n1,c1,g1,g2,g3,g4,g5,g6⟩:=h.at_ i x hi;exact⟨a,A1,n1,c1,g1,g2,hf _ g3,g4,g5,fun b hb=>hf _ (g6 b hb)⟩⟩
end
structure R3(w:World)(F:Nat->Prop)(r x k:Nat)(G:GS):Prop where
 top:∃A c B e,w.heap[r]? =some (.cells #[.int .i64 (k:Int),.pointer (some ⟨x,0,none⟩),.slice A G.D.length c,.slice B G.D.length e] fZ (0,0))/\qe w F A G.D.length G.qJ/\oV w F B G.D.length G.jD
 X:oW w F x G.D G.P
 gL:¬F r
 ne:r≠x
 eM:gV k G
 lo:∀j,F j->j<w.heap.size
section
variable{w w':World}{F F' S:Nat->Prop}{r x k:Nat}{G:GS}{K:Value->World->Prop}
theorem R3.aD(h:R3 w F r x k G)(hk:Kept S w w')(hr:¬S r)(hx:¬S x)(hF:∀j,F j->¬S j):R3 w' F r x k G:=by
 obtain⟨A,c,B,e,g1,g2,g3⟩:=h.top;exact⟨⟨A,c,B,e,hk.heap g1 hr,g2.aD hk hF,g3.aD hk hF⟩,h.X.aD hk hx hF,h.gL,h.ne,h.eM,fun j e=>Nat.lt_of_lt_of_le (h.lo j e) hk.size⟩
theorem R3.same(h:R3 w F r x k G)(hk:Kept Nil w w'):R3 w' F r x k G:=h.aD hk (fun h=>h) (fun h=>h) (fun _ _ h=>h)
theorem R3.lt(h:R3 w F r x k G):r<w.heap.size:=by obtain⟨_,_,_,_,g,_⟩:=h.top;exact aS g
theorem R3.lx(h:R3 w F r x k G):x<w.heap.size:=h.X.lt
theorem R3.c0(h:R3 w F r x k G):w.cell? ((⟨r,0,none⟩:Addr).add 0)=some (.int .i64 (k:Int)):=by obtain⟨_,_,_,_,g,_⟩:=h.top;rw [a7,ay g];rfl
theorem R3.c1(h:R3 w F r x k G):w.cell? ((⟨r,0,none⟩:Addr).add 1)=some (.pointer (some ⟨x,0,none⟩)):=by obtain⟨_,_,_,_,g,_⟩:=h.top;rw [a7,ay g];rfl
theorem Ml(h:gV k G){y:HT}(hy:y∈ids G.D):∃(i:Nat) (nd:DN) (c:nW) (l:List HT),G.D[i]? =some nd/\nd.id=y/\G.qJ[i]? =some c/\G.jD[i]? =some l/\Fi G.D y=(i:Int)/\G.gm y=c/\G.world y=l/\i<G.D.length:=by
 obtain⟨nd,eF,rfl⟩:=cU.1 hy;obtain⟨i,hi⟩:=List.mem_iff_getElem?.1 eF;have dW:=(lgeS hi).1;obtain⟨c,hc⟩:∃c,G.qJ[i]? =some c:=⟨_,List.getElem?_eq_getElem (by rw [h.lc];exact dW)⟩;obtain⟨l,hl⟩:∃l,G.jD[i]? =some l:=⟨_,List.getElem?_eq_getElem (by rw [h.lw];exact dW)⟩;exact⟨i,nd,c,l,hi,rfl,hc,hl,Px h.W hi,GS.Pt h.W hi hc,GS.Fs h.W hi hl,dW⟩
theorem jJ(h:R3 w F r x k G)(hD:G.D.length<=5000){a:HT}(ha:a∈ids G.D)(hK:∀w',Kept Nil w w'->K (.int .u64 (G.score a:Int)) w'):
 bj prog di.id #[.pointer (some ⟨r,0,none⟩),.agg a.1] w K:=by
 refine di.of ?_;unfold di.W;intro w4 w5;have k4:Kept Nil w w4:=(Kept.refl _ _).alloc _;have xi:w4.heap[w.heap.size]? =some (.cells a.1 aj (0,0)):=aJ w _;have k5:Kept Nil w4 w5:=(Kept.refl _ _).drew;clear_value w5;have Ff:=k5.heap xi (fun h=>h);have sG:=k4.tt k5;have h5:=h.same sG;obtain⟨A,c,B,e,g1,g2,g3⟩:=h5.top;refine Is.mk rfl ⟨A,_,c,by rw [a7,ay g1];rfl,Is.mk rfl ⟨_,h5.c1,Is.mk rfl ⟨a.1,⟨a.2.1,Cells.bC Ff⟩,?_⟩⟩⟩;rw [add_zero];refine oy h5.X.gr (by omega) a fun w6 k6=>⟨_,rfl,?_⟩;have g16:=k6.heap g1 (fun h=>h);obtain⟨i,nd,cl,l,q1,q2,q3,q4,q5,q6,q7,q8⟩:=Ml h.eM ha;rw [q5];obtain⟨aa,A1,n1,c1,B1,m1,d1,p1,p2,p3,p4,_⟩:=(g2.aD k6 (fun _ _ h=>h)).at_ i cl q3;subst p1;refine⟨by rw [a7,ay g16];rfl,⟨by omega,by omega⟩,Is.mk rfl ⟨((G.score a:Nat):Int),?_,?_⟩⟩
 ·have:=fe cl A1 n1 c1 B1 m1 d1 #[]
  rw [Array.append_empty]at this;have Vc:=p4 32 _ this.1;rw [Int.toNat_natCast,Vc];unfold GS.score;rw [q6]
 ·exact hK w6 (sG.tt k6)
theorem ya(h:gV k G){a:HT}(ha:a∈ids G.D):G.score a<=G.D.length:=by
 rw [(h.wd a ha).2.2];exact qW h ha
theorem pC(h:R3 w F r x k G)(hD:G.D.length<=5000){a b:HT}(ha:a∈ids G.D)(hb:b∈ids G.D)(hK:∀w',Kept Nil w w'->K (.bool (gl G a b)) w'):
 bj prog dA.id #[.pointer (some ⟨r,0,none⟩),.agg a.1,.agg b.1] w K:=by
 refine dA.of ?_;unfold dA.W;intro w4 w5 w6;have k4:Kept Nil w w4:=(Kept.refl _ _).alloc _;have xi:w4.heap[w.heap.size]? =some (.cells a.1 aj (0,0)):=aJ w _;have k5:Kept Nil w4 w5:=(Kept.refl _ _).alloc _;have mZ:w5.heap[w4.heap.size]? =some (.cells b.1 aj (0,0)):=aJ w4 _;have k6:Kept Nil w5 w6:=(Kept.refl _ _).drew;clear_value w6;have vt:=k6.heap (k5.heap xi (fun h=>h)) (fun h=>h);have pv:=k6.heap mZ (fun h=>h);have nx:=(k4.tt k5).tt k6;refine⟨a.1,⟨a.2.1,Cells.bC vt⟩,b.1,⟨b.2.1,Cells.bC pv⟩,?_⟩;refine jJ (h.same nx) hD ha fun w7 k7=>⟨_,rfl,⟨_,rfl,b.2.1,Cells.bC (k7.heap pv (fun h=>h))⟩,?_⟩;have rr:=nx.tt k7;refine jJ (h.same rr) hD hb fun w8 k8=>⟨_,rfl,?_⟩;have wh:=rr.tt k8;have Wg:=k7.tt k8;by_cases he:G.score a=G.score b
 ·refine Split.no (by rw [he];simp) ⟨a.1,⟨a.2.1,Cells.bC (Wg.heap vt (fun h=>h))⟩,b.1,⟨b.2.1,Cells.bC (Wg.heap pv (fun h=>h))⟩,?_⟩
  refine rY a b fun w9 k9=>⟨_,rfl,?_⟩;have e:decide (km a b<0)=gl G a b:=by
   rw [Bool.eq_iff_iff,decide_eq_true_eq,qK];unfold gl;rw [decide_eq_false (by omega),decide_eq_true he];simp
  rw [e];exact hK w9 (wh.tt k9)
 ·refine Split.yes (by simp only [bne_iff_ne,ne_eq];omega) ?_
  have e:decide ((G.score a:Int)<(G.score b:Int))=gl G a b:=by
   unfold gl;rw [decide_eq_false he];simp
  rw [e];exact hK w8 wh
theorem I8(h:R3 w F r x k G)(hD:G.D.length<=5000){A:Option Addr}{n cx:Nat}{l:List HT}(hl:HS w A n l)(hn:n<=400000)(hK:∀w',Kept Nil w w'->K (.int .i64 (mD G.D l)) w'):
 bj prog bf.id #[.pointer (some ⟨r,0,none⟩),.slice A n cx] w K:=by
 have hlen:=hl.len;refine bf.of ?_;unfold bf.W;by_cases h0:n=0
 ·subst h0
  have e:l= []:=List.eq_nil_of_length_eq_zero hlen;refine Split.yes rfl ?_;have:=hK w (Kept.refl _ _);unfold mD at this;rw [if_pos e]at this;exact this
 have fg:l≠ []:=fun e=>by subst e;exact h0 hlen.symm
 refine Split.no (by simpa using (by omega:¬(n:Int)=0)) ?_;refine bf.b7 (I:=fun s v=>∃i:Nat,s=(0,(i:Int))/\i<=n/\(∀p∈l.take i,p∈ids G.D)/\Kept Nil w v) (μ:=fun s _=>((n:Int)-s.2).toNat) (s:=(0,0)) ⟨0,rfl,Nat.zero_le _,by simp,Kept.refl _ _⟩ ?_;rintro s v ⟨i,rfl,hi,cR,kv⟩;unfold bf.B1;refine Split.dec (fun cy=>?_) (fun fU=>?_)
 ·simp only at cy
  have dW:i<n:=by omega
  obtain⟨y,hy⟩:∃y,l[i]? =some y:=⟨_,List.getElem?_eq_getElem (by omega)⟩;intro w3;have k3:Kept Nil v w3:=(Kept.refl _ _).drew;clear_value w3;have qx:=kv.tt k3;have h3:=h.same qx;refine Is.mk rfl ⟨_,h3.c1,Is.mk rfl ((hl.same qx).load (i:=(i:Int)) (by omega) hy ?_)⟩;rw [add_zero];refine oy h3.X.gr (by omega) y fun w4 k4=>⟨_,rfl,?_⟩;have pk:=qx.tt k4;refine Split.dec (fun yW=>?_) (fun im=>?_)
  ·rw [hZ]
   have:=hK w4 pk;unfold mD at this;rw [if_neg fg,if_pos ⟨y,List.mem_of_getElem? hy,qO.1 yW⟩]at this;exact this
  ·simp only
   rw [dh (n:=(i:Int)) (by omega) (by omega)];refine⟨(0,(i:Int)+1),rfl,⟨i+1,rfl,dW,fun p hp=>?_,pk⟩,by simp only;omega⟩;rcases(bG hy).1 hp with hp|rfl
   ·exact cR p hp
   ·exact Classical.byContradiction fun e=>im (qO.2 e)
 ·simp only at fU
  rw [aQ,bf.c8];rw [List.take_of_length_le (by omega)]at cR;have:=hK v kv;unfold mD at this;rw [if_neg fg,if_neg (fun⟨p,hp,hn⟩=>hn (cR p hp))]at this;exact this
theorem sE(h:R3 w F r x k G)(hD:G.D.length<=5000){A:Option Addr}{n cx:Nat}{l:List HT}(hl:HS w A n l)(h0:l≠ [])(hn:n<=400000)(fz:∀y∈l,y∈ids G.D)(hK:∀w',Kept Nil w w'->K (.agg (bR G l).1) w'):
 bj prog aU.id #[.pointer (some ⟨r,0,none⟩),.slice A n cx] w K:=by
 have hlen:=hl.len;obtain⟨x0,t,rfl⟩:∃x0 t,l=x0::t:=by cases l with|nil=>exact absurd rfl h0|cons a b=>exact⟨a,b,rfl⟩
 refine aU.of ?_;unfold aU.W;intro w1;have k1:Kept Nil w w1:=(Kept.refl _ _).alloc _;have ki:w1.heap[w.heap.size]? =some (.cells dU.1 aj (0,0)):=aJ w _;clear_value w1;simp only [List.length_cons]at hlen;refine(hl.same k1).load (i:=0) (by omega) rfl ?_;intro w2;have k2:Kept Nil w1 w2:=(Kept.refl _ _).alloc _;have lS:w2.heap[w1.heap.size]? =some (.cells dU.1 aj (0,0)):=aJ w1 _;clear_value w2;have iT:=k2.heap ki (fun h=>h);have l1:=aS ki;have l2:=aS lS;obtain⟨t1,t2,t3⟩:=jb x0 lS rfl;refine⟨t1,?_⟩;intro w3
 replace t2:w3.heap[w1.heap.size]? =some (.cells x0.1 aj (0,0)):=t2
 replace t3:Kept (· =w1.heap.size) w2 w3:=t3
 clear_value w3;have s1:=k1.size;have nM:Kept Nil w w3:=(k1.tt k2).trans t3 (fun j hj e=>by omega);have CG:=t3.heap iT (by omega);refine aU.b7 (I:=fun s v=>∃(i:Nat) (b:HT),s=(i:Int)/\1<=i/\i<=n/\b∈ids G.D/\((x0::t).drop i).foldl (fun b y=>if gl G b y then y else b) b=bR G (x0::t)/\v.heap[w1.heap.size]? =some (.cells b.1 aj (0,0))/\v.heap[w.heap.size]? =some (.cells dU.1 aj (0,0))/\Kept Nil w v) (μ:=fun s _=>((n:Int)-s).toNat) (s:=1) ⟨1,x0,rfl,Nat.le_refl _,by omega,fz _ List.mem_cons_self,rfl,t2,CG,nM⟩ ?_;rintro s v ⟨i,b,rfl,Kg,vp,hb,he,zJ,Su,kv⟩;unfold aU.B1;refine Split.dec (fun cy=>?_) (fun fU=>?_)
 ·have dW:i<n:=by omega
  obtain⟨y,hy⟩:∃y,(x0::t)[i]? =some y:=⟨_,List.getElem?_eq_getElem (by simp;omega)⟩;have Lm:y∈ids G.D:=fz _ (List.mem_of_getElem? hy);have hd:(x0::t).drop i=y::(x0::t).drop (i+1):=by
   obtain⟨q1,q2⟩:=lgeS hy;rw [List.drop_eq_getElem_cons q1,q2]
  rw [hd,List.foldl_cons]at he;intro w4;have k4:Kept Nil v w4:=(Kept.refl _ _).drew;clear_value w4;have pk:=kv.tt k4;have NJ:(x0::t)[((i:Nat):Int).toNat]? =some y:=by rw [Int.toNat_natCast];exact hy
  refine⟨b.1,⟨b.2.1,Cells.bC (k4.heap zJ (fun h=>h))⟩,(hl.same pk).load (i:=(i:Int)) (by omega) NJ ?_⟩;refine pC (h.same pk) hD hb Lm fun w5 k5=>⟨_,rfl,?_⟩;have zB:=pk.tt k5;have mZ:=k5.heap (k4.heap zJ (fun h=>h)) (fun h=>h);have sI:=k5.heap (k4.heap Su (fun h=>h)) (fun h=>h);rw [dh (n:=(i:Int)) (by omega) (by omega)];refine Split.mk (fun wj=>?_) (fun hle=>?_)
  ·rw [if_pos wj]at he
   refine(hl.same zB).load (i:=(i:Int)) (by omega) NJ ?_;obtain⟨f1,f2,f3⟩:=jb y mZ b.2.1;refine⟨f1,?_⟩;exact⟨(i:Int)+1,rfl,⟨i+1,y,rfl,by omega,by omega,Lm,he,f2,f3.heap sI (by omega),zB.trans f3 (fun j hj e=>by omega)⟩,by simp only;omega⟩
  ·rw [if_neg (by rw [hle];decide)]at he
   exact⟨(i:Int)+1,rfl,⟨i+1,b,rfl,by omega,by omega,hb,he,mZ,sI,zB⟩,by simp only;omega⟩
 ·rw [aQ,aU.c8]
  rw [List.drop_eq_nil_of_le (by simp;omega)]at he
  replace he:b=bR G (x0::t):=he
  subst he;refine⟨_,⟨rI _,Cells.bC zJ⟩,?_⟩;obtain⟨f1,f2,f3⟩:=jb (bR G (x0::t)) Su rfl;exact⟨f1,_,⟨rI _,Cells.bC f2⟩,hK _ (kv.trans f3 (fun j hj e=>by omega))⟩
theorem oz(h:R3 w F r x k G)(hD:G.D.length<=5000){A:Option Addr}{n cx:Nat}{l:List HT}(hl:HS w A n l)(hn:n<=100000)(y:HT)(hK:∀A' c' w',bQ w' w.heap.size A' (bJ G.D l y).length c' (bJ G.D l y)->Kept Nil w w'->K (.slice A' (bJ G.D l y).length c') w'):
 bj prog aX.id #[.pointer (some ⟨r,0,none⟩),.slice A n cx,.agg y.1] w K:=by
 have hlen:=hl.len;refine aX.of ?_;unfold aX.W;intro w1;have k1:Kept Nil w w1:=(Kept.refl _ _).alloc _;have NH:w1.heap[w.heap.size]? =some (.cells y.1 aj (0,0)):=aJ w _;clear_value w1;refine aX.b7 (I:=fun s v=>∃(i:Nat) (B:Option Addr) (c:Nat),s=(B,(bJ G.D (l.take i) y).length,c,(i:Int))/\i<=n/\bQ v w1.heap.size B (bJ G.D (l.take i) y).length c (bJ G.D (l.take i) y)/\Kept Nil w1 v) (μ:=fun s _=>((n:Int)-s.2.2.2).toNat) (s:=(none,0,0,0)) ⟨0,none,0,rfl,Nat.zero_le _,bQ.nil _ _,Kept.refl _ _⟩ ?_;rintro s v ⟨i,B,c,rfl,hi,row,kv⟩;unfold aX.B1;have Au:=k1.tt kv;refine Split.dec (fun cy=>?_) (fun fU=>?_)
 ·simp only at cy
  have dW:i<n:=by omega
  obtain⟨z,hz⟩:∃z,l[i]? =some z:=⟨_,List.getElem?_eq_getElem (by omega)⟩;have nz:(bJ G.D (l.take i) y).length<=100000:=by
   have:=List.length_filter_le (fun b=>decide (lV G.D b y)) (l.take i);have h2:=List.length_take_le i l;unfold bJ;omega
  intro w3;have k3:Kept Nil v w3:=(Kept.refl _ _).drew;clear_value w3;have qx:=kv.tt k3;have nM:=k1.tt qx;have h3:=h.same nM;have xE:l[((i:Nat):Int).toNat]? =some z:=by rw [Int.toNat_natCast];exact hz
  refine Is.mk rfl ⟨_,h3.c1,Is.mk rfl ((hl.same nM).load (i:=(i:Int)) (by omega) xE ⟨y.1,⟨y.2.1,Cells.bC (qx.heap NH (fun h=>h))⟩,?_⟩)⟩;rw [add_zero];refine DH h3.X.gr h.eM.W (by omega) z y fun w4 b hb k4=>⟨b,rfl,?_⟩
  replace hb:b=true↔lV G.D z y:=hb
  have pk:=qx.tt k4;have qS:=k1.tt pk;have jn:=Row.aD row (k3.tt k4) (fun _ _ h=>h);have EB:bJ G.D (l.take (i+1)) y=bJ G.D (l.take i) y++if lV G.D z y then [z]else []:=by
   rw [List.take_add_one,hz,fp]
   congr 1
   unfold bJ;by_cases hp:lV G.D z y
   ·rw [if_pos hp];simp [hp]
   ·rw [if_neg hp];simp [hp]
  cases b with
  |true=>
   rw [if_pos (hb.1 rfl)]at EB;refine Split.yes rfl ((hl.same qS).load (i:=(i:Int)) (by omega) xE ⟨z.2.1,?_⟩);intro w5;have k5:Kept Nil w4 w5:=(Kept.refl _ _).alloc _;have P8:=ja w4 z;have s5:=(pk.tt k5).size;obtain⟨A',c',w6,hr,FY,hg,_⟩:=cF (cx:=1) az (Row.aD jn k5 (fun _ _ h=>h)) P8 (by omega) s5;refine⟨A',_,c',w6,hr,?_⟩;rw [dh (n:=(i:Int)) (by omega) (by omega)];have e:(bJ G.D (l.take (i+1)) y).length=(bJ G.D (l.take i) y).length+1:=by rw [EB];simp
   refine⟨(A',(bJ G.D (l.take i) y).length+1,c',(i:Int)+1),rfl,⟨i+1,A',c',by rw [e];rfl,dW,by rw [e,EB];exact FY,?_⟩,by simp only;omega⟩;exact Kept.dF (pk.tt k5) hg (fun j hj=>(Row.bC row hj).1)
  |false=>
   rw [if_neg (fun e=>by have:=hb.2 e;cases this),List.append_nil]at EB;refine Split.no rfl ?_;simp only;rw [dh (n:=(i:Int)) (by omega) (by omega)];exact⟨(B,(bJ G.D (l.take i) y).length,c,(i:Int)+1),rfl,⟨i+1,B,c,by rw [EB];rfl,dW,by rw [EB];exact jn,pk⟩,by simp only;omega⟩
 ·simp only at fU
  rw [aQ,aX.c8];rw [List.take_of_length_le (by omega)]at row;have e:i=n:=by omega
  subst e;rw [List.take_of_length_le (by omega)];exact hK B c v (Row.base row (fun j hj=>by have:=(Row.bC row hj).1;have:=k1.size;omega)) Au
theorem BY{c:nW}{A1 A2 B1 B2:Option Addr}{n1 n2 m1 m2 p1 p2 q1 q2:Nat}(h1:HS w A1 n1 c.merge)(h2:HS w A2 n2 c.merge)(g1:Bo w B1 m1 c.dJ)(g2:Bo w B2 m2 c.dJ)(hn:n1<=100000)(hm:m1<=100000)(hK:∀w',Kept Nil w w'->K (.bool true) w'):
 bj prog bZ.id #[.agg (cD c A1 n1 p1 B1 m1 q1),.agg (cD c A2 n2 p2 B2 m2 q2)] w K:=by
 have e1:=g1.len;have e2:=g2.len;have e3:=h1.len;have e4:=h2.len;refine bZ.of ?_;unfold bZ.W;intro w4 w5;have k4:Kept Nil w w4:=(Kept.refl _ _).alloc _;have xi:w4.heap[w.heap.size]? =some (.cells (cD c A1 n1 p1 B1 m1 q1) bg (0,0)):=aJ w _;have k5:Kept Nil w4 w5:=(Kept.refl _ _).alloc _;have mZ:w5.heap[w4.heap.size]? =some (.cells (cD c A2 n2 p2 B2 m2 q2) bg (0,0)):=aJ w4 _;clear_value w5;have Ff:=k5.heap xi (fun h=>h);have sG:=k4.tt k5;clear_value w4;have c1:=fe c A1 n1 p1 B1 m1 q1 #[];have c2:=fe c A2 n2 p2 B2 m2 q2 #[];rw [Array.append_empty]at c1 c2;refine⟨B1,m1,q1,by rw [a7,ay Ff];exact c1.2.2.1,B2,m2,q2,by rw [a7,ay mZ];exact c2.2.2.1,Split.no (by simp only [bne_eq_false_iff_eq];omega) ?_⟩;refine bZ.b7 (I:=fun s v=>∃i:Nat,s=(false,(i:Int))/\i<=m1/\Kept Nil w5 v) (μ:=fun s _=>((m1:Int)-s.2).toNat) (s:=(false,0)) ⟨0,rfl,Nat.zero_le _,Kept.refl _ _⟩ ?_;rintro s v ⟨i,rfl,hi,kv⟩;unfold bZ.B1;have UK:=kv.heap Ff (fun h=>h);have zJ:=kv.heap mZ (fun h=>h);have Au:=sG.tt kv;refine⟨B1,m1,q1,by rw [a7,ay UK];exact c1.2.2.1,Split.dec (fun cy=>?_) (fun fU=>?_)⟩
 ·simp only at cy
  obtain⟨b,hb⟩:∃b,c.dJ[i]? =some b:=⟨_,List.getElem?_eq_getElem (by omega)⟩;intro w6;have k6:Kept Nil v w6:=(Kept.refl _ _).drew;clear_value w6;have nx:=Au.tt k6;obtain⟨a1,r1,_,r3⟩:=(g1.same nx).at_ i b hb;obtain⟨a2,r4,_,r6⟩:=(g2.same nx).at_ i b hb;subst r1 r4;refine⟨some a1,m1,q1,by rw [a7,ay (k6.heap UK (fun h=>h))];exact c1.2.2.1,⟨by simp only;omega,by simp only;omega⟩,b,by rw [Int.toNat_natCast,Nat.mul_one];exact r3,some a2,m2,q2,by rw [a7,ay (k6.heap zJ (fun h=>h))];exact c2.2.2.1,⟨by simp only;omega,by simp only;omega⟩,b,by rw [Int.toNat_natCast,Nat.mul_one];exact r6,Split.no (by simp) ?_⟩;simp only;rw [dh (n:=(i:Int)) (by omega) (by omega)];exact⟨(false,(i:Int)+1),rfl,⟨i+1,rfl,by omega,kv.tt k6⟩,by simp only;omega⟩
 ·rw [aQ,bZ.c8]
  have jt:∀ {b:Nat} {A B:Option Addr} {n m p q:Nat},v.heap[b]? =some (.cells (cD c A n p B m q) bg (0,0))->Cells v ((⟨b,0,none⟩:Addr).add 0) c.jt.1:=fun hb j u hj=>by
   have cy:=(Array.getElem?_eq_some_iff.1 hj).1;rw [add_zero,a7,ay hb,Nat.zero_add];unfold cD;rw [Array.getElem?_append_left cy];exact hj
  refine⟨c.jt.1,⟨c.jt.2.1,jt UK⟩,c.jt.1,⟨c.jt.2.1,jt zJ⟩,⟨c.jt.2.ints,c.jt.2.ints⟩,?_⟩;rw [dz];refine Split.yes (decide_eq_true rfl) ⟨_,by rw [a7,ay UK];exact c1.1,_,by rw [a7,ay zJ];exact c2.1,Split.yes (beq_self_eq_true _) ⟨_,_,_,by rw [a7,ay UK];exact c1.2.1,_,_,_,by rw [a7,ay zJ];exact c2.2.1,?_⟩⟩;refine DF (h1.same Au) (h2.same Au) (by omega) fun w7 k7=>⟨_,rfl,?_⟩;rw [decide_eq_true rfl];exact hK w7 (Au.tt k7)
end
structure VJ(v:World)(B0 xb rb:Nat)(x:nW)(A:Option Addr)(n cp:Nat)(E:Option Addr)(e ce:Nat)(W:Option Addr)(nw cw:Nat)(wd:List HT):Prop where
 top:v.heap[xb]? =some (.cells (cD x A n cp E e ce) bg (0,0))
 mg:bQ v B0 A n cp x.merge
 bl:Row v B0 gJ 1 E e ce (qM x.dJ)
 wr:bQ v B0 W nw cw wd
 box:v.heap[rb]? =some (.cells zC bg (0,0))
 AE:∀j,a8 A=some j->a8 E≠some j
 AW:∀j,a8 A=some j->a8 W≠some j
 EW:∀j,a8 E=some j->a8 W≠some j
 xB:xb<B0
 rB:rb<B0
 xr:xb≠rb
section
variable{v v' u:World}{B0 xb rb n cp e ce nw cw:Nat}{x:nW}{A E W:Option Addr}{wd:List HT}{K:Value->World->Prop}
theorem VJ.same(h:VJ v B0 xb rb x A n cp E e ce W nw cw wd)(k:Kept Nil v v'):VJ v' B0 xb rb x A n cp E e ce W nw cw wd:=
 ⟨k.heap h.top (fun h=>h),Row.aD h.mg k (fun _ _ h=>h),Row.aD h.bl k (fun _ _ h=>h),Row.aD h.wr k (fun _ _ h=>h),k.heap h.box (fun h=>h),h.AE,h.AW,h.EW,h.xB,h.rB,h.xr⟩
theorem VJ.f32(h:VJ v B0 xb rb x A n cp E e ce W nw cw wd):v.cell? ((⟨xb,0,none⟩:Addr).add 32)=some (.int .u64 (x.score:Int)):=by
 have:=(fe x A n cp E e ce #[]).1;rw [Array.append_empty]at this;rw [a7,ay h.top];exact this
theorem VJ.f33(h:VJ v B0 xb rb x A n cp E e ce W nw cw wd):v.cell? ((⟨xb,0,none⟩:Addr).add 33)=some (.slice A n cp):=by
 have:=(fe x A n cp E e ce #[]).2.1;rw [Array.append_empty]at this;rw [a7,ay h.top];exact this
theorem VJ.f34(h:VJ v B0 xb rb x A n cp E e ce W nw cw wd):v.cell? ((⟨xb,0,none⟩:Addr).add 34)=some (.slice E e ce):=by
 have:=(fe x A n cp E e ce #[]).2.2.1;rw [Array.append_empty]at this;rw [a7,ay h.top];exact this
theorem VJ.wrx(h:VJ v B0 xb rb x A n cp E e ce W nw cw wd){j:Nat}(hj:j<35):Wr v ((⟨xb,0,none⟩:Addr).add j):=by
 rw [a7];exact dK h.top (by rw [aW];omega)
theorem VJ.MK(h:VJ v B0 xb rb x A n cp E e ce W nw cw wd)(j:Nat)(z:Value):Kept (· =xb) v (v.setCell ((⟨xb,0,none⟩:Addr).add j) z):=by
 rw [a7];exact Kept.setCell (S:=(· =xb)) (Kept.refl _ v) (p:=⟨xb,0+j,none⟩) (fun _=>rfl) _
theorem VJ.MM(h:VJ v B0 xb rb x A n cp E e ce W nw cw wd)(s:Nat):VJ (v.setCell ((⟨xb,0,none⟩:Addr).add 32) (.int .u64 (s:Int))) B0 xb rb {x with score:=s} A n cp E e ce W nw cw wd:=by
 have k:=h.MK 32 (.int .u64 (s:Int));have xB:=h.xB;refine⟨?_,Row.aD h.mg k (fun j hj e=>by have:=(Row.bC h.mg hj).1;omega),Row.aD h.bl k (fun j hj e=>by have:=(Row.bC h.bl hj).1;omega),Row.aD h.wr k (fun j hj e=>by have:=(Row.bC h.wr hj).1;omega),k.heap h.box h.xr.symm,h.AE,h.AW,h.EW,h.xB,h.rB,h.xr⟩;rw [a7,cS h.top];have:=uL x A n cp E e ce #[] s;rw [Array.append_empty,Array.append_empty]at this;rw [this]
theorem VJ.Re(h:VJ v B0 xb rb x A n cp E e ce W nw cw wd)(hB:B0<=v.heap.size)(hn:nw<=100000){z:HT}(nv:Kept Nil v v'){bx:Nat}(hx:HS v' (some ⟨bx,0,none⟩) 1 [z]):
 ∃W' QA u,(Builtin.append_ #[az,az] az #[.slice W nw cw,.slice (some ⟨bx,0,none⟩) 1 1]).run prog v'=.ok (.slice W' (nw+1) QA) u/\VJ u B0 xb rb x A n cp E e ce W' (nw+1) QA (wd++ [z])/\Kept (fun j=>j=xb\/B0<=j) v u:=by
 have h':=h.same nv;have V0:=nv.size;obtain⟨W',c',u,hr,row,hg,hb⟩:=cF (cx:=1) az h'.wr hx (by omega) (by omega);have kg:Kept (fun j=>a8 W=some j) v' u:=Kept.grown (Kept.refl _ _) hg (fun j hj _=>hj);have nB:∀j,j<B0->a8 W≠some j:=fun j hj e=>by have:=(Row.bC h.wr e).1;omega
 refine⟨W',c',u,hr,⟨kg.heap h'.top (nB _ h.xB),Row.aD h'.mg kg (fun j hj=>h.AW j hj),Row.aD h'.bl kg (fun j hj=>h.EW j hj),row,kg.heap h'.box (nB _ h.rB),h.AE,fun j hj e=>?_,fun j hj e=>?_,h.xB,h.rB,h.xr⟩,(nv.mono fun _ _ h=>h.elim).trans kg (fun j hj e=>.inr (Row.bC h.wr e).1)⟩
 ·rcases hb j e with e'|e'
  ·exact h.AW j hj e'
  ·obtain⟨_,cur,hc⟩:=Row.bC h'.mg hj
   have:=aS hc;omega
 ·rcases hb j e with e'|e'
  ·exact h.EW j hj e'
  ·obtain⟨_,cur,hc⟩:=Row.bC h'.bl hj
   have:=aS hc;omega
theorem VJ.F8(h:VJ v B0 xb rb x A n cp E e ce W nw cw wd)(hB:B0<=v.heap.size)(hn:e<=100000){b:Bool}(nv:Kept Nil v v'){bx:Nat}(hx:v'.cell? ⟨bx,0,none⟩=some (.bool b)):
 ∃E' qU u,(Builtin.append_ #[fT,fT] fT #[.slice E e ce,.slice (some ⟨bx,0,none⟩) 1 1]).run prog v'=.ok (.slice E' (e+1) qU) u/\Wr u ((⟨xb,0,none⟩:Addr).add 34)/\
  VJ (u.setCell ((⟨xb,0,none⟩:Addr).add 34) (.slice E' (e+1) qU)) B0 xb rb {x with dJ:=x.dJ++ [b]} A n cp E' (e+1) qU W nw cw wd/\Kept (fun j=>j=xb\/B0<=j) v (u.setCell ((⟨xb,0,none⟩:Addr).add 34) (.slice E' (e+1) qU)):=by
 have h':=h.same nv;have V0:=nv.size;have xB:=h.xB;obtain⟨E',c',u,hr,row,hg,hb⟩:=eN (P:=prog) (t:=fT) (bytes:=1) (ty:=fT) zY h'.bl (a:=⟨bx,0,none⟩) (m:=1) (cx:=1) (news:= [.bool b]) rfl (fun j z hj=>by
  cases j with
  |zero=>simp only [List.getElem?_cons_zero,Option.some.injEq]at hj;subst hj;rw [add_zero];exact hx
  |succ j=>simp at hj) (fun z hz=>by
  have:z=.bool b:=by simpa using hz
  subst this;rfl) (by omega) (by unfold maxLen;omega) (by omega)
 have kg:Kept (fun j=>a8 E=some j) v' u:=Kept.grown (Kept.refl _ _) hg (fun j hj _=>hj);have nB:∀j,j<B0->a8 E≠some j:=fun j hj e=>by have:=(Row.bC h.bl e).1;omega
 have top:=kg.heap h'.top (nB _ h.xB);have ks:Kept (· =xb) u (u.setCell ((⟨xb,0,none⟩:Addr).add 34) (.slice E' (e+1) c')):=by
  rw [a7];exact Kept.setCell (S:=(· =xb)) (Kept.refl _ u) (p:=⟨xb,0+34,none⟩) (fun _=>rfl) _
 have ke:Kept (fun j=>j=xb\/a8 E=some j) v' (u.setCell ((⟨xb,0,none⟩:Addr).add 34) (.slice E' (e+1) c')):=(kg.mono fun _ _ h=>.inr h).trans ks (fun _ _ h=>.inl h);refine⟨E',c',u,hr,by rw [a7];exact dK top (by rw [aW];omega),⟨?_,?_,?_,?_,?_,fun j hj e=>?_,h.AW,fun j hj e=>?_,h.xB,h.rB,h.xr⟩,(nv.mono fun _ _ h=>h.elim).trans ke (fun j hj e=>e.imp (fun h=>h) (fun e=>(Row.bC h.bl e).1))⟩
 ·rw [a7,cS top]
  have:=p7 x A n cp E e ce #[] E' (e+1) c';rw [Array.append_empty,Array.append_empty]at this;rw [this];rfl
 ·exact Row.aD h'.mg ke (fun j hj e=>e.elim (fun e=>by have:=(Row.bC h.mg hj).1;omega) (h.AE j hj))
 ·have e1:qM (x.dJ++ [b])=qM x.dJ++ [.bool b]:=by simp [qM]
  show Row _ B0 gJ 1 E' (e+1) c' (qM (x.dJ++ [b]))
  rw [e1];exact Row.aD row ks (fun j hj e=>by have:=(Row.bC row hj).1;omega)
 ·exact Row.aD h'.wr ke (fun j hj e=>e.elim (fun e=>by have:=(Row.bC h.wr hj).1;omega) (fun e=>h.EW j e hj))
 ·exact ke.heap h'.box (fun e=>e.elim (fun e=>h.xr e.symm) (nB _ h.rB))
 ·rcases hb j e with e'|e'
  ·exact h.AE j hj e'
  ·obtain⟨_,cur,hc⟩:=Row.bC h'.mg hj
   have:=aS hc;omega
 ·rcases hb j hj with e'|e'
  ·exact h.EW j e' e
  ·obtain⟨_,cur,hc⟩:=Row.bC h'.wr e
   have:=aS hc;omega
end
section
variable{y w w':World}{F F' S:Nat->Prop}{r x k:Nat}{G:GS}{K:Value->World->Prop}{B0 xb rb n cp e ce nw cw:Nat}{A E W:Option Addr}{s:HT}{l:List HT}
set_option maxHeartbeats 2000000 in
theorem Dh(h:R3 y F r x k G)(hD:G.D.length<=300)(nP:k<=1000)(hB:B0<=y.heap.size)(gL:∀j,(j=r\/j=x\/F j)->j<B0/\j≠xb/\j≠rb)(hM:∀z∈cf G s l,z∈ids G.D)(hs:s∈ids G.D)
 (V:VJ y B0 xb rb ⟨s,G.score s+1,cf G s l,[]⟩ A n cp none 0 0 W nw cw (G.world s++ [s]))
 (hK:∀v E e ce W nw cw,VJ v B0 xb rb (cG k G s l) A n cp E e ce W nw cw (dv k G s l).wd->Kept (fun j=>j=xb\/j=rb\/B0<=j) y (setCells v ⟨rb,0,none⟩ (cD (cG k G s l) A n cp E e ce).toList 0)->K (.tuple #[.agg (cD (cG k G s l) A n cp E e ce),.slice W nw cw]) (setCells v ⟨rb,0,none⟩ (cD (cG k G s l) A n cp E e ce).toList 0)):
 af.cK (some ⟨r,0,none⟩) ⟨B0,0,none⟩ ⟨rb,0,none⟩ none 0 0 ⟨xb,0,none⟩ W nw cw none 0 0 0 K y:=by
 unfold af.cK;have Ka:(cf G s l).length<=300:=by
  have:=cI (m:=ids G.D) (jz G s l).nodup hM;rw [fc]at this;omega
 have hn:(cf G s l).length=n:=bQ.len V.mg;have hwl:=qW h.eM hs;have CE:=ya h.eM hs;have hR:∀ {v:World},Kept (fun j=>j=xb\/B0<=j) y v->R3 v F r x k G:=fun kv=>h.aD kv (fun e=>by have:=gL r (.inl rfl);omega) (fun e=>by have:=gL x (.inr (.inl rfl));omega) (fun j hj e=>by have:=gL j (.inr (.inr hj));omega);have vl:∀i,i<=n->(jE k G s l i).wd.length<=700:=fun i hi=>by
  obtain⟨b,h1,h2⟩:=FA k G.D (G.world s++ [s]) ((cf G s l).take i);have h3:=wA ((cf G s l).take i) b;rw [List.length_take]at h3;show(((cf G s l).take i).foldl (jR k G.D) ⟨G.world s++ [s],[]⟩).wd.length<=700;rw [h2];simp only [List.length_append,List.length_singleton];omega
 refine af.qv (I:=fun st v=>∃(i:Nat) (E:Option Addr) (e ce:Nat) (W:Option Addr) (nw cw:Nat),st=(W,nw,cw,(i:Int))/\i<=n/\VJ v B0 xb rb ⟨s,G.score s+1+(jE k G s l i).bl.count true,cf G s l,(jE k G s l i).bl⟩ A n cp E e ce W nw cw (jE k G s l i).wd/\Kept (fun j=>j=xb\/B0<=j) y v) (μ:=fun st _=>((n:Int)-st.2.2.2).toNat) (s:=(W,nw,cw,0)) ⟨0,none,0,0,W,nw,cw,rfl,Nat.zero_le _,V,Kept.refl _ _⟩ ?_;rintro st v ⟨i,E,e,ce,W,nw,cw,rfl,hi,Vv,kv⟩;unfold af.B3;refine⟨A,n,cp,Vv.f33,Split.dec (fun cy=>?_) (fun fU=>?_)⟩
 ·simp only at cy
  have dW:i<n:=by omega
  obtain⟨z,hz⟩:∃z,(cf G s l)[i]? =some z:=⟨_,List.getElem?_eq_getElem (by omega)⟩;have pq:=xV (k:=k) hz;have xE:(cf G s l)[((i:Nat):Int).toNat]? =some z:=by rw [Int.toNat_natCast];exact hz
  have hnw:(jE k G s l i).wd.length=nw:=bQ.len Vv.wr;have Wn:=vl i hi;have sv:=kv.size;refine⟨A,n,cp,Vv.f33,(bQ.hs Vv.mg).load (i:=(i:Int)) (by omega) xE ?_⟩;refine oz (hR kv) (by omega) (bQ.hs Vv.wr) (by omega) z fun N cN w4 Q3 k4=>⟨N,_,cN,rfl,?_⟩;have pk:=kv.trans k4 (fun _ _ h=>h.elim);have WN:=hR pk;refine Is.mk rfl ⟨_,WN.c0,?_⟩;have xH:(bJ G.D (jE k G s l i).wd z).length<=700:=by
   have:=List.length_filter_le (fun b=>decide (lV G.D b z)) (jE k G s l i).wd;unfold bJ;omega
  generalize LJ:bJ G.D (jE k G s l i).wd z=yv at Q3 xH;have V4:=Vv.same k4;refine af.Gm (I:=fun st u=>∃(b:Bool) (q:Nat),st=(b,(q:Int))/\q<=yv.length/\b=(decide (yv.length<=k)&&(yv.take q).all fun z=>decide ((bJ G.D (jE k G s l i).wd z).length+1<=k))/\Kept Nil w4 u) (μ:=fun st _=>((yv.length:Int)-st.2).toNat) (s:=(decide ((yv.length:Int)<=(k:Int)),0)) ⟨_,0,rfl,Nat.zero_le _,by simp,Kept.refl _ _⟩ ?_;rintro st u ⟨b,q,rfl,hq,hb,ku⟩;have V9:=pk.trans ku (fun _ _ h=>h.elim);have Vu:=V4.same ku;have fin:∀ {t:World},Kept Nil w4 t->b=lI k G.D (jE k G s l i).wd z->af.BH (some ⟨r,0,none⟩) ⟨rb,0,none⟩ none 0 0 ⟨xb,0,none⟩ W nw cw (i:Int) N yv.length cN b (q:Int) (bI (af.e3 (some ⟨r,0,none⟩) ⟨rb,0,none⟩ none 0 0 ⟨xb,0,none⟩) (fun st v=>∃(i:Nat) (E:Option Addr) (e ce:Nat) (W:Option Addr) (nw cw:Nat),st=(W,nw,cw,(i:Int))/\i<=n/\VJ v B0 xb rb ⟨s,G.score s+1+(jE k G s l i).bl.count true,cf G s l,(jE k G s l i).bl⟩ A n cp E e ce W nw cw (jE k G s l i).wd/\Kept (fun j=>j=xb\/B0<=j) y v) (fun st _=>((n:Int)-st.2.2.2).toNat) (W,nw,cw,(i:Int)) v (af.q3 K)) t:=fun {t} kt xJ=>by
   have Vt:=V4.same kt;have RE:=pk.trans kt (fun _ _ h=>h.elim);have st:=RE.size;have WJ:(jE k G s l i).bl.length=e:=by have:=(Row.bo Vt.bl).len;simpa using this
   have hbi:=BQ k G s l i (by omega);unfold af.BH;refine⟨E,e,ce,Vt.f34,?_⟩;intro w5;have k5:Kept Nil t w5:=(Kept.refl _ _).alloc _;have mZ:w5.cell? ⟨t.heap.size,0,none⟩=some (.bool b):=by rw [ay (aJ t _)];rfl
   clear_value w5;obtain⟨E',qU,u6,q1,q2,q3,q4⟩:=Vt.F8 (by omega) (by omega) k5 mZ;refine⟨E',e+1,qU,u6,q1,q2,?_⟩;have PY:=RE.tt q4;rw [dh (n:=(i:Int)) (by omega) (by omega)];rw [jR,<-xJ]at pq;generalize u6.setCell ((⟨xb,0,none⟩:Addr).add 34) (.slice E' (e+1) qU)=w6 at q3 q4 PY⊢;have s6:=PY.size;cases b with
   |false=>
    refine Split.no rfl ⟨(W,nw,cw,(i:Int)+1),rfl,⟨i+1,E',e+1,qU,W,nw,cw,rfl,dW,?_,PY⟩,by simp only;omega⟩;rw [pq];simpa [List.count_append]using q3
   |true=>
    refine Split.yes rfl ⟨A,n,cp,q3.f33,(bQ.hs q3.mg).load (i:=(i:Int)) (by omega) xE ⟨z.2.1,?_⟩⟩;intro w7;have k7:Kept Nil w6 w7:=(Kept.refl _ _).alloc _;have Yx:=ja w6 z;obtain⟨W',QA,w8,r1,r2,r3⟩:=q3.Re (by omega) (by omega) k7 Yx;refine⟨W',nw+1,QA,w8,r1,_,r2.f32,r2.wrx (by omega),?_⟩;have aie:(jE k G s l i).bl.count true<=300:=by have:=List.count_le_length (a:=true) (l:=(jE k G s l i).bl);omega
    have ew:u64.wrap (((G.score s+1+(jE k G s l i).bl.count true:Nat):Int)+1)=((G.score s+1+(jE k G s l i).bl.count true+1:Nat):Int):=by
     rw [show((G.score s+1+(jE k G s l i).bl.count true:Nat):Int)+1=((G.score s+1+(jE k G s l i).bl.count true+1:Nat):Int)by omega];exact je (by omega)
    simp only;rw [ew];have r4:=r2.MM (G.score s+1+(jE k G s l i).bl.count true+1);have r5:=r2.MK 32 (.int .u64 ((G.score s+1+(jE k G s l i).bl.count true+1:Nat):Int));refine⟨(W',nw+1,QA,(i:Int)+1),rfl,⟨i+1,E',e+1,qU,W',nw+1,QA,rfl,dW,?_,(PY.tt r3).trans r5 (fun _ _ h=>.inl h)⟩,by simp only;omega⟩;rw [pq];have ec:((jE k G s l i).bl++ [true]).count true=(jE k G s l i).bl.count true+1:=by simp [List.count_append]
    simp only [if_true];rw [ec,<-Nat.add_assoc];exact r4
  unfold af.B4;refine Split.dec (fun Tx=>?_) (fun TR=>?_)
  ·simp only at Tx
   refine Split.mk (fun vq=>?_) (fun vq=>?_)
   ·replace vq:b=true:=vq
    subst vq;have JS:q<yv.length:=by omega
    obtain⟨z2,hz2⟩:∃z2,yv[q]? =some z2:=⟨_,List.getElem?_eq_getElem JS⟩;intro w5;have k5:Kept Nil u w5:=(Kept.refl _ _).drew;clear_value w5;have D5:=ku.tt k5;have zB:=pk.trans D5 (fun _ _ h=>h.elim);have hR5:=hR zB;refine((bQ.hs Q3).same D5).load (i:=(q:Int)) (by omega) (by rw [Int.toNat_natCast];exact hz2) (Is.mk rfl ⟨_,hR5.c0,?_⟩);refine oz hR5 (by omega) (bQ.hs (V4.same D5).wr) (by omega) z2 fun N2 c2 w6 FY k6=>⟨N2,_,c2,rfl,?_⟩;have Ju:=D5.tt k6;refine⟨(hR5.same k6).c0,?_⟩;simp only;rw [dh (n:=(q:Int)) (by omega) (by omega),gQ (x:=(k:Int)-1) (by omega) (by omega)];refine⟨(decide (((bJ G.D (jE k G s l i).wd z2).length:Int)<=(k:Int)-1),(q:Int)+1),rfl,⟨_,q+1,rfl,JS,?_,Ju⟩,by simp only;omega⟩;rw [eq_comm,Bool.and_eq_true,decide_eq_true_eq]at hb;rw [decide_eq_true hb.1,Bool.true_and,List.take_add_one,hz2];simp only [Option.toList_some,List.all_append,hb.2,Bool.true_and,List.all_cons,List.all_nil,Bool.and_true];rw [decide_eq_decide];omega
   ·rw [aQ,af.Fq]
    replace vq:b=false:=vq
    refine fin ku ?_;rw [vq]at hb⊢
    symm
    unfold lI;rw [LJ,decide_eq_false_iff_not];rintro⟨g1,g2⟩;rw [decide_eq_true g1,Bool.true_and]at hb;have:=List.all_eq_false.1 hb.symm;obtain⟨z0,Yw,hz1⟩:=this;exact hz1 (decide_eq_true (g2 z0 (List.mem_of_mem_take Yw)))
  ·simp only at TR
   rw [aQ,af.Fq];refine fin ku ?_;rw [List.take_of_length_le (by omega)]at hb;rw [hb];unfold lI;rw [LJ,Bool.eq_iff_iff,Bool.and_eq_true,decide_eq_true_eq,decide_eq_true_eq,List.all_eq_true];simp only [decide_eq_true_eq]
 ·simp only at fU
  have:i=n:=by omega
  subst this;rw [aQ,af.wE];rw [<-hn,BR]at Vv;have EC:(⟨s,G.score s+1+(dv k G s l).bl.count true,cf G s l,(dv k G s l).bl⟩:nW)=cG k G s l:=rfl;rw [EC]at Vv;unfold af.qQ;obtain⟨t1,t2,t3⟩:=dN Vv.box (cs:=cD (cG k G s l) A (cf G s l).length cp E e ce) (by rw [aW];rfl);refine⟨_,⟨aW ..,Cells.bC Vv.top⟩,⟨aW ..,dI _ _ _ _ _ _ _,fun j hj=>t1 j (by rw [aW];exact hj)⟩,_,⟨aW ..,Cells.bC t2⟩,?_⟩;rw [hn]at t3 Vv⊢;exact hK v E e ce W nw cw Vv ((kv.mono fun _ _ h=>h.imp (fun h=>h) (fun h=>.inr h)).trans t3 (fun _ _ h=>.inr (.inl h)))
end
theorem PH{G:GS}{l:List HT}{k:Nat}{x:HT}(h:SO G l)(h1:∀y∈l.take k,gl G y x=true)(h2:∀y∈l.drop k,gl G x y=true):SO G (l.take k++x::l.drop k):=by
 have h0:SO G (l.take k++l.drop k):=by rw [List.take_append_drop];exact h
 unfold SO at h0⊢;rw [List.pairwise_append]at h0⊢;refine⟨h0.1,List.pairwise_cons.2 ⟨h2,h0.2.1⟩,fun a ha b hb=>?_⟩;rcases List.mem_cons.1 hb with rfl|hb
 ·exact h1 a ha
 ·exact h0.2.2 a ha b hb
section
variable{y w w':World}{F F' S:Nat->Prop}{r x k:Nat}{G:GS}{K:Value->World->Prop}{B0 xb rb sb n cp e ce nw cw na ca:Nat}{A E W AA:Option Addr}{s:HT}{l all wd:List HT}
set_option maxHeartbeats 2000000 in
theorem Di(h:R3 y F r x k G)(hD:G.D.length<=300)(hB:B0<=y.heap.size)(gL:∀j,(j=r\/j=x\/F j)->j≠xb)(hs:s∈ids G.D)(G5:y.heap[sb]? =some (.cells s.1 aj (0,0)))(Qa:sb≠xb)
 (cR:HS y AA na all) (WR:∀a,AA=some a->a.block≠xb) (hSS:SS all) (fz:∀z∈all,z∈ids G.D)
 (V:VJ y B0 xb rb ⟨s,G.score s+1,[],[]⟩ none 0 0 none 0 0 W nw cw wd)
 (hK:∀v A n cp M i,SO G M->(∀z,z∈M↔z∈all/\z≠s/\¬eI G.D z s)->VJ v B0 xb rb ⟨s,G.score s+1,M,[]⟩ A n cp none 0 0 W nw cw wd->Kept (· =xb) y v->af.cK (some ⟨r,0,none⟩) ⟨sb,0,none⟩ ⟨rb,0,none⟩ none 0 0 ⟨xb,0,none⟩ W nw cw AA na ca i K v):
 Holds none [] prog 179 (.loop (lB (bB (sR (sL (sR (sR (sR (sR (body af.fn)))))))))) (af.q1 K) [(0,.pointer (some ⟨r,0,none⟩)),(4,.pointer (some ⟨sb,0,none⟩)),(6,.pointer (some ⟨rb,0,none⟩)),(7,.slice none 0 0),(8,.pointer (some ⟨xb,0,none⟩)),(9,.slice W nw cw),(10,.slice AA na ca),(11,.int .i64 0)] y:=by
 have JY:=cR.len;have ahr:na<=300:=by
  have:=cI (m:=ids G.D) hSS.nodup fz;rw [fc]at this;omega
 have hR:∀ {v:World},Kept (· =xb) y v->R3 v F r x k G:=fun kv=>h.aD kv (gL r (.inl rfl)) (gL x (.inr (.inl rfl))) (fun j hj=>gL j (.inr (.inr hj)));refine af.b7 (I:=fun st v=>∃(i:Nat) (M:List HT) (A:Option Addr) (n cp:Nat),st=(i:Int)/\i<=na/\VJ v B0 xb rb ⟨s,G.score s+1,M,[]⟩ A n cp none 0 0 W nw cw wd/\SO G M/\(∀z,z∈M↔z∈all.take i/\z≠s/\¬eI G.D z s)/\Kept (· =xb) y v) (μ:=fun st _=>((na:Int)-st).toNat) (s:=0) ⟨0,[],none,0,0,rfl,Nat.zero_le _,V,List.Pairwise.nil,by simp,Kept.refl _ _⟩ ?_;rintro st v ⟨i,M,A,n,cp,rfl,hi,Vv,Eh,gR,kv⟩;unfold af.B1;refine Split.dec (fun cy=>?_) (fun fU=>?_)
 ·have dW:i<na:=by omega
  obtain⟨z,hz⟩:∃z,all[i]? =some z:=⟨_,List.getElem?_eq_getElem (by omega)⟩;have ND:=fz z (List.mem_of_getElem? hz);have EB:all.take (i+1)=all.take i++ [z]:=by rw [List.take_add_one,hz];rfl
  have hMi:∀y∈M,y∈ids G.D:=fun y hy=>fz y (List.mem_of_mem_take ((gR y).1 hy).1);have hMl:M.length<=300:=by
   have:=cI (m:=ids G.D) Eh.nodup hMi;rw [fc]at this;omega
  have hMn:M.length=n:=bQ.len Vv.mg;have sv:=kv.size;refine(cR.aD kv WR).load (i:=(i:Int)) (by omega) hz ?_;intro w2;obtain⟨sH,jh,jB⟩:=gM (w:=v) (z:=dU.1) (cs:=z.1) (t:=aj) (by rw [z.2.1];rfl);refine⟨⟨z.2.1,z.2.one,fun j hj=>sH j (by rw [z.2.1];exact hj)⟩,?_⟩;intro w3 w4
  replace jh:w3.heap[v.heap.size]? =some (.cells z.1 aj (0,0)):=jh
  replace jB:Kept Nil v w3:=jB
  have k4:Kept Nil w3 w4:=(Kept.refl _ _).drew;clear_value w4;have qT:=k4.heap jh (fun h=>h);have M4:=jB.tt k4;clear_value w3;have pk:=kv.trans M4 (fun _ _ h=>h.elim);have NU:∀ {u:World},Kept (· =xb) y u->Cells u ⟨sb,0,none⟩ s.1:=fun ku=>Cells.bC (ku.heap G5 Qa);have next:∀ {u:World} {M':List HT} {A':Option Addr} {n' vu:Nat},VJ u B0 xb rb ⟨s,G.score s+1,M',[]⟩ A' n' vu none 0 0 W nw cw wd->SO G M'->(∀z,z∈M'↔z∈all.take (i+1)/\z≠s/\¬eI G.D z s)->Kept (· =xb) y u->
   ∃s1:Int,i64.wrap ((i:Int)+(1:Int))=s1/\(∃(i:Nat) (M:List HT) (A:Option Addr) (n cp:Nat),s1=(i:Int)/\i<=na/\VJ u B0 xb rb ⟨s,G.score s+1,M,[]⟩ A n cp none 0 0 W nw cw wd/\SO G M/\(∀z,z∈M↔z∈all.take i/\z≠s/\¬eI G.D z s)/\Kept (· =xb) y u)/\((na:Int)-s1).toNat<((na:Int)-(i:Int)).toNat:=fun h1 h2 h3 h4=>by
   rw [dh (n:=(i:Int)) (by omega) (by omega)];exact⟨(i:Int)+1,rfl,⟨i+1,_,_,_,_,rfl,dW,h1,h2,h3,h4⟩,by omega⟩
  have skip:(z=s\/eI G.D z s)->∀z',z'∈M↔z'∈all.take (i+1)/\z'≠s/\¬eI G.D z' s:=fun Yw z'=>by
   rw [gR,EB,List.mem_append,List.mem_singleton];constructor
   ·rintro⟨a,b⟩;exact⟨.inl a,b⟩
   ·rintro⟨a|rfl,b,c⟩
    ·exact⟨a,b,c⟩
    ·rcases Yw with e|e
     ·exact absurd e b
     ·exact absurd e c
  refine⟨z.1,⟨z.2.1,Cells.bC qT⟩,s.1,⟨s.2.1,NU pk⟩,⟨z.2.ints,s.2.ints⟩,?_⟩;rw [dz];refine Split.dec (fun CA=>?_) (fun CA=>?_)
  ·obtain⟨s1,e1,e2,e3⟩:=next (Vv.same M4) Eh (skip (.inl CA)) pk
   rw [e1];exact⟨s1,rfl,e2,e3⟩
  have WN:=hR pk;refine Is.mk rfl ⟨_,WN.c1,Is.mk rfl ⟨z.1,⟨z.2.1,Cells.bC qT⟩,s.1,⟨s.2.1,NU pk⟩,?_⟩⟩;rw [add_zero];refine pO WN.X.gr h.eM.W (by omega) z s fun w5 b hb k5=>⟨b,rfl,?_⟩;have M1:=M4.tt k5;have zB:=kv.trans M1 (fun _ _ h=>h.elim);refine Split.mk (fun hbt=>?_) (fun WK=>?_)
  ·obtain⟨s1,e1,e2,e3⟩:=next (Vv.same M1) Eh (skip (.inr (hb.1 hbt))) zB
   rw [e1];exact⟨s1,rfl,e2,e3⟩
  have hzA:¬eI G.D z s:=fun e=>by rw [hb.2 e]at WK;cases WK
  have V5:=Vv.same M1;have mZ:=k5.heap qT (fun h=>h);have hzM:z∉M:=fun e=>by
   have h1:=((gR z).1 e).1;have eF:=hSS.nodup;obtain⟨q,hq⟩:=List.mem_iff_getElem?.1 h1;rw [List.getElem?_take]at hq;split at hq
   ·rename_i hqi
    have:=(List.getElem?_inj (i:=q) (j:=i) (by rw [JY];omega) eF).1 (by rw [hq,hz]);omega
   ·cases hq
  refine⟨A,n,cp,V5.f33,?_⟩;refine af.gw (I:=fun st u=>∃q:Nat,st=(q:Int)/\q<=M.length/\(∀y∈M.drop q,gl G z y=true)/\Kept Nil w5 u) (μ:=fun st _=>st.toNat) (s:=(n:Int)) ⟨n,rfl,by omega,by rw [<-hMn];simp,Kept.refl _ _⟩ ?_;rintro st u ⟨q,rfl,hq,uq,ku⟩;unfold af.B2;have uo:∀ {t:World},Kept Nil w5 t->(∀y∈M.take q,gl G y z=true)->af.gU (some ⟨r,0,none⟩) ⟨sb,0,none⟩ ⟨rb,0,none⟩ none 0 0 ⟨xb,0,none⟩ W nw cw AA na ca (i:Int) ⟨v.heap.size,0,none⟩ (q:Int) (bI (af.e1 (some ⟨r,0,none⟩) ⟨sb,0,none⟩ ⟨rb,0,none⟩ none 0 0 ⟨xb,0,none⟩ W nw cw AA na ca) (fun st v=>∃(i:Nat) (M:List HT) (A:Option Addr) (n cp:Nat),st=(i:Int)/\i<=na/\VJ v B0 xb rb ⟨s,G.score s+1,M,[]⟩ A n cp none 0 0 W nw cw wd/\SO G M/\(∀z,z∈M↔z∈all.take i/\z≠s/\¬eI G.D z s)/\Kept (· =xb) y v) (fun st _=>((na:Int)-st).toNat) (i:Int) v (af.q1 K)) t:=by
   intro t kt G3;have Vt:=V5.same kt;have RE:=zB.trans kt (fun _ _ h=>h.elim);have st:=RE.size;have wK:=Vt.mg;have Ht:n<=cp:=by rcases Row.own wK with⟨_,h1,h2,_⟩|⟨_,_,_,_,_,h1,_⟩<;>omega
   unfold af.gU;refine⟨A,n,cp,Vt.f33,⟨by omega,by omega⟩,?_⟩;have xc:HS t (if cp=0 then A else A.map (·.add (0*32))) ((q:Int).toNat -0) (M.take q):=by
    have h:=wK.hs.take (k:=q) (by omega);rw [Nat.sub_zero,Int.toNat_natCast];have e:(if cp=0 then A else A.map (·.add (0*32)))=A:=by
     split
     ·rfl
     ·cases A<;>simp [add_zero]
    rw [e];exact h
   obtain⟨A1,c1,u2,ki,fI,Kk,lS⟩:=cF (cx:=cp-0) az (bQ.nil t t.heap.size) xc (by simp;omega) (Nat.le_refl _);have k2:Kept Nil t u2:=Kept.dF (Kept.refl _ _) Kk (fun k hk=>by cases hk);rw [Nat.zero_add,Nat.sub_zero,Int.toNat_natCast]at ki fI;rw [List.nil_append]at fI;refine⟨A1,_,c1,u2,by rw [Nat.sub_zero,Int.toNat_natCast];exact ki,?_⟩;refine⟨z.1,⟨z.2.1,Cells.bC ((kt.tt k2).heap mZ (fun h=>h))⟩,z.2.1,?_⟩;intro u3;have k3:Kept Nil u2 u3:=(Kept.refl _ _).alloc _;have Ur:HS u3 (some ⟨u2.heap.size,0,none⟩) 1 [z]:=ja u2 z;clear_value u3;have ou:bQ u3 t.heap.size A1 q c1 (M.take q):=Row.aD fI k3 (fun _ _ h=>h);have s2:=k2.size;have s3:=k3.size;obtain⟨A4,c4,u4,xG,jn,CQ,ail⟩:=cF (cx:=1) az ou Ur (by omega) (by omega);have JB:Kept Nil t u4:=Kept.dF (k2.tt k3) CQ (fun k hk=>by rcases lS k hk with h|h;cases h;exact h);have V4:=Vt.same JB;refine⟨A4,_,c4,u4,xG,A,n,cp,V4.f33,⟨by omega,by omega⟩,?_⟩;have Qc:HS u4 (if cp=(q:Int).toNat then A else A.map (·.add ((q:Int).toNat*32))) (n-(q:Int).toNat) (M.drop q):=by
    rw [Int.toNat_natCast];exact(wK.hs.same JB).drop Ht (by omega)
   have hdl:(n-(q:Int).toNat)=n-q:=by rw [Int.toNat_natCast]
   have s4:=JB.size;obtain⟨A5,c5,u5,sI,kI,TT,aik⟩:=cF (cx:=cp-(q:Int).toNat) az jn Qc (by omega) s4;have U9:∀j,a8 A4=some j->t.heap.size<=j:=fun j hj=>(Row.bC jn hj).1;have k5':Kept Nil t u5:=Kept.dF JB TT U9;have Fj:=Vt.same k5';refine⟨A5,_,c5,u5,sI,Fj.wrx (by omega),?_⟩;have jP:M.take q++ [z]++M.drop q=M.take q++z::M.drop q:=by simp
   have xH:(M.take q++z::M.drop q).length=n+1:=by simp;omega
   rw [jP]at kI;have e5:q+1+(n-(q:Int).toNat)=n+1:=by omega
   rw [e5]at kI⊢;have Eu:∀j,a8 A5=some j->t.heap.size<=j:=fun j hj=>(Row.bC kI hj).1;have ks:=Fj.MK 33 (.slice A5 (n+1) c5);have Vf:VJ (u5.setCell ((⟨xb,0,none⟩:Addr).add 33) (.slice A5 (n+1) c5)) B0 xb rb ⟨s,G.score s+1,M.take q++z::M.drop q,[]⟩ A5 (n+1) c5 none 0 0 W nw cw wd:=by
    have xB:=Fj.xB;refine⟨?_,?_,Row.aD Fj.bl ks (fun j hj=>by cases hj),Row.aD Fj.wr ks (fun j hj e=>by have:=(Row.bC Fj.wr hj).1;omega),ks.heap Fj.box Fj.xr.symm,fun j hj e=>(by cases e),fun j hj e=>?_,fun j hj=>(by cases hj),Fj.xB,Fj.rB,Fj.xr⟩
    ·rw [a7,cS Fj.top]
     have:=p8 ⟨s,G.score s+1,M,[]⟩ A n cp none 0 0 #[] A5 (n+1) c5;rw [Array.append_empty,Array.append_empty]at this;rw [this];rfl
    ·have Sw:bQ u5 B0 A5 (n+1) c5 (M.take q++z::M.drop q):=Row.base kI (fun j hj=>by have:=Eu j hj;omega)
     exact Row.aD Sw ks (fun j hj e=>by have:=Eu j hj;omega)
    ·obtain⟨_,cur,hc⟩:=Row.bC Vt.wr e
     have:=aS hc;have:=Eu j hj;omega
   generalize u5.setCell ((⟨xb,0,none⟩:Addr).add 33) (.slice A5 (n+1) c5)=u6 at ks Vf⊢;obtain⟨s1,e1,e2,e3⟩:=next Vf (PH Eh G3 uq) (fun z'=>by
    rw [EB,List.mem_append (s:=all.take i),List.mem_singleton];have hM2:z'∈M.take q++z::M.drop q↔z'=z\/z'∈M:=by
     rw [List.mem_append,List.mem_cons];constructor
     ·rintro(h|h|h)
      ·exact .inr (List.mem_of_mem_take h)
      ·exact .inl h
      ·exact .inr (List.mem_of_mem_drop h)
     ·rintro(h|h)
      ·exact .inr (.inl h)
      ·rw [<-List.take_append_drop q M,List.mem_append]at h
       exact h.imp (fun h=>h) (fun h=>.inr h)
    rw [hM2,gR];constructor
    ·rintro(rfl|⟨a,b⟩)
     ·exact⟨.inr rfl,CA,hzA⟩
     ·exact⟨.inl a,b⟩
    ·rintro⟨a|rfl,b⟩
     ·exact .inr ⟨a,b⟩
     ·exact .inl rfl) ((RE.trans k5' (fun _ _ h=>h.elim)).tt ks)
   rw [e1];exact⟨s1,rfl,e2,e3⟩
  intro w6;have k6:Kept Nil u w6:=(Kept.refl _ _).drew;clear_value w6;have Ju:=ku.tt k6;have V6:=V5.same Ju;have PY:=zB.trans Ju (fun _ _ h=>h.elim);refine Split.dec (fun im=>?_) (fun yW=>?_)
  ·have SJ:0<q:=by omega
   obtain⟨y1,NH⟩:∃y1,M[q-1]? =some y1:=⟨_,List.getElem?_eq_getElem (by omega)⟩;have Lm:=List.mem_of_getElem? NH;rw [wN (x:=(q:Int)-1) (i:=q-1) (by omega) (by omega)];refine⟨z.1,⟨z.2.1,Cells.bC (Ju.heap mZ (fun h=>h))⟩,A,n,cp,V6.f33,(bQ.hs V6.mg).load (i:=((q-1:Nat):Int)) (by omega) (by rw [Int.toNat_natCast];exact NH) ?_⟩;refine pC (hR PY) (by omega) ND (hMi y1 Lm) fun w7 k7=>⟨_,rfl,?_⟩;have ku7:=Ju.tt k7;refine Split.mk (fun hc=>?_) (fun hc=>?_)
   ·refine⟨((q-1:Nat):Int),rfl,⟨q-1,rfl,by omega,fun z' xE=>?_,ku7⟩,by simp only;omega⟩
    have hd:M.drop (q-1)=y1::M.drop q:=by
     obtain⟨h1,h2⟩:=lgeS NH;rw [List.drop_eq_getElem_cons h1,h2,show q-1+1=q by omega]
    rw [hd]at xE;rcases List.mem_cons.1 xE with rfl|xE
    ·exact hc
    ·exact uq z' xE
   ·rw [aQ,af.jA]
    refine uo ku7 fun z' xE=>?_;have CB:gl G y1 z=true:=by
     cases hg:gl G y1 z
     ·exact absurd (lG hc hg) (fun e=>hzM (by rw [e];exact Lm))
     ·rfl
    obtain⟨j,hj⟩:=List.mem_iff_getElem?.1 xE;rw [List.getElem?_take]at hj;split at hj
    ·rename_i hjq
     by_cases e:j=q-1
     ·subst e;rw [NH]at hj;cases hj;exact CB
     ·obtain⟨a1,a2⟩:=lgeS hj
      obtain⟨b1,b2⟩:=lgeS NH;have:=List.pairwise_iff_getElem.1 Eh j (q-1) a1 b1 (by omega);rw [a2,b2]at this;exact lF this CB
    ·cases hj
  ·rw [aQ,af.jA]
   have SJ:q=0:=by omega
   refine uo Ju fun z' xE=>?_;rw [SJ]at xE;simp at xE
 ·rw [aQ,af.c8]
  rw [List.take_of_length_le (by omega)]at gR;exact hK v A n cp M (i:Int) Eh gR Vv kv
end
section
variable{w w':World}{F F' S:Nat->Prop}{r x k:Nat}{G:GS}{K:Value->World->Prop}{xb rb sb n cx:Nat}{A:Option Addr}{s:HT}{l:List HT}
theorem Mz{v:World}(h:R3 v F r x k G)(hD:G.D.length<=300)(nP:k<=1000)(hs:s∈ids G.D)(hl:HS v A n l)(hn:n<=5000)(fz:∀z∈l,z∈ids G.D)(gL:∀j,(j=r\/j=x\/F j)->j≠xb/\j≠rb)
 (G5:v.heap[sb]? =some (.cells s.1 aj (0,0))) (yT:v.heap[rb]? =some (.cells zC bg (0,0))) (Wl:v.heap[xb]? =some (.cells (cD ⟨s,G.score s+1,[],[]⟩ none 0 0 none 0 0) bg (0,0))) (Qa:sb≠xb) (hrx:xb≠rb)
 (hK:∀u A n cp E e ce W nw cw,bQ u v.heap.size A n cp (cG k G s l).merge->Row u v.heap.size gJ 1 E e ce (qM (cG k G s l).dJ)->bQ u v.heap.size W nw cw (dv k G s l).wd->Kept (fun j=>j=xb\/j=rb) v u->K (.tuple #[.agg (cD (cG k G s l) A n cp E e ce),.slice W nw cw]) u):
 af.J1 (some ⟨r,0,none⟩) A n cx ⟨sb,0,none⟩ ⟨rb,0,none⟩ none 0 0 ⟨xb,0,none⟩ K v:=by
 have W0:=h.eM.W;have lsb:=aS G5;have lrb:=aS yT;have lxb:=aS Wl;have hwl:=qW h.eM hs;have j2:∀ {u:World} {W:Option Addr} {nw cw:Nat},bQ u v.heap.size W nw cw (G.world s++ [s])->Kept Nil v u->af.J2 (some ⟨r,0,none⟩) A n cx ⟨sb,0,none⟩ ⟨rb,0,none⟩ none 0 0 ⟨xb,0,none⟩ W nw cw K u:=by
  intro u W nw cw XH ku;have hu:=h.same ku;have su:=ku.size;unfold af.J2;refine Is.mk rfl ⟨_,hu.c1,Is.mk rfl ?_⟩;rw [add_zero];refine ym hu.X.gr W0 (by omega) (hl.same ku) (by omega) fun A1 c1 w1 kP k1=>⟨A1,_,c1,rfl,?_⟩;have nz:(dL G.D l).length<=300:=Nat.le_trans (mv _ _) hD;have s1:=k1.size;have Cp:=ku.tt k1;obtain⟨A2,c2,w2,iT,fI,g2,_⟩:=cF az kP (cx:=cx) (hl.same Cp) (by omega) s1;have k2:Kept Nil u w2:=Kept.dF k1 g2 (fun j hj=>(Row.bC kP hj).1);refine⟨A2,_,c2,w2,iT,?_⟩;refine pN fI.hs (by omega) fun A3 c3 w3 ou k3=>⟨A3,_,c3,rfl,?_⟩;have K8:=k2.tt k3;have qx:=ku.tt K8;have h3:=h.same qx;have cR:∀z∈dd (dL G.D l++l),z∈ids G.D:=fun z hz=>by
   rcases List.mem_append.1 (cZ.1 hz)with hz|hz
   ·exact(iY.1 hz).1
   ·exact fz z hz
  have V3:VJ w3 v.heap.size xb rb ⟨s,G.score s+1,[],[]⟩ none 0 0 none 0 0 W nw cw (G.world s++ [s]):=
   ⟨qx.heap Wl (fun h=>h),bQ.nil _ _,Row.nil _ _ _ _,Row.aD XH K8 (fun _ _ h=>h),qx.heap yT (fun h=>h),fun j hj=>(by cases hj),fun j hj=>(by cases hj),fun j hj=>(by cases hj),lxb,lrb,hrx⟩
  have s3:=qx.size;refine Di h3 (by omega) (by omega) (fun j hj=>(gL j hj).1) hs (qx.heap G5 (fun h=>h)) Qa ou.hs (fun a ha e=>by
   subst ha;have:=(Row.bC ou (k:=a.block) rfl).1;have:=(ku.tt k2).size;omega) (iz _) cR V3 fun t A n cp M i Eh gR Vt kt=>?_
  have hM:M=cf G s l:=mz Eh fun z=>by
   rw [gR];unfold oH;rw [List.mem_filter,decide_eq_true_eq]
  subst hM;have ht:=h3.aD kt (gL r (.inl rfl)).1 (gL x (.inr (.inl rfl))).1 (fun j hj=>(gL j (.inr (.inr hj))).1);have st:=kt.size;refine Dh (B0:=v.heap.size) ht (by omega) nP (by omega) (fun j hj=>⟨?_,gL j hj⟩) (fun z hz=>?_) hs Vt fun t2 E e ce W nw cw V2 Ap=>?_
  ·rcases hj with rfl|rfl|hj
   ·exact h.lt
   ·exact h.lx
   ·exact h.lo j hj
  ·exact cR z ((gR z).1 hz).1
  ·have box:=V2.box
   obtain⟨_,_,f3⟩:=dN box (cs:=cD (cG k G s l) A n cp E e ce) (by rw [aW];rfl);refine hK _ A n cp E e ce W nw cw (Row.aD V2.mg f3 (fun j hj e=>by have:=(Row.bC V2.mg hj).1;omega)) (Row.aD V2.bl f3 (fun j hj e=>by have:=(Row.bC V2.bl hj).1;omega)) (Row.aD V2.wr f3 (fun j hj e=>by have:=(Row.bC V2.wr hj).1;omega)) ?_;exact((qx.mono fun _ _ h=>h.elim).trans kt (fun j hj e=>.inl e)).trans Ap (fun j hj e=>by
    rcases e with e|e|e
    ·exact .inl e
    ·exact .inr e
    ·omega)
 unfold af.J1;intro w1;have k1:Kept Nil v w1:=(Kept.refl _ _).drew;clear_value w1;have h1:=h.same k1;obtain⟨i,nd,cl,wl,q1,q2,q3,q4,q5,q6,q7,q8⟩:=Ml h.eM hs;obtain⟨A0,c0,B,e,g1,g2,g3⟩:=h.top;have cB:∀ {u:World},Kept Nil v u->u.cell? ((⟨r,0,none⟩:Addr).add 3)=some (.slice B G.D.length e):=fun ku=>by rw [a7,ay (ku.heap g1 (fun h=>h))];rfl
 have gW:∀ {u:World},Kept Nil v u->oV u F B G.D.length G.jD:=fun ku=>g3.aD ku (fun _ _ h=>h);obtain⟨aB,Aw,nw,cw,p1,p2,p3,p4,p5,p6⟩:=g3.at_ i wl q4;subst p1;have agA:wl.length=nw:=p5.len;rw [q7]at hwl;have cW:∀ {u:World},Kept Nil v u->u.cell? (aB.add (((i:Nat):Int).toNat*1))=some (.slice Aw nw cw):=fun ku=>by rw [Int.toNat_natCast];exact ku.cell p4 (fun h=>h)
 have hW:∀ {u:World},Kept Nil v u->HS u Aw nw wl:=fun ku=>p5.same ku;have bx:∀ {u:World},Kept Nil v u->∃cs:Array Value,(.agg s.1:Value)=.agg cs/\cs.size=32/\Cells u ⟨sb,0,none⟩ cs:=fun ku=>⟨_,rfl,s.2.1,Cells.bC (ku.heap G5 (fun h=>h))⟩;have Pz:∀ {u:World},Kept Nil v u->∃A' c' u',(Builtin.append_ #[az,az] az #[.slice none 0 0,.slice Aw nw cw]).run prog u=.ok (.slice A' nw c') u'/\bQ u' v.heap.size A' nw c' wl/\Kept Nil u u':=fun {u} ku=>by
  obtain⟨A',c',u',hr,row,hg,_⟩:=cF (cx:=cw) az (bQ.nil u v.heap.size) (hW ku) (by omega) ku.size;rw [Nat.zero_add]at hr row;rw [List.nil_append]at row;exact⟨A',c',u',hr,row,Kept.dF (Kept.refl _ _) hg (fun j hj=>by cases hj)⟩
 have Py:∀ {u:World} {A':Option Addr} {c' bq:Nat},Kept Nil v u->bQ u v.heap.size A' nw c' wl->HS u (some ⟨bq,0,none⟩) 1 [s]->∃A2 c2 u',(Builtin.append_ #[az,az] az #[.slice A' nw c',.slice (some ⟨bq,0,none⟩) 1 1]).run prog u=.ok (.slice A2 (nw+1) c2) u'/\bQ u' v.heap.size A2 (nw+1) c2 (G.world s++ [s])/\Kept Nil v u':=fun {u A' c' bq} ku row hx=>by
  obtain⟨A2,c2,u',hr,fI,hg,_⟩:=cF (cx:=1) az row hx (by omega) ku.size;rw [<-q7]at fI;exact⟨A2,c2,u',hr,fI,Kept.dF ku hg (fun j hj=>(Row.bC row hj).1)⟩
 refine Is.mk rfl ⟨some aB,_,e,cB k1,Is.mk rfl ⟨_,h1.c1,Is.mk rfl ⟨s.1,⟨s.2.1,Cells.bC (k1.heap G5 (fun h=>h))⟩,s.1,⟨s.2.1,Cells.bC (k1.heap G5 (fun h=>h))⟩,?_,?_⟩⟩⟩
 ·rw [add_zero]
  refine oy h1.X.gr (by omega) s fun w2 k2=>⟨_,rfl,?_⟩;have xC:=k1.tt k2;rw [q5];refine⟨bx xC,cB xC,⟨by omega,by omega⟩,Is.mk rfl ⟨Aw,nw,cw,cW xC,?_,?_⟩⟩
  ·obtain⟨A1,c1,w3,CG,ou,k3⟩:=Pz xC
   have qx:=xC.tt k3;refine⟨A1,nw,c1,w3,CG,bx qx,s.2.1,?_⟩;intro w4;have k4:Kept Nil w3 w4:=(Kept.refl _ _).alloc _;have Sc:=ja w3 s;obtain⟨A2,c2,w5,sI,kI,k5⟩:=Py (qx.tt k4) (Row.aD ou k4 (fun _ _ h=>h)) Sc;exact⟨A2,nw+1,c2,w5,sI,af.ny (j2 kI k5)⟩
  ·refine⟨s.2.1,?_⟩
   intro w3;have k3:Kept Nil w2 w3:=(Kept.refl _ _).alloc _;have AB:HS w3 (some ⟨w2.heap.size,0,none⟩) 1 [s]:=ja w2 s;clear_value w3;have qx:=xC.tt k3;obtain⟨A1,c1,w4,xG,jn,k4⟩:=Pz qx;obtain⟨A2,c2,w5,sI,kI,k5⟩:=Py (qx.tt k4) jn (AB.same k4);exact⟨cW qx,cB qx,A1,nw,c1,w4,xG,A2,nw+1,c2,w5,sI,af.ny (j2 kI k5)⟩
 ·refine⟨s.2.1,?_⟩
  intro w2;have k2:Kept Nil w1 w2:=(Kept.refl _ _).alloc _;have Lp:HS w2 (some ⟨w1.heap.size,0,none⟩) 1 [s]:=ja w1 s;clear_value w2;have xC:=k1.tt k2;refine⟨bx xC,(h.same xC).c1,cB xC,?_⟩;rw [add_zero];refine oy (h.same xC).X.gr (by omega) s fun w3 k3=>⟨_,rfl,?_⟩;have qx:=xC.tt k3;rw [q5];obtain⟨A1,c1,w4,xG,jn,k4⟩:=Pz qx;obtain⟨A2,c2,w5,sI,kI,k5⟩:=Py (qx.tt k4) jn ((Lp.same k3).same k4);exact⟨cB qx,⟨by omega,by omega⟩,Is.mk rfl ⟨Aw,nw,cw,cW qx,A1,nw,c1,w4,xG,A2,nw+1,c2,w5,sI,af.ny (j2 kI k5)⟩⟩
theorem ve(h:R3 w F r x k G)(hD:G.D.length<=300)(nP:k<=1000)(hs:s∈ids G.D)(hl:HS w A n l)(hn:n<=5000)(fz:∀z∈l,z∈ids G.D)
 (hK:∀u A n cp E e ce W nw cw,bQ u w.heap.size A n cp (cG k G s l).merge->Row u w.heap.size gJ 1 E e ce (qM (cG k G s l).dJ)->bQ u w.heap.size W nw cw (dv k G s l).wd->Kept Nil w u->K (.tuple #[.agg (cD (cG k G s l) A n cp E e ce),.slice W nw cw]) u):
 bj prog af.id #[.pointer (some ⟨r,0,none⟩),.agg s.1,.slice A n cx] w K:=by
 refine af.of ?_;unfold af.W;intro w1 w2 w3;have k1:Kept Nil w w1:=(Kept.refl _ _).alloc _;have xc:w1.heap[w.heap.size]? =some (.cells s.1 aj (0,0)):=aJ w _;have k2:Kept Nil w1 w2:=(Kept.refl _ _).alloc _;have iT:w2.heap[w1.heap.size]? =some (.cells zC bg (0,0)):=aJ w1 _;have k3:Kept Nil w2 w3:=(Kept.refl _ _).drew;clear_value w3;have CG:=k3.heap iT (fun h=>h);have AG:=k3.heap (k2.heap xc (fun h=>h)) (fun h=>h);have nM:=(k1.tt k2).tt k3;have s1:=k1.size;have l1:=aS xc;have l2:=aS CG;clear_value w2 w1;have CE:=ya h.eM hs;have ew:u64.wrap ((G.score s:Int)+(1:Int))=((G.score s+1:Nat):Int):=by
  rw [show(G.score s:Int)+1=((G.score s+1:Nat):Int)by omega];exact je (by omega)
 have EC:(s.1++ #[.int .u64 ((G.score s+1:Nat):Int),.slice none 0 0,.slice none 0 0]:Array Value)=cD ⟨s,G.score s+1,[],[]⟩ none 0 0 none 0 0:=rfl;have go:∀ {u:World} {xb:Nat},Kept Nil w3 u->w3.heap.size<=xb->u.heap[xb]? =some (.cells (cD ⟨s,G.score s+1,[],[]⟩ none 0 0 none 0 0) bg (0,0))->af.J1 (some ⟨r,0,none⟩) A n cx ⟨w.heap.size,0,none⟩ ⟨w1.heap.size,0,none⟩ none 0 0 ⟨xb,0,none⟩ K u:=fun {u xb} ku hx Wl=>by
  have Wi:=nM.tt ku;have s0:=nM.size;refine Mz (h.same Wi) hD nP hs (hl.same Wi) hn fz (fun j hj=>?_) (ku.heap AG (fun h=>h)) (ku.heap CG (fun h=>h)) Wl (by omega) (by omega) fun t A n cp E e ce W nw cw g1 g2 g3 g4=>?_
  ·have:j<w.heap.size:=by
    rcases hj with rfl|rfl|hj
    ·exact h.lt
    ·exact h.lx
    ·exact h.lo j hj
   exact⟨by omega,by omega⟩
  ·have s0u:=Wi.size
   exact hK t A n cp E e ce W nw cw (Row.base g1 (fun j hj=>by have:=(Row.bC g1 hj).1;omega)) (Row.base g2 (fun j hj=>by have:=(Row.bC g2 hj).1;omega)) (Row.base g3 (fun j hj=>by have:=(Row.bC g3 hj).1;omega)) (Wi.trans g4 (fun j hj e=>by rcases e with e|e<;>omega))
 have bx:∀ {u:World},Kept Nil w3 u->∃cs:Array Value,(.agg s.1:Value)=.agg cs/\cs.size=32/\Cells u ⟨w.heap.size,0,none⟩ cs:=fun ku=>⟨_,rfl,s.2.1,Cells.bC (ku.heap AG (fun h=>h))⟩;refine⟨s.1,⟨s.2.1,Cells.bC AG⟩,s.1,⟨s.2.1,Cells.bC AG⟩,?_,?_⟩
 ·refine jJ (h.same nM) (by omega) hs fun w4 k4=>⟨_,rfl,bx k4,?_⟩
  rw [ew,uP s];refine Is.mk rfl ?_;rw [EC];intro w5;have k5:Kept Nil w4 w5:=(Kept.refl _ _).alloc _;have P8:w5.heap[w4.heap.size]? =some (.cells zC bg (0,0)):=aJ w4 _;clear_value w5;have mP:=k4.tt k5;obtain⟨t1,t2,t3⟩:=dN P8 (cs:=cD ⟨s,G.score s+1,[],[]⟩ none 0 0 none 0 0) (by rw [aW];rfl);refine⟨bx mP,⟨aW ..,dI _ _ _ _ _ _ _,fun j hj=>t1 j (by rw [aW];exact hj)⟩,?_⟩;have s4:=k4.size;exact af.ly (go (mP.trans t3 (fun j hj e=>by omega)) s4 t2)
 ·intro w4
  have k4:Kept Nil w3 w4:=(Kept.refl _ _).alloc _;have Sc:w4.heap[w3.heap.size]? =some (.cells zC bg (0,0)):=aJ w3 _;clear_value w4;refine⟨bx k4,bx k4,?_⟩;refine jJ (h.same (nM.tt k4)) (by omega) hs fun w5 k5=>⟨_,rfl,bx (k4.tt k5),?_⟩;have mP:=k4.tt k5;rw [ew,uP s];refine Is.mk rfl ?_;rw [EC];obtain⟨t1,t2,t3⟩:=dN (k5.heap Sc (fun h=>h)) (cs:=cD ⟨s,G.score s+1,[],[]⟩ none 0 0 none 0 0) (by rw [aW];rfl);refine⟨⟨aW ..,dI _ _ _ _ _ _ _,fun j hj=>t1 j (by rw [aW];exact hj)⟩,?_⟩;exact af.ly (go (mP.trans t3 (fun j hj e=>by omega)) (Nat.le_refl _) t2)
end
theorem BX:xN prog sV bg 35 88:=⟨by kernel_rfl,by kernel_rfl⟩
theorem Q0:xN prog fi az 1 24:=⟨by kernel_rfl,by kernel_rfl⟩
section
variable{w w':World}{F F' S:Nat->Prop}{A:Option Addr}{n c B m bytes:Nat}{tS tE:TypeId}{news:List Value}
theorem x9{a:Addr}(P:Nat->Array Value->Prop):∀n,(∀i,i<n->∃arr:Array Value,arr.size=m/\(∀u∈arr.toList,u.oneCell'=true)/\Cells w (a.add (i*m)) arr/\P i arr)->
 ∃news:List Value,news.length=n*m/\(∀j u,news[j]? =some u->w.cell? (a.add j)=some u)/\(∀u∈news,u.oneCell'=true)/\∀i,i<n->∃arr:Array Value,P i arr/\arr.size=m/\∀(j:Nat) v,arr[j]? =some v->news[i*m+j]? =some v
 |0,_=>⟨[],by simp,fun j u h=>by simp at h,fun u h=>by simp at h,fun i h=>by omega⟩
 |n+1,H=>by
  obtain⟨news,h1,h2,h3,h4⟩:=x9 P n fun i hi=>H i (by omega);obtain⟨arr,g1,g2,g3,g4⟩:=H n (by omega);refine⟨news++arr.toList,by rw [List.length_append,h1,Array.length_toList,g1,Nat.add_mul,Nat.one_mul],fun j u hj=>?_,fun u hu=>?_,fun i hi=>?_⟩
  ·rw [List.getElem?_append]at hj
   split at hj
   ·exact h2 j u hj
   ·rename_i fU
    rw [h1]at hj fU;have:=g3 (j-n*m) u (by simpa using hj)
    rwa [ko,show n*m+(j-n*m)=j by omega]at this
  ·rcases List.mem_append.1 hu with hu|hu
   ·exact h3 u hu
   ·exact g2 u hu
  ·by_cases fz:i<n
   ·obtain⟨ar,q1,q2,q3⟩:=h4 i fz
    exact⟨ar,q1,q2,fun j v hj=>by
     have:=q3 j v hj;rw [List.getElem?_append_left (lgeS this).1];exact this⟩
   ·obtain rfl:i=n:=by omega
    exact⟨arr,g4,g1,fun j v hj=>by
     rw [List.getElem?_append_right (by omega),h1,show i*m+j-i*m=j by omega,Array.getElem?_toList];exact hj⟩
theorem xt(T:xN prog tS tE m bytes)(hb:bytes<=1000)(hn:n<=100000){a:Addr}{cx:Nat}(P:Nat->Array Value->Prop)(H:∀i,i<n->∃arr:Array Value,arr.size=m/\(∀u∈arr.toList,u.oneCell'=true)/\Cells w (a.add (i*m)) arr/\P i arr):
 ∃A' c' w' news,(Builtin.append_ #[tS,tS] tS #[.slice none 0 0,.slice (some a) n cx]).run prog w=.ok (.slice A' n c') w'/\Row w' w.heap.size tE m A' n c' news/\Kept Nil w w'/\∀i,i<n->∃arr:Array Value,P i arr/\arr.size=m/\∀(j:Nat) v,arr[j]? =some v->news[i*m+j]? =some v:=by
 obtain⟨news,e1,e2,e3,e4⟩:=x9 (w:=w) (m:=m) P n H;obtain⟨A',c',w',hr,eE,hg,_⟩:=eN (P:=prog) (ty:=tS) T (Row.nil w w.heap.size _ _) (a:=a) (m:=n) (cx:=cx) (news:=news) e1 e2 e3 (by rw [Nat.zero_add];have:=Nat.mul_le_mul hn hb;omega) (by unfold maxLen;omega) (Nat.le_refl _);rw [Nat.zero_add]at hr eE;rw [List.nil_append]at eE;exact⟨A',c',w',news,hr,eE,Kept.dF (Kept.refl _ _) hg (fun j hj=>by cases hj),e4⟩
theorem xq(T:xN prog tS tE m bytes)(hb:bytes<=1000)(hn:n<=100000)(h:Row w B tE m A n c news)(hB:B<=w.heap.size){b:Nat}{arr:Array Value}{t:TypeId}(jh:w.heap[b]? =some (.cells arr t (0,0)))(hs:arr.size=m)(h1:∀u∈arr.toList,u.oneCell'=true):
 ∃A' c' w',(Builtin.append_ #[tS,tS] tS #[.slice A n c,.slice (some ⟨b,0,none⟩) 1 1]).run prog w=.ok (.slice A' (n+1) c') w'/\Row w' B tE m A' (n+1) c' (news++arr.toList)/\w.grownBy w' (a8 A):=by
 obtain⟨A',c',w',hr,eE,hg,_⟩:=eN (P:=prog) (ty:=tS) T h (a:=⟨b,0,none⟩) (m:=1) (cx:=1) (news:=arr.toList) (by simpa using hs)
  (fun j u hj=>by rw [a7,Nat.zero_add,ay jh];simpa using hj) h1 (by have:=Nat.mul_le_mul (show n+1<=100001 by omega) hb;omega) (by unfold maxLen;omega) hB
 exact⟨A',c',w',hr,eE,hg⟩
def Ip(w:World)(F:Nat->Prop)(l:List nW)(i:Nat)(arr:Array Value):Prop:=∃x A1 n1 c1 B1 m1 d1,l[i]? =some x/\arr=cD x A1 n1 c1 B1 m1 d1/\HS w A1 n1 x.merge/\Bo w B1 m1 x.dJ/\(∀b,A1=some b->F b.block)/\(∀b,B1=some b->F b.block)
def PF(w:World)(F:Nat->Prop)(l:List (List HT))(i:Nat)(arr:Array Value):Prop:=∃x A1 n1 c1,l[i]? =some x/\arr= #[.slice A1 n1 c1]/\HS w A1 n1 x/\(∀b,A1=some b->F b.block)
theorem qe.x9{l:List nW}(h:qe w F A n l):(0<n->∃a,A=some a)/\∀a,A=some a->∀i,i<n->∃arr:Array Value,arr.size=35/\(∀u∈arr.toList,u.oneCell'=true)/\Cells w (a.add (i*35)) arr/\Ip w F l i arr:=by
 have hl:=h.len;refine⟨fun h0=>?_,fun a ha i hi=>?_⟩
 ·obtain⟨x,hx⟩:∃x,l[0]? =some x:=⟨_,List.getElem?_eq_getElem (by omega)⟩
  obtain⟨a,_,_,_,_,_,_,g1,_⟩:=h.at_ 0 x hx;exact⟨a,g1⟩
 ·obtain⟨x,hx⟩:∃x,l[i]? =some x:=⟨_,List.getElem?_eq_getElem (by omega)⟩
  obtain⟨a',A1,n1,c1,B1,m1,d1,g1,g2,g3,g4,g5,g6,g7,g8⟩:=h.at_ i x hx;rw [ha]at g1;cases g1;exact⟨_,aW ..,dI _ _ _ _ _ _ _,g4,x,A1,n1,c1,B1,m1,d1,hx,rfl,g5,g6,g7,g8⟩
theorem oV.x9{l:List (List HT)}(h:oV w F A n l):(0<n->∃a,A=some a)/\∀a,A=some a->∀i,i<n->∃arr:Array Value,arr.size=1/\(∀u∈arr.toList,u.oneCell'=true)/\Cells w (a.add (i*1)) arr/\PF w F l i arr:=by
 have hl:=h.len;refine⟨fun h0=>?_,fun a ha i hi=>?_⟩
 ·obtain⟨x,hx⟩:∃x,l[0]? =some x:=⟨_,List.getElem?_eq_getElem (by omega)⟩
  obtain⟨a,_,_,_,g1,_⟩:=h.at_ 0 x hx;exact⟨a,g1⟩
 ·obtain⟨x,hx⟩:∃x,l[i]? =some x:=⟨_,List.getElem?_eq_getElem (by omega)⟩
  obtain⟨a',A1,n1,c1,g1,g2,g3,g4,g5,g6⟩:=h.at_ i x hx;rw [ha]at g1;cases g1;refine⟨#[.slice A1 n1 c1],rfl,fun u hu=>?_,fun j u hj=>?_,x,A1,n1,c1,hx,rfl,g5,g6⟩
  ·simp at hu;subst hu;rfl
  ·cases j with
   |zero=>simp at hj;subst hj;rw [add_zero];exact g4
   |succ j=>simp at hj
theorem qe.snoc{l:List nW}{x:nW}{A1 B1:Option Addr}{n1 c1 m1 d1:Nat}{w0:World}(h:Row w B bg 35 A (n+1) c (news++(cD x A1 n1 c1 B1 m1 d1).toList))(xH:news.length=n*35)(hl:l.length=n)(k0:Kept Nil w0 w)(hF:∀j,a8 A=some j->F' j)(WO:∀j,F j->F' j)
 (hc:∀i,i<n->∃arr:Array Value,Ip w0 F l i arr/\arr.size=35/\∀(j:Nat) v,arr[j]? =some v->news[i*35+j]? =some v)
 (g1:HS w A1 n1 x.merge) (g2:Bo w B1 m1 x.dJ) (g3:∀b,A1=some b->F' b.block) (g4:∀b,B1=some b->F' b.block):qe w F' A (n+1) (l++ [x]):=by
 refine⟨by simp [hl],fun i y hi=>?_⟩;obtain⟨b,rfl⟩:=Row.some h (by omega);obtain⟨_,cur,oK⟩:=Row.bC h (k:=b) rfl;rw [List.getElem?_append]at hi;split at hi
 ·rename_i cy
  obtain⟨arr,⟨y',A2,n2,c2,B2,m2,d2,q1,rfl,q3,q4,q5,q6⟩,q7,q8⟩:=hc i (by omega);rw [hi]at q1;cases q1;exact⟨_,A2,n2,c2,B2,m2,d2,rfl,aS oK,hF b rfl,fun j v hj=>by
   rw [ko];have:=q8 j v hj;exact Row.cells h _ _ (by rw [List.getElem?_append_left (lgeS this).1];exact this),q3.same k0,q4.same k0,fun b hb=>WO _ (q5 b hb),fun b hb=>WO _ (q6 b hb)⟩
 ·rename_i fU
  have Eo:i=n/\y=x:=by
   cases hk:i-l.length with
   |zero=>rw [hk]at hi;exact⟨by omega,by simpa using hi.symm⟩
   |succ k=>rw [hk]at hi;simp at hi
  obtain⟨rfl,rfl⟩:=Eo;exact⟨_,A1,n1,c1,B1,m1,d1,rfl,aS oK,hF b rfl,fun j v hj=>by
   rw [ko];exact Row.cells h _ _ (by rw [List.getElem?_append_right (by omega),xH,show i*35+j-i*35=j by omega,Array.getElem?_toList];exact hj),g1,g2,g3,g4⟩
theorem oV.snoc{l:List (List HT)}{x:List HT}{A1:Option Addr}{n1 c1:Nat}{w0:World}(h:Row w B az 1 A (n+1) c (news++(#[.slice A1 n1 c1]:Array Value).toList))(xH:news.length=n*1)(hl:l.length=n)(k0:Kept Nil w0 w)(hF:∀j,a8 A=some j->F' j)(WO:∀j,F j->F' j)
 (hc:∀i,i<n->∃arr:Array Value,PF w0 F l i arr/\arr.size=1/\∀(j:Nat) v,arr[j]? =some v->news[i*1+j]? =some v)
 (g1:HS w A1 n1 x) (g3:∀b,A1=some b->F' b.block):oV w F' A (n+1) (l++ [x]):=by
 refine⟨by simp [hl],fun i y hi=>?_⟩;obtain⟨b,rfl⟩:=Row.some h (by omega);obtain⟨_,cur,oK⟩:=Row.bC h (k:=b) rfl;rw [List.getElem?_append]at hi;split at hi
 ·rename_i cy
  obtain⟨arr,⟨y',A2,n2,c2,q1,rfl,q3,q4⟩,q7,q8⟩:=hc i (by omega);rw [hi]at q1;cases q1;have:=q8 0 _ rfl;exact⟨_,A2,n2,c2,rfl,aS oK,hF b rfl,Row.cells h _ _ (by rw [Nat.add_zero]at this;rw [List.getElem?_append_left (lgeS this).1];exact this),q3.same k0,fun b hb=>WO _ (q4 b hb)⟩
 ·rename_i fU
  have Eo:i=n/\y=x:=by
   cases hk:i-l.length with
   |zero=>rw [hk]at hi;exact⟨by omega,by simpa using hi.symm⟩
   |succ k=>rw [hk]at hi;simp at hi
  obtain⟨rfl,rfl⟩:=Eo;exact⟨_,A1,n1,c1,rfl,aS oK,hF b rfl,Row.cells h _ _ (by rw [List.getElem?_append_right (by omega),xH,show i*1-i*1=0 by omega];rfl),g1,g3⟩
end
section
variable{w w':World}{F:Nat->Prop}{r x k:Nat}{G:GS}{K:Value->World->Prop}
theorem wO(root:HT)(k:Nat)(hK:∀v r x F,R3 v F r x k (cM root)->(∀j,F j->w.heap.size<=j)->w.heap.size<=r->w.heap.size<=x->Kept Nil w v->K (.pointer (some ⟨r,0,none⟩)) v):
 bj prog ju.id #[.int .i64 (k:Int),.agg root.1] w K:=by
 refine ju.of ?_;unfold ju.W;intro w1;have k1:Kept Nil w w1:=(Kept.refl _ _).alloc _;have xK:w1.heap[w.heap.size]? =some (.cells root.1 aj (0,0)):=aJ w _;clear_value w1;refine⟨root.1,⟨root.2.1,Cells.bC xK⟩,?_⟩;refine wQ root fun w2 x FX hX hFX hx k2=>⟨_,rfl,rfl,?_⟩;have mY:=k1.tt k2;intro w3 w4 w5;have k3:Kept Nil w2 w3:=(Kept.refl _ _).alloc _;have Uh:w3.heap[w2.heap.size]? =some (.cells zC bg (0,0)):=aJ w2 _;have k4:Kept Nil w3 w4:=(Kept.refl _ _).alloc _;have hw4:w4.heap[w3.heap.size]? =some (.cells #[.slice none 0 0] az (0,0)):=aJ w3 _;have k5:Kept Nil w4 w5:=(Kept.refl _ _).alloc _;have ht5:w5.heap[w4.heap.size]? =some (.cells #[.int .i64 (k:Int),.pointer (some ⟨x,0,none⟩),.slice (some ⟨w2.heap.size,0,none⟩) 1 1,.slice (some ⟨w3.heap.size,0,none⟩) 1 1] fZ (0,0)):=aJ w4 _;clear_value w5;have YH:=k5.heap hw4 (fun h=>h);have hc5:=k5.heap (k4.heap Uh (fun h=>h)) (fun h=>h);have Cu:=(k3.tt k4).tt k5;have s02:=mY.size;have l3:=aS Uh;have l4:=aS hw4;have l5:=aS ht5;have s1:=k1.size;have s2:=k2.size;have lx:=hX.lt;clear_value w4 w3;refine hK w5 w4.heap.size x (fun j=>FX j\/j=w2.heap.size\/j=w3.heap.size) ⟨⟨some ⟨w2.heap.size,0,none⟩,1,some ⟨w3.heap.size,0,none⟩,1,ht5,⟨rfl,fun i y hi=>?_⟩,⟨rfl,fun i y hi=>?_⟩⟩,(hX.same Cu).mono (fun j e=>.inl e) (fun e=>?_),fun e=>?_,by omega,jo k root,fun j e=>?_⟩ (fun j e=>?_) (by omega) (by omega) (mY.tt Cu)
 ·cases i with
  |zero=>
   have:y=⟨dU,0,[],[]⟩:=by simpa [cM]using hi.symm
   subst this;refine⟨_,none,0,0,none,0,0,rfl,by show w2.heap.size<_;omega,.inr (.inl rfl),fun j u hj=>?_,HS.nil _ _,⟨rfl,fun i b h=>by simp at h⟩,fun b hb=>(by cases hb),fun b hb=>(by cases hb)⟩;rw [Nat.zero_mul,add_zero,a7,Nat.zero_add,ay hc5];exact hj
  |succ i=>simp [cM]at hi
 ·cases i with
  |zero=>
   have:y= []:=by simpa [cM]using hi.symm
   subst this;refine⟨_,none,0,0,rfl,by show w3.heap.size<_;omega,.inr (.inr rfl),?_,HS.nil _ _,fun b hb=>(by cases hb)⟩;rw [Nat.zero_mul,add_zero,ay YH];rfl
  |succ i=>simp [cM]at hi
 ·rcases e with e|e|e
  ·exact hX.gL e
  ·omega
  ·omega
 ·rcases e with e|e|e
  ·have:=(hFX _ e).2;omega
  ·omega
  ·omega
 ·rcases e with e|e|e
  ·have:=(hFX _ e).2;omega
  ·omega
  ·omega
 ·rcases e with e|e|e
  ·have:=(hFX _ e).1;omega
  ·omega
  ·omega
end
section
variable{w w':World}{F:Nat->Prop}{r x k:Nat}{G:GS}{K:Value->World->Prop}{A:Option Addr}{n cx:Nat}{l:List HT}
set_option maxHeartbeats 2000000 in
theorem wP(h:R3 w F r x k G)(hD:G.D.length<=300)(nP:k<=1000)(hl:HS w A n l)(hn:n<=5000)(id:HT)
 (hE:c9 G.D id l≠0->∀w',Kept Nil w w'->K (.tuple #[.agg KF,.int .i64 (c9 G.D id l)]) w')
 (hO:c9 G.D id l=0->∀w' A n c B e ce,R3 w' (fun j=>F j\/(w.heap.size<=j/\j<w'.heap.size)) r x k (cO k G id l)->Kept (fun j=>j=r\/j=x) w w'->HS w' A n (cG k G (bR G l) l).merge->Bo w' B e (cG k G (bR G l) l).dJ->(∀a,A=some a\/B=some a->w.heap.size<=a.block)->K (.tuple #[.agg (cD (cG k G (bR G l) l) A n c B e ce),.int .i64 0]) w'):
 bj prog dr.id #[.pointer (some ⟨r,0,none⟩),.agg id.1,.slice A n cx] w K:=by
 have W0:=h.eM.W;have Wu:=h.lt;have LM:=h.lx;refine dr.of ?_;unfold dr.W;intro w1 w2;have k1:Kept Nil w w1:=(Kept.refl _ _).alloc _;have Kg:w1.heap[w.heap.size]? =some (.cells id.1 aj (0,0)):=aJ w _;have k2:Kept Nil w1 w2:=(Kept.refl _ _).alloc _;have iT:w2.heap[w1.heap.size]? =some (.cells zC bg (0,0)):=aJ w1 _;clear_value w2;have AT:=k2.heap Kg (fun h=>h);have mY:=k1.tt k2;have s1:=k1.size;have l1:=aS Kg;have l2:=aS iT;clear_value w1;have h2:=h.same mY;obtain⟨A0,c0,B0,e0,sl,g1,g2,g3,g4,g5⟩:=h2.X.ex;refine Is.mk rfl ⟨_,h2.c1,Is.mk rfl ⟨#[.slice A0 G.D.length c0],⟨rfl,fun j u hj=>?_⟩,?_⟩⟩
 ·cases j with
  |zero=>simp at hj;subst hj;rw [add_zero,add_zero,ay g1];rfl
  |succ j=>simp at hj
 intro w3;have k3:Kept Nil w2 w3:=(Kept.refl _ _).alloc _;have TW:w3.heap[w2.heap.size]? =some (.cells #[.slice none 0 0] gP (0,0)):=aJ w2 _;clear_value w3;obtain⟨t1,t2,t3⟩:=dN TW (cs:= #[.slice A0 G.D.length c0]) rfl;refine⟨⟨rfl,fun u hu=>by simp at hu;subst hu;rfl,fun j hj=>t1 j hj⟩,?_⟩;intro w4
 replace t2:w4.heap[w2.heap.size]? =some (.cells #[.slice A0 G.D.length c0] gP (0,0)):=t2
 replace t3:Kept (· =w2.heap.size) w3 w4:=t3
 clear_value w4;have pF:Kept Nil w2 w4:=k3.trans t3 (fun j hj e=>by omega);have qS:=mY.tt pF;have s2:=mY.size;refine⟨id.1,⟨id.2.1,Cells.bC (pF.heap AT (fun h=>h))⟩,?_⟩;have hIR:sW w4 F w2.heap.size G.D:=⟨⟨A0,c0,_,_,t2,rfl,g2.same pF⟩,fun e=>by have:=h.lo _ e;omega⟩;refine Cd hIR W0 (by omega) (hl.same qS) (by omega) fun w5 _ k5=>⟨_,rfl,?_⟩;have Cu:Kept Nil w2 w5:=pF.trans k5 (fun j hj e=>by omega);have sG:=mY.tt Cu;have sI:=Cu.heap iT (fun h=>h);have Kf:=Cu.heap AT (fun h=>h);by_cases hc:c9 G.D id l≠0
 ·obtain⟨f1,f2,f3⟩:=dN sI (cs:=zC) rfl
  refine Split.yes (by simpa using hc) ⟨⟨rfl,by show ∀u∈(KF:Array Value).toList,_;exact dI _ _ _ _ _ _ _,fun j hj=>f1 j hj⟩,?_⟩;exact⟨_,⟨rfl,Cells.bC f2⟩,hE hc _ (sG.trans f3 (fun j hj e=>by omega))⟩
 have hc:c9 G.D id l=0:=by omega
 refine Split.no (by rw [hc];rfl) ?_;obtain⟨_,fg,_,cR⟩:=jN hc;have fz:∀z∈l,z∈ids G.D:=fun z hz=>cR z (cZ.2 hz);refine sE (h.same sG) (by omega) (hl.same sG) fg (by omega) fz fun w6 k6=>⟨_,rfl,?_⟩;have Ea:=Cu.tt k6;have nx:=mY.tt Ea;generalize lY:bR G l=s;have CC:s∈l:=by rw [<-lY];exact fw fg
 intro w7;have k7:Kept Nil w6 w7:=(Kept.refl _ _).alloc _;have hb7:w7.heap[w6.heap.size]? =some (.cells dU.1 aj (0,0)):=aJ w6 _;clear_value w7;obtain⟨q1,q2,q3⟩:=jb s hb7 rfl;refine⟨q1,?_⟩;intro w8
 replace q2:w8.heap[w6.heap.size]? =some (.cells s.1 aj (0,0)):=q2
 replace q3:Kept (· =w6.heap.size) w7 w8:=q3
 clear_value w8;have Wg:Kept Nil w6 w8:=k7.trans q3 (fun j hj e=>by omega);have Gz:=Ea.tt Wg;have wh:=mY.tt Gz;have s06:=nx.size;have s08:=wh.size;have s28:=Gz.size;refine⟨s.1,⟨s.2.1,Cells.bC q2⟩,?_⟩;refine ve (h.same wh) hD nP (fz s CC) (hl.same wh) hn fz fun w9 Am nm cm E e ce Wd nw cw rm rb rw9 k9=>⟨_,Wd,nw,cw,rfl,?_⟩;have JD:=Gz.tt k9;have Ed:=mY.tt JD;have s09:=Ed.size;have s89:=k9.size;intro w10;have nK:Kept Nil w9 w10:=(Kept.refl _ _).alloc _;have aaC:w10.heap[w9.heap.size]? =some (.cells zC bg (0,0)):=aJ w9 _;clear_value w10;obtain⟨f1,f2,f3⟩:=dN aaC (cs:=cD (cG k G s l) Am nm cm E e ce) (by rw [aW];rfl);refine⟨⟨aW ..,dI _ _ _ _ _ _ _,fun j hj=>f1 j (by rw [aW];exact hj)⟩,?_⟩;intro vK lQ
 replace f2:vK.heap[w9.heap.size]? =some (.cells (cD (cG k G s l) Am nm cm E e ce) bg (0,0)):=f2
 replace f3:Kept (· =w9.heap.size) w10 vK:=f3
 have xD:Kept Nil vK lQ:=(Kept.refl _ _).drew;clear_value lQ;have Uj:=xD.heap f2 (fun h=>h);have M8:Kept Nil w9 lQ:=(nK.trans f3 (fun j hj e=>by omega)).tt xD;clear_value vK;have Nj:=JD.tt M8;have ru:=mY.tt Nj;have afD:=ru.size;have afZ:=aS Uj;have CW:=h.same ru;refine Is.mk rfl ⟨_,CW.c1,id.1,⟨id.2.1,Cells.bC (Nj.heap AT (fun h=>h))⟩,s.1,⟨s.2.1,Cells.bC ((k9.tt M8).heap q2 (fun h=>h))⟩,?_⟩;refine DI CW.X CW.lo (by omega) (hl.same ru) (by omega) fun lN UQ uW=>⟨_,rfl,?_⟩;have eX:mK G.D id s l=(cO k G id l).D/\mJ G.D G.P id s l=(cO k G id l).P:=by rw [<-lY];exact⟨Ii.symm,Ij.symm⟩
 rw [eX.1,eX.2]at UQ;intro gX;have Iz:Kept Nil lN gX:=(Kept.refl _ _).drew;clear_value gX;have yM:Kept (· =x) lQ gX:=uW.trans Iz (fun _ _ h=>h.elim);have Cy:Kept (· =x) w gX:=(ru.mono fun _ _ h=>h.elim).tt yM;have acD:=yM.size;have yR:=iL (k:=k) (G:=G) (h:=id) (ps:=l) hc;rw [lY]at yR;obtain⟨A1,c1,B1,e1,p1,p2,p3⟩:=h.top;have MS:=Cy.heap p1 h.ne;have MR:qe gX F A1 G.D.length G.qJ:=p2.aD Cy (fun j hj e=>h.X.gL (by rw [<-e];exact hj));have XK:oV gX F B1 G.D.length G.jD:=p3.aD Cy (fun j hj e=>h.X.gL (by rw [<-e];exact hj));have im:=W0.pos;obtain⟨⟨a1,Qv⟩,Lx⟩:=(⟨MR.x9.1 im,MR.x9.2⟩:(∃a,A1=some a)/\_);subst Qv;have OX:=yM.heap Uj (by omega);have Zd:=yM.heap (Nj.heap iT (fun h=>h)) (by omega);have bm:∀j,a8 Am=some j->w8.heap.size<=j/\j<w9.heap.size:=fun j hj=>by obtain⟨z1,cur,z2⟩:=Row.bC rm hj;exact⟨z1,aS z2⟩
 have bb:∀j,a8 E=some j->w8.heap.size<=j/\j<w9.heap.size:=fun j hj=>by obtain⟨z1,cur,z2⟩:=Row.bC rb hj;exact⟨z1,aS z2⟩
 have bw:∀j,a8 Wd=some j->w8.heap.size<=j/\j<w9.heap.size:=fun j hj=>by obtain⟨z1,cur,z2⟩:=Row.bC rw9 hj;exact⟨z1,aS z2⟩
 have Jv:Kept (· =x) w9 gX:=(M8.mono fun _ _ h=>h.elim).tt yM;have afk:=Jv.size;have Rn:HS gX Am nm (cG k G s l).merge:=(bQ.hs rm).aD Jv (fun a ha e=>by have:=bm a.block (by rw [ha];rfl);omega);have Vz:Bo gX E e (cG k G s l).dJ:=(Row.bo rb).aD Jv (fun a ha e=>by have:=bb a.block (by rw [ha];rfl);omega);have Xp:HS gX Wd nw (dv k G s l).wd:=(bQ.hs rw9).aD Jv (fun a ha e=>by have:=bw a.block (by rw [ha];rfl);omega);have bF:∀ {A:Option Addr} {b:Addr},(∀j,a8 A=some j->w8.heap.size<=j/\j<w9.heap.size)->A=some b->w.heap.size<=b.block/\b.block<gX.heap.size:=fun hA hb=>by
  have:=hA _ (by rw [hb];rfl);omega
 rw [lY]at hO;have tail:∀ {u:World} {Aa:Option Addr} {ca:Nat} {news:List Value},Row u gX.heap.size bg 35 Aa (G.D.length+1) ca (news++(cD (cG k G s l) Am nm cm E e ce).toList)->news.length=G.D.length*35->(∀i,i<G.D.length->∃arr:Array Value,Ip gX F G.qJ i arr/\arr.size=35/\∀(j:Nat) v,arr[j]? =some v->news[i*35+j]? =some v)->Kept Nil gX u->
  Wr u ((⟨r,0,none⟩:Addr).add 2)/\let a3:=u.setCell ((⟨r,0,none⟩:Addr).add 2) (.slice Aa (G.D.length+1) ca);Is (some (⟨r,0,none⟩:Addr)) fun b3:Addr=>∃c3:Option Addr,∃d3 e3:Nat,a3.cell? (b3.add 3)=some (.slice c3 d3 e3)/\∃(f3:Option Addr) (g3 i3:Nat) (j3:World),(Builtin.append_ #[fi,fi] fi #[.slice none 0 0,.slice c3 d3 e3]).run prog a3=.ok (.slice f3 g3 i3) j3/\let k3:=j3.alloc (.cells #[.slice Wd nw cw] az);∃(m3:Option Addr) (n3 o3:Nat) (p3:World),(Builtin.append_ #[fi,fi] fi #[.slice f3 g3 i3,.slice (some (⟨j3.heap.size,0,none⟩:Addr)) 1 1]).run prog k3=.ok (.slice m3 n3 o3) p3/\Is (some (⟨r,0,none⟩:Addr)) fun q3:Addr=>Wr p3 (q3.add 3)/\let r3:=p3.setCell (q3.add 3) (.slice m3 n3 o3);∃t3:Array Value,(t3.size=35/\Cells r3 (⟨w9.heap.size,0,none⟩:Addr) t3)/\(t3.size=35/\(∀u3∈t3.toList,u3.oneCell'=true)/\∀v3,v3<35->Wr r3 ((⟨w1.heap.size,0,none⟩:Addr).add v3))/\let x3:=setCells r3 (⟨w1.heap.size,0,none⟩:Addr) t3.toList 0;∃y3:Array Value,(y3.size=35/\Cells x3 (⟨w1.heap.size,0,none⟩:Addr) y3)/\K (.tuple #[.agg y3,.int .i64 0]) x3:=by
  intro u Aa ca news row xH ur ku;have pu:=ku.heap MS (fun h=>h);have su:=ku.size;refine⟨by rw [a7];exact dK pu (by simp),?_⟩;intro u1;have pu1:u1.heap[r]? =some (.cells #[.int .i64 (k:Int),.pointer (some ⟨x,0,none⟩),.slice Aa (G.D.length+1) ca,.slice B1 G.D.length e1] fZ (0,0)):=by
   show(u.setCell ((⟨r,0,none⟩:Addr).add 2) (.slice Aa (G.D.length+1) ca)).heap[r]? =_;rw [a7,cS pu];rfl
  have Cp:Kept (· =r) u u1:=by
   show Kept (· =r) u (u.setCell ((⟨r,0,none⟩:Addr).add 2) (.slice Aa (G.D.length+1) ca))
   rw [a7];exact Kept.setCell (S:=(· =r)) (Kept.refl _ u) (p:=⟨r,0+2,none⟩) (fun _=>rfl) _
  clear_value u1;have GI:Kept (· =r) gX u1:=(ku.mono fun _ _ h=>h.elim).tt Cp;have pw1:oV u1 F B1 G.D.length G.jD:=XK.aD GI (fun j hj e=>h.gL (by rw [<-e];exact hj));obtain⟨⟨b1,xK⟩,Sq⟩:=(⟨pw1.x9.1 im,pw1.x9.2⟩:(∃a,B1=some a)/\_);subst xK;obtain⟨Aw,c2,u2,nws,JR,fI,Ap,hcw⟩:=xt (w:=u1) Q0 (by omega) (by omega) (cx:=e1) (PF u1 F G.jD) (Sq b1 rfl);refine Is.mk rfl ⟨some b1,G.D.length,e1,by rw [a7,ay pu1];rfl,Aw,_,c2,u2,JR,?_⟩;intro u3;have yL:Kept Nil u2 u3:=(Kept.refl _ _).alloc _;have AB:u3.heap[u2.heap.size]? =some (.cells #[.slice Wd nw cw] az (0,0)):=aJ u2 _;clear_value u3;have su1:=Cp.size;have su2:=Ap.size;have Xx:=yL.size;obtain⟨VU,c3,u4,xG,jn,CQ⟩:=xq Q0 (by omega) (by omega) (Row.aD fI yL (fun _ _ h=>h)) (by omega) AB rfl (fun v hv=>by simp at hv;subst hv;rfl);have JF:Kept Nil u1 u4:=Kept.dF (Ap.tt yL) CQ (fun j hj=>(Row.bC fI hj).1);have pu4:=JF.heap pu1 (fun h=>h);refine⟨VU,_,c3,u4,xG,Is.mk rfl ⟨by rw [a7];exact dK pu4 (by simp),?_⟩⟩;intro u5;have pu5:u5.heap[r]? =some (.cells #[.int .i64 (k:Int),.pointer (some ⟨x,0,none⟩),.slice Aa (G.D.length+1) ca,.slice VU (G.D.length+1) c3] fZ (0,0)):=by
   show(u4.setCell ((⟨r,0,none⟩:Addr).add 3) (.slice VU (G.D.length+1) c3)).heap[r]? =_;rw [a7,cS pu4];rfl
  have D5:Kept (· =r) u4 u5:=by
   show Kept (· =r) u4 (u4.setCell ((⟨r,0,none⟩:Addr).add 3) (.slice VU (G.D.length+1) c3))
   rw [a7];exact Kept.setCell (S:=(· =r)) (Kept.refl _ u4) (p:=⟨r,0+3,none⟩) (fun _=>rfl) _
  clear_value u5;have RL:Kept (· =r) u1 u5:=(JF.mono fun _ _ h=>h.elim).tt D5;have Li:Kept (· =r) gX u5:=GI.tt RL;have hc5:=Li.heap OX (by omega);have sI:=Li.heap Zd (by omega);obtain⟨z1,z2,z3⟩:=dN sI (cs:=cD (cG k G s l) Am nm cm E e ce) (by rw [aW];rfl);refine⟨_,⟨aW ..,Cells.bC hc5⟩,⟨aW ..,dI _ _ _ _ _ _ _,fun j hj=>z1 j (by rw [aW];exact hj)⟩,?_⟩;intro u6
  replace z2:u6.heap[w1.heap.size]? =some (.cells (cD (cG k G s l) Am nm cm E e ce) bg (0,0)):=z2
  replace z3:Kept (· =w1.heap.size) u5 u6:=z3
  clear_value u6;refine⟨_,⟨aW ..,Cells.bC z2⟩,?_⟩;have kwr:∀j,j=r\/j=w1.heap.size->¬gX.heap.size<=j:=fun j hj e=>by rcases hj with hj|hj<;>omega
  have Wa:Kept (fun j=>j=r\/j=w1.heap.size) u u6:=((Cp.mono fun _ _ h=>.inl h).trans RL (fun _ _ h=>.inl h)).trans z3 (fun _ _ h=>.inr h);have Cw:Kept (fun j=>j=r\/j=w1.heap.size) gX u6:=(ku.mono fun _ _ h=>h.elim).tt Wa;have su6:=Cw.size;have s46:u4.heap.size<=u6.heap.size:=by have:=D5.size;have:=z3.size;omega
  have s26:u.heap.size<=u6.heap.size:=Wa.size;have Jm:∀j,F j->j<w.heap.size:=h.lo
  let F2:Nat->Prop:=fun j=>F j\/(w8.heap.size<=j/\j<w9.heap.size)\/(gX.heap.size<=j/\j<u6.heap.size)
  have Pk:∀j,F2 j->¬(j=r\/j=w1.heap.size):=fun j hj e=>by
   rcases hj with hj|hj|hj
   ·have:=Jm j hj
    rcases e with e|e
    ·exact h.gL (by rw [<-e];exact hj)
    ·omega
   ·omega
   ·omega
  have U6:∀j,F2 j->F j\/(w.heap.size<=j/\j<u6.heap.size):=fun j hj=>by
   rcases hj with hj|hj|hj
   ·exact .inl hj
   ·exact .inr ⟨by omega,by omega⟩
   ·exact .inr ⟨by omega,hj.2⟩
  refine hO hc u6 Am nm cm E e ce ⟨⟨Aa,ca,VU,c3,?_,?_,?_⟩,?_,fun hj=>?_,h.ne,h.eM.add id l,fun j hj=>?_⟩ ?_ (Rn.aD Cw (fun a ha e=>by have:=bm a.block (by rw [ha];rfl);rcases e with e|e<;>omega)) (Vz.aD Cw (fun a ha e=>by have:=bb a.block (by rw [ha];rfl);rcases e with e|e<;>omega)) (fun a ha=>ha.elim (fun ha=>(bF bm ha).1) (fun ha=>(bF bb ha).1))
  ·rw [yR]
   simp only [List.length_append,List.length_singleton];exact z3.heap pu5 (by omega)
  ·rw [yR]
   simp only [List.length_append,List.length_singleton];refine qe.mono (F:=F2) (qe.aD (S:=fun j=>j=r\/j=w1.heap.size) (w:=u) (qe.snoc row xH p2.len ku (fun j hj=>?_) (fun j hj=>.inl hj) ur (Rn.same ku) (Vz.same ku) (fun b hb=>.inr (.inl ?_)) (fun b hb=>.inr (.inl ?_))) Wa Pk) U6
   ·obtain⟨y1,cur,y2⟩:=Row.bC row hj
    have:=aS y2;exact .inr (.inr ⟨y1,by omega⟩)
   ·exact bm b.block (by rw [hb];rfl)
   ·exact bb b.block (by rw [hb];rfl)
  ·rw [yR]
   simp only [List.length_append,List.length_singleton];have Nb:Kept (fun j=>j=r\/j=w1.heap.size) u4 u6:=(D5.mono fun _ _ h=>.inl h).trans z3 (fun _ _ h=>.inr h);refine oV.mono (F:=F2) (oV.aD (S:=fun j=>j=r\/j=w1.heap.size) (w:=u4) (oV.snoc jn (Row.len fI) p3.len JF (fun j hj=>?_) (fun j hj=>.inl hj) hcw (Xp.aD (GI.trans JF (fun _ _ h=>h.elim)) (fun a ha e=>by have:=bw a.block (by rw [ha];rfl);omega)) (fun b hb=>.inr (.inl ?_))) Nb Pk) U6
   ·obtain⟨y1,cur,y2⟩:=Row.bC jn hj
    have:=aS y2;exact .inr (.inr ⟨by omega,by omega⟩)
   ·exact bw b.block (by rw [hb];rfl)
  ·refine((UQ.aD (Iz.tt ku) (fun h=>h) (fun _ _ h=>h)).aD Wa (fun e=>?_) (fun j hj e=>?_)).mono (fun j hj=>?_) (fun e=>?_)
   ·rcases e with e|e
    ·exact h.ne e.symm
    ·omega
   ·rcases hj with hj|hj
    ·have:=Jm j hj
     rcases e with e|e
     ·exact h.gL (by rw [<-e];exact hj)
     ·omega
    ·omega
   ·rcases hj with hj|hj
    ·exact .inl hj
    ·have:=uW.size
     have:=Iz.size;exact .inr ⟨by omega,by omega⟩
   ·rcases e with e|e
    ·exact h.X.gL e
    ·omega
  ·rcases hj with hj|hj
   ·exact h.gL hj
   ·omega
  ·rcases hj with hj|hj
   ·have:=Jm j hj
    omega
   ·exact hj.2
  ·exact(Cy.mono fun _ _ h=>.inr h).trans Cw (fun j hj e=>by
    rcases e with e|e
    ·exact .inl e
    ·omega)
 have Fb:(cD (cG k G s l) Am nm cm E e ce).toList++ []=(cD (cG k G s l) Am nm cm E e ce).toList:=List.append_nil _;refine Is.mk rfl ⟨some a1,G.D.length,c1,by rw [a7,ay MS];rfl,_,⟨aW ..,Cells.bC OX⟩,?_,?_⟩
 ·obtain⟨Aa,c2,u2,news,Qf,fI,Ap,ur⟩:=xt (w:=gX) BX (by omega) (by omega) (cx:=c1) (Ip gX F G.qJ) (Lx a1 rfl)
  refine⟨Aa,_,c2,u2,Qf,⟨_,rfl,aW ..,Cells.bC (Ap.heap OX (fun h=>h))⟩,aW ..,?_⟩;intro u3;have yL:Kept Nil u2 u3:=(Kept.refl _ _).alloc _;have AB:u3.heap[u2.heap.size]? =some (.cells (cD (cG k G s l) Am nm cm E e ce) bg (0,0)):=by
   have:=aJ u2 (.cells (cD (cG k G s l) Am nm cm E e ce) bg);show(u2.alloc (.cells ((cD (cG k G s l) Am nm cm E e ce).toList++ []).toArray bg)).heap[u2.heap.size]? =_;rw [Fb,Array.toArray_toList];exact this
  clear_value u3;have su2:=Ap.size;have Xx:=yL.size;obtain⟨Ab,c3,u4,xG,jn,CQ⟩:=xq BX (by omega) (by omega) (Row.aD fI yL (fun _ _ h=>h)) (by omega) AB (aW ..) (dI _ _ _ _ _ _ _);have ku:Kept Nil gX u4:=Kept.dF (Ap.tt yL) CQ (fun j hj=>(Row.bC fI hj).1);refine⟨Ab,_,c3,u4,xG,Is.mk rfl ?_⟩;exact tail jn (Row.len fI) ur ku
 ·refine⟨aW ..,?_⟩
  intro u3;have yL:Kept Nil gX u3:=(Kept.refl _ _).alloc _;have AB:u3.heap[gX.heap.size]? =some (.cells (cD (cG k G s l) Am nm cm E e ce) bg (0,0)):=by
   have:=aJ gX (.cells (cD (cG k G s l) Am nm cm E e ce) bg);show(gX.alloc (.cells ((cD (cG k G s l) Am nm cm E e ce).toList++ []).toArray bg)).heap[gX.heap.size]? =_;rw [Fb,Array.toArray_toList];exact this
  clear_value u3;have Xx:=yL.size;refine⟨by rw [a7,ay (yL.heap MS (fun h=>h))];rfl,?_⟩;have p23:=MR.aD yL (fun _ _ h=>h);obtain⟨Aa,c2,u2,news,Qf,fI,Ap,ur⟩:=xt (w:=u3) (n:=G.D.length) (a:=a1) BX (by omega) (by omega) (cx:=c1) (Ip gX F G.qJ) (fun i hi=>by
   obtain⟨arr,y1,y2,y3,y4⟩:=Lx a1 rfl i hi;exact⟨arr,y1,y2,Cells.aD y3 yL (fun h=>h),y4⟩)
  have su2:=Ap.size;have Lp:=Ap.heap AB (fun h=>h);obtain⟨Ab,c3,u4,xG,jn,CQ⟩:=xq BX (by omega) (by omega) (Row.base fI (B':=gX.heap.size) (fun j hj=>by have:=(Row.bC fI hj).1;omega)) (by omega) Lp (aW ..) (dI _ _ _ _ _ _ _);have ku:Kept Nil gX u4:=Kept.dF (yL.tt Ap) CQ (fun j hj=>by have:=(Row.bC fI hj).1;omega);refine⟨Aa,_,c2,u2,Qf,Ab,_,c3,u4,xG,Is.mk rfl ?_⟩;exact tail jn (Row.len fI) ur ku
end
end Go.Proofs.YtnboahlopghcjaaGreatDoor
