import Derived.Test.YtfleamccglihoaaGreatDoorMT
import Derived.Test.YtfleamccglihoaaGreatDoorMN
open Go.IntKind (i64 u64)
set_option linter.unusedVariables false
namespace Go.Proofs.YtfleamccglihoaaGreatDoor
open Go.Proofs.Tryz
open Go Go.b0 Go.RowKit
structure rL(w:World)(F:Nat->Prop)(A:Option Addr)(n:Nat)(l:List pB):Prop where
 len:l.length=n
 at_:∀(i:Nat) x,l[i]? =some x->∃a A1 n1 c1 B1 m1 d1,A=some a/\a.block<w.heap.size/\F a.block/\Cells w (a.add (i*35)) (dp x A1 n1 c1 B1 m1 d1)/\HS w A1 n1 x.merge/\Bo w B1 m1 x.gu/\(∀b,A1=some b->F b.block)/\(∀b,B1=some b->F b.block)
structure qo(w:World)(F:Nat->Prop)(A:Option Addr)(n:Nat)(l:List (List HT)):Prop where
 len:l.length=n
 at_:∀(i:Nat) x,l[i]? =some x->∃a A1 n1 c1,A=some a/\a.block<w.heap.size/\F a.block/\w.cell? (a.add (i*1))=some (.slice A1 n1 c1)/\HS w A1 n1 x/\(∀b,A1=some b->F b.block)
section
variable{w w':World}{F F' S:Nat->Prop}{A:Option Addr}{n:Nat}
theorem rL.aK{l:List pB}(h:rL w F A n l)(hk:Kept S w w')(hn:∀j,F j->¬S j):rL w' F A n l:=⟨h.len,fun i x hi=>by
 obtain⟨a,A1,n1,c1,B1,m1,d1,g1,g2,g3,g4,g5,g6,g7,g8⟩:=h.at_ i x hi;exact⟨a,A1,n1,c1,B1,m1,d1,g1,Nat.lt_of_lt_of_le g2 hk.size,g3,Cells.aK g4 hk (by rw [fw];exact hn _ g3),g5.aK hk (fun b hb=>hn _ (g7 b hb)),g6.aK hk (fun b hb=>hn _ (g8 b hb)),g7,g8⟩⟩
theorem rL.mono{l:List pB}(h:rL w F A n l)(hf:∀j,F j->F' j):rL w F' A n l:=⟨h.len,fun i x hi=>by
 obtain⟨a,A1,n1,c1,B1,m1,d1,g1,g2,g3,g4,g5,g6,g7,g8⟩:=h.at_ i x hi;exact⟨a,A1,n1,c1,B1,m1,d1,g1,g2,hf _ g3,g4,g5,g6,fun b hb=>hf _ (g7 b hb),fun b hb=>hf _ (g8 b hb)⟩⟩
theorem qo.aK{l:List (List HT)}(h:qo w F A n l)(hk:Kept S w w')(hn:∀j,F j->¬S j):qo w' F A n l:=⟨h.len,fun i x hi=>by
 obtain⟨a,A1,n1,c1,g1,g2,g3,g4,g5,g6⟩:=h.at_ i x hi;exact⟨a,A1,n1,c1,g1,Nat.lt_of_lt_of_le g2 hk.size,g3,hk.cell g4 (by rw [fw];exact hn _ g3),g5.aK hk (fun b hb=>hn _ (g6 b hb)),g6⟩⟩
theorem qo.mono{l:List (List HT)}(h:qo w F A n l)(hf:∀j,F j->F' j):qo w F' A n l:=⟨h.len,fun i x hi=>by
 obtain⟨a,A1,n1,c1,g1,g2,g3,g4,g5,g6⟩:=h.at_ i x hi;exact⟨a,A1,n1,c1,g1,g2,hf _ g3,g4,g5,fun b hb=>hf _ (g6 b hb)⟩⟩
end
structure R3(w:World)(F:Nat->Prop)(r x k:Nat)(G:GS):Prop where
 top:∃A c B e,w.heap[r]? =some (.cells #[.int .i64 (k:Int),.pointer (some ⟨x,0,none⟩),.slice A G.D.length c,.slice B G.D.length e] iF (0,0))/\rL w F A G.D.length G.sN/\qo w F B G.D.length G.la
 X:qp w F x G.D G.P
 iX:¬F r
 ne:r≠x
 iC:lG k G
 lo:∀j,F j->j<w.heap.size
section
variable{w w':World}{F F' S:Nat->Prop}{r x k:Nat}{G:GS}{K:Value->World->Prop}
theorem R3.aK(h:R3 w F r x k G)(hk:Kept S w w')(hr:¬S r)(hx:¬S x)(hF:∀j,F j->¬S j):R3 w' F r x k G:=by
 obtain⟨A,c,B,e,g1,g2,g3⟩:=h.top;exact⟨⟨A,c,B,e,hk.heap g1 hr,g2.aK hk hF,g3.aK hk hF⟩,h.X.aK hk hx hF,h.iX,h.ne,h.iC,fun j e=>Nat.lt_of_lt_of_le (h.lo j e) hk.size⟩
theorem R3.same(h:R3 w F r x k G)(hk:Kept Nil w w'):R3 w' F r x k G:=h.aK hk (fun h=>h) (fun h=>h) (fun _ _ h=>h)
theorem R3.lt(h:R3 w F r x k G):r<w.heap.size:=by obtain⟨_,_,_,_,g,_⟩:=h.top;exact bf g
theorem R3.lx(h:R3 w F r x k G):x<w.heap.size:=h.X.lt
theorem R3.c0(h:R3 w F r x k G):w.cell? ((⟨r,0,none⟩:Addr).add 0)=some (.int .i64 (k:Int)):=by obtain⟨_,_,_,_,g,_⟩:=h.top;rw [bE,aE g];rfl
theorem R3.c1(h:R3 w F r x k G):w.cell? ((⟨r,0,none⟩:Addr).add 1)=some (.pointer (some ⟨x,0,none⟩)):=by obtain⟨_,_,_,_,g,_⟩:=h.top;rw [bE,aE g];rfl
theorem Ol(h:lG k G){y:HT}(hy:y∈ids G.D):∃(i:Nat) (nd:DN) (c:pB) (l:List HT),G.D[i]? =some nd/\nd.id=y/\G.sN[i]? =some c/\G.la[i]? =some l/\Hg G.D y=(i:Int)/\G.kr y=c/\G.world y=l/\i<G.D.length:=by
 obtain⟨nd,gQ,rfl⟩:=eI.1 hy;obtain⟨i,hi⟩:=List.mem_iff_getElem?.1 gQ;have dX:=(lgeS hi).1;obtain⟨c,hc⟩:∃c,G.sN[i]? =some c:=⟨_,List.getElem?_eq_getElem (by rw [h.lc];exact dX)⟩;obtain⟨l,hl⟩:∃l,G.la[i]? =some l:=⟨_,List.getElem?_eq_getElem (by rw [h.lw];exact dX)⟩;exact⟨i,nd,c,l,hi,rfl,hc,hl,Re h.W hi,GS.Q9 h.W hi hc,GS.Hm h.W hi hl,dX⟩
theorem lr(h:R3 w F r x k G)(hD:G.D.length<=5000){a:HT}(ha:a∈ids G.D)(hK:∀w',Kept Nil w w'->K (.int .u64 (G.score a:Int)) w'):
 bG prog dM.id #[.pointer (some ⟨r,0,none⟩),.agg a.1] w K:=by
 refine dM.of ?_;unfold dM.W;intro w4 w5;have k4:Kept Nil w w4:=(Kept.refl _ _).alloc _;have Db:w4.heap[w.heap.size]? =some (.cells a.1 al (0,0)):=aM w _;have k5:Kept Nil w4 w5:=(Kept.refl _ _).drew;clear_value w5;have L6:=k5.heap Db (fun h=>h);have nC:=k4.tt k5;have h5:=h.same nC;obtain⟨A,c,B,e,g1,g2,g3⟩:=h5.top;refine Is.mk rfl ⟨A,_,c,by rw [bE,aE g1];rfl,Is.mk rfl ⟨_,h5.c1,Is.mk rfl ⟨a.1,⟨a.2.1,Cells.bV L6⟩,?_⟩⟩⟩;rw [add_zero];refine oL h5.X.gr (by omega) a fun w6 k6=>⟨_,rfl,?_⟩;have g16:=k6.heap g1 (fun h=>h);obtain⟨i,nd,cl,l,q1,q2,q3,q4,q5,q6,q7,q8⟩:=Ol h.iC ha;rw [q5];obtain⟨aa,A1,n1,c1,B1,m1,d1,p1,p2,p3,p4,_⟩:=(g2.aK k6 (fun _ _ h=>h)).at_ i cl q3;subst p1;refine⟨by rw [bE,aE g16];rfl,⟨by omega,by omega⟩,Is.mk rfl ⟨((G.score a:Nat):Int),?_,?_⟩⟩
 ·have:=gU cl A1 n1 c1 B1 m1 d1 #[]
  rw [Array.append_empty]at this;have WS:=p4 32 _ this.1;rw [Int.toNat_natCast,WS];unfold GS.score;rw [q6]
 ·exact hK w6 (nC.tt k6)
theorem zZ(h:lG k G){a:HT}(ha:a∈ids G.D):G.score a<=G.D.length:=by
 rw [(h.wd a ha).2.2];exact sW h ha
theorem qR(h:R3 w F r x k G)(hD:G.D.length<=5000){a b:HT}(ha:a∈ids G.D)(hb:b∈ids G.D)(hK:∀w',Kept Nil w w'->K (.bool (gl G a b)) w'):
 bG prog eh.id #[.pointer (some ⟨r,0,none⟩),.agg a.1,.agg b.1] w K:=by
 refine eh.of ?_;unfold eh.W;intro w4 w5 w6;have k4:Kept Nil w w4:=(Kept.refl _ _).alloc _;have Db:w4.heap[w.heap.size]? =some (.cells a.1 al (0,0)):=aM w _;have k5:Kept Nil w4 w5:=(Kept.refl _ _).alloc _;have pF:w5.heap[w4.heap.size]? =some (.cells b.1 al (0,0)):=aM w4 _;have k6:Kept Nil w5 w6:=(Kept.refl _ _).drew;clear_value w6;have xm:=k6.heap (k5.heap Db (fun h=>h)) (fun h=>h);have p7:=k6.heap pF (fun h=>h);have np:=(k4.tt k5).tt k6;refine⟨a.1,⟨a.2.1,Cells.bV xm⟩,b.1,⟨b.2.1,Cells.bV p7⟩,?_⟩;refine lr (h.same np) hD ha fun w7 k7=>⟨_,rfl,⟨_,rfl,b.2.1,Cells.bV (k7.heap p7 (fun h=>h))⟩,?_⟩;have tu:=np.tt k7;refine lr (h.same tu) hD hb fun w8 k8=>⟨_,rfl,?_⟩;have zx:=tu.tt k8;have XQ:=k7.tt k8;by_cases he:G.score a=G.score b
 ·refine Split.no (by rw [he];simp) ⟨a.1,⟨a.2.1,Cells.bV (XQ.heap xm (fun h=>h))⟩,b.1,⟨b.2.1,Cells.bV (XQ.heap p7 (fun h=>h))⟩,?_⟩
  refine tU a b fun w9 k9=>⟨_,rfl,?_⟩;have e:decide (lX a b<0)=gl G a b:=by
   rw [Bool.eq_iff_iff,decide_eq_true_eq,sO];unfold gl;rw [decide_eq_false (by omega),decide_eq_true he];simp
  rw [e];exact hK w9 (zx.tt k9)
 ·refine Split.yes (by simp only [bne_iff_ne,ne_eq];omega) ?_
  have e:decide ((G.score a:Int)<(G.score b:Int))=gl G a b:=by
   unfold gl;rw [decide_eq_false he];simp
  rw [e];exact hK w8 zx
theorem KH(h:R3 w F r x k G)(hD:G.D.length<=5000){A:Option Addr}{n cx:Nat}{l:List HT}(hl:HS w A n l)(hn:n<=400000)(hK:∀w',Kept Nil w w'->K (.int .i64 (lE G.D l)) w'):
 bG prog bH.id #[.pointer (some ⟨r,0,none⟩),.slice A n cx] w K:=by
 have hlen:=hl.len;refine bH.of ?_;unfold bH.W;by_cases h0:n=0
 ·subst h0
  have e:l= []:=List.eq_nil_of_length_eq_zero hlen;refine Split.yes rfl ?_;have:=hK w (Kept.refl _ _);unfold lE at this;rw [if_pos e]at this;exact this
 have fX:l≠ []:=fun e=>by subst e;exact h0 hlen.symm
 refine Split.no (by simpa using (by omega:¬(n:Int)=0)) ?_;refine bH.cJ (I:=fun s v=>∃i:Nat,s=(0,(i:Int))/\i<=n/\(∀p∈l.take i,p∈ids G.D)/\Kept Nil w v) (μ:=fun s _=>((n:Int)-s.2).toNat) (s:=(0,0)) ⟨0,rfl,Nat.zero_le _,by simp,Kept.refl _ _⟩ ?_;rintro s v ⟨i,rfl,hi,cY,kv⟩;unfold bH.B1;refine Split.dec (fun di=>?_) (fun gH=>?_)
 ·simp only at di
  have dX:i<n:=by omega
  obtain⟨y,hy⟩:∃y,l[i]? =some y:=⟨_,List.getElem?_eq_getElem (by omega)⟩;intro w3;have k3:Kept Nil v w3:=(Kept.refl _ _).drew;clear_value w3;have sr:=kv.tt k3;have h3:=h.same sr;refine Is.mk rfl ⟨_,h3.c1,Is.mk rfl ((hl.same sr).load (i:=(i:Int)) (by omega) hy ?_)⟩;rw [add_zero];refine oL h3.X.gr (by omega) y fun w4 k4=>⟨_,rfl,?_⟩;have qL:=sr.tt k4;refine Split.dec (fun Ba=>?_) (fun jT=>?_)
  ·rw [iS]
   have:=hK w4 qL;unfold lE at this;rw [if_neg fX,if_pos ⟨y,List.mem_of_getElem? hy,qG.1 Ba⟩]at this;exact this
  ·simp only
   rw [dF (n:=(i:Int)) (by omega) (by omega)];refine⟨(0,(i:Int)+1),rfl,⟨i+1,rfl,dX,fun p hp=>?_,qL⟩,by simp only;omega⟩;rcases(bP hy).1 hp with hp|rfl
   ·exact cY p hp
   ·exact Classical.byContradiction fun e=>jT (qG.2 e)
 ·simp only at gH
  rw [aU,bH.dz];rw [List.take_of_length_le (by omega)]at cY;have:=hK v kv;unfold lE at this;rw [if_neg fX,if_neg (fun⟨p,hp,hn⟩=>hn (cY p hp))]at this;exact this
theorem oZ(h:R3 w F r x k G)(hD:G.D.length<=5000){A:Option Addr}{n cx:Nat}{l:List HT}(hl:HS w A n l)(h0:l≠ [])(hn:n<=400000)(gD:∀y∈l,y∈ids G.D)(hK:∀w',Kept Nil w w'->K (.agg (bS G l).1) w'):
 bG prog bp.id #[.pointer (some ⟨r,0,none⟩),.slice A n cx] w K:=by
 have hlen:=hl.len;obtain⟨x0,t,rfl⟩:∃x0 t,l=x0::t:=by cases l with|nil=>exact absurd rfl h0|cons a b=>exact⟨a,b,rfl⟩
 refine bp.of ?_;unfold bp.W;intro w1;have k1:Kept Nil w w1:=(Kept.refl _ _).alloc _;have nE:w1.heap[w.heap.size]? =some (.cells fH.1 al (0,0)):=aM w _;clear_value w1;simp only [List.length_cons]at hlen;refine(hl.same k1).load (i:=0) (by omega) rfl ?_;intro w2;have k2:Kept Nil w1 w2:=(Kept.refl _ _).alloc _;have nH:w2.heap[w1.heap.size]? =some (.cells fH.1 al (0,0)):=aM w1 _;clear_value w2;have jY:=k2.heap nE (fun h=>h);have l1:=bf nE;have l2:=bf nH;obtain⟨t1,t2,t3⟩:=jf x0 nH rfl;refine⟨t1,?_⟩;intro w3
 replace t2:w3.heap[w1.heap.size]? =some (.cells x0.1 al (0,0)):=t2
 replace t3:Kept (· =w1.heap.size) w2 w3:=t3
 clear_value w3;have s1:=k1.size;have jF:Kept Nil w w3:=(k1.tt k2).trans t3 (fun j hj e=>by omega);have yY:=t3.heap jY (by omega);refine bp.cJ (I:=fun s v=>∃(i:Nat) (b:HT),s=(i:Int)/\1<=i/\i<=n/\b∈ids G.D/\((x0::t).drop i).foldl (fun b y=>if gl G b y then y else b) b=bS G (x0::t)/\v.heap[w1.heap.size]? =some (.cells b.1 al (0,0))/\v.heap[w.heap.size]? =some (.cells fH.1 al (0,0))/\Kept Nil w v) (μ:=fun s _=>((n:Int)-s).toNat) (s:=1) ⟨1,x0,rfl,Nat.le_refl _,by omega,gD _ List.mem_cons_self,rfl,t2,yY,jF⟩ ?_;rintro s v ⟨i,b,rfl,LJ,xi,hb,he,C8,Uf,kv⟩;unfold bp.B1;refine Split.dec (fun di=>?_) (fun gH=>?_)
 ·have dX:i<n:=by omega
  obtain⟨y,hy⟩:∃y,(x0::t)[i]? =some y:=⟨_,List.getElem?_eq_getElem (by simp;omega)⟩;have M6:y∈ids G.D:=gD _ (List.mem_of_getElem? hy);have hd:(x0::t).drop i=y::(x0::t).drop (i+1):=by
   obtain⟨q1,q2⟩:=lgeS hy;rw [List.drop_eq_getElem_cons q1,q2]
  rw [hd,List.foldl_cons]at he;intro w4;have k4:Kept Nil v w4:=(Kept.refl _ _).drew;clear_value w4;have qL:=kv.tt k4;have PH:(x0::t)[((i:Nat):Int).toNat]? =some y:=by rw [Int.toNat_natCast];exact hy
  refine⟨b.1,⟨b.2.1,Cells.bV (k4.heap C8 (fun h=>h))⟩,(hl.same qL).load (i:=(i:Int)) (by omega) PH ?_⟩;refine qR (h.same qL) hD hb M6 fun w5 k5=>⟨_,rfl,?_⟩;have xY:=qL.tt k5;have pF:=k5.heap (k4.heap C8 (fun h=>h)) (fun h=>h);have sC:=k5.heap (k4.heap Uf (fun h=>h)) (fun h=>h);rw [dF (n:=(i:Int)) (by omega) (by omega)];refine Split.mk (fun yh=>?_) (fun hle=>?_)
  ·rw [if_pos yh]at he
   refine(hl.same xY).load (i:=(i:Int)) (by omega) PH ?_;obtain⟨f1,f2,f3⟩:=jf y pF b.2.1;refine⟨f1,?_⟩;exact⟨(i:Int)+1,rfl,⟨i+1,y,rfl,by omega,by omega,M6,he,f2,f3.heap sC (by omega),xY.trans f3 (fun j hj e=>by omega)⟩,by simp only;omega⟩
  ·rw [if_neg (by rw [hle];decide)]at he
   exact⟨(i:Int)+1,rfl,⟨i+1,b,rfl,by omega,by omega,hb,he,pF,sC,xY⟩,by simp only;omega⟩
 ·rw [aU,bp.dz]
  rw [List.drop_eq_nil_of_le (by simp;omega)]at he
  replace he:b=bS G (x0::t):=he
  subst he;refine⟨_,⟨tD _,Cells.bV C8⟩,?_⟩;obtain⟨f1,f2,f3⟩:=jf (bS G (x0::t)) Uf rfl;exact⟨f1,_,⟨tD _,Cells.bV f2⟩,hK _ (kv.trans f3 (fun j hj e=>by omega))⟩
theorem pP(h:R3 w F r x k G)(hD:G.D.length<=5000){A:Option Addr}{n cx:Nat}{l:List HT}(hl:HS w A n l)(hn:n<=100000)(y:HT)(hK:∀A' c' w',cf w' w.heap.size A' (cr G.D l y).length c' (cr G.D l y)->Kept Nil w w'->K (.slice A' (cr G.D l y).length c') w'):
 bG prog bu.id #[.pointer (some ⟨r,0,none⟩),.slice A n cx,.agg y.1] w K:=by
 have hlen:=hl.len;refine bu.of ?_;unfold bu.W;intro w1;have k1:Kept Nil w w1:=(Kept.refl _ _).alloc _;have Lh:w1.heap[w.heap.size]? =some (.cells y.1 al (0,0)):=aM w _;clear_value w1;refine bu.cJ (I:=fun s v=>∃(i:Nat) (B:Option Addr) (c:Nat),s=(B,(cr G.D (l.take i) y).length,c,(i:Int))/\i<=n/\cf v w1.heap.size B (cr G.D (l.take i) y).length c (cr G.D (l.take i) y)/\Kept Nil w1 v) (μ:=fun s _=>((n:Int)-s.2.2.2).toNat) (s:=(none,0,0,0)) ⟨0,none,0,rfl,Nat.zero_le _,cf.nil _ _,Kept.refl _ _⟩ ?_;rintro s v ⟨i,B,c,rfl,hi,row,kv⟩;unfold bu.B1;have tq:=k1.tt kv;refine Split.dec (fun di=>?_) (fun gH=>?_)
 ·simp only at di
  have dX:i<n:=by omega
  obtain⟨z,hz⟩:∃z,l[i]? =some z:=⟨_,List.getElem?_eq_getElem (by omega)⟩;have rQ:(cr G.D (l.take i) y).length<=100000:=by
   have:=List.length_filter_le (fun b=>decide (oC G.D b y)) (l.take i);have h2:=List.length_take_le i l;unfold cr;omega
  intro w3;have k3:Kept Nil v w3:=(Kept.refl _ _).drew;clear_value w3;have sr:=kv.tt k3;have jF:=k1.tt sr;have h3:=h.same jF;have zy:l[((i:Nat):Int).toNat]? =some z:=by rw [Int.toNat_natCast];exact hz
  refine Is.mk rfl ⟨_,h3.c1,Is.mk rfl ((hl.same jF).load (i:=(i:Int)) (by omega) zy ⟨y.1,⟨y.2.1,Cells.bV (sr.heap Lh (fun h=>h))⟩,?_⟩)⟩;rw [add_zero];refine FI h3.X.gr h.iC.W (by omega) z y fun w4 b hb k4=>⟨b,rfl,?_⟩
  replace hb:b=true↔oC G.D z y:=hb
  have qL:=sr.tt k4;have mh:=k1.tt qL;have jX:=Row.aK row (k3.tt k4) (fun _ _ h=>h);have GF:cr G.D (l.take (i+1)) y=cr G.D (l.take i) y++if oC G.D z y then [z]else []:=by
   rw [List.take_add_one,hz,gz]
   congr 1
   unfold cr;by_cases hp:oC G.D z y
   ·rw [if_pos hp];simp [hp]
   ·rw [if_neg hp];simp [hp]
  cases b with
  |true=>
   rw [if_pos (hb.1 rfl)]at GF;refine Split.yes rfl ((hl.same mh).load (i:=(i:Int)) (by omega) zy ⟨z.2.1,?_⟩);intro w5;have k5:Kept Nil w4 w5:=(Kept.refl _ _).alloc _;have RL:=jE w4 z;have s5:=(qL.tt k5).size;obtain⟨A',c',w6,hr,yG,hg,_⟩:=dd (cx:=1) aF (Row.aK jX k5 (fun _ _ h=>h)) RL (by omega) s5;refine⟨A',_,c',w6,hr,?_⟩;rw [dF (n:=(i:Int)) (by omega) (by omega)];have e:(cr G.D (l.take (i+1)) y).length=(cr G.D (l.take i) y).length+1:=by rw [GF];simp
   refine⟨(A',(cr G.D (l.take i) y).length+1,c',(i:Int)+1),rfl,⟨i+1,A',c',by rw [e];rfl,dX,by rw [e,GF];exact yG,?_⟩,by simp only;omega⟩;exact Kept.dY (qL.tt k5) hg (fun j hj=>(Row.bV row hj).1)
  |false=>
   rw [if_neg (fun e=>by have:=hb.2 e;cases this),List.append_nil]at GF;refine Split.no rfl ?_;simp only;rw [dF (n:=(i:Int)) (by omega) (by omega)];exact⟨(B,(cr G.D (l.take i) y).length,c,(i:Int)+1),rfl,⟨i+1,B,c,by rw [GF];rfl,dX,by rw [GF];exact jX,qL⟩,by simp only;omega⟩
 ·simp only at gH
  rw [aU,bu.dz];rw [List.take_of_length_le (by omega)]at row;have e:i=n:=by omega
  subst e;rw [List.take_of_length_le (by omega)];exact hK B c v (Row.base row (fun j hj=>by have:=(Row.bV row hj).1;have:=k1.size;omega)) tq
end
structure VJ(v:World)(B0 xb rb:Nat)(x:pB)(A:Option Addr)(n cp:Nat)(E:Option Addr)(e ce:Nat)(W:Option Addr)(nw cw:Nat)(wd:List HT):Prop where
 top:v.heap[xb]? =some (.cells (dp x A n cp E e ce) bL (0,0))
 mg:cf v B0 A n cp x.merge
 bl:Row v B0 jv 1 E e ce (tH x.gu)
 wr:cf v B0 W nw cw wd
 box:v.heap[rb]? =some (.cells zC bL (0,0))
 AE:∀j,bI A=some j->bI E≠some j
 AW:∀j,bI A=some j->bI W≠some j
 EW:∀j,bI E=some j->bI W≠some j
 xB:xb<B0
 rB:rb<B0
 xr:xb≠rb
section
variable{v v' u:World}{B0 xb rb n cp e ce nw cw:Nat}{x:pB}{A E W:Option Addr}{wd:List HT}{K:Value->World->Prop}
theorem VJ.same(h:VJ v B0 xb rb x A n cp E e ce W nw cw wd)(k:Kept Nil v v'):VJ v' B0 xb rb x A n cp E e ce W nw cw wd:=
 ⟨k.heap h.top (fun h=>h),Row.aK h.mg k (fun _ _ h=>h),Row.aK h.bl k (fun _ _ h=>h),Row.aK h.wr k (fun _ _ h=>h),k.heap h.box (fun h=>h),h.AE,h.AW,h.EW,h.xB,h.rB,h.xr⟩
theorem VJ.f32(h:VJ v B0 xb rb x A n cp E e ce W nw cw wd):v.cell? ((⟨xb,0,none⟩:Addr).add 32)=some (.int .u64 (x.score:Int)):=by
 have:=(gU x A n cp E e ce #[]).1;rw [Array.append_empty]at this;rw [bE,aE h.top];exact this
theorem VJ.f33(h:VJ v B0 xb rb x A n cp E e ce W nw cw wd):v.cell? ((⟨xb,0,none⟩:Addr).add 33)=some (.slice A n cp):=by
 have:=(gU x A n cp E e ce #[]).2.1;rw [Array.append_empty]at this;rw [bE,aE h.top];exact this
theorem VJ.f34(h:VJ v B0 xb rb x A n cp E e ce W nw cw wd):v.cell? ((⟨xb,0,none⟩:Addr).add 34)=some (.slice E e ce):=by
 have:=(gU x A n cp E e ce #[]).2.2.1;rw [Array.append_empty]at this;rw [bE,aE h.top];exact this
theorem VJ.wrx(h:VJ v B0 xb rb x A n cp E e ce W nw cw wd){j:Nat}(hj:j<35):Wr v ((⟨xb,0,none⟩:Addr).add j):=by
 rw [bE];exact dQ h.top (by rw [bJ];omega)
theorem VJ.OO(h:VJ v B0 xb rb x A n cp E e ce W nw cw wd)(j:Nat)(z:Value):Kept (· =xb) v (v.setCell ((⟨xb,0,none⟩:Addr).add j) z):=by
 rw [bE];exact Kept.setCell (S:=(· =xb)) (Kept.refl _ v) (p:=⟨xb,0+j,none⟩) (fun _=>rfl) _
theorem VJ.OQ(h:VJ v B0 xb rb x A n cp E e ce W nw cw wd)(s:Nat):VJ (v.setCell ((⟨xb,0,none⟩:Addr).add 32) (.int .u64 (s:Int))) B0 xb rb {x with score:=s} A n cp E e ce W nw cw wd:=by
 have k:=h.OO 32 (.int .u64 (s:Int));have xB:=h.xB;refine⟨?_,Row.aK h.mg k (fun j hj e=>by have:=(Row.bV h.mg hj).1;omega),Row.aK h.bl k (fun j hj e=>by have:=(Row.bV h.bl hj).1;omega),Row.aK h.wr k (fun j hj e=>by have:=(Row.bV h.wr hj).1;omega),k.heap h.box h.xr.symm,h.AE,h.AW,h.EW,h.xB,h.rB,h.xr⟩;rw [bE,du h.top];have:=wx x A n cp E e ce #[] s;rw [Array.append_empty,Array.append_empty]at this;rw [this]
theorem VJ.SN(h:VJ v B0 xb rb x A n cp E e ce W nw cw wd)(hB:B0<=v.heap.size)(hn:nw<=100000){z:HT}(rv:Kept Nil v v'){bx:Nat}(hx:HS v' (some ⟨bx,0,none⟩) 1 [z]):
 ∃W' Sa u,(Builtin.append_ #[aF,aF] aF #[.slice W nw cw,.slice (some ⟨bx,0,none⟩) 1 1]).run prog v'=.ok (.slice W' (nw+1) Sa) u/\VJ u B0 xb rb x A n cp E e ce W' (nw+1) Sa (wd++ [z])/\Kept (fun j=>j=xb\/B0<=j) v u:=by
 have h':=h.same rv;have s16:=rv.size;obtain⟨W',c',u,hr,row,hg,hb⟩:=dd (cx:=1) aF h'.wr hx (by omega) (by omega);have kg:Kept (fun j=>bI W=some j) v' u:=Kept.grown (Kept.refl _ _) hg (fun j hj _=>hj);have nB:∀j,j<B0->bI W≠some j:=fun j hj e=>by have:=(Row.bV h.wr e).1;omega
 refine⟨W',c',u,hr,⟨kg.heap h'.top (nB _ h.xB),Row.aK h'.mg kg (fun j hj=>h.AW j hj),Row.aK h'.bl kg (fun j hj=>h.EW j hj),row,kg.heap h'.box (nB _ h.rB),h.AE,fun j hj e=>?_,fun j hj e=>?_,h.xB,h.rB,h.xr⟩,(rv.mono fun _ _ h=>h.elim).trans kg (fun j hj e=>.inr (Row.bV h.wr e).1)⟩
 ·rcases hb j e with e'|e'
  ·exact h.AW j hj e'
  ·obtain⟨_,cur,hc⟩:=Row.bV h'.mg hj
   have:=bf hc;omega
 ·rcases hb j e with e'|e'
  ·exact h.EW j hj e'
  ·obtain⟨_,cur,hc⟩:=Row.bV h'.bl hj
   have:=bf hc;omega
theorem VJ.HP(h:VJ v B0 xb rb x A n cp E e ce W nw cw wd)(hB:B0<=v.heap.size)(hn:e<=100000){b:Bool}(rv:Kept Nil v v'){bx:Nat}(hx:v'.cell? ⟨bx,0,none⟩=some (.bool b)):
 ∃E' sU u,(Builtin.append_ #[iy,iy] iy #[.slice E e ce,.slice (some ⟨bx,0,none⟩) 1 1]).run prog v'=.ok (.slice E' (e+1) sU) u/\Wr u ((⟨xb,0,none⟩:Addr).add 34)/\
  VJ (u.setCell ((⟨xb,0,none⟩:Addr).add 34) (.slice E' (e+1) sU)) B0 xb rb {x with gu:=x.gu++ [b]} A n cp E' (e+1) sU W nw cw wd/\Kept (fun j=>j=xb\/B0<=j) v (u.setCell ((⟨xb,0,none⟩:Addr).add 34) (.slice E' (e+1) sU)):=by
 have h':=h.same rv;have s16:=rv.size;have xB:=h.xB;obtain⟨E',c',u,hr,row,hg,hb⟩:=fZ (P:=prog) (t:=iy) (bytes:=1) (ty:=iy) Ci h'.bl (a:=⟨bx,0,none⟩) (m:=1) (cx:=1) (news:= [.bool b]) rfl (fun j z hj=>by
  cases j with
  |zero=>simp only [List.getElem?_cons_zero,Option.some.injEq]at hj;subst hj;rw [add_zero];exact hx
  |succ j=>simp at hj) (fun z hz=>by
  have:z=.bool b:=by simpa using hz
  subst this;rfl) (by omega) (by unfold maxLen;omega) (by omega)
 have kg:Kept (fun j=>bI E=some j) v' u:=Kept.grown (Kept.refl _ _) hg (fun j hj _=>hj);have nB:∀j,j<B0->bI E≠some j:=fun j hj e=>by have:=(Row.bV h.bl e).1;omega
 have top:=kg.heap h'.top (nB _ h.xB);have ks:Kept (· =xb) u (u.setCell ((⟨xb,0,none⟩:Addr).add 34) (.slice E' (e+1) c')):=by
  rw [bE];exact Kept.setCell (S:=(· =xb)) (Kept.refl _ u) (p:=⟨xb,0+34,none⟩) (fun _=>rfl) _
 have lT:Kept (fun j=>j=xb\/bI E=some j) v' (u.setCell ((⟨xb,0,none⟩:Addr).add 34) (.slice E' (e+1) c')):=(kg.mono fun _ _ h=>.inr h).trans ks (fun _ _ h=>.inl h);refine⟨E',c',u,hr,by rw [bE];exact dQ top (by rw [bJ];omega),⟨?_,?_,?_,?_,?_,fun j hj e=>?_,h.AW,fun j hj e=>?_,h.xB,h.rB,h.xr⟩,(rv.mono fun _ _ h=>h.elim).trans lT (fun j hj e=>e.imp (fun h=>h) (fun e=>(Row.bV h.bl e).1))⟩
 ·rw [bE,du top]
  have:=rF x A n cp E e ce #[] E' (e+1) c';rw [Array.append_empty,Array.append_empty]at this;rw [this];rfl
 ·exact Row.aK h'.mg lT (fun j hj e=>e.elim (fun e=>by have:=(Row.bV h.mg hj).1;omega) (h.AE j hj))
 ·have e1:tH (x.gu++ [b])=tH x.gu++ [.bool b]:=by simp [tH]
  show Row _ B0 jv 1 E' (e+1) c' (tH (x.gu++ [b]))
  rw [e1];exact Row.aK row ks (fun j hj e=>by have:=(Row.bV row hj).1;omega)
 ·exact Row.aK h'.wr lT (fun j hj e=>e.elim (fun e=>by have:=(Row.bV h.wr hj).1;omega) (fun e=>h.EW j e hj))
 ·exact lT.heap h'.box (fun e=>e.elim (fun e=>h.xr e.symm) (nB _ h.rB))
 ·rcases hb j e with e'|e'
  ·exact h.AE j hj e'
  ·obtain⟨_,cur,hc⟩:=Row.bV h'.mg hj
   have:=bf hc;omega
 ·rcases hb j hj with e'|e'
  ·exact h.EW j e' e
  ·obtain⟨_,cur,hc⟩:=Row.bV h'.wr e
   have:=bf hc;omega
end
section
variable{y w w':World}{F F' S:Nat->Prop}{r x k:Nat}{G:GS}{K:Value->World->Prop}{B0 xb rb n cp e ce nw cw:Nat}{A E W:Option Addr}{s:HT}{l:List HT}
set_option maxHeartbeats 2000000 in
theorem Fj(h:R3 y F r x k G)(hD:G.D.length<=300)(o6:k<=1000)(hB:B0<=y.heap.size)(iX:∀j,(j=r\/j=x\/F j)->j<B0/\j≠xb/\j≠rb)(hM:∀z∈cR G s l,z∈ids G.D)(hs:s∈ids G.D)
 (V:VJ y B0 xb rb ⟨s,G.score s+1,cR G s l,[]⟩ A n cp none 0 0 W nw cw (G.world s++ [s]))
 (hK:∀v E e ce W nw cw,VJ v B0 xb rb (dr k G s l) A n cp E e ce W nw cw (iz k G s l).wd->Kept (fun j=>j=xb\/j=rb\/B0<=j) y (setCells v ⟨rb,0,none⟩ (dp (dr k G s l) A n cp E e ce).toList 0)->K (.tuple #[.agg (dp (dr k G s l) A n cp E e ce),.slice W nw cw]) (setCells v ⟨rb,0,none⟩ (dp (dr k G s l) A n cp E e ce).toList 0)):
 af.df (some ⟨r,0,none⟩) ⟨B0,0,none⟩ ⟨rb,0,none⟩ none 0 0 ⟨xb,0,none⟩ W nw cw none 0 0 0 K y:=by
 unfold af.df;have Gr:(cR G s l).length<=300:=by
  have:=dL (m:=ids G.D) (mI G s l).nodup hM;rw [iM]at this;omega
 have hn:(cR G s l).length=n:=cf.len V.mg;have hwl:=sW h.iC hs;have EA:=zZ h.iC hs;have hR:∀ {v:World},Kept (fun j=>j=xb\/B0<=j) y v->R3 v F r x k G:=fun kv=>h.aK kv (fun e=>by have:=iX r (.inl rfl);omega) (fun e=>by have:=iX x (.inr (.inl rfl));omega) (fun j hj e=>by have:=iX j (.inr (.inr hj));omega);have vl:∀i,i<=n->(lf k G s l i).wd.length<=700:=fun i hi=>by
  obtain⟨b,h1,h2⟩:=Ht k G.D (G.world s++ [s]) ((cR G s l).take i);have h3:=yv ((cR G s l).take i) b;rw [List.length_take]at h3;show(((cR G s l).take i).foldl (rT k G.D) ⟨G.world s++ [s],[]⟩).wd.length<=700;rw [h2];simp only [List.length_append,List.length_singleton];omega
 refine af.sn (I:=fun st v=>∃(i:Nat) (E:Option Addr) (e ce:Nat) (W:Option Addr) (nw cw:Nat),st=(W,nw,cw,(i:Int))/\i<=n/\VJ v B0 xb rb ⟨s,G.score s+1+(lf k G s l i).bl.count true,cR G s l,(lf k G s l i).bl⟩ A n cp E e ce W nw cw (lf k G s l i).wd/\Kept (fun j=>j=xb\/B0<=j) y v) (μ:=fun st _=>((n:Int)-st.2.2.2).toNat) (s:=(W,nw,cw,0)) ⟨0,none,0,0,W,nw,cw,rfl,Nat.zero_le _,V,Kept.refl _ _⟩ ?_;rintro st v ⟨i,E,e,ce,W,nw,cw,rfl,hi,Vv,kv⟩;unfold af.B3;refine⟨A,n,cp,Vv.f33,Split.dec (fun di=>?_) (fun gH=>?_)⟩
 ·simp only at di
  have dX:i<n:=by omega
  obtain⟨z,hz⟩:∃z,(cR G s l)[i]? =some z:=⟨_,List.getElem?_eq_getElem (by omega)⟩;have nu:=zO (k:=k) hz;have zy:(cR G s l)[((i:Nat):Int).toNat]? =some z:=by rw [Int.toNat_natCast];exact hz
  have hnw:(lf k G s l i).wd.length=nw:=cf.len Vv.wr;have X0:=vl i hi;have sv:=kv.size;refine⟨A,n,cp,Vv.f33,(cf.hs Vv.mg).load (i:=(i:Int)) (by omega) zy ?_⟩;refine pP (hR kv) (by omega) (cf.hs Vv.wr) (by omega) z fun N cN w4 SD k4=>⟨N,_,cN,rfl,?_⟩;have qL:=kv.trans k4 (fun _ _ h=>h.elim);have YC:=hR qL;refine Is.mk rfl ⟨_,YC.c0,?_⟩;have zB:(cr G.D (lf k G s l i).wd z).length<=700:=by
   have:=List.length_filter_le (fun b=>decide (oC G.D b z)) (lf k G s l i).wd;unfold cr;omega
  generalize Nw:cr G.D (lf k G s l i).wd z=Ar at SD zB;have V4:=Vv.same k4;refine af.H4 (I:=fun st u=>∃(b:Bool) (q:Nat),st=(b,(q:Int))/\q<=Ar.length/\b=(decide (Ar.length<=k)&&(Ar.take q).all fun z=>decide ((cr G.D (lf k G s l i).wd z).length+1<=k))/\Kept Nil w4 u) (μ:=fun st _=>((Ar.length:Int)-st.2).toNat) (s:=(decide ((Ar.length:Int)<=(k:Int)),0)) ⟨_,0,rfl,Nat.zero_le _,by simp,Kept.refl _ _⟩ ?_;rintro st u ⟨b,q,rfl,hq,hb,ku⟩;have XH:=qL.trans ku (fun _ _ h=>h.elim);have Vu:=V4.same ku;have fin:∀ {t:World},Kept Nil w4 t->b=qX k G.D (lf k G s l i).wd z->af.DM (some ⟨r,0,none⟩) ⟨rb,0,none⟩ none 0 0 ⟨xb,0,none⟩ W nw cw (i:Int) N Ar.length cN b (q:Int) (bW (af.e3 (some ⟨r,0,none⟩) ⟨rb,0,none⟩ none 0 0 ⟨xb,0,none⟩) (fun st v=>∃(i:Nat) (E:Option Addr) (e ce:Nat) (W:Option Addr) (nw cw:Nat),st=(W,nw,cw,(i:Int))/\i<=n/\VJ v B0 xb rb ⟨s,G.score s+1+(lf k G s l i).bl.count true,cR G s l,(lf k G s l i).bl⟩ A n cp E e ce W nw cw (lf k G s l i).wd/\Kept (fun j=>j=xb\/B0<=j) y v) (fun st _=>((n:Int)-st.2.2.2).toNat) (W,nw,cw,(i:Int)) v (af.q3 K)) t:=fun {t} kt C9=>by
   have Vt:=V4.same kt;have Tn:=qL.trans kt (fun _ _ h=>h.elim);have st:=Tn.size;have Yx:(lf k G s l i).bl.length=e:=by have:=(Row.bo Vt.bl).len;simpa using this
   have hbi:=DV k G s l i (by omega);unfold af.DM;refine⟨E,e,ce,Vt.f34,?_⟩;intro w5;have k5:Kept Nil t w5:=(Kept.refl _ _).alloc _;have pF:w5.cell? ⟨t.heap.size,0,none⟩=some (.bool b):=by rw [aE (aM t _)];rfl
   clear_value w5;obtain⟨E',sU,u6,q1,q2,q3,q4⟩:=Vt.HP (by omega) (by omega) k5 pF;refine⟨E',e+1,sU,u6,q1,q2,?_⟩;have KZ:=Tn.tt q4;rw [dF (n:=(i:Int)) (by omega) (by omega)];rw [rT,<-C9]at nu;generalize u6.setCell ((⟨xb,0,none⟩:Addr).add 34) (.slice E' (e+1) sU)=w6 at q3 q4 KZ⊢;have s6:=KZ.size;cases b with
   |false=>
    refine Split.no rfl ⟨(W,nw,cw,(i:Int)+1),rfl,⟨i+1,E',e+1,sU,W,nw,cw,rfl,dX,?_,KZ⟩,by simp only;omega⟩;rw [nu];simpa [List.count_append]using q3
   |true=>
    refine Split.yes rfl ⟨A,n,cp,q3.f33,(cf.hs q3.mg).load (i:=(i:Int)) (by omega) zy ⟨z.2.1,?_⟩⟩;intro w7;have k7:Kept Nil w6 w7:=(Kept.refl _ _).alloc _;have hx7:=jE w6 z;obtain⟨W',Sa,w8,r1,r2,r3⟩:=q3.SN (by omega) (by omega) k7 hx7;refine⟨W',nw+1,Sa,w8,r1,_,r2.f32,r2.wrx (by omega),?_⟩;have aj0:(lf k G s l i).bl.count true<=300:=by have:=List.count_le_length (a:=true) (l:=(lf k G s l i).bl);omega
    have ew:u64.wrap (((G.score s+1+(lf k G s l i).bl.count true:Nat):Int)+1)=((G.score s+1+(lf k G s l i).bl.count true+1:Nat):Int):=by
     rw [show((G.score s+1+(lf k G s l i).bl.count true:Nat):Int)+1=((G.score s+1+(lf k G s l i).bl.count true+1:Nat):Int)by omega];exact kz (by omega)
    simp only;rw [ew];have r4:=r2.OQ (G.score s+1+(lf k G s l i).bl.count true+1);have r5:=r2.OO 32 (.int .u64 ((G.score s+1+(lf k G s l i).bl.count true+1:Nat):Int));refine⟨(W',nw+1,Sa,(i:Int)+1),rfl,⟨i+1,E',e+1,sU,W',nw+1,Sa,rfl,dX,?_,(KZ.tt r3).trans r5 (fun _ _ h=>.inl h)⟩,by simp only;omega⟩;rw [nu];have ec:((lf k G s l i).bl++ [true]).count true=(lf k G s l i).bl.count true+1:=by simp [List.count_append]
    simp only [if_true];rw [ec,<-Nat.add_assoc];exact r4
  unfold af.B4;refine Split.dec (fun LD=>?_) (fun LK=>?_)
  ·simp only at LD
   refine Split.mk (fun xl=>?_) (fun xl=>?_)
   ·replace xl:b=true:=xl
    subst xl;have IP:q<Ar.length:=by omega
    obtain⟨z2,XW⟩:∃z2,Ar[q]? =some z2:=⟨_,List.getElem?_eq_getElem IP⟩;intro w5;have k5:Kept Nil u w5:=(Kept.refl _ _).drew;clear_value w5;have F8:=ku.tt k5;have xY:=qL.trans F8 (fun _ _ h=>h.elim);have hR5:=hR xY;refine((cf.hs SD).same F8).load (i:=(q:Int)) (by omega) (by rw [Int.toNat_natCast];exact XW) (Is.mk rfl ⟨_,hR5.c0,?_⟩);refine pP hR5 (by omega) (cf.hs (V4.same F8).wr) (by omega) z2 fun N2 c2 w6 yG k6=>⟨N2,_,c2,rfl,?_⟩;have K2:=F8.tt k6;refine⟨(hR5.same k6).c0,?_⟩;simp only;rw [dF (n:=(q:Int)) (by omega) (by omega),jb (x:=(k:Int)-1) (by omega) (by omega)];refine⟨(decide (((cr G.D (lf k G s l i).wd z2).length:Int)<=(k:Int)-1),(q:Int)+1),rfl,⟨_,q+1,rfl,IP,?_,K2⟩,by simp only;omega⟩;rw [eq_comm,Bool.and_eq_true,decide_eq_true_eq]at hb;rw [decide_eq_true hb.1,Bool.true_and,List.take_add_one,XW];simp only [Option.toList_some,List.all_append,hb.2,Bool.true_and,List.all_cons,List.all_nil,Bool.and_true];rw [decide_eq_decide];omega
   ·rw [aU,af.Hl]
    replace xl:b=false:=xl
    refine fin ku ?_;rw [xl]at hb⊢
    symm
    unfold qX;rw [Nw,decide_eq_false_iff_not];rintro⟨g1,g2⟩;rw [decide_eq_true g1,Bool.true_and]at hb;have:=List.all_eq_false.1 hb.symm;obtain⟨z0,Z9,Z8⟩:=this;exact Z8 (decide_eq_true (g2 z0 (List.mem_of_mem_take Z9)))
  ·simp only at LK
   rw [aU,af.Hl];refine fin ku ?_;rw [List.take_of_length_le (by omega)]at hb;rw [hb];unfold qX;rw [Nw,Bool.eq_iff_iff,Bool.and_eq_true,decide_eq_true_eq,decide_eq_true_eq,List.all_eq_true];simp only [decide_eq_true_eq]
 ·simp only at gH
  have:i=n:=by omega
  subst this;rw [aU,af.yz];rw [<-hn,DW]at Vv;have GH:(⟨s,G.score s+1+(iz k G s l).bl.count true,cR G s l,(iz k G s l).bl⟩:pB)=dr k G s l:=rfl;rw [GH]at Vv;unfold af.tM;obtain⟨t1,t2,t3⟩:=gv Vv.box (cs:=dp (dr k G s l) A (cR G s l).length cp E e ce) (by rw [bJ];rfl);refine⟨_,⟨bJ ..,Cells.bV Vv.top⟩,⟨bJ ..,fF _ _ _ _ _ _ _,fun j hj=>t1 j (by rw [bJ];exact hj)⟩,_,⟨bJ ..,Cells.bV t2⟩,?_⟩;rw [hn]at t3 Vv⊢;exact hK v E e ce W nw cw Vv ((kv.mono fun _ _ h=>h.imp (fun h=>h) (fun h=>.inr h)).trans t3 (fun _ _ h=>.inr (.inl h)))
end
theorem Rl{G:GS}{l:List HT}{k:Nat}{x:HT}(h:SO G l)(h1:∀y∈l.take k,gl G y x=true)(h2:∀y∈l.drop k,gl G x y=true):SO G (l.take k++x::l.drop k):=by
 have h0:SO G (l.take k++l.drop k):=by rw [List.take_append_drop];exact h
 unfold SO at h0⊢;rw [List.pairwise_append]at h0⊢;refine⟨h0.1,List.pairwise_cons.2 ⟨h2,h0.2.1⟩,fun a ha b hb=>?_⟩;rcases List.mem_cons.1 hb with rfl|hb
 ·exact h1 a ha
 ·exact h0.2.2 a ha b hb
section
variable{y w w':World}{F F' S:Nat->Prop}{r x k:Nat}{G:GS}{K:Value->World->Prop}{B0 xb rb sb n cp e ce nw cw na ca:Nat}{A E W AA:Option Addr}{s:HT}{l all wd:List HT}
set_option maxHeartbeats 2000000 in
theorem Fk(h:R3 y F r x k G)(hD:G.D.length<=300)(hB:B0<=y.heap.size)(iX:∀j,(j=r\/j=x\/F j)->j≠xb)(hs:s∈ids G.D)(IE:y.heap[sb]? =some (.cells s.1 al (0,0)))(RN:sb≠xb)
 (cY:HS y AA na all) (YF:∀a,AA=some a->a.block≠xb) (hSS:SS all) (gD:∀z∈all,z∈ids G.D)
 (V:VJ y B0 xb rb ⟨s,G.score s+1,[],[]⟩ none 0 0 none 0 0 W nw cw wd)
 (hK:∀v A n cp M i,SO G M->(∀z,z∈M↔z∈all/\z≠s/\¬fI G.D z s)->VJ v B0 xb rb ⟨s,G.score s+1,M,[]⟩ A n cp none 0 0 W nw cw wd->Kept (· =xb) y v->af.df (some ⟨r,0,none⟩) ⟨sb,0,none⟩ ⟨rb,0,none⟩ none 0 0 ⟨xb,0,none⟩ W nw cw AA na ca i K v):
 Holds none [] prog 179 (.loop (lB (bB (sR (sL (cH (body af.fn))))))) (af.q1 K) [(0,.pointer (some ⟨r,0,none⟩)),(4,.pointer (some ⟨sb,0,none⟩)),(6,.pointer (some ⟨rb,0,none⟩)),(7,.slice none 0 0),(8,.pointer (some ⟨xb,0,none⟩)),(9,.slice W nw cw),(10,.slice AA na ca),(11,.int .i64 0)] y:=by
 have LA:=cY.len;have ajg:na<=300:=by
  have:=dL (m:=ids G.D) hSS.nodup gD;rw [iM]at this;omega
 have hR:∀ {v:World},Kept (· =xb) y v->R3 v F r x k G:=fun kv=>h.aK kv (iX r (.inl rfl)) (iX x (.inr (.inl rfl))) (fun j hj=>iX j (.inr (.inr hj)));refine af.cJ (I:=fun st v=>∃(i:Nat) (M:List HT) (A:Option Addr) (n cp:Nat),st=(i:Int)/\i<=na/\VJ v B0 xb rb ⟨s,G.score s+1,M,[]⟩ A n cp none 0 0 W nw cw wd/\SO G M/\(∀z,z∈M↔z∈all.take i/\z≠s/\¬fI G.D z s)/\Kept (· =xb) y v) (μ:=fun st _=>((na:Int)-st).toNat) (s:=0) ⟨0,[],none,0,0,rfl,Nat.zero_le _,V,List.Pairwise.nil,by simp,Kept.refl _ _⟩ ?_;rintro st v ⟨i,M,A,n,cp,rfl,hi,Vv,Gj,jc,kv⟩;unfold af.B1;refine Split.dec (fun di=>?_) (fun gH=>?_)
 ·have dX:i<na:=by omega
  obtain⟨z,hz⟩:∃z,all[i]? =some z:=⟨_,List.getElem?_eq_getElem (by omega)⟩;have PE:=gD z (List.mem_of_getElem? hz);have GF:all.take (i+1)=all.take i++ [z]:=by rw [List.take_add_one,hz];rfl
  have hMi:∀y∈M,y∈ids G.D:=fun y hy=>gD y (List.mem_of_mem_take ((jc y).1 hy).1);have hMl:M.length<=300:=by
   have:=dL (m:=ids G.D) Gj.nodup hMi;rw [iM]at this;omega
  have hMn:M.length=n:=cf.len Vv.mg;have sv:=kv.size;refine(cY.aK kv YF).load (i:=(i:Int)) (by omega) hz ?_;intro w2;obtain⟨tA,kh,kH⟩:=iP (w:=v) (z:=fH.1) (cs:=z.1) (t:=al) (by rw [z.2.1];rfl);refine⟨⟨z.2.1,z.2.one,fun j hj=>tA j (by rw [z.2.1];exact hj)⟩,?_⟩;intro w3 w4
  replace kh:w3.heap[v.heap.size]? =some (.cells z.1 al (0,0)):=kh
  replace kH:Kept Nil v w3:=kH
  have k4:Kept Nil w3 w4:=(Kept.refl _ _).drew;clear_value w4;have ui:=k4.heap kh (fun h=>h);have O8:=kH.tt k4;clear_value w3;have qL:=kv.trans O8 (fun _ _ h=>h.elim);have PS:∀ {u:World},Kept (· =xb) y u->Cells u ⟨sb,0,none⟩ s.1:=fun ku=>Cells.bV (ku.heap IE RN);have next:∀ {u:World} {M':List HT} {A':Option Addr} {n' xn:Nat},VJ u B0 xb rb ⟨s,G.score s+1,M',[]⟩ A' n' xn none 0 0 W nw cw wd->SO G M'->(∀z,z∈M'↔z∈all.take (i+1)/\z≠s/\¬fI G.D z s)->Kept (· =xb) y u->
   ∃s1:Int,i64.wrap ((i:Int)+(1:Int))=s1/\(∃(i:Nat) (M:List HT) (A:Option Addr) (n cp:Nat),s1=(i:Int)/\i<=na/\VJ u B0 xb rb ⟨s,G.score s+1,M,[]⟩ A n cp none 0 0 W nw cw wd/\SO G M/\(∀z,z∈M↔z∈all.take i/\z≠s/\¬fI G.D z s)/\Kept (· =xb) y u)/\((na:Int)-s1).toNat<((na:Int)-(i:Int)).toNat:=fun h1 h2 h3 h4=>by
   rw [dF (n:=(i:Int)) (by omega) (by omega)];exact⟨(i:Int)+1,rfl,⟨i+1,_,_,_,_,rfl,dX,h1,h2,h3,h4⟩,by omega⟩
  have skip:(z=s\/fI G.D z s)->∀z',z'∈M↔z'∈all.take (i+1)/\z'≠s/\¬fI G.D z' s:=fun Z9 z'=>by
   rw [jc,GF,List.mem_append,List.mem_singleton];constructor
   ·rintro⟨a,b⟩;exact⟨.inl a,b⟩
   ·rintro⟨a|rfl,b,c⟩
    ·exact⟨a,b,c⟩
    ·rcases Z9 with e|e
     ·exact absurd e b
     ·exact absurd e c
  refine⟨z.1,⟨z.2.1,Cells.bV ui⟩,s.1,⟨s.2.1,PS qL⟩,⟨z.2.ints,s.2.ints⟩,?_⟩;rw [fz];refine Split.dec (fun Ey=>?_) (fun Ey=>?_)
  ·obtain⟨s1,e1,e2,e3⟩:=next (Vv.same O8) Gj (skip (.inl Ey)) qL
   rw [e1];exact⟨s1,rfl,e2,e3⟩
  have YC:=hR qL;refine Is.mk rfl ⟨_,YC.c1,Is.mk rfl ⟨z.1,⟨z.2.1,Cells.bV ui⟩,s.1,⟨s.2.1,PS qL⟩,?_⟩⟩;rw [add_zero];refine oK YC.X.gr h.iC.W (by omega) z s fun w5 b hb k5=>⟨b,rfl,?_⟩;have O7:=O8.tt k5;have xY:=kv.trans O7 (fun _ _ h=>h.elim);refine Split.mk (fun hbt=>?_) (fun Yy=>?_)
  ·obtain⟨s1,e1,e2,e3⟩:=next (Vv.same O7) Gj (skip (.inr (hb.1 hbt))) xY
   rw [e1];exact⟨s1,rfl,e2,e3⟩
  have hzA:¬fI G.D z s:=fun e=>by rw [hb.2 e]at Yy;cases Yy
  have V5:=Vv.same O7;have pF:=k5.heap ui (fun h=>h);have hzM:z∉M:=fun e=>by
   have h1:=((jc z).1 e).1;have gQ:=hSS.nodup;obtain⟨q,hq⟩:=List.mem_iff_getElem?.1 h1;rw [List.getElem?_take]at hq;split at hq
   ·rename_i hqi
    have:=(List.getElem?_inj (i:=q) (j:=i) (by rw [LA];omega) gQ).1 (by rw [hq,hz]);omega
   ·cases hq
  refine⟨A,n,cp,V5.f33,?_⟩;refine af.iB (I:=fun st u=>∃q:Nat,st=(q:Int)/\q<=M.length/\(∀y∈M.drop q,gl G z y=true)/\Kept Nil w5 u) (μ:=fun st _=>st.toNat) (s:=(n:Int)) ⟨n,rfl,by omega,by rw [<-hMn];simp,Kept.refl _ _⟩ ?_;rintro st u ⟨q,rfl,hq,vX,ku⟩;unfold af.B2;have vW:∀ {t:World},Kept Nil w5 t->(∀y∈M.take q,gl G y z=true)->af.jh (some ⟨r,0,none⟩) ⟨sb,0,none⟩ ⟨rb,0,none⟩ none 0 0 ⟨xb,0,none⟩ W nw cw AA na ca (i:Int) ⟨v.heap.size,0,none⟩ (q:Int) (bW (af.e1 (some ⟨r,0,none⟩) ⟨sb,0,none⟩ ⟨rb,0,none⟩ none 0 0 ⟨xb,0,none⟩ W nw cw AA na ca) (fun st v=>∃(i:Nat) (M:List HT) (A:Option Addr) (n cp:Nat),st=(i:Int)/\i<=na/\VJ v B0 xb rb ⟨s,G.score s+1,M,[]⟩ A n cp none 0 0 W nw cw wd/\SO G M/\(∀z,z∈M↔z∈all.take i/\z≠s/\¬fI G.D z s)/\Kept (· =xb) y v) (fun st _=>((na:Int)-st).toNat) (i:Int) v (af.q1 K)) t:=by
   intro t kt IC;have Vt:=V5.same kt;have Tn:=xY.trans kt (fun _ _ h=>h.elim);have st:=Tn.size;have yE:=Vt.mg;have I2:n<=cp:=by rcases Row.own yE with⟨_,h1,h2,_⟩|⟨_,_,_,_,_,h1,_⟩<;>omega
   unfold af.jh;refine⟨A,n,cp,Vt.f33,⟨by omega,by omega⟩,?_⟩;have wM:HS t (if cp=0 then A else A.map (·.add (0*32))) ((q:Int).toNat -0) (M.take q):=by
    have h:=yE.hs.take (k:=q) (by omega);rw [Nat.sub_zero,Int.toNat_natCast];have e:(if cp=0 then A else A.map (·.add (0*32)))=A:=by
     split
     ·rfl
     ·cases A<;>simp [add_zero]
    rw [e];exact h
   obtain⟨A1,c1,u2,nE,iw,LP,nH⟩:=dd (cx:=cp-0) aF (cf.nil t t.heap.size) wM (by simp;omega) (Nat.le_refl _);have k2:Kept Nil t u2:=Kept.dY (Kept.refl _ _) LP (fun k hk=>by cases hk);rw [Nat.zero_add,Nat.sub_zero,Int.toNat_natCast]at nE iw;rw [List.nil_append]at iw;refine⟨A1,_,c1,u2,by rw [Nat.sub_zero,Int.toNat_natCast];exact nE,?_⟩;refine⟨z.1,⟨z.2.1,Cells.bV ((kt.tt k2).heap pF (fun h=>h))⟩,z.2.1,?_⟩;intro u3;have k3:Kept Nil u2 u3:=(Kept.refl _ _).alloc _;have V7:HS u3 (some ⟨u2.heap.size,0,none⟩) 1 [z]:=jE u2 z;clear_value u3;have nK:cf u3 t.heap.size A1 q c1 (M.take q):=Row.aK iw k3 (fun _ _ h=>h);have s2:=k2.size;have s3:=k3.size;obtain⟨A4,c4,u4,yf,jX,EL,aj8⟩:=dd (cx:=1) aF nK V7 (by omega) (by omega);have XU:Kept Nil t u4:=Kept.dY (k2.tt k3) EL (fun k hk=>by rcases nH k hk with h|h;cases h;exact h);have V4:=Vt.same XU;refine⟨A4,_,c4,u4,yf,A,n,cp,V4.f33,⟨by omega,by omega⟩,?_⟩;have IG:HS u4 (if cp=(q:Int).toNat then A else A.map (·.add ((q:Int).toNat*32))) (n-(q:Int).toNat) (M.drop q):=by
    rw [Int.toNat_natCast];exact(yE.hs.same XU).drop I2 (by omega)
   have hdl:(n-(q:Int).toNat)=n-q:=by rw [Int.toNat_natCast]
   have s4:=XU.size;obtain⟨A5,c5,u5,sC,lD,LO,aj7⟩:=dd (cx:=cp-(q:Int).toNat) aF jX IG (by omega) s4;have R7:∀j,bI A4=some j->t.heap.size<=j:=fun j hj=>(Row.bV jX hj).1;have k5':Kept Nil t u5:=Kept.dY XU LO R7;have Hh:=Vt.same k5';refine⟨A5,_,c5,u5,sC,Hh.wrx (by omega),?_⟩;have nQ:M.take q++ [z]++M.drop q=M.take q++z::M.drop q:=by simp
   have zB:(M.take q++z::M.drop q).length=n+1:=by simp;omega
   rw [nQ]at lD;have e5:q+1+(n-(q:Int).toNat)=n+1:=by omega
   rw [e5]at lD⊢;have Gy:∀j,bI A5=some j->t.heap.size<=j:=fun j hj=>(Row.bV lD hj).1;have ks:=Hh.OO 33 (.slice A5 (n+1) c5);have Vf:VJ (u5.setCell ((⟨xb,0,none⟩:Addr).add 33) (.slice A5 (n+1) c5)) B0 xb rb ⟨s,G.score s+1,M.take q++z::M.drop q,[]⟩ A5 (n+1) c5 none 0 0 W nw cw wd:=by
    have xB:=Hh.xB;refine⟨?_,?_,Row.aK Hh.bl ks (fun j hj=>by cases hj),Row.aK Hh.wr ks (fun j hj e=>by have:=(Row.bV Hh.wr hj).1;omega),ks.heap Hh.box Hh.xr.symm,fun j hj e=>(by cases e),fun j hj e=>?_,fun j hj=>(by cases hj),Hh.xB,Hh.rB,Hh.xr⟩
    ·rw [bE,du Hh.top]
     have:=rG ⟨s,G.score s+1,M,[]⟩ A n cp none 0 0 #[] A5 (n+1) c5;rw [Array.append_empty,Array.append_empty]at this;rw [this];rfl
    ·have Uh:cf u5 B0 A5 (n+1) c5 (M.take q++z::M.drop q):=Row.base lD (fun j hj=>by have:=Gy j hj;omega)
     exact Row.aK Uh ks (fun j hj e=>by have:=Gy j hj;omega)
    ·obtain⟨_,cur,hc⟩:=Row.bV Vt.wr e
     have:=bf hc;have:=Gy j hj;omega
   generalize u5.setCell ((⟨xb,0,none⟩:Addr).add 33) (.slice A5 (n+1) c5)=u6 at ks Vf⊢;obtain⟨s1,e1,e2,e3⟩:=next Vf (Rl Gj IC vX) (fun z'=>by
    rw [GF,List.mem_append (s:=all.take i),List.mem_singleton];have hM2:z'∈M.take q++z::M.drop q↔z'=z\/z'∈M:=by
     rw [List.mem_append,List.mem_cons];constructor
     ·rintro(h|h|h)
      ·exact .inr (List.mem_of_mem_take h)
      ·exact .inl h
      ·exact .inr (List.mem_of_mem_drop h)
     ·rintro(h|h)
      ·exact .inr (.inl h)
      ·rw [<-List.take_append_drop q M,List.mem_append]at h
       exact h.imp (fun h=>h) (fun h=>.inr h)
    rw [hM2,jc];constructor
    ·rintro(rfl|⟨a,b⟩)
     ·exact⟨.inr rfl,Ey,hzA⟩
     ·exact⟨.inl a,b⟩
    ·rintro⟨a|rfl,b⟩
     ·exact .inr ⟨a,b⟩
     ·exact .inl rfl) ((Tn.trans k5' (fun _ _ h=>h.elim)).tt ks)
   rw [e1];exact⟨s1,rfl,e2,e3⟩
  intro w6;have k6:Kept Nil u w6:=(Kept.refl _ _).drew;clear_value w6;have K2:=ku.tt k6;have V6:=V5.same K2;have KZ:=xY.trans K2 (fun _ _ h=>h.elim);refine Split.dec (fun jT=>?_) (fun Ba=>?_)
  ·have Uu:0<q:=by omega
   obtain⟨y1,Lh⟩:∃y1,M[q-1]? =some y1:=⟨_,List.getElem?_eq_getElem (by omega)⟩;have M6:=List.mem_of_getElem? Lh;rw [wN (x:=(q:Int)-1) (i:=q-1) (by omega) (by omega)];refine⟨z.1,⟨z.2.1,Cells.bV (K2.heap pF (fun h=>h))⟩,A,n,cp,V6.f33,(cf.hs V6.mg).load (i:=((q-1:Nat):Int)) (by omega) (by rw [Int.toNat_natCast];exact Lh) ?_⟩;refine qR (hR KZ) (by omega) PE (hMi y1 M6) fun w7 k7=>⟨_,rfl,?_⟩;have ku7:=K2.tt k7;refine Split.mk (fun hc=>?_) (fun hc=>?_)
   ·refine⟨((q-1:Nat):Int),rfl,⟨q-1,rfl,by omega,fun z' zy=>?_,ku7⟩,by simp only;omega⟩
    have hd:M.drop (q-1)=y1::M.drop q:=by
     obtain⟨h1,h2⟩:=lgeS Lh;rw [List.drop_eq_getElem_cons h1,h2,show q-1+1=q by omega]
    rw [hd]at zy;rcases List.mem_cons.1 zy with rfl|zy
    ·exact hc
    ·exact vX z' zy
   ·rw [aU,af.ki]
    refine vW ku7 fun z' zy=>?_;have Ez:gl G y1 z=true:=by
     cases hg:gl G y1 z
     ·exact absurd (sH hc hg) (fun e=>hzM (by rw [e];exact M6))
     ·rfl
    obtain⟨j,hj⟩:=List.mem_iff_getElem?.1 zy;rw [List.getElem?_take]at hj;split at hj
    ·rename_i hjq
     by_cases e:j=q-1
     ·subst e;rw [Lh]at hj;cases hj;exact Ez
     ·obtain⟨a1,a2⟩:=lgeS hj
      obtain⟨b1,b2⟩:=lgeS Lh;have:=List.pairwise_iff_getElem.1 Gj j (q-1) a1 b1 (by omega);rw [a2,b2]at this;exact p9 this Ez
    ·cases hj
  ·rw [aU,af.ki]
   have Uu:q=0:=by omega
   refine vW K2 fun z' zy=>?_;rw [Uu]at zy;simp at zy
 ·rw [aU,af.dz]
  rw [List.take_of_length_le (by omega)]at jc;exact hK v A n cp M (i:Int) Gj jc Vv kv
end
section
variable{w w':World}{F F' S:Nat->Prop}{r x k:Nat}{G:GS}{K:Value->World->Prop}{xb rb sb n cx:Nat}{A:Option Addr}{s:HT}{l:List HT}
theorem OE{v:World}(h:R3 v F r x k G)(hD:G.D.length<=300)(o6:k<=1000)(hs:s∈ids G.D)(hl:HS v A n l)(hn:n<=5000)(gD:∀z∈l,z∈ids G.D)(iX:∀j,(j=r\/j=x\/F j)->j≠xb/\j≠rb)
 (IE:v.heap[sb]? =some (.cells s.1 al (0,0))) (Gm:v.heap[rb]? =some (.cells zC bL (0,0))) (M9:v.heap[xb]? =some (.cells (dp ⟨s,G.score s+1,[],[]⟩ none 0 0 none 0 0) bL (0,0))) (RN:sb≠xb) (hrx:xb≠rb)
 (hK:∀u A n cp E e ce W nw cw,cf u v.heap.size A n cp (dr k G s l).merge->Row u v.heap.size jv 1 E e ce (tH (dr k G s l).gu)->cf u v.heap.size W nw cw (iz k G s l).wd->Kept (fun j=>j=xb\/j=rb) v u->K (.tuple #[.agg (dp (dr k G s l) A n cp E e ce),.slice W nw cw]) u):
 af.J1 (some ⟨r,0,none⟩) A n cx ⟨sb,0,none⟩ ⟨rb,0,none⟩ none 0 0 ⟨xb,0,none⟩ K v:=by
 have W0:=h.iC.W;have lsb:=bf IE;have lrb:=bf Gm;have lxb:=bf M9;have hwl:=sW h.iC hs;have j2:∀ {u:World} {W:Option Addr} {nw cw:Nat},cf u v.heap.size W nw cw (G.world s++ [s])->Kept Nil v u->af.J2 (some ⟨r,0,none⟩) A n cx ⟨sb,0,none⟩ ⟨rb,0,none⟩ none 0 0 ⟨xb,0,none⟩ W nw cw K u:=by
  intro u W nw cw Zt ku;have hu:=h.same ku;have su:=ku.size;unfold af.J2;refine Is.mk rfl ⟨_,hu.c1,Is.mk rfl ?_⟩;rw [add_zero];refine Ah hu.X.gr W0 (by omega) (hl.same ku) (by omega) fun A1 c1 w1 og k1=>⟨A1,_,c1,rfl,?_⟩;have rQ:(eN G.D l).length<=300:=Nat.le_trans (oh _ _) hD;have s1:=k1.size;have F9:=ku.tt k1;obtain⟨A2,c2,w2,jY,iw,g2,_⟩:=dd aF og (cx:=cx) (hl.same F9) (by omega) s1;have k2:Kept Nil u w2:=Kept.dY k1 g2 (fun j hj=>(Row.bV og hj).1);refine⟨A2,_,c2,w2,jY,?_⟩;refine oJ iw.hs (by omega) fun A3 c3 w3 nK k3=>⟨A3,_,c3,rfl,?_⟩;have MQ:=k2.tt k3;have sr:=ku.tt MQ;have h3:=h.same sr;have cY:∀z∈dC (eN G.D l++l),z∈ids G.D:=fun z hz=>by
   rcases List.mem_append.1 (dW.1 hz)with hz|hz
   ·exact(km.1 hz).1
   ·exact gD z hz
  have V3:VJ w3 v.heap.size xb rb ⟨s,G.score s+1,[],[]⟩ none 0 0 none 0 0 W nw cw (G.world s++ [s]):=
   ⟨sr.heap M9 (fun h=>h),cf.nil _ _,Row.nil _ _ _ _,Row.aK Zt MQ (fun _ _ h=>h),sr.heap Gm (fun h=>h),fun j hj=>(by cases hj),fun j hj=>(by cases hj),fun j hj=>(by cases hj),lxb,lrb,hrx⟩
  have s3:=sr.size;refine Fk h3 (by omega) (by omega) (fun j hj=>(iX j hj).1) hs (sr.heap IE (fun h=>h)) RN nK.hs (fun a ha e=>by
   subst ha;have:=(Row.bV nK (k:=a.block) rfl).1;have:=(ku.tt k2).size;omega) (jz _) cY V3 fun t A n cp M i Gj jc Vt kt=>?_
  have hM:M=cR G s l:=xP Gj fun z=>by
   rw [jc];unfold tm;rw [List.mem_filter,decide_eq_true_eq]
  subst hM;have ht:=h3.aK kt (iX r (.inl rfl)).1 (iX x (.inr (.inl rfl))).1 (fun j hj=>(iX j (.inr (.inr hj))).1);have st:=kt.size;refine Fj (B0:=v.heap.size) ht (by omega) o6 (by omega) (fun j hj=>⟨?_,iX j hj⟩) (fun z hz=>?_) hs Vt fun t2 E e ce W nw cw V2 G9=>?_
  ·rcases hj with rfl|rfl|hj
   ·exact h.lt
   ·exact h.lx
   ·exact h.lo j hj
  ·exact cY z ((jc z).1 hz).1
  ·have box:=V2.box
   obtain⟨_,_,f3⟩:=gv box (cs:=dp (dr k G s l) A n cp E e ce) (by rw [bJ];rfl);refine hK _ A n cp E e ce W nw cw (Row.aK V2.mg f3 (fun j hj e=>by have:=(Row.bV V2.mg hj).1;omega)) (Row.aK V2.bl f3 (fun j hj e=>by have:=(Row.bV V2.bl hj).1;omega)) (Row.aK V2.wr f3 (fun j hj e=>by have:=(Row.bV V2.wr hj).1;omega)) ?_;exact((sr.mono fun _ _ h=>h.elim).trans kt (fun j hj e=>.inl e)).trans G9 (fun j hj e=>by
    rcases e with e|e|e
    ·exact .inl e
    ·exact .inr e
    ·omega)
 unfold af.J1;intro w1;have k1:Kept Nil v w1:=(Kept.refl _ _).drew;clear_value w1;have h1:=h.same k1;obtain⟨i,nd,cl,wl,q1,q2,q3,q4,q5,q6,q7,q8⟩:=Ol h.iC hs;obtain⟨A0,c0,B,e,g1,g2,g3⟩:=h.top;have cB:∀ {u:World},Kept Nil v u->u.cell? ((⟨r,0,none⟩:Addr).add 3)=some (.slice B G.D.length e):=fun ku=>by rw [bE,aE (ku.heap g1 (fun h=>h))];rfl
 have gW:∀ {u:World},Kept Nil v u->qo u F B G.D.length G.la:=fun ku=>g3.aK ku (fun _ _ h=>h);obtain⟨aB,Aw,nw,cw,p1,p2,p3,p4,p5,p6⟩:=g3.at_ i wl q4;subst p1;have aij:wl.length=nw:=p5.len;rw [q7]at hwl;have cW:∀ {u:World},Kept Nil v u->u.cell? (aB.add (((i:Nat):Int).toNat*1))=some (.slice Aw nw cw):=fun ku=>by rw [Int.toNat_natCast];exact ku.cell p4 (fun h=>h)
 have hW:∀ {u:World},Kept Nil v u->HS u Aw nw wl:=fun ku=>p5.same ku;have bx:∀ {u:World},Kept Nil v u->∃cs:Array Value,(.agg s.1:Value)=.agg cs/\cs.size=32/\Cells u ⟨sb,0,none⟩ cs:=fun ku=>⟨_,rfl,s.2.1,Cells.bV (ku.heap IE (fun h=>h))⟩;have Rg:∀ {u:World},Kept Nil v u->∃A' c' u',(Builtin.append_ #[aF,aF] aF #[.slice none 0 0,.slice Aw nw cw]).run prog u=.ok (.slice A' nw c') u'/\cf u' v.heap.size A' nw c' wl/\Kept Nil u u':=fun {u} ku=>by
  obtain⟨A',c',u',hr,row,hg,_⟩:=dd (cx:=cw) aF (cf.nil u v.heap.size) (hW ku) (by omega) ku.size;rw [Nat.zero_add]at hr row;rw [List.nil_append]at row;exact⟨A',c',u',hr,row,Kept.dY (Kept.refl _ _) hg (fun j hj=>by cases hj)⟩
 have Rf:∀ {u:World} {A':Option Addr} {c' bq:Nat},Kept Nil v u->cf u v.heap.size A' nw c' wl->HS u (some ⟨bq,0,none⟩) 1 [s]->∃A2 c2 u',(Builtin.append_ #[aF,aF] aF #[.slice A' nw c',.slice (some ⟨bq,0,none⟩) 1 1]).run prog u=.ok (.slice A2 (nw+1) c2) u'/\cf u' v.heap.size A2 (nw+1) c2 (G.world s++ [s])/\Kept Nil v u':=fun {u A' c' bq} ku row hx=>by
  obtain⟨A2,c2,u',hr,iw,hg,_⟩:=dd (cx:=1) aF row hx (by omega) ku.size;rw [<-q7]at iw;exact⟨A2,c2,u',hr,iw,Kept.dY ku hg (fun j hj=>(Row.bV row hj).1)⟩
 refine Is.mk rfl ⟨some aB,_,e,cB k1,Is.mk rfl ⟨_,h1.c1,Is.mk rfl ⟨s.1,⟨s.2.1,Cells.bV (k1.heap IE (fun h=>h))⟩,s.1,⟨s.2.1,Cells.bV (k1.heap IE (fun h=>h))⟩,?_,?_⟩⟩⟩
 ·rw [add_zero]
  refine oL h1.X.gr (by omega) s fun w2 k2=>⟨_,rfl,?_⟩;have zu:=k1.tt k2;rw [q5];refine⟨bx zu,cB zu,⟨by omega,by omega⟩,Is.mk rfl ⟨Aw,nw,cw,cW zu,?_,?_⟩⟩
  ·obtain⟨A1,c1,w3,yY,nK,k3⟩:=Rg zu
   have sr:=zu.tt k3;refine⟨A1,nw,c1,w3,yY,bx sr,s.2.1,?_⟩;intro w4;have k4:Kept Nil w3 w4:=(Kept.refl _ _).alloc _;have TY:=jE w3 s;obtain⟨A2,c2,w5,sC,lD,k5⟩:=Rf (sr.tt k4) (Row.aK nK k4 (fun _ _ h=>h)) TY;exact⟨A2,nw+1,c2,w5,sC,af.qV (j2 lD k5)⟩
  ·refine⟨s.2.1,?_⟩
   intro w3;have k3:Kept Nil w2 w3:=(Kept.refl _ _).alloc _;have BR:HS w3 (some ⟨w2.heap.size,0,none⟩) 1 [s]:=jE w2 s;clear_value w3;have sr:=zu.tt k3;obtain⟨A1,c1,w4,yf,jX,k4⟩:=Rg sr;obtain⟨A2,c2,w5,sC,lD,k5⟩:=Rf (sr.tt k4) jX (BR.same k4);exact⟨cW sr,cB sr,A1,nw,c1,w4,yf,A2,nw+1,c2,w5,sC,af.qV (j2 lD k5)⟩
 ·refine⟨s.2.1,?_⟩
  intro w2;have k2:Kept Nil w1 w2:=(Kept.refl _ _).alloc _;have Lk:HS w2 (some ⟨w1.heap.size,0,none⟩) 1 [s]:=jE w1 s;clear_value w2;have zu:=k1.tt k2;refine⟨bx zu,(h.same zu).c1,cB zu,?_⟩;rw [add_zero];refine oL (h.same zu).X.gr (by omega) s fun w3 k3=>⟨_,rfl,?_⟩;have sr:=zu.tt k3;rw [q5];obtain⟨A1,c1,w4,yf,jX,k4⟩:=Rg sr;obtain⟨A2,c2,w5,sC,lD,k5⟩:=Rf (sr.tt k4) jX ((Lk.same k3).same k4);exact⟨cB sr,⟨by omega,by omega⟩,Is.mk rfl ⟨Aw,nw,cw,cW sr,A1,nw,c1,w4,yf,A2,nw+1,c2,w5,sC,af.qV (j2 lD k5)⟩⟩
theorem qQ(h:R3 w F r x k G)(hD:G.D.length<=300)(o6:k<=1000)(hs:s∈ids G.D)(hl:HS w A n l)(hn:n<=5000)(gD:∀z∈l,z∈ids G.D)
 (hK:∀u A n cp E e ce W nw cw,cf u w.heap.size A n cp (dr k G s l).merge->Row u w.heap.size jv 1 E e ce (tH (dr k G s l).gu)->cf u w.heap.size W nw cw (iz k G s l).wd->Kept Nil w u->K (.tuple #[.agg (dp (dr k G s l) A n cp E e ce),.slice W nw cw]) u):
 bG prog af.id #[.pointer (some ⟨r,0,none⟩),.agg s.1,.slice A n cx] w K:=by
 refine af.of ?_;unfold af.W;intro w1 w2 w3;have k1:Kept Nil w w1:=(Kept.refl _ _).alloc _;have wM:w1.heap[w.heap.size]? =some (.cells s.1 al (0,0)):=aM w _;have k2:Kept Nil w1 w2:=(Kept.refl _ _).alloc _;have jY:w2.heap[w1.heap.size]? =some (.cells zC bL (0,0)):=aM w1 _;have k3:Kept Nil w2 w3:=(Kept.refl _ _).drew;clear_value w3;have yY:=k3.heap jY (fun h=>h);have CP:=k3.heap (k2.heap wM (fun h=>h)) (fun h=>h);have jF:=(k1.tt k2).tt k3;have s1:=k1.size;have l1:=bf wM;have l2:=bf yY;clear_value w2 w1;have EA:=zZ h.iC hs;have ew:u64.wrap ((G.score s:Int)+(1:Int))=((G.score s+1:Nat):Int):=by
  rw [show(G.score s:Int)+1=((G.score s+1:Nat):Int)by omega];exact kz (by omega)
 have GH:(s.1++ #[.int .u64 ((G.score s+1:Nat):Int),.slice none 0 0,.slice none 0 0]:Array Value)=dp ⟨s,G.score s+1,[],[]⟩ none 0 0 none 0 0:=rfl;have go:∀ {u:World} {xb:Nat},Kept Nil w3 u->w3.heap.size<=xb->u.heap[xb]? =some (.cells (dp ⟨s,G.score s+1,[],[]⟩ none 0 0 none 0 0) bL (0,0))->af.J1 (some ⟨r,0,none⟩) A n cx ⟨w.heap.size,0,none⟩ ⟨w1.heap.size,0,none⟩ none 0 0 ⟨xb,0,none⟩ K u:=fun {u xb} ku hx M9=>by
  have MZ:=jF.tt ku;have s0:=jF.size;refine OE (h.same MZ) hD o6 hs (hl.same MZ) hn gD (fun j hj=>?_) (ku.heap CP (fun h=>h)) (ku.heap yY (fun h=>h)) M9 (by omega) (by omega) fun t A n cp E e ce W nw cw g1 g2 g3 g4=>?_
  ·have:j<w.heap.size:=by
    rcases hj with rfl|rfl|hj
    ·exact h.lt
    ·exact h.lx
    ·exact h.lo j hj
   exact⟨by omega,by omega⟩
  ·have s0u:=MZ.size
   exact hK t A n cp E e ce W nw cw (Row.base g1 (fun j hj=>by have:=(Row.bV g1 hj).1;omega)) (Row.base g2 (fun j hj=>by have:=(Row.bV g2 hj).1;omega)) (Row.base g3 (fun j hj=>by have:=(Row.bV g3 hj).1;omega)) (MZ.trans g4 (fun j hj e=>by rcases e with e|e<;>omega))
 have bx:∀ {u:World},Kept Nil w3 u->∃cs:Array Value,(.agg s.1:Value)=.agg cs/\cs.size=32/\Cells u ⟨w.heap.size,0,none⟩ cs:=fun ku=>⟨_,rfl,s.2.1,Cells.bV (ku.heap CP (fun h=>h))⟩;refine⟨s.1,⟨s.2.1,Cells.bV CP⟩,s.1,⟨s.2.1,Cells.bV CP⟩,?_,?_⟩
 ·refine lr (h.same jF) (by omega) hs fun w4 k4=>⟨_,rfl,bx k4,?_⟩
  rw [ew,wB s];refine Is.mk rfl ?_;rw [GH];intro w5;have k5:Kept Nil w4 w5:=(Kept.refl _ _).alloc _;have RL:w5.heap[w4.heap.size]? =some (.cells zC bL (0,0)):=aM w4 _;clear_value w5;have nn:=k4.tt k5;obtain⟨t1,t2,t3⟩:=gv RL (cs:=dp ⟨s,G.score s+1,[],[]⟩ none 0 0 none 0 0) (by rw [bJ];rfl);refine⟨bx nn,⟨bJ ..,fF _ _ _ _ _ _ _,fun j hj=>t1 j (by rw [bJ];exact hj)⟩,?_⟩;have s4:=k4.size;exact af.kW (go (nn.trans t3 (fun j hj e=>by omega)) s4 t2)
 ·intro w4
  have k4:Kept Nil w3 w4:=(Kept.refl _ _).alloc _;have TY:w4.heap[w3.heap.size]? =some (.cells zC bL (0,0)):=aM w3 _;clear_value w4;refine⟨bx k4,bx k4,?_⟩;refine lr (h.same (jF.tt k4)) (by omega) hs fun w5 k5=>⟨_,rfl,bx (k4.tt k5),?_⟩;have nn:=k4.tt k5;rw [ew,wB s];refine Is.mk rfl ?_;rw [GH];obtain⟨t1,t2,t3⟩:=gv (k5.heap TY (fun h=>h)) (cs:=dp ⟨s,G.score s+1,[],[]⟩ none 0 0 none 0 0) (by rw [bJ];rfl);refine⟨⟨bJ ..,fF _ _ _ _ _ _ _,fun j hj=>t1 j (by rw [bJ];exact hj)⟩,?_⟩;exact af.kW (go (nn.trans t3 (fun j hj e=>by omega)) (Nat.le_refl _) t2)
end
theorem D5:zF prog uO bL 35 88:=⟨by kernel_rfl,by kernel_rfl⟩
theorem SA:zF prog gg aF 1 24:=⟨by kernel_rfl,by kernel_rfl⟩
section
variable{w w':World}{F F' S:Nat->Prop}{A:Option Addr}{n c B m bytes:Nat}{tS tE:TypeId}{news:List Value}
theorem zY{a:Addr}(P:Nat->Array Value->Prop):∀n,(∀i,i<n->∃arr:Array Value,arr.size=m/\(∀u∈arr.toList,u.oneCell'=true)/\Cells w (a.add (i*m)) arr/\P i arr)->
 ∃news:List Value,news.length=n*m/\(∀j u,news[j]? =some u->w.cell? (a.add j)=some u)/\(∀u∈news,u.oneCell'=true)/\∀i,i<n->∃arr:Array Value,P i arr/\arr.size=m/\∀(j:Nat) v,arr[j]? =some v->news[i*m+j]? =some v
 |0,_=>⟨[],by simp,fun j u h=>by simp at h,fun u h=>by simp at h,fun i h=>by omega⟩
 |n+1,H=>by
  obtain⟨news,h1,h2,h3,h4⟩:=zY P n fun i hi=>H i (by omega);obtain⟨arr,g1,g2,g3,g4⟩:=H n (by omega);refine⟨news++arr.toList,by rw [List.length_append,h1,Array.length_toList,g1,Nat.add_mul,Nat.one_mul],fun j u hj=>?_,fun u hu=>?_,fun i hi=>?_⟩
  ·rw [List.getElem?_append]at hj
   split at hj
   ·exact h2 j u hj
   ·rename_i gH
    rw [h1]at hj gH;have:=g3 (j-n*m) u (by simpa using hj)
    rwa [lZ,show n*m+(j-n*m)=j by omega]at this
  ·rcases List.mem_append.1 hu with hu|hu
   ·exact h3 u hu
   ·exact g2 u hu
  ·by_cases gD:i<n
   ·obtain⟨ar,q1,q2,q3⟩:=h4 i gD
    exact⟨ar,q1,q2,fun j v hj=>by
     have:=q3 j v hj;rw [List.getElem?_append_left (lgeS this).1];exact this⟩
   ·obtain rfl:i=n:=by omega
    exact⟨arr,g4,g1,fun j v hj=>by
     rw [List.getElem?_append_right (by omega),h1,show i*m+j-i*m=j by omega,Array.getElem?_toList];exact hj⟩
theorem zn(T:zF prog tS tE m bytes)(hb:bytes<=1000)(hn:n<=100000){a:Addr}{cx:Nat}(P:Nat->Array Value->Prop)(H:∀i,i<n->∃arr:Array Value,arr.size=m/\(∀u∈arr.toList,u.oneCell'=true)/\Cells w (a.add (i*m)) arr/\P i arr):
 ∃A' c' w' news,(Builtin.append_ #[tS,tS] tS #[.slice none 0 0,.slice (some a) n cx]).run prog w=.ok (.slice A' n c') w'/\Row w' w.heap.size tE m A' n c' news/\Kept Nil w w'/\∀i,i<n->∃arr:Array Value,P i arr/\arr.size=m/\∀(j:Nat) v,arr[j]? =some v->news[i*m+j]? =some v:=by
 obtain⟨news,e1,e2,e3,e4⟩:=zY (w:=w) (m:=m) P n H;obtain⟨A',c',w',hr,fP,hg,_⟩:=fZ (P:=prog) (ty:=tS) T (Row.nil w w.heap.size _ _) (a:=a) (m:=n) (cx:=cx) (news:=news) e1 e2 e3 (by rw [Nat.zero_add];have:=Nat.mul_le_mul hn hb;omega) (by unfold maxLen;omega) (Nat.le_refl _);rw [Nat.zero_add]at hr fP;rw [List.nil_append]at fP;exact⟨A',c',w',news,hr,fP,Kept.dY (Kept.refl _ _) hg (fun j hj=>by cases hj),e4⟩
theorem zm(T:zF prog tS tE m bytes)(hb:bytes<=1000)(hn:n<=100000)(h:Row w B tE m A n c news)(hB:B<=w.heap.size){b:Nat}{arr:Array Value}{t:TypeId}(kh:w.heap[b]? =some (.cells arr t (0,0)))(hs:arr.size=m)(h1:∀u∈arr.toList,u.oneCell'=true):
 ∃A' c' w',(Builtin.append_ #[tS,tS] tS #[.slice A n c,.slice (some ⟨b,0,none⟩) 1 1]).run prog w=.ok (.slice A' (n+1) c') w'/\Row w' B tE m A' (n+1) c' (news++arr.toList)/\w.grownBy w' (bI A):=by
 obtain⟨A',c',w',hr,fP,hg,_⟩:=fZ (P:=prog) (ty:=tS) T h (a:=⟨b,0,none⟩) (m:=1) (cx:=1) (news:=arr.toList) (by simpa using hs)
  (fun j u hj=>by rw [bE,Nat.zero_add,aE kh];simpa using hj) h1 (by have:=Nat.mul_le_mul (show n+1<=100001 by omega) hb;omega) (by unfold maxLen;omega) hB
 exact⟨A',c',w',hr,fP,hg⟩
def JQ(w:World)(F:Nat->Prop)(l:List pB)(i:Nat)(arr:Array Value):Prop:=∃x A1 n1 c1 B1 m1 d1,l[i]? =some x/\arr=dp x A1 n1 c1 B1 m1 d1/\HS w A1 n1 x.merge/\Bo w B1 m1 x.gu/\(∀b,A1=some b->F b.block)/\(∀b,B1=some b->F b.block)
def Rk(w:World)(F:Nat->Prop)(l:List (List HT))(i:Nat)(arr:Array Value):Prop:=∃x A1 n1 c1,l[i]? =some x/\arr= #[.slice A1 n1 c1]/\HS w A1 n1 x/\(∀b,A1=some b->F b.block)
theorem rL.zY{l:List pB}(h:rL w F A n l):(0<n->∃a,A=some a)/\∀a,A=some a->∀i,i<n->∃arr:Array Value,arr.size=35/\(∀u∈arr.toList,u.oneCell'=true)/\Cells w (a.add (i*35)) arr/\JQ w F l i arr:=by
 have hl:=h.len;refine⟨fun h0=>?_,fun a ha i hi=>?_⟩
 ·obtain⟨x,hx⟩:∃x,l[0]? =some x:=⟨_,List.getElem?_eq_getElem (by omega)⟩
  obtain⟨a,_,_,_,_,_,_,g1,_⟩:=h.at_ 0 x hx;exact⟨a,g1⟩
 ·obtain⟨x,hx⟩:∃x,l[i]? =some x:=⟨_,List.getElem?_eq_getElem (by omega)⟩
  obtain⟨a',A1,n1,c1,B1,m1,d1,g1,g2,g3,g4,g5,g6,g7,g8⟩:=h.at_ i x hx;rw [ha]at g1;cases g1;exact⟨_,bJ ..,fF _ _ _ _ _ _ _,g4,x,A1,n1,c1,B1,m1,d1,hx,rfl,g5,g6,g7,g8⟩
theorem qo.zY{l:List (List HT)}(h:qo w F A n l):(0<n->∃a,A=some a)/\∀a,A=some a->∀i,i<n->∃arr:Array Value,arr.size=1/\(∀u∈arr.toList,u.oneCell'=true)/\Cells w (a.add (i*1)) arr/\Rk w F l i arr:=by
 have hl:=h.len;refine⟨fun h0=>?_,fun a ha i hi=>?_⟩
 ·obtain⟨x,hx⟩:∃x,l[0]? =some x:=⟨_,List.getElem?_eq_getElem (by omega)⟩
  obtain⟨a,_,_,_,g1,_⟩:=h.at_ 0 x hx;exact⟨a,g1⟩
 ·obtain⟨x,hx⟩:∃x,l[i]? =some x:=⟨_,List.getElem?_eq_getElem (by omega)⟩
  obtain⟨a',A1,n1,c1,g1,g2,g3,g4,g5,g6⟩:=h.at_ i x hx;rw [ha]at g1;cases g1;refine⟨#[.slice A1 n1 c1],rfl,fun u hu=>?_,fun j u hj=>?_,x,A1,n1,c1,hx,rfl,g5,g6⟩
  ·simp at hu;subst hu;rfl
  ·cases j with
   |zero=>simp at hj;subst hj;rw [add_zero];exact g4
   |succ j=>simp at hj
theorem rL.snoc{l:List pB}{x:pB}{A1 B1:Option Addr}{n1 c1 m1 d1:Nat}{w0:World}(h:Row w B bL 35 A (n+1) c (news++(dp x A1 n1 c1 B1 m1 d1).toList))(zB:news.length=n*35)(hl:l.length=n)(k0:Kept Nil w0 w)(hF:∀j,bI A=some j->F' j)(YD:∀j,F j->F' j)
 (hc:∀i,i<n->∃arr:Array Value,JQ w0 F l i arr/\arr.size=35/\∀(j:Nat) v,arr[j]? =some v->news[i*35+j]? =some v)
 (g1:HS w A1 n1 x.merge) (g2:Bo w B1 m1 x.gu) (g3:∀b,A1=some b->F' b.block) (g4:∀b,B1=some b->F' b.block):rL w F' A (n+1) (l++ [x]):=by
 refine⟨by simp [hl],fun i y hi=>?_⟩;obtain⟨b,rfl⟩:=Row.some h (by omega);obtain⟨_,cur,pZ⟩:=Row.bV h (k:=b) rfl;rw [List.getElem?_append]at hi;split at hi
 ·rename_i di
  obtain⟨arr,⟨y',A2,n2,c2,B2,m2,d2,q1,rfl,q3,q4,q5,q6⟩,q7,q8⟩:=hc i (by omega);rw [hi]at q1;cases q1;exact⟨_,A2,n2,c2,B2,m2,d2,rfl,bf pZ,hF b rfl,fun j v hj=>by
   rw [lZ];have:=q8 j v hj;exact Row.cells h _ _ (by rw [List.getElem?_append_left (lgeS this).1];exact this),q3.same k0,q4.same k0,fun b hb=>YD _ (q5 b hb),fun b hb=>YD _ (q6 b hb)⟩
 ·rename_i gH
  have Gt:i=n/\y=x:=by
   cases hk:i-l.length with
   |zero=>rw [hk]at hi;exact⟨by omega,by simpa using hi.symm⟩
   |succ k=>rw [hk]at hi;simp at hi
  obtain⟨rfl,rfl⟩:=Gt;exact⟨_,A1,n1,c1,B1,m1,d1,rfl,bf pZ,hF b rfl,fun j v hj=>by
   rw [lZ];exact Row.cells h _ _ (by rw [List.getElem?_append_right (by omega),zB,show i*35+j-i*35=j by omega,Array.getElem?_toList];exact hj),g1,g2,g3,g4⟩
theorem qo.snoc{l:List (List HT)}{x:List HT}{A1:Option Addr}{n1 c1:Nat}{w0:World}(h:Row w B aF 1 A (n+1) c (news++(#[.slice A1 n1 c1]:Array Value).toList))(zB:news.length=n*1)(hl:l.length=n)(k0:Kept Nil w0 w)(hF:∀j,bI A=some j->F' j)(YD:∀j,F j->F' j)
 (hc:∀i,i<n->∃arr:Array Value,Rk w0 F l i arr/\arr.size=1/\∀(j:Nat) v,arr[j]? =some v->news[i*1+j]? =some v)
 (g1:HS w A1 n1 x) (g3:∀b,A1=some b->F' b.block):qo w F' A (n+1) (l++ [x]):=by
 refine⟨by simp [hl],fun i y hi=>?_⟩;obtain⟨b,rfl⟩:=Row.some h (by omega);obtain⟨_,cur,pZ⟩:=Row.bV h (k:=b) rfl;rw [List.getElem?_append]at hi;split at hi
 ·rename_i di
  obtain⟨arr,⟨y',A2,n2,c2,q1,rfl,q3,q4⟩,q7,q8⟩:=hc i (by omega);rw [hi]at q1;cases q1;have:=q8 0 _ rfl;exact⟨_,A2,n2,c2,rfl,bf pZ,hF b rfl,Row.cells h _ _ (by rw [Nat.add_zero]at this;rw [List.getElem?_append_left (lgeS this).1];exact this),q3.same k0,fun b hb=>YD _ (q4 b hb)⟩
 ·rename_i gH
  have Gt:i=n/\y=x:=by
   cases hk:i-l.length with
   |zero=>rw [hk]at hi;exact⟨by omega,by simpa using hi.symm⟩
   |succ k=>rw [hk]at hi;simp at hi
  obtain⟨rfl,rfl⟩:=Gt;exact⟨_,A1,n1,c1,rfl,bf pZ,hF b rfl,Row.cells h _ _ (by rw [List.getElem?_append_right (by omega),zB,show i*1-i*1=0 by omega];rfl),g1,g3⟩
end
section
variable{w w':World}{F:Nat->Prop}{r x k:Nat}{G:GS}{K:Value->World->Prop}
theorem yJ(root:HT)(k:Nat)(hK:∀v r x F,R3 v F r x k (fh root)->(∀j,F j->w.heap.size<=j)->w.heap.size<=r->w.heap.size<=x->Kept Nil w v->K (.pointer (some ⟨r,0,none⟩)) v):
 bG prog kQ.id #[.int .i64 (k:Int),.agg root.1] w K:=by
 refine kQ.of ?_;unfold kQ.W;intro w1;have k1:Kept Nil w w1:=(Kept.refl _ _).alloc _;have Bi:w1.heap[w.heap.size]? =some (.cells root.1 al (0,0)):=aM w _;clear_value w1;refine⟨root.1,⟨root.2.1,Cells.bV Bi⟩,?_⟩;refine yL root fun w2 x FX hX hFX hx k2=>⟨_,rfl,rfl,?_⟩;have mu:=k1.tt k2;intro w3 w4 w5;have k3:Kept Nil w2 w3:=(Kept.refl _ _).alloc _;have VT:w3.heap[w2.heap.size]? =some (.cells zC bL (0,0)):=aM w2 _;have k4:Kept Nil w3 w4:=(Kept.refl _ _).alloc _;have hw4:w4.heap[w3.heap.size]? =some (.cells #[.slice none 0 0] aF (0,0)):=aM w3 _;have k5:Kept Nil w4 w5:=(Kept.refl _ _).alloc _;have ht5:w5.heap[w4.heap.size]? =some (.cells #[.int .i64 (k:Int),.pointer (some ⟨x,0,none⟩),.slice (some ⟨w2.heap.size,0,none⟩) 1 1,.slice (some ⟨w3.heap.size,0,none⟩) 1 1] iF (0,0)):=aM w4 _;clear_value w5;have hw5:=k5.heap hw4 (fun h=>h);have hc5:=k5.heap (k4.heap VT (fun h=>h)) (fun h=>h);have Ie:=(k3.tt k4).tt k5;have s02:=mu.size;have l3:=bf VT;have l4:=bf hw4;have l5:=bf ht5;have s1:=k1.size;have s2:=k2.size;have lx:=hX.lt;clear_value w4 w3;refine hK w5 w4.heap.size x (fun j=>FX j\/j=w2.heap.size\/j=w3.heap.size) ⟨⟨some ⟨w2.heap.size,0,none⟩,1,some ⟨w3.heap.size,0,none⟩,1,ht5,⟨rfl,fun i y hi=>?_⟩,⟨rfl,fun i y hi=>?_⟩⟩,(hX.same Ie).mono (fun j e=>.inl e) (fun e=>?_),fun e=>?_,by omega,mO k root,fun j e=>?_⟩ (fun j e=>?_) (by omega) (by omega) (mu.tt Ie)
 ·cases i with
  |zero=>
   have:y=⟨fH,0,[],[]⟩:=by simpa [fh]using hi.symm
   subst this;refine⟨_,none,0,0,none,0,0,rfl,by show w2.heap.size<_;omega,.inr (.inl rfl),fun j u hj=>?_,HS.nil _ _,⟨rfl,fun i b h=>by simp at h⟩,fun b hb=>(by cases hb),fun b hb=>(by cases hb)⟩;rw [Nat.zero_mul,add_zero,bE,Nat.zero_add,aE hc5];exact hj
  |succ i=>simp [fh]at hi
 ·cases i with
  |zero=>
   have:y= []:=by simpa [fh]using hi.symm
   subst this;refine⟨_,none,0,0,rfl,by show w3.heap.size<_;omega,.inr (.inr rfl),?_,HS.nil _ _,fun b hb=>(by cases hb)⟩;rw [Nat.zero_mul,add_zero,aE hw5];rfl
  |succ i=>simp [fh]at hi
 ·rcases e with e|e|e
  ·exact hX.iX e
  ·omega
  ·omega
 ·rcases e with e|e|e
  ·have:=(hFX _ e).2;omega
  ·omega
  ·omega
 ·rcases e with e|e|e
  ·have:=(hFX _ e).2;omega
  ·omega
  ·omega
 ·rcases e with e|e|e
  ·have:=(hFX _ e).1;omega
  ·omega
  ·omega
end
section
variable{w w':World}{F:Nat->Prop}{r x k:Nat}{G:GS}{K:Value->World->Prop}{A:Option Addr}{n cx:Nat}{l:List HT}
set_option maxHeartbeats 2000000 in
theorem yK(h:R3 w F r x k G)(hD:G.D.length<=300)(o6:k<=1000)(hl:HS w A n l)(hn:n<=5000)(id:HT)
 (hE:dU G.D id l≠0->∀w',Kept Nil w w'->K (.tuple #[.agg Mm,.int .i64 (dU G.D id l)]) w')
 (hO:dU G.D id l=0->∀w' A n c B e ce,R3 w' (fun j=>F j\/(w.heap.size<=j/\j<w'.heap.size)) r x k (eZ k G id l)->Kept (fun j=>j=r\/j=x) w w'->HS w' A n (dr k G (bS G l) l).merge->Bo w' B e (dr k G (bS G l) l).gu->(∀a,A=some a\/B=some a->w.heap.size<=a.block)->K (.tuple #[.agg (dp (dr k G (bS G l) l) A n c B e ce),.int .i64 0]) w'):
 bG prog dS.id #[.pointer (some ⟨r,0,none⟩),.agg id.1,.slice A n cx] w K:=by
 have W0:=h.iC.W;have Yi:=h.lt;have Nz:=h.lx;refine dS.of ?_;unfold dS.W;intro w1 w2;have k1:Kept Nil w w1:=(Kept.refl _ _).alloc _;have LJ:w1.heap[w.heap.size]? =some (.cells id.1 al (0,0)):=aM w _;have k2:Kept Nil w1 w2:=(Kept.refl _ _).alloc _;have jY:w2.heap[w1.heap.size]? =some (.cells zC bL (0,0)):=aM w1 _;clear_value w2;have BV:=k2.heap LJ (fun h=>h);have mu:=k1.tt k2;have s1:=k1.size;have l1:=bf LJ;have l2:=bf jY;clear_value w1;have h2:=h.same mu;obtain⟨A0,c0,B0,e0,sl,g1,g2,g3,g4,g5⟩:=h2.X.ex;refine Is.mk rfl ⟨_,h2.c1,Is.mk rfl ⟨#[.slice A0 G.D.length c0],⟨rfl,fun j u hj=>?_⟩,?_⟩⟩
 ·cases j with
  |zero=>simp at hj;subst hj;rw [add_zero,add_zero,aE g1];rfl
  |succ j=>simp at hj
 intro w3;have k3:Kept Nil w2 w3:=(Kept.refl _ _).alloc _;have Vy:w3.heap[w2.heap.size]? =some (.cells #[.slice none 0 0] iZ (0,0)):=aM w2 _;clear_value w3;obtain⟨t1,t2,t3⟩:=gv Vy (cs:= #[.slice A0 G.D.length c0]) rfl;refine⟨⟨rfl,fun u hu=>by simp at hu;subst hu;rfl,fun j hj=>t1 j hj⟩,?_⟩;intro w4
 replace t2:w4.heap[w2.heap.size]? =some (.cells #[.slice A0 G.D.length c0] iZ (0,0)):=t2
 replace t3:Kept (· =w2.heap.size) w3 w4:=t3
 clear_value w4;have rO:Kept Nil w2 w4:=k3.trans t3 (fun j hj e=>by omega);have mh:=mu.tt rO;have s2:=mu.size;refine⟨id.1,⟨id.2.1,Cells.bV (rO.heap BV (fun h=>h))⟩,?_⟩;have hIR:uZ w4 F w2.heap.size G.D:=⟨⟨A0,c0,_,_,t2,rfl,g2.same rO⟩,fun e=>by have:=h.lo _ e;omega⟩;refine Ed hIR W0 (by omega) (hl.same mh) (by omega) fun w5 _ k5=>⟨_,rfl,?_⟩;have Ie:Kept Nil w2 w5:=rO.trans k5 (fun j hj e=>by omega);have nC:=mu.tt Ie;have sC:=Ie.heap jY (fun h=>h);have LI:=Ie.heap BV (fun h=>h);by_cases hc:dU G.D id l≠0
 ·obtain⟨f1,f2,f3⟩:=gv sC (cs:=zC) rfl
  refine Split.yes (by simpa using hc) ⟨⟨rfl,by show ∀u∈(Mm:Array Value).toList,_;exact fF _ _ _ _ _ _ _,fun j hj=>f1 j hj⟩,?_⟩;exact⟨_,⟨rfl,Cells.bV f2⟩,hE hc _ (nC.trans f3 (fun j hj e=>by omega))⟩
 have hc:dU G.D id l=0:=by omega
 refine Split.no (by rw [hc];rfl) ?_;obtain⟨_,fX,_,cY⟩:=lP hc;have gD:∀z∈l,z∈ids G.D:=fun z hz=>cY z (dW.2 hz);refine oZ (h.same nC) (by omega) (hl.same nC) fX (by omega) gD fun w6 k6=>⟨_,rfl,?_⟩;have Ge:=Ie.tt k6;have np:=mu.tt Ge;generalize oN:bS G l=s;have BS:s∈l:=by rw [<-oN];exact jI fX
 intro w7;have k7:Kept Nil w6 w7:=(Kept.refl _ _).alloc _;have hb7:w7.heap[w6.heap.size]? =some (.cells fH.1 al (0,0)):=aM w6 _;clear_value w7;obtain⟨q1,q2,q3⟩:=jf s hb7 rfl;refine⟨q1,?_⟩;intro w8
 replace q2:w8.heap[w6.heap.size]? =some (.cells s.1 al (0,0)):=q2
 replace q3:Kept (· =w6.heap.size) w7 w8:=q3
 clear_value w8;have XQ:Kept Nil w6 w8:=k7.trans q3 (fun j hj e=>by omega);have Ic:=Ge.tt XQ;have zx:=mu.tt Ic;have s06:=np.size;have s08:=zx.size;have s28:=Ic.size;refine⟨s.1,⟨s.2.1,Cells.bV q2⟩,?_⟩;refine qQ (h.same zx) hD o6 (gD s BS) (hl.same zx) hn gD fun w9 Am nm cm E e ce Wd nw cw rm rb rw9 k9=>⟨_,Wd,nw,cw,rfl,?_⟩;have Lb:=Ic.tt k9;have BP:=mu.tt Lb;have s09:=BP.size;have s89:=k9.size;intro w10;have rP:Kept Nil w9 w10:=(Kept.refl _ _).alloc _;have ace:w10.heap[w9.heap.size]? =some (.cells zC bL (0,0)):=aM w9 _;clear_value w10;obtain⟨f1,f2,f3⟩:=gv ace (cs:=dp (dr k G s l) Am nm cm E e ce) (by rw [bJ];rfl);refine⟨⟨bJ ..,fF _ _ _ _ _ _ _,fun j hj=>f1 j (by rw [bJ];exact hj)⟩,?_⟩;intro xF nx
 replace f2:xF.heap[w9.heap.size]? =some (.cells (dp (dr k G s l) Am nm cm E e ce) bL (0,0)):=f2
 replace f3:Kept (· =w9.heap.size) w10 xF:=f3
 have zw:Kept Nil xF nx:=(Kept.refl _ _).drew;clear_value nx;have VV:=zw.heap f2 (fun h=>h);have Pb:Kept Nil w9 nx:=(rP.trans f3 (fun j hj e=>by omega)).tt zw;clear_value xF;have Pj:=Lb.tt Pb;have tw:=mu.tt Pj;have aha:=tw.size;have ahB:=bf VV;have BX:=h.same tw;refine Is.mk rfl ⟨_,BX.c1,id.1,⟨id.2.1,Cells.bV (Pj.heap BV (fun h=>h))⟩,s.1,⟨s.2.1,Cells.bV ((k9.tt Pb).heap q2 (fun h=>h))⟩,?_⟩;refine FJ BX.X BX.lo (by omega) (hl.same tw) (by omega) fun pD Ww CD=>⟨_,rfl,?_⟩;have eX:oz G.D id s l=(eZ k G id l).D/\oy G.D G.P id s l=(eZ k G id l).P:=by rw [<-oN];exact⟨JK.symm,JL.symm⟩
 rw [eX.1,eX.2]at Ww;intro jl;have JZ:Kept Nil pD jl:=(Kept.refl _ _).drew;clear_value jl;have AR:Kept (· =x) nx jl:=CD.trans JZ (fun _ _ h=>h.elim);have Ew:Kept (· =x) w jl:=(tw.mono fun _ _ h=>h.elim).tt AR;have aec:=AR.size;have xf:=mW (k:=k) (G:=G) (h:=id) (ps:=l) hc;rw [oN]at xf;obtain⟨A1,c1,B1,e1,p1,p2,p3⟩:=h.top;have OZ:=Ew.heap p1 h.ne;have OY:rL jl F A1 G.D.length G.sN:=p2.aK Ew (fun j hj e=>h.X.iX (by rw [<-e];exact hj));have Zw:qo jl F B1 G.D.length G.la:=p3.aK Ew (fun j hj e=>h.X.iX (by rw [<-e];exact hj));have jT:=W0.pos;obtain⟨⟨a1,ha1⟩,Nj⟩:=(⟨OY.zY.1 jT,OY.zY.2⟩:(∃a,A1=some a)/\_);subst ha1;have QG:=AR.heap VV (by omega);have aaQ:=AR.heap (Pj.heap jY (fun h=>h)) (by omega);have bm:∀j,bI Am=some j->w8.heap.size<=j/\j<w9.heap.size:=fun j hj=>by obtain⟨z1,cur,z2⟩:=Row.bV rm hj;exact⟨z1,bf z2⟩
 have bb:∀j,bI E=some j->w8.heap.size<=j/\j<w9.heap.size:=fun j hj=>by obtain⟨z1,cur,z2⟩:=Row.bV rb hj;exact⟨z1,bf z2⟩
 have bw:∀j,bI Wd=some j->w8.heap.size<=j/\j<w9.heap.size:=fun j hj=>by obtain⟨z1,cur,z2⟩:=Row.bV rw9 hj;exact⟨z1,bf z2⟩
 have K3:Kept (· =x) w9 jl:=(Pb.mono fun _ _ h=>h.elim).tt AR;have agS:=K3.size;have S8:HS jl Am nm (dr k G s l).merge:=(cf.hs rm).aK K3 (fun a ha e=>by have:=bm a.block (by rw [ha];rfl);omega);have Xf:Bo jl E e (dr k G s l).gu:=(Row.bo rb).aK K3 (fun a ha e=>by have:=bb a.block (by rw [ha];rfl);omega);have Zb:HS jl Wd nw (iz k G s l).wd:=(cf.hs rw9).aK K3 (fun a ha e=>by have:=bw a.block (by rw [ha];rfl);omega);have bF:∀ {A:Option Addr} {b:Addr},(∀j,bI A=some j->w8.heap.size<=j/\j<w9.heap.size)->A=some b->w.heap.size<=b.block/\b.block<jl.heap.size:=fun hA hb=>by
  have:=hA _ (by rw [hb];rfl);omega
 rw [oN]at hO;have tail:∀ {u:World} {Aa:Option Addr} {ca:Nat} {news:List Value},Row u jl.heap.size bL 35 Aa (G.D.length+1) ca (news++(dp (dr k G s l) Am nm cm E e ce).toList)->news.length=G.D.length*35->(∀i,i<G.D.length->∃arr:Array Value,JQ jl F G.sN i arr/\arr.size=35/\∀(j:Nat) v,arr[j]? =some v->news[i*35+j]? =some v)->Kept Nil jl u->
  Wr u ((⟨r,0,none⟩:Addr).add 2)/\let a3:=u.setCell ((⟨r,0,none⟩:Addr).add 2) (.slice Aa (G.D.length+1) ca);Is (some (⟨r,0,none⟩:Addr)) fun b3:Addr=>∃c3:Option Addr,∃d3 e3:Nat,a3.cell? (b3.add 3)=some (.slice c3 d3 e3)/\∃(f3:Option Addr) (g3 i3:Nat) (j3:World),(Builtin.append_ #[gg,gg] gg #[.slice none 0 0,.slice c3 d3 e3]).run prog a3=.ok (.slice f3 g3 i3) j3/\let k3:=j3.alloc (.cells #[.slice Wd nw cw] aF);∃(m3:Option Addr) (n3 o3:Nat) (p3:World),(Builtin.append_ #[gg,gg] gg #[.slice f3 g3 i3,.slice (some (aV j3.heap.size)) 1 1]).run prog k3=.ok (.slice m3 n3 o3) p3/\Is (some (⟨r,0,none⟩:Addr)) fun q3:Addr=>Wr p3 (q3.add 3)/\let r3:=p3.setCell (q3.add 3) (.slice m3 n3 o3);∃t3:Array Value,(t3.size=35/\Cells r3 (aV w9.heap.size) t3)/\(t3.size=35/\(∀u3∈t3.toList,u3.oneCell'=true)/\∀v3,v3<35->Wr r3 ((aV w1.heap.size).add v3))/\let x3:=setCells r3 (aV w1.heap.size) t3.toList 0;∃y3:Array Value,(y3.size=35/\Cells x3 (aV w1.heap.size) y3)/\K (.tuple #[.agg y3,.int .i64 0]) x3:=by
  intro u Aa ca news row zB vY ku;have pu:=ku.heap OZ (fun h=>h);have su:=ku.size;refine⟨by rw [bE];exact dQ pu (by simp),?_⟩;intro u1;have pu1:u1.heap[r]? =some (.cells #[.int .i64 (k:Int),.pointer (some ⟨x,0,none⟩),.slice Aa (G.D.length+1) ca,.slice B1 G.D.length e1] iF (0,0)):=by
   show(u.setCell ((⟨r,0,none⟩:Addr).add 2) (.slice Aa (G.D.length+1) ca)).heap[r]? =_;rw [bE,du pu];rfl
  have F9:Kept (· =r) u u1:=by
   show Kept (· =r) u (u.setCell ((⟨r,0,none⟩:Addr).add 2) (.slice Aa (G.D.length+1) ca))
   rw [bE];exact Kept.setCell (S:=(· =r)) (Kept.refl _ u) (p:=⟨r,0+2,none⟩) (fun _=>rfl) _
  clear_value u1;have Im:Kept (· =r) jl u1:=(ku.mono fun _ _ h=>h.elim).tt F9;have pw1:qo u1 F B1 G.D.length G.la:=Zw.aK Im (fun j hj e=>h.iX (by rw [<-e];exact hj));obtain⟨⟨b1,Bi⟩,Uc⟩:=(⟨pw1.zY.1 jT,pw1.zY.2⟩:(∃a,B1=some a)/\_);subst Bi;obtain⟨Aw,c2,u2,nws,Lr,iw,G9,hcw⟩:=zn (w:=u1) SA (by omega) (by omega) (cx:=e1) (Rk u1 F G.la) (Uc b1 rfl);refine Is.mk rfl ⟨some b1,G.D.length,e1,by rw [bE,aE pu1];rfl,Aw,_,c2,u2,Lr,?_⟩;intro u3;have Gd:Kept Nil u2 u3:=(Kept.refl _ _).alloc _;have BR:u3.heap[u2.heap.size]? =some (.cells #[.slice Wd nw cw] aF (0,0)):=aM u2 _;clear_value u3;have su1:=F9.size;have su2:=G9.size;have Zj:=Gd.size;obtain⟨Xx,c3,u4,yf,jX,EL⟩:=zm SA (by omega) (by omega) (Row.aK iw Gd (fun _ _ h=>h)) (by omega) BR rfl (fun v hv=>by simp at hv;subst hv;rfl);have Ld:Kept Nil u1 u4:=Kept.dY (G9.tt Gd) EL (fun j hj=>(Row.bV iw hj).1);have pu4:=Ld.heap pu1 (fun h=>h);refine⟨Xx,_,c3,u4,yf,Is.mk rfl ⟨by rw [bE];exact dQ pu4 (by simp),?_⟩⟩;intro u5;have pu5:u5.heap[r]? =some (.cells #[.int .i64 (k:Int),.pointer (some ⟨x,0,none⟩),.slice Aa (G.D.length+1) ca,.slice Xx (G.D.length+1) c3] iF (0,0)):=by
   show(u4.setCell ((⟨r,0,none⟩:Addr).add 3) (.slice Xx (G.D.length+1) c3)).heap[r]? =_;rw [bE,du pu4];rfl
  have F8:Kept (· =r) u4 u5:=by
   show Kept (· =r) u4 (u4.setCell ((⟨r,0,none⟩:Addr).add 3) (.slice Xx (G.D.length+1) c3))
   rw [bE];exact Kept.setCell (S:=(· =r)) (Kept.refl _ u4) (p:=⟨r,0+3,none⟩) (fun _=>rfl) _
  clear_value u5;have Tv:Kept (· =r) u1 u5:=(Ld.mono fun _ _ h=>h.elim).tt F8;have MY:Kept (· =r) jl u5:=Im.tt Tv;have hc5:=MY.heap QG (by omega);have sC:=MY.heap aaQ (by omega);obtain⟨z1,z2,z3⟩:=gv sC (cs:=dp (dr k G s l) Am nm cm E e ce) (by rw [bJ];rfl);refine⟨_,⟨bJ ..,Cells.bV hc5⟩,⟨bJ ..,fF _ _ _ _ _ _ _,fun j hj=>z1 j (by rw [bJ];exact hj)⟩,?_⟩;intro u6
  replace z2:u6.heap[w1.heap.size]? =some (.cells (dp (dr k G s l) Am nm cm E e ce) bL (0,0)):=z2
  replace z3:Kept (· =w1.heap.size) u5 u6:=z3
  clear_value u6;refine⟨_,⟨bJ ..,Cells.bV z2⟩,?_⟩;have kwr:∀j,j=r\/j=w1.heap.size->¬jl.heap.size<=j:=fun j hj e=>by rcases hj with hj|hj<;>omega
  have XI:Kept (fun j=>j=r\/j=w1.heap.size) u u6:=((F9.mono fun _ _ h=>.inl h).trans Tv (fun _ _ h=>.inl h)).trans z3 (fun _ _ h=>.inr h);have Eu:Kept (fun j=>j=r\/j=w1.heap.size) jl u6:=(ku.mono fun _ _ h=>h.elim).tt XI;have su6:=Eu.size;have s46:u4.heap.size<=u6.heap.size:=by have:=F8.size;have:=z3.size;omega
  have s26:u.heap.size<=u6.heap.size:=XI.size;have KR:∀j,F j->j<w.heap.size:=h.lo
  let F2:Nat->Prop:=fun j=>F j\/(w8.heap.size<=j/\j<w9.heap.size)\/(jl.heap.size<=j/\j<u6.heap.size)
  have QX:∀j,F2 j->¬(j=r\/j=w1.heap.size):=fun j hj e=>by
   rcases hj with hj|hj|hj
   ·have:=KR j hj
    rcases e with e|e
    ·exact h.iX (by rw [<-e];exact hj)
    ·omega
   ·omega
   ·omega
  have WM:∀j,F2 j->F j\/(w.heap.size<=j/\j<u6.heap.size):=fun j hj=>by
   rcases hj with hj|hj|hj
   ·exact .inl hj
   ·exact .inr ⟨by omega,by omega⟩
   ·exact .inr ⟨by omega,hj.2⟩
  refine hO hc u6 Am nm cm E e ce ⟨⟨Aa,ca,Xx,c3,?_,?_,?_⟩,?_,fun hj=>?_,h.ne,h.iC.add id l,fun j hj=>?_⟩ ?_ (S8.aK Eu (fun a ha e=>by have:=bm a.block (by rw [ha];rfl);rcases e with e|e<;>omega)) (Xf.aK Eu (fun a ha e=>by have:=bb a.block (by rw [ha];rfl);rcases e with e|e<;>omega)) (fun a ha=>ha.elim (fun ha=>(bF bm ha).1) (fun ha=>(bF bb ha).1))
  ·rw [xf]
   simp only [List.length_append,List.length_singleton];exact z3.heap pu5 (by omega)
  ·rw [xf]
   simp only [List.length_append,List.length_singleton];refine rL.mono (F:=F2) (rL.aK (S:=fun j=>j=r\/j=w1.heap.size) (w:=u) (rL.snoc row zB p2.len ku (fun j hj=>?_) (fun j hj=>.inl hj) vY (S8.same ku) (Xf.same ku) (fun b hb=>.inr (.inl ?_)) (fun b hb=>.inr (.inl ?_))) XI QX) WM
   ·obtain⟨y1,cur,y2⟩:=Row.bV row hj
    have:=bf y2;exact .inr (.inr ⟨y1,by omega⟩)
   ·exact bm b.block (by rw [hb];rfl)
   ·exact bb b.block (by rw [hb];rfl)
  ·rw [xf]
   simp only [List.length_append,List.length_singleton];have JX:Kept (fun j=>j=r\/j=w1.heap.size) u4 u6:=(F8.mono fun _ _ h=>.inl h).trans z3 (fun _ _ h=>.inr h);refine qo.mono (F:=F2) (qo.aK (S:=fun j=>j=r\/j=w1.heap.size) (w:=u4) (qo.snoc jX (Row.len iw) p3.len Ld (fun j hj=>?_) (fun j hj=>.inl hj) hcw (Zb.aK (Im.trans Ld (fun _ _ h=>h.elim)) (fun a ha e=>by have:=bw a.block (by rw [ha];rfl);omega)) (fun b hb=>.inr (.inl ?_))) JX QX) WM
   ·obtain⟨y1,cur,y2⟩:=Row.bV jX hj
    have:=bf y2;exact .inr (.inr ⟨by omega,by omega⟩)
   ·exact bw b.block (by rw [hb];rfl)
  ·refine((Ww.aK (JZ.tt ku) (fun h=>h) (fun _ _ h=>h)).aK XI (fun e=>?_) (fun j hj e=>?_)).mono (fun j hj=>?_) (fun e=>?_)
   ·rcases e with e|e
    ·exact h.ne e.symm
    ·omega
   ·rcases hj with hj|hj
    ·have:=KR j hj
     rcases e with e|e
     ·exact h.iX (by rw [<-e];exact hj)
     ·omega
    ·omega
   ·rcases hj with hj|hj
    ·exact .inl hj
    ·have:=CD.size
     have:=JZ.size;exact .inr ⟨by omega,by omega⟩
   ·rcases e with e|e
    ·exact h.X.iX e
    ·omega
  ·rcases hj with hj|hj
   ·exact h.iX hj
   ·omega
  ·rcases hj with hj|hj
   ·have:=KR j hj
    omega
   ·exact hj.2
  ·exact(Ew.mono fun _ _ h=>.inr h).trans Eu (fun j hj e=>by
    rcases e with e|e
    ·exact .inl e
    ·omega)
 have Gq:(dp (dr k G s l) Am nm cm E e ce).toList++ []=(dp (dr k G s l) Am nm cm E e ce).toList:=List.append_nil _;refine Is.mk rfl ⟨some a1,G.D.length,c1,by rw [bE,aE OZ];rfl,_,⟨bJ ..,Cells.bV QG⟩,?_,?_⟩
 ·obtain⟨Aa,c2,u2,news,RP,iw,G9,vY⟩:=zn (w:=jl) D5 (by omega) (by omega) (cx:=c1) (JQ jl F G.sN) (Nj a1 rfl)
  refine⟨Aa,_,c2,u2,RP,⟨_,rfl,bJ ..,Cells.bV (G9.heap QG (fun h=>h))⟩,bJ ..,?_⟩;intro u3;have Gd:Kept Nil u2 u3:=(Kept.refl _ _).alloc _;have BR:u3.heap[u2.heap.size]? =some (.cells (dp (dr k G s l) Am nm cm E e ce) bL (0,0)):=by
   have:=aM u2 (.cells (dp (dr k G s l) Am nm cm E e ce) bL);show(u2.alloc (.cells ((dp (dr k G s l) Am nm cm E e ce).toList++ []).toArray bL)).heap[u2.heap.size]? =_;rw [Gq,Array.toArray_toList];exact this
  clear_value u3;have su2:=G9.size;have Zj:=Gd.size;obtain⟨Ab,c3,u4,yf,jX,EL⟩:=zm D5 (by omega) (by omega) (Row.aK iw Gd (fun _ _ h=>h)) (by omega) BR (bJ ..) (fF _ _ _ _ _ _ _);have ku:Kept Nil jl u4:=Kept.dY (G9.tt Gd) EL (fun j hj=>(Row.bV iw hj).1);refine⟨Ab,_,c3,u4,yf,Is.mk rfl ?_⟩;exact tail jX (Row.len iw) vY ku
 ·refine⟨bJ ..,?_⟩
  intro u3;have Gd:Kept Nil jl u3:=(Kept.refl _ _).alloc _;have BR:u3.heap[jl.heap.size]? =some (.cells (dp (dr k G s l) Am nm cm E e ce) bL (0,0)):=by
   have:=aM jl (.cells (dp (dr k G s l) Am nm cm E e ce) bL);show(jl.alloc (.cells ((dp (dr k G s l) Am nm cm E e ce).toList++ []).toArray bL)).heap[jl.heap.size]? =_;rw [Gq,Array.toArray_toList];exact this
  clear_value u3;have Zj:=Gd.size;refine⟨by rw [bE,aE (Gd.heap OZ (fun h=>h))];rfl,?_⟩;have p23:=OY.aK Gd (fun _ _ h=>h);obtain⟨Aa,c2,u2,news,RP,iw,G9,vY⟩:=zn (w:=u3) (n:=G.D.length) (a:=a1) D5 (by omega) (by omega) (cx:=c1) (JQ jl F G.sN) (fun i hi=>by
   obtain⟨arr,y1,y2,y3,y4⟩:=Nj a1 rfl i hi;exact⟨arr,y1,y2,Cells.aK y3 Gd (fun h=>h),y4⟩)
  have su2:=G9.size;have Lk:=G9.heap BR (fun h=>h);obtain⟨Ab,c3,u4,yf,jX,EL⟩:=zm D5 (by omega) (by omega) (Row.base iw (B':=jl.heap.size) (fun j hj=>by have:=(Row.bV iw hj).1;omega)) (by omega) Lk (bJ ..) (fF _ _ _ _ _ _ _);have ku:Kept Nil jl u4:=Kept.dY (Gd.tt G9) EL (fun j hj=>by have:=(Row.bV iw hj).1;omega);refine⟨Aa,_,c2,u2,RP,Ab,_,c3,u4,yf,Is.mk rfl ?_⟩;exact tail jX (Row.len iw) vY ku
end
end Go.Proofs.YtfleamccglihoaaGreatDoor
