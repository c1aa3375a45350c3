import Derived.Test.YtfleamccglihoaaGreatDoorMT
import Derived.Test.YtfleamccglihoaaGreatDoorMN
open Go.IntKind (i64 u64)
set_option linter.unusedVariables false
namespace Go.Proofs.YtfleamccglihoaaGreatDoor
open Go.Proofs.Tryz
open Go Go.b0 Go.RowKit
structure rN(w:World)(F:Nat->Prop)(A:Option Addr)(n:Nat)(l:List pz):Prop where
 len:l.length=n
 at_:∀(i:Nat) x,l[i]? =some x->∃a A1 n1 c1 B1 m1 d1,A=some a/\a.block<w.heap.size/\F a.block/\Cells w (a.add (i*35)) (dp x A1 n1 c1 B1 m1 d1)/\HS w A1 n1 x.merge/\Bo w B1 m1 x.gm/\(∀b,A1=some b->F b.block)/\(∀b,B1=some b->F b.block)
structure qp(w:World)(F:Nat->Prop)(A:Option Addr)(n:Nat)(l:List (List HT)):Prop where
 len:l.length=n
 at_:∀(i:Nat) x,l[i]? =some x->∃a A1 n1 c1,A=some a/\a.block<w.heap.size/\F a.block/\w.cell? (a.add (i*1))=some (.slice A1 n1 c1)/\HS w A1 n1 x/\(∀b,A1=some b->F b.block)
section
variable{w w':World}{F F' S:Nat->Prop}{A:Option Addr}{n:Nat}
theorem rN.aK{l:List pz}(h:rN w F A n l)(hk:Kept S w w')(hn:∀j,F j->¬S j):rN w' F A n l:=⟨h.len,fun i x hi=>by
 obtain⟨a,A1,n1,c1,B1,m1,d1,g1,g2,g3,g4,g5,g6,g7,g8⟩:=h.at_ i x hi;exact⟨a,A1,n1,c1,B1,m1,d1,g1,Nat.lt_of_lt_of_le g2 hk.size,g3,Cells.aK g4 hk (by rw [fu];exact hn _ g3),g5.aK hk (fun b hb=>hn _ (g7 b hb)),g6.aK hk (fun b hb=>hn _ (g8 b hb)),g7,g8⟩⟩
theorem rN.mono{l:List pz}(h:rN w F A n l)(hf:∀j,F j->F' j):rN w F' A n l:=⟨h.len,fun i x hi=>by
 obtain⟨a,A1,n1,c1,B1,m1,d1,g1,g2,g3,g4,g5,g6,g7,g8⟩:=h.at_ i x hi;exact⟨a,A1,n1,c1,B1,m1,d1,g1,g2,hf _ g3,g4,g5,g6,fun b hb=>hf _ (g7 b hb),fun b hb=>hf _ (g8 b hb)⟩⟩
theorem qp.aK{l:List (List HT)}(h:qp w F A n l)(hk:Kept S w w')(hn:∀j,F j->¬S j):qp w' F A n l:=⟨h.len,fun i x hi=>by
 obtain⟨a,A1,n1,c1,g1,g2,g3,g4,g5,g6⟩:=h.at_ i x hi;exact⟨a,A1,n1,c1,g1,Nat.lt_of_lt_of_le g2 hk.size,g3,hk.cell g4 (by rw [fu];exact hn _ g3),g5.aK hk (fun b hb=>hn _ (g6 b hb)),g6⟩⟩
theorem qp.mono{l:List (List HT)}(h:qp w F A n l)(hf:∀j,F j->F' j):qp w F' A n l:=⟨h.len,fun i x hi=>by
 obtain⟨a,A1,n1,c1,g1,g2,g3,g4,g5,g6⟩:=h.at_ i x hi;exact⟨a,A1,n1,c1,g1,g2,hf _ g3,g4,g5,fun b hb=>hf _ (g6 b hb)⟩⟩
end
structure R3(w:World)(F:Nat->Prop)(r x k:Nat)(G:GS):Prop where
 top:∃A c B e,w.heap[r]? =some (.cells #[.int .i64 (k:Int),.pointer (some ⟨x,0,none⟩),.slice A G.D.length c,.slice B G.D.length e] iD (0,0))/\rN w F A G.D.length G.sN/\qp w F B G.D.length G.kZ
 X:qq w F x G.D G.P
 iV:¬F r
 ne:r≠x
 iA:lC k G
 lo:∀j,F j->j<w.heap.size
section
variable{w w':World}{F F' S:Nat->Prop}{r x k:Nat}{G:GS}{K:Value->World->Prop}
theorem R3.aK(h:R3 w F r x k G)(hk:Kept S w w')(hr:¬S r)(hx:¬S x)(hF:∀j,F j->¬S j):R3 w' F r x k G:=by
 obtain⟨A,c,B,e,g1,g2,g3⟩:=h.top;exact⟨⟨A,c,B,e,hk.heap g1 hr,g2.aK hk hF,g3.aK hk hF⟩,h.X.aK hk hx hF,h.iV,h.ne,h.iA,fun j e=>Nat.lt_of_lt_of_le (h.lo j e) hk.size⟩
theorem R3.same(h:R3 w F r x k G)(hk:Kept Nil w w'):R3 w' F r x k G:=h.aK hk (fun h=>h) (fun h=>h) (fun _ _ h=>h)
theorem R3.lt(h:R3 w F r x k G):r<w.heap.size:=by obtain⟨_,_,_,_,g,_⟩:=h.top;exact bf g
theorem R3.lx(h:R3 w F r x k G):x<w.heap.size:=h.X.lt
theorem R3.c0(h:R3 w F r x k G):w.cell? ((⟨r,0,none⟩:Addr).add 0)=some (.int .i64 (k:Int)):=by obtain⟨_,_,_,_,g,_⟩:=h.top;rw [bD,aE g];rfl
theorem R3.c1(h:R3 w F r x k G):w.cell? ((⟨r,0,none⟩:Addr).add 1)=some (.pointer (some ⟨x,0,none⟩)):=by obtain⟨_,_,_,_,g,_⟩:=h.top;rw [bD,aE g];rfl
theorem Og(h:lC k G){y:HT}(hy:y∈ids G.D):∃(i:Nat) (nd:DN) (c:pz) (l:List HT),G.D[i]? =some nd/\nd.id=y/\G.sN[i]? =some c/\G.kZ[i]? =some l/\He G.D y=(i:Int)/\G.jZ y=c/\G.world y=l/\i<G.D.length:=by
 obtain⟨nd,gU,rfl⟩:=eF.1 hy;obtain⟨i,hi⟩:=List.mem_iff_getElem?.1 gU;have dW:=(lgeS hi).1;obtain⟨c,hc⟩:∃c,G.sN[i]? =some c:=⟨_,List.getElem?_eq_getElem (by rw [h.lc];exact dW)⟩;obtain⟨l,hl⟩:∃l,G.kZ[i]? =some l:=⟨_,List.getElem?_eq_getElem (by rw [h.lw];exact dW)⟩;exact⟨i,nd,c,l,hi,rfl,hc,hl,Q8 h.W hi,GS.Q4 h.W hi hc,GS.Hk h.W hi hl,dW⟩
theorem ln(h:R3 w F r x k G)(hD:G.D.length<=5000){a:HT}(ha:a∈ids G.D)(hK:∀w',Kept Nil w w'->K (.int .u64 (G.score a:Int)) w'):
 bE prog dL.id #[.pointer (some ⟨r,0,none⟩),.agg a.1] w K:=by
 refine dL.of ?_;unfold dL.W;intro w4 w5;have k4:Kept Nil w w4:=(Kept.refl _ _).alloc _;have C9:w4.heap[w.heap.size]? =some (.cells a.1 al (0,0)):=aM w _;have k5:Kept Nil w4 w5:=(Kept.refl _ _).drew;clear_value w5;have LZ:=k5.heap C9 (fun h=>h);have nA:=k4.tt k5;have h5:=h.same nA;obtain⟨A,c,B,e,g1,g2,g3⟩:=h5.top;refine Is.mk rfl ⟨A,_,c,by rw [bD,aE g1];rfl,Is.mk rfl ⟨_,h5.c1,Is.mk rfl ⟨a.1,⟨a.2.1,Cells.bV LZ⟩,?_⟩⟩⟩;rw [add_zero];refine oK h5.X.gr (by omega) a fun w6 k6=>⟨_,rfl,?_⟩;have g16:=k6.heap g1 (fun h=>h);obtain⟨i,nd,cl,l,q1,q2,q3,q4,q5,q6,q7,q8⟩:=Og h.iA ha;rw [q5];obtain⟨aa,A1,n1,c1,B1,m1,d1,p1,p2,p3,p4,_⟩:=(g2.aK k6 (fun _ _ h=>h)).at_ i cl q3;subst p1;refine⟨by rw [bD,aE g16];rfl,⟨by omega,by omega⟩,Is.mk rfl ⟨((G.score a:Nat):Int),?_,?_⟩⟩
 ·have:=gR cl A1 n1 c1 B1 m1 d1 #[]
  rw [Array.append_empty]at this;have WM:=p4 32 _ this.1;rw [Int.toNat_natCast,WM];unfold GS.score;rw [q6]
 ·exact hK w6 (nA.tt k6)
theorem z7(h:lC k G){a:HT}(ha:a∈ids G.D):G.score a<=G.D.length:=by
 rw [(h.wd a ha).2.2];exact sW h ha
theorem qS(h:R3 w F r x k G)(hD:G.D.length<=5000){a b:HT}(ha:a∈ids G.D)(hb:b∈ids G.D)(hK:∀w',Kept Nil w w'->K (.bool (gl G a b)) w'):
 bE prog dZ.id #[.pointer (some ⟨r,0,none⟩),.agg a.1,.agg b.1] w K:=by
 refine dZ.of ?_;unfold dZ.W;intro w4 w5 w6;have k4:Kept Nil w w4:=(Kept.refl _ _).alloc _;have C9:w4.heap[w.heap.size]? =some (.cells a.1 al (0,0)):=aM w _;have k5:Kept Nil w4 w5:=(Kept.refl _ _).alloc _;have pE:w5.heap[w4.heap.size]? =some (.cells b.1 al (0,0)):=aM w4 _;have k6:Kept Nil w5 w6:=(Kept.refl _ _).drew;clear_value w6;have xn:=k6.heap (k5.heap C9 (fun h=>h)) (fun h=>h);have pZ:=k6.heap pE (fun h=>h);have nn:=(k4.tt k5).tt k6;refine⟨a.1,⟨a.2.1,Cells.bV xn⟩,b.1,⟨b.2.1,Cells.bV pZ⟩,?_⟩;refine ln (h.same nn) hD ha fun w7 k7=>⟨_,rfl,⟨_,rfl,b.2.1,Cells.bV (k7.heap pZ (fun h=>h))⟩,?_⟩;have tu:=nn.tt k7;refine ln (h.same tu) hD hb fun w8 k8=>⟨_,rfl,?_⟩;have zz:=tu.tt k8;have XI:=k7.tt k8;by_cases he:G.score a=G.score b
 ·refine Split.no (by rw [he];simp) ⟨a.1,⟨a.2.1,Cells.bV (XI.heap xn (fun h=>h))⟩,b.1,⟨b.2.1,Cells.bV (XI.heap pZ (fun h=>h))⟩,?_⟩
  refine tU a b fun w9 k9=>⟨_,rfl,?_⟩;have e:decide (lW a b<0)=gl G a b:=by
   rw [Bool.eq_iff_iff,decide_eq_true_eq,sO];unfold gl;rw [decide_eq_false (by omega),decide_eq_true he];simp
  rw [e];exact hK w9 (zz.tt k9)
 ·refine Split.yes (by simp only [bne_iff_ne,ne_eq];omega) ?_
  have e:decide ((G.score a:Int)<(G.score b:Int))=gl G a b:=by
   unfold gl;rw [decide_eq_false he];simp
  rw [e];exact hK w8 zz
theorem KE(h:R3 w F r x k G)(hD:G.D.length<=5000){A:Option Addr}{n cx:Nat}{l:List HT}(hl:HS w A n l)(hn:n<=400000)(hK:∀w',Kept Nil w w'->K (.int .i64 (lE G.D l)) w'):
 bE prog bG.id #[.pointer (some ⟨r,0,none⟩),.slice A n cx] w K:=by
 have hlen:=hl.len;refine bG.of ?_;unfold bG.W;by_cases h0:n=0
 ·subst h0
  have e:l= []:=List.eq_nil_of_length_eq_zero hlen;refine Split.yes rfl ?_;have:=hK w (Kept.refl _ _);unfold lE at this;rw [if_pos e]at this;exact this
 have fW:l≠ []:=fun e=>by subst e;exact h0 hlen.symm
 refine Split.no (by simpa using (by omega:¬(n:Int)=0)) ?_;refine bG.cJ (I:=fun s v=>∃i:Nat,s=(0,(i:Int))/\i<=n/\(∀p∈l.take i,p∈ids G.D)/\Kept Nil w v) (μ:=fun s _=>((n:Int)-s.2).toNat) (s:=(0,0)) ⟨0,rfl,Nat.zero_le _,by simp,Kept.refl _ _⟩ ?_;rintro s v ⟨i,rfl,hi,cY,kv⟩;unfold bG.B1;refine Split.dec (fun di=>?_) (fun gF=>?_)
 ·simp only at di
  have dW:i<n:=by omega
  obtain⟨y,hy⟩:∃y,l[i]? =some y:=⟨_,List.getElem?_eq_getElem (by omega)⟩;intro w3;have k3:Kept Nil v w3:=(Kept.refl _ _).drew;clear_value w3;have sy:=kv.tt k3;have h3:=h.same sy;refine Is.mk rfl ⟨_,h3.c1,Is.mk rfl ((hl.same sy).load (i:=(i:Int)) (by omega) hy ?_)⟩;rw [add_zero];refine oK h3.X.gr (by omega) y fun w4 k4=>⟨_,rfl,?_⟩;have qM:=sy.tt k4;refine Split.dec (fun Bb=>?_) (fun jS=>?_)
  ·rw [iQ]
   have:=hK w4 qM;unfold lE at this;rw [if_neg fW,if_pos ⟨y,List.mem_of_getElem? hy,qH.1 Bb⟩]at this;exact this
  ·simp only
   rw [dE (n:=(i:Int)) (by omega) (by omega)];refine⟨(0,(i:Int)+1),rfl,⟨i+1,rfl,dW,fun p hp=>?_,qM⟩,by simp only;omega⟩;rcases(bP hy).1 hp with hp|rfl
   ·exact cY p hp
   ·exact Classical.byContradiction fun e=>jS (qH.2 e)
 ·simp only at gF
  rw [aU,bG.dw];rw [List.take_of_length_le (by omega)]at cY;have:=hK v kv;unfold lE at this;rw [if_neg fW,if_neg (fun⟨p,hp,hn⟩=>hn (cY p hp))]at this;exact this
theorem oY(h:R3 w F r x k G)(hD:G.D.length<=5000){A:Option Addr}{n cx:Nat}{l:List HT}(hl:HS w A n l)(h0:l≠ [])(hn:n<=400000)(gC:∀y∈l,y∈ids G.D)(hK:∀w',Kept Nil w w'->K (.agg (bQ G l).1) w'):
 bE prog bp.id #[.pointer (some ⟨r,0,none⟩),.slice A n cx] w K:=by
 have hlen:=hl.len;obtain⟨x0,t,rfl⟩:∃x0 t,l=x0::t:=by cases l with|nil=>exact absurd rfl h0|cons a b=>exact⟨a,b,rfl⟩
 refine bp.of ?_;unfold bp.W;intro w1;have k1:Kept Nil w w1:=(Kept.refl _ _).alloc _;have nD:w1.heap[w.heap.size]? =some (.cells fG.1 al (0,0)):=aM w _;clear_value w1;simp only [List.length_cons]at hlen;refine(hl.same k1).load (i:=0) (by omega) rfl ?_;intro w2;have k2:Kept Nil w1 w2:=(Kept.refl _ _).alloc _;have nE:w2.heap[w1.heap.size]? =some (.cells fG.1 al (0,0)):=aM w1 _;clear_value w2;have jX:=k2.heap nD (fun h=>h);have l1:=bf nD;have l2:=bf nE;obtain⟨t1,t2,t3⟩:=iZ x0 nE rfl;refine⟨t1,?_⟩;intro w3
 replace t2:w3.heap[w1.heap.size]? =some (.cells x0.1 al (0,0)):=t2
 replace t3:Kept (· =w1.heap.size) w2 w3:=t3
 clear_value w3;have s1:=k1.size;have jF:Kept Nil w w3:=(k1.tt k2).trans t3 (fun j hj e=>by omega);have yZ:=t3.heap jX (by omega);refine bp.cJ (I:=fun s v=>∃(i:Nat) (b:HT),s=(i:Int)/\1<=i/\i<=n/\b∈ids G.D/\((x0::t).drop i).foldl (fun b y=>if gl G b y then y else b) b=bQ G (x0::t)/\v.heap[w1.heap.size]? =some (.cells b.1 al (0,0))/\v.heap[w.heap.size]? =some (.cells fG.1 al (0,0))/\Kept Nil w v) (μ:=fun s _=>((n:Int)-s).toNat) (s:=1) ⟨1,x0,rfl,Nat.le_refl _,by omega,gC _ List.mem_cons_self,rfl,t2,yZ,jF⟩ ?_;rintro s v ⟨i,b,rfl,LG,xl,hb,he,C5,Ua,kv⟩;unfold bp.B1;refine Split.dec (fun di=>?_) (fun gF=>?_)
 ·have dW:i<n:=by omega
  obtain⟨y,hy⟩:∃y,(x0::t)[i]? =some y:=⟨_,List.getElem?_eq_getElem (by simp;omega)⟩;have M0:y∈ids G.D:=gC _ (List.mem_of_getElem? hy);have hd:(x0::t).drop i=y::(x0::t).drop (i+1):=by
   obtain⟨q1,q2⟩:=lgeS hy;rw [List.drop_eq_getElem_cons q1,q2]
  rw [hd,List.foldl_cons]at he;intro w4;have k4:Kept Nil v w4:=(Kept.refl _ _).drew;clear_value w4;have qM:=kv.tt k4;have PC:(x0::t)[((i:Nat):Int).toNat]? =some y:=by rw [Int.toNat_natCast];exact hy
  refine⟨b.1,⟨b.2.1,Cells.bV (k4.heap C5 (fun h=>h))⟩,(hl.same qM).load (i:=(i:Int)) (by omega) PC ?_⟩;refine qS (h.same qM) hD hb M0 fun w5 k5=>⟨_,rfl,?_⟩;have xZ:=qM.tt k5;have pE:=k5.heap (k4.heap C5 (fun h=>h)) (fun h=>h);have sE:=k5.heap (k4.heap Ua (fun h=>h)) (fun h=>h);rw [dE (n:=(i:Int)) (by omega) (by omega)];refine Split.mk (fun yi=>?_) (fun hle=>?_)
  ·rw [if_pos yi]at he
   refine(hl.same xZ).load (i:=(i:Int)) (by omega) PC ?_;obtain⟨f1,f2,f3⟩:=iZ y pE b.2.1;refine⟨f1,?_⟩;exact⟨(i:Int)+1,rfl,⟨i+1,y,rfl,by omega,by omega,M0,he,f2,f3.heap sE (by omega),xZ.trans f3 (fun j hj e=>by omega)⟩,by simp only;omega⟩
  ·rw [if_neg (by rw [hle];decide)]at he
   exact⟨(i:Int)+1,rfl,⟨i+1,b,rfl,by omega,by omega,hb,he,pE,sE,xZ⟩,by simp only;omega⟩
 ·rw [aU,bp.dw]
  rw [List.drop_eq_nil_of_le (by simp;omega)]at he
  replace he:b=bQ G (x0::t):=he
  subst he;refine⟨_,⟨tD _,Cells.bV C5⟩,?_⟩;obtain⟨f1,f2,f3⟩:=iZ (bQ G (x0::t)) Ua rfl;exact⟨f1,_,⟨tD _,Cells.bV f2⟩,hK _ (kv.trans f3 (fun j hj e=>by omega))⟩
theorem pO(h:R3 w F r x k G)(hD:G.D.length<=5000){A:Option Addr}{n cx:Nat}{l:List HT}(hl:HS w A n l)(hn:n<=100000)(y:HT)(hK:∀A' c' w',cr w' w.heap.size A' (cg G.D l y).length c' (cg G.D l y)->Kept Nil w w'->K (.slice A' (cg G.D l y).length c') w'):
 bE prog bu.id #[.pointer (some ⟨r,0,none⟩),.slice A n cx,.agg y.1] w K:=by
 have hlen:=hl.len;refine bu.of ?_;unfold bu.W;intro w1;have k1:Kept Nil w w1:=(Kept.refl _ _).alloc _;have Le:w1.heap[w.heap.size]? =some (.cells y.1 al (0,0)):=aM w _;clear_value w1;refine bu.cJ (I:=fun s v=>∃(i:Nat) (B:Option Addr) (c:Nat),s=(B,(cg G.D (l.take i) y).length,c,(i:Int))/\i<=n/\cr v w1.heap.size B (cg G.D (l.take i) y).length c (cg G.D (l.take i) y)/\Kept Nil w1 v) (μ:=fun s _=>((n:Int)-s.2.2.2).toNat) (s:=(none,0,0,0)) ⟨0,none,0,rfl,Nat.zero_le _,cr.nil _ _,Kept.refl _ _⟩ ?_;rintro s v ⟨i,B,c,rfl,hi,row,kv⟩;unfold bu.B1;have tq:=k1.tt kv;refine Split.dec (fun di=>?_) (fun gF=>?_)
 ·simp only at di
  have dW:i<n:=by omega
  obtain⟨z,hz⟩:∃z,l[i]? =some z:=⟨_,List.getElem?_eq_getElem (by omega)⟩;have rT:(cg G.D (l.take i) y).length<=100000:=by
   have:=List.length_filter_le (fun b=>decide (oB G.D b y)) (l.take i);have h2:=List.length_take_le i l;unfold cg;omega
  intro w3;have k3:Kept Nil v w3:=(Kept.refl _ _).drew;clear_value w3;have sy:=kv.tt k3;have jF:=k1.tt sy;have h3:=h.same jF;have zA:l[((i:Nat):Int).toNat]? =some z:=by rw [Int.toNat_natCast];exact hz
  refine Is.mk rfl ⟨_,h3.c1,Is.mk rfl ((hl.same jF).load (i:=(i:Int)) (by omega) zA ⟨y.1,⟨y.2.1,Cells.bV (sy.heap Le (fun h=>h))⟩,?_⟩)⟩;rw [add_zero];refine FI h3.X.gr h.iA.W (by omega) z y fun w4 b hb k4=>⟨b,rfl,?_⟩
  replace hb:b=true↔oB G.D z y:=hb
  have qM:=sy.tt k4;have mf:=k1.tt qM;have jW:=Row.aK row (k3.tt k4) (fun _ _ h=>h);have GF:cg G.D (l.take (i+1)) y=cg G.D (l.take i) y++if oB G.D z y then [z]else []:=by
   rw [List.take_add_one,hz,gw]
   congr 1
   unfold cg;by_cases hp:oB G.D z y
   ·rw [if_pos hp];simp [hp]
   ·rw [if_neg hp];simp [hp]
  cases b with
  |true=>
   rw [if_pos (hb.1 rfl)]at GF;refine Split.yes rfl ((hl.same mf).load (i:=(i:Int)) (by omega) zA ⟨z.2.1,?_⟩);intro w5;have k5:Kept Nil w4 w5:=(Kept.refl _ _).alloc _;have RG:=jE w4 z;have s5:=(qM.tt k5).size;obtain⟨A',c',w6,hr,yH,hg,_⟩:=dd (cx:=1) aF (Row.aK jW k5 (fun _ _ h=>h)) RG (by omega) s5;refine⟨A',_,c',w6,hr,?_⟩;rw [dE (n:=(i:Int)) (by omega) (by omega)];have e:(cg G.D (l.take (i+1)) y).length=(cg G.D (l.take i) y).length+1:=by rw [GF];simp
   refine⟨(A',(cg G.D (l.take i) y).length+1,c',(i:Int)+1),rfl,⟨i+1,A',c',by rw [e];rfl,dW,by rw [e,GF];exact yH,?_⟩,by simp only;omega⟩;exact Kept.dX (qM.tt k5) hg (fun j hj=>(Row.bV row hj).1)
  |false=>
   rw [if_neg (fun e=>by have:=hb.2 e;cases this),List.append_nil]at GF;refine Split.no rfl ?_;simp only;rw [dE (n:=(i:Int)) (by omega) (by omega)];exact⟨(B,(cg G.D (l.take i) y).length,c,(i:Int)+1),rfl,⟨i+1,B,c,by rw [GF];rfl,dW,by rw [GF];exact jW,qM⟩,by simp only;omega⟩
 ·simp only at gF
  rw [aU,bu.dw];rw [List.take_of_length_le (by omega)]at row;have e:i=n:=by omega
  subst e;rw [List.take_of_length_le (by omega)];exact hK B c v (Row.base row (fun j hj=>by have:=(Row.bV row hj).1;have:=k1.size;omega)) tq
end
structure VJ(v:World)(B0 xb rb:Nat)(x:pz)(A:Option Addr)(n cp:Nat)(E:Option Addr)(e ce:Nat)(W:Option Addr)(nw cw:Nat)(wd:List HT):Prop where
 top:v.heap[xb]? =some (.cells (dp x A n cp E e ce) bK (0,0))
 mg:cr v B0 A n cp x.merge
 bl:Row v B0 ju 1 E e ce (tH x.gm)
 wr:cr v B0 W nw cw wd
 box:v.heap[rb]? =some (.cells zC bK (0,0))
 AE:∀j,bH A=some j->bH E≠some j
 AW:∀j,bH A=some j->bH W≠some j
 EW:∀j,bH E=some j->bH W≠some j
 xB:xb<B0
 rB:rb<B0
 xr:xb≠rb
section
variable{v v' u:World}{B0 xb rb n cp e ce nw cw:Nat}{x:pz}{A E W:Option Addr}{wd:List HT}{K:Value->World->Prop}
theorem VJ.same(h:VJ v B0 xb rb x A n cp E e ce W nw cw wd)(k:Kept Nil v v'):VJ v' B0 xb rb x A n cp E e ce W nw cw wd:=
 ⟨k.heap h.top (fun h=>h),Row.aK h.mg k (fun _ _ h=>h),Row.aK h.bl k (fun _ _ h=>h),Row.aK h.wr k (fun _ _ h=>h),k.heap h.box (fun h=>h),h.AE,h.AW,h.EW,h.xB,h.rB,h.xr⟩
theorem VJ.f32(h:VJ v B0 xb rb x A n cp E e ce W nw cw wd):v.cell? ((⟨xb,0,none⟩:Addr).add 32)=some (.int .u64 (x.score:Int)):=by
 have:=(gR x A n cp E e ce #[]).1;rw [Array.append_empty]at this;rw [bD,aE h.top];exact this
theorem VJ.f33(h:VJ v B0 xb rb x A n cp E e ce W nw cw wd):v.cell? ((⟨xb,0,none⟩:Addr).add 33)=some (.slice A n cp):=by
 have:=(gR x A n cp E e ce #[]).2.1;rw [Array.append_empty]at this;rw [bD,aE h.top];exact this
theorem VJ.f34(h:VJ v B0 xb rb x A n cp E e ce W nw cw wd):v.cell? ((⟨xb,0,none⟩:Addr).add 34)=some (.slice E e ce):=by
 have:=(gR x A n cp E e ce #[]).2.2.1;rw [Array.append_empty]at this;rw [bD,aE h.top];exact this
theorem VJ.wrx(h:VJ v B0 xb rb x A n cp E e ce W nw cw wd){j:Nat}(hj:j<35):Wr v ((⟨xb,0,none⟩:Addr).add j):=by
 rw [bD];exact dP h.top (by rw [bI];omega)
theorem VJ.OK(h:VJ v B0 xb rb x A n cp E e ce W nw cw wd)(j:Nat)(z:Value):Kept (· =xb) v (v.setCell ((⟨xb,0,none⟩:Addr).add j) z):=by
 rw [bD];exact Kept.setCell (S:=(· =xb)) (Kept.refl _ v) (p:=⟨xb,0+j,none⟩) (fun _=>rfl) _
theorem VJ.OM(h:VJ v B0 xb rb x A n cp E e ce W nw cw wd)(s:Nat):VJ (v.setCell ((⟨xb,0,none⟩:Addr).add 32) (.int .u64 (s:Int))) B0 xb rb {x with score:=s} A n cp E e ce W nw cw wd:=by
 have k:=h.OK 32 (.int .u64 (s:Int));have xB:=h.xB;refine⟨?_,Row.aK h.mg k (fun j hj e=>by have:=(Row.bV h.mg hj).1;omega),Row.aK h.bl k (fun j hj e=>by have:=(Row.bV h.bl hj).1;omega),Row.aK h.wr k (fun j hj e=>by have:=(Row.bV h.wr hj).1;omega),k.heap h.box h.xr.symm,h.AE,h.AW,h.EW,h.xB,h.rB,h.xr⟩;rw [bD,du h.top];have:=wy x A n cp E e ce #[] s;rw [Array.append_empty,Array.append_empty]at this;rw [this]
theorem VJ.SI(h:VJ v B0 xb rb x A n cp E e ce W nw cw wd)(hB:B0<=v.heap.size)(hn:nw<=100000){z:HT}(ry:Kept Nil v v'){bx:Nat}(hx:HS v' (some ⟨bx,0,none⟩) 1 [z]):
 ∃W' R4 u,(Builtin.append_ #[aF,aF] aF #[.slice W nw cw,.slice (some ⟨bx,0,none⟩) 1 1]).run prog v'=.ok (.slice W' (nw+1) R4) u/\VJ u B0 xb rb x A n cp E e ce W' (nw+1) R4 (wd++ [z])/\Kept (fun j=>j=xb\/B0<=j) v u:=by
 have h':=h.same ry;have s16:=ry.size;obtain⟨W',c',u,hr,row,hg,hb⟩:=dd (cx:=1) aF h'.wr hx (by omega) (by omega);have kg:Kept (fun j=>bH W=some j) v' u:=Kept.grown (Kept.refl _ _) hg (fun j hj _=>hj);have nB:∀j,j<B0->bH W≠some j:=fun j hj e=>by have:=(Row.bV h.wr e).1;omega
 refine⟨W',c',u,hr,⟨kg.heap h'.top (nB _ h.xB),Row.aK h'.mg kg (fun j hj=>h.AW j hj),Row.aK h'.bl kg (fun j hj=>h.EW j hj),row,kg.heap h'.box (nB _ h.rB),h.AE,fun j hj e=>?_,fun j hj e=>?_,h.xB,h.rB,h.xr⟩,(ry.mono fun _ _ h=>h.elim).trans kg (fun j hj e=>.inr (Row.bV h.wr e).1)⟩
 ·rcases hb j e with e'|e'
  ·exact h.AW j hj e'
  ·obtain⟨_,cur,hc⟩:=Row.bV h'.mg hj
   have:=bf hc;omega
 ·rcases hb j e with e'|e'
  ·exact h.EW j hj e'
  ·obtain⟨_,cur,hc⟩:=Row.bV h'.bl hj
   have:=bf hc;omega
theorem VJ.HN(h:VJ v B0 xb rb x A n cp E e ce W nw cw wd)(hB:B0<=v.heap.size)(hn:e<=100000){b:Bool}(ry:Kept Nil v v'){bx:Nat}(hx:v'.cell? ⟨bx,0,none⟩=some (.bool b)):
 ∃E' sU u,(Builtin.append_ #[iu,iu] iu #[.slice E e ce,.slice (some ⟨bx,0,none⟩) 1 1]).run prog v'=.ok (.slice E' (e+1) sU) u/\Wr u ((⟨xb,0,none⟩:Addr).add 34)/\
  VJ (u.setCell ((⟨xb,0,none⟩:Addr).add 34) (.slice E' (e+1) sU)) B0 xb rb {x with gm:=x.gm++ [b]} A n cp E' (e+1) sU W nw cw wd/\Kept (fun j=>j=xb\/B0<=j) v (u.setCell ((⟨xb,0,none⟩:Addr).add 34) (.slice E' (e+1) sU)):=by
 have h':=h.same ry;have s16:=ry.size;have xB:=h.xB;obtain⟨E',c',u,hr,row,hg,hb⟩:=fY (P:=prog) (t:=iu) (bytes:=1) (ty:=iu) Cj h'.bl (a:=⟨bx,0,none⟩) (m:=1) (cx:=1) (news:= [.bool b]) rfl (fun j z hj=>by
  cases j with
  |zero=>simp only [List.getElem?_cons_zero,Option.some.injEq]at hj;subst hj;rw [add_zero];exact hx
  |succ j=>simp at hj) (fun z hz=>by
  have:z=.bool b:=by simpa using hz
  subst this;rfl) (by omega) (by unfold maxLen;omega) (by omega)
 have kg:Kept (fun j=>bH E=some j) v' u:=Kept.grown (Kept.refl _ _) hg (fun j hj _=>hj);have nB:∀j,j<B0->bH E≠some j:=fun j hj e=>by have:=(Row.bV h.bl e).1;omega
 have top:=kg.heap h'.top (nB _ h.xB);have ks:Kept (· =xb) u (u.setCell ((⟨xb,0,none⟩:Addr).add 34) (.slice E' (e+1) c')):=by
  rw [bD];exact Kept.setCell (S:=(· =xb)) (Kept.refl _ u) (p:=⟨xb,0+34,none⟩) (fun _=>rfl) _
 have lS:Kept (fun j=>j=xb\/bH E=some j) v' (u.setCell ((⟨xb,0,none⟩:Addr).add 34) (.slice E' (e+1) c')):=(kg.mono fun _ _ h=>.inr h).trans ks (fun _ _ h=>.inl h);refine⟨E',c',u,hr,by rw [bD];exact dP top (by rw [bI];omega),⟨?_,?_,?_,?_,?_,fun j hj e=>?_,h.AW,fun j hj e=>?_,h.xB,h.rB,h.xr⟩,(ry.mono fun _ _ h=>h.elim).trans lS (fun j hj e=>e.imp (fun h=>h) (fun e=>(Row.bV h.bl e).1))⟩
 ·rw [bD,du top]
  have:=rH x A n cp E e ce #[] E' (e+1) c';rw [Array.append_empty,Array.append_empty]at this;rw [this];rfl
 ·exact Row.aK h'.mg lS (fun j hj e=>e.elim (fun e=>by have:=(Row.bV h.mg hj).1;omega) (h.AE j hj))
 ·have e1:tH (x.gm++ [b])=tH x.gm++ [.bool b]:=by simp [tH]
  show Row _ B0 ju 1 E' (e+1) c' (tH (x.gm++ [b]))
  rw [e1];exact Row.aK row ks (fun j hj e=>by have:=(Row.bV row hj).1;omega)
 ·exact Row.aK h'.wr lS (fun j hj e=>e.elim (fun e=>by have:=(Row.bV h.wr hj).1;omega) (fun e=>h.EW j e hj))
 ·exact lS.heap h'.box (fun e=>e.elim (fun e=>h.xr e.symm) (nB _ h.rB))
 ·rcases hb j e with e'|e'
  ·exact h.AE j hj e'
  ·obtain⟨_,cur,hc⟩:=Row.bV h'.mg hj
   have:=bf hc;omega
 ·rcases hb j hj with e'|e'
  ·exact h.EW j e' e
  ·obtain⟨_,cur,hc⟩:=Row.bV h'.wr e
   have:=bf hc;omega
end
section
variable{y w w':World}{F F' S:Nat->Prop}{r x k:Nat}{G:GS}{K:Value->World->Prop}{B0 xb rb n cp e ce nw cw:Nat}{A E W:Option Addr}{s:HT}{l:List HT}
set_option maxHeartbeats 2000000 in
theorem Fj(h:R3 y F r x k G)(hD:G.D.length<=300)(o5:k<=1000)(hB:B0<=y.heap.size)(iV:∀j,(j=r\/j=x\/F j)->j<B0/\j≠xb/\j≠rb)(hM:∀z∈cP G s l,z∈ids G.D)(hs:s∈ids G.D)
 (V:VJ y B0 xb rb ⟨s,G.score s+1,cP G s l,[]⟩ A n cp none 0 0 W nw cw (G.world s++ [s]))
 (hK:∀v E e ce W nw cw,VJ v B0 xb rb (dr k G s l) A n cp E e ce W nw cw (iw k G s l).wd->Kept (fun j=>j=xb\/j=rb\/B0<=j) y (setCells v ⟨rb,0,none⟩ (dp (dr k G s l) A n cp E e ce).toList 0)->K (.tuple #[.agg (dp (dr k G s l) A n cp E e ce),.slice W nw cw]) (setCells v ⟨rb,0,none⟩ (dp (dr k G s l) A n cp E e ce).toList 0)):
 af.df (some ⟨r,0,none⟩) ⟨B0,0,none⟩ ⟨rb,0,none⟩ none 0 0 ⟨xb,0,none⟩ W nw cw none 0 0 0 K y:=by
 unfold af.df;have Gr:(cP G s l).length<=300:=by
  have:=dK (m:=ids G.D) (mH G s l).nodup hM;rw [iK]at this;omega
 have hn:(cP G s l).length=n:=cr.len V.mg;have hwl:=sW h.iA hs;have EA:=z7 h.iA hs;have hR:∀ {v:World},Kept (fun j=>j=xb\/B0<=j) y v->R3 v F r x k G:=fun kv=>h.aK kv (fun e=>by have:=iV r (.inl rfl);omega) (fun e=>by have:=iV x (.inr (.inl rfl));omega) (fun j hj e=>by have:=iV j (.inr (.inr hj));omega);have vl:∀i,i<=n->(la k G s l i).wd.length<=700:=fun i hi=>by
  obtain⟨b,h1,h2⟩:=Hr k G.D (G.world s++ [s]) ((cP G s l).take i);have h3:=yw ((cP G s l).take i) b;rw [List.length_take]at h3;show(((cP G s l).take i).foldl (rV k G.D) ⟨G.world s++ [s],[]⟩).wd.length<=700;rw [h2];simp only [List.length_append,List.length_singleton];omega
 refine af.sr (I:=fun st v=>∃(i:Nat) (E:Option Addr) (e ce:Nat) (W:Option Addr) (nw cw:Nat),st=(W,nw,cw,(i:Int))/\i<=n/\VJ v B0 xb rb ⟨s,G.score s+1+(la k G s l i).bl.count true,cP G s l,(la k G s l i).bl⟩ A n cp E e ce W nw cw (la k G s l i).wd/\Kept (fun j=>j=xb\/B0<=j) y v) (μ:=fun st _=>((n:Int)-st.2.2.2).toNat) (s:=(W,nw,cw,0)) ⟨0,none,0,0,W,nw,cw,rfl,Nat.zero_le _,V,Kept.refl _ _⟩ ?_;rintro st v ⟨i,E,e,ce,W,nw,cw,rfl,hi,Vv,kv⟩;unfold af.B3;refine⟨A,n,cp,Vv.f33,Split.dec (fun di=>?_) (fun gF=>?_)⟩
 ·simp only at di
  have dW:i<n:=by omega
  obtain⟨z,hz⟩:∃z,(cP G s l)[i]? =some z:=⟨_,List.getElem?_eq_getElem (by omega)⟩;have nu:=zQ (k:=k) hz;have zA:(cP G s l)[((i:Nat):Int).toNat]? =some z:=by rw [Int.toNat_natCast];exact hz
  have hnw:(la k G s l i).wd.length=nw:=cr.len Vv.wr;have XU:=vl i hi;have sv:=kv.size;refine⟨A,n,cp,Vv.f33,(cr.hs Vv.mg).load (i:=(i:Int)) (by omega) zA ?_⟩;refine pO (hR kv) (by omega) (cr.hs Vv.wr) (by omega) z fun N cN w4 Sx k4=>⟨N,_,cN,rfl,?_⟩;have qM:=kv.trans k4 (fun _ _ h=>h.elim);have Yx:=hR qM;refine Is.mk rfl ⟨_,Yx.c0,?_⟩;have zE:(cg G.D (la k G s l i).wd z).length<=700:=by
   have:=List.length_filter_le (fun b=>decide (oB G.D b z)) (la k G s l i).wd;unfold cg;omega
  generalize Ns:cg G.D (la k G s l i).wd z=Av at Sx zE;have V4:=Vv.same k4;refine af.H0 (I:=fun st u=>∃(b:Bool) (q:Nat),st=(b,(q:Int))/\q<=Av.length/\b=(decide (Av.length<=k)&&(Av.take q).all fun z=>decide ((cg G.D (la k G s l i).wd z).length+1<=k))/\Kept Nil w4 u) (μ:=fun st _=>((Av.length:Int)-st.2).toNat) (s:=(decide ((Av.length:Int)<=(k:Int)),0)) ⟨_,0,rfl,Nat.zero_le _,by simp,Kept.refl _ _⟩ ?_;rintro st u ⟨b,q,rfl,hq,hb,ku⟩;have XB:=qM.trans ku (fun _ _ h=>h.elim);have Vu:=V4.same ku;have fin:∀ {t:World},Kept Nil w4 t->b=qY k G.D (la k G s l i).wd z->af.DK (some ⟨r,0,none⟩) ⟨rb,0,none⟩ none 0 0 ⟨xb,0,none⟩ W nw cw (i:Int) N Av.length cN b (q:Int) (bW (af.e3 (some ⟨r,0,none⟩) ⟨rb,0,none⟩ none 0 0 ⟨xb,0,none⟩) (fun st v=>∃(i:Nat) (E:Option Addr) (e ce:Nat) (W:Option Addr) (nw cw:Nat),st=(W,nw,cw,(i:Int))/\i<=n/\VJ v B0 xb rb ⟨s,G.score s+1+(la k G s l i).bl.count true,cP G s l,(la k G s l i).bl⟩ A n cp E e ce W nw cw (la k G s l i).wd/\Kept (fun j=>j=xb\/B0<=j) y v) (fun st _=>((n:Int)-st.2.2.2).toNat) (W,nw,cw,(i:Int)) v (af.q3 K)) t:=fun {t} kt C6=>by
   have Vt:=V4.same kt;have Th:=qM.trans kt (fun _ _ h=>h.elim);have st:=Th.size;have Ys:(la k G s l i).bl.length=e:=by have:=(Row.bo Vt.bl).len;simpa using this
   have hbi:=DU k G s l i (by omega);unfold af.DK;refine⟨E,e,ce,Vt.f34,?_⟩;intro w5;have k5:Kept Nil t w5:=(Kept.refl _ _).alloc _;have pE:w5.cell? ⟨t.heap.size,0,none⟩=some (.bool b):=by rw [aE (aM t _)];rfl
   clear_value w5;obtain⟨E',sU,u6,q1,q2,q3,q4⟩:=Vt.HN (by omega) (by omega) k5 pE;refine⟨E',e+1,sU,u6,q1,q2,?_⟩;have KW:=Th.tt q4;rw [dE (n:=(i:Int)) (by omega) (by omega)];rw [rV,<-C6]at nu;generalize u6.setCell ((⟨xb,0,none⟩:Addr).add 34) (.slice E' (e+1) sU)=w6 at q3 q4 KW⊢;have s6:=KW.size;cases b with
   |false=>
    refine Split.no rfl ⟨(W,nw,cw,(i:Int)+1),rfl,⟨i+1,E',e+1,sU,W,nw,cw,rfl,dW,?_,KW⟩,by simp only;omega⟩;rw [nu];simpa [List.count_append]using q3
   |true=>
    refine Split.yes rfl ⟨A,n,cp,q3.f33,(cr.hs q3.mg).load (i:=(i:Int)) (by omega) zA ⟨z.2.1,?_⟩⟩;intro w7;have k7:Kept Nil w6 w7:=(Kept.refl _ _).alloc _;have Z6:=jE w6 z;obtain⟨W',R4,w8,r1,r2,r3⟩:=q3.SI (by omega) (by omega) k7 Z6;refine⟨W',nw+1,R4,w8,r1,_,r2.f32,r2.wrx (by omega),?_⟩;have ajV:(la k G s l i).bl.count true<=300:=by have:=List.count_le_length (a:=true) (l:=(la k G s l i).bl);omega
    have ew:u64.wrap (((G.score s+1+(la k G s l i).bl.count true:Nat):Int)+1)=((G.score s+1+(la k G s l i).bl.count true+1:Nat):Int):=by
     rw [show((G.score s+1+(la k G s l i).bl.count true:Nat):Int)+1=((G.score s+1+(la k G s l i).bl.count true+1:Nat):Int)by omega];exact kz (by omega)
    simp only;rw [ew];have r4:=r2.OM (G.score s+1+(la k G s l i).bl.count true+1);have r5:=r2.OK 32 (.int .u64 ((G.score s+1+(la k G s l i).bl.count true+1:Nat):Int));refine⟨(W',nw+1,R4,(i:Int)+1),rfl,⟨i+1,E',e+1,sU,W',nw+1,R4,rfl,dW,?_,(KW.tt r3).trans r5 (fun _ _ h=>.inl h)⟩,by simp only;omega⟩;rw [nu];have ec:((la k G s l i).bl++ [true]).count true=(la k G s l i).bl.count true+1:=by simp [List.count_append]
    simp only [if_true];rw [ec,<-Nat.add_assoc];exact r4
  unfold af.B4;refine Split.dec (fun LA=>?_) (fun LH=>?_)
  ·simp only at LA
   refine Split.mk (fun xm=>?_) (fun xm=>?_)
   ·replace xm:b=true:=xm
    subst xm;have IM:q<Av.length:=by omega
    obtain⟨z2,XP⟩:∃z2,Av[q]? =some z2:=⟨_,List.getElem?_eq_getElem IM⟩;intro w5;have k5:Kept Nil u w5:=(Kept.refl _ _).drew;clear_value w5;have F8:=ku.tt k5;have xZ:=qM.trans F8 (fun _ _ h=>h.elim);have hR5:=hR xZ;refine((cr.hs Sx).same F8).load (i:=(q:Int)) (by omega) (by rw [Int.toNat_natCast];exact XP) (Is.mk rfl ⟨_,hR5.c0,?_⟩);refine pO hR5 (by omega) (cr.hs (V4.same F8).wr) (by omega) z2 fun N2 c2 w6 yH k6=>⟨N2,_,c2,rfl,?_⟩;have KZ:=F8.tt k6;refine⟨(hR5.same k6).c0,?_⟩;simp only;rw [dE (n:=(q:Int)) (by omega) (by omega),iY (x:=(k:Int)-1) (by omega) (by omega)];refine⟨(decide (((cg G.D (la k G s l i).wd z2).length:Int)<=(k:Int)-1),(q:Int)+1),rfl,⟨_,q+1,rfl,IM,?_,KZ⟩,by simp only;omega⟩;rw [eq_comm,Bool.and_eq_true,decide_eq_true_eq]at hb;rw [decide_eq_true hb.1,Bool.true_and,List.take_add_one,XP];simp only [Option.toList_some,List.all_append,hb.2,Bool.true_and,List.all_cons,List.all_nil,Bool.and_true];rw [decide_eq_decide];omega
   ·rw [aU,af.Hj]
    replace xm:b=false:=xm
    refine fin ku ?_;rw [xm]at hb⊢
    symm
    unfold qY;rw [Ns,decide_eq_false_iff_not];rintro⟨g1,g2⟩;rw [decide_eq_true g1,Bool.true_and]at hb;have:=List.all_eq_false.1 hb.symm;obtain⟨z0,Z4,Z3⟩:=this;exact Z3 (decide_eq_true (g2 z0 (List.mem_of_mem_take Z4)))
  ·simp only at LH
   rw [aU,af.Hj];refine fin ku ?_;rw [List.take_of_length_le (by omega)]at hb;rw [hb];unfold qY;rw [Ns,Bool.eq_iff_iff,Bool.and_eq_true,decide_eq_true_eq,decide_eq_true_eq,List.all_eq_true];simp only [decide_eq_true_eq]
 ·simp only at gF
  have:i=n:=by omega
  subst this;rw [aU,af.yA];rw [<-hn,DV]at Vv;have GH:(⟨s,G.score s+1+(iw k G s l).bl.count true,cP G s l,(iw k G s l).bl⟩:pz)=dr k G s l:=rfl;rw [GH]at Vv;unfold af.tM;obtain⟨t1,t2,t3⟩:=gu Vv.box (cs:=dp (dr k G s l) A (cP G s l).length cp E e ce) (by rw [bI];rfl);refine⟨_,⟨bI ..,Cells.bV Vv.top⟩,⟨bI ..,fE _ _ _ _ _ _ _,fun j hj=>t1 j (by rw [bI];exact hj)⟩,_,⟨bI ..,Cells.bV t2⟩,?_⟩;rw [hn]at t3 Vv⊢;exact hK v E e ce W nw cw Vv ((kv.mono fun _ _ h=>h.imp (fun h=>h) (fun h=>.inr h)).trans t3 (fun _ _ h=>.inr (.inl h)))
end
theorem Rg{G:GS}{l:List HT}{k:Nat}{x:HT}(h:SO G l)(h1:∀y∈l.take k,gl G y x=true)(h2:∀y∈l.drop k,gl G x y=true):SO G (l.take k++x::l.drop k):=by
 have h0:SO G (l.take k++l.drop k):=by rw [List.take_append_drop];exact h
 unfold SO at h0⊢;rw [List.pairwise_append]at h0⊢;refine⟨h0.1,List.pairwise_cons.2 ⟨h2,h0.2.1⟩,fun a ha b hb=>?_⟩;rcases List.mem_cons.1 hb with rfl|hb
 ·exact h1 a ha
 ·exact h0.2.2 a ha b hb
section
variable{y w w':World}{F F' S:Nat->Prop}{r x k:Nat}{G:GS}{K:Value->World->Prop}{B0 xb rb sb n cp e ce nw cw na ca:Nat}{A E W AA:Option Addr}{s:HT}{l all wd:List HT}
set_option maxHeartbeats 2000000 in
theorem Fk(h:R3 y F r x k G)(hD:G.D.length<=300)(hB:B0<=y.heap.size)(iV:∀j,(j=r\/j=x\/F j)->j≠xb)(hs:s∈ids G.D)(IC:y.heap[sb]? =some (.cells s.1 al (0,0)))(RI:sb≠xb)
 (cY:HS y AA na all) (YA:∀a,AA=some a->a.block≠xb) (hSS:SS all) (gC:∀z∈all,z∈ids G.D)
 (V:VJ y B0 xb rb ⟨s,G.score s+1,[],[]⟩ none 0 0 none 0 0 W nw cw wd)
 (hK:∀v A n cp M i,SO G M->(∀z,z∈M↔z∈all/\z≠s/\¬fH G.D z s)->VJ v B0 xb rb ⟨s,G.score s+1,M,[]⟩ A n cp none 0 0 W nw cw wd->Kept (· =xb) y v->af.df (some ⟨r,0,none⟩) ⟨sb,0,none⟩ ⟨rb,0,none⟩ none 0 0 ⟨xb,0,none⟩ W nw cw AA na ca i K v):
 Holds none [] prog 179 (.loop (lB (bB (sR (sL (cH (body af.fn))))))) (af.q1 K) [(0,.pointer (some ⟨r,0,none⟩)),(4,.pointer (some ⟨sb,0,none⟩)),(6,.pointer (some ⟨rb,0,none⟩)),(7,.slice none 0 0),(8,.pointer (some ⟨xb,0,none⟩)),(9,.slice W nw cw),(10,.slice AA na ca),(11,.int .i64 0)] y:=by
 have Lx:=cY.len;have ajb:na<=300:=by
  have:=dK (m:=ids G.D) hSS.nodup gC;rw [iK]at this;omega
 have hR:∀ {v:World},Kept (· =xb) y v->R3 v F r x k G:=fun kv=>h.aK kv (iV r (.inl rfl)) (iV x (.inr (.inl rfl))) (fun j hj=>iV j (.inr (.inr hj)));refine af.cJ (I:=fun st v=>∃(i:Nat) (M:List HT) (A:Option Addr) (n cp:Nat),st=(i:Int)/\i<=na/\VJ v B0 xb rb ⟨s,G.score s+1,M,[]⟩ A n cp none 0 0 W nw cw wd/\SO G M/\(∀z,z∈M↔z∈all.take i/\z≠s/\¬fH G.D z s)/\Kept (· =xb) y v) (μ:=fun st _=>((na:Int)-st).toNat) (s:=0) ⟨0,[],none,0,0,rfl,Nat.zero_le _,V,List.Pairwise.nil,by simp,Kept.refl _ _⟩ ?_;rintro st v ⟨i,M,A,n,cp,rfl,hi,Vv,Gj,jo,kv⟩;unfold af.B1;refine Split.dec (fun di=>?_) (fun gF=>?_)
 ·have dW:i<na:=by omega
  obtain⟨z,hz⟩:∃z,all[i]? =some z:=⟨_,List.getElem?_eq_getElem (by omega)⟩;have Pz:=gC z (List.mem_of_getElem? hz);have GF:all.take (i+1)=all.take i++ [z]:=by rw [List.take_add_one,hz];rfl
  have hMi:∀y∈M,y∈ids G.D:=fun y hy=>gC y (List.mem_of_mem_take ((jo y).1 hy).1);have hMl:M.length<=300:=by
   have:=dK (m:=ids G.D) Gj.nodup hMi;rw [iK]at this;omega
  have hMn:M.length=n:=cr.len Vv.mg;have sv:=kv.size;refine(cY.aK kv YA).load (i:=(i:Int)) (by omega) hz ?_;intro w2;obtain⟨tA,kh,kH⟩:=iN (w:=v) (z:=fG.1) (cs:=z.1) (t:=al) (by rw [z.2.1];rfl);refine⟨⟨z.2.1,z.2.one,fun j hj=>tA j (by rw [z.2.1];exact hj)⟩,?_⟩;intro w3 w4
  replace kh:w3.heap[v.heap.size]? =some (.cells z.1 al (0,0)):=kh
  replace kH:Kept Nil v w3:=kH
  have k4:Kept Nil w3 w4:=(Kept.refl _ _).drew;clear_value w4;have ui:=k4.heap kh (fun h=>h);have O4:=kH.tt k4;clear_value w3;have qM:=kv.trans O4 (fun _ _ h=>h.elim);have PM:∀ {u:World},Kept (· =xb) y u->Cells u ⟨sb,0,none⟩ s.1:=fun ku=>Cells.bV (ku.heap IC RI);have next:∀ {u:World} {M':List HT} {A':Option Addr} {n' xo:Nat},VJ u B0 xb rb ⟨s,G.score s+1,M',[]⟩ A' n' xo none 0 0 W nw cw wd->SO G M'->(∀z,z∈M'↔z∈all.take (i+1)/\z≠s/\¬fH G.D z s)->Kept (· =xb) y u->
   ∃s1:Int,i64.wrap ((i:Int)+(1:Int))=s1/\(∃(i:Nat) (M:List HT) (A:Option Addr) (n cp:Nat),s1=(i:Int)/\i<=na/\VJ u B0 xb rb ⟨s,G.score s+1,M,[]⟩ A n cp none 0 0 W nw cw wd/\SO G M/\(∀z,z∈M↔z∈all.take i/\z≠s/\¬fH G.D z s)/\Kept (· =xb) y u)/\((na:Int)-s1).toNat<((na:Int)-(i:Int)).toNat:=fun h1 h2 h3 h4=>by
   rw [dE (n:=(i:Int)) (by omega) (by omega)];exact⟨(i:Int)+1,rfl,⟨i+1,_,_,_,_,rfl,dW,h1,h2,h3,h4⟩,by omega⟩
  have skip:(z=s\/fH G.D z s)->∀z',z'∈M↔z'∈all.take (i+1)/\z'≠s/\¬fH G.D z' s:=fun Z4 z'=>by
   rw [jo,GF,List.mem_append,List.mem_singleton];constructor
   ·rintro⟨a,b⟩;exact⟨.inl a,b⟩
   ·rintro⟨a|rfl,b,c⟩
    ·exact⟨a,b,c⟩
    ·rcases Z4 with e|e
     ·exact absurd e b
     ·exact absurd e c
  refine⟨z.1,⟨z.2.1,Cells.bV ui⟩,s.1,⟨s.2.1,PM qM⟩,⟨z.2.ints,s.2.ints⟩,?_⟩;rw [fy];refine Split.dec (fun Ex=>?_) (fun Ex=>?_)
  ·obtain⟨s1,e1,e2,e3⟩:=next (Vv.same O4) Gj (skip (.inl Ex)) qM
   rw [e1];exact⟨s1,rfl,e2,e3⟩
  have Yx:=hR qM;refine Is.mk rfl ⟨_,Yx.c1,Is.mk rfl ⟨z.1,⟨z.2.1,Cells.bV ui⟩,s.1,⟨s.2.1,PM qM⟩,?_⟩⟩;rw [add_zero];refine oJ Yx.X.gr h.iA.W (by omega) z s fun w5 b hb k5=>⟨b,rfl,?_⟩;have O3:=O4.tt k5;have xZ:=kv.trans O3 (fun _ _ h=>h.elim);refine Split.mk (fun hbt=>?_) (fun Yt=>?_)
  ·obtain⟨s1,e1,e2,e3⟩:=next (Vv.same O3) Gj (skip (.inr (hb.1 hbt))) xZ
   rw [e1];exact⟨s1,rfl,e2,e3⟩
  have hzA:¬fH G.D z s:=fun e=>by rw [hb.2 e]at Yt;cases Yt
  have V5:=Vv.same O3;have pE:=k5.heap ui (fun h=>h);have hzM:z∉M:=fun e=>by
   have h1:=((jo z).1 e).1;have gU:=hSS.nodup;obtain⟨q,hq⟩:=List.mem_iff_getElem?.1 h1;rw [List.getElem?_take]at hq;split at hq
   ·rename_i hqi
    have:=(List.getElem?_inj (i:=q) (j:=i) (by rw [Lx];omega) gU).1 (by rw [hq,hz]);omega
   ·cases hq
  refine⟨A,n,cp,V5.f33,?_⟩;refine af.iz (I:=fun st u=>∃q:Nat,st=(q:Int)/\q<=M.length/\(∀y∈M.drop q,gl G z y=true)/\Kept Nil w5 u) (μ:=fun st _=>st.toNat) (s:=(n:Int)) ⟨n,rfl,by omega,by rw [<-hMn];simp,Kept.refl _ _⟩ ?_;rintro st u ⟨q,rfl,hq,vX,ku⟩;unfold af.B2;have vW:∀ {t:World},Kept Nil w5 t->(∀y∈M.take q,gl G y z=true)->af.jc (some ⟨r,0,none⟩) ⟨sb,0,none⟩ ⟨rb,0,none⟩ none 0 0 ⟨xb,0,none⟩ W nw cw AA na ca (i:Int) ⟨v.heap.size,0,none⟩ (q:Int) (bW (af.e1 (some ⟨r,0,none⟩) ⟨sb,0,none⟩ ⟨rb,0,none⟩ none 0 0 ⟨xb,0,none⟩ W nw cw AA na ca) (fun st v=>∃(i:Nat) (M:List HT) (A:Option Addr) (n cp:Nat),st=(i:Int)/\i<=na/\VJ v B0 xb rb ⟨s,G.score s+1,M,[]⟩ A n cp none 0 0 W nw cw wd/\SO G M/\(∀z,z∈M↔z∈all.take i/\z≠s/\¬fH G.D z s)/\Kept (· =xb) y v) (fun st _=>((na:Int)-st).toNat) (i:Int) v (af.q1 K)) t:=by
   intro t kt IA;have Vt:=V5.same kt;have Th:=xZ.trans kt (fun _ _ h=>h.elim);have st:=Th.size;have yF:=Vt.mg;have I0:n<=cp:=by rcases Row.own yF with⟨_,h1,h2,_⟩|⟨_,_,_,_,_,h1,_⟩<;>omega
   unfold af.jc;refine⟨A,n,cp,Vt.f33,⟨by omega,by omega⟩,?_⟩;have wO:HS t (if cp=0 then A else A.map (·.add (0*32))) ((q:Int).toNat -0) (M.take q):=by
    have h:=yF.hs.take (k:=q) (by omega);rw [Nat.sub_zero,Int.toNat_natCast];have e:(if cp=0 then A else A.map (·.add (0*32)))=A:=by
     split
     ·rfl
     ·cases A<;>simp [add_zero]
    rw [e];exact h
   obtain⟨A1,c1,u2,nD,ir,LM,nE⟩:=dd (cx:=cp-0) aF (cr.nil t t.heap.size) wO (by simp;omega) (Nat.le_refl _);have k2:Kept Nil t u2:=Kept.dX (Kept.refl _ _) LM (fun k hk=>by cases hk);rw [Nat.zero_add,Nat.sub_zero,Int.toNat_natCast]at nD ir;rw [List.nil_append]at ir;refine⟨A1,_,c1,u2,by rw [Nat.sub_zero,Int.toNat_natCast];exact nD,?_⟩;refine⟨z.1,⟨z.2.1,Cells.bV ((kt.tt k2).heap pE (fun h=>h))⟩,z.2.1,?_⟩;intro u3;have k3:Kept Nil u2 u3:=(Kept.refl _ _).alloc _;have VX:HS u3 (some ⟨u2.heap.size,0,none⟩) 1 [z]:=jE u2 z;clear_value u3;have nJ:cr u3 t.heap.size A1 q c1 (M.take q):=Row.aK ir k3 (fun _ _ h=>h);have s2:=k2.size;have s3:=k3.size;obtain⟨A4,c4,u4,yg,jW,EL,aj3⟩:=dd (cx:=1) aF nJ VX (by omega) (by omega);have XO:Kept Nil t u4:=Kept.dX (k2.tt k3) EL (fun k hk=>by rcases nE k hk with h|h;cases h;exact h);have V4:=Vt.same XO;refine⟨A4,_,c4,u4,yg,A,n,cp,V4.f33,⟨by omega,by omega⟩,?_⟩;have IE:HS u4 (if cp=(q:Int).toNat then A else A.map (·.add ((q:Int).toNat*32))) (n-(q:Int).toNat) (M.drop q):=by
    rw [Int.toNat_natCast];exact(yF.hs.same XO).drop I0 (by omega)
   have hdl:(n-(q:Int).toNat)=n-q:=by rw [Int.toNat_natCast]
   have s4:=XO.size;obtain⟨A5,c5,u5,sE,lD,LL,aj2⟩:=dd (cx:=cp-(q:Int).toNat) aF jW IE (by omega) s4;have RZ:∀j,bH A4=some j->t.heap.size<=j:=fun j hj=>(Row.bV jW hj).1;have k5':Kept Nil t u5:=Kept.dX XO LL RZ;have Hf:=Vt.same k5';refine⟨A5,_,c5,u5,sE,Hf.wrx (by omega),?_⟩;have nP:M.take q++ [z]++M.drop q=M.take q++z::M.drop q:=by simp
   have zE:(M.take q++z::M.drop q).length=n+1:=by simp;omega
   rw [nP]at lD;have e5:q+1+(n-(q:Int).toNat)=n+1:=by omega
   rw [e5]at lD⊢;have Gy:∀j,bH A5=some j->t.heap.size<=j:=fun j hj=>(Row.bV lD hj).1;have ks:=Hf.OK 33 (.slice A5 (n+1) c5);have Vf:VJ (u5.setCell ((⟨xb,0,none⟩:Addr).add 33) (.slice A5 (n+1) c5)) B0 xb rb ⟨s,G.score s+1,M.take q++z::M.drop q,[]⟩ A5 (n+1) c5 none 0 0 W nw cw wd:=by
    have xB:=Hf.xB;refine⟨?_,?_,Row.aK Hf.bl ks (fun j hj=>by cases hj),Row.aK Hf.wr ks (fun j hj e=>by have:=(Row.bV Hf.wr hj).1;omega),ks.heap Hf.box Hf.xr.symm,fun j hj e=>(by cases e),fun j hj e=>?_,fun j hj=>(by cases hj),Hf.xB,Hf.rB,Hf.xr⟩
    ·rw [bD,du Hf.top]
     have:=rI ⟨s,G.score s+1,M,[]⟩ A n cp none 0 0 #[] A5 (n+1) c5;rw [Array.append_empty,Array.append_empty]at this;rw [this];rfl
    ·have Uc:cr u5 B0 A5 (n+1) c5 (M.take q++z::M.drop q):=Row.base lD (fun j hj=>by have:=Gy j hj;omega)
     exact Row.aK Uc ks (fun j hj e=>by have:=Gy j hj;omega)
    ·obtain⟨_,cur,hc⟩:=Row.bV Vt.wr e
     have:=bf hc;have:=Gy j hj;omega
   generalize u5.setCell ((⟨xb,0,none⟩:Addr).add 33) (.slice A5 (n+1) c5)=u6 at ks Vf⊢;obtain⟨s1,e1,e2,e3⟩:=next Vf (Rg Gj IA vX) (fun z'=>by
    rw [GF,List.mem_append (s:=all.take i),List.mem_singleton];have hM2:z'∈M.take q++z::M.drop q↔z'=z\/z'∈M:=by
     rw [List.mem_append,List.mem_cons];constructor
     ·rintro(h|h|h)
      ·exact .inr (List.mem_of_mem_take h)
      ·exact .inl h
      ·exact .inr (List.mem_of_mem_drop h)
     ·rintro(h|h)
      ·exact .inr (.inl h)
      ·rw [<-List.take_append_drop q M,List.mem_append]at h
       exact h.imp (fun h=>h) (fun h=>.inr h)
    rw [hM2,jo];constructor
    ·rintro(rfl|⟨a,b⟩)
     ·exact⟨.inr rfl,Ex,hzA⟩
     ·exact⟨.inl a,b⟩
    ·rintro⟨a|rfl,b⟩
     ·exact .inr ⟨a,b⟩
     ·exact .inl rfl) ((Th.trans k5' (fun _ _ h=>h.elim)).tt ks)
   rw [e1];exact⟨s1,rfl,e2,e3⟩
  intro w6;have k6:Kept Nil u w6:=(Kept.refl _ _).drew;clear_value w6;have KZ:=ku.tt k6;have V6:=V5.same KZ;have KW:=xZ.trans KZ (fun _ _ h=>h.elim);refine Split.dec (fun jS=>?_) (fun Bb=>?_)
  ·have Uo:0<q:=by omega
   obtain⟨y1,Le⟩:∃y1,M[q-1]? =some y1:=⟨_,List.getElem?_eq_getElem (by omega)⟩;have M0:=List.mem_of_getElem? Le;rw [wN (x:=(q:Int)-1) (i:=q-1) (by omega) (by omega)];refine⟨z.1,⟨z.2.1,Cells.bV (KZ.heap pE (fun h=>h))⟩,A,n,cp,V6.f33,(cr.hs V6.mg).load (i:=((q-1:Nat):Int)) (by omega) (by rw [Int.toNat_natCast];exact Le) ?_⟩;refine qS (hR KW) (by omega) Pz (hMi y1 M0) fun w7 k7=>⟨_,rfl,?_⟩;have ku7:=KZ.tt k7;refine Split.mk (fun hc=>?_) (fun hc=>?_)
   ·refine⟨((q-1:Nat):Int),rfl,⟨q-1,rfl,by omega,fun z' zA=>?_,ku7⟩,by simp only;omega⟩
    have hd:M.drop (q-1)=y1::M.drop q:=by
     obtain⟨h1,h2⟩:=lgeS Le;rw [List.drop_eq_getElem_cons h1,h2,show q-1+1=q by omega]
    rw [hd]at zA;rcases List.mem_cons.1 zA with rfl|zA
    ·exact hc
    ·exact vX z' zA
   ·rw [aU,af.ki]
    refine vW ku7 fun z' zA=>?_;have Ey:gl G y1 z=true:=by
     cases hg:gl G y1 z
     ·exact absurd (p9 hc hg) (fun e=>hzM (by rw [e];exact M0))
     ·rfl
    obtain⟨j,hj⟩:=List.mem_iff_getElem?.1 zA;rw [List.getElem?_take]at hj;split at hj
    ·rename_i hjq
     by_cases e:j=q-1
     ·subst e;rw [Le]at hj;cases hj;exact Ey
     ·obtain⟨a1,a2⟩:=lgeS hj
      obtain⟨b1,b2⟩:=lgeS Le;have:=List.pairwise_iff_getElem.1 Gj j (q-1) a1 b1 (by omega);rw [a2,b2]at this;exact p8 this Ey
    ·cases hj
  ·rw [aU,af.ki]
   have Uo:q=0:=by omega
   refine vW KZ fun z' zA=>?_;rw [Uo]at zA;simp at zA
 ·rw [aU,af.dw]
  rw [List.take_of_length_le (by omega)]at jo;exact hK v A n cp M (i:Int) Gj jo Vv kv
end
section
variable{w w':World}{F F' S:Nat->Prop}{r x k:Nat}{G:GS}{K:Value->World->Prop}{xb rb sb n cx:Nat}{A:Option Addr}{s:HT}{l:List HT}
theorem Oz{v:World}(h:R3 v F r x k G)(hD:G.D.length<=300)(o5:k<=1000)(hs:s∈ids G.D)(hl:HS v A n l)(hn:n<=5000)(gC:∀z∈l,z∈ids G.D)(iV:∀j,(j=r\/j=x\/F j)->j≠xb/\j≠rb)
 (IC:v.heap[sb]? =some (.cells s.1 al (0,0))) (Gm:v.heap[rb]? =some (.cells zC bK (0,0))) (M5:v.heap[xb]? =some (.cells (dp ⟨s,G.score s+1,[],[]⟩ none 0 0 none 0 0) bK (0,0))) (RI:sb≠xb) (hrx:xb≠rb)
 (hK:∀u A n cp E e ce W nw cw,cr u v.heap.size A n cp (dr k G s l).merge->Row u v.heap.size ju 1 E e ce (tH (dr k G s l).gm)->cr u v.heap.size W nw cw (iw k G s l).wd->Kept (fun j=>j=xb\/j=rb) v u->K (.tuple #[.agg (dp (dr k G s l) A n cp E e ce),.slice W nw cw]) u):
 af.J1 (some ⟨r,0,none⟩) A n cx ⟨sb,0,none⟩ ⟨rb,0,none⟩ none 0 0 ⟨xb,0,none⟩ K v:=by
 have W0:=h.iA.W;have lsb:=bf IC;have lrb:=bf Gm;have lxb:=bf M5;have hwl:=sW h.iA hs;have j2:∀ {u:World} {W:Option Addr} {nw cw:Nat},cr u v.heap.size W nw cw (G.world s++ [s])->Kept Nil v u->af.J2 (some ⟨r,0,none⟩) A n cx ⟨sb,0,none⟩ ⟨rb,0,none⟩ none 0 0 ⟨xb,0,none⟩ W nw cw K u:=by
  intro u W nw cw Zo ku;have hu:=h.same ku;have su:=ku.size;unfold af.J2;refine Is.mk rfl ⟨_,hu.c1,Is.mk rfl ?_⟩;rw [add_zero];refine Aj hu.X.gr W0 (by omega) (hl.same ku) (by omega) fun A1 c1 w1 nZ k1=>⟨A1,_,c1,rfl,?_⟩;have rT:(eM G.D l).length<=300:=Nat.le_trans (og _ _) hD;have s1:=k1.size;have F9:=ku.tt k1;obtain⟨A2,c2,w2,jX,ir,g2,_⟩:=dd aF nZ (cx:=cx) (hl.same F9) (by omega) s1;have k2:Kept Nil u w2:=Kept.dX k1 g2 (fun j hj=>(Row.bV nZ hj).1);refine⟨A2,_,c2,w2,jX,?_⟩;refine oI ir.hs (by omega) fun A3 c3 w3 nJ k3=>⟨A3,_,c3,rfl,?_⟩;have MM:=k2.tt k3;have sy:=ku.tt MM;have h3:=h.same sy;have cY:∀z∈dB (eM G.D l++l),z∈ids G.D:=fun z hz=>by
   rcases List.mem_append.1 (dV.1 hz)with hz|hz
   ·exact(km.1 hz).1
   ·exact gC z hz
  have V3:VJ w3 v.heap.size xb rb ⟨s,G.score s+1,[],[]⟩ none 0 0 none 0 0 W nw cw (G.world s++ [s]):=
   ⟨sy.heap M5 (fun h=>h),cr.nil _ _,Row.nil _ _ _ _,Row.aK Zo MM (fun _ _ h=>h),sy.heap Gm (fun h=>h),fun j hj=>(by cases hj),fun j hj=>(by cases hj),fun j hj=>(by cases hj),lxb,lrb,hrx⟩
  have s3:=sy.size;refine Fk h3 (by omega) (by omega) (fun j hj=>(iV j hj).1) hs (sy.heap IC (fun h=>h)) RI nJ.hs (fun a ha e=>by
   subst ha;have:=(Row.bV nJ (k:=a.block) rfl).1;have:=(ku.tt k2).size;omega) (jy _) cY V3 fun t A n cp M i Gj jo Vt kt=>?_
  have hM:M=cP G s l:=xQ Gj fun z=>by
   rw [jo];unfold tm;rw [List.mem_filter,decide_eq_true_eq]
  subst hM;have ht:=h3.aK kt (iV r (.inl rfl)).1 (iV x (.inr (.inl rfl))).1 (fun j hj=>(iV j (.inr (.inr hj))).1);have st:=kt.size;refine Fj (B0:=v.heap.size) ht (by omega) o5 (by omega) (fun j hj=>⟨?_,iV j hj⟩) (fun z hz=>?_) hs Vt fun t2 E e ce W nw cw V2 G8=>?_
  ·rcases hj with rfl|rfl|hj
   ·exact h.lt
   ·exact h.lx
   ·exact h.lo j hj
  ·exact cY z ((jo z).1 hz).1
  ·have box:=V2.box
   obtain⟨_,_,f3⟩:=gu box (cs:=dp (dr k G s l) A n cp E e ce) (by rw [bI];rfl);refine hK _ A n cp E e ce W nw cw (Row.aK V2.mg f3 (fun j hj e=>by have:=(Row.bV V2.mg hj).1;omega)) (Row.aK V2.bl f3 (fun j hj e=>by have:=(Row.bV V2.bl hj).1;omega)) (Row.aK V2.wr f3 (fun j hj e=>by have:=(Row.bV V2.wr hj).1;omega)) ?_;exact((sy.mono fun _ _ h=>h.elim).trans kt (fun j hj e=>.inl e)).trans G8 (fun j hj e=>by
    rcases e with e|e|e
    ·exact .inl e
    ·exact .inr e
    ·omega)
 unfold af.J1;intro w1;have k1:Kept Nil v w1:=(Kept.refl _ _).drew;clear_value w1;have h1:=h.same k1;obtain⟨i,nd,cl,wl,q1,q2,q3,q4,q5,q6,q7,q8⟩:=Og h.iA hs;obtain⟨A0,c0,B,e,g1,g2,g3⟩:=h.top;have cB:∀ {u:World},Kept Nil v u->u.cell? ((⟨r,0,none⟩:Addr).add 3)=some (.slice B G.D.length e):=fun ku=>by rw [bD,aE (ku.heap g1 (fun h=>h))];rfl
 have gW:∀ {u:World},Kept Nil v u->qp u F B G.D.length G.kZ:=fun ku=>g3.aK ku (fun _ _ h=>h);obtain⟨aB,Aw,nw,cw,p1,p2,p3,p4,p5,p6⟩:=g3.at_ i wl q4;subst p1;have aid:wl.length=nw:=p5.len;rw [q7]at hwl;have cW:∀ {u:World},Kept Nil v u->u.cell? (aB.add (((i:Nat):Int).toNat*1))=some (.slice Aw nw cw):=fun ku=>by rw [Int.toNat_natCast];exact ku.cell p4 (fun h=>h)
 have hW:∀ {u:World},Kept Nil v u->HS u Aw nw wl:=fun ku=>p5.same ku;have bx:∀ {u:World},Kept Nil v u->∃cs:Array Value,(.agg s.1:Value)=.agg cs/\cs.size=32/\Cells u ⟨sb,0,none⟩ cs:=fun ku=>⟨_,rfl,s.2.1,Cells.bV (ku.heap IC (fun h=>h))⟩;have Ra:∀ {u:World},Kept Nil v u->∃A' c' u',(Builtin.append_ #[aF,aF] aF #[.slice none 0 0,.slice Aw nw cw]).run prog u=.ok (.slice A' nw c') u'/\cr u' v.heap.size A' nw c' wl/\Kept Nil u u':=fun {u} ku=>by
  obtain⟨A',c',u',hr,row,hg,_⟩:=dd (cx:=cw) aF (cr.nil u v.heap.size) (hW ku) (by omega) ku.size;rw [Nat.zero_add]at hr row;rw [List.nil_append]at row;exact⟨A',c',u',hr,row,Kept.dX (Kept.refl _ _) hg (fun j hj=>by cases hj)⟩
 have Q9:∀ {u:World} {A':Option Addr} {c' bq:Nat},Kept Nil v u->cr u v.heap.size A' nw c' wl->HS u (some ⟨bq,0,none⟩) 1 [s]->∃A2 c2 u',(Builtin.append_ #[aF,aF] aF #[.slice A' nw c',.slice (some ⟨bq,0,none⟩) 1 1]).run prog u=.ok (.slice A2 (nw+1) c2) u'/\cr u' v.heap.size A2 (nw+1) c2 (G.world s++ [s])/\Kept Nil v u':=fun {u A' c' bq} ku row hx=>by
  obtain⟨A2,c2,u',hr,ir,hg,_⟩:=dd (cx:=1) aF row hx (by omega) ku.size;rw [<-q7]at ir;exact⟨A2,c2,u',hr,ir,Kept.dX ku hg (fun j hj=>(Row.bV row hj).1)⟩
 refine Is.mk rfl ⟨some aB,_,e,cB k1,Is.mk rfl ⟨_,h1.c1,Is.mk rfl ⟨s.1,⟨s.2.1,Cells.bV (k1.heap IC (fun h=>h))⟩,s.1,⟨s.2.1,Cells.bV (k1.heap IC (fun h=>h))⟩,?_,?_⟩⟩⟩
 ·rw [add_zero]
  refine oK h1.X.gr (by omega) s fun w2 k2=>⟨_,rfl,?_⟩;have zw:=k1.tt k2;rw [q5];refine⟨bx zw,cB zw,⟨by omega,by omega⟩,Is.mk rfl ⟨Aw,nw,cw,cW zw,?_,?_⟩⟩
  ·obtain⟨A1,c1,w3,yZ,nJ,k3⟩:=Ra zw
   have sy:=zw.tt k3;refine⟨A1,nw,c1,w3,yZ,bx sy,s.2.1,?_⟩;intro w4;have k4:Kept Nil w3 w4:=(Kept.refl _ _).alloc _;have TS:=jE w3 s;obtain⟨A2,c2,w5,sE,lD,k5⟩:=Q9 (sy.tt k4) (Row.aK nJ k4 (fun _ _ h=>h)) TS;exact⟨A2,nw+1,c2,w5,sE,af.qW (j2 lD k5)⟩
  ·refine⟨s.2.1,?_⟩
   intro w3;have k3:Kept Nil w2 w3:=(Kept.refl _ _).alloc _;have BS:HS w3 (some ⟨w2.heap.size,0,none⟩) 1 [s]:=jE w2 s;clear_value w3;have sy:=zw.tt k3;obtain⟨A1,c1,w4,yg,jW,k4⟩:=Ra sy;obtain⟨A2,c2,w5,sE,lD,k5⟩:=Q9 (sy.tt k4) jW (BS.same k4);exact⟨cW sy,cB sy,A1,nw,c1,w4,yg,A2,nw+1,c2,w5,sE,af.qW (j2 lD k5)⟩
 ·refine⟨s.2.1,?_⟩
  intro w2;have k2:Kept Nil w1 w2:=(Kept.refl _ _).alloc _;have Lh:HS w2 (some ⟨w1.heap.size,0,none⟩) 1 [s]:=jE w1 s;clear_value w2;have zw:=k1.tt k2;refine⟨bx zw,(h.same zw).c1,cB zw,?_⟩;rw [add_zero];refine oK (h.same zw).X.gr (by omega) s fun w3 k3=>⟨_,rfl,?_⟩;have sy:=zw.tt k3;rw [q5];obtain⟨A1,c1,w4,yg,jW,k4⟩:=Ra sy;obtain⟨A2,c2,w5,sE,lD,k5⟩:=Q9 (sy.tt k4) jW ((Lh.same k3).same k4);exact⟨cB sy,⟨by omega,by omega⟩,Is.mk rfl ⟨Aw,nw,cw,cW sy,A1,nw,c1,w4,yg,A2,nw+1,c2,w5,sE,af.qW (j2 lD k5)⟩⟩
theorem qR(h:R3 w F r x k G)(hD:G.D.length<=300)(o5:k<=1000)(hs:s∈ids G.D)(hl:HS w A n l)(hn:n<=5000)(gC:∀z∈l,z∈ids G.D)
 (hK:∀u A n cp E e ce W nw cw,cr u w.heap.size A n cp (dr k G s l).merge->Row u w.heap.size ju 1 E e ce (tH (dr k G s l).gm)->cr u w.heap.size W nw cw (iw k G s l).wd->Kept Nil w u->K (.tuple #[.agg (dp (dr k G s l) A n cp E e ce),.slice W nw cw]) u):
 bE prog af.id #[.pointer (some ⟨r,0,none⟩),.agg s.1,.slice A n cx] w K:=by
 refine af.of ?_;unfold af.W;intro w1 w2 w3;have k1:Kept Nil w w1:=(Kept.refl _ _).alloc _;have wO:w1.heap[w.heap.size]? =some (.cells s.1 al (0,0)):=aM w _;have k2:Kept Nil w1 w2:=(Kept.refl _ _).alloc _;have jX:w2.heap[w1.heap.size]? =some (.cells zC bK (0,0)):=aM w1 _;have k3:Kept Nil w2 w3:=(Kept.refl _ _).drew;clear_value w3;have yZ:=k3.heap jX (fun h=>h);have CN:=k3.heap (k2.heap wO (fun h=>h)) (fun h=>h);have jF:=(k1.tt k2).tt k3;have s1:=k1.size;have l1:=bf wO;have l2:=bf yZ;clear_value w2 w1;have EA:=z7 h.iA hs;have ew:u64.wrap ((G.score s:Int)+(1:Int))=((G.score s+1:Nat):Int):=by
  rw [show(G.score s:Int)+1=((G.score s+1:Nat):Int)by omega];exact kz (by omega)
 have GH:(s.1++ #[.int .u64 ((G.score s+1:Nat):Int),.slice none 0 0,.slice none 0 0]:Array Value)=dp ⟨s,G.score s+1,[],[]⟩ none 0 0 none 0 0:=rfl;have go:∀ {u:World} {xb:Nat},Kept Nil w3 u->w3.heap.size<=xb->u.heap[xb]? =some (.cells (dp ⟨s,G.score s+1,[],[]⟩ none 0 0 none 0 0) bK (0,0))->af.J1 (some ⟨r,0,none⟩) A n cx ⟨w.heap.size,0,none⟩ ⟨w1.heap.size,0,none⟩ none 0 0 ⟨xb,0,none⟩ K u:=fun {u xb} ku hx M5=>by
  have MV:=jF.tt ku;have s0:=jF.size;refine Oz (h.same MV) hD o5 hs (hl.same MV) hn gC (fun j hj=>?_) (ku.heap CN (fun h=>h)) (ku.heap yZ (fun h=>h)) M5 (by omega) (by omega) fun t A n cp E e ce W nw cw g1 g2 g3 g4=>?_
  ·have:j<w.heap.size:=by
    rcases hj with rfl|rfl|hj
    ·exact h.lt
    ·exact h.lx
    ·exact h.lo j hj
   exact⟨by omega,by omega⟩
  ·have s0u:=MV.size
   exact hK t A n cp E e ce W nw cw (Row.base g1 (fun j hj=>by have:=(Row.bV g1 hj).1;omega)) (Row.base g2 (fun j hj=>by have:=(Row.bV g2 hj).1;omega)) (Row.base g3 (fun j hj=>by have:=(Row.bV g3 hj).1;omega)) (MV.trans g4 (fun j hj e=>by rcases e with e|e<;>omega))
 have bx:∀ {u:World},Kept Nil w3 u->∃cs:Array Value,(.agg s.1:Value)=.agg cs/\cs.size=32/\Cells u ⟨w.heap.size,0,none⟩ cs:=fun ku=>⟨_,rfl,s.2.1,Cells.bV (ku.heap CN (fun h=>h))⟩;refine⟨s.1,⟨s.2.1,Cells.bV CN⟩,s.1,⟨s.2.1,Cells.bV CN⟩,?_,?_⟩
 ·refine ln (h.same jF) (by omega) hs fun w4 k4=>⟨_,rfl,bx k4,?_⟩
  rw [ew,wC s];refine Is.mk rfl ?_;rw [GH];intro w5;have k5:Kept Nil w4 w5:=(Kept.refl _ _).alloc _;have RG:w5.heap[w4.heap.size]? =some (.cells zC bK (0,0)):=aM w4 _;clear_value w5;have nh:=k4.tt k5;obtain⟨t1,t2,t3⟩:=gu RG (cs:=dp ⟨s,G.score s+1,[],[]⟩ none 0 0 none 0 0) (by rw [bI];rfl);refine⟨bx nh,⟨bI ..,fE _ _ _ _ _ _ _,fun j hj=>t1 j (by rw [bI];exact hj)⟩,?_⟩;have s4:=k4.size;exact af.kV (go (nh.trans t3 (fun j hj e=>by omega)) s4 t2)
 ·intro w4
  have k4:Kept Nil w3 w4:=(Kept.refl _ _).alloc _;have TS:w4.heap[w3.heap.size]? =some (.cells zC bK (0,0)):=aM w3 _;clear_value w4;refine⟨bx k4,bx k4,?_⟩;refine ln (h.same (jF.tt k4)) (by omega) hs fun w5 k5=>⟨_,rfl,bx (k4.tt k5),?_⟩;have nh:=k4.tt k5;rw [ew,wC s];refine Is.mk rfl ?_;rw [GH];obtain⟨t1,t2,t3⟩:=gu (k5.heap TS (fun h=>h)) (cs:=dp ⟨s,G.score s+1,[],[]⟩ none 0 0 none 0 0) (by rw [bI];rfl);refine⟨⟨bI ..,fE _ _ _ _ _ _ _,fun j hj=>t1 j (by rw [bI];exact hj)⟩,?_⟩;exact af.kV (go (nh.trans t3 (fun j hj e=>by omega)) (Nat.le_refl _) t2)
end
theorem D4:zI prog uN bK 35 88:=⟨by kernel_rfl,by kernel_rfl⟩
theorem Su:zI prog fZ aF 1 24:=⟨by kernel_rfl,by kernel_rfl⟩
section
variable{w w':World}{F F' S:Nat->Prop}{A:Option Addr}{n c B m bytes:Nat}{tS tE:TypeId}{news:List Value}
theorem z6{a:Addr}(P:Nat->Array Value->Prop):∀n,(∀i,i<n->∃arr:Array Value,arr.size=m/\(∀u∈arr.toList,u.oneCell'=true)/\Cells w (a.add (i*m)) arr/\P i arr)->
 ∃news:List Value,news.length=n*m/\(∀j u,news[j]? =some u->w.cell? (a.add j)=some u)/\(∀u∈news,u.oneCell'=true)/\∀i,i<n->∃arr:Array Value,P i arr/\arr.size=m/\∀(j:Nat) v,arr[j]? =some v->news[i*m+j]? =some v
 |0,_=>⟨[],by simp,fun j u h=>by simp at h,fun u h=>by simp at h,fun i h=>by omega⟩
 |n+1,H=>by
  obtain⟨news,h1,h2,h3,h4⟩:=z6 P n fun i hi=>H i (by omega);obtain⟨arr,g1,g2,g3,g4⟩:=H n (by omega);refine⟨news++arr.toList,by rw [List.length_append,h1,Array.length_toList,g1,Nat.add_mul,Nat.one_mul],fun j u hj=>?_,fun u hu=>?_,fun i hi=>?_⟩
  ·rw [List.getElem?_append]at hj
   split at hj
   ·exact h2 j u hj
   ·rename_i gF
    rw [h1]at hj gF;have:=g3 (j-n*m) u (by simpa using hj)
    rwa [lY,show n*m+(j-n*m)=j by omega]at this
  ·rcases List.mem_append.1 hu with hu|hu
   ·exact h3 u hu
   ·exact g2 u hu
  ·by_cases gC:i<n
   ·obtain⟨ar,q1,q2,q3⟩:=h4 i gC
    exact⟨ar,q1,q2,fun j v hj=>by
     have:=q3 j v hj;rw [List.getElem?_append_left (lgeS this).1];exact this⟩
   ·obtain rfl:i=n:=by omega
    exact⟨arr,g4,g1,fun j v hj=>by
     rw [List.getElem?_append_right (by omega),h1,show i*m+j-i*m=j by omega,Array.getElem?_toList];exact hj⟩
theorem zp(T:zI prog tS tE m bytes)(hb:bytes<=1000)(hn:n<=100000){a:Addr}{cx:Nat}(P:Nat->Array Value->Prop)(H:∀i,i<n->∃arr:Array Value,arr.size=m/\(∀u∈arr.toList,u.oneCell'=true)/\Cells w (a.add (i*m)) arr/\P i arr):
 ∃A' c' w' news,(Builtin.append_ #[tS,tS] tS #[.slice none 0 0,.slice (some a) n cx]).run prog w=.ok (.slice A' n c') w'/\Row w' w.heap.size tE m A' n c' news/\Kept Nil w w'/\∀i,i<n->∃arr:Array Value,P i arr/\arr.size=m/\∀(j:Nat) v,arr[j]? =some v->news[i*m+j]? =some v:=by
 obtain⟨news,e1,e2,e3,e4⟩:=z6 (w:=w) (m:=m) P n H;obtain⟨A',c',w',hr,fO,hg,_⟩:=fY (P:=prog) (ty:=tS) T (Row.nil w w.heap.size _ _) (a:=a) (m:=n) (cx:=cx) (news:=news) e1 e2 e3 (by rw [Nat.zero_add];have:=Nat.mul_le_mul hn hb;omega) (by unfold maxLen;omega) (Nat.le_refl _);rw [Nat.zero_add]at hr fO;rw [List.nil_append]at fO;exact⟨A',c',w',news,hr,fO,Kept.dX (Kept.refl _ _) hg (fun j hj=>by cases hj),e4⟩
theorem zo(T:zI prog tS tE m bytes)(hb:bytes<=1000)(hn:n<=100000)(h:Row w B tE m A n c news)(hB:B<=w.heap.size){b:Nat}{arr:Array Value}{t:TypeId}(kh:w.heap[b]? =some (.cells arr t (0,0)))(hs:arr.size=m)(h1:∀u∈arr.toList,u.oneCell'=true):
 ∃A' c' w',(Builtin.append_ #[tS,tS] tS #[.slice A n c,.slice (some ⟨b,0,none⟩) 1 1]).run prog w=.ok (.slice A' (n+1) c') w'/\Row w' B tE m A' (n+1) c' (news++arr.toList)/\w.grownBy w' (bH A):=by
 obtain⟨A',c',w',hr,fO,hg,_⟩:=fY (P:=prog) (ty:=tS) T h (a:=⟨b,0,none⟩) (m:=1) (cx:=1) (news:=arr.toList) (by simpa using hs)
  (fun j u hj=>by rw [bD,Nat.zero_add,aE kh];simpa using hj) h1 (by have:=Nat.mul_le_mul (show n+1<=100001 by omega) hb;omega) (by unfold maxLen;omega) hB
 exact⟨A',c',w',hr,fO,hg⟩
def JO(w:World)(F:Nat->Prop)(l:List pz)(i:Nat)(arr:Array Value):Prop:=∃x A1 n1 c1 B1 m1 d1,l[i]? =some x/\arr=dp x A1 n1 c1 B1 m1 d1/\HS w A1 n1 x.merge/\Bo w B1 m1 x.gm/\(∀b,A1=some b->F b.block)/\(∀b,B1=some b->F b.block)
def Rf(w:World)(F:Nat->Prop)(l:List (List HT))(i:Nat)(arr:Array Value):Prop:=∃x A1 n1 c1,l[i]? =some x/\arr= #[.slice A1 n1 c1]/\HS w A1 n1 x/\(∀b,A1=some b->F b.block)
theorem rN.z6{l:List pz}(h:rN w F A n l):(0<n->∃a,A=some a)/\∀a,A=some a->∀i,i<n->∃arr:Array Value,arr.size=35/\(∀u∈arr.toList,u.oneCell'=true)/\Cells w (a.add (i*35)) arr/\JO w F l i arr:=by
 have hl:=h.len;refine⟨fun h0=>?_,fun a ha i hi=>?_⟩
 ·obtain⟨x,hx⟩:∃x,l[0]? =some x:=⟨_,List.getElem?_eq_getElem (by omega)⟩
  obtain⟨a,_,_,_,_,_,_,g1,_⟩:=h.at_ 0 x hx;exact⟨a,g1⟩
 ·obtain⟨x,hx⟩:∃x,l[i]? =some x:=⟨_,List.getElem?_eq_getElem (by omega)⟩
  obtain⟨a',A1,n1,c1,B1,m1,d1,g1,g2,g3,g4,g5,g6,g7,g8⟩:=h.at_ i x hx;rw [ha]at g1;cases g1;exact⟨_,bI ..,fE _ _ _ _ _ _ _,g4,x,A1,n1,c1,B1,m1,d1,hx,rfl,g5,g6,g7,g8⟩
theorem qp.z6{l:List (List HT)}(h:qp w F A n l):(0<n->∃a,A=some a)/\∀a,A=some a->∀i,i<n->∃arr:Array Value,arr.size=1/\(∀u∈arr.toList,u.oneCell'=true)/\Cells w (a.add (i*1)) arr/\Rf w F l i arr:=by
 have hl:=h.len;refine⟨fun h0=>?_,fun a ha i hi=>?_⟩
 ·obtain⟨x,hx⟩:∃x,l[0]? =some x:=⟨_,List.getElem?_eq_getElem (by omega)⟩
  obtain⟨a,_,_,_,g1,_⟩:=h.at_ 0 x hx;exact⟨a,g1⟩
 ·obtain⟨x,hx⟩:∃x,l[i]? =some x:=⟨_,List.getElem?_eq_getElem (by omega)⟩
  obtain⟨a',A1,n1,c1,g1,g2,g3,g4,g5,g6⟩:=h.at_ i x hx;rw [ha]at g1;cases g1;refine⟨#[.slice A1 n1 c1],rfl,fun u hu=>?_,fun j u hj=>?_,x,A1,n1,c1,hx,rfl,g5,g6⟩
  ·simp at hu;subst hu;rfl
  ·cases j with
   |zero=>simp at hj;subst hj;rw [add_zero];exact g4
   |succ j=>simp at hj
theorem rN.snoc{l:List pz}{x:pz}{A1 B1:Option Addr}{n1 c1 m1 d1:Nat}{w0:World}(h:Row w B bK 35 A (n+1) c (news++(dp x A1 n1 c1 B1 m1 d1).toList))(zE:news.length=n*35)(hl:l.length=n)(k0:Kept Nil w0 w)(hF:∀j,bH A=some j->F' j)(Yy:∀j,F j->F' j)
 (hc:∀i,i<n->∃arr:Array Value,JO w0 F l i arr/\arr.size=35/\∀(j:Nat) v,arr[j]? =some v->news[i*35+j]? =some v)
 (g1:HS w A1 n1 x.merge) (g2:Bo w B1 m1 x.gm) (g3:∀b,A1=some b->F' b.block) (g4:∀b,B1=some b->F' b.block):rN w F' A (n+1) (l++ [x]):=by
 refine⟨by simp [hl],fun i y hi=>?_⟩;obtain⟨b,rfl⟩:=Row.some h (by omega);obtain⟨_,cur,pY⟩:=Row.bV h (k:=b) rfl;rw [List.getElem?_append]at hi;split at hi
 ·rename_i di
  obtain⟨arr,⟨y',A2,n2,c2,B2,m2,d2,q1,rfl,q3,q4,q5,q6⟩,q7,q8⟩:=hc i (by omega);rw [hi]at q1;cases q1;exact⟨_,A2,n2,c2,B2,m2,d2,rfl,bf pY,hF b rfl,fun j v hj=>by
   rw [lY];have:=q8 j v hj;exact Row.cells h _ _ (by rw [List.getElem?_append_left (lgeS this).1];exact this),q3.same k0,q4.same k0,fun b hb=>Yy _ (q5 b hb),fun b hb=>Yy _ (q6 b hb)⟩
 ·rename_i gF
  have Gt:i=n/\y=x:=by
   cases hk:i-l.length with
   |zero=>rw [hk]at hi;exact⟨by omega,by simpa using hi.symm⟩
   |succ k=>rw [hk]at hi;simp at hi
  obtain⟨rfl,rfl⟩:=Gt;exact⟨_,A1,n1,c1,B1,m1,d1,rfl,bf pY,hF b rfl,fun j v hj=>by
   rw [lY];exact Row.cells h _ _ (by rw [List.getElem?_append_right (by omega),zE,show i*35+j-i*35=j by omega,Array.getElem?_toList];exact hj),g1,g2,g3,g4⟩
theorem qp.snoc{l:List (List HT)}{x:List HT}{A1:Option Addr}{n1 c1:Nat}{w0:World}(h:Row w B aF 1 A (n+1) c (news++(#[.slice A1 n1 c1]:Array Value).toList))(zE:news.length=n*1)(hl:l.length=n)(k0:Kept Nil w0 w)(hF:∀j,bH A=some j->F' j)(Yy:∀j,F j->F' j)
 (hc:∀i,i<n->∃arr:Array Value,Rf w0 F l i arr/\arr.size=1/\∀(j:Nat) v,arr[j]? =some v->news[i*1+j]? =some v)
 (g1:HS w A1 n1 x) (g3:∀b,A1=some b->F' b.block):qp w F' A (n+1) (l++ [x]):=by
 refine⟨by simp [hl],fun i y hi=>?_⟩;obtain⟨b,rfl⟩:=Row.some h (by omega);obtain⟨_,cur,pY⟩:=Row.bV h (k:=b) rfl;rw [List.getElem?_append]at hi;split at hi
 ·rename_i di
  obtain⟨arr,⟨y',A2,n2,c2,q1,rfl,q3,q4⟩,q7,q8⟩:=hc i (by omega);rw [hi]at q1;cases q1;have:=q8 0 _ rfl;exact⟨_,A2,n2,c2,rfl,bf pY,hF b rfl,Row.cells h _ _ (by rw [Nat.add_zero]at this;rw [List.getElem?_append_left (lgeS this).1];exact this),q3.same k0,fun b hb=>Yy _ (q4 b hb)⟩
 ·rename_i gF
  have Gt:i=n/\y=x:=by
   cases hk:i-l.length with
   |zero=>rw [hk]at hi;exact⟨by omega,by simpa using hi.symm⟩
   |succ k=>rw [hk]at hi;simp at hi
  obtain⟨rfl,rfl⟩:=Gt;exact⟨_,A1,n1,c1,rfl,bf pY,hF b rfl,Row.cells h _ _ (by rw [List.getElem?_append_right (by omega),zE,show i*1-i*1=0 by omega];rfl),g1,g3⟩
end
section
variable{w w':World}{F:Nat->Prop}{r x k:Nat}{G:GS}{K:Value->World->Prop}
theorem yK(root:HT)(k:Nat)(hK:∀v r x F,R3 v F r x k (fg root)->(∀j,F j->w.heap.size<=j)->w.heap.size<=r->w.heap.size<=x->Kept Nil w v->K (.pointer (some ⟨r,0,none⟩)) v):
 bE prog kP.id #[.int .i64 (k:Int),.agg root.1] w K:=by
 refine kP.of ?_;unfold kP.W;intro w1;have k1:Kept Nil w w1:=(Kept.refl _ _).alloc _;have Bj:w1.heap[w.heap.size]? =some (.cells root.1 al (0,0)):=aM w _;clear_value w1;refine⟨root.1,⟨root.2.1,Cells.bV Bj⟩,?_⟩;refine yM root fun w2 x FX hX hFX hx k2=>⟨_,rfl,rfl,?_⟩;have mr:=k1.tt k2;intro w3 w4 w5;have k3:Kept Nil w2 w3:=(Kept.refl _ _).alloc _;have VN:w3.heap[w2.heap.size]? =some (.cells zC bK (0,0)):=aM w2 _;have k4:Kept Nil w3 w4:=(Kept.refl _ _).alloc _;have hw4:w4.heap[w3.heap.size]? =some (.cells #[.slice none 0 0] aF (0,0)):=aM w3 _;have k5:Kept Nil w4 w5:=(Kept.refl _ _).alloc _;have ht5:w5.heap[w4.heap.size]? =some (.cells #[.int .i64 (k:Int),.pointer (some ⟨x,0,none⟩),.slice (some ⟨w2.heap.size,0,none⟩) 1 1,.slice (some ⟨w3.heap.size,0,none⟩) 1 1] iD (0,0)):=aM w4 _;clear_value w5;have hw5:=k5.heap hw4 (fun h=>h);have hc5:=k5.heap (k4.heap VN (fun h=>h)) (fun h=>h);have Ib:=(k3.tt k4).tt k5;have s02:=mr.size;have l3:=bf VN;have l4:=bf hw4;have l5:=bf ht5;have s1:=k1.size;have s2:=k2.size;have lx:=hX.lt;clear_value w4 w3;refine hK w5 w4.heap.size x (fun j=>FX j\/j=w2.heap.size\/j=w3.heap.size) ⟨⟨some ⟨w2.heap.size,0,none⟩,1,some ⟨w3.heap.size,0,none⟩,1,ht5,⟨rfl,fun i y hi=>?_⟩,⟨rfl,fun i y hi=>?_⟩⟩,(hX.same Ib).mono (fun j e=>.inl e) (fun e=>?_),fun e=>?_,by omega,mN k root,fun j e=>?_⟩ (fun j e=>?_) (by omega) (by omega) (mr.tt Ib)
 ·cases i with
  |zero=>
   have:y=⟨fG,0,[],[]⟩:=by simpa [fg]using hi.symm
   subst this;refine⟨_,none,0,0,none,0,0,rfl,by show w2.heap.size<_;omega,.inr (.inl rfl),fun j u hj=>?_,HS.nil _ _,⟨rfl,fun i b h=>by simp at h⟩,fun b hb=>(by cases hb),fun b hb=>(by cases hb)⟩;rw [Nat.zero_mul,add_zero,bD,Nat.zero_add,aE hc5];exact hj
  |succ i=>simp [fg]at hi
 ·cases i with
  |zero=>
   have:y= []:=by simpa [fg]using hi.symm
   subst this;refine⟨_,none,0,0,rfl,by show w3.heap.size<_;omega,.inr (.inr rfl),?_,HS.nil _ _,fun b hb=>(by cases hb)⟩;rw [Nat.zero_mul,add_zero,aE hw5];rfl
  |succ i=>simp [fg]at hi
 ·rcases e with e|e|e
  ·exact hX.iV e
  ·omega
  ·omega
 ·rcases e with e|e|e
  ·have:=(hFX _ e).2;omega
  ·omega
  ·omega
 ·rcases e with e|e|e
  ·have:=(hFX _ e).2;omega
  ·omega
  ·omega
 ·rcases e with e|e|e
  ·have:=(hFX _ e).1;omega
  ·omega
  ·omega
end
section
variable{w w':World}{F:Nat->Prop}{r x k:Nat}{G:GS}{K:Value->World->Prop}{A:Option Addr}{n cx:Nat}{l:List HT}
set_option maxHeartbeats 2000000 in
theorem yL(h:R3 w F r x k G)(hD:G.D.length<=300)(o5:k<=1000)(hl:HS w A n l)(hn:n<=5000)(id:HT)
 (hE:dT G.D id l≠0->∀w',Kept Nil w w'->K (.tuple #[.agg Mj,.int .i64 (dT G.D id l)]) w')
 (hO:dT G.D id l=0->∀w' A n c B e ce,R3 w' (fun j=>F j\/(w.heap.size<=j/\j<w'.heap.size)) r x k (eW k G id l)->Kept (fun j=>j=r\/j=x) w w'->HS w' A n (dr k G (bQ G l) l).merge->Bo w' B e (dr k G (bQ G l) l).gm->(∀a,A=some a\/B=some a->w.heap.size<=a.block)->K (.tuple #[.agg (dp (dr k G (bQ G l) l) A n c B e ce),.int .i64 0]) w'):
 bE prog dR.id #[.pointer (some ⟨r,0,none⟩),.agg id.1,.slice A n cx] w K:=by
 have W0:=h.iA.W;have Yd:=h.lt;have Nv:=h.lx;refine dR.of ?_;unfold dR.W;intro w1 w2;have k1:Kept Nil w w1:=(Kept.refl _ _).alloc _;have LG:w1.heap[w.heap.size]? =some (.cells id.1 al (0,0)):=aM w _;have k2:Kept Nil w1 w2:=(Kept.refl _ _).alloc _;have jX:w2.heap[w1.heap.size]? =some (.cells zC bK (0,0)):=aM w1 _;clear_value w2;have BW:=k2.heap LG (fun h=>h);have mr:=k1.tt k2;have s1:=k1.size;have l1:=bf LG;have l2:=bf jX;clear_value w1;have h2:=h.same mr;obtain⟨A0,c0,B0,e0,sl,g1,g2,g3,g4,g5⟩:=h2.X.ex;refine Is.mk rfl ⟨_,h2.c1,Is.mk rfl ⟨#[.slice A0 G.D.length c0],⟨rfl,fun j u hj=>?_⟩,?_⟩⟩
 ·cases j with
  |zero=>simp at hj;subst hj;rw [add_zero,add_zero,aE g1];rfl
  |succ j=>simp at hj
 intro w3;have k3:Kept Nil w2 w3:=(Kept.refl _ _).alloc _;have Vq:w3.heap[w2.heap.size]? =some (.cells #[.slice none 0 0] iX (0,0)):=aM w2 _;clear_value w3;obtain⟨t1,t2,t3⟩:=gu Vq (cs:= #[.slice A0 G.D.length c0]) rfl;refine⟨⟨rfl,fun u hu=>by simp at hu;subst hu;rfl,fun j hj=>t1 j hj⟩,?_⟩;intro w4
 replace t2:w4.heap[w2.heap.size]? =some (.cells #[.slice A0 G.D.length c0] iX (0,0)):=t2
 replace t3:Kept (· =w2.heap.size) w3 w4:=t3
 clear_value w4;have rQ:Kept Nil w2 w4:=k3.trans t3 (fun j hj e=>by omega);have mf:=mr.tt rQ;have s2:=mr.size;refine⟨id.1,⟨id.2.1,Cells.bV (rQ.heap BW (fun h=>h))⟩,?_⟩;have hIR:uO w4 F w2.heap.size G.D:=⟨⟨A0,c0,_,_,t2,rfl,g2.same rQ⟩,fun e=>by have:=h.lo _ e;omega⟩;refine Ec hIR W0 (by omega) (hl.same mf) (by omega) fun w5 _ k5=>⟨_,rfl,?_⟩;have Ib:Kept Nil w2 w5:=rQ.trans k5 (fun j hj e=>by omega);have nA:=mr.tt Ib;have sE:=Ib.heap jX (fun h=>h);have LF:=Ib.heap BW (fun h=>h);by_cases hc:dT G.D id l≠0
 ·obtain⟨f1,f2,f3⟩:=gu sE (cs:=zC) rfl
  refine Split.yes (by simpa using hc) ⟨⟨rfl,by show ∀u∈(Mj:Array Value).toList,_;exact fE _ _ _ _ _ _ _,fun j hj=>f1 j hj⟩,?_⟩;exact⟨_,⟨rfl,Cells.bV f2⟩,hE hc _ (nA.trans f3 (fun j hj e=>by omega))⟩
 have hc:dT G.D id l=0:=by omega
 refine Split.no (by rw [hc];rfl) ?_;obtain⟨_,fW,_,cY⟩:=lO hc;have gC:∀z∈l,z∈ids G.D:=fun z hz=>cY z (dV.2 hz);refine oY (h.same nA) (by omega) (hl.same nA) fW (by omega) gC fun w6 k6=>⟨_,rfl,?_⟩;have Ge:=Ib.tt k6;have nn:=mr.tt Ge;generalize oM:bQ G l=s;have BT:s∈l:=by rw [<-oM];exact jg fW
 intro w7;have k7:Kept Nil w6 w7:=(Kept.refl _ _).alloc _;have hb7:w7.heap[w6.heap.size]? =some (.cells fG.1 al (0,0)):=aM w6 _;clear_value w7;obtain⟨q1,q2,q3⟩:=iZ s hb7 rfl;refine⟨q1,?_⟩;intro w8
 replace q2:w8.heap[w6.heap.size]? =some (.cells s.1 al (0,0)):=q2
 replace q3:Kept (· =w6.heap.size) w7 w8:=q3
 clear_value w8;have XI:Kept Nil w6 w8:=k7.trans q3 (fun j hj e=>by omega);have Ia:=Ge.tt XI;have zz:=mr.tt Ia;have s06:=nn.size;have s08:=zz.size;have s28:=Ia.size;refine⟨s.1,⟨s.2.1,Cells.bV q2⟩,?_⟩;refine qR (h.same zz) hD o5 (gC s BT) (hl.same zz) hn gC fun w9 Am nm cm E e ce Wd nw cw rm rb rw9 k9=>⟨_,Wd,nw,cw,rfl,?_⟩;have K8:=Ia.tt k9;have BQ:=mr.tt K8;have s09:=BQ.size;have s89:=k9.size;intro w10;have rR:Kept Nil w9 w10:=(Kept.refl _ _).alloc _;have ab8:w10.heap[w9.heap.size]? =some (.cells zC bK (0,0)):=aM w9 _;clear_value w10;obtain⟨f1,f2,f3⟩:=gu ab8 (cs:=dp (dr k G s l) Am nm cm E e ce) (by rw [bI];rfl);refine⟨⟨bI ..,fE _ _ _ _ _ _ _,fun j hj=>f1 j (by rw [bI];exact hj)⟩,?_⟩;intro xG nx
 replace f2:xG.heap[w9.heap.size]? =some (.cells (dp (dr k G s l) Am nm cm E e ce) bK (0,0)):=f2
 replace f3:Kept (· =w9.heap.size) w10 xG:=f3
 have zy:Kept Nil xG nx:=(Kept.refl _ _).drew;clear_value nx;have VP:=zy.heap f2 (fun h=>h);have O7:Kept Nil w9 nx:=(rR.trans f3 (fun j hj e=>by omega)).tt zy;clear_value xG;have Pe:=K8.tt O7;have tw:=mr.tt Pe;have ag5:=tw.size;have ahw:=bf VP;have BY:=h.same tw;refine Is.mk rfl ⟨_,BY.c1,id.1,⟨id.2.1,Cells.bV (Pe.heap BW (fun h=>h))⟩,s.1,⟨s.2.1,Cells.bV ((k9.tt O7).heap q2 (fun h=>h))⟩,?_⟩;refine FJ BY.X BY.lo (by omega) (hl.same tw) (by omega) fun pC Wq CD=>⟨_,rfl,?_⟩;have eX:oy G.D id s l=(eW k G id l).D/\ox G.D G.P id s l=(eW k G id l).P:=by rw [<-oM];exact⟨JI.symm,JJ.symm⟩
 rw [eX.1,eX.2]at Wq;intro jh;have JX:Kept Nil pC jh:=(Kept.refl _ _).drew;clear_value jh;have AS:Kept (· =x) nx jh:=CD.trans JX (fun _ _ h=>h.elim);have Ev:Kept (· =x) w jh:=(tw.mono fun _ _ h=>h.elim).tt AS;have ad7:=AS.size;have xg:=mV (k:=k) (G:=G) (h:=id) (ps:=l) hc;rw [oM]at xg;obtain⟨A1,c1,B1,e1,p1,p2,p3⟩:=h.top;have OU:=Ev.heap p1 h.ne;have OT:rN jh F A1 G.D.length G.sN:=p2.aK Ev (fun j hj e=>h.X.iV (by rw [<-e];exact hj));have Zr:qp jh F B1 G.D.length G.kZ:=p3.aK Ev (fun j hj e=>h.X.iV (by rw [<-e];exact hj));have jS:=W0.pos;obtain⟨⟨a1,ha1⟩,Nf⟩:=(⟨OT.z6.1 jS,OT.z6.2⟩:(∃a,A1=some a)/\_);subst ha1;have QC:=AS.heap VP (by omega);have aaL:=AS.heap (Pe.heap jX (fun h=>h)) (by omega);have bm:∀j,bH Am=some j->w8.heap.size<=j/\j<w9.heap.size:=fun j hj=>by obtain⟨z1,cur,z2⟩:=Row.bV rm hj;exact⟨z1,bf z2⟩
 have bb:∀j,bH E=some j->w8.heap.size<=j/\j<w9.heap.size:=fun j hj=>by obtain⟨z1,cur,z2⟩:=Row.bV rb hj;exact⟨z1,bf z2⟩
 have bw:∀j,bH Wd=some j->w8.heap.size<=j/\j<w9.heap.size:=fun j hj=>by obtain⟨z1,cur,z2⟩:=Row.bV rw9 hj;exact⟨z1,bf z2⟩
 have K0:Kept (· =x) w9 jh:=(O7.mono fun _ _ h=>h.elim).tt AS;have agN:=K0.size;have SU:HS jh Am nm (dr k G s l).merge:=(cr.hs rm).aK K0 (fun a ha e=>by have:=bm a.block (by rw [ha];rfl);omega);have Xa:Bo jh E e (dr k G s l).gm:=(Row.bo rb).aK K0 (fun a ha e=>by have:=bb a.block (by rw [ha];rfl);omega);have Y6:HS jh Wd nw (iw k G s l).wd:=(cr.hs rw9).aK K0 (fun a ha e=>by have:=bw a.block (by rw [ha];rfl);omega);have bF:∀ {A:Option Addr} {b:Addr},(∀j,bH A=some j->w8.heap.size<=j/\j<w9.heap.size)->A=some b->w.heap.size<=b.block/\b.block<jh.heap.size:=fun hA hb=>by
  have:=hA _ (by rw [hb];rfl);omega
 rw [oM]at hO;have tail:∀ {u:World} {Aa:Option Addr} {ca:Nat} {news:List Value},Row u jh.heap.size bK 35 Aa (G.D.length+1) ca (news++(dp (dr k G s l) Am nm cm E e ce).toList)->news.length=G.D.length*35->(∀i,i<G.D.length->∃arr:Array Value,JO jh F G.sN i arr/\arr.size=35/\∀(j:Nat) v,arr[j]? =some v->news[i*35+j]? =some v)->Kept Nil jh u->
  Wr u ((⟨r,0,none⟩:Addr).add 2)/\let a3:=u.setCell ((⟨r,0,none⟩:Addr).add 2) (.slice Aa (G.D.length+1) ca);Is (some (⟨r,0,none⟩:Addr)) fun b3:Addr=>∃c3:Option Addr,∃d3 e3:Nat,a3.cell? (b3.add 3)=some (.slice c3 d3 e3)/\∃(f3:Option Addr) (g3 i3:Nat) (j3:World),(Builtin.append_ #[fZ,fZ] fZ #[.slice none 0 0,.slice c3 d3 e3]).run prog a3=.ok (.slice f3 g3 i3) j3/\let k3:=j3.alloc (.cells #[.slice Wd nw cw] aF);∃(m3:Option Addr) (n3 o3:Nat) (p3:World),(Builtin.append_ #[fZ,fZ] fZ #[.slice f3 g3 i3,.slice (some (aV j3.heap.size)) 1 1]).run prog k3=.ok (.slice m3 n3 o3) p3/\Is (some (⟨r,0,none⟩:Addr)) fun q3:Addr=>Wr p3 (q3.add 3)/\let r3:=p3.setCell (q3.add 3) (.slice m3 n3 o3);∃t3:Array Value,(t3.size=35/\Cells r3 (aV w9.heap.size) t3)/\(t3.size=35/\(∀u3∈t3.toList,u3.oneCell'=true)/\∀v3,v3<35->Wr r3 ((aV w1.heap.size).add v3))/\let x3:=setCells r3 (aV w1.heap.size) t3.toList 0;∃y3:Array Value,(y3.size=35/\Cells x3 (aV w1.heap.size) y3)/\K (.tuple #[.agg y3,.int .i64 0]) x3:=by
  intro u Aa ca news row zE vY ku;have pu:=ku.heap OU (fun h=>h);have su:=ku.size;refine⟨by rw [bD];exact dP pu (by simp),?_⟩;intro u1;have pu1:u1.heap[r]? =some (.cells #[.int .i64 (k:Int),.pointer (some ⟨x,0,none⟩),.slice Aa (G.D.length+1) ca,.slice B1 G.D.length e1] iD (0,0)):=by
   show(u.setCell ((⟨r,0,none⟩:Addr).add 2) (.slice Aa (G.D.length+1) ca)).heap[r]? =_;rw [bD,du pu];rfl
  have F9:Kept (· =r) u u1:=by
   show Kept (· =r) u (u.setCell ((⟨r,0,none⟩:Addr).add 2) (.slice Aa (G.D.length+1) ca))
   rw [bD];exact Kept.setCell (S:=(· =r)) (Kept.refl _ u) (p:=⟨r,0+2,none⟩) (fun _=>rfl) _
  clear_value u1;have Ik:Kept (· =r) jh u1:=(ku.mono fun _ _ h=>h.elim).tt F9;have pw1:qp u1 F B1 G.D.length G.kZ:=Zr.aK Ik (fun j hj e=>h.iV (by rw [<-e];exact hj));obtain⟨⟨b1,Bj⟩,T7⟩:=(⟨pw1.z6.1 jS,pw1.z6.2⟩:(∃a,B1=some a)/\_);subst Bj;obtain⟨Aw,c2,u2,nws,Lo,ir,G8,hcw⟩:=zp (w:=u1) Su (by omega) (by omega) (cx:=e1) (Rf u1 F G.kZ) (T7 b1 rfl);refine Is.mk rfl ⟨some b1,G.D.length,e1,by rw [bD,aE pu1];rfl,Aw,_,c2,u2,Lo,?_⟩;intro u3;have Gd:Kept Nil u2 u3:=(Kept.refl _ _).alloc _;have BS:u3.heap[u2.heap.size]? =some (.cells #[.slice Wd nw cw] aF (0,0)):=aM u2 _;clear_value u3;have su1:=F9.size;have su2:=G8.size;have Ze:=Gd.size;obtain⟨Xr,c3,u4,yg,jW,EL⟩:=zo Su (by omega) (by omega) (Row.aK ir Gd (fun _ _ h=>h)) (by omega) BS rfl (fun v hv=>by simp at hv;subst hv;rfl);have La:Kept Nil u1 u4:=Kept.dX (G8.tt Gd) EL (fun j hj=>(Row.bV ir hj).1);have pu4:=La.heap pu1 (fun h=>h);refine⟨Xr,_,c3,u4,yg,Is.mk rfl ⟨by rw [bD];exact dP pu4 (by simp),?_⟩⟩;intro u5;have pu5:u5.heap[r]? =some (.cells #[.int .i64 (k:Int),.pointer (some ⟨x,0,none⟩),.slice Aa (G.D.length+1) ca,.slice Xr (G.D.length+1) c3] iD (0,0)):=by
   show(u4.setCell ((⟨r,0,none⟩:Addr).add 3) (.slice Xr (G.D.length+1) c3)).heap[r]? =_;rw [bD,du pu4];rfl
  have F8:Kept (· =r) u4 u5:=by
   show Kept (· =r) u4 (u4.setCell ((⟨r,0,none⟩:Addr).add 3) (.slice Xr (G.D.length+1) c3))
   rw [bD];exact Kept.setCell (S:=(· =r)) (Kept.refl _ u4) (p:=⟨r,0+3,none⟩) (fun _=>rfl) _
  clear_value u5;have To:Kept (· =r) u1 u5:=(La.mono fun _ _ h=>h.elim).tt F8;have MU:Kept (· =r) jh u5:=Ik.tt To;have hc5:=MU.heap QC (by omega);have sE:=MU.heap aaL (by omega);obtain⟨z1,z2,z3⟩:=gu sE (cs:=dp (dr k G s l) Am nm cm E e ce) (by rw [bI];rfl);refine⟨_,⟨bI ..,Cells.bV hc5⟩,⟨bI ..,fE _ _ _ _ _ _ _,fun j hj=>z1 j (by rw [bI];exact hj)⟩,?_⟩;intro u6
  replace z2:u6.heap[w1.heap.size]? =some (.cells (dp (dr k G s l) Am nm cm E e ce) bK (0,0)):=z2
  replace z3:Kept (· =w1.heap.size) u5 u6:=z3
  clear_value u6;refine⟨_,⟨bI ..,Cells.bV z2⟩,?_⟩;have kwr:∀j,j=r\/j=w1.heap.size->¬jh.heap.size<=j:=fun j hj e=>by rcases hj with hj|hj<;>omega
  have XC:Kept (fun j=>j=r\/j=w1.heap.size) u u6:=((F9.mono fun _ _ h=>.inl h).trans To (fun _ _ h=>.inl h)).trans z3 (fun _ _ h=>.inr h);have Et:Kept (fun j=>j=r\/j=w1.heap.size) jh u6:=(ku.mono fun _ _ h=>h.elim).tt XC;have su6:=Et.size;have s46:u4.heap.size<=u6.heap.size:=by have:=F8.size;have:=z3.size;omega
  have s26:u.heap.size<=u6.heap.size:=XC.size;have KO:∀j,F j->j<w.heap.size:=h.lo
  let F2:Nat->Prop:=fun j=>F j\/(w8.heap.size<=j/\j<w9.heap.size)\/(jh.heap.size<=j/\j<u6.heap.size)
  have QT:∀j,F2 j->¬(j=r\/j=w1.heap.size):=fun j hj e=>by
   rcases hj with hj|hj|hj
   ·have:=KO j hj
    rcases e with e|e
    ·exact h.iV (by rw [<-e];exact hj)
    ·omega
   ·omega
   ·omega
  have WH:∀j,F2 j->F j\/(w.heap.size<=j/\j<u6.heap.size):=fun j hj=>by
   rcases hj with hj|hj|hj
   ·exact .inl hj
   ·exact .inr ⟨by omega,by omega⟩
   ·exact .inr ⟨by omega,hj.2⟩
  refine hO hc u6 Am nm cm E e ce ⟨⟨Aa,ca,Xr,c3,?_,?_,?_⟩,?_,fun hj=>?_,h.ne,h.iA.add id l,fun j hj=>?_⟩ ?_ (SU.aK Et (fun a ha e=>by have:=bm a.block (by rw [ha];rfl);rcases e with e|e<;>omega)) (Xa.aK Et (fun a ha e=>by have:=bb a.block (by rw [ha];rfl);rcases e with e|e<;>omega)) (fun a ha=>ha.elim (fun ha=>(bF bm ha).1) (fun ha=>(bF bb ha).1))
  ·rw [xg]
   simp only [List.length_append,List.length_singleton];exact z3.heap pu5 (by omega)
  ·rw [xg]
   simp only [List.length_append,List.length_singleton];refine rN.mono (F:=F2) (rN.aK (S:=fun j=>j=r\/j=w1.heap.size) (w:=u) (rN.snoc row zE p2.len ku (fun j hj=>?_) (fun j hj=>.inl hj) vY (SU.same ku) (Xa.same ku) (fun b hb=>.inr (.inl ?_)) (fun b hb=>.inr (.inl ?_))) XC QT) WH
   ·obtain⟨y1,cur,y2⟩:=Row.bV row hj
    have:=bf y2;exact .inr (.inr ⟨y1,by omega⟩)
   ·exact bm b.block (by rw [hb];rfl)
   ·exact bb b.block (by rw [hb];rfl)
  ·rw [xg]
   simp only [List.length_append,List.length_singleton];have JV:Kept (fun j=>j=r\/j=w1.heap.size) u4 u6:=(F8.mono fun _ _ h=>.inl h).trans z3 (fun _ _ h=>.inr h);refine qp.mono (F:=F2) (qp.aK (S:=fun j=>j=r\/j=w1.heap.size) (w:=u4) (qp.snoc jW (Row.len ir) p3.len La (fun j hj=>?_) (fun j hj=>.inl hj) hcw (Y6.aK (Ik.trans La (fun _ _ h=>h.elim)) (fun a ha e=>by have:=bw a.block (by rw [ha];rfl);omega)) (fun b hb=>.inr (.inl ?_))) JV QT) WH
   ·obtain⟨y1,cur,y2⟩:=Row.bV jW hj
    have:=bf y2;exact .inr (.inr ⟨by omega,by omega⟩)
   ·exact bw b.block (by rw [hb];rfl)
  ·refine((Wq.aK (JX.tt ku) (fun h=>h) (fun _ _ h=>h)).aK XC (fun e=>?_) (fun j hj e=>?_)).mono (fun j hj=>?_) (fun e=>?_)
   ·rcases e with e|e
    ·exact h.ne e.symm
    ·omega
   ·rcases hj with hj|hj
    ·have:=KO j hj
     rcases e with e|e
     ·exact h.iV (by rw [<-e];exact hj)
     ·omega
    ·omega
   ·rcases hj with hj|hj
    ·exact .inl hj
    ·have:=CD.size
     have:=JX.size;exact .inr ⟨by omega,by omega⟩
   ·rcases e with e|e
    ·exact h.X.iV e
    ·omega
  ·rcases hj with hj|hj
   ·exact h.iV hj
   ·omega
  ·rcases hj with hj|hj
   ·have:=KO j hj
    omega
   ·exact hj.2
  ·exact(Ev.mono fun _ _ h=>.inr h).trans Et (fun j hj e=>by
    rcases e with e|e
    ·exact .inl e
    ·omega)
 have Gq:(dp (dr k G s l) Am nm cm E e ce).toList++ []=(dp (dr k G s l) Am nm cm E e ce).toList:=List.append_nil _;refine Is.mk rfl ⟨some a1,G.D.length,c1,by rw [bD,aE OU];rfl,_,⟨bI ..,Cells.bV QC⟩,?_,?_⟩
 ·obtain⟨Aa,c2,u2,news,RK,ir,G8,vY⟩:=zp (w:=jh) D4 (by omega) (by omega) (cx:=c1) (JO jh F G.sN) (Nf a1 rfl)
  refine⟨Aa,_,c2,u2,RK,⟨_,rfl,bI ..,Cells.bV (G8.heap QC (fun h=>h))⟩,bI ..,?_⟩;intro u3;have Gd:Kept Nil u2 u3:=(Kept.refl _ _).alloc _;have BS:u3.heap[u2.heap.size]? =some (.cells (dp (dr k G s l) Am nm cm E e ce) bK (0,0)):=by
   have:=aM u2 (.cells (dp (dr k G s l) Am nm cm E e ce) bK);show(u2.alloc (.cells ((dp (dr k G s l) Am nm cm E e ce).toList++ []).toArray bK)).heap[u2.heap.size]? =_;rw [Gq,Array.toArray_toList];exact this
  clear_value u3;have su2:=G8.size;have Ze:=Gd.size;obtain⟨Ab,c3,u4,yg,jW,EL⟩:=zo D4 (by omega) (by omega) (Row.aK ir Gd (fun _ _ h=>h)) (by omega) BS (bI ..) (fE _ _ _ _ _ _ _);have ku:Kept Nil jh u4:=Kept.dX (G8.tt Gd) EL (fun j hj=>(Row.bV ir hj).1);refine⟨Ab,_,c3,u4,yg,Is.mk rfl ?_⟩;exact tail jW (Row.len ir) vY ku
 ·refine⟨bI ..,?_⟩
  intro u3;have Gd:Kept Nil jh u3:=(Kept.refl _ _).alloc _;have BS:u3.heap[jh.heap.size]? =some (.cells (dp (dr k G s l) Am nm cm E e ce) bK (0,0)):=by
   have:=aM jh (.cells (dp (dr k G s l) Am nm cm E e ce) bK);show(jh.alloc (.cells ((dp (dr k G s l) Am nm cm E e ce).toList++ []).toArray bK)).heap[jh.heap.size]? =_;rw [Gq,Array.toArray_toList];exact this
  clear_value u3;have Ze:=Gd.size;refine⟨by rw [bD,aE (Gd.heap OU (fun h=>h))];rfl,?_⟩;have p23:=OT.aK Gd (fun _ _ h=>h);obtain⟨Aa,c2,u2,news,RK,ir,G8,vY⟩:=zp (w:=u3) (n:=G.D.length) (a:=a1) D4 (by omega) (by omega) (cx:=c1) (JO jh F G.sN) (fun i hi=>by
   obtain⟨arr,y1,y2,y3,y4⟩:=Nf a1 rfl i hi;exact⟨arr,y1,y2,Cells.aK y3 Gd (fun h=>h),y4⟩)
  have su2:=G8.size;have Lh:=G8.heap BS (fun h=>h);obtain⟨Ab,c3,u4,yg,jW,EL⟩:=zo D4 (by omega) (by omega) (Row.base ir (B':=jh.heap.size) (fun j hj=>by have:=(Row.bV ir hj).1;omega)) (by omega) Lh (bI ..) (fE _ _ _ _ _ _ _);have ku:Kept Nil jh u4:=Kept.dX (Gd.tt G8) EL (fun j hj=>by have:=(Row.bV ir hj).1;omega);refine⟨Aa,_,c2,u2,RK,Ab,_,c3,u4,yg,Is.mk rfl ?_⟩;exact tail jW (Row.len ir) vY ku
end
end Go.Proofs.YtfleamccglihoaaGreatDoor
