import Derived.Test.YtfleamccglihoaaGreatDoorMT
import Derived.Test.YtfleamccglihoaaGreatDoorMN
open Go.IntKind (i64 u64)
set_option linter.unusedVariables false
namespace Go.Proofs.YtfleamccglihoaaGreatDoor
open Go.Proofs.Tryz
open Go Go.bT Go.RowKit
structure qL(w:World)(F:Nat->Prop)(A:Option Addr)(n:Nat)(l:List ou):Prop where
 len:l.length=n
 at_:∀(i:Nat) x,l[i]? =some x->∃a A1 n1 c1 B1 m1 d1,A=some a/\a.block<w.heap.size/\F a.block/\Cells w (a.add (i*35)) (cQ x A1 n1 c1 B1 m1 d1)/\HS w A1 n1 x.merge/\Bo w B1 m1 x.fh/\(∀b,A1=some b->F b.block)/\(∀b,B1=some b->F b.block)
structure qf(w:World)(F:Nat->Prop)(A:Option Addr)(n:Nat)(l:List (List HT)):Prop where
 len:l.length=n
 at_:∀(i:Nat) x,l[i]? =some x->∃a A1 n1 c1,A=some a/\a.block<w.heap.size/\F a.block/\w.cell? (a.add (i*1))=some (.slice A1 n1 c1)/\HS w A1 n1 x/\(∀b,A1=some b->F b.block)
section
variable{w w':World}{F F' S:Nat->Prop}{A:Option Addr}{n:Nat}
theorem qL.aF{l:List ou}(h:qL w F A n l)(hk:Kept S w w')(hn:∀j,F j->¬S j):qL w' F A n l:=⟨h.len,fun i x hi=>by
 obtain⟨a,A1,n1,c1,B1,m1,d1,g1,g2,g3,g4,g5,g6,g7,g8⟩:=h.at_ i x hi;exact⟨a,A1,n1,c1,B1,m1,d1,g1,Nat.lt_of_lt_of_le g2 hk.size,g3,Cells.aF g4 hk (by rw [eW];exact hn _ g3),g5.aF hk (fun b hb=>hn _ (g7 b hb)),g6.aF hk (fun b hb=>hn _ (g8 b hb)),g7,g8⟩⟩
theorem qL.mono{l:List ou}(h:qL w F A n l)(hf:∀j,F j->F' j):qL w F' A n l:=⟨h.len,fun i x hi=>by
 obtain⟨a,A1,n1,c1,B1,m1,d1,g1,g2,g3,g4,g5,g6,g7,g8⟩:=h.at_ i x hi;exact⟨a,A1,n1,c1,B1,m1,d1,g1,g2,hf _ g3,g4,g5,g6,fun b hb=>hf _ (g7 b hb),fun b hb=>hf _ (g8 b hb)⟩⟩
theorem qf.aF{l:List (List HT)}(h:qf w F A n l)(hk:Kept S w w')(hn:∀j,F j->¬S j):qf w' F A n l:=⟨h.len,fun i x hi=>by
 obtain⟨a,A1,n1,c1,g1,g2,g3,g4,g5,g6⟩:=h.at_ i x hi;exact⟨a,A1,n1,c1,g1,Nat.lt_of_lt_of_le g2 hk.size,g3,hk.cell g4 (by rw [eW];exact hn _ g3),g5.aF hk (fun b hb=>hn _ (g6 b hb)),g6⟩⟩
theorem qf.mono{l:List (List HT)}(h:qf w F A n l)(hf:∀j,F j->F' j):qf w F' A n l:=⟨h.len,fun i x hi=>by
 obtain⟨a,A1,n1,c1,g1,g2,g3,g4,g5,g6⟩:=h.at_ i x hi;exact⟨a,A1,n1,c1,g1,g2,hf _ g3,g4,g5,fun b hb=>hf _ (g6 b hb)⟩⟩
end
structure R3(w:World)(F:Nat->Prop)(r x k:Nat)(G:GS):Prop where
 top:∃A c B e,w.heap[r]? =some (.cells #[.int .i64 (k:Int),.pointer (some ⟨x,0,none⟩),.slice A G.D.length c,.slice B G.D.length e] gX (0,0))/\qL w F A G.D.length G.qK/\qf w F B G.D.length G.kN
 X:o8 w F x G.D G.P
 iC:¬F r
 ne:r≠x
 fg:iD k G
 lo:∀j,F j->j<w.heap.size
section
variable{w w':World}{F F' S:Nat->Prop}{r x k:Nat}{G:GS}{K:Value->World->Prop}
theorem R3.aF(h:R3 w F r x k G)(hk:Kept S w w')(hr:¬S r)(hx:¬S x)(hF:∀j,F j->¬S j):R3 w' F r x k G:=by
 obtain⟨A,c,B,e,g1,g2,g3⟩:=h.top;exact⟨⟨A,c,B,e,hk.heap g1 hr,g2.aF hk hF,g3.aF hk hF⟩,h.X.aF hk hx hF,h.iC,h.ne,h.fg,fun j e=>Nat.lt_of_lt_of_le (h.lo j e) hk.size⟩
theorem R3.same(h:R3 w F r x k G)(hk:Kept Nil w w'):R3 w' F r x k G:=h.aF hk (fun h=>h) (fun h=>h) (fun _ _ h=>h)
theorem R3.lt(h:R3 w F r x k G):r<w.heap.size:=by obtain⟨_,_,_,_,g,_⟩:=h.top;exact aQ g
theorem R3.lx(h:R3 w F r x k G):x<w.heap.size:=h.X.lt
theorem R3.c0(h:R3 w F r x k G):w.cell? ((⟨r,0,none⟩:Addr).add 0)=some (.int .i64 (k:Int)):=by obtain⟨_,_,_,_,g,_⟩:=h.top;rw [br,aD g];rfl
theorem R3.c1(h:R3 w F r x k G):w.cell? ((⟨r,0,none⟩:Addr).add 1)=some (.pointer (some ⟨x,0,none⟩)):=by obtain⟨_,_,_,_,g,_⟩:=h.top;rw [br,aD g];rfl
theorem Oe(h:iD k G){y:HT}(hy:y∈ids G.D):∃(i:Nat) (nd:DN) (c:ou) (l:List HT),G.D[i]? =some nd/\nd.id=y/\G.qK[i]? =some c/\G.kN[i]? =some l/\yn G.D y=(i:Int)/\G.gF y=c/\G.world y=l/\i<G.D.length:=by
 obtain⟨nd,gB,rfl⟩:=dp.1 hy;obtain⟨i,hi⟩:=List.mem_iff_getElem?.1 gB;have dV:=(lgeS hi).1;obtain⟨c,hc⟩:∃c,G.qK[i]? =some c:=⟨_,List.getElem?_eq_getElem (by rw [h.lc];exact dV)⟩;obtain⟨l,hl⟩:∃l,G.kN[i]? =some l:=⟨_,List.getElem?_eq_getElem (by rw [h.lw];exact dV)⟩;exact⟨i,nd,c,l,hi,rfl,hc,hl,DA h.W hi,GS.JN h.W hi hc,GS.Hs h.W hi hl,dV⟩
theorem kW(h:R3 w F r x k G)(hD:G.D.length<=5000){a:HT}(ha:a∈ids G.D)(hK:∀w',Kept Nil w w'->K (.int .u64 (G.score a:Int)) w'):
 bu prog dB.id #[.pointer (some ⟨r,0,none⟩),.agg a.1] w K:=by
 refine dB.of ?_;unfold dB.W;intro w4 w5;have k4:Kept Nil w w4:=(Kept.refl _ _).alloc _;have Bm:w4.heap[w.heap.size]? =some (.cells a.1 ah (0,0)):=aI w _;have k5:Kept Nil w4 w5:=(Kept.refl _ _).drew;clear_value w5;have L9:=k5.heap Bm (fun h=>h);have nQ:=k4.tt k5;have h5:=h.same nQ;obtain⟨A,c,B,e,g1,g2,g3⟩:=h5.top;refine Is.mk rfl ⟨A,_,c,by rw [br,aD g1];rfl,Is.mk rfl ⟨_,h5.c1,Is.mk rfl ⟨a.1,⟨a.2.1,Cells.bI L9⟩,?_⟩⟩⟩;rw [add_zero];refine mc h5.X.gr (by omega) a fun w6 k6=>⟨_,rfl,?_⟩;have g16:=k6.heap g1 (fun h=>h);obtain⟨i,nd,cl,l,q1,q2,q3,q4,q5,q6,q7,q8⟩:=Oe h.fg ha;rw [q5];obtain⟨aa,A1,n1,c1,B1,m1,d1,p1,p2,p3,p4,_⟩:=(g2.aF k6 (fun _ _ h=>h)).at_ i cl q3;subst p1;refine⟨by rw [br,aD g16];rfl,⟨by omega,by omega⟩,Is.mk rfl ⟨((G.score a:Nat):Int),?_,?_⟩⟩
 ·have:=gE cl A1 n1 c1 B1 m1 d1 #[]
  rw [Array.append_empty]at this;have Hi:=p4 32 _ this.1;rw [Int.toNat_natCast,Hi];unfold GS.score;rw [q6]
 ·exact hK w6 (nQ.tt k6)
theorem zX(h:iD k G){a:HT}(ha:a∈ids G.D):G.score a<=G.D.length:=by
 rw [(h.wd a ha).2.2];exact sS h ha
theorem qP(h:R3 w F r x k G)(hD:G.D.length<=5000){a b:HT}(ha:a∈ids G.D)(hb:b∈ids G.D)(hK:∀w',Kept Nil w w'->K (.bool (gl G a b)) w'):
 bu prog dP.id #[.pointer (some ⟨r,0,none⟩),.agg a.1,.agg b.1] w K:=by
 refine dP.of ?_;unfold dP.W;intro w4 w5 w6;have k4:Kept Nil w w4:=(Kept.refl _ _).alloc _;have Bm:w4.heap[w.heap.size]? =some (.cells a.1 ah (0,0)):=aI w _;have k5:Kept Nil w4 w5:=(Kept.refl _ _).alloc _;have oS:w5.heap[w4.heap.size]? =some (.cells b.1 ah (0,0)):=aI w4 _;have k6:Kept Nil w5 w6:=(Kept.refl _ _).drew;clear_value w6;have xi:=k6.heap (k5.heap Bm (fun h=>h)) (fun h=>h);have qJ:=k6.heap oS (fun h=>h);have qS:=(k4.tt k5).tt k6;refine⟨a.1,⟨a.2.1,Cells.bI xi⟩,b.1,⟨b.2.1,Cells.bI qJ⟩,?_⟩;refine kW (h.same qS) hD ha fun w7 k7=>⟨_,rfl,⟨_,rfl,b.2.1,Cells.bI (k7.heap qJ (fun h=>h))⟩,?_⟩;have zu:=qS.tt k7;refine kW (h.same zu) hD hb fun w8 k8=>⟨_,rfl,?_⟩;have uQ:=zu.tt k8;have XL:=k7.tt k8;by_cases he:G.score a=G.score b
 ·refine Split.no (by rw [he];simp) ⟨a.1,⟨a.2.1,Cells.bI (XL.heap xi (fun h=>h))⟩,b.1,⟨b.2.1,Cells.bI (XL.heap qJ (fun h=>h))⟩,?_⟩
  refine tU a b fun w9 k9=>⟨_,rfl,?_⟩;have e:decide (lV a b<0)=gl G a b:=by
   rw [Bool.eq_iff_iff,decide_eq_true_eq,sG];unfold gl;rw [decide_eq_false (by omega),decide_eq_true he];simp
  rw [e];exact hK w9 (uQ.tt k9)
 ·refine Split.yes (by simp only [bne_iff_ne,ne_eq];omega) ?_
  have e:decide ((G.score a:Int)<(G.score b:Int))=gl G a b:=by
   unfold gl;rw [decide_eq_false he];simp
  rw [e];exact hK w8 uQ
theorem rX(h:R3 w F r x k G)(hD:G.D.length<=5000){A:Option Addr}{n cx:Nat}{l:List HT}(hl:HS w A n l)(hn:n<=400000)(hK:∀w',Kept Nil w w'->K (.int .i64 (kZ G.D l)) w'):
 bu prog bt.id #[.pointer (some ⟨r,0,none⟩),.slice A n cx] w K:=by
 have hlen:=hl.len;refine bt.of ?_;unfold bt.W;by_cases h0:n=0
 ·subst h0
  have e:l= []:=List.eq_nil_of_length_eq_zero hlen;refine Split.yes rfl ?_;have:=hK w (Kept.refl _ _);unfold kZ at this;rw [if_pos e]at this;exact this
 have fL:l≠ []:=fun e=>by subst e;exact h0 hlen.symm
 refine Split.no (by simpa using (by omega:¬(n:Int)=0)) ?_;refine bt.cy (I:=fun s v=>∃i:Nat,s=(0,(i:Int))/\i<=n/\(∀p∈l.take i,p∈ids G.D)/\Kept Nil w v) (μ:=fun s _=>((n:Int)-s.2).toNat) (s:=(0,0)) ⟨0,rfl,Nat.zero_le _,by simp,Kept.refl _ _⟩ ?_;rintro s v ⟨i,rfl,hi,di,kv⟩;unfold bt.B1;refine Split.dec (fun cU=>?_) (fun gH=>?_)
 ·simp only at cU
  have dV:i<n:=by omega
  obtain⟨y,hy⟩:∃y,l[i]? =some y:=⟨_,List.getElem?_eq_getElem (by omega)⟩;intro w3;have k3:Kept Nil v w3:=(Kept.refl _ _).drew;clear_value w3;have sn:=kv.tt k3;have h3:=h.same sn;refine Is.mk rfl ⟨_,h3.c1,Is.mk rfl ((hl.same sn).load (i:=(i:Int)) (by omega) hy ?_)⟩;rw [add_zero];refine mc h3.X.gr (by omega) y fun w4 k4=>⟨_,rfl,?_⟩;have nE:=sn.tt k4;refine Split.dec (fun yV=>?_) (fun jK=>?_)
  ·rw [iT]
   have:=hK w4 nE;unfold kZ at this;rw [if_neg fL,if_pos ⟨y,List.mem_of_getElem? hy,qz.1 yV⟩]at this;exact this
  ·simp only
   rw [dW (n:=(i:Int)) (by omega) (by omega)];refine⟨(0,(i:Int)+1),rfl,⟨i+1,rfl,dV,fun p hp=>?_,nE⟩,by simp only;omega⟩;rcases(bO hy).1 hp with hp|rfl
   ·exact di p hp
   ·exact Classical.byContradiction fun e=>jK (qz.2 e)
 ·simp only at gH
  rw [aR,bt.df];rw [List.take_of_length_le (by omega)]at di;have:=hK v kv;unfold kZ at this;rw [if_neg fL,if_neg (fun⟨p,hp,hn⟩=>hn (di p hp))]at this;exact this
theorem uw(h:R3 w F r x k G)(hD:G.D.length<=5000){A:Option Addr}{n cx:Nat}{l:List HT}(hl:HS w A n l)(h0:l≠ [])(hn:n<=400000)(fJ:∀y∈l,y∈ids G.D)(hK:∀w',Kept Nil w w'->K (.agg (cC G l).1) w'):
 bu prog aX.id #[.pointer (some ⟨r,0,none⟩),.slice A n cx] w K:=by
 have hlen:=hl.len;obtain⟨x0,t,rfl⟩:∃x0 t,l=x0::t:=by cases l with|nil=>exact absurd rfl h0|cons a b=>exact⟨a,b,rfl⟩
 refine aX.of ?_;unfold aX.W;intro w1;have k1:Kept Nil w w1:=(Kept.refl _ _).alloc _;have mU:w1.heap[w.heap.size]? =some (.cells dX.1 ah (0,0)):=aI w _;clear_value w1;simp only [List.length_cons]at hlen;refine(hl.same k1).load (i:=0) (by omega) rfl ?_;intro w2;have k2:Kept Nil w1 w2:=(Kept.refl _ _).alloc _;have lT:w2.heap[w1.heap.size]? =some (.cells dX.1 ah (0,0)):=aI w1 _;clear_value w2;have jF:=k2.heap mU (fun h=>h);have l1:=aQ mU;have l2:=aQ lT;obtain⟨t1,t2,t3⟩:=jU x0 lT rfl;refine⟨t1,?_⟩;intro w3
 replace t2:w3.heap[w1.heap.size]? =some (.cells x0.1 ah (0,0)):=t2
 replace t3:Kept (· =w1.heap.size) w2 w3:=t3
 clear_value w3;have s1:=k1.size;have jY:Kept Nil w w3:=(k1.tt k2).trans t3 (fun j hj e=>by omega);have ry:=t3.heap jF (by omega);refine aX.cy (I:=fun s v=>∃(i:Nat) (b:HT),s=(i:Int)/\1<=i/\i<=n/\b∈ids G.D/\((x0::t).drop i).foldl (fun b y=>if gl G b y then y else b) b=cC G (x0::t)/\v.heap[w1.heap.size]? =some (.cells b.1 ah (0,0))/\v.heap[w.heap.size]? =some (.cells dX.1 ah (0,0))/\Kept Nil w v) (μ:=fun s _=>((n:Int)-s).toNat) (s:=1) ⟨1,x0,rfl,Nat.le_refl _,by omega,fJ _ List.mem_cons_self,rfl,t2,ry,jY⟩ ?_;rintro s v ⟨i,b,rfl,LS,xf,hb,he,EI,Uh,kv⟩;unfold aX.B1;refine Split.dec (fun cU=>?_) (fun gH=>?_)
 ·have dV:i<n:=by omega
  obtain⟨y,hy⟩:∃y,(x0::t)[i]? =some y:=⟨_,List.getElem?_eq_getElem (by simp;omega)⟩;have M4:y∈ids G.D:=fJ _ (List.mem_of_getElem? hy);have hd:(x0::t).drop i=y::(x0::t).drop (i+1):=by
   obtain⟨q1,q2⟩:=lgeS hy;rw [List.drop_eq_getElem_cons q1,q2]
  rw [hd,List.foldl_cons]at he;intro w4;have k4:Kept Nil v w4:=(Kept.refl _ _).drew;clear_value w4;have nE:=kv.tt k4;have PI:(x0::t)[((i:Nat):Int).toNat]? =some y:=by rw [Int.toNat_natCast];exact hy
  refine⟨b.1,⟨b.2.1,Cells.bI (k4.heap EI (fun h=>h))⟩,(hl.same nE).load (i:=(i:Int)) (by omega) PI ?_⟩;refine qP (h.same nE) hD hb M4 fun w5 k5=>⟨_,rfl,?_⟩;have yK:=nE.tt k5;have oS:=k5.heap (k4.heap EI (fun h=>h)) (fun h=>h);have sA:=k5.heap (k4.heap Uh (fun h=>h)) (fun h=>h);rw [dW (n:=(i:Int)) (by omega) (by omega)];refine Split.mk (fun xZ=>?_) (fun hle=>?_)
  ·rw [if_pos xZ]at he
   refine(hl.same yK).load (i:=(i:Int)) (by omega) PI ?_;obtain⟨f1,f2,f3⟩:=jU y oS b.2.1;refine⟨f1,?_⟩;exact⟨(i:Int)+1,rfl,⟨i+1,y,rfl,by omega,by omega,M4,he,f2,f3.heap sA (by omega),yK.trans f3 (fun j hj e=>by omega)⟩,by simp only;omega⟩
  ·rw [if_neg (by rw [hle];decide)]at he
   exact⟨(i:Int)+1,rfl,⟨i+1,b,rfl,by omega,by omega,hb,he,oS,sA,yK⟩,by simp only;omega⟩
 ·rw [aR,aX.df]
  rw [List.drop_eq_nil_of_le (by simp;omega)]at he
  replace he:b=cC G (x0::t):=he
  subst he;refine⟨_,⟨tA _,Cells.bI EI⟩,?_⟩;obtain⟨f1,f2,f3⟩:=jU (cC G (x0::t)) Uh rfl;exact⟨f1,_,⟨tA _,Cells.bI f2⟩,hK _ (kv.trans f3 (fun j hj e=>by omega))⟩
theorem pE(h:R3 w F r x k G)(hD:G.D.length<=5000){A:Option Addr}{n cx:Nat}{l:List HT}(hl:HS w A n l)(hn:n<=100000)(y:HT)(hK:∀A' c' w',bK w' w.heap.size A' (bV G.D l y).length c' (bV G.D l y)->Kept Nil w w'->K (.slice A' (bV G.D l y).length c') w'):
 bu prog a7.id #[.pointer (some ⟨r,0,none⟩),.slice A n cx,.agg y.1] w K:=by
 have hlen:=hl.len;refine a7.of ?_;unfold a7.W;intro w1;have k1:Kept Nil w w1:=(Kept.refl _ _).alloc _;have PH:w1.heap[w.heap.size]? =some (.cells y.1 ah (0,0)):=aI w _;clear_value w1;refine a7.cy (I:=fun s v=>∃(i:Nat) (B:Option Addr) (c:Nat),s=(B,(bV G.D (l.take i) y).length,c,(i:Int))/\i<=n/\bK v w1.heap.size B (bV G.D (l.take i) y).length c (bV G.D (l.take i) y)/\Kept Nil w1 v) (μ:=fun s _=>((n:Int)-s.2.2.2).toNat) (s:=(none,0,0,0)) ⟨0,none,0,rfl,Nat.zero_le _,bK.nil _ _,Kept.refl _ _⟩ ?_;rintro s v ⟨i,B,c,rfl,hi,row,kv⟩;unfold a7.B1;have AY:=k1.tt kv;refine Split.dec (fun cU=>?_) (fun gH=>?_)
 ·simp only at cU
  have dV:i<n:=by omega
  obtain⟨z,hz⟩:∃z,l[i]? =some z:=⟨_,List.getElem?_eq_getElem (by omega)⟩;have rL:(bV G.D (l.take i) y).length<=100000:=by
   have:=List.length_filter_le (fun b=>decide (oo G.D b y)) (l.take i);have h2:=List.length_take_le i l;unfold bV;omega
  intro w3;have k3:Kept Nil v w3:=(Kept.refl _ _).drew;clear_value w3;have sn:=kv.tt k3;have jY:=k1.tt sn;have h3:=h.same jY;have zv:l[((i:Nat):Int).toNat]? =some z:=by rw [Int.toNat_natCast];exact hz
  refine Is.mk rfl ⟨_,h3.c1,Is.mk rfl ((hl.same jY).load (i:=(i:Int)) (by omega) zv ⟨y.1,⟨y.2.1,Cells.bI (sn.heap PH (fun h=>h))⟩,?_⟩)⟩;rw [add_zero];refine FF h3.X.gr h.fg.W (by omega) z y fun w4 b hb k4=>⟨b,rfl,?_⟩
  replace hb:b=true↔oo G.D z y:=hb
  have nE:=sn.tt k4;have mW:=k1.tt nE;have iG:=Row.aF row (k3.tt k4) (fun _ _ h=>h);have GB:bV G.D (l.take (i+1)) y=bV G.D (l.take i) y++if oo G.D z y then [z]else []:=by
   rw [List.take_add_one,hz,fV]
   congr 1
   unfold bV;by_cases hp:oo G.D z y
   ·rw [if_pos hp];simp [hp]
   ·rw [if_neg hp];simp [hp]
  cases b with
  |true=>
   rw [if_pos (hb.1 rfl)]at GB;refine Split.yes rfl ((hl.same mW).load (i:=(i:Int)) (by omega) zv ⟨z.2.1,?_⟩);intro w5;have k5:Kept Nil w4 w5:=(Kept.refl _ _).alloc _;have M7:=iL w4 z;have s5:=(nE.tt k5).size;obtain⟨A',c',w6,hr,Cv,hg,_⟩:=ct (cx:=1) ay (Row.aF iG k5 (fun _ _ h=>h)) M7 (by omega) s5;refine⟨A',_,c',w6,hr,?_⟩;rw [dW (n:=(i:Int)) (by omega) (by omega)];have e:(bV G.D (l.take (i+1)) y).length=(bV G.D (l.take i) y).length+1:=by rw [GB];simp
   refine⟨(A',(bV G.D (l.take i) y).length+1,c',(i:Int)+1),rfl,⟨i+1,A',c',by rw [e];rfl,dV,by rw [e,GB];exact Cv,?_⟩,by simp only;omega⟩;exact Kept.dA (nE.tt k5) hg (fun j hj=>(Row.bI row hj).1)
  |false=>
   rw [if_neg (fun e=>by have:=hb.2 e;cases this),List.append_nil]at GB;refine Split.no rfl ?_;simp only;rw [dW (n:=(i:Int)) (by omega) (by omega)];exact⟨(B,(bV G.D (l.take i) y).length,c,(i:Int)+1),rfl,⟨i+1,B,c,by rw [GB];rfl,dV,by rw [GB];exact iG,nE⟩,by simp only;omega⟩
 ·simp only at gH
  rw [aR,a7.df];rw [List.take_of_length_le (by omega)]at row;have e:i=n:=by omega
  subst e;rw [List.take_of_length_le (by omega)];exact hK B c v (Row.base row (fun j hj=>by have:=(Row.bI row hj).1;have:=k1.size;omega)) AY
end
structure VJ(v:World)(B0 xb rb:Nat)(x:ou)(A:Option Addr)(n cp:Nat)(E:Option Addr)(e ce:Nat)(W:Option Addr)(nw cw:Nat)(wd:List HT):Prop where
 top:v.heap[xb]? =some (.cells (cQ x A n cp E e ce) bn (0,0))
 mg:bK v B0 A n cp x.merge
 bl:Row v B0 iK 1 E e ce (sQ x.fh)
 wr:bK v B0 W nw cw wd
 box:v.heap[rb]? =some (.cells zC bn (0,0))
 AE:∀j,a8 A=some j->a8 E≠some j
 AW:∀j,a8 A=some j->a8 W≠some j
 EW:∀j,a8 E=some j->a8 W≠some j
 xB:xb<B0
 rB:rb<B0
 xr:xb≠rb
section
variable{v v' u:World}{B0 xb rb n cp e ce nw cw:Nat}{x:ou}{A E W:Option Addr}{wd:List HT}{K:Value->World->Prop}
theorem VJ.same(h:VJ v B0 xb rb x A n cp E e ce W nw cw wd)(k:Kept Nil v v'):VJ v' B0 xb rb x A n cp E e ce W nw cw wd:=
 ⟨k.heap h.top (fun h=>h),Row.aF h.mg k (fun _ _ h=>h),Row.aF h.bl k (fun _ _ h=>h),Row.aF h.wr k (fun _ _ h=>h),k.heap h.box (fun h=>h),h.AE,h.AW,h.EW,h.xB,h.rB,h.xr⟩
theorem VJ.f32(h:VJ v B0 xb rb x A n cp E e ce W nw cw wd):v.cell? ((⟨xb,0,none⟩:Addr).add 32)=some (.int .u64 (x.score:Int)):=by
 have:=(gE x A n cp E e ce #[]).1;rw [Array.append_empty]at this;rw [br,aD h.top];exact this
theorem VJ.f33(h:VJ v B0 xb rb x A n cp E e ce W nw cw wd):v.cell? ((⟨xb,0,none⟩:Addr).add 33)=some (.slice A n cp):=by
 have:=(gE x A n cp E e ce #[]).2.1;rw [Array.append_empty]at this;rw [br,aD h.top];exact this
theorem VJ.f34(h:VJ v B0 xb rb x A n cp E e ce W nw cw wd):v.cell? ((⟨xb,0,none⟩:Addr).add 34)=some (.slice E e ce):=by
 have:=(gE x A n cp E e ce #[]).2.2.1;rw [Array.append_empty]at this;rw [br,aD h.top];exact this
theorem VJ.wrx(h:VJ v B0 xb rb x A n cp E e ce W nw cw wd){j:Nat}(hj:j<35):Wr v ((⟨xb,0,none⟩:Addr).add j):=by
 rw [br];exact dY h.top (by rw [aZ];omega)
theorem VJ.OK(h:VJ v B0 xb rb x A n cp E e ce W nw cw wd)(j:Nat)(z:Value):Kept (· =xb) v (v.setCell ((⟨xb,0,none⟩:Addr).add j) z):=by
 rw [br];exact Kept.setCell (S:=(· =xb)) (Kept.refl _ v) (p:=⟨xb,0+j,none⟩) (fun _=>rfl) _
theorem VJ.OM(h:VJ v B0 xb rb x A n cp E e ce W nw cw wd)(s:Nat):VJ (v.setCell ((⟨xb,0,none⟩:Addr).add 32) (.int .u64 (s:Int))) B0 xb rb {x with score:=s} A n cp E e ce W nw cw wd:=by
 have k:=h.OK 32 (.int .u64 (s:Int));have xB:=h.xB;refine⟨?_,Row.aF h.mg k (fun j hj e=>by have:=(Row.bI h.mg hj).1;omega),Row.aF h.bl k (fun j hj e=>by have:=(Row.bI h.bl hj).1;omega),Row.aF h.wr k (fun j hj e=>by have:=(Row.bI h.wr hj).1;omega),k.heap h.box h.xr.symm,h.AE,h.AW,h.EW,h.xB,h.rB,h.xr⟩;rw [br,dh h.top];have:=wz x A n cp E e ce #[] s;rw [Array.append_empty,Array.append_empty]at this;rw [this]
theorem VJ.SL(h:VJ v B0 xb rb x A n cp E e ce W nw cw wd)(hB:B0<=v.heap.size)(hn:nw<=100000){z:HT}(ns:Kept Nil v v'){bx:Nat}(hx:HS v' (some ⟨bx,0,none⟩) 1 [z]):
 ∃W' R1 u,(Builtin.append_ #[ay,ay] ay #[.slice W nw cw,.slice (some ⟨bx,0,none⟩) 1 1]).run prog v'=.ok (.slice W' (nw+1) R1) u/\VJ u B0 xb rb x A n cp E e ce W' (nw+1) R1 (wd++ [z])/\Kept (fun j=>j=xb\/B0<=j) v u:=by
 have h':=h.same ns;have Sx:=ns.size;obtain⟨W',c',u,hr,row,hg,hb⟩:=ct (cx:=1) ay h'.wr hx (by omega) (by omega);have kg:Kept (fun j=>a8 W=some j) v' u:=Kept.grown (Kept.refl _ _) hg (fun j hj _=>hj);have nB:∀j,j<B0->a8 W≠some j:=fun j hj e=>by have:=(Row.bI h.wr e).1;omega
 refine⟨W',c',u,hr,⟨kg.heap h'.top (nB _ h.xB),Row.aF h'.mg kg (fun j hj=>h.AW j hj),Row.aF h'.bl kg (fun j hj=>h.EW j hj),row,kg.heap h'.box (nB _ h.rB),h.AE,fun j hj e=>?_,fun j hj e=>?_,h.xB,h.rB,h.xr⟩,(ns.mono fun _ _ h=>h.elim).trans kg (fun j hj e=>.inr (Row.bI h.wr e).1)⟩
 ·rcases hb j e with e'|e'
  ·exact h.AW j hj e'
  ·obtain⟨_,cur,hc⟩:=Row.bI h'.mg hj
   have:=aQ hc;omega
 ·rcases hb j e with e'|e'
  ·exact h.EW j hj e'
  ·obtain⟨_,cur,hc⟩:=Row.bI h'.bl hj
   have:=aQ hc;omega
theorem VJ.HZ(h:VJ v B0 xb rb x A n cp E e ce W nw cw wd)(hB:B0<=v.heap.size)(hn:e<=100000){b:Bool}(ns:Kept Nil v v'){bx:Nat}(hx:v'.cell? ⟨bx,0,none⟩=some (.bool b)):
 ∃E' sP u,(Builtin.append_ #[gP,gP] gP #[.slice E e ce,.slice (some ⟨bx,0,none⟩) 1 1]).run prog v'=.ok (.slice E' (e+1) sP) u/\Wr u ((⟨xb,0,none⟩:Addr).add 34)/\
  VJ (u.setCell ((⟨xb,0,none⟩:Addr).add 34) (.slice E' (e+1) sP)) B0 xb rb {x with fh:=x.fh++ [b]} A n cp E' (e+1) sP W nw cw wd/\Kept (fun j=>j=xb\/B0<=j) v (u.setCell ((⟨xb,0,none⟩:Addr).add 34) (.slice E' (e+1) sP)):=by
 have h':=h.same ns;have Sx:=ns.size;have xB:=h.xB;obtain⟨E',c',u,hr,row,hg,hb⟩:=fP (P:=prog) (t:=gP) (bytes:=1) (ty:=gP) Cs h'.bl (a:=⟨bx,0,none⟩) (m:=1) (cx:=1) (news:= [.bool b]) rfl (fun j z hj=>by
  cases j with
  |zero=>simp only [List.getElem?_cons_zero,Option.some.injEq]at hj;subst hj;rw [add_zero];exact hx
  |succ j=>simp at hj) (fun z hz=>by
  have:z=.bool b:=by simpa using hz
  subst this;rfl) (by omega) (by unfold maxLen;omega) (by omega)
 have kg:Kept (fun j=>a8 E=some j) v' u:=Kept.grown (Kept.refl _ _) hg (fun j hj _=>hj);have nB:∀j,j<B0->a8 E≠some j:=fun j hj e=>by have:=(Row.bI h.bl e).1;omega
 have top:=kg.heap h'.top (nB _ h.xB);have ks:Kept (· =xb) u (u.setCell ((⟨xb,0,none⟩:Addr).add 34) (.slice E' (e+1) c')):=by
  rw [br];exact Kept.setCell (S:=(· =xb)) (Kept.refl _ u) (p:=⟨xb,0+34,none⟩) (fun _=>rfl) _
 have lQ:Kept (fun j=>j=xb\/a8 E=some j) v' (u.setCell ((⟨xb,0,none⟩:Addr).add 34) (.slice E' (e+1) c')):=(kg.mono fun _ _ h=>.inr h).trans ks (fun _ _ h=>.inl h);refine⟨E',c',u,hr,by rw [br];exact dY top (by rw [aZ];omega),⟨?_,?_,?_,?_,?_,fun j hj e=>?_,h.AW,fun j hj e=>?_,h.xB,h.rB,h.xr⟩,(ns.mono fun _ _ h=>h.elim).trans lQ (fun j hj e=>e.imp (fun h=>h) (fun e=>(Row.bI h.bl e).1))⟩
 ·rw [br,dh top]
  have:=rG x A n cp E e ce #[] E' (e+1) c';rw [Array.append_empty,Array.append_empty]at this;rw [this];rfl
 ·exact Row.aF h'.mg lQ (fun j hj e=>e.elim (fun e=>by have:=(Row.bI h.mg hj).1;omega) (h.AE j hj))
 ·have e1:sQ (x.fh++ [b])=sQ x.fh++ [.bool b]:=by simp [sQ]
  show Row _ B0 iK 1 E' (e+1) c' (sQ (x.fh++ [b]))
  rw [e1];exact Row.aF row ks (fun j hj e=>by have:=(Row.bI row hj).1;omega)
 ·exact Row.aF h'.wr lQ (fun j hj e=>e.elim (fun e=>by have:=(Row.bI h.wr hj).1;omega) (fun e=>h.EW j e hj))
 ·exact lQ.heap h'.box (fun e=>e.elim (fun e=>h.xr e.symm) (nB _ h.rB))
 ·rcases hb j e with e'|e'
  ·exact h.AE j hj e'
  ·obtain⟨_,cur,hc⟩:=Row.bI h'.mg hj
   have:=aQ hc;omega
 ·rcases hb j hj with e'|e'
  ·exact h.EW j e' e
  ·obtain⟨_,cur,hc⟩:=Row.bI h'.wr e
   have:=aQ hc;omega
end
section
variable{y w w':World}{F F' S:Nat->Prop}{r x k:Nat}{G:GS}{K:Value->World->Prop}{B0 xb rb n cp e ce nw cw:Nat}{A E W:Option Addr}{s:HT}{l:List HT}
set_option maxHeartbeats 2000000 in
theorem Fe(h:R3 y F r x k G)(hD:G.D.length<=300)(qw:k<=1000)(hB:B0<=y.heap.size)(iC:∀j,(j=r\/j=x\/F j)->j<B0/\j≠xb/\j≠rb)(hM:∀z∈cP G s l,z∈ids G.D)(hs:s∈ids G.D)
 (V:VJ y B0 xb rb ⟨s,G.score s+1,cP G s l,[]⟩ A n cp none 0 0 W nw cw (G.world s++ [s]))
 (hK:∀v E e ce W nw cw,VJ v B0 xb rb (cR k G s l) A n cp E e ce W nw cw (fK k G s l).wd->Kept (fun j=>j=xb\/j=rb\/B0<=j) y (setCells v ⟨rb,0,none⟩ (cQ (cR k G s l) A n cp E e ce).toList 0)->K (.tuple #[.agg (cQ (cR k G s l) A n cp E e ce),.slice W nw cw]) (setCells v ⟨rb,0,none⟩ (cQ (cR k G s l) A n cp E e ce).toList 0)):
 af.cV (some ⟨r,0,none⟩) ⟨B0,0,none⟩ ⟨rb,0,none⟩ none 0 0 ⟨xb,0,none⟩ W nw cw none 0 0 0 K y:=by
 unfold af.cV;have He:(cP G s l).length<=300:=by
  have:=dc (m:=ids G.D) (lG G s l).nodup hM;rw [gq]at this;omega
 have hn:(cP G s l).length=n:=bK.len V.mg;have hwl:=sS h.fg hs;have Ew:=zX h.fg hs;have hR:∀ {v:World},Kept (fun j=>j=xb\/B0<=j) y v->R3 v F r x k G:=fun kv=>h.aF kv (fun e=>by have:=iC r (.inl rfl);omega) (fun e=>by have:=iC x (.inr (.inl rfl));omega) (fun j hj e=>by have:=iC j (.inr (.inr hj));omega);have vl:∀i,i<=n->(kO k G s l i).wd.length<=700:=fun i hi=>by
  obtain⟨b,h1,h2⟩:=Hy k G.D (G.world s++ [s]) ((cP G s l).take i);have h3:=ym ((cP G s l).take i) b;rw [List.length_take]at h3;show(((cP G s l).take i).foldl (oL k G.D) ⟨G.world s++ [s],[]⟩).wd.length<=700;rw [h2];simp only [List.length_append,List.length_singleton];omega
 refine af.vM (I:=fun st v=>∃(i:Nat) (E:Option Addr) (e ce:Nat) (W:Option Addr) (nw cw:Nat),st=(W,nw,cw,(i:Int))/\i<=n/\VJ v B0 xb rb ⟨s,G.score s+1+(kO k G s l i).bl.count true,cP G s l,(kO k G s l i).bl⟩ A n cp E e ce W nw cw (kO k G s l i).wd/\Kept (fun j=>j=xb\/B0<=j) y v) (μ:=fun st _=>((n:Int)-st.2.2.2).toNat) (s:=(W,nw,cw,0)) ⟨0,none,0,0,W,nw,cw,rfl,Nat.zero_le _,V,Kept.refl _ _⟩ ?_;rintro st v ⟨i,E,e,ce,W,nw,cw,rfl,hi,Vv,kv⟩;unfold af.B3;refine⟨A,n,cp,Vv.f33,Split.dec (fun cU=>?_) (fun gH=>?_)⟩
 ·simp only at cU
  have dV:i<n:=by omega
  obtain⟨z,hz⟩:∃z,(cP G s l)[i]? =some z:=⟨_,List.getElem?_eq_getElem (by omega)⟩;have qG:=zL (k:=k) hz;have zv:(cP G s l)[((i:Nat):Int).toNat]? =some z:=by rw [Int.toNat_natCast];exact hz
  have hnw:(kO k G s l i).wd.length=nw:=bK.len Vv.wr;have XY:=vl i hi;have sv:=kv.size;refine⟨A,n,cp,Vv.f33,(bK.hs Vv.mg).load (i:=(i:Int)) (by omega) zv ?_⟩;refine pE (hR kv) (by omega) (bK.hs Vv.wr) (by omega) z fun N cN w4 Sy k4=>⟨N,_,cN,rfl,?_⟩;have nE:=kv.trans k4 (fun _ _ h=>h.elim);have Yu:=hR nE;refine Is.mk rfl ⟨_,Yu.c0,?_⟩;have zx:(bV G.D (kO k G s l i).wd z).length<=700:=by
   have:=List.length_filter_le (fun b=>decide (oo G.D b z)) (kO k G s l i).wd;unfold bV;omega
  generalize Nt:bV G.D (kO k G s l i).wd z=Av at Sy zx;have V4:=Vv.same k4;refine af.Ii (I:=fun st u=>∃(b:Bool) (q:Nat),st=(b,(q:Int))/\q<=Av.length/\b=(decide (Av.length<=k)&&(Av.take q).all fun z=>decide ((bV G.D (kO k G s l i).wd z).length+1<=k))/\Kept Nil w4 u) (μ:=fun st _=>((Av.length:Int)-st.2).toNat) (s:=(decide ((Av.length:Int)<=(k:Int)),0)) ⟨_,0,rfl,Nat.zero_le _,by simp,Kept.refl _ _⟩ ?_;rintro st u ⟨b,q,rfl,hq,hb,ku⟩;have O3:=nE.trans ku (fun _ _ h=>h.elim);have Vu:=V4.same ku;have fin:∀ {t:World},Kept Nil w4 t->b=oV k G.D (kO k G s l i).wd z->af.DI (some ⟨r,0,none⟩) ⟨rb,0,none⟩ none 0 0 ⟨xb,0,none⟩ W nw cw (i:Int) N Av.length cN b (q:Int) (bQ (af.e3 (some ⟨r,0,none⟩) ⟨rb,0,none⟩ none 0 0 ⟨xb,0,none⟩) (fun st v=>∃(i:Nat) (E:Option Addr) (e ce:Nat) (W:Option Addr) (nw cw:Nat),st=(W,nw,cw,(i:Int))/\i<=n/\VJ v B0 xb rb ⟨s,G.score s+1+(kO k G s l i).bl.count true,cP G s l,(kO k G s l i).bl⟩ A n cp E e ce W nw cw (kO k G s l i).wd/\Kept (fun j=>j=xb\/B0<=j) y v) (fun st _=>((n:Int)-st.2.2.2).toNat) (W,nw,cw,(i:Int)) v (af.q3 K)) t:=fun {t} kt Db=>by
   have Vt:=V4.same kt;have To:=nE.trans kt (fun _ _ h=>h.elim);have st:=To.size;have Yq:(kO k G s l i).bl.length=e:=by have:=(Row.bo Vt.bl).len;simpa using this
   have hbi:=DS k G s l i (by omega);unfold af.DI;refine⟨E,e,ce,Vt.f34,?_⟩;intro w5;have k5:Kept Nil t w5:=(Kept.refl _ _).alloc _;have oS:w5.cell? ⟨t.heap.size,0,none⟩=some (.bool b):=by rw [aD (aI t _)];rfl
   clear_value w5;obtain⟨E',sP,u6,q1,q2,q3,q4⟩:=Vt.HZ (by omega) (by omega) k5 oS;refine⟨E',e+1,sP,u6,q1,q2,?_⟩;have Rx:=To.tt q4;rw [dW (n:=(i:Int)) (by omega) (by omega)];rw [oL,<-Db]at qG;generalize u6.setCell ((⟨xb,0,none⟩:Addr).add 34) (.slice E' (e+1) sP)=w6 at q3 q4 Rx⊢;have s6:=Rx.size;cases b with
   |false=>
    refine Split.no rfl ⟨(W,nw,cw,(i:Int)+1),rfl,⟨i+1,E',e+1,sP,W,nw,cw,rfl,dV,?_,Rx⟩,by simp only;omega⟩;rw [qG];simpa [List.count_append]using q3
   |true=>
    refine Split.yes rfl ⟨A,n,cp,q3.f33,(bK.hs q3.mg).load (i:=(i:Int)) (by omega) zv ⟨z.2.1,?_⟩⟩;intro w7;have k7:Kept Nil w6 w7:=(Kept.refl _ _).alloc _;have hx7:=iL w6 z;obtain⟨W',R1,w8,r1,r2,r3⟩:=q3.SL (by omega) (by omega) k7 hx7;refine⟨W',nw+1,R1,w8,r1,_,r2.f32,r2.wrx (by omega),?_⟩;have ajX:(kO k G s l i).bl.count true<=300:=by have:=List.count_le_length (a:=true) (l:=(kO k G s l i).bl);omega
    have ew:u64.wrap (((G.score s+1+(kO k G s l i).bl.count true:Nat):Int)+1)=((G.score s+1+(kO k G s l i).bl.count true+1:Nat):Int):=by
     rw [show((G.score s+1+(kO k G s l i).bl.count true:Nat):Int)+1=((G.score s+1+(kO k G s l i).bl.count true+1:Nat):Int)by omega];exact jW (by omega)
    simp only;rw [ew];have r4:=r2.OM (G.score s+1+(kO k G s l i).bl.count true+1);have r5:=r2.OK 32 (.int .u64 ((G.score s+1+(kO k G s l i).bl.count true+1:Nat):Int));refine⟨(W',nw+1,R1,(i:Int)+1),rfl,⟨i+1,E',e+1,sP,W',nw+1,R1,rfl,dV,?_,(Rx.tt r3).trans r5 (fun _ _ h=>.inl h)⟩,by simp only;omega⟩;rw [qG];have ec:((kO k G s l i).bl++ [true]).count true=(kO k G s l i).bl.count true+1:=by simp [List.count_append]
    simp only [if_true];rw [ec,<-Nat.add_assoc];exact r4
  unfold af.B4;refine Split.dec (fun U6=>?_) (fun Vs=>?_)
  ·simp only at U6
   refine Split.mk (fun xg=>?_) (fun xg=>?_)
   ·replace xg:b=true:=xg
    subst xg;have Lz:q<Av.length:=by omega
    obtain⟨z2,hz2⟩:∃z2,Av[q]? =some z2:=⟨_,List.getElem?_eq_getElem Lz⟩;intro w5;have k5:Kept Nil u w5:=(Kept.refl _ _).drew;clear_value w5;have F8:=ku.tt k5;have yK:=nE.trans F8 (fun _ _ h=>h.elim);have hR5:=hR yK;refine((bK.hs Sy).same F8).load (i:=(q:Int)) (by omega) (by rw [Int.toNat_natCast];exact hz2) (Is.mk rfl ⟨_,hR5.c0,?_⟩);refine pE hR5 (by omega) (bK.hs (V4.same F8).wr) (by omega) z2 fun N2 c2 w6 Cv k6=>⟨N2,_,c2,rfl,?_⟩;have Le:=F8.tt k6;refine⟨(hR5.same k6).c0,?_⟩;simp only;rw [dW (n:=(q:Int)) (by omega) (by omega),gQ (x:=(k:Int)-1) (by omega) (by omega)];refine⟨(decide (((bV G.D (kO k G s l i).wd z2).length:Int)<=(k:Int)-1),(q:Int)+1),rfl,⟨_,q+1,rfl,Lz,?_,Le⟩,by simp only;omega⟩;rw [eq_comm,Bool.and_eq_true,decide_eq_true_eq]at hb;rw [decide_eq_true hb.1,Bool.true_and,List.take_add_one,hz2];simp only [Option.toList_some,List.all_append,hb.2,Bool.true_and,List.all_cons,List.all_nil,Bool.and_true];rw [decide_eq_decide];omega
   ·rw [aR,af.Hq]
    replace xg:b=false:=xg
    refine fin ku ?_;rw [xg]at hb⊢
    symm
    unfold oV;rw [Nt,decide_eq_false_iff_not];rintro⟨g1,g2⟩;rw [decide_eq_true g1,Bool.true_and]at hb;have:=List.all_eq_false.1 hb.symm;obtain⟨z0,hz0,hz1⟩:=this;exact hz1 (decide_eq_true (g2 z0 (List.mem_of_mem_take hz0)))
  ·simp only at Vs
   rw [aR,af.Hq];refine fin ku ?_;rw [List.take_of_length_le (by omega)]at hb;rw [hb];unfold oV;rw [Nt,Bool.eq_iff_iff,Bool.and_eq_true,decide_eq_true_eq,decide_eq_true_eq,List.all_eq_true];simp only [decide_eq_true_eq]
 ·simp only at gH
  have:i=n:=by omega
  subst this;rw [aR,af.Cf];rw [<-hn,DT]at Vv;have BD:(⟨s,G.score s+1+(fK k G s l).bl.count true,cP G s l,(fK k G s l).bl⟩:ou)=cR k G s l:=rfl;rw [BD]at Vv;unfold af.xw;obtain⟨t1,t2,t3⟩:=dG Vv.box (cs:=cQ (cR k G s l) A (cP G s l).length cp E e ce) (by rw [aZ];rfl);refine⟨_,⟨aZ ..,Cells.bI Vv.top⟩,⟨aZ ..,dJ _ _ _ _ _ _ _,fun j hj=>t1 j (by rw [aZ];exact hj)⟩,_,⟨aZ ..,Cells.bI t2⟩,?_⟩;rw [hn]at t3 Vv⊢;exact hK v E e ce W nw cw Vv ((kv.mono fun _ _ h=>h.imp (fun h=>h) (fun h=>.inr h)).trans t3 (fun _ _ h=>.inr (.inl h)))
end
theorem Rj{G:GS}{l:List HT}{k:Nat}{x:HT}(h:SO G l)(h1:∀y∈l.take k,gl G y x=true)(h2:∀y∈l.drop k,gl G x y=true):SO G (l.take k++x::l.drop k):=by
 have h0:SO G (l.take k++l.drop k):=by rw [List.take_append_drop];exact h
 unfold SO at h0⊢;rw [List.pairwise_append]at h0⊢;refine⟨h0.1,List.pairwise_cons.2 ⟨h2,h0.2.1⟩,fun a ha b hb=>?_⟩;rcases List.mem_cons.1 hb with rfl|hb
 ·exact h1 a ha
 ·exact h0.2.2 a ha b hb
section
variable{y w w':World}{F F' S:Nat->Prop}{r x k:Nat}{G:GS}{K:Value->World->Prop}{B0 xb rb sb n cp e ce nw cw na ca:Nat}{A E W AA:Option Addr}{s:HT}{l all wd:List HT}
set_option maxHeartbeats 2000000 in
theorem Ff(h:R3 y F r x k G)(hD:G.D.length<=300)(hB:B0<=y.heap.size)(iC:∀j,(j=r\/j=x\/F j)->j≠xb)(hs:s∈ids G.D)(Ha:y.heap[sb]? =some (.cells s.1 ah (0,0)))(RI:sb≠xb)
 (di:HS y AA na all) (Yx:∀a,AA=some a->a.block≠xb) (hSS:SS all) (fJ:∀z∈all,z∈ids G.D)
 (V:VJ y B0 xb rb ⟨s,G.score s+1,[],[]⟩ none 0 0 none 0 0 W nw cw wd)
 (hK:∀v A n cp M i,SO G M->(∀z,z∈M↔z∈all/\z≠s/\¬fy G.D z s)->VJ v B0 xb rb ⟨s,G.score s+1,M,[]⟩ A n cp none 0 0 W nw cw wd->Kept (· =xb) y v->af.cV (some ⟨r,0,none⟩) ⟨sb,0,none⟩ ⟨rb,0,none⟩ none 0 0 ⟨xb,0,none⟩ W nw cw AA na ca i K v):
 Holds none [] prog 179 (.loop (lB (bB (sR (sL (sR (sR (sR (sR (body af.fn)))))))))) (af.q1 K) [(0,.pointer (some ⟨r,0,none⟩)),(4,.pointer (some ⟨sb,0,none⟩)),(6,.pointer (some ⟨rb,0,none⟩)),(7,.slice none 0 0),(8,.pointer (some ⟨xb,0,none⟩)),(9,.slice W nw cw),(10,.slice AA na ca),(11,.int .i64 0)] y:=by
 have LK:=di.len;have aja:na<=300:=by
  have:=dc (m:=ids G.D) hSS.nodup fJ;rw [gq]at this;omega
 have hR:∀ {v:World},Kept (· =xb) y v->R3 v F r x k G:=fun kv=>h.aF kv (iC r (.inl rfl)) (iC x (.inr (.inl rfl))) (fun j hj=>iC j (.inr (.inr hj)));refine af.cy (I:=fun st v=>∃(i:Nat) (M:List HT) (A:Option Addr) (n cp:Nat),st=(i:Int)/\i<=na/\VJ v B0 xb rb ⟨s,G.score s+1,M,[]⟩ A n cp none 0 0 W nw cw wd/\SO G M/\(∀z,z∈M↔z∈all.take i/\z≠s/\¬fy G.D z s)/\Kept (· =xb) y v) (μ:=fun st _=>((na:Int)-st).toNat) (s:=0) ⟨0,[],none,0,0,rfl,Nat.zero_le _,V,List.Pairwise.nil,by simp,Kept.refl _ _⟩ ?_;rintro st v ⟨i,M,A,n,cp,rfl,hi,Vv,Gk,iV,kv⟩;unfold af.B1;refine Split.dec (fun cU=>?_) (fun gH=>?_)
 ·have dV:i<na:=by omega
  obtain⟨z,hz⟩:∃z,all[i]? =some z:=⟨_,List.getElem?_eq_getElem (by omega)⟩;have PE:=fJ z (List.mem_of_getElem? hz);have GB:all.take (i+1)=all.take i++ [z]:=by rw [List.take_add_one,hz];rfl
  have hMi:∀y∈M,y∈ids G.D:=fun y hy=>fJ y (List.mem_of_mem_take ((iV y).1 hy).1);have hMl:M.length<=300:=by
   have:=dc (m:=ids G.D) Gk.nodup hMi;rw [gq]at this;omega
  have hMn:M.length=n:=bK.len Vv.mg;have sv:=kv.size;refine(di.aF kv Yx).load (i:=(i:Int)) (by omega) hz ?_;intro w2;obtain⟨tu,jP,ko⟩:=iu (w:=v) (z:=dX.1) (cs:=z.1) (t:=ah) (by rw [z.2.1];rfl);refine⟨⟨z.2.1,z.2.one,fun j hj=>tu j (by rw [z.2.1];exact hj)⟩,?_⟩;intro w3 w4
  replace jP:w3.heap[v.heap.size]? =some (.cells z.1 ah (0,0)):=jP
  replace ko:Kept Nil v w3:=ko
  have k4:Kept Nil w3 w4:=(Kept.refl _ _).drew;clear_value w4;have rD:=k4.heap jP (fun h=>h);have O6:=ko.tt k4;clear_value w3;have nE:=kv.trans O6 (fun _ _ h=>h.elim);have Gj:∀ {u:World},Kept (· =xb) y u->Cells u ⟨sb,0,none⟩ s.1:=fun ku=>Cells.bI (ku.heap Ha RI);have next:∀ {u:World} {M':List HT} {A':Option Addr} {n' xk:Nat},VJ u B0 xb rb ⟨s,G.score s+1,M',[]⟩ A' n' xk none 0 0 W nw cw wd->SO G M'->(∀z,z∈M'↔z∈all.take (i+1)/\z≠s/\¬fy G.D z s)->Kept (· =xb) y u->
   ∃s1:Int,i64.wrap ((i:Int)+(1:Int))=s1/\(∃(i:Nat) (M:List HT) (A:Option Addr) (n cp:Nat),s1=(i:Int)/\i<=na/\VJ u B0 xb rb ⟨s,G.score s+1,M,[]⟩ A n cp none 0 0 W nw cw wd/\SO G M/\(∀z,z∈M↔z∈all.take i/\z≠s/\¬fy G.D z s)/\Kept (· =xb) y u)/\((na:Int)-s1).toNat<((na:Int)-(i:Int)).toNat:=fun h1 h2 h3 h4=>by
   rw [dW (n:=(i:Int)) (by omega) (by omega)];exact⟨(i:Int)+1,rfl,⟨i+1,_,_,_,_,rfl,dV,h1,h2,h3,h4⟩,by omega⟩
  have skip:(z=s\/fy G.D z s)->∀z',z'∈M↔z'∈all.take (i+1)/\z'≠s/\¬fy G.D z' s:=fun hz0 z'=>by
   rw [iV,GB,List.mem_append,List.mem_singleton];constructor
   ·rintro⟨a,b⟩;exact⟨.inl a,b⟩
   ·rintro⟨a|rfl,b,c⟩
    ·exact⟨a,b,c⟩
    ·rcases hz0 with e|e
     ·exact absurd e b
     ·exact absurd e c
  refine⟨z.1,⟨z.2.1,Cells.bI rD⟩,s.1,⟨s.2.1,Gj nE⟩,⟨z.2.ints,s.2.ints⟩,?_⟩;rw [dO];refine Split.dec (fun Eu=>?_) (fun Eu=>?_)
  ·obtain⟨s1,e1,e2,e3⟩:=next (Vv.same O6) Gk (skip (.inl Eu)) nE
   rw [e1];exact⟨s1,rfl,e2,e3⟩
  have Yu:=hR nE;refine Is.mk rfl ⟨_,Yu.c1,Is.mk rfl ⟨z.1,⟨z.2.1,Cells.bI rD⟩,s.1,⟨s.2.1,Gj nE⟩,?_⟩⟩;rw [add_zero];refine q9 Yu.X.gr h.fg.W (by omega) z s fun w5 b hb k5=>⟨b,rfl,?_⟩;have O5:=O6.tt k5;have yK:=kv.trans O5 (fun _ _ h=>h.elim);refine Split.mk (fun hbt=>?_) (fun Yr=>?_)
  ·obtain⟨s1,e1,e2,e3⟩:=next (Vv.same O5) Gk (skip (.inr (hb.1 hbt))) yK
   rw [e1];exact⟨s1,rfl,e2,e3⟩
  have hzA:¬fy G.D z s:=fun e=>by rw [hb.2 e]at Yr;cases Yr
  have V5:=Vv.same O5;have oS:=k5.heap rD (fun h=>h);have hzM:z∉M:=fun e=>by
   have h1:=((iV z).1 e).1;have gB:=hSS.nodup;obtain⟨q,hq⟩:=List.mem_iff_getElem?.1 h1;rw [List.getElem?_take]at hq;split at hq
   ·rename_i hqi
    have:=(List.getElem?_inj (i:=q) (j:=i) (by rw [LK];omega) gB).1 (by rw [hq,hz]);omega
   ·cases hq
  refine⟨A,n,cp,V5.f33,?_⟩;refine af.iq (I:=fun st u=>∃q:Nat,st=(q:Int)/\q<=M.length/\(∀y∈M.drop q,gl G z y=true)/\Kept Nil w5 u) (μ:=fun st _=>st.toNat) (s:=(n:Int)) ⟨n,rfl,by omega,by rw [<-hMn];simp,Kept.refl _ _⟩ ?_;rintro st u ⟨q,rfl,hq,vY,ku⟩;unfold af.B2;have sD:∀ {t:World},Kept Nil w5 t->(∀y∈M.take q,gl G y z=true)->af.iZ (some ⟨r,0,none⟩) ⟨sb,0,none⟩ ⟨rb,0,none⟩ none 0 0 ⟨xb,0,none⟩ W nw cw AA na ca (i:Int) ⟨v.heap.size,0,none⟩ (q:Int) (bQ (af.e1 (some ⟨r,0,none⟩) ⟨sb,0,none⟩ ⟨rb,0,none⟩ none 0 0 ⟨xb,0,none⟩ W nw cw AA na ca) (fun st v=>∃(i:Nat) (M:List HT) (A:Option Addr) (n cp:Nat),st=(i:Int)/\i<=na/\VJ v B0 xb rb ⟨s,G.score s+1,M,[]⟩ A n cp none 0 0 W nw cw wd/\SO G M/\(∀z,z∈M↔z∈all.take i/\z≠s/\¬fy G.D z s)/\Kept (· =xb) y v) (fun st _=>((na:Int)-st).toNat) (i:Int) v (af.q1 K)) t:=by
   intro t kt IX;have Vt:=V5.same kt;have To:=yK.trans kt (fun _ _ h=>h.elim);have st:=To.size;have vn:=Vt.mg;have Da:n<=cp:=by rcases Row.own vn with⟨_,h1,h2,_⟩|⟨_,_,_,_,_,h1,_⟩<;>omega
   unfold af.iZ;refine⟨A,n,cp,Vt.f33,⟨by omega,by omega⟩,?_⟩;have sO:HS t (if cp=0 then A else A.map (·.add (0*32))) ((q:Int).toNat -0) (M.take q):=by
    have h:=vn.hs.take (k:=q) (by omega);rw [Nat.sub_zero,Int.toNat_natCast];have e:(if cp=0 then A else A.map (·.add (0*32)))=A:=by
     split
     ·rfl
     ·cases A<;>simp [add_zero]
    rw [e];exact h
   obtain⟨A1,c1,u2,mU,fD,LX,lT⟩:=ct (cx:=cp-0) ay (bK.nil t t.heap.size) sO (by simp;omega) (Nat.le_refl _);have k2:Kept Nil t u2:=Kept.dA (Kept.refl _ _) LX (fun k hk=>by cases hk);rw [Nat.zero_add,Nat.sub_zero,Int.toNat_natCast]at mU fD;rw [List.nil_append]at fD;refine⟨A1,_,c1,u2,by rw [Nat.sub_zero,Int.toNat_natCast];exact mU,?_⟩;refine⟨z.1,⟨z.2.1,Cells.bI ((kt.tt k2).heap oS (fun h=>h))⟩,z.2.1,?_⟩;intro u3;have k3:Kept Nil u2 u3:=(Kept.refl _ _).alloc _;have V9:HS u3 (some ⟨u2.heap.size,0,none⟩) 1 [z]:=iL u2 z;clear_value u3;have jR:bK u3 t.heap.size A1 q c1 (M.take q):=Row.aF fD k3 (fun _ _ h=>h);have s2:=k2.size;have s3:=k3.size;obtain⟨A4,c4,u4,wJ,iG,EF,aj3⟩:=ct (cx:=1) ay jR V9 (by omega) (by omega);have Ll:Kept Nil t u4:=Kept.dA (k2.tt k3) EF (fun k hk=>by rcases lT k hk with h|h;cases h;exact h);have V4:=Vt.same Ll;refine⟨A4,_,c4,u4,wJ,A,n,cp,V4.f33,⟨by omega,by omega⟩,?_⟩;have Hb:HS u4 (if cp=(q:Int).toNat then A else A.map (·.add ((q:Int).toNat*32))) (n-(q:Int).toNat) (M.drop q):=by
    rw [Int.toNat_natCast];exact(vn.hs.same Ll).drop Da (by omega)
   have Yk:(n-(q:Int).toNat)=n-q:=by rw [Int.toNat_natCast]
   have s4:=Ll.size;obtain⟨A5,c5,u5,sA,jr,Vx,aj2⟩:=ct (cx:=cp-(q:Int).toNat) ay iG Hb (by omega) s4;have NW:∀j,a8 A4=some j->t.heap.size<=j:=fun j hj=>(Row.bI iG hj).1;have k5':Kept Nil t u5:=Kept.dA Ll Vx NW;have Hm:=Vt.same k5';refine⟨A5,_,c5,u5,sA,Hm.wrx (by omega),?_⟩;have nu:M.take q++ [z]++M.drop q=M.take q++z::M.drop q:=by simp
   have zx:(M.take q++z::M.drop q).length=n+1:=by simp;omega
   rw [nu]at jr;have e5:q+1+(n-(q:Int).toNat)=n+1:=by omega
   rw [e5]at jr⊢;have Gx:∀j,a8 A5=some j->t.heap.size<=j:=fun j hj=>(Row.bI jr hj).1;have ks:=Hm.OK 33 (.slice A5 (n+1) c5);have Vf:VJ (u5.setCell ((⟨xb,0,none⟩:Addr).add 33) (.slice A5 (n+1) c5)) B0 xb rb ⟨s,G.score s+1,M.take q++z::M.drop q,[]⟩ A5 (n+1) c5 none 0 0 W nw cw wd:=by
    have xB:=Hm.xB;refine⟨?_,?_,Row.aF Hm.bl ks (fun j hj=>by cases hj),Row.aF Hm.wr ks (fun j hj e=>by have:=(Row.bI Hm.wr hj).1;omega),ks.heap Hm.box Hm.xr.symm,fun j hj e=>(by cases e),fun j hj e=>?_,fun j hj=>(by cases hj),Hm.xB,Hm.rB,Hm.xr⟩
    ·rw [br,dh Hm.top]
     have:=rH ⟨s,G.score s+1,M,[]⟩ A n cp none 0 0 #[] A5 (n+1) c5;rw [Array.append_empty,Array.append_empty]at this;rw [this];rfl
    ·have Uj:bK u5 B0 A5 (n+1) c5 (M.take q++z::M.drop q):=Row.base jr (fun j hj=>by have:=Gx j hj;omega)
     exact Row.aF Uj ks (fun j hj e=>by have:=Gx j hj;omega)
    ·obtain⟨_,cur,hc⟩:=Row.bI Vt.wr e
     have:=aQ hc;have:=Gx j hj;omega
   generalize u5.setCell ((⟨xb,0,none⟩:Addr).add 33) (.slice A5 (n+1) c5)=u6 at ks Vf⊢;obtain⟨s1,e1,e2,e3⟩:=next Vf (Rj Gk IX vY) (fun z'=>by
    rw [GB,List.mem_append (s:=all.take i),List.mem_singleton];have hM2:z'∈M.take q++z::M.drop q↔z'=z\/z'∈M:=by
     rw [List.mem_append,List.mem_cons];constructor
     ·rintro(h|h|h)
      ·exact .inr (List.mem_of_mem_take h)
      ·exact .inl h
      ·exact .inr (List.mem_of_mem_drop h)
     ·rintro(h|h)
      ·exact .inr (.inl h)
      ·rw [<-List.take_append_drop q M,List.mem_append]at h
       exact h.imp (fun h=>h) (fun h=>.inr h)
    rw [hM2,iV];constructor
    ·rintro(rfl|⟨a,b⟩)
     ·exact⟨.inr rfl,Eu,hzA⟩
     ·exact⟨.inl a,b⟩
    ·rintro⟨a|rfl,b⟩
     ·exact .inr ⟨a,b⟩
     ·exact .inl rfl) ((To.trans k5' (fun _ _ h=>h.elim)).tt ks)
   rw [e1];exact⟨s1,rfl,e2,e3⟩
  intro w6;have k6:Kept Nil u w6:=(Kept.refl _ _).drew;clear_value w6;have Le:=ku.tt k6;have V6:=V5.same Le;have Rx:=yK.trans Le (fun _ _ h=>h.elim);refine Split.dec (fun jK=>?_) (fun yV=>?_)
  ·have No:0<q:=by omega
   obtain⟨y1,PH⟩:∃y1,M[q-1]? =some y1:=⟨_,List.getElem?_eq_getElem (by omega)⟩;have M4:=List.mem_of_getElem? PH;rw [wN (x:=(q:Int)-1) (i:=q-1) (by omega) (by omega)];refine⟨z.1,⟨z.2.1,Cells.bI (Le.heap oS (fun h=>h))⟩,A,n,cp,V6.f33,(bK.hs V6.mg).load (i:=((q-1:Nat):Int)) (by omega) (by rw [Int.toNat_natCast];exact PH) ?_⟩;refine qP (hR Rx) (by omega) PE (hMi y1 M4) fun w7 k7=>⟨_,rfl,?_⟩;have ku7:=Le.tt k7;refine Split.mk (fun hc=>?_) (fun hc=>?_)
   ·refine⟨((q-1:Nat):Int),rfl,⟨q-1,rfl,by omega,fun z' zv=>?_,ku7⟩,by simp only;omega⟩
    have hd:M.drop (q-1)=y1::M.drop q:=by
     obtain⟨h1,h2⟩:=lgeS PH;rw [List.drop_eq_getElem_cons h1,h2,show q-1+1=q by omega]
    rw [hd]at zv;rcases List.mem_cons.1 zv with rfl|zv
    ·exact hc
    ·exact vY z' zv
   ·rw [aR,af.kL]
    refine sD ku7 fun z' zv=>?_;have Ev:gl G y1 z=true:=by
     cases hg:gl G y1 z
     ·exact absurd (pV hc hg) (fun e=>hzM (by rw [e];exact M4))
     ·rfl
    obtain⟨j,hj⟩:=List.mem_iff_getElem?.1 zv;rw [List.getElem?_take]at hj;split at hj
    ·rename_i hjq
     by_cases e:j=q-1
     ·subst e;rw [PH]at hj;cases hj;exact Ev
     ·obtain⟨a1,a2⟩:=lgeS hj
      obtain⟨b1,b2⟩:=lgeS PH;have:=List.pairwise_iff_getElem.1 Gk j (q-1) a1 b1 (by omega);rw [a2,b2]at this;exact pU this Ev
    ·cases hj
  ·rw [aR,af.kL]
   have No:q=0:=by omega
   refine sD Le fun z' zv=>?_;rw [No]at zv;simp at zv
 ·rw [aR,af.df]
  rw [List.take_of_length_le (by omega)]at iV;exact hK v A n cp M (i:Int) Gk iV Vv kv
end
section
variable{w w':World}{F F' S:Nat->Prop}{r x k:Nat}{G:GS}{K:Value->World->Prop}{xb rb sb n cx:Nat}{A:Option Addr}{s:HT}{l:List HT}
theorem Oz{v:World}(h:R3 v F r x k G)(hD:G.D.length<=300)(qw:k<=1000)(hs:s∈ids G.D)(hl:HS v A n l)(hn:n<=5000)(fJ:∀z∈l,z∈ids G.D)(iC:∀j,(j=r\/j=x\/F j)->j≠xb/\j≠rb)
 (Ha:v.heap[sb]? =some (.cells s.1 ah (0,0))) (wY:v.heap[rb]? =some (.cells zC bn (0,0))) (XU:v.heap[xb]? =some (.cells (cQ ⟨s,G.score s+1,[],[]⟩ none 0 0 none 0 0) bn (0,0))) (RI:sb≠xb) (hrx:xb≠rb)
 (hK:∀u A n cp E e ce W nw cw,bK u v.heap.size A n cp (cR k G s l).merge->Row u v.heap.size iK 1 E e ce (sQ (cR k G s l).fh)->bK u v.heap.size W nw cw (fK k G s l).wd->Kept (fun j=>j=xb\/j=rb) v u->K (.tuple #[.agg (cQ (cR k G s l) A n cp E e ce),.slice W nw cw]) u):
 af.J1 (some ⟨r,0,none⟩) A n cx ⟨sb,0,none⟩ ⟨rb,0,none⟩ none 0 0 ⟨xb,0,none⟩ K v:=by
 have W0:=h.fg.W;have lsb:=aQ Ha;have lrb:=aQ wY;have lxb:=aQ XU;have hwl:=sS h.fg hs;have j2:∀ {u:World} {W:Option Addr} {nw cw:Nat},bK u v.heap.size W nw cw (G.world s++ [s])->Kept Nil v u->af.J2 (some ⟨r,0,none⟩) A n cx ⟨sb,0,none⟩ ⟨rb,0,none⟩ none 0 0 ⟨xb,0,none⟩ W nw cw K u:=by
  intro u W nw cw Zt ku;have hu:=h.same ku;have su:=ku.size;unfold af.J2;refine Is.mk rfl ⟨_,hu.c1,Is.mk rfl ?_⟩;rw [add_zero];refine Ah hu.X.gr W0 (by omega) (hl.same ku) (by omega) fun A1 c1 w1 lN k1=>⟨A1,_,c1,rfl,?_⟩;have rL:(eB G.D l).length<=300:=Nat.le_trans (nO _ _) hD;have s1:=k1.size;have F9:=ku.tt k1;obtain⟨A2,c2,w2,jF,fD,g2,_⟩:=ct ay lN (cx:=cx) (hl.same F9) (by omega) s1;have k2:Kept Nil u w2:=Kept.dA k1 g2 (fun j hj=>(Row.bI lN hj).1);refine⟨A2,_,c2,w2,jF,?_⟩;refine qZ fD.hs (by omega) fun A3 c3 w3 jR k3=>⟨A3,_,c3,rfl,?_⟩;have MN:=k2.tt k3;have sn:=ku.tt MN;have h3:=h.same sn;have di:∀z∈dw (eB G.D l++l),z∈ids G.D:=fun z hz=>by
   rcases List.mem_append.1 (dM.1 hz)with hz|hz
   ·exact(jS.1 hz).1
   ·exact fJ z hz
  have V3:VJ w3 v.heap.size xb rb ⟨s,G.score s+1,[],[]⟩ none 0 0 none 0 0 W nw cw (G.world s++ [s]):=
   ⟨sn.heap XU (fun h=>h),bK.nil _ _,Row.nil _ _ _ _,Row.aF Zt MN (fun _ _ h=>h),sn.heap wY (fun h=>h),fun j hj=>(by cases hj),fun j hj=>(by cases hj),fun j hj=>(by cases hj),lxb,lrb,hrx⟩
  have s3:=sn.size;refine Ff h3 (by omega) (by omega) (fun j hj=>(iC j hj).1) hs (sn.heap Ha (fun h=>h)) RI jR.hs (fun a ha e=>by
   subst ha;have:=(Row.bI jR (k:=a.block) rfl).1;have:=(ku.tt k2).size;omega) (jh _) di V3 fun t A n cp M i Gk iV Vt kt=>?_
  have hM:M=cP G s l:=th Gk fun z=>by
   rw [iV];unfold tg;rw [List.mem_filter,decide_eq_true_eq]
  subst hM;have ht:=h3.aF kt (iC r (.inl rfl)).1 (iC x (.inr (.inl rfl))).1 (fun j hj=>(iC j (.inr (.inr hj))).1);have st:=kt.size;refine Fe (B0:=v.heap.size) ht (by omega) qw (by omega) (fun j hj=>⟨?_,iC j hj⟩) (fun z hz=>?_) hs Vt fun t2 E e ce W nw cw V2 yM=>?_
  ·rcases hj with rfl|rfl|hj
   ·exact h.lt
   ·exact h.lx
   ·exact h.lo j hj
  ·exact di z ((iV z).1 hz).1
  ·have box:=V2.box
   obtain⟨_,_,f3⟩:=dG box (cs:=cQ (cR k G s l) A n cp E e ce) (by rw [aZ];rfl);refine hK _ A n cp E e ce W nw cw (Row.aF V2.mg f3 (fun j hj e=>by have:=(Row.bI V2.mg hj).1;omega)) (Row.aF V2.bl f3 (fun j hj e=>by have:=(Row.bI V2.bl hj).1;omega)) (Row.aF V2.wr f3 (fun j hj e=>by have:=(Row.bI V2.wr hj).1;omega)) ?_;exact((sn.mono fun _ _ h=>h.elim).trans kt (fun j hj e=>.inl e)).trans yM (fun j hj e=>by
    rcases e with e|e|e
    ·exact .inl e
    ·exact .inr e
    ·omega)
 unfold af.J1;intro w1;have k1:Kept Nil v w1:=(Kept.refl _ _).drew;clear_value w1;have h1:=h.same k1;obtain⟨i,nd,cl,wl,q1,q2,q3,q4,q5,q6,q7,q8⟩:=Oe h.fg hs;obtain⟨A0,c0,B,e,g1,g2,g3⟩:=h.top;have cB:∀ {u:World},Kept Nil v u->u.cell? ((⟨r,0,none⟩:Addr).add 3)=some (.slice B G.D.length e):=fun ku=>by rw [br,aD (ku.heap g1 (fun h=>h))];rfl
 have gW:∀ {u:World},Kept Nil v u->qf u F B G.D.length G.kN:=fun ku=>g3.aF ku (fun _ _ h=>h);obtain⟨aB,Aw,nw,cw,p1,p2,p3,p4,p5,p6⟩:=g3.at_ i wl q4;subst p1;have aik:wl.length=nw:=p5.len;rw [q7]at hwl;have cW:∀ {u:World},Kept Nil v u->u.cell? (aB.add (((i:Nat):Int).toNat*1))=some (.slice Aw nw cw):=fun ku=>by rw [Int.toNat_natCast];exact ku.cell p4 (fun h=>h)
 have hW:∀ {u:World},Kept Nil v u->HS u Aw nw wl:=fun ku=>p5.same ku;have bx:∀ {u:World},Kept Nil v u->∃cs:Array Value,(.agg s.1:Value)=.agg cs/\cs.size=32/\Cells u ⟨sb,0,none⟩ cs:=fun ku=>⟨_,rfl,s.2.1,Cells.bI (ku.heap Ha (fun h=>h))⟩;have Rc:∀ {u:World},Kept Nil v u->∃A' c' u',(Builtin.append_ #[ay,ay] ay #[.slice none 0 0,.slice Aw nw cw]).run prog u=.ok (.slice A' nw c') u'/\bK u' v.heap.size A' nw c' wl/\Kept Nil u u':=fun {u} ku=>by
  obtain⟨A',c',u',hr,row,hg,_⟩:=ct (cx:=cw) ay (bK.nil u v.heap.size) (hW ku) (by omega) ku.size;rw [Nat.zero_add]at hr row;rw [List.nil_append]at row;exact⟨A',c',u',hr,row,Kept.dA (Kept.refl _ _) hg (fun j hj=>by cases hj)⟩
 have Rb:∀ {u:World} {A':Option Addr} {c' bq:Nat},Kept Nil v u->bK u v.heap.size A' nw c' wl->HS u (some ⟨bq,0,none⟩) 1 [s]->∃A2 c2 u',(Builtin.append_ #[ay,ay] ay #[.slice A' nw c',.slice (some ⟨bq,0,none⟩) 1 1]).run prog u=.ok (.slice A2 (nw+1) c2) u'/\bK u' v.heap.size A2 (nw+1) c2 (G.world s++ [s])/\Kept Nil v u':=fun {u A' c' bq} ku row hx=>by
  obtain⟨A2,c2,u',hr,fD,hg,_⟩:=ct (cx:=1) ay row hx (by omega) ku.size;rw [<-q7]at fD;exact⟨A2,c2,u',hr,fD,Kept.dA ku hg (fun j hj=>(Row.bI row hj).1)⟩
 refine Is.mk rfl ⟨some aB,_,e,cB k1,Is.mk rfl ⟨_,h1.c1,Is.mk rfl ⟨s.1,⟨s.2.1,Cells.bI (k1.heap Ha (fun h=>h))⟩,s.1,⟨s.2.1,Cells.bI (k1.heap Ha (fun h=>h))⟩,?_,?_⟩⟩⟩
 ·rw [add_zero]
  refine mc h1.X.gr (by omega) s fun w2 k2=>⟨_,rfl,?_⟩;have zq:=k1.tt k2;rw [q5];refine⟨bx zq,cB zq,⟨by omega,by omega⟩,Is.mk rfl ⟨Aw,nw,cw,cW zq,?_,?_⟩⟩
  ·obtain⟨A1,c1,w3,ry,jR,k3⟩:=Rc zq
   have sn:=zq.tt k3;refine⟨A1,nw,c1,w3,ry,bx sn,s.2.1,?_⟩;intro w4;have k4:Kept Nil w3 w4:=(Kept.refl _ _).alloc _;have T3:=iL w3 s;obtain⟨A2,c2,w5,sA,jr,k5⟩:=Rb (sn.tt k4) (Row.aF jR k4 (fun _ _ h=>h)) T3;exact⟨A2,nw+1,c2,w5,sA,af.qT (j2 jr k5)⟩
  ·refine⟨s.2.1,?_⟩
   intro w3;have k3:Kept Nil w2 w3:=(Kept.refl _ _).alloc _;have BZ:HS w3 (some ⟨w2.heap.size,0,none⟩) 1 [s]:=iL w2 s;clear_value w3;have sn:=zq.tt k3;obtain⟨A1,c1,w4,wJ,iG,k4⟩:=Rc sn;obtain⟨A2,c2,w5,sA,jr,k5⟩:=Rb (sn.tt k4) iG (BZ.same k4);exact⟨cW sn,cB sn,A1,nw,c1,w4,wJ,A2,nw+1,c2,w5,sA,af.qT (j2 jr k5)⟩
 ·refine⟨s.2.1,?_⟩
  intro w2;have k2:Kept Nil w1 w2:=(Kept.refl _ _).alloc _;have M8:HS w2 (some ⟨w1.heap.size,0,none⟩) 1 [s]:=iL w1 s;clear_value w2;have zq:=k1.tt k2;refine⟨bx zq,(h.same zq).c1,cB zq,?_⟩;rw [add_zero];refine mc (h.same zq).X.gr (by omega) s fun w3 k3=>⟨_,rfl,?_⟩;have sn:=zq.tt k3;rw [q5];obtain⟨A1,c1,w4,wJ,iG,k4⟩:=Rc sn;obtain⟨A2,c2,w5,sA,jr,k5⟩:=Rb (sn.tt k4) iG ((M8.same k3).same k4);exact⟨cB sn,⟨by omega,by omega⟩,Is.mk rfl ⟨Aw,nw,cw,cW sn,A1,nw,c1,w4,wJ,A2,nw+1,c2,w5,sA,af.qT (j2 jr k5)⟩⟩
theorem qO(h:R3 w F r x k G)(hD:G.D.length<=300)(qw:k<=1000)(hs:s∈ids G.D)(hl:HS w A n l)(hn:n<=5000)(fJ:∀z∈l,z∈ids G.D)
 (hK:∀u A n cp E e ce W nw cw,bK u w.heap.size A n cp (cR k G s l).merge->Row u w.heap.size iK 1 E e ce (sQ (cR k G s l).fh)->bK u w.heap.size W nw cw (fK k G s l).wd->Kept Nil w u->K (.tuple #[.agg (cQ (cR k G s l) A n cp E e ce),.slice W nw cw]) u):
 bu prog af.id #[.pointer (some ⟨r,0,none⟩),.agg s.1,.slice A n cx] w K:=by
 refine af.of ?_;unfold af.W;intro w1 w2 w3;have k1:Kept Nil w w1:=(Kept.refl _ _).alloc _;have sO:w1.heap[w.heap.size]? =some (.cells s.1 ah (0,0)):=aI w _;have k2:Kept Nil w1 w2:=(Kept.refl _ _).alloc _;have jF:w2.heap[w1.heap.size]? =some (.cells zC bn (0,0)):=aI w1 _;have k3:Kept Nil w2 w3:=(Kept.refl _ _).drew;clear_value w3;have ry:=k3.heap jF (fun h=>h);have CR:=k3.heap (k2.heap sO (fun h=>h)) (fun h=>h);have jY:=(k1.tt k2).tt k3;have s1:=k1.size;have l1:=aQ sO;have l2:=aQ ry;clear_value w2 w1;have Ew:=zX h.fg hs;have ew:u64.wrap ((G.score s:Int)+(1:Int))=((G.score s+1:Nat):Int):=by
  rw [show(G.score s:Int)+1=((G.score s+1:Nat):Int)by omega];exact jW (by omega)
 have BD:(s.1++ #[.int .u64 ((G.score s+1:Nat):Int),.slice none 0 0,.slice none 0 0]:Array Value)=cQ ⟨s,G.score s+1,[],[]⟩ none 0 0 none 0 0:=rfl;have go:∀ {u:World} {xb:Nat},Kept Nil w3 u->w3.heap.size<=xb->u.heap[xb]? =some (.cells (cQ ⟨s,G.score s+1,[],[]⟩ none 0 0 none 0 0) bn (0,0))->af.J1 (some ⟨r,0,none⟩) A n cx ⟨w.heap.size,0,none⟩ ⟨w1.heap.size,0,none⟩ none 0 0 ⟨xb,0,none⟩ K u:=fun {u xb} ku hx XU=>by
  have XS:=jY.tt ku;have s0:=jY.size;refine Oz (h.same XS) hD qw hs (hl.same XS) hn fJ (fun j hj=>?_) (ku.heap CR (fun h=>h)) (ku.heap ry (fun h=>h)) XU (by omega) (by omega) fun t A n cp E e ce W nw cw g1 g2 g3 g4=>?_
  ·have:j<w.heap.size:=by
    rcases hj with rfl|rfl|hj
    ·exact h.lt
    ·exact h.lx
    ·exact h.lo j hj
   exact⟨by omega,by omega⟩
  ·have s0u:=XS.size
   exact hK t A n cp E e ce W nw cw (Row.base g1 (fun j hj=>by have:=(Row.bI g1 hj).1;omega)) (Row.base g2 (fun j hj=>by have:=(Row.bI g2 hj).1;omega)) (Row.base g3 (fun j hj=>by have:=(Row.bI g3 hj).1;omega)) (XS.trans g4 (fun j hj e=>by rcases e with e|e<;>omega))
 have bx:∀ {u:World},Kept Nil w3 u->∃cs:Array Value,(.agg s.1:Value)=.agg cs/\cs.size=32/\Cells u ⟨w.heap.size,0,none⟩ cs:=fun ku=>⟨_,rfl,s.2.1,Cells.bI (ku.heap CR (fun h=>h))⟩;refine⟨s.1,⟨s.2.1,Cells.bI CR⟩,s.1,⟨s.2.1,Cells.bI CR⟩,?_,?_⟩
 ·refine kW (h.same jY) (by omega) hs fun w4 k4=>⟨_,rfl,bx k4,?_⟩
  rw [ew,wC s];refine Is.mk rfl ?_;rw [BD];intro w5;have k5:Kept Nil w4 w5:=(Kept.refl _ _).alloc _;have M7:w5.heap[w4.heap.size]? =some (.cells zC bn (0,0)):=aI w4 _;clear_value w5;have ot:=k4.tt k5;obtain⟨t1,t2,t3⟩:=dG M7 (cs:=cQ ⟨s,G.score s+1,[],[]⟩ none 0 0 none 0 0) (by rw [aZ];rfl);refine⟨bx ot,⟨aZ ..,dJ _ _ _ _ _ _ _,fun j hj=>t1 j (by rw [aZ];exact hj)⟩,?_⟩;have s4:=k4.size;exact af.oP (go (ot.trans t3 (fun j hj e=>by omega)) s4 t2)
 ·intro w4
  have k4:Kept Nil w3 w4:=(Kept.refl _ _).alloc _;have T3:w4.heap[w3.heap.size]? =some (.cells zC bn (0,0)):=aI w3 _;clear_value w4;refine⟨bx k4,bx k4,?_⟩;refine kW (h.same (jY.tt k4)) (by omega) hs fun w5 k5=>⟨_,rfl,bx (k4.tt k5),?_⟩;have ot:=k4.tt k5;rw [ew,wC s];refine Is.mk rfl ?_;rw [BD];obtain⟨t1,t2,t3⟩:=dG (k5.heap T3 (fun h=>h)) (cs:=cQ ⟨s,G.score s+1,[],[]⟩ none 0 0 none 0 0) (by rw [aZ];rfl);refine⟨⟨aZ ..,dJ _ _ _ _ _ _ _,fun j hj=>t1 j (by rw [aZ];exact hj)⟩,?_⟩;exact af.oP (go (ot.trans t3 (fun j hj e=>by omega)) (Nat.le_refl _) t2)
end
theorem DY:zD prog uI bn 35 88:=⟨by kernel_rfl,by kernel_rfl⟩
theorem Su:zD prog fQ ay 1 24:=⟨by kernel_rfl,by kernel_rfl⟩
section
variable{w w':World}{F F' S:Nat->Prop}{A:Option Addr}{n c B m bytes:Nat}{tS tE:TypeId}{news:List Value}
theorem zW{a:Addr}(P:Nat->Array Value->Prop):∀n,(∀i,i<n->∃arr:Array Value,arr.size=m/\(∀u∈arr.toList,u.oneCell'=true)/\Cells w (a.add (i*m)) arr/\P i arr)->
 ∃news:List Value,news.length=n*m/\(∀j u,news[j]? =some u->w.cell? (a.add j)=some u)/\(∀u∈news,u.oneCell'=true)/\∀i,i<n->∃arr:Array Value,P i arr/\arr.size=m/\∀(j:Nat) v,arr[j]? =some v->news[i*m+j]? =some v
 |0,_=>⟨[],by simp,fun j u h=>by simp at h,fun u h=>by simp at h,fun i h=>by omega⟩
 |n+1,H=>by
  obtain⟨news,h1,h2,h3,h4⟩:=zW P n fun i hi=>H i (by omega);obtain⟨arr,g1,g2,g3,g4⟩:=H n (by omega);refine⟨news++arr.toList,by rw [List.length_append,h1,Array.length_toList,g1,Nat.add_mul,Nat.one_mul],fun j u hj=>?_,fun u hu=>?_,fun i hi=>?_⟩
  ·rw [List.getElem?_append]at hj
   split at hj
   ·exact h2 j u hj
   ·rename_i gH
    rw [h1]at hj gH;have:=g3 (j-n*m) u (by simpa using hj)
    rwa [lW,show n*m+(j-n*m)=j by omega]at this
  ·rcases List.mem_append.1 hu with hu|hu
   ·exact h3 u hu
   ·exact g2 u hu
  ·by_cases fJ:i<n
   ·obtain⟨ar,q1,q2,q3⟩:=h4 i fJ
    exact⟨ar,q1,q2,fun j v hj=>by
     have:=q3 j v hj;rw [List.getElem?_append_left (lgeS this).1];exact this⟩
   ·obtain rfl:i=n:=by omega
    exact⟨arr,g4,g1,fun j v hj=>by
     rw [List.getElem?_append_right (by omega),h1,show i*m+j-i*m=j by omega,Array.getElem?_toList];exact hj⟩
theorem zk(T:zD prog tS tE m bytes)(hb:bytes<=1000)(hn:n<=100000){a:Addr}{cx:Nat}(P:Nat->Array Value->Prop)(H:∀i,i<n->∃arr:Array Value,arr.size=m/\(∀u∈arr.toList,u.oneCell'=true)/\Cells w (a.add (i*m)) arr/\P i arr):
 ∃A' c' w' news,(Builtin.append_ #[tS,tS] tS #[.slice none 0 0,.slice (some a) n cx]).run prog w=.ok (.slice A' n c') w'/\Row w' w.heap.size tE m A' n c' news/\Kept Nil w w'/\∀i,i<n->∃arr:Array Value,P i arr/\arr.size=m/\∀(j:Nat) v,arr[j]? =some v->news[i*m+j]? =some v:=by
 obtain⟨news,e1,e2,e3,e4⟩:=zW (w:=w) (m:=m) P n H;obtain⟨A',c',w',hr,fE,hg,_⟩:=fP (P:=prog) (ty:=tS) T (Row.nil w w.heap.size _ _) (a:=a) (m:=n) (cx:=cx) (news:=news) e1 e2 e3 (by rw [Nat.zero_add];have:=Nat.mul_le_mul hn hb;omega) (by unfold maxLen;omega) (Nat.le_refl _);rw [Nat.zero_add]at hr fE;rw [List.nil_append]at fE;exact⟨A',c',w',news,hr,fE,Kept.dA (Kept.refl _ _) hg (fun j hj=>by cases hj),e4⟩
theorem zi(T:zD prog tS tE m bytes)(hb:bytes<=1000)(hn:n<=100000)(h:Row w B tE m A n c news)(hB:B<=w.heap.size){b:Nat}{arr:Array Value}{t:TypeId}(jP:w.heap[b]? =some (.cells arr t (0,0)))(hs:arr.size=m)(h1:∀u∈arr.toList,u.oneCell'=true):
 ∃A' c' w',(Builtin.append_ #[tS,tS] tS #[.slice A n c,.slice (some ⟨b,0,none⟩) 1 1]).run prog w=.ok (.slice A' (n+1) c') w'/\Row w' B tE m A' (n+1) c' (news++arr.toList)/\w.grownBy w' (a8 A):=by
 obtain⟨A',c',w',hr,fE,hg,_⟩:=fP (P:=prog) (ty:=tS) T h (a:=⟨b,0,none⟩) (m:=1) (cx:=1) (news:=arr.toList) (by simpa using hs)
  (fun j u hj=>by rw [br,Nat.zero_add,aD jP];simpa using hj) h1 (by have:=Nat.mul_le_mul (show n+1<=100001 by omega) hb;omega) (by unfold maxLen;omega) hB
 exact⟨A',c',w',hr,fE,hg⟩
def Ki(w:World)(F:Nat->Prop)(l:List ou)(i:Nat)(arr:Array Value):Prop:=∃x A1 n1 c1 B1 m1 d1,l[i]? =some x/\arr=cQ x A1 n1 c1 B1 m1 d1/\HS w A1 n1 x.merge/\Bo w B1 m1 x.fh/\(∀b,A1=some b->F b.block)/\(∀b,B1=some b->F b.block)
def Ri(w:World)(F:Nat->Prop)(l:List (List HT))(i:Nat)(arr:Array Value):Prop:=∃x A1 n1 c1,l[i]? =some x/\arr= #[.slice A1 n1 c1]/\HS w A1 n1 x/\(∀b,A1=some b->F b.block)
theorem qL.zW{l:List ou}(h:qL w F A n l):(0<n->∃a,A=some a)/\∀a,A=some a->∀i,i<n->∃arr:Array Value,arr.size=35/\(∀u∈arr.toList,u.oneCell'=true)/\Cells w (a.add (i*35)) arr/\Ki w F l i arr:=by
 have hl:=h.len;refine⟨fun h0=>?_,fun a ha i hi=>?_⟩
 ·obtain⟨x,hx⟩:∃x,l[0]? =some x:=⟨_,List.getElem?_eq_getElem (by omega)⟩
  obtain⟨a,_,_,_,_,_,_,g1,_⟩:=h.at_ 0 x hx;exact⟨a,g1⟩
 ·obtain⟨x,hx⟩:∃x,l[i]? =some x:=⟨_,List.getElem?_eq_getElem (by omega)⟩
  obtain⟨a',A1,n1,c1,B1,m1,d1,g1,g2,g3,g4,g5,g6,g7,g8⟩:=h.at_ i x hx;rw [ha]at g1;cases g1;exact⟨_,aZ ..,dJ _ _ _ _ _ _ _,g4,x,A1,n1,c1,B1,m1,d1,hx,rfl,g5,g6,g7,g8⟩
theorem qf.zW{l:List (List HT)}(h:qf w F A n l):(0<n->∃a,A=some a)/\∀a,A=some a->∀i,i<n->∃arr:Array Value,arr.size=1/\(∀u∈arr.toList,u.oneCell'=true)/\Cells w (a.add (i*1)) arr/\Ri w F l i arr:=by
 have hl:=h.len;refine⟨fun h0=>?_,fun a ha i hi=>?_⟩
 ·obtain⟨x,hx⟩:∃x,l[0]? =some x:=⟨_,List.getElem?_eq_getElem (by omega)⟩
  obtain⟨a,_,_,_,g1,_⟩:=h.at_ 0 x hx;exact⟨a,g1⟩
 ·obtain⟨x,hx⟩:∃x,l[i]? =some x:=⟨_,List.getElem?_eq_getElem (by omega)⟩
  obtain⟨a',A1,n1,c1,g1,g2,g3,g4,g5,g6⟩:=h.at_ i x hx;rw [ha]at g1;cases g1;refine⟨#[.slice A1 n1 c1],rfl,fun u hu=>?_,fun j u hj=>?_,x,A1,n1,c1,hx,rfl,g5,g6⟩
  ·simp at hu;subst hu;rfl
  ·cases j with
   |zero=>simp at hj;subst hj;rw [add_zero];exact g4
   |succ j=>simp at hj
theorem qL.snoc{l:List ou}{x:ou}{A1 B1:Option Addr}{n1 c1 m1 d1:Nat}{w0:World}(h:Row w B bn 35 A (n+1) c (news++(cQ x A1 n1 c1 B1 m1 d1).toList))(zx:news.length=n*35)(hl:l.length=n)(k0:Kept Nil w0 w)(hF:∀j,a8 A=some j->F' j)(Yv:∀j,F j->F' j)
 (hc:∀i,i<n->∃arr:Array Value,Ki w0 F l i arr/\arr.size=35/\∀(j:Nat) v,arr[j]? =some v->news[i*35+j]? =some v)
 (g1:HS w A1 n1 x.merge) (g2:Bo w B1 m1 x.fh) (g3:∀b,A1=some b->F' b.block) (g4:∀b,B1=some b->F' b.block):qL w F' A (n+1) (l++ [x]):=by
 refine⟨by simp [hl],fun i y hi=>?_⟩;obtain⟨b,rfl⟩:=Row.some h (by omega);obtain⟨_,cur,jy⟩:=Row.bI h (k:=b) rfl;rw [List.getElem?_append]at hi;split at hi
 ·rename_i cU
  obtain⟨arr,⟨y',A2,n2,c2,B2,m2,d2,q1,rfl,q3,q4,q5,q6⟩,q7,q8⟩:=hc i (by omega);rw [hi]at q1;cases q1;exact⟨_,A2,n2,c2,B2,m2,d2,rfl,aQ jy,hF b rfl,fun j v hj=>by
   rw [lW];have:=q8 j v hj;exact Row.cells h _ _ (by rw [List.getElem?_append_left (lgeS this).1];exact this),q3.same k0,q4.same k0,fun b hb=>Yv _ (q5 b hb),fun b hb=>Yv _ (q6 b hb)⟩
 ·rename_i gH
  have Gs:i=n/\y=x:=by
   cases hk:i-l.length with
   |zero=>rw [hk]at hi;exact⟨by omega,by simpa using hi.symm⟩
   |succ k=>rw [hk]at hi;simp at hi
  obtain⟨rfl,rfl⟩:=Gs;exact⟨_,A1,n1,c1,B1,m1,d1,rfl,aQ jy,hF b rfl,fun j v hj=>by
   rw [lW];exact Row.cells h _ _ (by rw [List.getElem?_append_right (by omega),zx,show i*35+j-i*35=j by omega,Array.getElem?_toList];exact hj),g1,g2,g3,g4⟩
theorem qf.snoc{l:List (List HT)}{x:List HT}{A1:Option Addr}{n1 c1:Nat}{w0:World}(h:Row w B ay 1 A (n+1) c (news++(#[.slice A1 n1 c1]:Array Value).toList))(zx:news.length=n*1)(hl:l.length=n)(k0:Kept Nil w0 w)(hF:∀j,a8 A=some j->F' j)(Yv:∀j,F j->F' j)
 (hc:∀i,i<n->∃arr:Array Value,Ri w0 F l i arr/\arr.size=1/\∀(j:Nat) v,arr[j]? =some v->news[i*1+j]? =some v)
 (g1:HS w A1 n1 x) (g3:∀b,A1=some b->F' b.block):qf w F' A (n+1) (l++ [x]):=by
 refine⟨by simp [hl],fun i y hi=>?_⟩;obtain⟨b,rfl⟩:=Row.some h (by omega);obtain⟨_,cur,jy⟩:=Row.bI h (k:=b) rfl;rw [List.getElem?_append]at hi;split at hi
 ·rename_i cU
  obtain⟨arr,⟨y',A2,n2,c2,q1,rfl,q3,q4⟩,q7,q8⟩:=hc i (by omega);rw [hi]at q1;cases q1;have:=q8 0 _ rfl;exact⟨_,A2,n2,c2,rfl,aQ jy,hF b rfl,Row.cells h _ _ (by rw [Nat.add_zero]at this;rw [List.getElem?_append_left (lgeS this).1];exact this),q3.same k0,fun b hb=>Yv _ (q4 b hb)⟩
 ·rename_i gH
  have Gs:i=n/\y=x:=by
   cases hk:i-l.length with
   |zero=>rw [hk]at hi;exact⟨by omega,by simpa using hi.symm⟩
   |succ k=>rw [hk]at hi;simp at hi
  obtain⟨rfl,rfl⟩:=Gs;exact⟨_,A1,n1,c1,rfl,aQ jy,hF b rfl,Row.cells h _ _ (by rw [List.getElem?_append_right (by omega),zx,show i*1-i*1=0 by omega];rfl),g1,g3⟩
end
section
variable{w w':World}{F:Nat->Prop}{r x k:Nat}{G:GS}{K:Value->World->Prop}
theorem yD(root:HT)(k:Nat)(hK:∀v r x F,R3 v F r x k (dm root)->(∀j,F j->w.heap.size<=j)->w.heap.size<=r->w.heap.size<=x->Kept Nil w v->K (.pointer (some ⟨r,0,none⟩)) v):
 bu prog kr.id #[.int .i64 (k:Int),.agg root.1] w K:=by
 refine kr.of ?_;unfold kr.W;intro w1;have k1:Kept Nil w w1:=(Kept.refl _ _).alloc _;have yY:w1.heap[w.heap.size]? =some (.cells root.1 ah (0,0)):=aI w _;clear_value w1;refine⟨root.1,⟨root.2.1,Cells.bI yY⟩,?_⟩;refine yF root fun w2 x FX hX hFX hx k2=>⟨_,rfl,rfl,?_⟩;have js:=k1.tt k2;intro w3 w4 w5;have k3:Kept Nil w2 w3:=(Kept.refl _ _).alloc _;have QH:w3.heap[w2.heap.size]? =some (.cells zC bn (0,0)):=aI w2 _;have k4:Kept Nil w3 w4:=(Kept.refl _ _).alloc _;have hw4:w4.heap[w3.heap.size]? =some (.cells #[.slice none 0 0] ay (0,0)):=aI w3 _;have k5:Kept Nil w4 w5:=(Kept.refl _ _).alloc _;have ht5:w5.heap[w4.heap.size]? =some (.cells #[.int .i64 (k:Int),.pointer (some ⟨x,0,none⟩),.slice (some ⟨w2.heap.size,0,none⟩) 1 1,.slice (some ⟨w3.heap.size,0,none⟩) 1 1] gX (0,0)):=aI w4 _;clear_value w5;have hw5:=k5.heap hw4 (fun h=>h);have hc5:=k5.heap (k4.heap QH (fun h=>h)) (fun h=>h);have zr:=(k3.tt k4).tt k5;have s02:=js.size;have l3:=aQ QH;have l4:=aQ hw4;have l5:=aQ ht5;have s1:=k1.size;have s2:=k2.size;have lx:=hX.lt;clear_value w4 w3;refine hK w5 w4.heap.size x (fun j=>FX j\/j=w2.heap.size\/j=w3.heap.size) ⟨⟨some ⟨w2.heap.size,0,none⟩,1,some ⟨w3.heap.size,0,none⟩,1,ht5,⟨rfl,fun i y hi=>?_⟩,⟨rfl,fun i y hi=>?_⟩⟩,(hX.same zr).mono (fun j e=>.inl e) (fun e=>?_),fun e=>?_,by omega,mG k root,fun j e=>?_⟩ (fun j e=>?_) (by omega) (by omega) (js.tt zr)
 ·cases i with
  |zero=>
   have:y=⟨dX,0,[],[]⟩:=by simpa [dm]using hi.symm
   subst this;refine⟨_,none,0,0,none,0,0,rfl,by show w2.heap.size<_;omega,.inr (.inl rfl),fun j u hj=>?_,HS.nil _ _,⟨rfl,fun i b h=>by simp at h⟩,fun b hb=>(by cases hb),fun b hb=>(by cases hb)⟩;rw [Nat.zero_mul,add_zero,br,Nat.zero_add,aD hc5];exact hj
  |succ i=>simp [dm]at hi
 ·cases i with
  |zero=>
   have:y= []:=by simpa [dm]using hi.symm
   subst this;refine⟨_,none,0,0,rfl,by show w3.heap.size<_;omega,.inr (.inr rfl),?_,HS.nil _ _,fun b hb=>(by cases hb)⟩;rw [Nat.zero_mul,add_zero,aD hw5];rfl
  |succ i=>simp [dm]at hi
 ·rcases e with e|e|e
  ·exact hX.iC e
  ·omega
  ·omega
 ·rcases e with e|e|e
  ·have:=(hFX _ e).2;omega
  ·omega
  ·omega
 ·rcases e with e|e|e
  ·have:=(hFX _ e).2;omega
  ·omega
  ·omega
 ·rcases e with e|e|e
  ·have:=(hFX _ e).1;omega
  ·omega
  ·omega
end
section
variable{w w':World}{F:Nat->Prop}{r x k:Nat}{G:GS}{K:Value->World->Prop}{A:Option Addr}{n cx:Nat}{l:List HT}
set_option maxHeartbeats 2000000 in
theorem yE(h:R3 w F r x k G)(hD:G.D.length<=300)(qw:k<=1000)(hl:HS w A n l)(hn:n<=5000)(id:HT)
 (hE:dF G.D id l≠0->∀w',Kept Nil w w'->K (.tuple #[.agg Mn,.int .i64 (dF G.D id l)]) w')
 (hO:dF G.D id l=0->∀w' A n c B e ce,R3 w' (fun j=>F j\/(w.heap.size<=j/\j<w'.heap.size)) r x k (dz k G id l)->Kept (fun j=>j=r\/j=x) w w'->HS w' A n (cR k G (cC G l) l).merge->Bo w' B e (cR k G (cC G l) l).fh->(∀a,A=some a\/B=some a->w.heap.size<=a.block)->K (.tuple #[.agg (cQ (cR k G (cC G l) l) A n c B e ce),.int .i64 0]) w'):
 bu prog dH.id #[.pointer (some ⟨r,0,none⟩),.agg id.1,.slice A n cx] w K:=by
 have W0:=h.fg.W;have LN:=h.lt;have Nw:=h.lx;refine dH.of ?_;unfold dH.W;intro w1 w2;have k1:Kept Nil w w1:=(Kept.refl _ _).alloc _;have LS:w1.heap[w.heap.size]? =some (.cells id.1 ah (0,0)):=aI w _;have k2:Kept Nil w1 w2:=(Kept.refl _ _).alloc _;have jF:w2.heap[w1.heap.size]? =some (.cells zC bn (0,0)):=aI w1 _;clear_value w2;have C6:=k2.heap LS (fun h=>h);have js:=k1.tt k2;have s1:=k1.size;have l1:=aQ LS;have l2:=aQ jF;clear_value w1;have h2:=h.same js;obtain⟨A0,c0,B0,e0,sl,g1,g2,g3,g4,g5⟩:=h2.X.ex;refine Is.mk rfl ⟨_,h2.c1,Is.mk rfl ⟨#[.slice A0 G.D.length c0],⟨rfl,fun j u hj=>?_⟩,?_⟩⟩
 ·cases j with
  |zero=>simp at hj;subst hj;rw [add_zero,add_zero,aD g1];rfl
  |succ j=>simp at hj
 intro w3;have k3:Kept Nil w2 w3:=(Kept.refl _ _).alloc _;have Vz:w3.heap[w2.heap.size]? =some (.cells #[.slice none 0 0] iF (0,0)):=aI w2 _;clear_value w3;obtain⟨t1,t2,t3⟩:=dG Vz (cs:= #[.slice A0 G.D.length c0]) rfl;refine⟨⟨rfl,fun u hu=>by simp at hu;subst hu;rfl,fun j hj=>t1 j hj⟩,?_⟩;intro w4
 replace t2:w4.heap[w2.heap.size]? =some (.cells #[.slice A0 G.D.length c0] iF (0,0)):=t2
 replace t3:Kept (· =w2.heap.size) w3 w4:=t3
 clear_value w4;have pT:Kept Nil w2 w4:=k3.trans t3 (fun j hj e=>by omega);have mW:=js.tt pT;have s2:=js.size;refine⟨id.1,⟨id.2.1,Cells.bI (pT.heap C6 (fun h=>h))⟩,?_⟩;have hIR:uJ w4 F w2.heap.size G.D:=⟨⟨A0,c0,_,_,t2,rfl,g2.same pT⟩,fun e=>by have:=h.lo _ e;omega⟩;refine D8 hIR W0 (by omega) (hl.same mW) (by omega) fun w5 _ k5=>⟨_,rfl,?_⟩;have zr:Kept Nil w2 w5:=pT.trans k5 (fun j hj e=>by omega);have nQ:=js.tt zr;have sA:=zr.heap jF (fun h=>h);have LR:=zr.heap C6 (fun h=>h);by_cases hc:dF G.D id l≠0
 ·obtain⟨f1,f2,f3⟩:=dG sA (cs:=zC) rfl
  refine Split.yes (by simpa using hc) ⟨⟨rfl,by show ∀u∈(Mn:Array Value).toList,_;exact dJ _ _ _ _ _ _ _,fun j hj=>f1 j hj⟩,?_⟩;exact⟨_,⟨rfl,Cells.bI f2⟩,hE hc _ (nQ.trans f3 (fun j hj e=>by omega))⟩
 have hc:dF G.D id l=0:=by omega
 refine Split.no (by rw [hc];rfl) ?_;obtain⟨_,fL,_,di⟩:=lJ hc;have fJ:∀z∈l,z∈ids G.D:=fun z hz=>di z (dM.2 hz);refine uw (h.same nQ) (by omega) (hl.same nQ) fL (by omega) fJ fun w6 k6=>⟨_,rfl,?_⟩;have AT:=zr.tt k6;have qS:=js.tt AT;generalize nt:cC G l=s;have CQ:s∈l:=by rw [<-nt];exact lM fL
 intro w7;have k7:Kept Nil w6 w7:=(Kept.refl _ _).alloc _;have hb7:w7.heap[w6.heap.size]? =some (.cells dX.1 ah (0,0)):=aI w6 _;clear_value w7;obtain⟨q1,q2,q3⟩:=jU s hb7 rfl;refine⟨q1,?_⟩;intro w8
 replace q2:w8.heap[w6.heap.size]? =some (.cells s.1 ah (0,0)):=q2
 replace q3:Kept (· =w6.heap.size) w7 w8:=q3
 clear_value w8;have XL:Kept Nil w6 w8:=k7.trans q3 (fun j hj e=>by omega);have Ix:=AT.tt XL;have uQ:=js.tt Ix;have s06:=qS.size;have s08:=uQ.size;have s28:=Ix.size;refine⟨s.1,⟨s.2.1,Cells.bI q2⟩,?_⟩;refine qO (h.same uQ) hD qw (fJ s CQ) (hl.same uQ) hn fJ fun w9 Am nm cm E e ce Wd nw cw rm rb rw9 k9=>⟨_,Wd,nw,cw,rfl,?_⟩;have G8:=Ix.tt k9;have zt:=js.tt G8;have s09:=zt.size;have s89:=k9.size;intro w10;have lh:Kept Nil w9 w10:=(Kept.refl _ _).alloc _;have acp:w10.heap[w9.heap.size]? =some (.cells zC bn (0,0)):=aI w9 _;clear_value w10;obtain⟨f1,f2,f3⟩:=dG acp (cs:=cQ (cR k G s l) Am nm cm E e ce) (by rw [aZ];rfl);refine⟨⟨aZ ..,dJ _ _ _ _ _ _ _,fun j hj=>f1 j (by rw [aZ];exact hj)⟩,?_⟩;intro nM lL
 replace f2:nM.heap[w9.heap.size]? =some (.cells (cQ (cR k G s l) Am nm cm E e ce) bn (0,0)):=f2
 replace f3:Kept (· =w9.heap.size) w10 nM:=f3
 have wI:Kept Nil nM lL:=(Kept.refl _ _).drew;clear_value lL;have VX:=wI.heap f2 (fun h=>h);have Ga:Kept Nil w9 lL:=(lh.trans f3 (fun j hj e=>by omega)).tt wI;clear_value nM;have Ph:=G8.tt Ga;have tn:=js.tt Ph;have ahl:=tn.size;have ahL:=aQ VX;have Bn:=h.same tn;refine Is.mk rfl ⟨_,Bn.c1,id.1,⟨id.2.1,Cells.bI (Ph.heap C6 (fun h=>h))⟩,s.1,⟨s.2.1,Cells.bI ((k9.tt Ga).heap q2 (fun h=>h))⟩,?_⟩;refine FG Bn.X Bn.lo (by omega) (hl.same tn) (by omega) fun mz Wx ru=>⟨_,rfl,?_⟩;have eX:nX G.D id s l=(dz k G id l).D/\nW G.D G.P id s l=(dz k G id l).P:=by rw [<-nt];exact⟨Kb.symm,Kc.symm⟩
 rw [eX.1,eX.2]at Wx;intro iP;have G9:Kept Nil mz iP:=(Kept.refl _ _).drew;clear_value iP;have AU:Kept (· =x) lL iP:=ru.trans G9 (fun _ _ h=>h.elim);have Es:Kept (· =x) w iP:=(tn.mono fun _ _ h=>h.elim).tt AU;have aen:=AU.size;have A9:=mQ (k:=k) (G:=G) (h:=id) (ps:=l) hc;rw [nt]at A9;obtain⟨A1,c1,B1,e1,p1,p2,p3⟩:=h.top;have OT:=Es.heap p1 h.ne;have OS:qL iP F A1 G.D.length G.qK:=p2.aF Es (fun j hj e=>h.X.iC (by rw [<-e];exact hj));have Zw:qf iP F B1 G.D.length G.kN:=p3.aF Es (fun j hj e=>h.X.iC (by rw [<-e];exact hj));have jK:=W0.pos;obtain⟨⟨a1,yZ⟩,Ni⟩:=(⟨OS.zW.1 jK,OS.zW.2⟩:(∃a,A1=some a)/\_);subst yZ;have QI:=AU.heap VX (by omega);have aaW:=AU.heap (Ph.heap jF (fun h=>h)) (by omega);have bm:∀j,a8 Am=some j->w8.heap.size<=j/\j<w9.heap.size:=fun j hj=>by obtain⟨z1,cur,z2⟩:=Row.bI rm hj;exact⟨z1,aQ z2⟩
 have bb:∀j,a8 E=some j->w8.heap.size<=j/\j<w9.heap.size:=fun j hj=>by obtain⟨z1,cur,z2⟩:=Row.bI rb hj;exact⟨z1,aQ z2⟩
 have bw:∀j,a8 Wd=some j->w8.heap.size<=j/\j<w9.heap.size:=fun j hj=>by obtain⟨z1,cur,z2⟩:=Row.bI rw9 hj;exact⟨z1,aQ z2⟩
 have Lf:Kept (· =x) w9 iP:=(Ga.mono fun _ _ h=>h.elim).tt AU;have ag1:=Lf.size;have S7:HS iP Am nm (cR k G s l).merge:=(bK.hs rm).aF Lf (fun a ha e=>by have:=bm a.block (by rw [ha];rfl);omega);have Xd:Bo iP E e (cR k G s l).fh:=(Row.bo rb).aF Lf (fun a ha e=>by have:=bb a.block (by rw [ha];rfl);omega);have Y6:HS iP Wd nw (fK k G s l).wd:=(bK.hs rw9).aF Lf (fun a ha e=>by have:=bw a.block (by rw [ha];rfl);omega);have bF:∀ {A:Option Addr} {b:Addr},(∀j,a8 A=some j->w8.heap.size<=j/\j<w9.heap.size)->A=some b->w.heap.size<=b.block/\b.block<iP.heap.size:=fun hA hb=>by
  have:=hA _ (by rw [hb];rfl);omega
 rw [nt]at hO;have tail:∀ {u:World} {Aa:Option Addr} {ca:Nat} {news:List Value},Row u iP.heap.size bn 35 Aa (G.D.length+1) ca (news++(cQ (cR k G s l) Am nm cm E e ce).toList)->news.length=G.D.length*35->(∀i,i<G.D.length->∃arr:Array Value,Ki iP F G.qK i arr/\arr.size=35/\∀(j:Nat) v,arr[j]? =some v->news[i*35+j]? =some v)->Kept Nil iP u->
  Wr u ((⟨r,0,none⟩:Addr).add 2)/\let a3:=u.setCell ((⟨r,0,none⟩:Addr).add 2) (.slice Aa (G.D.length+1) ca);Is (some (⟨r,0,none⟩:Addr)) fun b3:Addr=>∃c3:Option Addr,∃d3 e3:Nat,a3.cell? (b3.add 3)=some (.slice c3 d3 e3)/\∃(f3:Option Addr) (g3 i3:Nat) (j3:World),(Builtin.append_ #[fQ,fQ] fQ #[.slice none 0 0,.slice c3 d3 e3]).run prog a3=.ok (.slice f3 g3 i3) j3/\let k3:=j3.alloc (.cells #[.slice Wd nw cw] ay);∃(m3:Option Addr) (n3 o3:Nat) (p3:World),(Builtin.append_ #[fQ,fQ] fQ #[.slice f3 g3 i3,.slice (some (⟨j3.heap.size,0,none⟩:Addr)) 1 1]).run prog k3=.ok (.slice m3 n3 o3) p3/\Is (some (⟨r,0,none⟩:Addr)) fun q3:Addr=>Wr p3 (q3.add 3)/\let r3:=p3.setCell (q3.add 3) (.slice m3 n3 o3);∃t3:Array Value,(t3.size=35/\Cells r3 (⟨w9.heap.size,0,none⟩:Addr) t3)/\(t3.size=35/\(∀u3∈t3.toList,u3.oneCell'=true)/\∀v3,v3<35->Wr r3 ((⟨w1.heap.size,0,none⟩:Addr).add v3))/\let x3:=setCells r3 (⟨w1.heap.size,0,none⟩:Addr) t3.toList 0;∃y3:Array Value,(y3.size=35/\Cells x3 (⟨w1.heap.size,0,none⟩:Addr) y3)/\K (.tuple #[.agg y3,.int .i64 0]) x3:=by
  intro u Aa ca news row zx vZ ku;have pu:=ku.heap OT (fun h=>h);have su:=ku.size;refine⟨by rw [br];exact dY pu (by simp),?_⟩;intro u1;have pu1:u1.heap[r]? =some (.cells #[.int .i64 (k:Int),.pointer (some ⟨x,0,none⟩),.slice Aa (G.D.length+1) ca,.slice B1 G.D.length e1] gX (0,0)):=by
   show(u.setCell ((⟨r,0,none⟩:Addr).add 2) (.slice Aa (G.D.length+1) ca)).heap[r]? =_;rw [br,dh pu];rfl
  have F9:Kept (· =r) u u1:=by
   show Kept (· =r) u (u.setCell ((⟨r,0,none⟩:Addr).add 2) (.slice Aa (G.D.length+1) ca))
   rw [br];exact Kept.setCell (S:=(· =r)) (Kept.refl _ u) (p:=⟨r,0+2,none⟩) (fun _=>rfl) _
  clear_value u1;have IF:Kept (· =r) iP u1:=(ku.mono fun _ _ h=>h.elim).tt F9;have pw1:qf u1 F B1 G.D.length G.kN:=Zw.aF IF (fun j hj e=>h.iC (by rw [<-e];exact hj));obtain⟨⟨b1,yY⟩,Ue⟩:=(⟨pw1.zW.1 jK,pw1.zW.2⟩:(∃a,B1=some a)/\_);subst yY;obtain⟨Aw,c2,u2,nws,Ly,fD,yM,hcw⟩:=zk (w:=u1) Su (by omega) (by omega) (cx:=e1) (Ri u1 F G.kN) (Ue b1 rfl);refine Is.mk rfl ⟨some b1,G.D.length,e1,by rw [br,aD pu1];rfl,Aw,_,c2,u2,Ly,?_⟩;intro u3;have AS:Kept Nil u2 u3:=(Kept.refl _ _).alloc _;have BZ:u3.heap[u2.heap.size]? =some (.cells #[.slice Wd nw cw] ay (0,0)):=aI u2 _;clear_value u3;have su1:=F9.size;have su2:=yM.size;have Zf:=AS.size;obtain⟨Xw,c3,u4,wJ,iG,EF⟩:=zi Su (by omega) (by omega) (Row.aF fD AS (fun _ _ h=>h)) (by omega) BZ rfl (fun v hv=>by simp at hv;subst hv;rfl);have Lo:Kept Nil u1 u4:=Kept.dA (yM.tt AS) EF (fun j hj=>(Row.bI fD hj).1);have pu4:=Lo.heap pu1 (fun h=>h);refine⟨Xw,_,c3,u4,wJ,Is.mk rfl ⟨by rw [br];exact dY pu4 (by simp),?_⟩⟩;intro u5;have pu5:u5.heap[r]? =some (.cells #[.int .i64 (k:Int),.pointer (some ⟨x,0,none⟩),.slice Aa (G.D.length+1) ca,.slice Xw (G.D.length+1) c3] gX (0,0)):=by
   show(u4.setCell ((⟨r,0,none⟩:Addr).add 3) (.slice Xw (G.D.length+1) c3)).heap[r]? =_;rw [br,dh pu4];rfl
  have F8:Kept (· =r) u4 u5:=by
   show Kept (· =r) u4 (u4.setCell ((⟨r,0,none⟩:Addr).add 3) (.slice Xw (G.D.length+1) c3))
   rw [br];exact Kept.setCell (S:=(· =r)) (Kept.refl _ u4) (p:=⟨r,0+3,none⟩) (fun _=>rfl) _
  clear_value u5;have Tw:Kept (· =r) u1 u5:=(Lo.mono fun _ _ h=>h.elim).tt F8;have MX:Kept (· =r) iP u5:=IF.tt Tw;have hc5:=MX.heap QI (by omega);have sA:=MX.heap aaW (by omega);obtain⟨z1,z2,z3⟩:=dG sA (cs:=cQ (cR k G s l) Am nm cm E e ce) (by rw [aZ];rfl);refine⟨_,⟨aZ ..,Cells.bI hc5⟩,⟨aZ ..,dJ _ _ _ _ _ _ _,fun j hj=>z1 j (by rw [aZ];exact hj)⟩,?_⟩;intro u6
  replace z2:u6.heap[w1.heap.size]? =some (.cells (cQ (cR k G s l) Am nm cm E e ce) bn (0,0)):=z2
  replace z3:Kept (· =w1.heap.size) u5 u6:=z3
  clear_value u6;refine⟨_,⟨aZ ..,Cells.bI z2⟩,?_⟩;have kwr:∀j,j=r\/j=w1.heap.size->¬iP.heap.size<=j:=fun j hj e=>by rcases hj with hj|hj<;>omega
  have XG:Kept (fun j=>j=r\/j=w1.heap.size) u u6:=((F9.mono fun _ _ h=>.inl h).trans Tw (fun _ _ h=>.inl h)).trans z3 (fun _ _ h=>.inr h);have Ep:Kept (fun j=>j=r\/j=w1.heap.size) iP u6:=(ku.mono fun _ _ h=>h.elim).tt XG;have su6:=Ep.size;have s46:u4.heap.size<=u6.heap.size:=by have:=F8.size;have:=z3.size;omega
  have s26:u.heap.size<=u6.heap.size:=XG.size;have K6:∀j,F j->j<w.heap.size:=h.lo
  let F2:Nat->Prop:=fun j=>F j\/(w8.heap.size<=j/\j<w9.heap.size)\/(iP.heap.size<=j/\j<u6.heap.size)
  have Q0:∀j,F2 j->¬(j=r\/j=w1.heap.size):=fun j hj e=>by
   rcases hj with hj|hj|hj
   ·have:=K6 j hj
    rcases e with e|e
    ·exact h.iC (by rw [<-e];exact hj)
    ·omega
   ·omega
   ·omega
  have WM:∀j,F2 j->F j\/(w.heap.size<=j/\j<u6.heap.size):=fun j hj=>by
   rcases hj with hj|hj|hj
   ·exact .inl hj
   ·exact .inr ⟨by omega,by omega⟩
   ·exact .inr ⟨by omega,hj.2⟩
  refine hO hc u6 Am nm cm E e ce ⟨⟨Aa,ca,Xw,c3,?_,?_,?_⟩,?_,fun hj=>?_,h.ne,h.fg.add id l,fun j hj=>?_⟩ ?_ (S7.aF Ep (fun a ha e=>by have:=bm a.block (by rw [ha];rfl);rcases e with e|e<;>omega)) (Xd.aF Ep (fun a ha e=>by have:=bb a.block (by rw [ha];rfl);rcases e with e|e<;>omega)) (fun a ha=>ha.elim (fun ha=>(bF bm ha).1) (fun ha=>(bF bb ha).1))
  ·rw [A9]
   simp only [List.length_append,List.length_singleton];exact z3.heap pu5 (by omega)
  ·rw [A9]
   simp only [List.length_append,List.length_singleton];refine qL.mono (F:=F2) (qL.aF (S:=fun j=>j=r\/j=w1.heap.size) (w:=u) (qL.snoc row zx p2.len ku (fun j hj=>?_) (fun j hj=>.inl hj) vZ (S7.same ku) (Xd.same ku) (fun b hb=>.inr (.inl ?_)) (fun b hb=>.inr (.inl ?_))) XG Q0) WM
   ·obtain⟨y1,cur,y2⟩:=Row.bI row hj
    have:=aQ y2;exact .inr (.inr ⟨y1,by omega⟩)
   ·exact bm b.block (by rw [hb];rfl)
   ·exact bb b.block (by rw [hb];rfl)
  ·rw [A9]
   simp only [List.length_append,List.length_singleton];have Ej:Kept (fun j=>j=r\/j=w1.heap.size) u4 u6:=(F8.mono fun _ _ h=>.inl h).trans z3 (fun _ _ h=>.inr h);refine qf.mono (F:=F2) (qf.aF (S:=fun j=>j=r\/j=w1.heap.size) (w:=u4) (qf.snoc iG (Row.len fD) p3.len Lo (fun j hj=>?_) (fun j hj=>.inl hj) hcw (Y6.aF (IF.trans Lo (fun _ _ h=>h.elim)) (fun a ha e=>by have:=bw a.block (by rw [ha];rfl);omega)) (fun b hb=>.inr (.inl ?_))) Ej Q0) WM
   ·obtain⟨y1,cur,y2⟩:=Row.bI iG hj
    have:=aQ y2;exact .inr (.inr ⟨by omega,by omega⟩)
   ·exact bw b.block (by rw [hb];rfl)
  ·refine((Wx.aF (G9.tt ku) (fun h=>h) (fun _ _ h=>h)).aF XG (fun e=>?_) (fun j hj e=>?_)).mono (fun j hj=>?_) (fun e=>?_)
   ·rcases e with e|e
    ·exact h.ne e.symm
    ·omega
   ·rcases hj with hj|hj
    ·have:=K6 j hj
     rcases e with e|e
     ·exact h.iC (by rw [<-e];exact hj)
     ·omega
    ·omega
   ·rcases hj with hj|hj
    ·exact .inl hj
    ·have:=ru.size
     have:=G9.size;exact .inr ⟨by omega,by omega⟩
   ·rcases e with e|e
    ·exact h.X.iC e
    ·omega
  ·rcases hj with hj|hj
   ·exact h.iC hj
   ·omega
  ·rcases hj with hj|hj
   ·have:=K6 j hj
    omega
   ·exact hj.2
  ·exact(Es.mono fun _ _ h=>.inr h).trans Ep (fun j hj e=>by
    rcases e with e|e
    ·exact .inl e
    ·omega)
 have Hd:(cQ (cR k G s l) Am nm cm E e ce).toList++ []=(cQ (cR k G s l) Am nm cm E e ce).toList:=List.append_nil _;refine Is.mk rfl ⟨some a1,G.D.length,c1,by rw [br,aD OT];rfl,_,⟨aZ ..,Cells.bI QI⟩,?_,?_⟩
 ·obtain⟨Aa,c2,u2,news,RK,fD,yM,vZ⟩:=zk (w:=iP) DY (by omega) (by omega) (cx:=c1) (Ki iP F G.qK) (Ni a1 rfl)
  refine⟨Aa,_,c2,u2,RK,⟨_,rfl,aZ ..,Cells.bI (yM.heap QI (fun h=>h))⟩,aZ ..,?_⟩;intro u3;have AS:Kept Nil u2 u3:=(Kept.refl _ _).alloc _;have BZ:u3.heap[u2.heap.size]? =some (.cells (cQ (cR k G s l) Am nm cm E e ce) bn (0,0)):=by
   have:=aI u2 (.cells (cQ (cR k G s l) Am nm cm E e ce) bn);show(u2.alloc (.cells ((cQ (cR k G s l) Am nm cm E e ce).toList++ []).toArray bn)).heap[u2.heap.size]? =_;rw [Hd,Array.toArray_toList];exact this
  clear_value u3;have su2:=yM.size;have Zf:=AS.size;obtain⟨Ab,c3,u4,wJ,iG,EF⟩:=zi DY (by omega) (by omega) (Row.aF fD AS (fun _ _ h=>h)) (by omega) BZ (aZ ..) (dJ _ _ _ _ _ _ _);have ku:Kept Nil iP u4:=Kept.dA (yM.tt AS) EF (fun j hj=>(Row.bI fD hj).1);refine⟨Ab,_,c3,u4,wJ,Is.mk rfl ?_⟩;exact tail iG (Row.len fD) vZ ku
 ·refine⟨aZ ..,?_⟩
  intro u3;have AS:Kept Nil iP u3:=(Kept.refl _ _).alloc _;have BZ:u3.heap[iP.heap.size]? =some (.cells (cQ (cR k G s l) Am nm cm E e ce) bn (0,0)):=by
   have:=aI iP (.cells (cQ (cR k G s l) Am nm cm E e ce) bn);show(iP.alloc (.cells ((cQ (cR k G s l) Am nm cm E e ce).toList++ []).toArray bn)).heap[iP.heap.size]? =_;rw [Hd,Array.toArray_toList];exact this
  clear_value u3;have Zf:=AS.size;refine⟨by rw [br,aD (AS.heap OT (fun h=>h))];rfl,?_⟩;have p23:=OS.aF AS (fun _ _ h=>h);obtain⟨Aa,c2,u2,news,RK,fD,yM,vZ⟩:=zk (w:=u3) (n:=G.D.length) (a:=a1) DY (by omega) (by omega) (cx:=c1) (Ki iP F G.qK) (fun i hi=>by
   obtain⟨arr,y1,y2,y3,y4⟩:=Ni a1 rfl i hi;exact⟨arr,y1,y2,Cells.aF y3 AS (fun h=>h),y4⟩)
  have su2:=yM.size;have M8:=yM.heap BZ (fun h=>h);obtain⟨Ab,c3,u4,wJ,iG,EF⟩:=zi DY (by omega) (by omega) (Row.base fD (B':=iP.heap.size) (fun j hj=>by have:=(Row.bI fD hj).1;omega)) (by omega) M8 (aZ ..) (dJ _ _ _ _ _ _ _);have ku:Kept Nil iP u4:=Kept.dA (AS.tt yM) EF (fun j hj=>by have:=(Row.bI fD hj).1;omega);refine⟨Aa,_,c2,u2,RK,Ab,_,c3,u4,wJ,Is.mk rfl ?_⟩;exact tail iG (Row.len fD) vZ ku
end
end Go.Proofs.YtfleamccglihoaaGreatDoor
