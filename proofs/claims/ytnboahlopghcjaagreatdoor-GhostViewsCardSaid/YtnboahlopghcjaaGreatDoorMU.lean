import Derived.Test.YtnboahlopghcjaaGreatDoorMT
import Derived.Test.YtnboahlopghcjaaGreatDoorMN
set_option linter.unusedVariables false
namespace Go.Proofs.YtnboahlopghcjaaGreatDoor
open Go.Proofs.Tryz
open Go Go.bS Go.RowKit
structure pT(w:World)(F:Nat->Prop)(A:Option Addr)(n:Nat)(l:List nN):Prop where
 len:l.length=n
 at_: ∀(i:Nat) x,l[i]? =some x-> ∃a A1 n1 c1 B1 m1 d1,A=some a/\a.block<w.heap.size/\F a.block/\Cells w (a.add (i*35)) (cC x A1 n1 c1 B1 m1 d1)/\HS w A1 n1 x.merge/\Bo w B1 m1 x.dM/\(∀b,A1=some b->F b.block)/\(∀b,B1=some b->F b.block)
structure oJ(w:World)(F:Nat->Prop)(A:Option Addr)(n:Nat)(l:List (List HT)):Prop where
 len:l.length=n
 at_: ∀(i:Nat) x,l[i]? =some x-> ∃a A1 n1 c1,A=some a/\a.block<w.heap.size/\F a.block/\w.cell? (a.add (i*1))=some (.slice A1 n1 c1)/\HS w A1 n1 x/\(∀b,A1=some b->F b.block)
section
variable{w w':World}{F F' S:Nat->Prop}{A:Option Addr}{n:Nat}
theorem pT.aD{l:List nN}(h:pT w F A n l)(hk:Kept S w w')(hn: ∀j,F j-> ¬S j):pT w' F A n l:=⟨h.len,fun i x hi=>by
 obtain⟨a,A1,n1,c1,B1,m1,d1,g1,g2,g3,g4,g5,g6,g7,g8⟩:=h.at_ i x hi;exact⟨a,A1,n1,c1,B1,m1,d1,g1,Nat.lt_of_lt_of_le g2 hk.size,g3,Cells.aD g4 hk (by rw [ee];exact hn _ g3),g5.aD hk (fun b hb=>hn _ (g7 b hb)),g6.aD hk (fun b hb=>hn _ (g8 b hb)),g7,g8⟩⟩
theorem pT.mono{l:List nN}(h:pT w F A n l)(hf: ∀j,F j->F' j):pT w F' A n l:=⟨h.len,fun i x hi=>by
 obtain⟨a,A1,n1,c1,B1,m1,d1,g1,g2,g3,g4,g5,g6,g7,g8⟩:=h.at_ i x hi;exact⟨a,A1,n1,c1,B1,m1,d1,g1,g2,hf _ g3,g4,g5,g6,fun b hb=>hf _ (g7 b hb),fun b hb=>hf _ (g8 b hb)⟩⟩
theorem oJ.aD{l:List (List HT)}(h:oJ w F A n l)(hk:Kept S w w')(hn: ∀j,F j-> ¬S j):oJ w' F A n l:=⟨h.len,fun i x hi=>by
 obtain⟨a,A1,n1,c1,g1,g2,g3,g4,g5,g6⟩:=h.at_ i x hi;exact⟨a,A1,n1,c1,g1,Nat.lt_of_lt_of_le g2 hk.size,g3,hk.cell g4 (by rw [ee];exact hn _ g3),g5.aD hk (fun b hb=>hn _ (g6 b hb)),g6⟩⟩
theorem oJ.mono{l:List (List HT)}(h:oJ w F A n l)(hf: ∀j,F j->F' j):oJ w F' A n l:=⟨h.len,fun i x hi=>by
 obtain⟨a,A1,n1,c1,g1,g2,g3,g4,g5,g6⟩:=h.at_ i x hi;exact⟨a,A1,n1,c1,g1,g2,hf _ g3,g4,g5,fun b hb=>hf _ (g6 b hb)⟩⟩
end
structure R3(w:World)(F:Nat->Prop)(r x k:Nat)(G:GS):Prop where
 top: ∃A c B e,w.heap[r]? =some (.cells #[.int .i64 (k:Int),.pointer (some ⟨x,0,none⟩),.slice A G.D.length c,.slice B G.D.length e] fW (0,0))/\pT w F A G.D.length G.qD/\oJ w F B G.D.length G.jt
 X:oK w F x G.D G.P
 gD: ¬F r
 ne:r≠x
 fO:jE k G
 lo: ∀j,F j->j<w.heap.size
section
variable{w w':World}{F F' S:Nat->Prop}{r x k:Nat}{G:GS}{K:Value->World->Prop}
theorem R3.aD(h:R3 w F r x k G)(hk:Kept S w w')(hr: ¬S r)(hx: ¬S x)(hF: ∀j,F j-> ¬S j):R3 w' F r x k G:=by
 obtain⟨A,c,B,e,g1,g2,g3⟩:=h.top;exact⟨⟨A,c,B,e,hk.heap g1 hr,g2.aD hk hF,g3.aD hk hF⟩,h.X.aD hk hx hF,h.gD,h.ne,h.fO,fun j e=>Nat.lt_of_lt_of_le (h.lo j e) hk.size⟩
theorem R3.same(h:R3 w F r x k G)(hk:Kept Nil w w'):R3 w' F r x k G:=h.aD hk (fun h=>h) (fun h=>h) (fun _ _ h=>h)
theorem R3.lt(h:R3 w F r x k G):r<w.heap.size:=by obtain⟨_,_,_,_,g,_⟩:=h.top;exact aT g
theorem R3.lx(h:R3 w F r x k G):x<w.heap.size:=h.X.lt
theorem R3.c0(h:R3 w F r x k G):w.cell? ((⟨r,0,none⟩:Addr).add 0)=some (.int .i64 (k:Int)):=by obtain⟨_,_,_,_,g,_⟩:=h.top;rw [a8,ax g];rfl
theorem R3.c1(h:R3 w F r x k G):w.cell? ((⟨r,0,none⟩:Addr).add 1)=some (.pointer (some ⟨x,0,none⟩)):=by obtain⟨_,_,_,_,g,_⟩:=h.top;rw [a8,ax g];rfl
theorem Lw(h:jE k G){y:HT}(hy:y∈ids G.D): ∃(i:Nat) (nd:DN) (c:nN) (l:List HT),G.D[i]? =some nd/\nd.id=y/\G.qD[i]? =some c/\G.jt[i]? =some l/\EM G.D y=(i:Int)/\G.iw y=c/\G.world y=l/\i<G.D.length:=by
 obtain⟨nd,fy,rfl⟩:=dI.1 hy;obtain⟨i,hi⟩:=List.mem_iff_getElem?.1 fy;have dN:=(List.getElem?_eq_some_iff.1 hi).1;obtain⟨c,hc⟩: ∃c,G.qD[i]? =some c:=⟨_,List.getElem?_eq_getElem (by rw [h.lc];exact dN)⟩;obtain⟨l,hl⟩: ∃l,G.jt[i]? =some l:=⟨_,List.getElem?_eq_getElem (by rw [h.lw];exact dN)⟩;exact⟨i,nd,c,l,hi,rfl,hc,hl,OC h.W hi,GS.Ox h.W hi hc,GS.ET h.W hi hl,dN⟩
theorem jz(h:R3 w F r x k G)(hD:G.D.length<=5000){a:HT}(ha:a∈ids G.D)(hK: ∀w',Kept Nil w w'->K (.int .u64 (G.score a:Int)) w'):
 bk prog dh.id #[.pointer (some ⟨r,0,none⟩),.agg a.1] w K:=by
 refine dh.of ?_;unfold dh.W;intro w4 w5;have k4:Kept Nil w w4:=(Kept.refl _ _).alloc _;have vn:w4.heap[w.heap.size]? =some (.cells a.1 ai (0,0)):=aH w _;have k5:Kept Nil w4 w5:=(Kept.refl _ _).drew;clear_value w5;have EI:=k5.heap vn (fun h=>h);have mI:=k4.trans k5 (fun _ _ h=>h);have h5:=h.same mI;obtain⟨A,c,B,e,g1,g2,g3⟩:=h5.top;refine Is.mk rfl ⟨A,_,c,by rw [a8,ax g1];rfl,Is.mk rfl ⟨_,h5.c1,Is.mk rfl ⟨a.1,⟨a.2.1,Cells.bA EI⟩,?_⟩⟩⟩;rw [add_zero];refine nY h5.X.gr (by omega) a fun w6 k6=>⟨_,rfl,?_⟩;have g16:=k6.heap g1 (fun h=>h);obtain⟨i,nd,cl,l,q1,q2,q3,q4,q5,q6,q7,q8⟩:=Lw h.fO ha;rw [q5];obtain⟨aa,A1,n1,c1,B1,m1,d1,p1,p2,p3,p4,_⟩:=(g2.aD k6 (fun _ _ h=>h)).at_ i cl q3;subst p1;refine⟨by rw [a8,ax g16];rfl,⟨by omega,by omega⟩,Is.mk rfl ⟨((G.score a:Nat):Int),?_,?_⟩⟩
 ·have:=eV cl A1 n1 c1 B1 m1 d1 #[]
  rw [Array.append_empty]at this;have T7:=p4 32 _ this.1;rw [Int.toNat_natCast,T7];unfold GS.score;rw [q6]
 ·exact hK w6 (mI.trans k6 (fun _ _ h=>h))
theorem xO(h:jE k G){a:HT}(ha:a∈ids G.D):G.score a<=G.D.length:=by
 rw [(h.wd a ha).2.2];exact qQ h ha
theorem lO(h:R3 w F r x k G)(hD:G.D.length<=5000){a b:HT}(ha:a∈ids G.D)(hb:b∈ids G.D)(hK: ∀w',Kept Nil w w'->K (.bool (gl G a b)) w'):
 bk prog dB.id #[.pointer (some ⟨r,0,none⟩),.agg a.1,.agg b.1] w K:=by
 refine dB.of ?_;unfold dB.W;intro w4 w5 w6;have k4:Kept Nil w w4:=(Kept.refl _ _).alloc _;have vn:w4.heap[w.heap.size]? =some (.cells a.1 ai (0,0)):=aH w _;have k5:Kept Nil w4 w5:=(Kept.refl _ _).alloc _;have lU:w5.heap[w4.heap.size]? =some (.cells b.1 ai (0,0)):=aH w4 _;have k6:Kept Nil w5 w6:=(Kept.refl _ _).drew;clear_value w6;have vm:=k6.heap (k5.heap vn (fun h=>h)) (fun h=>h);have nK:=k6.heap lU (fun h=>h);have oV:=(k4.trans k5 (fun _ _ h=>h)).trans k6 (fun _ _ h=>h);refine⟨a.1,⟨a.2.1,Cells.bA vm⟩,b.1,⟨b.2.1,Cells.bA nK⟩,?_⟩;refine jz (h.same oV) hD ha fun w7 k7=>⟨_,rfl,⟨_,rfl,b.2.1,Cells.bA (k7.heap nK (fun h=>h))⟩,?_⟩;have uN:=oV.trans k7 (fun _ _ h=>h);refine jz (h.same uN) hD hb fun w8 k8=>⟨_,rfl,?_⟩;have rY:=uN.trans k8 (fun _ _ h=>h);have O5:=k7.trans k8 (fun _ _ h=>h);by_cases he:G.score a=G.score b
 ·refine Split.no (by rw [he];simp) ⟨a.1,⟨a.2.1,Cells.bA (O5.heap vm (fun h=>h))⟩,b.1,⟨b.2.1,Cells.bA (O5.heap nK (fun h=>h))⟩,?_⟩
  refine rP a b fun w9 k9=>⟨_,rfl,?_⟩;have e:decide (j0 a b<0)=gl G a b:=by
   rw [Bool.eq_iff_iff,decide_eq_true_eq,qF];unfold gl;rw [decide_eq_false (by omega),decide_eq_true he];simp
  rw [e];exact hK w9 (rY.trans k9 (fun _ _ h=>h))
 ·refine Split.yes (by simp only [bne_iff_ne,ne_eq];omega) ?_
  have e:decide ((G.score a:Int)<(G.score b:Int))=gl G a b:=by
   unfold gl;rw [decide_eq_false he];simp
  rw [e];exact hK w8 rY
theorem qd(h:R3 w F r x k G)(hD:G.D.length<=5000){A:Option Addr}{n cx:Nat}{l:List HT}(hl:HS w A n l)(hn:n<=400000)(hK: ∀w',Kept Nil w w'->K (.int .i64 (iT G.D l)) w'):
 bk prog ba.id #[.pointer (some ⟨r,0,none⟩),.slice A n cx] w K:=by
 have hlen:=hl.len;refine ba.of ?_;unfold ba.W;by_cases h0:n=0
 ·subst h0
  have e:l= []:=List.eq_nil_of_length_eq_zero hlen;refine Split.yes rfl ?_;have:=hK w (Kept.refl _ _);unfold iT at this;rw [if_pos e]at this;exact this
 have fE:l≠ []:=fun e=>by subst e;exact h0 hlen.symm
 refine Split.no (by simpa using (by omega: ¬(n:Int)=0)) ?_;refine ba.b9 (I:=fun s v=> ∃i:Nat,s=(0,(i:Int))/\i<=n/\(∀p∈l.take i,p∈ids G.D)/\Kept Nil w v) (μ:=fun s _=>((n:Int)-s.2).toNat) (s:=(0,0)) ⟨0,rfl,Nat.zero_le _,by simp,Kept.refl _ _⟩ ?_;rintro s v ⟨i,rfl,hi,cP,kv⟩;unfold ba.B1;refine Split.dec (fun cH=>?_) (fun fV=>?_)
 ·simp only at cH
  have dN:i<n:=by omega
  obtain⟨y,hy⟩: ∃y,l[i]? =some y:=⟨_,List.getElem?_eq_getElem (by omega)⟩;intro w3;have k3:Kept Nil v w3:=(Kept.refl _ _).drew;clear_value w3;have qm:=kv.trans k3 (fun _ _ h=>h);have h3:=h.same qm;refine Is.mk rfl ⟨_,h3.c1,Is.mk rfl ((hl.same qm).load (i:=(i:Int)) (by omega) hy ?_)⟩;rw [add_zero];refine nY h3.X.gr (by omega) y fun w4 k4=>⟨_,rfl,?_⟩;have o7:=qm.trans k4 (fun _ _ h=>h);refine Split.dec (fun yG=>?_) (fun iK=>?_)
  ·rw [gS]
   have:=hK w4 o7;unfold iT at this;rw [if_neg fE,if_pos ⟨y,List.mem_of_getElem? hy,qJ.1 yG⟩]at this;exact this
  ·simp only
   rw [dG (n:=(i:Int)) (by omega) (by omega)];refine⟨(0,(i:Int)+1),rfl,⟨i+1,rfl,dN,fun p hp=>?_,o7⟩,by simp only;omega⟩;rcases(bE hy).1 hp with hp|rfl
   ·exact cP p hp
   ·exact Classical.byContradiction fun e=>iK (qJ.2 e)
 ·simp only at fV
  rw [aS,ba.cZ];rw [List.take_of_length_le (by omega)]at cP;have:=hK v kv;unfold iT at this;rw [if_neg fE,if_neg (fun⟨p,hp,hn⟩=>hn (cP p hp))]at this;exact this
theorem mV(h:R3 w F r x k G)(hD:G.D.length<=5000){A:Option Addr}{n cx:Nat}{l:List HT}(hl:HS w A n l)(h0:l≠ [])(hn:n<=400000)(fh: ∀y∈l,y∈ids G.D)(hK: ∀w',Kept Nil w w'->K (.agg (bZ G l).1) w'):
 bk prog aU.id #[.pointer (some ⟨r,0,none⟩),.slice A n cx] w K:=by
 have hlen:=hl.len;obtain⟨x0,t,rfl⟩: ∃x0 t,l=x0::t:=by cases l with|nil=>exact absurd rfl h0|cons a b=>exact⟨a,b,rfl⟩
 refine aU.of ?_;unfold aU.W;intro w1;have k1:Kept Nil w w1:=(Kept.refl _ _).alloc _;have kF:w1.heap[w.heap.size]? =some (.cells de.1 ai (0,0)):=aH w _;clear_value w1;simp only [List.length_cons]at hlen;refine(hl.same k1).load (i:=0) (by omega) rfl ?_;intro w2;have k2:Kept Nil w1 w2:=(Kept.refl _ _).alloc _;have lK:w2.heap[w1.heap.size]? =some (.cells de.1 ai (0,0)):=aH w1 _;clear_value w2;have ji:=k2.heap kF (fun h=>h);have l1:=aT kF;have l2:=aT lK;obtain⟨t1,t2,t3⟩:=gY x0 lK rfl;refine⟨t1,?_⟩;intro w3
 replace t2:w3.heap[w1.heap.size]? =some (.cells x0.1 ai (0,0)):=t2
 replace t3:Kept (· =w1.heap.size) w2 w3:=t3
 clear_value w3;have s1:=k1.size;have mi:Kept Nil w w3:=(k1.trans k2 (fun _ _ h=>h)).trans t3 (fun j hj e=>by omega);have Cn:=t3.heap ji (by omega);refine aU.b9 (I:=fun s v=> ∃(i:Nat) (b:HT),s=(i:Int)/\1<=i/\i<=n/\b∈ids G.D/\((x0::t).drop i).foldl (fun b y=>if gl G b y then y else b) b=bZ G (x0::t)/\v.heap[w1.heap.size]? =some (.cells b.1 ai (0,0))/\v.heap[w.heap.size]? =some (.cells de.1 ai (0,0))/\Kept Nil w v) (μ:=fun s _=>((n:Int)-s).toNat) (s:=1) ⟨1,x0,rfl,Nat.le_refl _,by omega,fh _ List.mem_cons_self,rfl,t2,Cn,mi⟩ ?_;rintro s v ⟨i,b,rfl,Jj,vi,hb,he,zv,Rt,kv⟩;unfold aU.B1;refine Split.dec (fun cH=>?_) (fun fV=>?_)
 ·have dN:i<n:=by omega
  obtain⟨y,hy⟩: ∃y,(x0::t)[i]? =some y:=⟨_,List.getElem?_eq_getElem (by simp;omega)⟩;have Ky:y∈ids G.D:=fh _ (List.mem_of_getElem? hy);have hd:(x0::t).drop i=y::(x0::t).drop (i+1):=by
   obtain⟨q1,q2⟩:=List.getElem?_eq_some_iff.1 hy;rw [List.drop_eq_getElem_cons q1,q2]
  rw [hd,List.foldl_cons]at he;intro w4;have k4:Kept Nil v w4:=(Kept.refl _ _).drew;clear_value w4;have o7:=kv.trans k4 (fun _ _ h=>h);have MR:(x0::t)[((i:Nat):Int).toNat]? =some y:=by rw [Int.toNat_natCast];exact hy
  refine⟨b.1,⟨b.2.1,Cells.bA (k4.heap zv (fun h=>h))⟩,(hl.same o7).load (i:=(i:Int)) (by omega) MR ?_⟩;refine lO (h.same o7) hD hb Ky fun w5 k5=>⟨_,rfl,?_⟩;have uZ:=o7.trans k5 (fun _ _ h=>h);have lU:=k5.heap (k4.heap zv (fun h=>h)) (fun h=>h);have rp:=k5.heap (k4.heap Rt (fun h=>h)) (fun h=>h);rw [dG (n:=(i:Int)) (by omega) (by omega)];refine Split.mk (fun v7=>?_) (fun hle=>?_)
  ·rw [if_pos v7]at he
   refine(hl.same uZ).load (i:=(i:Int)) (by omega) MR ?_;obtain⟨f1,f2,f3⟩:=gY y lU b.2.1;refine⟨f1,?_⟩;exact⟨(i:Int)+1,rfl,⟨i+1,y,rfl,by omega,by omega,Ky,he,f2,f3.heap rp (by omega),uZ.trans f3 (fun j hj e=>by omega)⟩,by simp only;omega⟩
  ·rw [if_neg (by rw [hle];decide)]at he
   exact⟨(i:Int)+1,rfl,⟨i+1,b,rfl,by omega,by omega,hb,he,lU,rp,uZ⟩,by simp only;omega⟩
 ·rw [aS,aU.cZ]
  rw [List.drop_eq_nil_of_le (by simp;omega)]at he
  replace he:b=bZ G (x0::t):=he
  subst he;refine⟨_,⟨ru _,Cells.bA zv⟩,?_⟩;obtain⟨f1,f2,f3⟩:=gY (bZ G (x0::t)) Rt rfl;exact⟨f1,_,⟨ru _,Cells.bA f2⟩,hK _ (kv.trans f3 (fun j hj e=>by omega))⟩
theorem nZ(h:R3 w F r x k G)(hD:G.D.length<=5000){A:Option Addr}{n cx:Nat}{l:List HT}(hl:HS w A n l)(hn:n<=100000)(y:HT)(hK: ∀A' c' w',bQ w' w.heap.size A' (bL G.D l y).length c' (bL G.D l y)->Kept Nil w w'->K (.slice A' (bL G.D l y).length c') w'):
 bk prog aX.id #[.pointer (some ⟨r,0,none⟩),.slice A n cx,.agg y.1] w K:=by
 have hlen:=hl.len;refine aX.of ?_;unfold aX.W;intro w1;have k1:Kept Nil w w1:=(Kept.refl _ _).alloc _;have MQ:w1.heap[w.heap.size]? =some (.cells y.1 ai (0,0)):=aH w _;clear_value w1;refine aX.b9 (I:=fun s v=> ∃(i:Nat) (B:Option Addr) (c:Nat),s=(B,(bL G.D (l.take i) y).length,c,(i:Int))/\i<=n/\bQ v w1.heap.size B (bL G.D (l.take i) y).length c (bL G.D (l.take i) y)/\Kept Nil w1 v) (μ:=fun s _=>((n:Int)-s.2.2.2).toNat) (s:=(none,0,0,0)) ⟨0,none,0,rfl,Nat.zero_le _,bQ.nil _ _,Kept.refl _ _⟩ ?_;rintro s v ⟨i,B,c,rfl,hi,row,kv⟩;unfold aX.B1;have Ag:=k1.trans kv (fun _ _ h=>h);refine Split.dec (fun cH=>?_) (fun fV=>?_)
 ·simp only at cH
  have dN:i<n:=by omega
  obtain⟨z,hz⟩: ∃z,l[i]? =some z:=⟨_,List.getElem?_eq_getElem (by omega)⟩;have pV:(bL G.D (l.take i) y).length<=100000:=by
   have:=List.length_filter_le (fun b=>decide (mF G.D b y)) (l.take i);have h2:=List.length_take_le i l;unfold bL;omega
  intro w3;have k3:Kept Nil v w3:=(Kept.refl _ _).drew;clear_value w3;have qm:=kv.trans k3 (fun _ _ h=>h);have mi:=k1.trans qm (fun _ _ h=>h);have h3:=h.same mi;have xm:l[((i:Nat):Int).toNat]? =some z:=by rw [Int.toNat_natCast];exact hz
  refine Is.mk rfl ⟨_,h3.c1,Is.mk rfl ((hl.same mi).load (i:=(i:Int)) (by omega) xm ⟨y.1,⟨y.2.1,Cells.bA (qm.heap MQ (fun h=>h))⟩,?_⟩)⟩;rw [add_zero];refine Dk h3.X.gr h.fO.W (by omega) z y fun w4 b hb k4=>⟨b,rfl,?_⟩
  replace hb:b=true↔mF G.D z y:=hb
  have o7:=qm.trans k4 (fun _ _ h=>h);have pI:=k1.trans o7 (fun _ _ h=>h);have iO:=Row.aD row (k3.trans k4 (fun _ _ h=>h)) (fun _ _ h=>h);have Ea:bL G.D (l.take (i+1)) y=bL G.D (l.take i) y++if mF G.D z y then [z]else []:=by
   rw [List.take_add_one,hz,fg]
   congr 1
   unfold bL;by_cases hp:mF G.D z y
   ·rw [if_pos hp];simp [hp]
   ·rw [if_neg hp];simp [hp]
  cases b with
  |true=>
   rw [if_pos (hb.1 rfl)]at Ea;refine Split.yes rfl ((hl.same pI).load (i:=(i:Int)) (by omega) xm ⟨z.2.1,?_⟩);intro w5;have k5:Kept Nil w4 w5:=(Kept.refl _ _).alloc _;have KC:=iW w4 z;have s5:=(o7.trans k5 (fun _ _ h=>h)).size;obtain⟨A',c',w6,hr,Ft,hg,_⟩:=cD (cx:=1) ay (Row.aD iO k5 (fun _ _ h=>h)) KC (by omega) s5;refine⟨A',_,c',w6,hr,?_⟩;rw [dG (n:=(i:Int)) (by omega) (by omega)];have e:(bL G.D (l.take (i+1)) y).length=(bL G.D (l.take i) y).length+1:=by rw [Ea];simp
   refine⟨(A',(bL G.D (l.take i) y).length+1,c',(i:Int)+1),rfl,⟨i+1,A',c',by rw [e];rfl,dN,by rw [e,Ea];exact Ft,?_⟩,by simp only;omega⟩;exact Kept.dw (o7.trans k5 (fun _ _ h=>h)) hg (fun j hj=>(Row.bA row hj).1)
  |false=>
   rw [if_neg (fun e=>by have:=hb.2 e;cases this),List.append_nil]at Ea;refine Split.no rfl ?_;simp only;rw [dG (n:=(i:Int)) (by omega) (by omega)];exact⟨(B,(bL G.D (l.take i) y).length,c,(i:Int)+1),rfl,⟨i+1,B,c,by rw [Ea];rfl,dN,by rw [Ea];exact iO,o7⟩,by simp only;omega⟩
 ·simp only at fV
  rw [aS,aX.cZ];rw [List.take_of_length_le (by omega)]at row;have e:i=n:=by omega
  subst e;rw [List.take_of_length_le (by omega)];exact hK B c v (Row.base row (fun j hj=>by have:=(Row.bA row hj).1;have:=k1.size;omega)) Ag
theorem wB{c:nN}{A1 A2 B1 B2:Option Addr}{n1 n2 m1 m2 p1 p2 q1 q2:Nat}(h1:HS w A1 n1 c.merge)(h2:HS w A2 n2 c.merge)(g1:Bo w B1 m1 c.dM)(g2:Bo w B2 m2 c.dM)(hn:n1<=100000)(hm:m1<=100000)(hK: ∀w',Kept Nil w w'->K (.bool true) w'):
 bk prog bY.id #[.agg (cC c A1 n1 p1 B1 m1 q1),.agg (cC c A2 n2 p2 B2 m2 q2)] w K:=by
 have e1:=g1.len;have e2:=g2.len;have e3:=h1.len;have e4:=h2.len;refine bY.of ?_;unfold bY.W;intro w4 w5;have k4:Kept Nil w w4:=(Kept.refl _ _).alloc _;have vn:w4.heap[w.heap.size]? =some (.cells (cC c A1 n1 p1 B1 m1 q1) bj (0,0)):=aH w _;have k5:Kept Nil w4 w5:=(Kept.refl _ _).alloc _;have lU:w5.heap[w4.heap.size]? =some (.cells (cC c A2 n2 p2 B2 m2 q2) bj (0,0)):=aH w4 _;clear_value w5;have EI:=k5.heap vn (fun h=>h);have mI:=k4.trans k5 (fun _ _ h=>h);clear_value w4;have c1:=eV c A1 n1 p1 B1 m1 q1 #[];have c2:=eV c A2 n2 p2 B2 m2 q2 #[];rw [Array.append_empty]at c1 c2;refine⟨B1,m1,q1,by rw [a8,ax EI];exact c1.2.2.1,B2,m2,q2,by rw [a8,ax lU];exact c2.2.2.1,Split.no (by simp only [bne_eq_false_iff_eq];omega) ?_⟩;refine bY.b9 (I:=fun s v=> ∃i:Nat,s=(false,(i:Int))/\i<=m1/\Kept Nil w5 v) (μ:=fun s _=>((m1:Int)-s.2).toNat) (s:=(false,0)) ⟨0,rfl,Nat.zero_le _,Kept.refl _ _⟩ ?_;rintro s v ⟨i,rfl,hi,kv⟩;unfold bY.B1;have TF:=kv.heap EI (fun h=>h);have zv:=kv.heap lU (fun h=>h);have Ag:=mI.trans kv (fun _ _ h=>h);refine⟨B1,m1,q1,by rw [a8,ax TF];exact c1.2.2.1,Split.dec (fun cH=>?_) (fun fV=>?_)⟩
 ·simp only at cH
  obtain⟨b,hb⟩: ∃b,c.dM[i]? =some b:=⟨_,List.getElem?_eq_getElem (by omega)⟩;intro w6;have k6:Kept Nil v w6:=(Kept.refl _ _).drew;clear_value w6;have oV:=Ag.trans k6 (fun _ _ h=>h);obtain⟨a1,r1,_,r3⟩:=(g1.same oV).at_ i b hb;obtain⟨a2,r4,_,r6⟩:=(g2.same oV).at_ i b hb;subst r1 r4;refine⟨some a1,m1,q1,by rw [a8,ax (k6.heap TF (fun h=>h))];exact c1.2.2.1,⟨by simp only;omega,by simp only;omega⟩,b,by rw [Int.toNat_natCast,Nat.mul_one];exact r3,some a2,m2,q2,by rw [a8,ax (k6.heap zv (fun h=>h))];exact c2.2.2.1,⟨by simp only;omega,by simp only;omega⟩,b,by rw [Int.toNat_natCast,Nat.mul_one];exact r6,Split.no (by simp) ?_⟩;simp only;rw [dG (n:=(i:Int)) (by omega) (by omega)];exact⟨(false,(i:Int)+1),rfl,⟨i+1,rfl,by omega,kv.trans k6 (fun _ _ h=>h)⟩,by simp only;omega⟩
 ·rw [aS,bY.cZ]
  have jJ: ∀ {b:Nat} {A B:Option Addr} {n m p q:Nat},v.heap[b]? =some (.cells (cC c A n p B m q) bj (0,0))->Cells v ((⟨b,0,none⟩:Addr).add 0) c.jJ.1:=fun hb j u hj=>by
   have cH:=(Array.getElem?_eq_some_iff.1 hj).1;rw [add_zero,a8,ax hb,Nat.zero_add];unfold cC;rw [Array.getElem?_append_left cH];exact hj
  refine⟨c.jJ.1,⟨c.jJ.2.1,jJ TF⟩,c.jJ.1,⟨c.jJ.2.1,jJ zv⟩,⟨c.jJ.2.ints,c.jJ.2.ints⟩,?_⟩;rw [cQ];refine Split.yes (decide_eq_true rfl) ⟨_,by rw [a8,ax TF];exact c1.1,_,by rw [a8,ax zv];exact c2.1,Split.yes (beq_self_eq_true _) ⟨_,_,_,by rw [a8,ax TF];exact c1.2.1,_,_,_,by rw [a8,ax zv];exact c2.2.1,?_⟩⟩;refine Dj (h1.same Ag) (h2.same Ag) (by omega) fun w7 k7=>⟨_,rfl,?_⟩;rw [decide_eq_true rfl];exact hK w7 (Ag.trans k7 (fun _ _ h=>h))
end
end Go.Proofs.YtnboahlopghcjaaGreatDoor
namespace Go.Proofs.YtnboahlopghcjaaGreatDoor
open Go.Proofs.Tryz
open Go Go.bS Go.RowKit
structure VJ(v:World)(B0 xb rb:Nat)(x:nN)(A:Option Addr)(n cp:Nat)(E:Option Addr)(e ce:Nat)(W:Option Addr)(nw cw:Nat)(wd:List HT):Prop where
 top:v.heap[xb]? =some (.cells (cC x A n cp E e ce) bj (0,0))
 mg:bQ v B0 A n cp x.merge
 bl:Row v B0 gM 1 E e ce (qO x.dM)
 wr:bQ v B0 W nw cw wd
 box:v.heap[rb]? =some (.cells zC bj (0,0))
 AE: ∀j,bg A=some j->bg E≠some j
 AW: ∀j,bg A=some j->bg W≠some j
 EW: ∀j,bg E=some j->bg W≠some j
 xB:xb<B0
 rB:rb<B0
 xr:xb≠rb
section
variable{v v' u:World}{B0 xb rb n cp e ce nw cw:Nat}{x:nN}{A E W:Option Addr}{wd:List HT}{K:Value->World->Prop}
theorem VJ.same(h:VJ v B0 xb rb x A n cp E e ce W nw cw wd)(k:Kept Nil v v'):VJ v' B0 xb rb x A n cp E e ce W nw cw wd:=
 ⟨k.heap h.top (fun h=>h),Row.aD h.mg k (fun _ _ h=>h),Row.aD h.bl k (fun _ _ h=>h),Row.aD h.wr k (fun _ _ h=>h),k.heap h.box (fun h=>h),h.AE,h.AW,h.EW,h.xB,h.rB,h.xr⟩
theorem VJ.f32(h:VJ v B0 xb rb x A n cp E e ce W nw cw wd):v.cell? ((⟨xb,0,none⟩:Addr).add 32)=some (.int .u64 (x.score:Int)):=by
 have:=(eV x A n cp E e ce #[]).1;rw [Array.append_empty]at this;rw [a8,ax h.top];exact this
theorem VJ.f33(h:VJ v B0 xb rb x A n cp E e ce W nw cw wd):v.cell? ((⟨xb,0,none⟩:Addr).add 33)=some (.slice A n cp):=by
 have:=(eV x A n cp E e ce #[]).2.1;rw [Array.append_empty]at this;rw [a8,ax h.top];exact this
theorem VJ.f34(h:VJ v B0 xb rb x A n cp E e ce W nw cw wd):v.cell? ((⟨xb,0,none⟩:Addr).add 34)=some (.slice E e ce):=by
 have:=(eV x A n cp E e ce #[]).2.2.1;rw [Array.append_empty]at this;rw [a8,ax h.top];exact this
theorem VJ.wrx(h:VJ v B0 xb rb x A n cp E e ce W nw cw wd){j:Nat}(hj:j<35):Wr v ((⟨xb,0,none⟩:Addr).add j):=by
 rw [a8];exact dO h.top (by rw [a7];omega)
theorem VJ.LW(h:VJ v B0 xb rb x A n cp E e ce W nw cw wd)(j:Nat)(z:Value):Kept (· =xb) v (v.setCell ((⟨xb,0,none⟩:Addr).add j) z):=by
 rw [a8];exact Kept.setCell (S:=(· =xb)) (Kept.refl _ v) (p:=⟨xb,0+j,none⟩) (fun _=>rfl) _
theorem VJ.LY(h:VJ v B0 xb rb x A n cp E e ce W nw cw wd)(s:Nat):VJ (v.setCell ((⟨xb,0,none⟩:Addr).add 32) (.int .u64 (s:Int))) B0 xb rb {x with score:=s} A n cp E e ce W nw cw wd:=by
 have k:=h.LW 32 (.int .u64 (s:Int));have xB:=h.xB;refine⟨?_,Row.aD h.mg k (fun j hj e=>by have:=(Row.bA h.mg hj).1;omega),Row.aD h.bl k (fun j hj e=>by have:=(Row.bA h.bl hj).1;omega),Row.aD h.wr k (fun j hj e=>by have:=(Row.bA h.wr hj).1;omega),k.heap h.box h.xr.symm,h.AE,h.AW,h.EW,h.xB,h.rB,h.xr⟩;rw [a8,cR h.top];have:=uE x A n cp E e ce #[] s;rw [Array.append_empty,Array.append_empty]at this;rw [this]
theorem VJ.Qf(h:VJ v B0 xb rb x A n cp E e ce W nw cw wd)(hB:B0<=v.heap.size)(hn:nw<=100000){z:HT}(mX:Kept Nil v v'){bx:Nat}(hx:HS v' (some ⟨bx,0,none⟩) 1 [z]):
 ∃W' Px u,(Builtin.append_ #[ay,ay] ay #[.slice W nw cw,.slice (some ⟨bx,0,none⟩) 1 1]).run prog v'=.ok (.slice W' (nw+1) Px) u/\VJ u B0 xb rb x A n cp E e ce W' (nw+1) Px (wd++ [z])/\Kept (fun j=>j=xb\/B0<=j) v u:=by
 have h':=h.same mX;have UM:=mX.size;obtain⟨W',c',u,hr,row,hg,hb⟩:=cD (cx:=1) ay h'.wr hx (by omega) (by omega);have kg:Kept (fun j=>bg W=some j) v' u:=Kept.grown (Kept.refl _ _) hg (fun j hj _=>hj);have nB: ∀j,j<B0->bg W≠some j:=fun j hj e=>by have:=(Row.bA h.wr e).1;omega
 refine⟨W',c',u,hr,⟨kg.heap h'.top (nB _ h.xB),Row.aD h'.mg kg (fun j hj=>h.AW j hj),Row.aD h'.bl kg (fun j hj=>h.EW j hj),row,kg.heap h'.box (nB _ h.rB),h.AE,fun j hj e=>?_,fun j hj e=>?_,h.xB,h.rB,h.xr⟩,(mX.mono fun _ _ h=>h.elim).trans kg (fun j hj e=>.inr (Row.bA h.wr e).1)⟩
 ·rcases hb j e with e'|e'
  ·exact h.AW j hj e'
  ·obtain⟨_,cur,hc⟩:=Row.bA h'.mg hj
   have:=aT hc;omega
 ·rcases hb j e with e'|e'
  ·exact h.EW j hj e'
  ·obtain⟨_,cur,hc⟩:=Row.bA h'.bl hj
   have:=aT hc;omega
theorem VJ.Fx(h:VJ v B0 xb rb x A n cp E e ce W nw cw wd)(hB:B0<=v.heap.size)(hn:e<=100000){b:Bool}(mX:Kept Nil v v'){bx:Nat}(hx:v'.cell? ⟨bx,0,none⟩=some (.bool b)):
 ∃E' qG u,(Builtin.append_ #[fP,fP] fP #[.slice E e ce,.slice (some ⟨bx,0,none⟩) 1 1]).run prog v'=.ok (.slice E' (e+1) qG) u/\Wr u ((⟨xb,0,none⟩:Addr).add 34)/\
  VJ (u.setCell ((⟨xb,0,none⟩:Addr).add 34) (.slice E' (e+1) qG)) B0 xb rb {x with dM:=x.dM++ [b]} A n cp E' (e+1) qG W nw cw wd/\Kept (fun j=>j=xb\/B0<=j) v (u.setCell ((⟨xb,0,none⟩:Addr).add 34) (.slice E' (e+1) qG)):=by
 have h':=h.same mX;have UM:=mX.size;have xB:=h.xB;obtain⟨E',c',u,hr,row,hg,hb⟩:=e8 (P:=prog) (t:=fP) (bytes:=1) (ty:=fP) zN h'.bl (a:=⟨bx,0,none⟩) (m:=1) (cx:=1) (news:= [.bool b]) rfl (fun j z hj=>by
  cases j with
  |zero=>simp only [List.getElem?_cons_zero,Option.some.injEq]at hj;subst hj;rw [add_zero];exact hx
  |succ j=>simp at hj) (fun z hz=>by
  have:z=.bool b:=by simpa using hz
  subst this;rfl) (by omega) (by unfold maxLen;omega) (by omega)
 have kg:Kept (fun j=>bg E=some j) v' u:=Kept.grown (Kept.refl _ _) hg (fun j hj _=>hj);have nB: ∀j,j<B0->bg E≠some j:=fun j hj e=>by have:=(Row.bA h.bl e).1;omega
 have top:=kg.heap h'.top (nB _ h.xB);have ks:Kept (· =xb) u (u.setCell ((⟨xb,0,none⟩:Addr).add 34) (.slice E' (e+1) c')):=by
  rw [a8];exact Kept.setCell (S:=(· =xb)) (Kept.refl _ u) (p:=⟨xb,0+34,none⟩) (fun _=>rfl) _
 have jW:Kept (fun j=>j=xb\/bg E=some j) v' (u.setCell ((⟨xb,0,none⟩:Addr).add 34) (.slice E' (e+1) c')):=(kg.mono fun _ _ h=>.inr h).trans ks (fun _ _ h=>.inl h);refine⟨E',c',u,hr,by rw [a8];exact dO top (by rw [a7];omega),⟨?_,?_,?_,?_,?_,fun j hj e=>?_,h.AW,fun j hj e=>?_,h.xB,h.rB,h.xr⟩,(mX.mono fun _ _ h=>h.elim).trans jW (fun j hj e=>e.imp (fun h=>h) (fun e=>(Row.bA h.bl e).1))⟩
 ·rw [a8,cR top]
  have:=pO x A n cp E e ce #[] E' (e+1) c';rw [Array.append_empty,Array.append_empty]at this;rw [this];rfl
 ·exact Row.aD h'.mg jW (fun j hj e=>e.elim (fun e=>by have:=(Row.bA h.mg hj).1;omega) (h.AE j hj))
 ·have e1:qO (x.dM++ [b])=qO x.dM++ [.bool b]:=by simp [qO]
  show Row _ B0 gM 1 E' (e+1) c' (qO (x.dM++ [b]))
  rw [e1];exact Row.aD row ks (fun j hj e=>by have:=(Row.bA row hj).1;omega)
 ·exact Row.aD h'.wr jW (fun j hj e=>e.elim (fun e=>by have:=(Row.bA h.wr hj).1;omega) (fun e=>h.EW j e hj))
 ·exact jW.heap h'.box (fun e=>e.elim (fun e=>h.xr e.symm) (nB _ h.rB))
 ·rcases hb j e with e'|e'
  ·exact h.AE j hj e'
  ·obtain⟨_,cur,hc⟩:=Row.bA h'.mg hj
   have:=aT hc;omega
 ·rcases hb j hj with e'|e'
  ·exact h.EW j e' e
  ·obtain⟨_,cur,hc⟩:=Row.bA h'.wr e
   have:=aT hc;omega
end
section
variable{y w w':World}{F F' S:Nat->Prop}{r x k:Nat}{G:GS}{K:Value->World->Prop}{B0 xb rb n cp e ce nw cw:Nat}{A E W:Option Addr}{s:HT}{l:List HT}
set_option maxHeartbeats 2000000 in
theorem CW(h:R3 y F r x k G)(hD:G.D.length<=300)(nf:k<=1000)(hB:B0<=y.heap.size)(gD: ∀j,(j=r\/j=x\/F j)->j<B0/\j≠xb/\j≠rb)(hM: ∀z∈ct G s l,z∈ids G.D)(hs:s∈ids G.D)
 (V:VJ y B0 xb rb ⟨s,G.score s+1,ct G s l,[]⟩ A n cp none 0 0 W nw cw (G.world s++ [s]))
 (hK: ∀v E e ce W nw cw,VJ v B0 xb rb (cu k G s l) A n cp E e ce W nw cw (eU k G s l).wd->Kept (fun j=>j=xb\/j=rb\/B0<=j) y (setCells v ⟨rb,0,none⟩ (cC (cu k G s l) A n cp E e ce).toList 0)->K (.tuple #[.agg (cC (cu k G s l) A n cp E e ce),.slice W nw cw]) (setCells v ⟨rb,0,none⟩ (cC (cu k G s l) A n cp E e ce).toList 0)):
 ae.cK (some ⟨r,0,none⟩) ⟨B0,0,none⟩ ⟨rb,0,none⟩ none 0 0 ⟨xb,0,none⟩ W nw cw none 0 0 0 K y:=by
 unfold ae.cK;have EF:(ct G s l).length<=300:=by
  have:=cO (m:=ids G.D) (jO G s l).nodup hM;rw [fI]at this;omega
 have hn:(ct G s l).length=n:=bQ.len V.mg;have hwl:=qQ h.fO hs;have Cm:=xO h.fO hs;have hR: ∀ {v:World},Kept (fun j=>j=xb\/B0<=j) y v->R3 v F r x k G:=fun kv=>h.aD kv (fun e=>by have:=gD r (.inl rfl);omega) (fun e=>by have:=gD x (.inr (.inl rfl));omega) (fun j hj e=>by have:=gD j (.inr (.inr hj));omega);have vl: ∀i,i<=n->(ju k G s l i).wd.length<=700:=fun i hi=>by
  obtain⟨b,h1,h2⟩:=E6 k G.D (G.world s++ [s]) ((ct G s l).take i);have h3:=wo ((ct G s l).take i) b;rw [List.length_take]at h3;show(((ct G s l).take i).foldl (mT k G.D) ⟨G.world s++ [s],[]⟩).wd.length<=700;rw [h2];simp only [List.length_append,List.length_singleton];omega
 refine ae.tV (I:=fun st v=> ∃(i:Nat) (E:Option Addr) (e ce:Nat) (W:Option Addr) (nw cw:Nat),st=(W,nw,cw,(i:Int))/\i<=n/\VJ v B0 xb rb ⟨s,G.score s+1+(ju k G s l i).bl.count true,ct G s l,(ju k G s l i).bl⟩ A n cp E e ce W nw cw (ju k G s l i).wd/\Kept (fun j=>j=xb\/B0<=j) y v) (μ:=fun st _=>((n:Int)-st.2.2.2).toNat) (s:=(W,nw,cw,0)) ⟨0,none,0,0,W,nw,cw,rfl,Nat.zero_le _,V,Kept.refl _ _⟩ ?_;rintro st v ⟨i,E,e,ce,W,nw,cw,rfl,hi,Vv,kv⟩;unfold ae.B3;refine⟨A,n,cp,Vv.f33,Split.dec (fun cH=>?_) (fun fV=>?_)⟩
 ·simp only at cH
  have dN:i<n:=by omega
  obtain⟨z,hz⟩: ∃z,(ct G s l)[i]? =some z:=⟨_,List.getElem?_eq_getElem (by omega)⟩;have pK:=xE (k:=k) hz;have xm:(ct G s l)[((i:Nat):Int).toNat]? =some z:=by rw [Int.toNat_natCast];exact hz
  have hnw:(ju k G s l i).wd.length=nw:=bQ.len Vv.wr;have U4:=vl i hi;have sv:=kv.size;refine⟨A,n,cp,Vv.f33,(bQ.hs Vv.mg).load (i:=(i:Int)) (by omega) xm ?_⟩;refine nZ (hR kv) (by omega) (bQ.hs Vv.wr) (by omega) z fun N cN w4 P5 k4=>⟨N,_,cN,rfl,?_⟩;have o7:=kv.trans k4 (fun _ _ h=>h.elim);have Vz:=hR o7;refine Is.mk rfl ⟨_,Vz.c0,?_⟩;have xo:(bL G.D (ju k G s l i).wd z).length<=700:=by
   have:=List.length_filter_le (fun b=>decide (mF G.D b z)) (ju k G s l i).wd;unfold bL;omega
  generalize KY:bL G.D (ju k G s l i).wd z=x9 at P5 xo;have V4:=Vv.same k4;refine ae.FI (I:=fun st u=> ∃(b:Bool) (q:Nat),st=(b,(q:Int))/\q<=x9.length/\b=(decide (x9.length<=k)&&(x9.take q).all fun z=>decide ((bL G.D (ju k G s l i).wd z).length+1<=k))/\Kept Nil w4 u) (μ:=fun st _=>((x9.length:Int)-st.2).toNat) (s:=(decide ((x9.length:Int)<=(k:Int)),0)) ⟨_,0,rfl,Nat.zero_le _,by simp,Kept.refl _ _⟩ ?_;rintro st u ⟨b,q,rfl,hq,hb,ku⟩;have UQ:=o7.trans ku (fun _ _ h=>h.elim);have Vu:=V4.same ku;have fin: ∀ {t:World},Kept Nil w4 t->b=ns k G.D (ju k G s l i).wd z->ae.Bq (some ⟨r,0,none⟩) ⟨rb,0,none⟩ none 0 0 ⟨xb,0,none⟩ W nw cw (i:Int) N x9.length cN b (q:Int) (bK (ae.e3 (some ⟨r,0,none⟩) ⟨rb,0,none⟩ none 0 0 ⟨xb,0,none⟩) (fun st v=> ∃(i:Nat) (E:Option Addr) (e ce:Nat) (W:Option Addr) (nw cw:Nat),st=(W,nw,cw,(i:Int))/\i<=n/\VJ v B0 xb rb ⟨s,G.score s+1+(ju k G s l i).bl.count true,ct G s l,(ju k G s l i).bl⟩ A n cp E e ce W nw cw (ju k G s l i).wd/\Kept (fun j=>j=xb\/B0<=j) y v) (fun st _=>((n:Int)-st.2.2.2).toNat) (W,nw,cw,(i:Int)) v (ae.q3 K)) t:=fun {t} kt AJ=>by
   have Vt:=V4.same kt;have QD:=o7.trans kt (fun _ _ h=>h.elim);have st:=QD.size;have Vs:(ju k G s l i).bl.length=e:=by have:=(Row.bo Vt.bl).len;simpa using this
   have ZF:=BB k G s l i (by omega);unfold ae.Bq;refine⟨E,e,ce,Vt.f34,?_⟩;intro w5;have k5:Kept Nil t w5:=(Kept.refl _ _).alloc _;have lU:w5.cell? ⟨t.heap.size,0,none⟩=some (.bool b):=by rw [ax (aH t _)];rfl
   clear_value w5;obtain⟨E',qG,u6,q1,q2,q3,q4⟩:=Vt.Fx (by omega) (by omega) k5 lU;refine⟨E',e+1,qG,u6,q1,q2,?_⟩;have HG:=QD.trans q4 (fun _ _ h=>h);rw [dG (n:=(i:Int)) (by omega) (by omega)];rw [mT,<-AJ]at pK;generalize u6.setCell ((⟨xb,0,none⟩:Addr).add 34) (.slice E' (e+1) qG)=w6 at q3 q4 HG⊢;have s6:=HG.size;cases b with
   |false=>
    refine Split.no rfl ⟨(W,nw,cw,(i:Int)+1),rfl,⟨i+1,E',e+1,qG,W,nw,cw,rfl,dN,?_,HG⟩,by simp only;omega⟩;rw [pK];simpa [List.count_append]using q3
   |true=>
    refine Split.yes rfl ⟨A,n,cp,q3.f33,(bQ.hs q3.mg).load (i:=(i:Int)) (by omega) xm ⟨z.2.1,?_⟩⟩;intro w7;have k7:Kept Nil w6 w7:=(Kept.refl _ _).alloc _;have MS:=iW w6 z;obtain⟨W',Px,w8,r1,r2,r3⟩:=q3.Qf (by omega) (by omega) k7 MS;refine⟨W',nw+1,Px,w8,r1,_,r2.f32,r2.wrx (by omega),?_⟩;have agY:(ju k G s l i).bl.count true<=300:=by have:=List.count_le_length (a:=true) (l:=(ju k G s l i).bl);omega
    have ew:IntKind.u64.wrap (((G.score s+1+(ju k G s l i).bl.count true:Nat):Int)+1)=((G.score s+1+(ju k G s l i).bl.count true+1:Nat):Int):=by
     rw [show((G.score s+1+(ju k G s l i).bl.count true:Nat):Int)+1=((G.score s+1+(ju k G s l i).bl.count true+1:Nat):Int)by omega];exact iY (by omega)
    simp only;rw [ew];have r4:=r2.LY (G.score s+1+(ju k G s l i).bl.count true+1);have r5:=r2.LW 32 (.int .u64 ((G.score s+1+(ju k G s l i).bl.count true+1:Nat):Int));refine⟨(W',nw+1,Px,(i:Int)+1),rfl,⟨i+1,E',e+1,qG,W',nw+1,Px,rfl,dN,?_,(HG.trans r3 (fun _ _ h=>h)).trans r5 (fun _ _ h=>.inl h)⟩,by simp only;omega⟩;rw [pK];have ec:((ju k G s l i).bl++ [true]).count true=(ju k G s l i).bl.count true+1:=by simp [List.count_append]
    simp only [if_true];rw [ec,<-Nat.add_assoc];exact r4
  unfold ae.B4;refine Split.dec (fun Sj=>?_) (fun SD=>?_)
  ·simp only at Sj
   refine Split.mk (fun vj=>?_) (fun vj=>?_)
   ·replace vj:b=true:=vj
    subst vj;have I3:q<x9.length:=by omega
    obtain⟨z2,hz2⟩: ∃z2,x9[q]? =some z2:=⟨_,List.getElem?_eq_getElem I3⟩;intro w5;have k5:Kept Nil u w5:=(Kept.refl _ _).drew;clear_value w5;have zp:=ku.trans k5 (fun _ _ h=>h);have uZ:=o7.trans zp (fun _ _ h=>h.elim);have Z9:=hR uZ;refine((bQ.hs P5).same zp).load (i:=(q:Int)) (by omega) (by rw [Int.toNat_natCast];exact hz2) (Is.mk rfl ⟨_,Z9.c0,?_⟩);refine nZ Z9 (by omega) (bQ.hs (V4.same zp).wr) (by omega) z2 fun N2 c2 w6 Ft k6=>⟨N2,_,c2,rfl,?_⟩;have HH:=zp.trans k6 (fun _ _ h=>h);refine⟨(Z9.same k6).c0,?_⟩;simp only;rw [dG (n:=(q:Int)) (by omega) (by omega),gH (x:=(k:Int)-1) (by omega) (by omega)];refine⟨(decide (((bL G.D (ju k G s l i).wd z2).length:Int)<=(k:Int)-1),(q:Int)+1),rfl,⟨_,q+1,rfl,I3,?_,HH⟩,by simp only;omega⟩;rw [eq_comm,Bool.and_eq_true,decide_eq_true_eq]at hb;rw [decide_eq_true hb.1,Bool.true_and,List.take_add_one,hz2];simp only [Option.toList_some,List.all_append,hb.2,Bool.true_and,List.all_cons,List.all_nil,Bool.and_true];rw [decide_eq_decide];omega
   ·rw [aS,ae.ES]
    replace vj:b=false:=vj
    refine fin ku ?_;rw [vj]at hb⊢
    symm
    unfold ns;rw [KY,decide_eq_false_iff_not];rintro⟨g1,g2⟩;rw [decide_eq_true g1,Bool.true_and]at hb;have:=List.all_eq_false.1 hb.symm;obtain⟨z0,Xm,hz1⟩:=this;exact hz1 (decide_eq_true (g2 z0 (List.mem_of_mem_take Xm)))
  ·simp only at SD
   rw [aS,ae.ES];refine fin ku ?_;rw [List.take_of_length_le (by omega)]at hb;rw [hb];unfold ns;rw [KY,Bool.eq_iff_iff,Bool.and_eq_true,decide_eq_true_eq,decide_eq_true_eq,List.all_eq_true];simp only [decide_eq_true_eq]
 ·simp only at fV
  have:i=n:=by omega
  subst this;rw [aS,ae.zz];rw [<-hn,BC]at Vv;have Eb:(⟨s,G.score s+1+(eU k G s l).bl.count true,ct G s l,(eU k G s l).bl⟩:nN)=cu k G s l:=rfl;rw [Eb]at Vv;unfold ae.vx;obtain⟨t1,t2,t3⟩:=dH Vv.box (cs:=cC (cu k G s l) A (ct G s l).length cp E e ce) (by rw [a7];rfl);refine⟨_,⟨a7 ..,Cells.bA Vv.top⟩,⟨a7 ..,dL _ _ _ _ _ _ _,fun j hj=>t1 j (by rw [a7];exact hj)⟩,_,⟨a7 ..,Cells.bA t2⟩,?_⟩;rw [hn]at t3 Vv⊢;exact hK v E e ce W nw cw Vv ((kv.mono fun _ _ h=>h.imp (fun h=>h) (fun h=>.inr h)).trans t3 (fun _ _ h=>.inr (.inl h)))
end
end Go.Proofs.YtnboahlopghcjaaGreatDoor
namespace Go.Proofs.YtnboahlopghcjaaGreatDoor
open Go.Proofs.Tryz
open Go Go.bS Go.RowKit
theorem OK{G:GS}{l:List HT}{k:Nat}{x:HT}(h:SO G l)(h1: ∀y∈l.take k,gl G y x=true)(h2: ∀y∈l.drop k,gl G x y=true):SO G (l.take k++x::l.drop k):=by
 have h0:SO G (l.take k++l.drop k):=by rw [List.take_append_drop];exact h
 unfold SO at h0⊢;rw [List.pairwise_append]at h0⊢;refine⟨h0.1,List.pairwise_cons.2 ⟨h2,h0.2.1⟩,fun a ha b hb=>?_⟩;rcases List.mem_cons.1 hb with rfl|hb
 ·exact h1 a ha
 ·exact h0.2.2 a ha b hb
section
variable{y w w':World}{F F' S:Nat->Prop}{r x k:Nat}{G:GS}{K:Value->World->Prop}{B0 xb rb sb n cp e ce nw cw na ca:Nat}{A E W AA:Option Addr}{s:HT}{l all wd:List HT}
set_option maxHeartbeats 2000000 in
theorem CX(h:R3 y F r x k G)(hD:G.D.length<=300)(hB:B0<=y.heap.size)(gD: ∀j,(j=r\/j=x\/F j)->j≠xb)(hs:s∈ids G.D)(EC:y.heap[sb]? =some (.cells s.1 ai (0,0)))(Pc:sb≠xb)
 (cP:HS y AA na all) (VD: ∀a,AA=some a->a.block≠xb) (hSS:SS all) (fh: ∀z∈all,z∈ids G.D)
 (V:VJ y B0 xb rb ⟨s,G.score s+1,[],[]⟩ none 0 0 none 0 0 W nw cw wd)
 (hK: ∀v A n cp M i,SO G M->(∀z,z∈M↔z∈all/\z≠s/\ ¬eT G.D z s)->VJ v B0 xb rb ⟨s,G.score s+1,M,[]⟩ A n cp none 0 0 W nw cw wd->Kept (· =xb) y v->ae.cK (some ⟨r,0,none⟩) ⟨sb,0,none⟩ ⟨rb,0,none⟩ none 0 0 ⟨xb,0,none⟩ W nw cw AA na ca i K v):
 Holds none [] prog 179 (.loop (lB (bB (sR (sL (sR (sR (sR (sR (body ae.fn)))))))))) (ae.q1 K) [(0,.pointer (some ⟨r,0,none⟩)),(4,.pointer (some ⟨sb,0,none⟩)),(6,.pointer (some ⟨rb,0,none⟩)),(7,.slice none 0 0),(8,.pointer (some ⟨xb,0,none⟩)),(9,.slice W nw cw),(10,.slice AA na ca),(11,.int .i64 0)] y:=by
 have Jb:=cP.len;have agb:na<=300:=by
  have:=cO (m:=ids G.D) hSS.nodup fh;rw [fI]at this;omega
 have hR: ∀ {v:World},Kept (· =xb) y v->R3 v F r x k G:=fun kv=>h.aD kv (gD r (.inl rfl)) (gD x (.inr (.inl rfl))) (fun j hj=>gD j (.inr (.inr hj)));refine ae.b9 (I:=fun st v=> ∃(i:Nat) (M:List HT) (A:Option Addr) (n cp:Nat),st=(i:Int)/\i<=na/\VJ v B0 xb rb ⟨s,G.score s+1,M,[]⟩ A n cp none 0 0 W nw cw wd/\SO G M/\(∀z,z∈M↔z∈all.take i/\z≠s/\ ¬eT G.D z s)/\Kept (· =xb) y v) (μ:=fun st _=>((na:Int)-st).toNat) (s:=0) ⟨0,[],none,0,0,rfl,Nat.zero_le _,V,List.Pairwise.nil,by simp,Kept.refl _ _⟩ ?_;rintro st v ⟨i,M,A,n,cp,rfl,hi,Vv,DS,gJ,kv⟩;unfold ae.B1;refine Split.dec (fun cH=>?_) (fun fV=>?_)
 ·have dN:i<na:=by omega
  obtain⟨z,hz⟩: ∃z,all[i]? =some z:=⟨_,List.getElem?_eq_getElem (by omega)⟩;have MO:=fh z (List.mem_of_getElem? hz);have Ea:all.take (i+1)=all.take i++ [z]:=by rw [List.take_add_one,hz];rfl
  have hMi: ∀y∈M,y∈ids G.D:=fun y hy=>fh y (List.mem_of_mem_take ((gJ y).1 hy).1);have hMl:M.length<=300:=by
   have:=cO (m:=ids G.D) DS.nodup hMi;rw [fI]at this;omega
  have hMn:M.length=n:=bQ.len Vv.mg;have sv:=kv.size;refine(cP.aD kv VD).load (i:=(i:Int)) (by omega) hz ?_;intro w2;obtain⟨rk,iN,iU⟩:=gq (w:=v) (z:=de.1) (cs:=z.1) (t:=ai) (by rw [z.2.1];rfl);refine⟨⟨z.2.1,z.2.one,fun j hj=>rk j (by rw [z.2.1];exact hj)⟩,?_⟩;intro w3 w4
  replace iN:w3.heap[v.heap.size]? =some (.cells z.1 ai (0,0)):=iN
  replace iU:Kept Nil v w3:=iU
  have k4:Kept Nil w3 w4:=(Kept.refl _ _).drew;clear_value w4;have qN:=k4.heap iN (fun h=>h);have Mh:=iU.trans k4 (fun _ _ h=>h);clear_value w3;have o7:=kv.trans Mh (fun _ _ h=>h.elim);have M1: ∀ {u:World},Kept (· =xb) y u->Cells u ⟨sb,0,none⟩ s.1:=fun ku=>Cells.bA (ku.heap EC Pc);have next: ∀ {u:World} {M':List HT} {A':Option Addr} {n' uR:Nat},VJ u B0 xb rb ⟨s,G.score s+1,M',[]⟩ A' n' uR none 0 0 W nw cw wd->SO G M'->(∀z,z∈M'↔z∈all.take (i+1)/\z≠s/\ ¬eT G.D z s)->Kept (· =xb) y u->
   ∃s1:Int,IntKind.i64.wrap ((i:Int)+(1:Int))=s1/\(∃(i:Nat) (M:List HT) (A:Option Addr) (n cp:Nat),s1=(i:Int)/\i<=na/\VJ u B0 xb rb ⟨s,G.score s+1,M,[]⟩ A n cp none 0 0 W nw cw wd/\SO G M/\(∀z,z∈M↔z∈all.take i/\z≠s/\ ¬eT G.D z s)/\Kept (· =xb) y u)/\((na:Int)-s1).toNat<((na:Int)-(i:Int)).toNat:=fun h1 h2 h3 h4=>by
   rw [dG (n:=(i:Int)) (by omega) (by omega)];exact⟨(i:Int)+1,rfl,⟨i+1,_,_,_,_,rfl,dN,h1,h2,h3,h4⟩,by omega⟩
  have skip:(z=s\/eT G.D z s)-> ∀z',z'∈M↔z'∈all.take (i+1)/\z'≠s/\ ¬eT G.D z' s:=fun Xm z'=>by
   rw [gJ,Ea,List.mem_append,List.mem_singleton];constructor
   ·rintro⟨a,b⟩;exact⟨.inl a,b⟩
   ·rintro⟨a|rfl,b,c⟩
    ·exact⟨a,b,c⟩
    ·rcases Xm with e|e
     ·exact absurd e b
     ·exact absurd e c
  refine⟨z.1,⟨z.2.1,Cells.bA qN⟩,s.1,⟨s.2.1,M1 o7⟩,⟨z.2.ints,s.2.ints⟩,?_⟩;rw [cQ];refine Split.dec (fun Cj=>?_) (fun Cj=>?_)
  ·obtain⟨s1,e1,e2,e3⟩:=next (Vv.same Mh) DS (skip (.inl Cj)) o7
   rw [e1];exact⟨s1,rfl,e2,e3⟩
  have Vz:=hR o7;refine Is.mk rfl ⟨_,Vz.c1,Is.mk rfl ⟨z.1,⟨z.2.1,Cells.bA qN⟩,s.1,⟨s.2.1,M1 o7⟩,?_⟩⟩;rw [add_zero];refine pB Vz.X.gr h.fO.W (by omega) z s fun w5 b hb k5=>⟨b,rfl,?_⟩;have Mg:=Mh.trans k5 (fun _ _ h=>h);have uZ:=kv.trans Mg (fun _ _ h=>h.elim);refine Split.mk (fun hbt=>?_) (fun Vw=>?_)
  ·obtain⟨s1,e1,e2,e3⟩:=next (Vv.same Mg) DS (skip (.inr (hb.1 hbt))) uZ
   rw [e1];exact⟨s1,rfl,e2,e3⟩
  have hzA: ¬eT G.D z s:=fun e=>by rw [hb.2 e]at Vw;cases Vw
  have V5:=Vv.same Mg;have lU:=k5.heap qN (fun h=>h);have hzM:z∉M:=fun e=>by
   have h1:=((gJ z).1 e).1;have fy:=hSS.nodup;obtain⟨q,hq⟩:=List.mem_iff_getElem?.1 h1;rw [List.getElem?_take]at hq;split at hq
   ·rename_i hqi
    have:=(List.getElem?_inj (i:=q) (j:=i) (by rw [Jb];omega) fy).1 (by rw [hq,hz]);omega
   ·cases hq
  refine⟨A,n,cp,V5.f33,?_⟩;refine ae.gI (I:=fun st u=> ∃q:Nat,st=(q:Int)/\q<=M.length/\(∀y∈M.drop q,gl G z y=true)/\Kept Nil w5 u) (μ:=fun st _=>st.toNat) (s:=(n:Int)) ⟨n,rfl,by omega,by rw [<-hMn];simp,Kept.refl _ _⟩ ?_;rintro st u ⟨q,rfl,hq,ug,ku⟩;unfold ae.B2;have uf: ∀ {t:World},Kept Nil w5 t->(∀y∈M.take q,gl G y z=true)->ae.iu (some ⟨r,0,none⟩) ⟨sb,0,none⟩ ⟨rb,0,none⟩ none 0 0 ⟨xb,0,none⟩ W nw cw AA na ca (i:Int) ⟨v.heap.size,0,none⟩ (q:Int) (bK (ae.e1 (some ⟨r,0,none⟩) ⟨sb,0,none⟩ ⟨rb,0,none⟩ none 0 0 ⟨xb,0,none⟩ W nw cw AA na ca) (fun st v=> ∃(i:Nat) (M:List HT) (A:Option Addr) (n cp:Nat),st=(i:Int)/\i<=na/\VJ v B0 xb rb ⟨s,G.score s+1,M,[]⟩ A n cp none 0 0 W nw cw wd/\SO G M/\(∀z,z∈M↔z∈all.take i/\z≠s/\ ¬eT G.D z s)/\Kept (· =xb) y v) (fun st _=>((na:Int)-st).toNat) (i:Int) v (ae.q1 K)) t:=by
   intro t kt Gm;have Vt:=V5.same kt;have QD:=uZ.trans kt (fun _ _ h=>h.elim);have st:=QD.size;have wC:=Vt.mg;have GL:n<=cp:=by rcases Row.own wC with⟨_,h1,h2,_⟩|⟨_,_,_,_,_,h1,_⟩<;>omega
   unfold ae.iu;refine⟨A,n,cp,Vt.f33,⟨by omega,by omega⟩,?_⟩;have ow:HS t (if cp=0 then A else A.map (·.add (0*32))) ((q:Int).toNat -0) (M.take q):=by
    have h:=wC.hs.take (k:=q) (by omega);rw [Nat.sub_zero,Int.toNat_natCast];have e:(if cp=0 then A else A.map (·.add (0*32)))=A:=by
     split
     ·rfl
     ·cases A<;>simp [add_zero]
    rw [e];exact h
   obtain⟨A1,c1,u2,kF,fX,Jn,lK⟩:=cD (cx:=cp-0) ay (bQ.nil t t.heap.size) ow (by simp;omega) (Nat.le_refl _);have k2:Kept Nil t u2:=Kept.dw (Kept.refl _ _) Jn (fun k hk=>by cases hk);rw [Nat.zero_add,Nat.sub_zero,Int.toNat_natCast]at kF fX;rw [List.nil_append]at fX;refine⟨A1,_,c1,u2,by rw [Nat.sub_zero,Int.toNat_natCast];exact kF,?_⟩;refine⟨z.1,⟨z.2.1,Cells.bA ((kt.trans k2 (fun _ _ h=>h)).heap lU (fun h=>h))⟩,z.2.1,?_⟩;intro u3;have k3:Kept Nil u2 u3:=(Kept.refl _ _).alloc _;have Tl:HS u3 (some ⟨u2.heap.size,0,none⟩) 1 [z]:=iW u2 z;clear_value u3;have kK:bQ u3 t.heap.size A1 q c1 (M.take q):=Row.aD fX k3 (fun _ _ h=>h);have s2:=k2.size;have s3:=k3.size;obtain⟨A4,c4,u4,uP,iO,Cw,ag4⟩:=cD (cx:=1) ay kK Tl (by omega) (by omega);have IL:Kept Nil t u4:=Kept.dw (k2.trans k3 (fun _ _ h=>h)) Cw (fun k hk=>by rcases lK k hk with h|h;cases h;exact h);have V4:=Vt.same IL;refine⟨A4,_,c4,u4,uP,A,n,cp,V4.f33,⟨by omega,by omega⟩,?_⟩;have KN:HS u4 (if cp=(q:Int).toNat then A else A.map (·.add ((q:Int).toNat*32))) (n-(q:Int).toNat) (M.drop q):=by
    rw [Int.toNat_natCast];exact(wC.hs.same IL).drop GL (by omega)
   have hdl:(n-(q:Int).toNat)=n-q:=by rw [Int.toNat_natCast]
   have s4:=IL.size;obtain⟨A5,c5,u5,rp,kl,SH,ag3⟩:=cD (cx:=cp-(q:Int).toNat) ay iO KN (by omega) s4;have Oq: ∀j,bg A4=some j->t.heap.size<=j:=fun j hj=>(Row.bA iO hj).1;have k5':Kept Nil t u5:=Kept.dw IL SH Oq;have EN:=Vt.same k5';refine⟨A5,_,c5,u5,rp,EN.wrx (by omega),?_⟩;have lR:M.take q++ [z]++M.drop q=M.take q++z::M.drop q:=by simp
   have xo:(M.take q++z::M.drop q).length=n+1:=by simp;omega
   rw [lR]at kl;have e5:q+1+(n-(q:Int).toNat)=n+1:=by omega
   rw [e5]at kl⊢;have D5: ∀j,bg A5=some j->t.heap.size<=j:=fun j hj=>(Row.bA kl hj).1;have ks:=EN.LW 33 (.slice A5 (n+1) c5);have Vf:VJ (u5.setCell ((⟨xb,0,none⟩:Addr).add 33) (.slice A5 (n+1) c5)) B0 xb rb ⟨s,G.score s+1,M.take q++z::M.drop q,[]⟩ A5 (n+1) c5 none 0 0 W nw cw wd:=by
    have xB:=EN.xB;refine⟨?_,?_,Row.aD EN.bl ks (fun j hj=>by cases hj),Row.aD EN.wr ks (fun j hj e=>by have:=(Row.bA EN.wr hj).1;omega),ks.heap EN.box EN.xr.symm,fun j hj e=>(by cases e),fun j hj e=>?_,fun j hj=>(by cases hj),EN.xB,EN.rB,EN.xr⟩
    ·rw [a8,cR EN.top]
     have:=pP ⟨s,G.score s+1,M,[]⟩ A n cp none 0 0 #[] A5 (n+1) c5;rw [Array.append_empty,Array.append_empty]at this;rw [this];rfl
    ·have Rv:bQ u5 B0 A5 (n+1) c5 (M.take q++z::M.drop q):=Row.base kl (fun j hj=>by have:=D5 j hj;omega)
     exact Row.aD Rv ks (fun j hj e=>by have:=D5 j hj;omega)
    ·obtain⟨_,cur,hc⟩:=Row.bA Vt.wr e
     have:=aT hc;have:=D5 j hj;omega
   generalize u5.setCell ((⟨xb,0,none⟩:Addr).add 33) (.slice A5 (n+1) c5)=u6 at ks Vf⊢;obtain⟨s1,e1,e2,e3⟩:=next Vf (OK DS Gm ug) (fun z'=>by
    rw [Ea,List.mem_append (s:=all.take i),List.mem_singleton];have hM2:z'∈M.take q++z::M.drop q↔z'=z\/z'∈M:=by
     rw [List.mem_append,List.mem_cons];constructor
     ·rintro(h|h|h)
      ·exact .inr (List.mem_of_mem_take h)
      ·exact .inl h
      ·exact .inr (List.mem_of_mem_drop h)
     ·rintro(h|h)
      ·exact .inr (.inl h)
      ·rw [<-List.take_append_drop q M,List.mem_append]at h
       exact h.imp (fun h=>h) (fun h=>.inr h)
    rw [hM2,gJ];constructor
    ·rintro(rfl|⟨a,b⟩)
     ·exact⟨.inr rfl,Cj,hzA⟩
     ·exact⟨.inl a,b⟩
    ·rintro⟨a|rfl,b⟩
     ·exact .inr ⟨a,b⟩
     ·exact .inl rfl) ((QD.trans k5' (fun _ _ h=>h.elim)).trans ks (fun _ _ h=>h))
   rw [e1];exact⟨s1,rfl,e2,e3⟩
  intro w6;have k6:Kept Nil u w6:=(Kept.refl _ _).drew;clear_value w6;have HH:=ku.trans k6 (fun _ _ h=>h);have V6:=V5.same HH;have HG:=uZ.trans HH (fun _ _ h=>h.elim);refine Split.dec (fun iK=>?_) (fun yG=>?_)
  ·have RH:0<q:=by omega
   obtain⟨y1,MQ⟩: ∃y1,M[q-1]? =some y1:=⟨_,List.getElem?_eq_getElem (by omega)⟩;have Ky:=List.mem_of_getElem? MQ;rw [wN (x:=(q:Int)-1) (i:=q-1) (by omega) (by omega)];refine⟨z.1,⟨z.2.1,Cells.bA (HH.heap lU (fun h=>h))⟩,A,n,cp,V6.f33,(bQ.hs V6.mg).load (i:=((q-1:Nat):Int)) (by omega) (by rw [Int.toNat_natCast];exact MQ) ?_⟩;refine lO (hR HG) (by omega) MO (hMi y1 Ky) fun w7 k7=>⟨_,rfl,?_⟩;have ku7:=HH.trans k7 (fun _ _ h=>h);refine Split.mk (fun hc=>?_) (fun hc=>?_)
   ·refine⟨((q-1:Nat):Int),rfl,⟨q-1,rfl,by omega,fun z' xm=>?_,ku7⟩,by simp only;omega⟩
    have hd:M.drop (q-1)=y1::M.drop q:=by
     obtain⟨h1,h2⟩:=List.getElem?_eq_some_iff.1 MQ;rw [List.drop_eq_getElem_cons h1,h2,show q-1+1=q by omega]
    rw [hd]at xm;rcases List.mem_cons.1 xm with rfl|xm
    ·exact hc
    ·exact ug z' xm
   ·rw [aS,ae.jF]
    refine uf ku7 fun z' xm=>?_;have Ck:gl G y1 z=true:=by
     cases hg:gl G y1 z
     ·exact absurd (oA hc hg) (fun e=>hzM (by rw [e];exact Ky))
     ·rfl
    obtain⟨j,hj⟩:=List.mem_iff_getElem?.1 xm;rw [List.getElem?_take]at hj;split at hj
    ·rename_i hjq
     by_cases e:j=q-1
     ·subst e;rw [MQ]at hj;cases hj;exact Ck
     ·obtain⟨a1,a2⟩:=List.getElem?_eq_some_iff.1 hj
      obtain⟨b1,b2⟩:=List.getElem?_eq_some_iff.1 MQ;have:=List.pairwise_iff_getElem.1 DS j (q-1) a1 b1 (by omega);rw [a2,b2]at this;exact oz this Ck
    ·cases hj
  ·rw [aS,ae.jF]
   have RH:q=0:=by omega
   refine uf HH fun z' xm=>?_;rw [RH]at xm;simp at xm
 ·rw [aS,ae.cZ]
  rw [List.take_of_length_le (by omega)]at gJ;exact hK v A n cp M (i:Int) DS gJ Vv kv
end
end Go.Proofs.YtnboahlopghcjaaGreatDoor
namespace Go.Proofs.YtnboahlopghcjaaGreatDoor
open Go.Proofs.Tryz
open Go Go.bS Go.RowKit
section
variable{w w':World}{F F' S:Nat->Prop}{r x k:Nat}{G:GS}{K:Value->World->Prop}{xb rb sb n cx:Nat}{A:Option Addr}{s:HT}{l:List HT}
theorem LL{v:World}(h:R3 v F r x k G)(hD:G.D.length<=300)(nf:k<=1000)(hs:s∈ids G.D)(hl:HS v A n l)(hn:n<=5000)(fh: ∀z∈l,z∈ids G.D)(gD: ∀j,(j=r\/j=x\/F j)->j≠xb/\j≠rb)
 (EC:v.heap[sb]? =some (.cells s.1 ai (0,0))) (yD:v.heap[rb]? =some (.cells zC bj (0,0))) (Rc:v.heap[xb]? =some (.cells (cC ⟨s,G.score s+1,[],[]⟩ none 0 0 none 0 0) bj (0,0))) (Pc:sb≠xb) (hrx:xb≠rb)
 (hK: ∀u A n cp E e ce W nw cw,bQ u v.heap.size A n cp (cu k G s l).merge->Row u v.heap.size gM 1 E e ce (qO (cu k G s l).dM)->bQ u v.heap.size W nw cw (eU k G s l).wd->Kept (fun j=>j=xb\/j=rb) v u->K (.tuple #[.agg (cC (cu k G s l) A n cp E e ce),.slice W nw cw]) u):
 ae.J1 (some ⟨r,0,none⟩) A n cx ⟨sb,0,none⟩ ⟨rb,0,none⟩ none 0 0 ⟨xb,0,none⟩ K v:=by
 have W0:=h.fO.W;have lsb:=aT EC;have lrb:=aT yD;have lxb:=aT Rc;have hwl:=qQ h.fO hs;have j2: ∀ {u:World} {W:Option Addr} {nw cw:Nat},bQ u v.heap.size W nw cw (G.world s++ [s])->Kept Nil v u->ae.J2 (some ⟨r,0,none⟩) A n cx ⟨sb,0,none⟩ ⟨rb,0,none⟩ none 0 0 ⟨xb,0,none⟩ W nw cw K u:=by
  intro u W nw cw Wy ku;have hu:=h.same ku;have su:=ku.size;unfold ae.J2;refine Is.mk rfl ⟨_,hu.c1,Is.mk rfl ?_⟩;rw [add_zero];refine xX hu.X.gr W0 (by omega) (hl.same ku) (by omega) fun A1 c1 w1 mc k1=>⟨A1,_,c1,rfl,?_⟩;have pV:(dP G.D l).length<=300:=Nat.le_trans (me _ _) hD;have s1:=k1.size;have B7:=ku.trans k1 (fun _ _ h=>h);obtain⟨A2,c2,w2,ji,fX,g2,_⟩:=cD ay mc (cx:=cx) (hl.same B7) (by omega) s1;have k2:Kept Nil u w2:=Kept.dw k1 g2 (fun j hj=>(Row.bA mc hj).1);refine⟨A2,_,c2,w2,ji,?_⟩;refine pz fX.hs (by omega) fun A3 c3 w3 kK k3=>⟨A3,_,c3,rfl,?_⟩;have Kj:=k2.trans k3 (fun _ _ h=>h);have qm:=ku.trans Kj (fun _ _ h=>h);have h3:=h.same qm;have cP: ∀z∈df (dP G.D l++l),z∈ids G.D:=fun z hz=>by
   rcases List.mem_append.1 (dv.1 hz)with hz|hz
   ·exact(iS.1 hz).1
   ·exact fh z hz
  have V3:VJ w3 v.heap.size xb rb ⟨s,G.score s+1,[],[]⟩ none 0 0 none 0 0 W nw cw (G.world s++ [s]):=
   ⟨qm.heap Rc (fun h=>h),bQ.nil _ _,Row.nil _ _ _ _,Row.aD Wy Kj (fun _ _ h=>h),qm.heap yD (fun h=>h),fun j hj=>(by cases hj),fun j hj=>(by cases hj),fun j hj=>(by cases hj),lxb,lrb,hrx⟩
  have s3:=qm.size;refine CX h3 (by omega) (by omega) (fun j hj=>(gD j hj).1) hs (qm.heap EC (fun h=>h)) Pc kK.hs (fun a ha e=>by
   subst ha;have:=(Row.bA kK (k:=a.block) rfl).1;have:=(ku.trans k2 (fun _ _ h=>h)).size;omega) (ig _) cP V3 fun t A n cp M i DS gJ Vt kt=>?_
  have hM:M=ct G s l:=ra DS fun z=>by
   rw [gJ];unfold q9;rw [List.mem_filter,decide_eq_true_eq]
  subst hM;have ht:=h3.aD kt (gD r (.inl rfl)).1 (gD x (.inr (.inl rfl))).1 (fun j hj=>(gD j (.inr (.inr hj))).1);have st:=kt.size;refine CW (B0:=v.heap.size) ht (by omega) nf (by omega) (fun j hj=>⟨?_,gD j hj⟩) (fun z hz=>?_) hs Vt fun t2 E e ce W nw cw V2 Ae=>?_
  ·rcases hj with rfl|rfl|hj
   ·exact h.lt
   ·exact h.lx
   ·exact h.lo j hj
  ·exact cP z ((gJ z).1 hz).1
  ·have box:=V2.box
   obtain⟨_,_,f3⟩:=dH box (cs:=cC (cu k G s l) A n cp E e ce) (by rw [a7];rfl);refine hK _ A n cp E e ce W nw cw (Row.aD V2.mg f3 (fun j hj e=>by have:=(Row.bA V2.mg hj).1;omega)) (Row.aD V2.bl f3 (fun j hj e=>by have:=(Row.bA V2.bl hj).1;omega)) (Row.aD V2.wr f3 (fun j hj e=>by have:=(Row.bA V2.wr hj).1;omega)) ?_;exact((qm.mono fun _ _ h=>h.elim).trans kt (fun j hj e=>.inl e)).trans Ae (fun j hj e=>by
    rcases e with e|e|e
    ·exact .inl e
    ·exact .inr e
    ·omega)
 unfold ae.J1;intro w1;have k1:Kept Nil v w1:=(Kept.refl _ _).drew;clear_value w1;have h1:=h.same k1;obtain⟨i,nd,cl,wl,q1,q2,q3,q4,q5,q6,q7,q8⟩:=Lw h.fO hs;obtain⟨A0,c0,B,e,g1,g2,g3⟩:=h.top;have cB: ∀ {u:World},Kept Nil v u->u.cell? ((⟨r,0,none⟩:Addr).add 3)=some (.slice B G.D.length e):=fun ku=>by rw [a8,ax (ku.heap g1 (fun h=>h))];rfl
 have gW: ∀ {u:World},Kept Nil v u->oJ u F B G.D.length G.jt:=fun ku=>g3.aD ku (fun _ _ h=>h);obtain⟨aB,Aw,nw,cw,p1,p2,p3,p4,p5,p6⟩:=g3.at_ i wl q4;subst p1;have afh:wl.length=nw:=p5.len;rw [q7]at hwl;have cW: ∀ {u:World},Kept Nil v u->u.cell? (aB.add (((i:Nat):Int).toNat*1))=some (.slice Aw nw cw):=fun ku=>by rw [Int.toNat_natCast];exact ku.cell p4 (fun h=>h)
 have hW: ∀ {u:World},Kept Nil v u->HS u Aw nw wl:=fun ku=>p5.same ku;have bx: ∀ {u:World},Kept Nil v u-> ∃cs:Array Value,(.agg s.1:Value)=.agg cs/\cs.size=32/\Cells u ⟨sb,0,none⟩ cs:=fun ku=>⟨_,rfl,s.2.1,Cells.bA (ku.heap EC (fun h=>h))⟩;have OE: ∀ {u:World},Kept Nil v u-> ∃A' c' u',(Builtin.append_ #[ay,ay] ay #[.slice none 0 0,.slice Aw nw cw]).run prog u=.ok (.slice A' nw c') u'/\bQ u' v.heap.size A' nw c' wl/\Kept Nil u u':=fun {u} ku=>by
  obtain⟨A',c',u',hr,row,hg,_⟩:=cD (cx:=cw) ay (bQ.nil u v.heap.size) (hW ku) (by omega) ku.size;rw [Nat.zero_add]at hr row;rw [List.nil_append]at row;exact⟨A',c',u',hr,row,Kept.dw (Kept.refl _ _) hg (fun j hj=>by cases hj)⟩
 have OD: ∀ {u:World} {A':Option Addr} {c' bq:Nat},Kept Nil v u->bQ u v.heap.size A' nw c' wl->HS u (some ⟨bq,0,none⟩) 1 [s]-> ∃A2 c2 u',(Builtin.append_ #[ay,ay] ay #[.slice A' nw c',.slice (some ⟨bq,0,none⟩) 1 1]).run prog u=.ok (.slice A2 (nw+1) c2) u'/\bQ u' v.heap.size A2 (nw+1) c2 (G.world s++ [s])/\Kept Nil v u':=fun {u A' c' bq} ku row hx=>by
  obtain⟨A2,c2,u',hr,fX,hg,_⟩:=cD (cx:=1) ay row hx (by omega) ku.size;rw [<-q7]at fX;exact⟨A2,c2,u',hr,fX,Kept.dw ku hg (fun j hj=>(Row.bA row hj).1)⟩
 refine Is.mk rfl ⟨some aB,_,e,cB k1,Is.mk rfl ⟨_,h1.c1,Is.mk rfl ⟨s.1,⟨s.2.1,Cells.bA (k1.heap EC (fun h=>h))⟩,s.1,⟨s.2.1,Cells.bA (k1.heap EC (fun h=>h))⟩,?_,?_⟩⟩⟩
 ·rw [add_zero]
  refine nY h1.X.gr (by omega) s fun w2 k2=>⟨_,rfl,?_⟩;have xl:=k1.trans k2 (fun _ _ h=>h);rw [q5];refine⟨bx xl,cB xl,⟨by omega,by omega⟩,Is.mk rfl ⟨Aw,nw,cw,cW xl,?_,?_⟩⟩
  ·obtain⟨A1,c1,w3,Cn,kK,k3⟩:=OE xl
   have qm:=xl.trans k3 (fun _ _ h=>h);refine⟨A1,nw,c1,w3,Cn,bx qm,s.2.1,?_⟩;intro w4;have k4:Kept Nil w3 w4:=(Kept.refl _ _).alloc _;have Re:=iW w3 s;obtain⟨A2,c2,w5,rp,kl,k5⟩:=OD (qm.trans k4 (fun _ _ h=>h)) (Row.aD kK k4 (fun _ _ h=>h)) Re;exact⟨A2,nw+1,c2,w5,rp,ae.pj (j2 kl k5)⟩
  ·refine⟨s.2.1,?_⟩
   intro w3;have k3:Kept Nil w2 w3:=(Kept.refl _ _).alloc _;have zt:HS w3 (some ⟨w2.heap.size,0,none⟩) 1 [s]:=iW w2 s;clear_value w3;have qm:=xl.trans k3 (fun _ _ h=>h);obtain⟨A1,c1,w4,uP,iO,k4⟩:=OE qm;obtain⟨A2,c2,w5,rp,kl,k5⟩:=OD (qm.trans k4 (fun _ _ h=>h)) iO (zt.same k4);exact⟨cW qm,cB qm,A1,nw,c1,w4,uP,A2,nw+1,c2,w5,rp,ae.pj (j2 kl k5)⟩
 ·refine⟨s.2.1,?_⟩
  intro w2;have k2:Kept Nil w1 w2:=(Kept.refl _ _).alloc _;have KD:HS w2 (some ⟨w1.heap.size,0,none⟩) 1 [s]:=iW w1 s;clear_value w2;have xl:=k1.trans k2 (fun _ _ h=>h);refine⟨bx xl,(h.same xl).c1,cB xl,?_⟩;rw [add_zero];refine nY (h.same xl).X.gr (by omega) s fun w3 k3=>⟨_,rfl,?_⟩;have qm:=xl.trans k3 (fun _ _ h=>h);rw [q5];obtain⟨A1,c1,w4,uP,iO,k4⟩:=OE qm;obtain⟨A2,c2,w5,rp,kl,k5⟩:=OD (qm.trans k4 (fun _ _ h=>h)) iO ((KD.same k3).same k4);exact⟨cB qm,⟨by omega,by omega⟩,Is.mk rfl ⟨Aw,nw,cw,cW qm,A1,nw,c1,w4,uP,A2,nw+1,c2,w5,rp,ae.pj (j2 kl k5)⟩⟩
theorem pf(h:R3 w F r x k G)(hD:G.D.length<=300)(nf:k<=1000)(hs:s∈ids G.D)(hl:HS w A n l)(hn:n<=5000)(fh: ∀z∈l,z∈ids G.D)
 (hK: ∀u A n cp E e ce W nw cw,bQ u w.heap.size A n cp (cu k G s l).merge->Row u w.heap.size gM 1 E e ce (qO (cu k G s l).dM)->bQ u w.heap.size W nw cw (eU k G s l).wd->Kept Nil w u->K (.tuple #[.agg (cC (cu k G s l) A n cp E e ce),.slice W nw cw]) u):
 bk prog ae.id #[.pointer (some ⟨r,0,none⟩),.agg s.1,.slice A n cx] w K:=by
 refine ae.of ?_;unfold ae.W;intro w1 w2 w3;have k1:Kept Nil w w1:=(Kept.refl _ _).alloc _;have ow:w1.heap[w.heap.size]? =some (.cells s.1 ai (0,0)):=aH w _;have k2:Kept Nil w1 w2:=(Kept.refl _ _).alloc _;have ji:w2.heap[w1.heap.size]? =some (.cells zC bj (0,0)):=aH w1 _;have k3:Kept Nil w2 w3:=(Kept.refl _ _).drew;clear_value w3;have Cn:=k3.heap ji (fun h=>h);have An:=k3.heap (k2.heap ow (fun h=>h)) (fun h=>h);have mi:=(k1.trans k2 (fun _ _ h=>h)).trans k3 (fun _ _ h=>h);have s1:=k1.size;have l1:=aT ow;have l2:=aT Cn;clear_value w2 w1;have Cm:=xO h.fO hs;have ew:IntKind.u64.wrap ((G.score s:Int)+(1:Int))=((G.score s+1:Nat):Int):=by
  rw [show(G.score s:Int)+1=((G.score s+1:Nat):Int)by omega];exact iY (by omega)
 have Eb:(s.1++ #[.int .u64 ((G.score s+1:Nat):Int),.slice none 0 0,.slice none 0 0]:Array Value)=cC ⟨s,G.score s+1,[],[]⟩ none 0 0 none 0 0:=rfl;have go: ∀ {u:World} {xb:Nat},Kept Nil w3 u->w3.heap.size<=xb->u.heap[xb]? =some (.cells (cC ⟨s,G.score s+1,[],[]⟩ none 0 0 none 0 0) bj (0,0))->ae.J1 (some ⟨r,0,none⟩) A n cx ⟨w.heap.size,0,none⟩ ⟨w1.heap.size,0,none⟩ none 0 0 ⟨xb,0,none⟩ K u:=fun {u xb} ku hx Rc=>by
  have U1:=mi.trans ku (fun _ _ h=>h);have s0:=mi.size;refine LL (h.same U1) hD nf hs (hl.same U1) hn fh (fun j hj=>?_) (ku.heap An (fun h=>h)) (ku.heap Cn (fun h=>h)) Rc (by omega) (by omega) fun t A n cp E e ce W nw cw g1 g2 g3 g4=>?_
  ·have:j<w.heap.size:=by
    rcases hj with rfl|rfl|hj
    ·exact h.lt
    ·exact h.lx
    ·exact h.lo j hj
   exact⟨by omega,by omega⟩
  ·have s0u:=U1.size
   exact hK t A n cp E e ce W nw cw (Row.base g1 (fun j hj=>by have:=(Row.bA g1 hj).1;omega)) (Row.base g2 (fun j hj=>by have:=(Row.bA g2 hj).1;omega)) (Row.base g3 (fun j hj=>by have:=(Row.bA g3 hj).1;omega)) (U1.trans g4 (fun j hj e=>by rcases e with e|e<;>omega))
 have bx: ∀ {u:World},Kept Nil w3 u-> ∃cs:Array Value,(.agg s.1:Value)=.agg cs/\cs.size=32/\Cells u ⟨w.heap.size,0,none⟩ cs:=fun ku=>⟨_,rfl,s.2.1,Cells.bA (ku.heap An (fun h=>h))⟩;refine⟨s.1,⟨s.2.1,Cells.bA An⟩,s.1,⟨s.2.1,Cells.bA An⟩,?_,?_⟩
 ·refine jz (h.same mi) (by omega) hs fun w4 k4=>⟨_,rfl,bx k4,?_⟩
  rw [ew,uH s];refine Is.mk rfl ?_;rw [Eb];intro w5;have k5:Kept Nil w4 w5:=(Kept.refl _ _).alloc _;have KC:w5.heap[w4.heap.size]? =some (.cells zC bj (0,0)):=aH w4 _;clear_value w5;have mH:=k4.trans k5 (fun _ _ h=>h);obtain⟨t1,t2,t3⟩:=dH KC (cs:=cC ⟨s,G.score s+1,[],[]⟩ none 0 0 none 0 0) (by rw [a7];rfl);refine⟨bx mH,⟨a7 ..,dL _ _ _ _ _ _ _,fun j hj=>t1 j (by rw [a7];exact hj)⟩,?_⟩;have s4:=k4.size;exact ae.lj (go (mH.trans t3 (fun j hj e=>by omega)) s4 t2)
 ·intro w4
  have k4:Kept Nil w3 w4:=(Kept.refl _ _).alloc _;have Re:w4.heap[w3.heap.size]? =some (.cells zC bj (0,0)):=aH w3 _;clear_value w4;refine⟨bx k4,bx k4,?_⟩;refine jz (h.same (mi.trans k4 (fun _ _ h=>h))) (by omega) hs fun w5 k5=>⟨_,rfl,bx (k4.trans k5 (fun _ _ h=>h)),?_⟩;have mH:=k4.trans k5 (fun _ _ h=>h);rw [ew,uH s];refine Is.mk rfl ?_;rw [Eb];obtain⟨t1,t2,t3⟩:=dH (k5.heap Re (fun h=>h)) (cs:=cC ⟨s,G.score s+1,[],[]⟩ none 0 0 none 0 0) (by rw [a7];rfl);refine⟨⟨a7 ..,dL _ _ _ _ _ _ _,fun j hj=>t1 j (by rw [a7];exact hj)⟩,?_⟩;exact ae.lj (go (mH.trans t3 (fun j hj e=>by omega)) (Nat.le_refl _) t2)
end
end Go.Proofs.YtnboahlopghcjaaGreatDoor
namespace Go.Proofs.YtnboahlopghcjaaGreatDoor
open Go.Proofs.Tryz
open Go Go.bS Go.RowKit
theorem BI:xu prog sM bj 35 88:=⟨by kernel_rfl,by kernel_rfl⟩
theorem P2:xu prog e9 ay 1 24:=⟨by kernel_rfl,by kernel_rfl⟩
section
variable{w w':World}{F F' S:Nat->Prop}{A:Option Addr}{n c B m bytes:Nat}{tS tE:TypeId}{news:List Value}
theorem xN{a:Addr}(P:Nat->Array Value->Prop): ∀n,(∀i,i<n-> ∃arr:Array Value,arr.size=m/\(∀u∈arr.toList,u.oneCell'=true)/\Cells w (a.add (i*m)) arr/\P i arr)->
 ∃news:List Value,news.length=n*m/\(∀j u,news[j]? =some u->w.cell? (a.add j)=some u)/\(∀u∈news,u.oneCell'=true)/\ ∀i,i<n-> ∃arr:Array Value,P i arr/\arr.size=m/\ ∀(j:Nat) v,arr[j]? =some v->news[i*m+j]? =some v
 |0,_=>⟨[],by simp,fun j u h=>by simp at h,fun u h=>by simp at h,fun i h=>by omega⟩
 |n+1,H=>by
  obtain⟨news,h1,h2,h3,h4⟩:=xN P n fun i hi=>H i (by omega);obtain⟨arr,g1,g2,g3,g4⟩:=H n (by omega);refine⟨news++arr.toList,by rw [List.length_append,h1,Array.length_toList,g1,Nat.add_mul,Nat.one_mul],fun j u hj=>?_,fun u hu=>?_,fun i hi=>?_⟩
  ·rw [List.getElem?_append]at hj
   split at hj
   ·exact h2 j u hj
   ·rename_i fV
    rw [h1]at hj fV;have:=g3 (j-n*m) u (by simpa using hj)
    rwa [kc,show n*m+(j-n*m)=j by omega]at this
  ·rcases List.mem_append.1 hu with hu|hu
   ·exact h3 u hu
   ·exact g2 u hu
  ·by_cases fh:i<n
   ·obtain⟨ar,q1,q2,q3⟩:=h4 i fh
    exact⟨ar,q1,q2,fun j v hj=>by
     have:=q3 j v hj;rw [List.getElem?_append_left (List.getElem?_eq_some_iff.1 this).1];exact this⟩
   ·obtain rfl:i=n:=by omega
    exact⟨arr,g4,g1,fun j v hj=>by
     rw [List.getElem?_append_right (by omega),h1,show i*m+j-i*m=j by omega,Array.getElem?_toList];exact hj⟩
theorem xf(T:xu prog tS tE m bytes)(hb:bytes<=1000)(hn:n<=100000){a:Addr}{cx:Nat}(P:Nat->Array Value->Prop)(H: ∀i,i<n-> ∃arr:Array Value,arr.size=m/\(∀u∈arr.toList,u.oneCell'=true)/\Cells w (a.add (i*m)) arr/\P i arr):
 ∃A' c' w' news,(Builtin.append_ #[tS,tS] tS #[.slice none 0 0,.slice (some a) n cx]).run prog w=.ok (.slice A' n c') w'/\Row w' w.heap.size tE m A' n c' news/\Kept Nil w w'/\ ∀i,i<n-> ∃arr:Array Value,P i arr/\arr.size=m/\ ∀(j:Nat) v,arr[j]? =some v->news[i*m+j]? =some v:=by
 obtain⟨news,e1,e2,e3,e4⟩:=xN (w:=w) (m:=m) P n H;obtain⟨A',c',w',hr,eM,hg,_⟩:=e8 (P:=prog) (ty:=tS) T (Row.nil w w.heap.size _ _) (a:=a) (m:=n) (cx:=cx) (news:=news) e1 e2 e3 (by rw [Nat.zero_add];have:=Nat.mul_le_mul hn hb;omega) (by unfold maxLen;omega) (Nat.le_refl _);rw [Nat.zero_add]at hr eM;rw [List.nil_append]at eM;exact⟨A',c',w',news,hr,eM,Kept.dw (Kept.refl _ _) hg (fun j hj=>by cases hj),e4⟩
theorem xe(T:xu prog tS tE m bytes)(hb:bytes<=1000)(hn:n<=100000)(h:Row w B tE m A n c news)(hB:B<=w.heap.size){b:Nat}{arr:Array Value}{t:TypeId}(iN:w.heap[b]? =some (.cells arr t (0,0)))(hs:arr.size=m)(h1: ∀u∈arr.toList,u.oneCell'=true):
 ∃A' c' w',(Builtin.append_ #[tS,tS] tS #[.slice A n c,.slice (some ⟨b,0,none⟩) 1 1]).run prog w=.ok (.slice A' (n+1) c') w'/\Row w' B tE m A' (n+1) c' (news++arr.toList)/\w.grownBy w' (bg A):=by
 obtain⟨A',c',w',hr,eM,hg,_⟩:=e8 (P:=prog) (ty:=tS) T h (a:=⟨b,0,none⟩) (m:=1) (cx:=1) (news:=arr.toList) (by simpa using hs)
  (fun j u hj=>by rw [a8,Nat.zero_add,ax iN];simpa using hj) h1 (by have:=Nat.mul_le_mul (show n+1<=100001 by omega) hb;omega) (by unfold maxLen;omega) hB
 exact⟨A',c',w',hr,eM,hg⟩
def HA(w:World)(F:Nat->Prop)(l:List nN)(i:Nat)(arr:Array Value):Prop:= ∃x A1 n1 c1 B1 m1 d1,l[i]? =some x/\arr=cC x A1 n1 c1 B1 m1 d1/\HS w A1 n1 x.merge/\Bo w B1 m1 x.dM/\(∀b,A1=some b->F b.block)/\(∀b,B1=some b->F b.block)
def OJ(w:World)(F:Nat->Prop)(l:List (List HT))(i:Nat)(arr:Array Value):Prop:= ∃x A1 n1 c1,l[i]? =some x/\arr= #[.slice A1 n1 c1]/\HS w A1 n1 x/\(∀b,A1=some b->F b.block)
theorem pT.xN{l:List nN}(h:pT w F A n l):(0<n-> ∃a,A=some a)/\ ∀a,A=some a-> ∀i,i<n-> ∃arr:Array Value,arr.size=35/\(∀u∈arr.toList,u.oneCell'=true)/\Cells w (a.add (i*35)) arr/\HA w F l i arr:=by
 have hl:=h.len;refine⟨fun h0=>?_,fun a ha i hi=>?_⟩
 ·obtain⟨x,hx⟩: ∃x,l[0]? =some x:=⟨_,List.getElem?_eq_getElem (by omega)⟩
  obtain⟨a,_,_,_,_,_,_,g1,_⟩:=h.at_ 0 x hx;exact⟨a,g1⟩
 ·obtain⟨x,hx⟩: ∃x,l[i]? =some x:=⟨_,List.getElem?_eq_getElem (by omega)⟩
  obtain⟨a',A1,n1,c1,B1,m1,d1,g1,g2,g3,g4,g5,g6,g7,g8⟩:=h.at_ i x hx;rw [ha]at g1;cases g1;exact⟨_,a7 ..,dL _ _ _ _ _ _ _,g4,x,A1,n1,c1,B1,m1,d1,hx,rfl,g5,g6,g7,g8⟩
theorem oJ.xN{l:List (List HT)}(h:oJ w F A n l):(0<n-> ∃a,A=some a)/\ ∀a,A=some a-> ∀i,i<n-> ∃arr:Array Value,arr.size=1/\(∀u∈arr.toList,u.oneCell'=true)/\Cells w (a.add (i*1)) arr/\OJ w F l i arr:=by
 have hl:=h.len;refine⟨fun h0=>?_,fun a ha i hi=>?_⟩
 ·obtain⟨x,hx⟩: ∃x,l[0]? =some x:=⟨_,List.getElem?_eq_getElem (by omega)⟩
  obtain⟨a,_,_,_,g1,_⟩:=h.at_ 0 x hx;exact⟨a,g1⟩
 ·obtain⟨x,hx⟩: ∃x,l[i]? =some x:=⟨_,List.getElem?_eq_getElem (by omega)⟩
  obtain⟨a',A1,n1,c1,g1,g2,g3,g4,g5,g6⟩:=h.at_ i x hx;rw [ha]at g1;cases g1;refine⟨#[.slice A1 n1 c1],rfl,fun u hu=>?_,fun j u hj=>?_,x,A1,n1,c1,hx,rfl,g5,g6⟩
  ·simp at hu;subst hu;rfl
  ·cases j with
   |zero=>simp at hj;subst hj;rw [add_zero];exact g4
   |succ j=>simp at hj
theorem pT.snoc{l:List nN}{x:nN}{A1 B1:Option Addr}{n1 c1 m1 d1:Nat}{w0:World}(h:Row w B bj 35 A (n+1) c (news++(cC x A1 n1 c1 B1 m1 d1).toList))(xo:news.length=n*35)(hl:l.length=n)(k0:Kept Nil w0 w)(hF: ∀j,bg A=some j->F' j)(VA: ∀j,F j->F' j)
 (hc: ∀i,i<n-> ∃arr:Array Value,HA w0 F l i arr/\arr.size=35/\ ∀(j:Nat) v,arr[j]? =some v->news[i*35+j]? =some v)
 (g1:HS w A1 n1 x.merge) (g2:Bo w B1 m1 x.dM) (g3: ∀b,A1=some b->F' b.block) (g4: ∀b,B1=some b->F' b.block):pT w F' A (n+1) (l++ [x]):=by
 refine⟨by simp [hl],fun i y hi=>?_⟩;obtain⟨b,rfl⟩:=Row.some h (by omega);obtain⟨_,cur,ox⟩:=Row.bA h (k:=b) rfl;rw [List.getElem?_append]at hi;split at hi
 ·rename_i cH
  obtain⟨arr,⟨y',A2,n2,c2,B2,m2,d2,q1,rfl,q3,q4,q5,q6⟩,q7,q8⟩:=hc i (by omega);rw [hi]at q1;cases q1;exact⟨_,A2,n2,c2,B2,m2,d2,rfl,aT ox,hF b rfl,fun j v hj=>by
   rw [kc];have:=q8 j v hj;exact Row.cells h _ _ (by rw [List.getElem?_append_left (List.getElem?_eq_some_iff.1 this).1];exact this),q3.same k0,q4.same k0,fun b hb=>VA _ (q5 b hb),fun b hb=>VA _ (q6 b hb)⟩
 ·rename_i fV
  have DZ:i=n/\y=x:=by
   cases hk:i-l.length with
   |zero=>rw [hk]at hi;exact⟨by omega,by simpa using hi.symm⟩
   |succ k=>rw [hk]at hi;simp at hi
  obtain⟨rfl,rfl⟩:=DZ;exact⟨_,A1,n1,c1,B1,m1,d1,rfl,aT ox,hF b rfl,fun j v hj=>by
   rw [kc];exact Row.cells h _ _ (by rw [List.getElem?_append_right (by omega),xo,show i*35+j-i*35=j by omega,Array.getElem?_toList];exact hj),g1,g2,g3,g4⟩
theorem oJ.snoc{l:List (List HT)}{x:List HT}{A1:Option Addr}{n1 c1:Nat}{w0:World}(h:Row w B ay 1 A (n+1) c (news++(#[.slice A1 n1 c1]:Array Value).toList))(xo:news.length=n*1)(hl:l.length=n)(k0:Kept Nil w0 w)(hF: ∀j,bg A=some j->F' j)(VA: ∀j,F j->F' j)
 (hc: ∀i,i<n-> ∃arr:Array Value,OJ w0 F l i arr/\arr.size=1/\ ∀(j:Nat) v,arr[j]? =some v->news[i*1+j]? =some v)
 (g1:HS w A1 n1 x) (g3: ∀b,A1=some b->F' b.block):oJ w F' A (n+1) (l++ [x]):=by
 refine⟨by simp [hl],fun i y hi=>?_⟩;obtain⟨b,rfl⟩:=Row.some h (by omega);obtain⟨_,cur,ox⟩:=Row.bA h (k:=b) rfl;rw [List.getElem?_append]at hi;split at hi
 ·rename_i cH
  obtain⟨arr,⟨y',A2,n2,c2,q1,rfl,q3,q4⟩,q7,q8⟩:=hc i (by omega);rw [hi]at q1;cases q1;have:=q8 0 _ rfl;exact⟨_,A2,n2,c2,rfl,aT ox,hF b rfl,Row.cells h _ _ (by rw [Nat.add_zero]at this;rw [List.getElem?_append_left (List.getElem?_eq_some_iff.1 this).1];exact this),q3.same k0,fun b hb=>VA _ (q4 b hb)⟩
 ·rename_i fV
  have DZ:i=n/\y=x:=by
   cases hk:i-l.length with
   |zero=>rw [hk]at hi;exact⟨by omega,by simpa using hi.symm⟩
   |succ k=>rw [hk]at hi;simp at hi
  obtain⟨rfl,rfl⟩:=DZ;exact⟨_,A1,n1,c1,rfl,aT ox,hF b rfl,Row.cells h _ _ (by rw [List.getElem?_append_right (by omega),xo,show i*1-i*1=0 by omega];rfl),g1,g3⟩
end
section
variable{w w':World}{F:Nat->Prop}{r x k:Nat}{G:GS}{K:Value->World->Prop}
theorem wG(root:HT)(k:Nat)(hK: ∀v r x F,R3 v F r x k (cV root)->(∀j,F j->w.heap.size<=j)->w.heap.size<=r->w.heap.size<=x->Kept Nil w v->K (.pointer (some ⟨r,0,none⟩)) v):
 bk prog jk.id #[.int .i64 (k:Int),.agg root.1] w K:=by
 refine jk.of ?_;unfold jk.W;intro w1;have k1:Kept Nil w w1:=(Kept.refl _ _).alloc _;have xq:w1.heap[w.heap.size]? =some (.cells root.1 ai (0,0)):=aH w _;clear_value w1;refine⟨root.1,⟨root.2.1,Cells.bA xq⟩,?_⟩;refine wI root fun w2 x FX hX hFX hx k2=>⟨_,rfl,rfl,?_⟩;have mY:=k1.trans k2 (fun _ _ h=>h);intro w3 w4 w5;have k3:Kept Nil w2 w3:=(Kept.refl _ _).alloc _;have Tc:w3.heap[w2.heap.size]? =some (.cells zC bj (0,0)):=aH w2 _;have k4:Kept Nil w3 w4:=(Kept.refl _ _).alloc _;have hw4:w4.heap[w3.heap.size]? =some (.cells #[.slice none 0 0] ay (0,0)):=aH w3 _;have k5:Kept Nil w4 w5:=(Kept.refl _ _).alloc _;have ht5:w5.heap[w4.heap.size]? =some (.cells #[.int .i64 (k:Int),.pointer (some ⟨x,0,none⟩),.slice (some ⟨w2.heap.size,0,none⟩) 1 1,.slice (some ⟨w3.heap.size,0,none⟩) 1 1] fW (0,0)):=aH w4 _;clear_value w5;have Xx:=k5.heap hw4 (fun h=>h);have Zz:=k5.heap (k4.heap Tc (fun h=>h)) (fun h=>h);have FW:=(k3.trans k4 (fun _ _ h=>h)).trans k5 (fun _ _ h=>h);have s02:=mY.size;have l3:=aT Tc;have l4:=aT hw4;have l5:=aT ht5;have s1:=k1.size;have s2:=k2.size;have lx:=hX.lt;clear_value w4 w3;refine hK w5 w4.heap.size x (fun j=>FX j\/j=w2.heap.size\/j=w3.heap.size) ⟨⟨some ⟨w2.heap.size,0,none⟩,1,some ⟨w3.heap.size,0,none⟩,1,ht5,⟨rfl,fun i y hi=>?_⟩,⟨rfl,fun i y hi=>?_⟩⟩,(hX.same FW).mono (fun j e=>.inl e) (fun e=>?_),fun e=>?_,by omega,lf k root,fun j e=>?_⟩ (fun j e=>?_) (by omega) (by omega) (mY.trans FW (fun _ _ h=>h))
 ·cases i with
  |zero=>
   have:y=⟨de,0,[],[]⟩:=by simpa [cV]using hi.symm
   subst this;refine⟨_,none,0,0,none,0,0,rfl,by show w2.heap.size<_;omega,.inr (.inl rfl),fun j u hj=>?_,HS.nil _ _,⟨rfl,fun i b h=>by simp at h⟩,fun b hb=>(by cases hb),fun b hb=>(by cases hb)⟩;rw [Nat.zero_mul,add_zero,a8,Nat.zero_add,ax Zz];exact hj
  |succ i=>simp [cV]at hi
 ·cases i with
  |zero=>
   have:y= []:=by simpa [cV]using hi.symm
   subst this;refine⟨_,none,0,0,rfl,by show w3.heap.size<_;omega,.inr (.inr rfl),?_,HS.nil _ _,fun b hb=>(by cases hb)⟩;rw [Nat.zero_mul,add_zero,ax Xx];rfl
  |succ i=>simp [cV]at hi
 ·rcases e with e|e|e
  ·exact hX.gD e
  ·omega
  ·omega
 ·rcases e with e|e|e
  ·have:=(hFX _ e).2;omega
  ·omega
  ·omega
 ·rcases e with e|e|e
  ·have:=(hFX _ e).2;omega
  ·omega
  ·omega
 ·rcases e with e|e|e
  ·have:=(hFX _ e).1;omega
  ·omega
  ·omega
end
end Go.Proofs.YtnboahlopghcjaaGreatDoor
namespace Go.Proofs.YtnboahlopghcjaaGreatDoor
open Go.Proofs.Tryz
open Go Go.bS Go.RowKit
section
variable{w w':World}{F:Nat->Prop}{r x k:Nat}{G:GS}{K:Value->World->Prop}{A:Option Addr}{n cx:Nat}{l:List HT}
set_option maxHeartbeats 2000000 in
theorem wH(h:R3 w F r x k G)(hD:G.D.length<=300)(nf:k<=1000)(hl:HS w A n l)(hn:n<=5000)(id:HT)
 (hE:dg G.D id l≠0-> ∀w',Kept Nil w w'->K (.tuple #[.agg JJ,.int .i64 (dg G.D id l)]) w')
 (hO:dg G.D id l=0-> ∀w' A n c B e ce,R3 w' (fun j=>F j\/(w.heap.size<=j/\j<w'.heap.size)) r x k (dq k G id l)->Kept (fun j=>j=r\/j=x) w w'->HS w' A n (cu k G (bZ G l) l).merge->Bo w' B e (cu k G (bZ G l) l).dM->(∀a,A=some a\/B=some a->w.heap.size<=a.block)->K (.tuple #[.agg (cC (cu k G (bZ G l) l) A n c B e ce),.int .i64 0]) w'):
 bk prog dr.id #[.pointer (some ⟨r,0,none⟩),.agg id.1,.slice A n cx] w K:=by
 have W0:=h.fO.W;have Ve:=h.lt;have K2:=h.lx;refine dr.of ?_;unfold dr.W;intro w1 w2;have k1:Kept Nil w w1:=(Kept.refl _ _).alloc _;have Jj:w1.heap[w.heap.size]? =some (.cells id.1 ai (0,0)):=aH w _;have k2:Kept Nil w1 w2:=(Kept.refl _ _).alloc _;have ji:w2.heap[w1.heap.size]? =some (.cells zC bj (0,0)):=aH w1 _;clear_value w2;have AF:=k2.heap Jj (fun h=>h);have mY:=k1.trans k2 (fun _ _ h=>h);have s1:=k1.size;have l1:=aT Jj;have l2:=aT ji;clear_value w1;have h2:=h.same mY;obtain⟨A0,c0,B0,e0,sl,g1,g2,g3,g4,g5⟩:=h2.X.ex;refine Is.mk rfl ⟨_,h2.c1,Is.mk rfl ⟨#[.slice A0 G.D.length c0],⟨rfl,fun j u hj=>?_⟩,?_⟩⟩
 ·cases j with
  |zero=>simp at hj;subst hj;rw [add_zero,add_zero,ax g1];rfl
  |succ j=>simp at hj
 intro w3;have k3:Kept Nil w2 w3:=(Kept.refl _ _).alloc _;have SJ:w3.heap[w2.heap.size]? =some (.cells #[.slice none 0 0] gF (0,0)):=aH w2 _;clear_value w3;obtain⟨t1,t2,t3⟩:=dH SJ (cs:= #[.slice A0 G.D.length c0]) rfl;refine⟨⟨rfl,fun u hu=>by simp at hu;subst hu;rfl,fun j hj=>t1 j hj⟩,?_⟩;intro w4
 replace t2:w4.heap[w2.heap.size]? =some (.cells #[.slice A0 G.D.length c0] gF (0,0)):=t2
 replace t3:Kept (· =w2.heap.size) w3 w4:=t3
 clear_value w4;have pU:Kept Nil w2 w4:=k3.trans t3 (fun j hj e=>by omega);have pI:=mY.trans pU (fun _ _ h=>h);have s2:=mY.size;refine⟨id.1,⟨id.2.1,Cells.bA (pU.heap AF (fun h=>h))⟩,?_⟩;have hIR:sN w4 F w2.heap.size G.D:=⟨⟨A0,c0,_,_,t2,rfl,g2.same pU⟩,fun e=>by have:=h.lo _ e;omega⟩;refine BQ hIR W0 (by omega) (hl.same pI) (by omega) fun w5 _ k5=>⟨_,rfl,?_⟩;have FW:Kept Nil w2 w5:=pU.trans k5 (fun j hj e=>by omega);have mI:=mY.trans FW (fun _ _ h=>h);have rp:=FW.heap ji (fun h=>h);have Ji:=FW.heap AF (fun h=>h);by_cases hc:dg G.D id l≠0
 ·obtain⟨f1,f2,f3⟩:=dH rp (cs:=zC) rfl
  refine Split.yes (by simpa using hc) ⟨⟨rfl,by show ∀u∈(JJ:Array Value).toList,_;exact dL _ _ _ _ _ _ _,fun j hj=>f1 j hj⟩,?_⟩;exact⟨_,⟨rfl,Cells.bA f2⟩,hE hc _ (mI.trans f3 (fun j hj e=>by omega))⟩
 have hc:dg G.D id l=0:=by omega
 refine Split.no (by rw [hc];rfl) ?_;obtain⟨_,fE,_,cP⟩:=jQ hc;have fh: ∀z∈l,z∈ids G.D:=fun z hz=>cP z (dv.2 hz);refine mV (h.same mI) (by omega) (hl.same mI) fE (by omega) fh fun w6 k6=>⟨_,rfl,?_⟩;have DK:=FW.trans k6 (fun _ _ h=>h);have oV:=mY.trans DK (fun _ _ h=>h);generalize kN:bZ G l=s;have Cl:s∈l:=by rw [<-kN];exact jT fE
 intro w7;have k7:Kept Nil w6 w7:=(Kept.refl _ _).alloc _;have NX:w7.heap[w6.heap.size]? =some (.cells de.1 ai (0,0)):=aH w6 _;clear_value w7;obtain⟨q1,q2,q3⟩:=gY s NX rfl;refine⟨q1,?_⟩;intro w8
 replace q2:w8.heap[w6.heap.size]? =some (.cells s.1 ai (0,0)):=q2
 replace q3:Kept (· =w6.heap.size) w7 w8:=q3
 clear_value w8;have O5:Kept Nil w6 w8:=k7.trans q3 (fun j hj e=>by omega);have yv:=DK.trans O5 (fun _ _ h=>h);have rY:=mY.trans yv (fun _ _ h=>h);have s06:=oV.size;have s08:=rY.size;have s28:=yv.size;refine⟨s.1,⟨s.2.1,Cells.bA q2⟩,?_⟩;refine pf (h.same rY) hD nf (fh s Cl) (hl.same rY) hn fh fun w9 Am nm cm E e ce Wd nw cw rm rb rw9 k9=>⟨_,Wd,nw,cw,rfl,?_⟩;have IN:=yv.trans k9 (fun _ _ h=>h);have vc:=mY.trans IN (fun _ _ h=>h);have s09:=vc.size;have s89:=k9.size;intro w10;have nv:Kept Nil w9 w10:=(Kept.refl _ _).alloc _;have ZA:w10.heap[w9.heap.size]? =some (.cells zC bj (0,0)):=aH w9 _;clear_value w10;obtain⟨f1,f2,f3⟩:=dH ZA (cs:=cC (cu k G s l) Am nm cm E e ce) (by rw [a7];rfl);refine⟨⟨a7 ..,dL _ _ _ _ _ _ _,fun j hj=>f1 j (by rw [a7];exact hj)⟩,?_⟩;intro sQ lF
 replace f2:sQ.heap[w9.heap.size]? =some (.cells (cC (cu k G s l) Am nm cm E e ce) bj (0,0)):=f2
 replace f3:Kept (· =w9.heap.size) w10 sQ:=f3
 have vX:Kept Nil sQ lF:=(Kept.refl _ _).drew;clear_value lF;have Te:=vX.heap f2 (fun h=>h);have Ml:Kept Nil w9 lF:=(nv.trans f3 (fun j hj e=>by omega)).trans vX (fun _ _ h=>h);clear_value sQ;have Mu:=IN.trans Ml (fun _ _ h=>h);have rh:=mY.trans Mu (fun _ _ h=>h);have aem:=rh.size;have aeJ:=aT Te;have CB:=h.same rh;refine Is.mk rfl ⟨_,CB.c1,id.1,⟨id.2.1,Cells.bA (Mu.heap AF (fun h=>h))⟩,s.1,⟨s.2.1,Cells.bA ((k9.trans Ml (fun _ _ h=>h)).heap q2 (fun h=>h))⟩,?_⟩;refine Dm CB.X CB.lo (by omega) (hl.same rh) (by omega) fun kr TK sV=>⟨_,rfl,?_⟩;have eX:mz G.D id s l=(dq k G id l).D/\mw G.D G.P id s l=(dq k G id l).P:=by rw [<-kN];exact⟨Hu.symm,Hv.symm⟩
 rw [eX.1,eX.2]at TK;intro gN;have DL:Kept Nil kr gN:=(Kept.refl _ _).drew;clear_value gN;have yw:Kept (· =x) lF gN:=sV.trans DL (fun _ _ h=>h.elim);have Cg:Kept (· =x) w gN:=(rh.mono fun _ _ h=>h.elim).trans yw (fun _ _ h=>h);have abr:=yw.size;have yA:=ke (k:=k) (G:=G) (h:=id) (ps:=l) hc;rw [kN]at yA;obtain⟨A1,c1,B1,e1,p1,p2,p3⟩:=h.top;have L8:=Cg.heap p1 h.ne;have L7:pT gN F A1 G.D.length G.qD:=p2.aD Cg (fun j hj e=>h.X.gD (by rw [<-e];exact hj));have WC:oJ gN F B1 G.D.length G.jt:=p3.aD Cg (fun j hj e=>h.X.gD (by rw [<-e];exact hj));have iK:=W0.pos;obtain⟨⟨a1,ZZ⟩,KL⟩:=(⟨L7.xN.1 iK,L7.xN.2⟩:(∃a,A1=some a)/\_);subst ZZ;have NQ:=yw.heap Te (by omega);have Yb:=yw.heap (Mu.heap ji (fun h=>h)) (by omega);have bm: ∀j,bg Am=some j->w8.heap.size<=j/\j<w9.heap.size:=fun j hj=>by obtain⟨z1,cur,z2⟩:=Row.bA rm hj;exact⟨z1,aT z2⟩
 have bb: ∀j,bg E=some j->w8.heap.size<=j/\j<w9.heap.size:=fun j hj=>by obtain⟨z1,cur,z2⟩:=Row.bA rb hj;exact⟨z1,aT z2⟩
 have bw: ∀j,bg Wd=some j->w8.heap.size<=j/\j<w9.heap.size:=fun j hj=>by obtain⟨z1,cur,z2⟩:=Row.bA rw9 hj;exact⟨z1,aT z2⟩
 have IF:Kept (· =x) w9 gN:=(Ml.mono fun _ _ h=>h.elim).trans yw (fun _ _ h=>h);have ad4:=IF.size;have Qn:HS gN Am nm (cu k G s l).merge:=(bQ.hs rm).aD IF (fun a ha e=>by have:=bm a.block (by rw [ha];rfl);omega);have Uo:Bo gN E e (cu k G s l).dM:=(Row.bo rb).aD IF (fun a ha e=>by have:=bb a.block (by rw [ha];rfl);omega);have Wf:HS gN Wd nw (eU k G s l).wd:=(bQ.hs rw9).aD IF (fun a ha e=>by have:=bw a.block (by rw [ha];rfl);omega);have bF: ∀ {A:Option Addr} {b:Addr},(∀j,bg A=some j->w8.heap.size<=j/\j<w9.heap.size)->A=some b->w.heap.size<=b.block/\b.block<gN.heap.size:=fun hA hb=>by
  have:=hA _ (by rw [hb];rfl);omega
 rw [kN]at hO;have tail: ∀ {u:World} {Aa:Option Addr} {ca:Nat} {news:List Value},Row u gN.heap.size bj 35 Aa (G.D.length+1) ca (news++(cC (cu k G s l) Am nm cm E e ce).toList)->news.length=G.D.length*35->(∀i,i<G.D.length-> ∃arr:Array Value,HA gN F G.qD i arr/\arr.size=35/\ ∀(j:Nat) v,arr[j]? =some v->news[i*35+j]? =some v)->Kept Nil gN u->
  Wr u ((⟨r,0,none⟩:Addr).add 2)/\let a3:=u.setCell ((⟨r,0,none⟩:Addr).add 2) (.slice Aa (G.D.length+1) ca);Is (some (⟨r,0,none⟩:Addr)) fun b3:Addr=> ∃c3:Option Addr,∃d3:Nat,∃e3:Nat,a3.cell? (b3.add 3)=some (.slice c3 d3 e3)/\ ∃(f3:Option Addr) (g3 i3:Nat) (j3:World),(Builtin.append_ #[e9,e9] e9 #[.slice none 0 0,.slice c3 d3 e3]).run prog a3=.ok (.slice f3 g3 i3) j3/\let k3:=j3.alloc (.cells #[.slice Wd nw cw] ay);∃(m3:Option Addr) (n3 o3:Nat) (p3:World),(Builtin.append_ #[e9,e9] e9 #[.slice f3 g3 i3,.slice (some (⟨j3.heap.size,0,none⟩:Addr)) 1 1]).run prog k3=.ok (.slice m3 n3 o3) p3/\Is (some (⟨r,0,none⟩:Addr)) fun q3:Addr=>Wr p3 (q3.add 3)/\let r3:=p3.setCell (q3.add 3) (.slice m3 n3 o3);∃t3:Array Value,(t3.size=35/\Cells r3 (⟨w9.heap.size,0,none⟩:Addr) t3)/\(t3.size=35/\(∀u3∈t3.toList,u3.oneCell'=true)/\ ∀v3,v3<35->Wr r3 ((⟨w1.heap.size,0,none⟩:Addr).add v3))/\let x3:=setCells r3 (⟨w1.heap.size,0,none⟩:Addr) t3.toList 0;∃y3:Array Value,(y3.size=35/\Cells x3 (⟨w1.heap.size,0,none⟩:Addr) y3)/\K (.tuple #[.agg y3,.int .i64 0]) x3:=by
  intro u Aa ca news row xo uh ku;have pu:=ku.heap L8 (fun h=>h);have su:=ku.size;refine⟨by rw [a8];exact dO pu (by simp),?_⟩;intro u1;have pu1:u1.heap[r]? =some (.cells #[.int .i64 (k:Int),.pointer (some ⟨x,0,none⟩),.slice Aa (G.D.length+1) ca,.slice B1 G.D.length e1] fW (0,0)):=by
   show(u.setCell ((⟨r,0,none⟩:Addr).add 2) (.slice Aa (G.D.length+1) ca)).heap[r]? =_;rw [a8,cR pu];rfl
  have B7:Kept (· =r) u u1:=by
   show Kept (· =r) u (u.setCell ((⟨r,0,none⟩:Addr).add 2) (.slice Aa (G.D.length+1) ca))
   rw [a8];exact Kept.setCell (S:=(· =r)) (Kept.refl _ u) (p:=⟨r,0+2,none⟩) (fun _=>rfl) _
  clear_value u1;have F8:Kept (· =r) gN u1:=(ku.mono fun _ _ h=>h.elim).trans B7 (fun _ _ h=>h);have pw1:oJ u1 F B1 G.D.length G.jt:=WC.aD F8 (fun j hj e=>h.gD (by rw [<-e];exact hj));obtain⟨⟨b1,xq⟩,Rq⟩:=(⟨pw1.xN.1 iK,pw1.xN.2⟩:(∃a,B1=some a)/\_);subst xq;obtain⟨Aw,c2,u2,nws,I2,fX,Ae,hcw⟩:=xf (w:=u1) P2 (by omega) (by omega) (cx:=e1) (OJ u1 F G.jt) (Rq b1 rfl);refine Is.mk rfl ⟨some b1,G.D.length,e1,by rw [a8,ax pu1];rfl,Aw,_,c2,u2,I2,?_⟩;intro u3;have yu:Kept Nil u2 u3:=(Kept.refl _ _).alloc _;have zt:u3.heap[u2.heap.size]? =some (.cells #[.slice Wd nw cw] ay (0,0)):=aH u2 _;clear_value u3;have su1:=B7.size;have su2:=Ae.size;have Wn:=yu.size;obtain⟨UH,c3,u4,uP,iO,Cw⟩:=xe P2 (by omega) (by omega) (Row.aD fX yu (fun _ _ h=>h)) (by omega) zt rfl (fun v hv=>by simp at hv;subst hv;rfl);have IQ:Kept Nil u1 u4:=Kept.dw (Ae.trans yu (fun _ _ h=>h)) Cw (fun j hj=>(Row.bA fX hj).1);have pu4:=IQ.heap pu1 (fun h=>h);refine⟨UH,_,c3,u4,uP,Is.mk rfl ⟨by rw [a8];exact dO pu4 (by simp),?_⟩⟩;intro u5;have pu5:u5.heap[r]? =some (.cells #[.int .i64 (k:Int),.pointer (some ⟨x,0,none⟩),.slice Aa (G.D.length+1) ca,.slice UH (G.D.length+1) c3] fW (0,0)):=by
   show(u4.setCell ((⟨r,0,none⟩:Addr).add 3) (.slice UH (G.D.length+1) c3)).heap[r]? =_;rw [a8,cR pu4];rfl
  have zp:Kept (· =r) u4 u5:=by
   show Kept (· =r) u4 (u4.setCell ((⟨r,0,none⟩:Addr).add 3) (.slice UH (G.D.length+1) c3))
   rw [a8];exact Kept.setCell (S:=(· =r)) (Kept.refl _ u4) (p:=⟨r,0+3,none⟩) (fun _=>rfl) _
  clear_value u5;have QK:Kept (· =r) u1 u5:=(IQ.mono fun _ _ h=>h.elim).trans zp (fun _ _ h=>h);have Kt:Kept (· =r) gN u5:=F8.trans QK (fun _ _ h=>h);have Zz:=Kt.heap NQ (by omega);have rp:=Kt.heap Yb (by omega);obtain⟨z1,z2,z3⟩:=dH rp (cs:=cC (cu k G s l) Am nm cm E e ce) (by rw [a7];rfl);refine⟨_,⟨a7 ..,Cells.bA Zz⟩,⟨a7 ..,dL _ _ _ _ _ _ _,fun j hj=>z1 j (by rw [a7];exact hj)⟩,?_⟩;intro u6
  replace z2:u6.heap[w1.heap.size]? =some (.cells (cC (cu k G s l) Am nm cm E e ce) bj (0,0)):=z2
  replace z3:Kept (· =w1.heap.size) u5 u6:=z3
  clear_value u6;refine⟨_,⟨a7 ..,Cells.bA z2⟩,?_⟩;have kwr: ∀j,j=r\/j=w1.heap.size-> ¬gN.heap.size<=j:=fun j hj e=>by rcases hj with hj|hj<;>omega
  have UR:Kept (fun j=>j=r\/j=w1.heap.size) u u6:=((B7.mono fun _ _ h=>.inl h).trans QK (fun _ _ h=>.inl h)).trans z3 (fun _ _ h=>.inr h);have Cd:Kept (fun j=>j=r\/j=w1.heap.size) gN u6:=(ku.mono fun _ _ h=>h.elim).trans UR (fun _ _ h=>h);have su6:=Cd.size;have s46:u4.heap.size<=u6.heap.size:=by have:=zp.size;have:=z3.size;omega
  have s26:u.heap.size<=u6.heap.size:=UR.size;have Ix: ∀j,F j->j<w.heap.size:=h.lo
  let F2:Nat->Prop:=fun j=>F j\/(w8.heap.size<=j/\j<w9.heap.size)\/(gN.heap.size<=j/\j<u6.heap.size)
  have Ol: ∀j,F2 j-> ¬(j=r\/j=w1.heap.size):=fun j hj e=>by
   rcases hj with hj|hj|hj
   ·have:=Ix j hj
    rcases e with e|e
    ·exact h.gD (by rw [<-e];exact hj)
    ·omega
   ·omega
   ·omega
  have TZ: ∀j,F2 j->F j\/(w.heap.size<=j/\j<u6.heap.size):=fun j hj=>by
   rcases hj with hj|hj|hj
   ·exact .inl hj
   ·exact .inr ⟨by omega,by omega⟩
   ·exact .inr ⟨by omega,hj.2⟩
  refine hO hc u6 Am nm cm E e ce ⟨⟨Aa,ca,UH,c3,?_,?_,?_⟩,?_,fun hj=>?_,h.ne,h.fO.add id l,fun j hj=>?_⟩ ?_ (Qn.aD Cd (fun a ha e=>by have:=bm a.block (by rw [ha];rfl);rcases e with e|e<;>omega)) (Uo.aD Cd (fun a ha e=>by have:=bb a.block (by rw [ha];rfl);rcases e with e|e<;>omega)) (fun a ha=>ha.elim (fun ha=>(bF bm ha).1) (fun ha=>(bF bb ha).1))
  ·rw [yA]
   simp only [List.length_append,List.length_singleton];exact z3.heap pu5 (by omega)
  ·rw [yA]
   simp only [List.length_append,List.length_singleton];refine pT.mono (F:=F2) (pT.aD (S:=fun j=>j=r\/j=w1.heap.size) (w:=u) (pT.snoc row xo p2.len ku (fun j hj=>?_) (fun j hj=>.inl hj) uh (Qn.same ku) (Uo.same ku) (fun b hb=>.inr (.inl ?_)) (fun b hb=>.inr (.inl ?_))) UR Ol) TZ
   ·obtain⟨y1,cur,y2⟩:=Row.bA row hj
    have:=aT y2;exact .inr (.inr ⟨y1,by omega⟩)
   ·exact bm b.block (by rw [hb];rfl)
   ·exact bb b.block (by rw [hb];rfl)
  ·rw [yA]
   simp only [List.length_append,List.length_singleton];have Mo:Kept (fun j=>j=r\/j=w1.heap.size) u4 u6:=(zp.mono fun _ _ h=>.inl h).trans z3 (fun _ _ h=>.inr h);refine oJ.mono (F:=F2) (oJ.aD (S:=fun j=>j=r\/j=w1.heap.size) (w:=u4) (oJ.snoc iO (Row.len fX) p3.len IQ (fun j hj=>?_) (fun j hj=>.inl hj) hcw (Wf.aD (F8.trans IQ (fun _ _ h=>h.elim)) (fun a ha e=>by have:=bw a.block (by rw [ha];rfl);omega)) (fun b hb=>.inr (.inl ?_))) Mo Ol) TZ
   ·obtain⟨y1,cur,y2⟩:=Row.bA iO hj
    have:=aT y2;exact .inr (.inr ⟨by omega,by omega⟩)
   ·exact bw b.block (by rw [hb];rfl)
  ·refine((TK.aD (DL.trans ku (fun _ _ h=>h)) (fun h=>h) (fun _ _ h=>h)).aD UR (fun e=>?_) (fun j hj e=>?_)).mono (fun j hj=>?_) (fun e=>?_)
   ·rcases e with e|e
    ·exact h.ne e.symm
    ·omega
   ·rcases hj with hj|hj
    ·have:=Ix j hj
     rcases e with e|e
     ·exact h.gD (by rw [<-e];exact hj)
     ·omega
    ·omega
   ·rcases hj with hj|hj
    ·exact .inl hj
    ·have:=sV.size
     have:=DL.size;exact .inr ⟨by omega,by omega⟩
   ·rcases e with e|e
    ·exact h.X.gD e
    ·omega
  ·rcases hj with hj|hj
   ·exact h.gD hj
   ·omega
  ·rcases hj with hj|hj
   ·have:=Ix j hj
    omega
   ·exact hj.2
  ·exact(Cg.mono fun _ _ h=>.inr h).trans Cd (fun j hj e=>by
    rcases e with e|e
    ·exact .inl e
    ·omega)
 have GB:(cC (cu k G s l) Am nm cm E e ce).toList++ []=(cC (cu k G s l) Am nm cm E e ce).toList:=List.append_nil _;refine Is.mk rfl ⟨some a1,G.D.length,c1,by rw [a8,ax L8];rfl,_,⟨a7 ..,Cells.bA NQ⟩,?_,?_⟩
 ·obtain⟨Aa,c2,u2,news,Pe,fX,Ae,uh⟩:=xf (w:=gN) BI (by omega) (by omega) (cx:=c1) (HA gN F G.qD) (KL a1 rfl)
  refine⟨Aa,_,c2,u2,Pe,⟨_,rfl,a7 ..,Cells.bA (Ae.heap NQ (fun h=>h))⟩,a7 ..,?_⟩;intro u3;have yu:Kept Nil u2 u3:=(Kept.refl _ _).alloc _;have zt:u3.heap[u2.heap.size]? =some (.cells (cC (cu k G s l) Am nm cm E e ce) bj (0,0)):=by
   have:=aH u2 (.cells (cC (cu k G s l) Am nm cm E e ce) bj);show(u2.alloc (.cells ((cC (cu k G s l) Am nm cm E e ce).toList++ []).toArray bj)).heap[u2.heap.size]? =_;rw [GB,Array.toArray_toList];exact this
  clear_value u3;have su2:=Ae.size;have Wn:=yu.size;obtain⟨Ab,c3,u4,uP,iO,Cw⟩:=xe BI (by omega) (by omega) (Row.aD fX yu (fun _ _ h=>h)) (by omega) zt (a7 ..) (dL _ _ _ _ _ _ _);have ku:Kept Nil gN u4:=Kept.dw (Ae.trans yu (fun _ _ h=>h)) Cw (fun j hj=>(Row.bA fX hj).1);refine⟨Ab,_,c3,u4,uP,Is.mk rfl ?_⟩;exact tail iO (Row.len fX) uh ku
 ·refine⟨a7 ..,?_⟩
  intro u3;have yu:Kept Nil gN u3:=(Kept.refl _ _).alloc _;have zt:u3.heap[gN.heap.size]? =some (.cells (cC (cu k G s l) Am nm cm E e ce) bj (0,0)):=by
   have:=aH gN (.cells (cC (cu k G s l) Am nm cm E e ce) bj);show(gN.alloc (.cells ((cC (cu k G s l) Am nm cm E e ce).toList++ []).toArray bj)).heap[gN.heap.size]? =_;rw [GB,Array.toArray_toList];exact this
  clear_value u3;have Wn:=yu.size;refine⟨by rw [a8,ax (yu.heap L8 (fun h=>h))];rfl,?_⟩;have p23:=L7.aD yu (fun _ _ h=>h);obtain⟨Aa,c2,u2,news,Pe,fX,Ae,uh⟩:=xf (w:=u3) (n:=G.D.length) (a:=a1) BI (by omega) (by omega) (cx:=c1) (HA gN F G.qD) (fun i hi=>by
   obtain⟨arr,y1,y2,y3,y4⟩:=KL a1 rfl i hi;exact⟨arr,y1,y2,Cells.aD y3 yu (fun h=>h),y4⟩)
  have su2:=Ae.size;have KD:=Ae.heap zt (fun h=>h);obtain⟨Ab,c3,u4,uP,iO,Cw⟩:=xe BI (by omega) (by omega) (Row.base fX (B':=gN.heap.size) (fun j hj=>by have:=(Row.bA fX hj).1;omega)) (by omega) KD (a7 ..) (dL _ _ _ _ _ _ _);have ku:Kept Nil gN u4:=Kept.dw (yu.trans Ae (fun _ _ h=>h)) Cw (fun j hj=>by have:=(Row.bA fX hj).1;omega);refine⟨Aa,_,c2,u2,Pe,Ab,_,c3,u4,uP,Is.mk rfl ?_⟩;exact tail iO (Row.len fX) uh ku
end
end Go.Proofs.YtnboahlopghcjaaGreatDoor
