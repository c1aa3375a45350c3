import Derived.Test.YtnboahlopghcjaaGreatDoorMT
import Derived.Test.YtnboahlopghcjaaGreatDoorMN
set_option linter.unusedVariables false
namespace Go.Proofs.YtnboahlopghcjaaGreatDoor
open Go.Proofs.Tryz
open Go Go.bV Go.RowKit
structure pH(w:World)(F:Nat->Prop)(A:Option Addr)(n:Nat)(l:List oc):Prop where
 len:l.length=n
 at_: ∀(i:Nat) x,l[i]? =some x-> ∃a A1 n1 c1 B1 m1 d1,A=some a/\a.block<w.heap.size/\F a.block/\Cells w (a.add (i*35)) (cF x A1 n1 c1 B1 m1 d1)/\HS w A1 n1 x.merge/\Bo w B1 m1 x.de/\(∀b,A1=some b->F b.block)/\(∀b,B1=some b->F b.block)
structure oa(w:World)(F:Nat->Prop)(A:Option Addr)(n:Nat)(l:List (List HT)):Prop where
 len:l.length=n
 at_: ∀(i:Nat) x,l[i]? =some x-> ∃a A1 n1 c1,A=some a/\a.block<w.heap.size/\F a.block/\w.cell? (a.add (i*1))=some (.slice A1 n1 c1)/\HS w A1 n1 x/\(∀b,A1=some b->F b.block)
section
variable{w w':World}{F F' S:Nat->Prop}{A:Option Addr}{n:Nat}
theorem pH.aC{l:List oc}(h:pH w F A n l)(hk:Kept S w w')(hn: ∀j,F j-> ¬S j):pH w' F A n l:=⟨h.len,fun i x hi=>by
 obtain⟨a,A1,n1,c1,B1,m1,d1,g1,g2,g3,g4,g5,g6,g7,g8⟩:=h.at_ i x hi;exact⟨a,A1,n1,c1,B1,m1,d1,g1,Nat.lt_of_lt_of_le g2 hk.size,g3,Cells.aC g4 hk (by rw [eI];exact hn _ g3),g5.aC hk (fun b hb=>hn _ (g7 b hb)),g6.aC hk (fun b hb=>hn _ (g8 b hb)),g7,g8⟩⟩
theorem pH.mono{l:List oc}(h:pH w F A n l)(hf: ∀j,F j->F' j):pH w F' A n l:=⟨h.len,fun i x hi=>by
 obtain⟨a,A1,n1,c1,B1,m1,d1,g1,g2,g3,g4,g5,g6,g7,g8⟩:=h.at_ i x hi;exact⟨a,A1,n1,c1,B1,m1,d1,g1,g2,hf _ g3,g4,g5,g6,fun b hb=>hf _ (g7 b hb),fun b hb=>hf _ (g8 b hb)⟩⟩
theorem oa.aC{l:List (List HT)}(h:oa w F A n l)(hk:Kept S w w')(hn: ∀j,F j-> ¬S j):oa w' F A n l:=⟨h.len,fun i x hi=>by
 obtain⟨a,A1,n1,c1,g1,g2,g3,g4,g5,g6⟩:=h.at_ i x hi;exact⟨a,A1,n1,c1,g1,Nat.lt_of_lt_of_le g2 hk.size,g3,hk.cell g4 (by rw [eI];exact hn _ g3),g5.aC hk (fun b hb=>hn _ (g6 b hb)),g6⟩⟩
theorem oa.mono{l:List (List HT)}(h:oa w F A n l)(hf: ∀j,F j->F' j):oa w F' A n l:=⟨h.len,fun i x hi=>by
 obtain⟨a,A1,n1,c1,g1,g2,g3,g4,g5,g6⟩:=h.at_ i x hi;exact⟨a,A1,n1,c1,g1,g2,hf _ g3,g4,g5,fun b hb=>hf _ (g6 b hb)⟩⟩
end
structure R3(w:World)(F:Nat->Prop)(r x k:Nat)(G:GS):Prop where
 top: ∃A c B e,w.heap[r]? =some (.cells #[.int .i64 (k:Int),.pointer (some ⟨x,0,none⟩),.slice A G.D.length c,.slice B G.D.length e] gq (0,0))/\pH w F A G.D.length G.o5/\oa w F B G.D.length G.iJ
 X:nC w F x G.D G.P
 gU: ¬F r
 ne:r≠x
 eM:iS k G
 lo: ∀j,F j->j<w.heap.size
section
variable{w w':World}{F F' S:Nat->Prop}{r x k:Nat}{G:GS}{K:Value->World->Prop}
theorem R3.aC(h:R3 w F r x k G)(hk:Kept S w w')(hr: ¬S r)(hx: ¬S x)(hF: ∀j,F j-> ¬S j):R3 w' F r x k G:=by
 obtain⟨A,c,B,e,g1,g2,g3⟩:=h.top;exact⟨⟨A,c,B,e,hk.heap g1 hr,g2.aC hk hF,g3.aC hk hF⟩,h.X.aC hk hx hF,h.gU,h.ne,h.eM,fun j e=>Nat.lt_of_lt_of_le (h.lo j e) hk.size⟩
theorem R3.same(h:R3 w F r x k G)(hk:Kept Nil w w'):R3 w' F r x k G:=h.aC hk (fun h=>h) (fun h=>h) (fun _ _ h=>h)
theorem R3.lt(h:R3 w F r x k G):r<w.heap.size:=by obtain⟨_,_,_,_,g,_⟩:=h.top;exact aQ g
theorem R3.lx(h:R3 w F r x k G):x<w.heap.size:=h.X.lt
theorem R3.c0(h:R3 w F r x k G):w.cell? ((⟨r,0,none⟩:Addr).add 0)=some (.int .i64 (k:Int)):=by obtain⟨_,_,_,_,g,_⟩:=h.top;rw [ba,ax g];rfl
theorem R3.c1(h:R3 w F r x k G):w.cell? ((⟨r,0,none⟩:Addr).add 1)=some (.pointer (some ⟨x,0,none⟩)):=by obtain⟨_,_,_,_,g,_⟩:=h.top;rw [ba,ax g];rfl
theorem Mf(h:iS k G){y:HT}(hy:y∈ids G.D): ∃(i:Nat) (nd:DN) (c:oc) (l:List HT),G.D[i]? =some nd/\nd.id=y/\G.o5[i]? =some c/\G.iJ[i]? =some l/\BN G.D y=(i:Int)/\G.ga y=c/\G.world y=l/\i<G.D.length:=by
 obtain⟨nd,fw,rfl⟩:=dB.1 hy;obtain⟨i,hi⟩:=List.mem_iff_getElem?.1 fw;have dP:=(List.getElem?_eq_some_iff.1 hi).1;obtain⟨c,hc⟩: ∃c,G.o5[i]? =some c:=⟨_,List.getElem?_eq_getElem (by rw [h.lc];exact dP)⟩;obtain⟨l,hl⟩: ∃l,G.iJ[i]? =some l:=⟨_,List.getElem?_eq_getElem (by rw [h.lw];exact dP)⟩;exact⟨i,nd,c,l,hi,rfl,hc,hl,BM h.W hi,GS.HN h.W hi hc,GS.xV h.W hi hl,dP⟩
theorem jL(h:R3 w F r x k G)(hD:G.D.length<=5000){a:HT}(ha:a∈ids G.D)(hK: ∀w',Kept Nil w w'->K (.int .u64 (G.score a:Int)) w'):
 bn prog dr.id #[.pointer (some ⟨r,0,none⟩),.agg a.1] w K:=by
 refine dr.of ?_;unfold dr.W;intro w4 w5;have k4:Kept Nil w w4:=(Kept.refl _ _).alloc _;have uD:w4.heap[w.heap.size]? =some (.cells a.1 ag (0,0)):=aJ w _;have k5:Kept Nil w4 w5:=(Kept.refl _ _).drew;clear_value w5;have ze:=k5.heap uD (fun h=>h);have qa:=k4.trans k5 (fun _ _ h=>h);have h5:=h.same qa;obtain⟨A,c,B,e,g1,g2,g3⟩:=h5.top;refine Is.mk rfl ⟨A,_,c,by rw [ba,ax g1];rfl,Is.mk rfl ⟨_,h5.c1,Is.mk rfl ⟨a.1,⟨a.2.1,Cells.bC ze⟩,?_⟩⟩⟩;rw [add_zero];refine mh h5.X.gr (by omega) a fun w6 k6=>⟨_,rfl,?_⟩;have g16:=k6.heap g1 (fun h=>h);obtain⟨i,nd,cl,l,q1,q2,q3,q4,q5,q6,q7,q8⟩:=Mf h.eM ha;rw [q5];obtain⟨aa,A1,n1,c1,B1,m1,d1,p1,p2,p3,p4,_⟩:=(g2.aC k6 (fun _ _ h=>h)).at_ i cl q3;subst p1;refine⟨by rw [ba,ax g16];rfl,⟨by omega,by omega⟩,Is.mk rfl ⟨((G.score a:Nat):Int),?_,?_⟩⟩
 ·have:=eN cl A1 n1 c1 B1 m1 d1 #[]
  rw [Array.append_empty]at this;have Vg:=p4 32 _ this.1;rw [Int.toNat_natCast,Vg];unfold GS.score;rw [q6]
 ·exact hK w6 (qa.trans k6 (fun _ _ h=>h))
theorem yf(h:iS k G){a:HT}(ha:a∈ids G.D):G.score a<=G.D.length:=by
 rw [(h.wd a ha).2.2];exact mF h ha
theorem pK(h:R3 w F r x k G)(hD:G.D.length<=5000){a b:HT}(ha:a∈ids G.D)(hb:b∈ids G.D)(hK: ∀w',Kept Nil w w'->K (.bool (gl G a b)) w'):
 bn prog dG.id #[.pointer (some ⟨r,0,none⟩),.agg a.1,.agg b.1] w K:=by
 refine dG.of ?_;unfold dG.W;intro w4 w5 w6;have k4:Kept Nil w w4:=(Kept.refl _ _).alloc _;have uD:w4.heap[w.heap.size]? =some (.cells a.1 ag (0,0)):=aJ w _;have k5:Kept Nil w4 w5:=(Kept.refl _ _).alloc _;have mv:w5.heap[w4.heap.size]? =some (.cells b.1 ag (0,0)):=aJ w4 _;have k6:Kept Nil w5 w6:=(Kept.refl _ _).drew;clear_value w6;have rT:=k6.heap (k5.heap uD (fun h=>h)) (fun h=>h);have oT:=k6.heap mv (fun h=>h);have mL:=(k4.trans k5 (fun _ _ h=>h)).trans k6 (fun _ _ h=>h);refine⟨a.1,⟨a.2.1,Cells.bC rT⟩,b.1,⟨b.2.1,Cells.bC oT⟩,?_⟩;refine jL (h.same mL) hD ha fun w7 k7=>⟨_,rfl,⟨_,rfl,b.2.1,Cells.bC (k7.heap oT (fun h=>h))⟩,?_⟩;have xG:=mL.trans k7 (fun _ _ h=>h);refine jL (h.same xG) hD hb fun w8 k8=>⟨_,rfl,?_⟩;have rK:=xG.trans k8 (fun _ _ h=>h);have Jk:=k7.trans k8 (fun _ _ h=>h);by_cases he:G.score a=G.score b
 ·refine Split.no (by rw [he];simp) ⟨a.1,⟨a.2.1,Cells.bC (Jk.heap rT (fun h=>h))⟩,b.1,⟨b.2.1,Cells.bC (Jk.heap oT (fun h=>h))⟩,?_⟩
  refine sk a b fun w9 k9=>⟨_,rfl,?_⟩;have e:decide (kz a b<0)=gl G a b:=by
   rw [Bool.eq_iff_iff,decide_eq_true_eq,qU];unfold gl;rw [decide_eq_false (by omega),decide_eq_true he];simp
  rw [e];exact hK w9 (rK.trans k9 (fun _ _ h=>h))
 ·refine Split.yes (by simp only [bne_iff_ne,ne_eq];omega) ?_
  have e:decide ((G.score a:Int)<(G.score b:Int))=gl G a b:=by
   unfold gl;rw [decide_eq_false he];simp
  rw [e];exact hK w8 rK
theorem IV(h:R3 w F r x k G)(hD:G.D.length<=5000){A:Option Addr}{n cx:Nat}{l:List HT}(hl:HS w A n l)(hn:n<=400000)(hK: ∀w',Kept Nil w w'->K (.int .i64 (mJ G.D l)) w'):
 bn prog bj.id #[.pointer (some ⟨r,0,none⟩),.slice A n cx] w K:=by
 have hlen:=hl.len;refine bj.of ?_;unfold bj.W;by_cases h0:n=0
 ·subst h0
  have e:l= []:=List.eq_nil_of_length_eq_zero hlen;refine Split.yes rfl ?_;have:=hK w (Kept.refl _ _);unfold mJ at this;rw [if_pos e]at this;exact this
 have fG:l≠ []:=fun e=>by subst e;exact h0 hlen.symm
 refine Split.no (by simpa using (by omega: ¬(n:Int)=0)) ?_;refine bj.b6 (I:=fun s v=> ∃i:Nat,s=(0,(i:Int))/\i<=n/\(∀p∈l.take i,p∈ids G.D)/\Kept Nil w v) (μ:=fun s _=>((n:Int)-s.2).toNat) (s:=(0,0)) ⟨0,rfl,Nat.zero_le _,by simp,Kept.refl _ _⟩ ?_;rintro s v ⟨i,rfl,hi,cS,kv⟩;unfold bj.B1;refine Split.dec (fun cI=>?_) (fun gu=>?_)
 ·simp only at cI
  have dP:i<n:=by omega
  obtain⟨y,hy⟩: ∃y,l[i]? =some y:=⟨_,List.getElem?_eq_getElem (by omega)⟩;intro w3;have k3:Kept Nil v w3:=(Kept.refl _ _).drew;clear_value w3;have oQ:=kv.trans k3 (fun _ _ h=>h);have h3:=h.same oQ;refine Is.mk rfl ⟨_,h3.c1,Is.mk rfl ((hl.same oQ).load (i:=(i:Int)) (by omega) hy ?_)⟩;rw [add_zero];refine mh h3.X.gr (by omega) y fun w4 k4=>⟨_,rfl,?_⟩;have nR:=oQ.trans k4 (fun _ _ h=>h);refine Split.dec (fun xh=>?_) (fun ja=>?_)
  ·rw [im]
   have:=hK w4 nR;unfold mJ at this;rw [if_neg fG,if_pos ⟨y,List.mem_of_getElem? hy,pB.1 xh⟩]at this;exact this
  ·simp only
   rw [dE (n:=(i:Int)) (by omega) (by omega)];refine⟨(0,(i:Int)+1),rfl,⟨i+1,rfl,dP,fun p hp=>?_,nR⟩,by simp only;omega⟩;rcases(bH hy).1 hp with hp|rfl
   ·exact cS p hp
   ·exact Classical.byContradiction fun e=>ja (pB.2 e)
 ·simp only at gu
  rw [aS,bj.cX];rw [List.take_of_length_le (by omega)]at cS;have:=hK v kv;unfold mJ at this;rw [if_neg fG,if_neg (fun⟨p,hp,hn⟩=>hn (cS p hp))]at this;exact this
theorem sP(h:R3 w F r x k G)(hD:G.D.length<=5000){A:Option Addr}{n cx:Nat}{l:List HT}(hl:HS w A n l)(h0:l≠ [])(hn:n<=400000)(fN: ∀y∈l,y∈ids G.D)(hK: ∀w',Kept Nil w w'->K (.agg (b7 G l).1) w'):
 bn prog aW.id #[.pointer (some ⟨r,0,none⟩),.slice A n cx] w K:=by
 have hlen:=hl.len;obtain⟨x0,t,rfl⟩: ∃x0 t,l=x0::t:=by cases l with|nil=>exact absurd rfl h0|cons a b=>exact⟨a,b,rfl⟩
 refine aW.of ?_;unfold aW.W;intro w1;have k1:Kept Nil w w1:=(Kept.refl _ _).alloc _;have kQ:w1.heap[w.heap.size]? =some (.cells dL.1 ag (0,0)):=aJ w _;clear_value w1;simp only [List.length_cons]at hlen;refine(hl.same k1).load (i:=0) (by omega) rfl ?_;intro w2;have k2:Kept Nil w1 w2:=(Kept.refl _ _).alloc _;have la:w2.heap[w1.heap.size]? =some (.cells dL.1 ag (0,0)):=aJ w1 _;clear_value w2;have jv:=k2.heap kQ (fun h=>h);have l1:=aQ kQ;have l2:=aQ la;obtain⟨t1,t2,t3⟩:=jk x0 la rfl;refine⟨t1,?_⟩;intro w3
 replace t2:w3.heap[w1.heap.size]? =some (.cells x0.1 ag (0,0)):=t2
 replace t3:Kept (· =w1.heap.size) w2 w3:=t3
 clear_value w3;have s1:=k1.size;have nS:Kept Nil w w3:=(k1.trans k2 (fun _ _ h=>h)).trans t3 (fun j hj e=>by omega);have CN:=t3.heap jv (by omega);refine aW.b6 (I:=fun s v=> ∃(i:Nat) (b:HT),s=(i:Int)/\1<=i/\i<=n/\b∈ids G.D/\((x0::t).drop i).foldl (fun b y=>if gl G b y then y else b) b=b7 G (x0::t)/\v.heap[w1.heap.size]? =some (.cells b.1 ag (0,0))/\v.heap[w.heap.size]? =some (.cells dL.1 ag (0,0))/\Kept Nil w v) (μ:=fun s _=>((n:Int)-s).toNat) (s:=1) ⟨1,x0,rfl,Nat.le_refl _,by omega,fN _ List.mem_cons_self,rfl,t2,CN,nS⟩ ?_;rintro s v ⟨i,b,rfl,JW,vx,hb,he,xk,Su,kv⟩;unfold aW.B1;refine Split.dec (fun cI=>?_) (fun gu=>?_)
 ·have dP:i<n:=by omega
  obtain⟨y,hy⟩: ∃y,(x0::t)[i]? =some y:=⟨_,List.getElem?_eq_getElem (by simp;omega)⟩;have Lf:y∈ids G.D:=fN _ (List.mem_of_getElem? hy);have hd:(x0::t).drop i=y::(x0::t).drop (i+1):=by
   obtain⟨q1,q2⟩:=List.getElem?_eq_some_iff.1 hy;rw [List.drop_eq_getElem_cons q1,q2]
  rw [hd,List.foldl_cons]at he;intro w4;have k4:Kept Nil v w4:=(Kept.refl _ _).drew;clear_value w4;have nR:=kv.trans k4 (fun _ _ h=>h);have ND:(x0::t)[((i:Nat):Int).toNat]? =some y:=by rw [Int.toNat_natCast];exact hy
  refine⟨b.1,⟨b.2.1,Cells.bC (k4.heap xk (fun h=>h))⟩,(hl.same nR).load (i:=(i:Int)) (by omega) ND ?_⟩;refine pK (h.same nR) hD hb Lf fun w5 k5=>⟨_,rfl,?_⟩;have yJ:=nR.trans k5 (fun _ _ h=>h);have mv:=k5.heap (k4.heap xk (fun h=>h)) (fun h=>h);have sS:=k5.heap (k4.heap Su (fun h=>h)) (fun h=>h);rw [dE (n:=(i:Int)) (by omega) (by omega)];refine Split.mk (fun wo=>?_) (fun hle=>?_)
  ·rw [if_pos wo]at he
   refine(hl.same yJ).load (i:=(i:Int)) (by omega) ND ?_;obtain⟨f1,f2,f3⟩:=jk y mv b.2.1;refine⟨f1,?_⟩;exact⟨(i:Int)+1,rfl,⟨i+1,y,rfl,by omega,by omega,Lf,he,f2,f3.heap sS (by omega),yJ.trans f3 (fun j hj e=>by omega)⟩,by simp only;omega⟩
  ·rw [if_neg (by rw [hle];decide)]at he
   exact⟨(i:Int)+1,rfl,⟨i+1,b,rfl,by omega,by omega,hb,he,mv,sS,yJ⟩,by simp only;omega⟩
 ·rw [aS,aW.cX]
  rw [List.drop_eq_nil_of_le (by simp;omega)]at he
  replace he:b=b7 G (x0::t):=he
  subst he;refine⟨_,⟨rR _,Cells.bC xk⟩,?_⟩;obtain⟨f1,f2,f3⟩:=jk (b7 G (x0::t)) Su rfl;exact⟨f1,_,⟨rR _,Cells.bC f2⟩,hK _ (kv.trans f3 (fun j hj e=>by omega))⟩
theorem oD(h:R3 w F r x k G)(hD:G.D.length<=5000){A:Option Addr}{n cx:Nat}{l:List HT}(hl:HS w A n l)(hn:n<=100000)(y:HT)(hK: ∀A' c' w',bO w' w.heap.size A' (bN G.D l y).length c' (bN G.D l y)->Kept Nil w w'->K (.slice A' (bN G.D l y).length c') w'):
 bn prog aZ.id #[.pointer (some ⟨r,0,none⟩),.slice A n cx,.agg y.1] w K:=by
 have hlen:=hl.len;refine aZ.of ?_;unfold aZ.W;intro w1;have k1:Kept Nil w w1:=(Kept.refl _ _).alloc _;have NC:w1.heap[w.heap.size]? =some (.cells y.1 ag (0,0)):=aJ w _;clear_value w1;refine aZ.b6 (I:=fun s v=> ∃(i:Nat) (B:Option Addr) (c:Nat),s=(B,(bN G.D (l.take i) y).length,c,(i:Int))/\i<=n/\bO v w1.heap.size B (bN G.D (l.take i) y).length c (bN G.D (l.take i) y)/\Kept Nil w1 v) (μ:=fun s _=>((n:Int)-s.2.2.2).toNat) (s:=(none,0,0,0)) ⟨0,none,0,rfl,Nat.zero_le _,bO.nil _ _,Kept.refl _ _⟩ ?_;rintro s v ⟨i,B,c,rfl,hi,row,kv⟩;unfold aZ.B1;have zQ:=k1.trans kv (fun _ _ h=>h);refine Split.dec (fun cI=>?_) (fun gu=>?_)
 ·simp only at cI
  have dP:i<n:=by omega
  obtain⟨z,hz⟩: ∃z,l[i]? =some z:=⟨_,List.getElem?_eq_getElem (by omega)⟩;have qp:(bN G.D (l.take i) y).length<=100000:=by
   have:=List.length_filter_le (fun b=>decide (nf G.D b y)) (l.take i);have h2:=List.length_take_le i l;unfold bN;omega
  intro w3;have k3:Kept Nil v w3:=(Kept.refl _ _).drew;clear_value w3;have oQ:=kv.trans k3 (fun _ _ h=>h);have nS:=k1.trans oQ (fun _ _ h=>h);have h3:=h.same nS;have xH:l[((i:Nat):Int).toNat]? =some z:=by rw [Int.toNat_natCast];exact hz
  refine Is.mk rfl ⟨_,h3.c1,Is.mk rfl ((hl.same nS).load (i:=(i:Int)) (by omega) xH ⟨y.1,⟨y.2.1,Cells.bC (oQ.heap NC (fun h=>h))⟩,?_⟩)⟩;rw [add_zero];refine DM h3.X.gr h.eM.W (by omega) z y fun w4 b hb k4=>⟨b,rfl,?_⟩
  replace hb:b=true↔nf G.D z y:=hb
  have nR:=oQ.trans k4 (fun _ _ h=>h);have qd:=k1.trans nR (fun _ _ h=>h);have jJ:=Row.aC row (k3.trans k4 (fun _ _ h=>h)) (fun _ _ h=>h);have EF:bN G.D (l.take (i+1)) y=bN G.D (l.take i) y++if nf G.D z y then [z]else []:=by
   rw [List.take_add_one,hz,fu]
   congr 1
   unfold bN;by_cases hp:nf G.D z y
   ·rw [if_pos hp];simp [hp]
   ·rw [if_neg hp];simp [hp]
  cases b with
  |true=>
   rw [if_pos (hb.1 rfl)]at EF;refine Split.yes rfl ((hl.same qd).load (i:=(i:Int)) (by omega) xH ⟨z.2.1,?_⟩);intro w5;have k5:Kept Nil w4 w5:=(Kept.refl _ _).alloc _;have PY:=jb w4 z;have s5:=(nR.trans k5 (fun _ _ h=>h)).size;obtain⟨A',c',w6,hr,Ao,hg,_⟩:=cD (cx:=1) az (Row.aC jJ k5 (fun _ _ h=>h)) PY (by omega) s5;refine⟨A',_,c',w6,hr,?_⟩;rw [dE (n:=(i:Int)) (by omega) (by omega)];have e:(bN G.D (l.take (i+1)) y).length=(bN G.D (l.take i) y).length+1:=by rw [EF];simp
   refine⟨(A',(bN G.D (l.take i) y).length+1,c',(i:Int)+1),rfl,⟨i+1,A',c',by rw [e];rfl,dP,by rw [e,EF];exact Ao,?_⟩,by simp only;omega⟩;exact Kept.eA (nR.trans k5 (fun _ _ h=>h)) hg (fun j hj=>(Row.bC row hj).1)
  |false=>
   rw [if_neg (fun e=>by have:=hb.2 e;cases this),List.append_nil]at EF;refine Split.no rfl ?_;simp only;rw [dE (n:=(i:Int)) (by omega) (by omega)];exact⟨(B,(bN G.D (l.take i) y).length,c,(i:Int)+1),rfl,⟨i+1,B,c,by rw [EF];rfl,dP,by rw [EF];exact jJ,nR⟩,by simp only;omega⟩
 ·simp only at gu
  rw [aS,aZ.cX];rw [List.take_of_length_le (by omega)]at row;have e:i=n:=by omega
  subst e;rw [List.take_of_length_le (by omega)];exact hK B c v (Row.base row (fun j hj=>by have:=(Row.bC row hj).1;have:=k1.size;omega)) zQ
theorem Cf{c:oc}{A1 A2 B1 B2:Option Addr}{n1 n2 m1 m2 p1 p2 q1 q2:Nat}(h1:HS w A1 n1 c.merge)(h2:HS w A2 n2 c.merge)(g1:Bo w B1 m1 c.de)(g2:Bo w B2 m2 c.de)(hn:n1<=100000)(hm:m1<=100000)(hK: ∀w',Kept Nil w w'->K (.bool true) w'):
 bn prog b0.id #[.agg (cF c A1 n1 p1 B1 m1 q1),.agg (cF c A2 n2 p2 B2 m2 q2)] w K:=by
 have e1:=g1.len;have e2:=g2.len;have e3:=h1.len;have e4:=h2.len;refine b0.of ?_;unfold b0.W;intro w4 w5;have k4:Kept Nil w w4:=(Kept.refl _ _).alloc _;have uD:w4.heap[w.heap.size]? =some (.cells (cF c A1 n1 p1 B1 m1 q1) bk (0,0)):=aJ w _;have k5:Kept Nil w4 w5:=(Kept.refl _ _).alloc _;have mv:w5.heap[w4.heap.size]? =some (.cells (cF c A2 n2 p2 B2 m2 q2) bk (0,0)):=aJ w4 _;clear_value w5;have ze:=k5.heap uD (fun h=>h);have qa:=k4.trans k5 (fun _ _ h=>h);clear_value w4;have c1:=eN c A1 n1 p1 B1 m1 q1 #[];have c2:=eN c A2 n2 p2 B2 m2 q2 #[];rw [Array.append_empty]at c1 c2;refine⟨B1,m1,q1,by rw [ba,ax ze];exact c1.2.2.1,B2,m2,q2,by rw [ba,ax mv];exact c2.2.2.1,Split.no (by simp only [bne_eq_false_iff_eq];omega) ?_⟩;refine b0.b6 (I:=fun s v=> ∃i:Nat,s=(false,(i:Int))/\i<=m1/\Kept Nil w5 v) (μ:=fun s _=>((m1:Int)-s.2).toNat) (s:=(false,0)) ⟨0,rfl,Nat.zero_le _,Kept.refl _ _⟩ ?_;rintro s v ⟨i,rfl,hi,kv⟩;unfold b0.B1;have Hs:=kv.heap ze (fun h=>h);have xk:=kv.heap mv (fun h=>h);have zQ:=qa.trans kv (fun _ _ h=>h);refine⟨B1,m1,q1,by rw [ba,ax Hs];exact c1.2.2.1,Split.dec (fun cI=>?_) (fun gu=>?_)⟩
 ·simp only at cI
  obtain⟨b,hb⟩: ∃b,c.de[i]? =some b:=⟨_,List.getElem?_eq_getElem (by omega)⟩;intro w6;have k6:Kept Nil v w6:=(Kept.refl _ _).drew;clear_value w6;have mL:=zQ.trans k6 (fun _ _ h=>h);obtain⟨a1,r1,_,r3⟩:=(g1.same mL).at_ i b hb;obtain⟨a2,r4,_,r6⟩:=(g2.same mL).at_ i b hb;subst r1 r4;refine⟨some a1,m1,q1,by rw [ba,ax (k6.heap Hs (fun h=>h))];exact c1.2.2.1,⟨by simp only;omega,by simp only;omega⟩,b,by rw [Int.toNat_natCast,Nat.mul_one];exact r3,some a2,m2,q2,by rw [ba,ax (k6.heap xk (fun h=>h))];exact c2.2.2.1,⟨by simp only;omega,by simp only;omega⟩,b,by rw [Int.toNat_natCast,Nat.mul_one];exact r6,Split.no (by simp) ?_⟩;simp only;rw [dE (n:=(i:Int)) (by omega) (by omega)];exact⟨(false,(i:Int)+1),rfl,⟨i+1,rfl,by omega,kv.trans k6 (fun _ _ h=>h)⟩,by simp only;omega⟩
 ·rw [aS,b0.cX]
  have je: ∀ {b:Nat} {A B:Option Addr} {n m p q:Nat},v.heap[b]? =some (.cells (cF c A n p B m q) bk (0,0))->Cells v ((⟨b,0,none⟩:Addr).add 0) c.je.1:=fun hb j u hj=>by
   have cI:=(Array.getElem?_eq_some_iff.1 hj).1;rw [add_zero,ba,ax hb,Nat.zero_add];unfold cF;rw [Array.getElem?_append_left cI];exact hj
  refine⟨c.je.1,⟨c.je.2.1,je Hs⟩,c.je.1,⟨c.je.2.1,je xk⟩,⟨c.je.2.ints,c.je.2.ints⟩,?_⟩;rw [dq];refine Split.yes (decide_eq_true rfl) ⟨_,by rw [ba,ax Hs];exact c1.1,_,by rw [ba,ax xk];exact c2.1,Split.yes (beq_self_eq_true _) ⟨_,_,_,by rw [ba,ax Hs];exact c1.2.1,_,_,_,by rw [ba,ax xk];exact c2.2.1,?_⟩⟩;refine vV (h1.same zQ) (h2.same zQ) (by omega) fun w7 k7=>⟨_,rfl,?_⟩;rw [decide_eq_true rfl];exact hK w7 (zQ.trans k7 (fun _ _ h=>h))
end
end Go.Proofs.YtnboahlopghcjaaGreatDoor
namespace Go.Proofs.YtnboahlopghcjaaGreatDoor
open Go.Proofs.Tryz
open Go Go.bV Go.RowKit
structure VJ(v:World)(B0 xb rb:Nat)(x:oc)(A:Option Addr)(n cp:Nat)(E:Option Addr)(e ce:Nat)(W:Option Addr)(nw cw:Nat)(wd:List HT):Prop where
 top:v.heap[xb]? =some (.cells (cF x A n cp E e ce) bk (0,0))
 mg:bO v B0 A n cp x.merge
 bl:Row v B0 gQ 1 E e ce (qW x.de)
 wr:bO v B0 W nw cw wd
 box:v.heap[rb]? =some (.cells zC bk (0,0))
 AE: ∀j,bg A=some j->bg E≠some j
 AW: ∀j,bg A=some j->bg W≠some j
 EW: ∀j,bg E=some j->bg W≠some j
 xB:xb<B0
 rB:rb<B0
 xr:xb≠rb
section
variable{v v' u:World}{B0 xb rb n cp e ce nw cw:Nat}{x:oc}{A E W:Option Addr}{wd:List HT}{K:Value->World->Prop}
theorem VJ.same(h:VJ v B0 xb rb x A n cp E e ce W nw cw wd)(k:Kept Nil v v'):VJ v' B0 xb rb x A n cp E e ce W nw cw wd:=
 ⟨k.heap h.top (fun h=>h),Row.aC h.mg k (fun _ _ h=>h),Row.aC h.bl k (fun _ _ h=>h),Row.aC h.wr k (fun _ _ h=>h),k.heap h.box (fun h=>h),h.AE,h.AW,h.EW,h.xB,h.rB,h.xr⟩
theorem VJ.f32(h:VJ v B0 xb rb x A n cp E e ce W nw cw wd):v.cell? ((⟨xb,0,none⟩:Addr).add 32)=some (.int .u64 (x.score:Int)):=by
 have:=(eN x A n cp E e ce #[]).1;rw [Array.append_empty]at this;rw [ba,ax h.top];exact this
theorem VJ.f33(h:VJ v B0 xb rb x A n cp E e ce W nw cw wd):v.cell? ((⟨xb,0,none⟩:Addr).add 33)=some (.slice A n cp):=by
 have:=(eN x A n cp E e ce #[]).2.1;rw [Array.append_empty]at this;rw [ba,ax h.top];exact this
theorem VJ.f34(h:VJ v B0 xb rb x A n cp E e ce W nw cw wd):v.cell? ((⟨xb,0,none⟩:Addr).add 34)=some (.slice E e ce):=by
 have:=(eN x A n cp E e ce #[]).2.2.1;rw [Array.append_empty]at this;rw [ba,ax h.top];exact this
theorem VJ.wrx(h:VJ v B0 xb rb x A n cp E e ce W nw cw wd){j:Nat}(hj:j<35):Wr v ((⟨xb,0,none⟩:Addr).add j):=by
 rw [ba];exact dM h.top (by rw [aY];omega)
theorem VJ.MF(h:VJ v B0 xb rb x A n cp E e ce W nw cw wd)(j:Nat)(z:Value):Kept (· =xb) v (v.setCell ((⟨xb,0,none⟩:Addr).add j) z):=by
 rw [ba];exact Kept.setCell (S:=(· =xb)) (Kept.refl _ v) (p:=⟨xb,0+j,none⟩) (fun _=>rfl) _
theorem VJ.MH(h:VJ v B0 xb rb x A n cp E e ce W nw cw wd)(s:Nat):VJ (v.setCell ((⟨xb,0,none⟩:Addr).add 32) (.int .u64 (s:Int))) B0 xb rb {x with score:=s} A n cp E e ce W nw cw wd:=by
 have k:=h.MF 32 (.int .u64 (s:Int));have xB:=h.xB;refine⟨?_,Row.aC h.mg k (fun j hj e=>by have:=(Row.bC h.mg hj).1;omega),Row.aC h.bl k (fun j hj e=>by have:=(Row.bC h.bl hj).1;omega),Row.aC h.wr k (fun j hj e=>by have:=(Row.bC h.wr hj).1;omega),k.heap h.box h.xr.symm,h.AE,h.AW,h.EW,h.xB,h.rB,h.xr⟩;rw [ba,cU h.top];have:=uT x A n cp E e ce #[] s;rw [Array.append_empty,Array.append_empty]at this;rw [this]
theorem VJ.Q1(h:VJ v B0 xb rb x A n cp E e ce W nw cw wd)(hB:B0<=v.heap.size)(hn:nw<=100000){z:HT}(jS:Kept Nil v v'){bx:Nat}(hx:HS v' (some ⟨bx,0,none⟩) 1 [z]):
 ∃W' Ql u,(Builtin.append_ #[az,az] az #[.slice W nw cw,.slice (some ⟨bx,0,none⟩) 1 1]).run prog v'=.ok (.slice W' (nw+1) Ql) u/\VJ u B0 xb rb x A n cp E e ce W' (nw+1) Ql (wd++ [z])/\Kept (fun j=>j=xb\/B0<=j) v u:=by
 have h':=h.same jS;have QQ:=jS.size;obtain⟨W',c',u,hr,row,hg,hb⟩:=cD (cx:=1) az h'.wr hx (by omega) (by omega);have kg:Kept (fun j=>bg W=some j) v' u:=Kept.grown (Kept.refl _ _) hg (fun j hj _=>hj);have nB: ∀j,j<B0->bg W≠some j:=fun j hj e=>by have:=(Row.bC h.wr e).1;omega
 refine⟨W',c',u,hr,⟨kg.heap h'.top (nB _ h.xB),Row.aC h'.mg kg (fun j hj=>h.AW j hj),Row.aC h'.bl kg (fun j hj=>h.EW j hj),row,kg.heap h'.box (nB _ h.rB),h.AE,fun j hj e=>?_,fun j hj e=>?_,h.xB,h.rB,h.xr⟩,(jS.mono fun _ _ h=>h.elim).trans kg (fun j hj e=>.inr (Row.bC h.wr e).1)⟩
 ·rcases hb j e with e'|e'
  ·exact h.AW j hj e'
  ·obtain⟨_,cur,hc⟩:=Row.bC h'.mg hj
   have:=aQ hc;omega
 ·rcases hb j e with e'|e'
  ·exact h.EW j hj e'
  ·obtain⟨_,cur,hc⟩:=Row.bC h'.bl hj
   have:=aQ hc;omega
theorem VJ.FW(h:VJ v B0 xb rb x A n cp E e ce W nw cw wd)(hB:B0<=v.heap.size)(hn:e<=100000){b:Bool}(jS:Kept Nil v v'){bx:Nat}(hx:v'.cell? ⟨bx,0,none⟩=some (.bool b)):
 ∃E' rj u,(Builtin.append_ #[fZ,fZ] fZ #[.slice E e ce,.slice (some ⟨bx,0,none⟩) 1 1]).run prog v'=.ok (.slice E' (e+1) rj) u/\Wr u ((⟨xb,0,none⟩:Addr).add 34)/\
  VJ (u.setCell ((⟨xb,0,none⟩:Addr).add 34) (.slice E' (e+1) rj)) B0 xb rb {x with de:=x.de++ [b]} A n cp E' (e+1) rj W nw cw wd/\Kept (fun j=>j=xb\/B0<=j) v (u.setCell ((⟨xb,0,none⟩:Addr).add 34) (.slice E' (e+1) rj)):=by
 have h':=h.same jS;have QQ:=jS.size;have xB:=h.xB;obtain⟨E',c',u,hr,row,hg,hb⟩:=fi (P:=prog) (t:=fZ) (bytes:=1) (ty:=fZ) Ak h'.bl (a:=⟨bx,0,none⟩) (m:=1) (cx:=1) (news:= [.bool b]) rfl (fun j z hj=>by
  cases j with
  |zero=>simp only [List.getElem?_cons_zero,Option.some.injEq]at hj;subst hj;rw [add_zero];exact hx
  |succ j=>simp at hj) (fun z hz=>by
  have:z=.bool b:=by simpa using hz
  subst this;rfl) (by omega) (by unfold maxLen;omega) (by omega)
 have kg:Kept (fun j=>bg E=some j) v' u:=Kept.grown (Kept.refl _ _) hg (fun j hj _=>hj);have nB: ∀j,j<B0->bg E≠some j:=fun j hj e=>by have:=(Row.bC h.bl e).1;omega
 have top:=kg.heap h'.top (nB _ h.xB);have ks:Kept (· =xb) u (u.setCell ((⟨xb,0,none⟩:Addr).add 34) (.slice E' (e+1) c')):=by
  rw [ba];exact Kept.setCell (S:=(· =xb)) (Kept.refl _ u) (p:=⟨xb,0+34,none⟩) (fun _=>rfl) _
 have kl:Kept (fun j=>j=xb\/bg E=some j) v' (u.setCell ((⟨xb,0,none⟩:Addr).add 34) (.slice E' (e+1) c')):=(kg.mono fun _ _ h=>.inr h).trans ks (fun _ _ h=>.inl h);refine⟨E',c',u,hr,by rw [ba];exact dM top (by rw [aY];omega),⟨?_,?_,?_,?_,?_,fun j hj e=>?_,h.AW,fun j hj e=>?_,h.xB,h.rB,h.xr⟩,(jS.mono fun _ _ h=>h.elim).trans kl (fun j hj e=>e.imp (fun h=>h) (fun e=>(Row.bC h.bl e).1))⟩
 ·rw [ba,cU top]
  have:=qj x A n cp E e ce #[] E' (e+1) c';rw [Array.append_empty,Array.append_empty]at this;rw [this];rfl
 ·exact Row.aC h'.mg kl (fun j hj e=>e.elim (fun e=>by have:=(Row.bC h.mg hj).1;omega) (h.AE j hj))
 ·have e1:qW (x.de++ [b])=qW x.de++ [.bool b]:=by simp [qW]
  show Row _ B0 gQ 1 E' (e+1) c' (qW (x.de++ [b]))
  rw [e1];exact Row.aC row ks (fun j hj e=>by have:=(Row.bC row hj).1;omega)
 ·exact Row.aC h'.wr kl (fun j hj e=>e.elim (fun e=>by have:=(Row.bC h.wr hj).1;omega) (fun e=>h.EW j e hj))
 ·exact kl.heap h'.box (fun e=>e.elim (fun e=>h.xr e.symm) (nB _ h.rB))
 ·rcases hb j e with e'|e'
  ·exact h.AE j hj e'
  ·obtain⟨_,cur,hc⟩:=Row.bC h'.mg hj
   have:=aQ hc;omega
 ·rcases hb j hj with e'|e'
  ·exact h.EW j e' e
  ·obtain⟨_,cur,hc⟩:=Row.bC h'.wr e
   have:=aQ hc;omega
end
section
variable{y w w':World}{F F' S:Nat->Prop}{r x k:Nat}{G:GS}{K:Value->World->Prop}{B0 xb rb n cp e ce nw cw:Nat}{A E W:Option Addr}{s:HT}{l:List HT}
set_option maxHeartbeats 2000000 in
theorem Dr(h:R3 y F r x k G)(hD:G.D.length<=300)(pP:k<=1000)(hB:B0<=y.heap.size)(gU: ∀j,(j=r\/j=x\/F j)->j<B0/\j≠xb/\j≠rb)(hM: ∀z∈cy G s l,z∈ids G.D)(hs:s∈ids G.D)
 (V:VJ y B0 xb rb ⟨s,G.score s+1,cy G s l,[]⟩ A n cp none 0 0 W nw cw (G.world s++ [s]))
 (hK: ∀v E e ce W nw cw,VJ v B0 xb rb (cO k G s l) A n cp E e ce W nw cw (ft k G s l).wd->Kept (fun j=>j=xb\/j=rb\/B0<=j) y (setCells v ⟨rb,0,none⟩ (cF (cO k G s l) A n cp E e ce).toList 0)->K (.tuple #[.agg (cF (cO k G s l) A n cp E e ce),.slice W nw cw]) (setCells v ⟨rb,0,none⟩ (cF (cO k G s l) A n cp E e ce).toList 0)):
 ae.cJ (some ⟨r,0,none⟩) ⟨B0,0,none⟩ ⟨rb,0,none⟩ none 0 0 ⟨xb,0,none⟩ W nw cw none 0 0 0 K y:=by
 unfold ae.cJ;have JP:(cy G s l).length<=300:=by
  have:=cR (m:=ids G.D) (lj G s l).nodup hM;rw [fR]at this;omega
 have hn:(cy G s l).length=n:=bO.len V.mg;have YX:=mF h.eM hs;have CL:=yf h.eM hs;have hR: ∀ {v:World},Kept (fun j=>j=xb\/B0<=j) y v->R3 v F r x k G:=fun kv=>h.aC kv (fun e=>by have:=gU r (.inl rfl);omega) (fun e=>by have:=gU x (.inr (.inl rfl));omega) (fun j hj e=>by have:=gU j (.inr (.inr hj));omega);have vl: ∀i,i<=n->(jF k G s l i).wd.length<=700:=fun i hi=>by
  obtain⟨b,h1,h2⟩:=Fw k G.D (G.world s++ [s]) ((cy G s l).take i);have h3:=pz ((cy G s l).take i) b;rw [List.length_take]at h3;show(((cy G s l).take i).foldl (nD k G.D) ⟨G.world s++ [s],[]⟩).wd.length<=700;rw [h2];simp only [List.length_append,List.length_singleton];omega
 refine ae.um (I:=fun st v=> ∃(i:Nat) (E:Option Addr) (e ce:Nat) (W:Option Addr) (nw cw:Nat),st=(W,nw,cw,(i:Int))/\i<=n/\VJ v B0 xb rb ⟨s,G.score s+1+(jF k G s l i).bl.count true,cy G s l,(jF k G s l i).bl⟩ A n cp E e ce W nw cw (jF k G s l i).wd/\Kept (fun j=>j=xb\/B0<=j) y v) (μ:=fun st _=>((n:Int)-st.2.2.2).toNat) (s:=(W,nw,cw,0)) ⟨0,none,0,0,W,nw,cw,rfl,Nat.zero_le _,V,Kept.refl _ _⟩ ?_;rintro st v ⟨i,E,e,ce,W,nw,cw,rfl,hi,Vv,kv⟩;unfold ae.B3;refine⟨A,n,cp,Vv.f33,Split.dec (fun cI=>?_) (fun gu=>?_)⟩
 ·simp only at cI
  have dP:i<n:=by omega
  obtain⟨z,hz⟩: ∃z,(cy G s l)[i]? =some z:=⟨_,List.getElem?_eq_getElem (by omega)⟩;have om:=xZ (k:=k) hz;have xH:(cy G s l)[((i:Nat):Int).toNat]? =some z:=by rw [Int.toNat_natCast];exact hz
  have hnw:(jF k G s l i).wd.length=nw:=bO.len Vv.wr;have Wn:=vl i hi;have sv:=kv.size;refine⟨A,n,cp,Vv.f33,(bO.hs Vv.mg).load (i:=(i:Int)) (by omega) xH ?_⟩;refine oD (hR kv) (by omega) (bO.hs Vv.wr) (by omega) z fun N cN w4 QR k4=>⟨N,_,cN,rfl,?_⟩;have nR:=kv.trans k4 (fun _ _ h=>h.elim);have WR:=hR nR;refine Is.mk rfl ⟨_,WR.c0,?_⟩;have xK:(bN G.D (jF k G s l i).wd z).length<=700:=by
   have:=List.length_filter_le (fun b=>decide (nf G.D b z)) (jF k G s l i).wd;unfold bN;omega
  generalize LC:bN G.D (jF k G s l i).wd z=yy at QR xK;have V4:=Vv.same k4;refine ae.Gd (I:=fun st u=> ∃(b:Bool) (q:Nat),st=(b,(q:Int))/\q<=yy.length/\b=(decide (yy.length<=k)&&(yy.take q).all fun z=>decide ((bN G.D (jF k G s l i).wd z).length+1<=k))/\Kept Nil w4 u) (μ:=fun st _=>((yy.length:Int)-st.2).toNat) (s:=(decide ((yy.length:Int)<=(k:Int)),0)) ⟨_,0,rfl,Nat.zero_le _,by simp,Kept.refl _ _⟩ ?_;rintro st u ⟨b,q,rfl,hq,hb,ku⟩;have KY:=nR.trans ku (fun _ _ h=>h.elim);have Vu:=V4.same ku;have fin: ∀ {t:World},Kept Nil w4 t->b=nN k G.D (jF k G s l i).wd z->ae.BT (some ⟨r,0,none⟩) ⟨rb,0,none⟩ none 0 0 ⟨xb,0,none⟩ W nw cw (i:Int) N yy.length cN b (q:Int) (bJ (ae.e3 (some ⟨r,0,none⟩) ⟨rb,0,none⟩ none 0 0 ⟨xb,0,none⟩) (fun st v=> ∃(i:Nat) (E:Option Addr) (e ce:Nat) (W:Option Addr) (nw cw:Nat),st=(W,nw,cw,(i:Int))/\i<=n/\VJ v B0 xb rb ⟨s,G.score s+1+(jF k G s l i).bl.count true,cy G s l,(jF k G s l i).bl⟩ A n cp E e ce W nw cw (jF k G s l i).wd/\Kept (fun j=>j=xb\/B0<=j) y v) (fun st _=>((n:Int)-st.2.2.2).toNat) (W,nw,cw,(i:Int)) v (ae.q3 K)) t:=fun {t} kt vy=>by
   have Vt:=V4.same kt;have Rr:=nR.trans kt (fun _ _ h=>h.elim);have st:=Rr.size;have WK:(jF k G s l i).bl.length=e:=by have:=(Row.bo Vt.bl).len;simpa using this
   have hbi:=Ca k G s l i (by omega);unfold ae.BT;refine⟨E,e,ce,Vt.f34,?_⟩;intro w5;have k5:Kept Nil t w5:=(Kept.refl _ _).alloc _;have mv:w5.cell? ⟨t.heap.size,0,none⟩=some (.bool b):=by rw [ax (aJ t _)];rfl
   clear_value w5;obtain⟨E',rj,u6,q1,q2,q3,q4⟩:=Vt.FW (by omega) (by omega) k5 mv;refine⟨E',e+1,rj,u6,q1,q2,?_⟩;have PO:=Rr.trans q4 (fun _ _ h=>h);rw [dE (n:=(i:Int)) (by omega) (by omega)];rw [nD,<-vy]at om;generalize u6.setCell ((⟨xb,0,none⟩:Addr).add 34) (.slice E' (e+1) rj)=w6 at q3 q4 PO⊢;have s6:=PO.size;cases b with
   |false=>
    refine Split.no rfl ⟨(W,nw,cw,(i:Int)+1),rfl,⟨i+1,E',e+1,rj,W,nw,cw,rfl,dP,?_,PO⟩,by simp only;omega⟩;rw [om];simpa [List.count_append]using q3
   |true=>
    refine Split.yes rfl ⟨A,n,cp,q3.f33,(bO.hs q3.mg).load (i:=(i:Int)) (by omega) xH ⟨z.2.1,?_⟩⟩;intro w7;have k7:Kept Nil w6 w7:=(Kept.refl _ _).alloc _;have YJ:=jb w6 z;obtain⟨W',Ql,w8,r1,r2,r3⟩:=q3.Q1 (by omega) (by omega) k7 YJ;refine⟨W',nw+1,Ql,w8,r1,_,r2.f32,r2.wrx (by omega),?_⟩;have aiL:(jF k G s l i).bl.count true<=300:=by have:=List.count_le_length (a:=true) (l:=(jF k G s l i).bl);omega
    have ew:IntKind.u64.wrap (((G.score s+1+(jF k G s l i).bl.count true:Nat):Int)+1)=((G.score s+1+(jF k G s l i).bl.count true+1:Nat):Int):=by
     rw [show((G.score s+1+(jF k G s l i).bl.count true:Nat):Int)+1=((G.score s+1+(jF k G s l i).bl.count true+1:Nat):Int)by omega];exact jm (by omega)
    simp only;rw [ew];have r4:=r2.MH (G.score s+1+(jF k G s l i).bl.count true+1);have r5:=r2.MF 32 (.int .u64 ((G.score s+1+(jF k G s l i).bl.count true+1:Nat):Int));refine⟨(W',nw+1,Ql,(i:Int)+1),rfl,⟨i+1,E',e+1,rj,W',nw+1,Ql,rfl,dP,?_,(PO.trans r3 (fun _ _ h=>h)).trans r5 (fun _ _ h=>.inl h)⟩,by simp only;omega⟩;rw [om];have ec:((jF k G s l i).bl++ [true]).count true=(jF k G s l i).bl.count true+1:=by simp [List.count_append]
    simp only [if_true];rw [ec,<-Nat.add_assoc];exact r4
  unfold ae.B4;refine Split.dec (fun JR=>?_) (fun OD=>?_)
  ·simp only at JR
   refine Split.mk (fun vz=>?_) (fun vz=>?_)
   ·replace vz:b=true:=vz
    subst vz;have JF:q<yy.length:=by omega
    obtain⟨z2,hz2⟩: ∃z2,yy[q]? =some z2:=⟨_,List.getElem?_eq_getElem JF⟩;intro w5;have k5:Kept Nil u w5:=(Kept.refl _ _).drew;clear_value w5;have D9:=ku.trans k5 (fun _ _ h=>h);have yJ:=nR.trans D9 (fun _ _ h=>h.elim);have hR5:=hR yJ;refine((bO.hs QR).same D9).load (i:=(q:Int)) (by omega) (by rw [Int.toNat_natCast];exact hz2) (Is.mk rfl ⟨_,hR5.c0,?_⟩);refine oD hR5 (by omega) (bO.hs (V4.same D9).wr) (by omega) z2 fun N2 c2 w6 Ao k6=>⟨N2,_,c2,rfl,?_⟩;have Jh:=D9.trans k6 (fun _ _ h=>h);refine⟨(hR5.same k6).c0,?_⟩;simp only;rw [dE (n:=(q:Int)) (by omega) (by omega),gY (x:=(k:Int)-1) (by omega) (by omega)];refine⟨(decide (((bN G.D (jF k G s l i).wd z2).length:Int)<=(k:Int)-1),(q:Int)+1),rfl,⟨_,q+1,rfl,JF,?_,Jh⟩,by simp only;omega⟩;rw [eq_comm,Bool.and_eq_true,decide_eq_true_eq]at hb;rw [decide_eq_true hb.1,Bool.true_and,List.take_add_one,hz2];simp only [Option.toList_some,List.all_append,hb.2,Bool.true_and,List.all_cons,List.all_nil,Bool.and_true];rw [decide_eq_decide];omega
   ·rw [aS,ae.Fq]
    replace vz:b=false:=vz
    refine fin ku ?_;rw [vz]at hb⊢
    symm
    unfold nN;rw [LC,decide_eq_false_iff_not];rintro⟨g1,g2⟩;rw [decide_eq_true g1,Bool.true_and]at hb;have:=List.all_eq_false.1 hb.symm;obtain⟨z0,YI,hz1⟩:=this;exact hz1 (decide_eq_true (g2 z0 (List.mem_of_mem_take YI)))
  ·simp only at OD
   rw [aS,ae.Fq];refine fin ku ?_;rw [List.take_of_length_le (by omega)]at hb;rw [hb];unfold nN;rw [LC,Bool.eq_iff_iff,Bool.and_eq_true,decide_eq_true_eq,decide_eq_true_eq,List.all_eq_true];simp only [decide_eq_true_eq]
 ·simp only at gu
  have:i=n:=by omega
  subst this;rw [aS,ae.z7];rw [<-hn,Cb]at Vv;have EG:(⟨s,G.score s+1+(ft k G s l).bl.count true,cy G s l,(ft k G s l).bl⟩:oc)=cO k G s l:=rfl;rw [EG]at Vv;unfold ae.vJ;obtain⟨t1,t2,t3⟩:=dT Vv.box (cs:=cF (cO k G s l) A (cy G s l).length cp E e ce) (by rw [aY];rfl);refine⟨_,⟨aY ..,Cells.bC Vv.top⟩,⟨aY ..,ek _ _ _ _ _ _ _,fun j hj=>t1 j (by rw [aY];exact hj)⟩,_,⟨aY ..,Cells.bC t2⟩,?_⟩;rw [hn]at t3 Vv⊢;exact hK v E e ce W nw cw Vv ((kv.mono fun _ _ h=>h.imp (fun h=>h) (fun h=>.inr h)).trans t3 (fun _ _ h=>.inr (.inl h)))
end
end Go.Proofs.YtnboahlopghcjaaGreatDoor
namespace Go.Proofs.YtnboahlopghcjaaGreatDoor
open Go.Proofs.Tryz
open Go Go.bV Go.RowKit
theorem Px{G:GS}{l:List HT}{k:Nat}{x:HT}(h:SO G l)(h1: ∀y∈l.take k,gl G y x=true)(h2: ∀y∈l.drop k,gl G x y=true):SO G (l.take k++x::l.drop k):=by
 have h0:SO G (l.take k++l.drop k):=by rw [List.take_append_drop];exact h
 unfold SO at h0⊢;rw [List.pairwise_append]at h0⊢;refine⟨h0.1,List.pairwise_cons.2 ⟨h2,h0.2.1⟩,fun a ha b hb=>?_⟩;rcases List.mem_cons.1 hb with rfl|hb
 ·exact h1 a ha
 ·exact h0.2.2 a ha b hb
section
variable{y w w':World}{F F' S:Nat->Prop}{r x k:Nat}{G:GS}{K:Value->World->Prop}{B0 xb rb sb n cp e ce nw cw na ca:Nat}{A E W AA:Option Addr}{s:HT}{l all wd:List HT}
set_option maxHeartbeats 2000000 in
theorem Ds(h:R3 y F r x k G)(hD:G.D.length<=300)(hB:B0<=y.heap.size)(gU: ∀j,(j=r\/j=x\/F j)->j≠xb)(hs:s∈ids G.D)(GU:y.heap[sb]? =some (.cells s.1 ag (0,0)))(P0:sb≠xb)
 (cS:HS y AA na all) (WU: ∀a,AA=some a->a.block≠xb) (hSS:SS all) (fN: ∀z∈all,z∈ids G.D)
 (V:VJ y B0 xb rb ⟨s,G.score s+1,[],[]⟩ none 0 0 none 0 0 W nw cw wd)
 (hK: ∀v A n cp M i,SO G M->(∀z,z∈M↔z∈all/\z≠s/\ ¬eZ G.D z s)->VJ v B0 xb rb ⟨s,G.score s+1,M,[]⟩ A n cp none 0 0 W nw cw wd->Kept (· =xb) y v->ae.cJ (some ⟨r,0,none⟩) ⟨sb,0,none⟩ ⟨rb,0,none⟩ none 0 0 ⟨xb,0,none⟩ W nw cw AA na ca i K v):
 Holds none [] prog 179 (.loop (lB (bB (sR (sL (sR (sR (sR (sR (body ae.fn)))))))))) (ae.q1 K) [(0,.pointer (some ⟨r,0,none⟩)),(4,.pointer (some ⟨sb,0,none⟩)),(6,.pointer (some ⟨rb,0,none⟩)),(7,.slice none 0 0),(8,.pointer (some ⟨xb,0,none⟩)),(9,.slice W nw cw),(10,.slice AA na ca),(11,.int .i64 0)] y:=by
 have JM:=cS.len;have ah0:na<=300:=by
  have:=cR (m:=ids G.D) hSS.nodup fN;rw [fR]at this;omega
 have hR: ∀ {v:World},Kept (· =xb) y v->R3 v F r x k G:=fun kv=>h.aC kv (gU r (.inl rfl)) (gU x (.inr (.inl rfl))) (fun j hj=>gU j (.inr (.inr hj)));refine ae.b6 (I:=fun st v=> ∃(i:Nat) (M:List HT) (A:Option Addr) (n cp:Nat),st=(i:Int)/\i<=na/\VJ v B0 xb rb ⟨s,G.score s+1,M,[]⟩ A n cp none 0 0 W nw cw wd/\SO G M/\(∀z,z∈M↔z∈all.take i/\z≠s/\ ¬eZ G.D z s)/\Kept (· =xb) y v) (μ:=fun st _=>((na:Int)-st).toNat) (s:=0) ⟨0,[],none,0,0,rfl,Nat.zero_le _,V,List.Pairwise.nil,by simp,Kept.refl _ _⟩ ?_;rintro st v ⟨i,M,A,n,cp,rfl,hi,Vv,El,gZ,kv⟩;unfold ae.B1;refine Split.dec (fun cI=>?_) (fun gu=>?_)
 ·have dP:i<na:=by omega
  obtain⟨z,hz⟩: ∃z,all[i]? =some z:=⟨_,List.getElem?_eq_getElem (by omega)⟩;have Ei:=fN z (List.mem_of_getElem? hz);have EF:all.take (i+1)=all.take i++ [z]:=by rw [List.take_add_one,hz];rfl
  have hMi: ∀y∈M,y∈ids G.D:=fun y hy=>fN y (List.mem_of_mem_take ((gZ y).1 hy).1);have hMl:M.length<=300:=by
   have:=cR (m:=ids G.D) El.nodup hMi;rw [fR]at this;omega
  have hMn:M.length=n:=bO.len Vv.mg;have sv:=kv.size;refine(cS.aC kv WU).load (i:=(i:Int)) (by omega) hz ?_;intro w2;obtain⟨qP,iC,iI⟩:=fT (w:=v) (z:=dL.1) (cs:=z.1) (t:=ag) (by rw [z.2.1];rfl);refine⟨⟨z.2.1,z.2.one,fun j hj=>qP j (by rw [z.2.1];exact hj)⟩,?_⟩;intro w3 w4
  replace iC:w3.heap[v.heap.size]? =some (.cells z.1 ag (0,0)):=iC
  replace iI:Kept Nil v w3:=iI
  have k4:Kept Nil w3 w4:=(Kept.refl _ _).drew;clear_value w4;have qi:=k4.heap iC (fun h=>h);have MX:=iI.trans k4 (fun _ _ h=>h);clear_value w3;have nR:=kv.trans MX (fun _ _ h=>h.elim);have NO: ∀ {u:World},Kept (· =xb) y u->Cells u ⟨sb,0,none⟩ s.1:=fun ku=>Cells.bC (ku.heap GU P0);have next: ∀ {u:World} {M':List HT} {A':Option Addr} {n' vB:Nat},VJ u B0 xb rb ⟨s,G.score s+1,M',[]⟩ A' n' vB none 0 0 W nw cw wd->SO G M'->(∀z,z∈M'↔z∈all.take (i+1)/\z≠s/\ ¬eZ G.D z s)->Kept (· =xb) y u->
   ∃s1:Int,IntKind.i64.wrap ((i:Int)+(1:Int))=s1/\(∃(i:Nat) (M:List HT) (A:Option Addr) (n cp:Nat),s1=(i:Int)/\i<=na/\VJ u B0 xb rb ⟨s,G.score s+1,M,[]⟩ A n cp none 0 0 W nw cw wd/\SO G M/\(∀z,z∈M↔z∈all.take i/\z≠s/\ ¬eZ G.D z s)/\Kept (· =xb) y u)/\((na:Int)-s1).toNat<((na:Int)-(i:Int)).toNat:=fun h1 h2 h3 h4=>by
   rw [dE (n:=(i:Int)) (by omega) (by omega)];exact⟨(i:Int)+1,rfl,⟨i+1,_,_,_,_,rfl,dP,h1,h2,h3,h4⟩,by omega⟩
  have skip:(z=s\/eZ G.D z s)-> ∀z',z'∈M↔z'∈all.take (i+1)/\z'≠s/\ ¬eZ G.D z' s:=fun YI z'=>by
   rw [gZ,EF,List.mem_append,List.mem_singleton];constructor
   ·rintro⟨a,b⟩;exact⟨.inl a,b⟩
   ·rintro⟨a|rfl,b,c⟩
    ·exact⟨a,b,c⟩
    ·rcases YI with e|e
     ·exact absurd e b
     ·exact absurd e c
  refine⟨z.1,⟨z.2.1,Cells.bC qi⟩,s.1,⟨s.2.1,NO nR⟩,⟨z.2.ints,s.2.ints⟩,?_⟩;rw [dq];refine Split.dec (fun CJ=>?_) (fun CJ=>?_)
  ·obtain⟨s1,e1,e2,e3⟩:=next (Vv.same MX) El (skip (.inl CJ)) nR
   rw [e1];exact⟨s1,rfl,e2,e3⟩
  have WR:=hR nR;refine Is.mk rfl ⟨_,WR.c1,Is.mk rfl ⟨z.1,⟨z.2.1,Cells.bC qi⟩,s.1,⟨s.2.1,NO nR⟩,?_⟩⟩;rw [add_zero];refine pX WR.X.gr h.eM.W (by omega) z s fun w5 b hb k5=>⟨b,rfl,?_⟩;have MW:=MX.trans k5 (fun _ _ h=>h);have yJ:=kv.trans MW (fun _ _ h=>h.elim);refine Split.mk (fun hbt=>?_) (fun WL=>?_)
  ·obtain⟨s1,e1,e2,e3⟩:=next (Vv.same MW) El (skip (.inr (hb.1 hbt))) yJ
   rw [e1];exact⟨s1,rfl,e2,e3⟩
  have hzA: ¬eZ G.D z s:=fun e=>by rw [hb.2 e]at WL;cases WL
  have V5:=Vv.same MW;have mv:=k5.heap qi (fun h=>h);have hzM:z∉M:=fun e=>by
   have h1:=((gZ z).1 e).1;have fw:=hSS.nodup;obtain⟨q,hq⟩:=List.mem_iff_getElem?.1 h1;rw [List.getElem?_take]at hq;split at hq
   ·rename_i hqi
    have:=(List.getElem?_inj (i:=q) (j:=i) (by rw [JM];omega) fw).1 (by rw [hq,hz]);omega
   ·cases hq
  refine⟨A,n,cp,V5.f33,?_⟩;refine ae.gD (I:=fun st u=> ∃q:Nat,st=(q:Int)/\q<=M.length/\(∀y∈M.drop q,gl G z y=true)/\Kept Nil w5 u) (μ:=fun st _=>st.toNat) (s:=(n:Int)) ⟨n,rfl,by omega,by rw [<-hMn];simp,Kept.refl _ _⟩ ?_;rintro st u ⟨q,rfl,hq,uB,ku⟩;unfold ae.B2;have uA: ∀ {t:World},Kept Nil w5 t->(∀y∈M.take q,gl G y z=true)->ae.iu (some ⟨r,0,none⟩) ⟨sb,0,none⟩ ⟨rb,0,none⟩ none 0 0 ⟨xb,0,none⟩ W nw cw AA na ca (i:Int) ⟨v.heap.size,0,none⟩ (q:Int) (bJ (ae.e1 (some ⟨r,0,none⟩) ⟨sb,0,none⟩ ⟨rb,0,none⟩ none 0 0 ⟨xb,0,none⟩ W nw cw AA na ca) (fun st v=> ∃(i:Nat) (M:List HT) (A:Option Addr) (n cp:Nat),st=(i:Int)/\i<=na/\VJ v B0 xb rb ⟨s,G.score s+1,M,[]⟩ A n cp none 0 0 W nw cw wd/\SO G M/\(∀z,z∈M↔z∈all.take i/\z≠s/\ ¬eZ G.D z s)/\Kept (· =xb) y v) (fun st _=>((na:Int)-st).toNat) (i:Int) v (ae.q1 K)) t:=by
   intro t kt GQ;have Vt:=V5.same kt;have Rr:=yJ.trans kt (fun _ _ h=>h.elim);have st:=Rr.size;have wL:=Vt.mg;have Hj:n<=cp:=by rcases Row.own wL with⟨_,h1,h2,_⟩|⟨_,_,_,_,_,h1,_⟩<;>omega
   unfold ae.iu;refine⟨A,n,cp,Vt.f33,⟨by omega,by omega⟩,?_⟩;have xe:HS t (if cp=0 then A else A.map (·.add (0*32))) ((q:Int).toNat -0) (M.take q):=by
    have h:=wL.hs.take (k:=q) (by omega);rw [Nat.sub_zero,Int.toNat_natCast];have e:(if cp=0 then A else A.map (·.add (0*32)))=A:=by
     split
     ·rfl
     ·cases A<;>simp [add_zero]
    rw [e];exact h
   obtain⟨A1,c1,u2,kQ,fO,J0,la⟩:=cD (cx:=cp-0) az (bO.nil t t.heap.size) xe (by simp;omega) (Nat.le_refl _);have k2:Kept Nil t u2:=Kept.eA (Kept.refl _ _) J0 (fun k hk=>by cases hk);rw [Nat.zero_add,Nat.sub_zero,Int.toNat_natCast]at kQ fO;rw [List.nil_append]at fO;refine⟨A1,_,c1,u2,by rw [Nat.sub_zero,Int.toNat_natCast];exact kQ,?_⟩;refine⟨z.1,⟨z.2.1,Cells.bC ((kt.trans k2 (fun _ _ h=>h)).heap mv (fun h=>h))⟩,z.2.1,?_⟩;intro u3;have k3:Kept Nil u2 u3:=(Kept.refl _ _).alloc _;have Ut:HS u3 (some ⟨u2.heap.size,0,none⟩) 1 [z]:=jb u2 z;clear_value u3;have lX:bO u3 t.heap.size A1 q c1 (M.take q):=Row.aC fO k3 (fun _ _ h=>h);have s2:=k2.size;have s3:=k3.size;obtain⟨A4,c4,u4,xJ,jJ,CX,aiR⟩:=cD (cx:=1) az lX Ut (by omega) (by omega);have Jp:Kept Nil t u4:=Kept.eA (k2.trans k3 (fun _ _ h=>h)) CX (fun k hk=>by rcases la k hk with h|h;cases h;exact h);have V4:=Vt.same Jp;refine⟨A4,_,c4,u4,xJ,A,n,cp,V4.f33,⟨by omega,by omega⟩,?_⟩;have P2:HS u4 (if cp=(q:Int).toNat then A else A.map (·.add ((q:Int).toNat*32))) (n-(q:Int).toNat) (M.drop q):=by
    rw [Int.toNat_natCast];exact(wL.hs.same Jp).drop Hj (by omega)
   have hdl:(n-(q:Int).toNat)=n-q:=by rw [Int.toNat_natCast]
   have s4:=Jp.size;obtain⟨A5,c5,u5,sS,kO,TS,aiQ⟩:=cD (cx:=cp-(q:Int).toNat) az jJ P2 (by omega) s4;have Vc: ∀j,bg A4=some j->t.heap.size<=j:=fun j hj=>(Row.bC jJ hj).1;have k5':Kept Nil t u5:=Kept.eA Jp TS Vc;have Fm:=Vt.same k5';refine⟨A5,_,c5,u5,sS,Fm.wrx (by omega),?_⟩;have mo:M.take q++ [z]++M.drop q=M.take q++z::M.drop q:=by simp
   have xK:(M.take q++z::M.drop q).length=n+1:=by simp;omega
   rw [mo]at kO;have e5:q+1+(n-(q:Int).toNat)=n+1:=by omega
   rw [e5]at kO⊢;have Ey: ∀j,bg A5=some j->t.heap.size<=j:=fun j hj=>(Row.bC kO hj).1;have ks:=Fm.MF 33 (.slice A5 (n+1) c5);have Vf:VJ (u5.setCell ((⟨xb,0,none⟩:Addr).add 33) (.slice A5 (n+1) c5)) B0 xb rb ⟨s,G.score s+1,M.take q++z::M.drop q,[]⟩ A5 (n+1) c5 none 0 0 W nw cw wd:=by
    have xB:=Fm.xB;refine⟨?_,?_,Row.aC Fm.bl ks (fun j hj=>by cases hj),Row.aC Fm.wr ks (fun j hj e=>by have:=(Row.bC Fm.wr hj).1;omega),ks.heap Fm.box Fm.xr.symm,fun j hj e=>(by cases e),fun j hj e=>?_,fun j hj=>(by cases hj),Fm.xB,Fm.rB,Fm.xr⟩
    ·rw [ba,cU Fm.top]
     have:=qk ⟨s,G.score s+1,M,[]⟩ A n cp none 0 0 #[] A5 (n+1) c5;rw [Array.append_empty,Array.append_empty]at this;rw [this];rfl
    ·have Sw:bO u5 B0 A5 (n+1) c5 (M.take q++z::M.drop q):=Row.base kO (fun j hj=>by have:=Ey j hj;omega)
     exact Row.aC Sw ks (fun j hj e=>by have:=Ey j hj;omega)
    ·obtain⟨_,cur,hc⟩:=Row.bC Vt.wr e
     have:=aQ hc;have:=Ey j hj;omega
   generalize u5.setCell ((⟨xb,0,none⟩:Addr).add 33) (.slice A5 (n+1) c5)=u6 at ks Vf⊢;obtain⟨s1,e1,e2,e3⟩:=next Vf (Px El GQ uB) (fun z'=>by
    rw [EF,List.mem_append (s:=all.take i),List.mem_singleton];have hM2:z'∈M.take q++z::M.drop q↔z'=z\/z'∈M:=by
     rw [List.mem_append,List.mem_cons];constructor
     ·rintro(h|h|h)
      ·exact .inr (List.mem_of_mem_take h)
      ·exact .inl h
      ·exact .inr (List.mem_of_mem_drop h)
     ·rintro(h|h)
      ·exact .inr (.inl h)
      ·rw [<-List.take_append_drop q M,List.mem_append]at h
       exact h.imp (fun h=>h) (fun h=>.inr h)
    rw [hM2,gZ];constructor
    ·rintro(rfl|⟨a,b⟩)
     ·exact⟨.inr rfl,CJ,hzA⟩
     ·exact⟨.inl a,b⟩
    ·rintro⟨a|rfl,b⟩
     ·exact .inr ⟨a,b⟩
     ·exact .inl rfl) ((Rr.trans k5' (fun _ _ h=>h.elim)).trans ks (fun _ _ h=>h))
   rw [e1];exact⟨s1,rfl,e2,e3⟩
  intro w6;have k6:Kept Nil u w6:=(Kept.refl _ _).drew;clear_value w6;have Jh:=ku.trans k6 (fun _ _ h=>h);have V6:=V5.same Jh;have PO:=yJ.trans Jh (fun _ _ h=>h.elim);refine Split.dec (fun ja=>?_) (fun xh=>?_)
  ·have SK:0<q:=by omega
   obtain⟨y1,NC⟩: ∃y1,M[q-1]? =some y1:=⟨_,List.getElem?_eq_getElem (by omega)⟩;have Lf:=List.mem_of_getElem? NC;rw [wN (x:=(q:Int)-1) (i:=q-1) (by omega) (by omega)];refine⟨z.1,⟨z.2.1,Cells.bC (Jh.heap mv (fun h=>h))⟩,A,n,cp,V6.f33,(bO.hs V6.mg).load (i:=((q-1:Nat):Int)) (by omega) (by rw [Int.toNat_natCast];exact NC) ?_⟩;refine pK (hR PO) (by omega) Ei (hMi y1 Lf) fun w7 k7=>⟨_,rfl,?_⟩;have ku7:=Jh.trans k7 (fun _ _ h=>h);refine Split.mk (fun hc=>?_) (fun hc=>?_)
   ·refine⟨((q-1:Nat):Int),rfl,⟨q-1,rfl,by omega,fun z' xH=>?_,ku7⟩,by simp only;omega⟩
    have hd:M.drop (q-1)=y1::M.drop q:=by
     obtain⟨h1,h2⟩:=List.getElem?_eq_some_iff.1 NC;rw [List.drop_eq_getElem_cons h1,h2,show q-1+1=q by omega]
    rw [hd]at xH;rcases List.mem_cons.1 xH with rfl|xH
    ·exact hc
    ·exact uB z' xH
   ·rw [aS,ae.jC]
    refine uA ku7 fun z' xH=>?_;have CK:gl G y1 z=true:=by
     cases hg:gl G y1 z
     ·exact absurd (oW hc hg) (fun e=>hzM (by rw [e];exact Lf))
     ·rfl
    obtain⟨j,hj⟩:=List.mem_iff_getElem?.1 xH;rw [List.getElem?_take]at hj;split at hj
    ·rename_i hjq
     by_cases e:j=q-1
     ·subst e;rw [NC]at hj;cases hj;exact CK
     ·obtain⟨a1,a2⟩:=List.getElem?_eq_some_iff.1 hj
      obtain⟨b1,b2⟩:=List.getElem?_eq_some_iff.1 NC;have:=List.pairwise_iff_getElem.1 El j (q-1) a1 b1 (by omega);rw [a2,b2]at this;exact oV this CK
    ·cases hj
  ·rw [aS,ae.jC]
   have SK:q=0:=by omega
   refine uA Jh fun z' xH=>?_;rw [SK]at xH;simp at xH
 ·rw [aS,ae.cX]
  rw [List.take_of_length_le (by omega)]at gZ;exact hK v A n cp M (i:Int) El gZ Vv kv
end
end Go.Proofs.YtnboahlopghcjaaGreatDoor
namespace Go.Proofs.YtnboahlopghcjaaGreatDoor
open Go.Proofs.Tryz
open Go Go.bV Go.RowKit
section
variable{w w':World}{F F' S:Nat->Prop}{r x k:Nat}{G:GS}{K:Value->World->Prop}{xb rb sb n cx:Nat}{A:Option Addr}{s:HT}{l:List HT}
theorem Mu{v:World}(h:R3 v F r x k G)(hD:G.D.length<=300)(pP:k<=1000)(hs:s∈ids G.D)(hl:HS v A n l)(hn:n<=5000)(fN: ∀z∈l,z∈ids G.D)(gU: ∀j,(j=r\/j=x\/F j)->j≠xb/\j≠rb)
 (GU:v.heap[sb]? =some (.cells s.1 ag (0,0))) (yZ:v.heap[rb]? =some (.cells zC bk (0,0))) (Wl:v.heap[xb]? =some (.cells (cF ⟨s,G.score s+1,[],[]⟩ none 0 0 none 0 0) bk (0,0))) (P0:sb≠xb) (hrx:xb≠rb)
 (hK: ∀u A n cp E e ce W nw cw,bO u v.heap.size A n cp (cO k G s l).merge->Row u v.heap.size gQ 1 E e ce (qW (cO k G s l).de)->bO u v.heap.size W nw cw (ft k G s l).wd->Kept (fun j=>j=xb\/j=rb) v u->K (.tuple #[.agg (cF (cO k G s l) A n cp E e ce),.slice W nw cw]) u):
 ae.J1 (some ⟨r,0,none⟩) A n cx ⟨sb,0,none⟩ ⟨rb,0,none⟩ none 0 0 ⟨xb,0,none⟩ K v:=by
 have W0:=h.eM.W;have lsb:=aQ GU;have lrb:=aQ yZ;have lxb:=aQ Wl;have YX:=mF h.eM hs;have j2: ∀ {u:World} {W:Option Addr} {nw cw:Nat},bO u v.heap.size W nw cw (G.world s++ [s])->Kept Nil v u->ae.J2 (some ⟨r,0,none⟩) A n cx ⟨sb,0,none⟩ ⟨rb,0,none⟩ none 0 0 ⟨xb,0,none⟩ W nw cw K u:=by
  intro u W nw cw XQ ku;have hu:=h.same ku;have su:=ku.size;unfold ae.J2;refine Is.mk rfl ⟨_,hu.c1,Is.mk rfl ?_⟩;rw [add_zero];refine yo hu.X.gr W0 (by omega) (hl.same ku) (by omega) fun A1 c1 w1 kW k1=>⟨A1,_,c1,rfl,?_⟩;have qp:(dQ G.D l).length<=300:=Nat.le_trans (mH _ _) hD;have s1:=k1.size;have Cx:=ku.trans k1 (fun _ _ h=>h);obtain⟨A2,c2,w2,jv,fO,g2,_⟩:=cD az kW (cx:=cx) (hl.same Cx) (by omega) s1;have k2:Kept Nil u w2:=Kept.eA k1 g2 (fun j hj=>(Row.bC kW hj).1);refine⟨A2,_,c2,w2,jv,?_⟩;refine nv fO.hs (by omega) fun A3 c3 w3 lX k3=>⟨A3,_,c3,rfl,?_⟩;have KZ:=k2.trans k3 (fun _ _ h=>h);have oQ:=ku.trans KZ (fun _ _ h=>h);have h3:=h.same oQ;have cS: ∀z∈df (dQ G.D l++l),z∈ids G.D:=fun z hz=>by
   rcases List.mem_append.1 (dm.1 hz)with hz|hz
   ·exact(ji.1 hz).1
   ·exact fN z hz
  have V3:VJ w3 v.heap.size xb rb ⟨s,G.score s+1,[],[]⟩ none 0 0 none 0 0 W nw cw (G.world s++ [s]):=
   ⟨oQ.heap Wl (fun h=>h),bO.nil _ _,Row.nil _ _ _ _,Row.aC XQ KZ (fun _ _ h=>h),oQ.heap yZ (fun h=>h),fun j hj=>(by cases hj),fun j hj=>(by cases hj),fun j hj=>(by cases hj),lxb,lrb,hrx⟩
  have s3:=oQ.size;refine Ds h3 (by omega) (by omega) (fun j hj=>(gU j hj).1) hs (oQ.heap GU (fun h=>h)) P0 lX.hs (fun a ha e=>by
   subst ha;have:=(Row.bC lX (k:=a.block) rfl).1;have:=(ku.trans k2 (fun _ _ h=>h)).size;omega) (iD _) cS V3 fun t A n cp M i El gZ Vt kt=>?_
  have hM:M=cy G s l:=rH El fun z=>by
   rw [gZ];unfold rG;rw [List.mem_filter,decide_eq_true_eq]
  subst hM;have ht:=h3.aC kt (gU r (.inl rfl)).1 (gU x (.inr (.inl rfl))).1 (fun j hj=>(gU j (.inr (.inr hj))).1);have st:=kt.size;refine Dr (B0:=v.heap.size) ht (by omega) pP (by omega) (fun j hj=>⟨?_,gU j hj⟩) (fun z hz=>?_) hs Vt fun t2 E e ce W nw cw V2 AK=>?_
  ·rcases hj with rfl|rfl|hj
   ·exact h.lt
   ·exact h.lx
   ·exact h.lo j hj
  ·exact cS z ((gZ z).1 hz).1
  ·have box:=V2.box
   obtain⟨_,_,f3⟩:=dT box (cs:=cF (cO k G s l) A n cp E e ce) (by rw [aY];rfl);refine hK _ A n cp E e ce W nw cw (Row.aC V2.mg f3 (fun j hj e=>by have:=(Row.bC V2.mg hj).1;omega)) (Row.aC V2.bl f3 (fun j hj e=>by have:=(Row.bC V2.bl hj).1;omega)) (Row.aC V2.wr f3 (fun j hj e=>by have:=(Row.bC V2.wr hj).1;omega)) ?_;exact((oQ.mono fun _ _ h=>h.elim).trans kt (fun j hj e=>.inl e)).trans AK (fun j hj e=>by
    rcases e with e|e|e
    ·exact .inl e
    ·exact .inr e
    ·omega)
 unfold ae.J1;intro w1;have k1:Kept Nil v w1:=(Kept.refl _ _).drew;clear_value w1;have h1:=h.same k1;obtain⟨i,nd,cl,wl,q1,q2,q3,q4,q5,q6,q7,q8⟩:=Mf h.eM hs;obtain⟨A0,c0,B,e,g1,g2,g3⟩:=h.top;have cB: ∀ {u:World},Kept Nil v u->u.cell? ((⟨r,0,none⟩:Addr).add 3)=some (.slice B G.D.length e):=fun ku=>by rw [ba,ax (ku.heap g1 (fun h=>h))];rfl
 have gW: ∀ {u:World},Kept Nil v u->oa u F B G.D.length G.iJ:=fun ku=>g3.aC ku (fun _ _ h=>h);obtain⟨aB,Aw,nw,cw,p1,p2,p3,p4,p5,p6⟩:=g3.at_ i wl q4;subst p1;have ag7:wl.length=nw:=p5.len;rw [q7]at YX;have cW: ∀ {u:World},Kept Nil v u->u.cell? (aB.add (((i:Nat):Int).toNat*1))=some (.slice Aw nw cw):=fun ku=>by rw [Int.toNat_natCast];exact ku.cell p4 (fun h=>h)
 have hW: ∀ {u:World},Kept Nil v u->HS u Aw nw wl:=fun ku=>p5.same ku;have bx: ∀ {u:World},Kept Nil v u-> ∃cs:Array Value,(.agg s.1:Value)=.agg cs/\cs.size=32/\Cells u ⟨sb,0,none⟩ cs:=fun ku=>⟨_,rfl,s.2.1,Cells.bC (ku.heap GU (fun h=>h))⟩;have Pr: ∀ {u:World},Kept Nil v u-> ∃A' c' u',(Builtin.append_ #[az,az] az #[.slice none 0 0,.slice Aw nw cw]).run prog u=.ok (.slice A' nw c') u'/\bO u' v.heap.size A' nw c' wl/\Kept Nil u u':=fun {u} ku=>by
  obtain⟨A',c',u',hr,row,hg,_⟩:=cD (cx:=cw) az (bO.nil u v.heap.size) (hW ku) (by omega) ku.size;rw [Nat.zero_add]at hr row;rw [List.nil_append]at row;exact⟨A',c',u',hr,row,Kept.eA (Kept.refl _ _) hg (fun j hj=>by cases hj)⟩
 have Pq: ∀ {u:World} {A':Option Addr} {c' bq:Nat},Kept Nil v u->bO u v.heap.size A' nw c' wl->HS u (some ⟨bq,0,none⟩) 1 [s]-> ∃A2 c2 u',(Builtin.append_ #[az,az] az #[.slice A' nw c',.slice (some ⟨bq,0,none⟩) 1 1]).run prog u=.ok (.slice A2 (nw+1) c2) u'/\bO u' v.heap.size A2 (nw+1) c2 (G.world s++ [s])/\Kept Nil v u':=fun {u A' c' bq} ku row hx=>by
  obtain⟨A2,c2,u',hr,fO,hg,_⟩:=cD (cx:=1) az row hx (by omega) ku.size;rw [<-q7]at fO;exact⟨A2,c2,u',hr,fO,Kept.eA ku hg (fun j hj=>(Row.bC row hj).1)⟩
 refine Is.mk rfl ⟨some aB,_,e,cB k1,Is.mk rfl ⟨_,h1.c1,Is.mk rfl ⟨s.1,⟨s.2.1,Cells.bC (k1.heap GU (fun h=>h))⟩,s.1,⟨s.2.1,Cells.bC (k1.heap GU (fun h=>h))⟩,?_,?_⟩⟩⟩
 ·rw [add_zero]
  refine mh h1.X.gr (by omega) s fun w2 k2=>⟨_,rfl,?_⟩;have xE:=k1.trans k2 (fun _ _ h=>h);rw [q5];refine⟨bx xE,cB xE,⟨by omega,by omega⟩,Is.mk rfl ⟨Aw,nw,cw,cW xE,?_,?_⟩⟩
  ·obtain⟨A1,c1,w3,CN,lX,k3⟩:=Pr xE
   have oQ:=xE.trans k3 (fun _ _ h=>h);refine⟨A1,nw,c1,w3,CN,bx oQ,s.2.1,?_⟩;intro w4;have k4:Kept Nil w3 w4:=(Kept.refl _ _).alloc _;have Sc:=jb w3 s;obtain⟨A2,c2,w5,sS,kO,k5⟩:=Pq (oQ.trans k4 (fun _ _ h=>h)) (Row.aC lX k4 (fun _ _ h=>h)) Sc;exact⟨A2,nw+1,c2,w5,sS,ae.pO (j2 kO k5)⟩
  ·refine⟨s.2.1,?_⟩
   intro w3;have k3:Kept Nil w2 w3:=(Kept.refl _ _).alloc _;have yW:HS w3 (some ⟨w2.heap.size,0,none⟩) 1 [s]:=jb w2 s;clear_value w3;have oQ:=xE.trans k3 (fun _ _ h=>h);obtain⟨A1,c1,w4,xJ,jJ,k4⟩:=Pr oQ;obtain⟨A2,c2,w5,sS,kO,k5⟩:=Pq (oQ.trans k4 (fun _ _ h=>h)) jJ (yW.same k4);exact⟨cW oQ,cB oQ,A1,nw,c1,w4,xJ,A2,nw+1,c2,w5,sS,ae.pO (j2 kO k5)⟩
 ·refine⟨s.2.1,?_⟩
  intro w2;have k2:Kept Nil w1 w2:=(Kept.refl _ _).alloc _;have Li:HS w2 (some ⟨w1.heap.size,0,none⟩) 1 [s]:=jb w1 s;clear_value w2;have xE:=k1.trans k2 (fun _ _ h=>h);refine⟨bx xE,(h.same xE).c1,cB xE,?_⟩;rw [add_zero];refine mh (h.same xE).X.gr (by omega) s fun w3 k3=>⟨_,rfl,?_⟩;have oQ:=xE.trans k3 (fun _ _ h=>h);rw [q5];obtain⟨A1,c1,w4,xJ,jJ,k4⟩:=Pr oQ;obtain⟨A2,c2,w5,sS,kO,k5⟩:=Pq (oQ.trans k4 (fun _ _ h=>h)) jJ ((Li.same k3).same k4);exact⟨cB oQ,⟨by omega,by omega⟩,Is.mk rfl ⟨Aw,nw,cw,cW oQ,A1,nw,c1,w4,xJ,A2,nw+1,c2,w5,sS,ae.pO (j2 kO k5)⟩⟩
theorem vm(h:R3 w F r x k G)(hD:G.D.length<=300)(pP:k<=1000)(hs:s∈ids G.D)(hl:HS w A n l)(hn:n<=5000)(fN: ∀z∈l,z∈ids G.D)
 (hK: ∀u A n cp E e ce W nw cw,bO u w.heap.size A n cp (cO k G s l).merge->Row u w.heap.size gQ 1 E e ce (qW (cO k G s l).de)->bO u w.heap.size W nw cw (ft k G s l).wd->Kept Nil w u->K (.tuple #[.agg (cF (cO k G s l) A n cp E e ce),.slice W nw cw]) u):
 bn prog ae.id #[.pointer (some ⟨r,0,none⟩),.agg s.1,.slice A n cx] w K:=by
 refine ae.of ?_;unfold ae.W;intro w1 w2 w3;have k1:Kept Nil w w1:=(Kept.refl _ _).alloc _;have xe:w1.heap[w.heap.size]? =some (.cells s.1 ag (0,0)):=aJ w _;have k2:Kept Nil w1 w2:=(Kept.refl _ _).alloc _;have jv:w2.heap[w1.heap.size]? =some (.cells zC bk (0,0)):=aJ w1 _;have k3:Kept Nil w2 w3:=(Kept.refl _ _).drew;clear_value w3;have CN:=k3.heap jv (fun h=>h);have AT:=k3.heap (k2.heap xe (fun h=>h)) (fun h=>h);have nS:=(k1.trans k2 (fun _ _ h=>h)).trans k3 (fun _ _ h=>h);have s1:=k1.size;have l1:=aQ xe;have l2:=aQ CN;clear_value w2 w1;have CL:=yf h.eM hs;have ew:IntKind.u64.wrap ((G.score s:Int)+(1:Int))=((G.score s+1:Nat):Int):=by
  rw [show(G.score s:Int)+1=((G.score s+1:Nat):Int)by omega];exact jm (by omega)
 have EG:(s.1++ #[.int .u64 ((G.score s+1:Nat):Int),.slice none 0 0,.slice none 0 0]:Array Value)=cF ⟨s,G.score s+1,[],[]⟩ none 0 0 none 0 0:=rfl;have go: ∀ {u:World} {xb:Nat},Kept Nil w3 u->w3.heap.size<=xb->u.heap[xb]? =some (.cells (cF ⟨s,G.score s+1,[],[]⟩ none 0 0 none 0 0) bk (0,0))->ae.J1 (some ⟨r,0,none⟩) A n cx ⟨w.heap.size,0,none⟩ ⟨w1.heap.size,0,none⟩ none 0 0 ⟨xb,0,none⟩ K u:=fun {u xb} ku hx Wl=>by
  have Nj:=nS.trans ku (fun _ _ h=>h);have s0:=nS.size;refine Mu (h.same Nj) hD pP hs (hl.same Nj) hn fN (fun j hj=>?_) (ku.heap AT (fun h=>h)) (ku.heap CN (fun h=>h)) Wl (by omega) (by omega) fun t A n cp E e ce W nw cw g1 g2 g3 g4=>?_
  ·have:j<w.heap.size:=by
    rcases hj with rfl|rfl|hj
    ·exact h.lt
    ·exact h.lx
    ·exact h.lo j hj
   exact⟨by omega,by omega⟩
  ·have s0u:=Nj.size
   exact hK t A n cp E e ce W nw cw (Row.base g1 (fun j hj=>by have:=(Row.bC g1 hj).1;omega)) (Row.base g2 (fun j hj=>by have:=(Row.bC g2 hj).1;omega)) (Row.base g3 (fun j hj=>by have:=(Row.bC g3 hj).1;omega)) (Nj.trans g4 (fun j hj e=>by rcases e with e|e<;>omega))
 have bx: ∀ {u:World},Kept Nil w3 u-> ∃cs:Array Value,(.agg s.1:Value)=.agg cs/\cs.size=32/\Cells u ⟨w.heap.size,0,none⟩ cs:=fun ku=>⟨_,rfl,s.2.1,Cells.bC (ku.heap AT (fun h=>h))⟩;refine⟨s.1,⟨s.2.1,Cells.bC AT⟩,s.1,⟨s.2.1,Cells.bC AT⟩,?_,?_⟩
 ·refine jL (h.same nS) (by omega) hs fun w4 k4=>⟨_,rfl,bx k4,?_⟩
  rw [ew,uW s];refine Is.mk rfl ?_;rw [EG];intro w5;have k5:Kept Nil w4 w5:=(Kept.refl _ _).alloc _;have PY:w5.heap[w4.heap.size]? =some (.cells zC bk (0,0)):=aJ w4 _;clear_value w5;have lV:=k4.trans k5 (fun _ _ h=>h);obtain⟨t1,t2,t3⟩:=dT PY (cs:=cF ⟨s,G.score s+1,[],[]⟩ none 0 0 none 0 0) (by rw [aY];rfl);refine⟨bx lV,⟨aY ..,ek _ _ _ _ _ _ _,fun j hj=>t1 j (by rw [aY];exact hj)⟩,?_⟩;have s4:=k4.size;exact ae.nH (go (lV.trans t3 (fun j hj e=>by omega)) s4 t2)
 ·intro w4
  have k4:Kept Nil w3 w4:=(Kept.refl _ _).alloc _;have Sc:w4.heap[w3.heap.size]? =some (.cells zC bk (0,0)):=aJ w3 _;clear_value w4;refine⟨bx k4,bx k4,?_⟩;refine jL (h.same (nS.trans k4 (fun _ _ h=>h))) (by omega) hs fun w5 k5=>⟨_,rfl,bx (k4.trans k5 (fun _ _ h=>h)),?_⟩;have lV:=k4.trans k5 (fun _ _ h=>h);rw [ew,uW s];refine Is.mk rfl ?_;rw [EG];obtain⟨t1,t2,t3⟩:=dT (k5.heap Sc (fun h=>h)) (cs:=cF ⟨s,G.score s+1,[],[]⟩ none 0 0 none 0 0) (by rw [aY];rfl);refine⟨⟨aY ..,ek _ _ _ _ _ _ _,fun j hj=>t1 j (by rw [aY];exact hj)⟩,?_⟩;exact ae.nH (go (lV.trans t3 (fun j hj e=>by omega)) (Nat.le_refl _) t2)
end
end Go.Proofs.YtnboahlopghcjaaGreatDoor
namespace Go.Proofs.YtnboahlopghcjaaGreatDoor
open Go.Proofs.Tryz
open Go Go.bV Go.RowKit
theorem Ce:xP prog th bk 35 88:=⟨by kernel_rfl,by kernel_rfl⟩
theorem QN:xP prog fj az 1 24:=⟨by kernel_rfl,by kernel_rfl⟩
section
variable{w w':World}{F F' S:Nat->Prop}{A:Option Addr}{n c B m bytes:Nat}{tS tE:TypeId}{news:List Value}
theorem ye{a:Addr}(P:Nat->Array Value->Prop): ∀n,(∀i,i<n-> ∃arr:Array Value,arr.size=m/\(∀u∈arr.toList,u.oneCell'=true)/\Cells w (a.add (i*m)) arr/\P i arr)->
 ∃news:List Value,news.length=n*m/\(∀j u,news[j]? =some u->w.cell? (a.add j)=some u)/\(∀u∈news,u.oneCell'=true)/\ ∀i,i<n-> ∃arr:Array Value,P i arr/\arr.size=m/\ ∀(j:Nat) v,arr[j]? =some v->news[i*m+j]? =some v
 |0,_=>⟨[],by simp,fun j u h=>by simp at h,fun u h=>by simp at h,fun i h=>by omega⟩
 |n+1,H=>by
  obtain⟨news,h1,h2,h3,h4⟩:=ye P n fun i hi=>H i (by omega);obtain⟨arr,g1,g2,g3,g4⟩:=H n (by omega);refine⟨news++arr.toList,by rw [List.length_append,h1,Array.length_toList,g1,Nat.add_mul,Nat.one_mul],fun j u hj=>?_,fun u hu=>?_,fun i hi=>?_⟩
  ·rw [List.getElem?_append]at hj
   split at hj
   ·exact h2 j u hj
   ·rename_i gu
    rw [h1]at hj gu;have:=g3 (j-n*m) u (by simpa using hj)
    rwa [kF,show n*m+(j-n*m)=j by omega]at this
  ·rcases List.mem_append.1 hu with hu|hu
   ·exact h3 u hu
   ·exact g2 u hu
  ·by_cases fN:i<n
   ·obtain⟨ar,q1,q2,q3⟩:=h4 i fN
    exact⟨ar,q1,q2,fun j v hj=>by
     have:=q3 j v hj;rw [List.getElem?_append_left (List.getElem?_eq_some_iff.1 this).1];exact this⟩
   ·obtain rfl:i=n:=by omega
    exact⟨arr,g4,g1,fun j v hj=>by
     rw [List.getElem?_append_right (by omega),h1,show i*m+j-i*m=j by omega,Array.getElem?_toList];exact hj⟩
theorem xx(T:xP prog tS tE m bytes)(hb:bytes<=1000)(hn:n<=100000){a:Addr}{cx:Nat}(P:Nat->Array Value->Prop)(H: ∀i,i<n-> ∃arr:Array Value,arr.size=m/\(∀u∈arr.toList,u.oneCell'=true)/\Cells w (a.add (i*m)) arr/\P i arr):
 ∃A' c' w' news,(Builtin.append_ #[tS,tS] tS #[.slice none 0 0,.slice (some a) n cx]).run prog w=.ok (.slice A' n c') w'/\Row w' w.heap.size tE m A' n c' news/\Kept Nil w w'/\ ∀i,i<n-> ∃arr:Array Value,P i arr/\arr.size=m/\ ∀(j:Nat) v,arr[j]? =some v->news[i*m+j]? =some v:=by
 obtain⟨news,e1,e2,e3,e4⟩:=ye (w:=w) (m:=m) P n H;obtain⟨A',c',w',hr,e8,hg,_⟩:=fi (P:=prog) (ty:=tS) T (Row.nil w w.heap.size _ _) (a:=a) (m:=n) (cx:=cx) (news:=news) e1 e2 e3 (by rw [Nat.zero_add];have:=Nat.mul_le_mul hn hb;omega) (by unfold maxLen;omega) (Nat.le_refl _);rw [Nat.zero_add]at hr e8;rw [List.nil_append]at e8;exact⟨A',c',w',news,hr,e8,Kept.eA (Kept.refl _ _) hg (fun j hj=>by cases hj),e4⟩
theorem xw(T:xP prog tS tE m bytes)(hb:bytes<=1000)(hn:n<=100000)(h:Row w B tE m A n c news)(hB:B<=w.heap.size){b:Nat}{arr:Array Value}{t:TypeId}(iC:w.heap[b]? =some (.cells arr t (0,0)))(hs:arr.size=m)(h1: ∀u∈arr.toList,u.oneCell'=true):
 ∃A' c' w',(Builtin.append_ #[tS,tS] tS #[.slice A n c,.slice (some ⟨b,0,none⟩) 1 1]).run prog w=.ok (.slice A' (n+1) c') w'/\Row w' B tE m A' (n+1) c' (news++arr.toList)/\w.grownBy w' (bg A):=by
 obtain⟨A',c',w',hr,e8,hg,_⟩:=fi (P:=prog) (ty:=tS) T h (a:=⟨b,0,none⟩) (m:=1) (cx:=1) (news:=arr.toList) (by simpa using hs)
  (fun j u hj=>by rw [ba,Nat.zero_add,ax iC];simpa using hj) h1 (by have:=Nat.mul_le_mul (show n+1<=100001 by omega) hb;omega) (by unfold maxLen;omega) hB
 exact⟨A',c',w',hr,e8,hg⟩
def Ie(w:World)(F:Nat->Prop)(l:List oc)(i:Nat)(arr:Array Value):Prop:= ∃x A1 n1 c1 B1 m1 d1,l[i]? =some x/\arr=cF x A1 n1 c1 B1 m1 d1/\HS w A1 n1 x.merge/\Bo w B1 m1 x.de/\(∀b,A1=some b->F b.block)/\(∀b,B1=some b->F b.block)
def Pw(w:World)(F:Nat->Prop)(l:List (List HT))(i:Nat)(arr:Array Value):Prop:= ∃x A1 n1 c1,l[i]? =some x/\arr= #[.slice A1 n1 c1]/\HS w A1 n1 x/\(∀b,A1=some b->F b.block)
theorem pH.ye{l:List oc}(h:pH w F A n l):(0<n-> ∃a,A=some a)/\ ∀a,A=some a-> ∀i,i<n-> ∃arr:Array Value,arr.size=35/\(∀u∈arr.toList,u.oneCell'=true)/\Cells w (a.add (i*35)) arr/\Ie w F l i arr:=by
 have hl:=h.len;refine⟨fun h0=>?_,fun a ha i hi=>?_⟩
 ·obtain⟨x,hx⟩: ∃x,l[0]? =some x:=⟨_,List.getElem?_eq_getElem (by omega)⟩
  obtain⟨a,_,_,_,_,_,_,g1,_⟩:=h.at_ 0 x hx;exact⟨a,g1⟩
 ·obtain⟨x,hx⟩: ∃x,l[i]? =some x:=⟨_,List.getElem?_eq_getElem (by omega)⟩
  obtain⟨a',A1,n1,c1,B1,m1,d1,g1,g2,g3,g4,g5,g6,g7,g8⟩:=h.at_ i x hx;rw [ha]at g1;cases g1;exact⟨_,aY ..,ek _ _ _ _ _ _ _,g4,x,A1,n1,c1,B1,m1,d1,hx,rfl,g5,g6,g7,g8⟩
theorem oa.ye{l:List (List HT)}(h:oa w F A n l):(0<n-> ∃a,A=some a)/\ ∀a,A=some a-> ∀i,i<n-> ∃arr:Array Value,arr.size=1/\(∀u∈arr.toList,u.oneCell'=true)/\Cells w (a.add (i*1)) arr/\Pw w F l i arr:=by
 have hl:=h.len;refine⟨fun h0=>?_,fun a ha i hi=>?_⟩
 ·obtain⟨x,hx⟩: ∃x,l[0]? =some x:=⟨_,List.getElem?_eq_getElem (by omega)⟩
  obtain⟨a,_,_,_,g1,_⟩:=h.at_ 0 x hx;exact⟨a,g1⟩
 ·obtain⟨x,hx⟩: ∃x,l[i]? =some x:=⟨_,List.getElem?_eq_getElem (by omega)⟩
  obtain⟨a',A1,n1,c1,g1,g2,g3,g4,g5,g6⟩:=h.at_ i x hx;rw [ha]at g1;cases g1;refine⟨#[.slice A1 n1 c1],rfl,fun u hu=>?_,fun j u hj=>?_,x,A1,n1,c1,hx,rfl,g5,g6⟩
  ·simp at hu;subst hu;rfl
  ·cases j with
   |zero=>simp at hj;subst hj;rw [add_zero];exact g4
   |succ j=>simp at hj
theorem pH.snoc{l:List oc}{x:oc}{A1 B1:Option Addr}{n1 c1 m1 d1:Nat}{w0:World}(h:Row w B bk 35 A (n+1) c (news++(cF x A1 n1 c1 B1 m1 d1).toList))(xK:news.length=n*35)(hl:l.length=n)(k0:Kept Nil w0 w)(hF: ∀j,bg A=some j->F' j)(WS: ∀j,F j->F' j)
 (hc: ∀i,i<n-> ∃arr:Array Value,Ie w0 F l i arr/\arr.size=35/\ ∀(j:Nat) v,arr[j]? =some v->news[i*35+j]? =some v)
 (g1:HS w A1 n1 x.merge) (g2:Bo w B1 m1 x.de) (g3: ∀b,A1=some b->F' b.block) (g4: ∀b,B1=some b->F' b.block):pH w F' A (n+1) (l++ [x]):=by
 refine⟨by simp [hl],fun i y hi=>?_⟩;obtain⟨b,rfl⟩:=Row.some h (by omega);obtain⟨_,cur,oR⟩:=Row.bC h (k:=b) rfl;rw [List.getElem?_append]at hi;split at hi
 ·rename_i cI
  obtain⟨arr,⟨y',A2,n2,c2,B2,m2,d2,q1,rfl,q3,q4,q5,q6⟩,q7,q8⟩:=hc i (by omega);rw [hi]at q1;cases q1;exact⟨_,A2,n2,c2,B2,m2,d2,rfl,aQ oR,hF b rfl,fun j v hj=>by
   rw [kF];have:=q8 j v hj;exact Row.cells h _ _ (by rw [List.getElem?_append_left (List.getElem?_eq_some_iff.1 this).1];exact this),q3.same k0,q4.same k0,fun b hb=>WS _ (q5 b hb),fun b hb=>WS _ (q6 b hb)⟩
 ·rename_i gu
  have Et:i=n/\y=x:=by
   cases hk:i-l.length with
   |zero=>rw [hk]at hi;exact⟨by omega,by simpa using hi.symm⟩
   |succ k=>rw [hk]at hi;simp at hi
  obtain⟨rfl,rfl⟩:=Et;exact⟨_,A1,n1,c1,B1,m1,d1,rfl,aQ oR,hF b rfl,fun j v hj=>by
   rw [kF];exact Row.cells h _ _ (by rw [List.getElem?_append_right (by omega),xK,show i*35+j-i*35=j by omega,Array.getElem?_toList];exact hj),g1,g2,g3,g4⟩
theorem oa.snoc{l:List (List HT)}{x:List HT}{A1:Option Addr}{n1 c1:Nat}{w0:World}(h:Row w B az 1 A (n+1) c (news++(#[.slice A1 n1 c1]:Array Value).toList))(xK:news.length=n*1)(hl:l.length=n)(k0:Kept Nil w0 w)(hF: ∀j,bg A=some j->F' j)(WS: ∀j,F j->F' j)
 (hc: ∀i,i<n-> ∃arr:Array Value,Pw w0 F l i arr/\arr.size=1/\ ∀(j:Nat) v,arr[j]? =some v->news[i*1+j]? =some v)
 (g1:HS w A1 n1 x) (g3: ∀b,A1=some b->F' b.block):oa w F' A (n+1) (l++ [x]):=by
 refine⟨by simp [hl],fun i y hi=>?_⟩;obtain⟨b,rfl⟩:=Row.some h (by omega);obtain⟨_,cur,oR⟩:=Row.bC h (k:=b) rfl;rw [List.getElem?_append]at hi;split at hi
 ·rename_i cI
  obtain⟨arr,⟨y',A2,n2,c2,q1,rfl,q3,q4⟩,q7,q8⟩:=hc i (by omega);rw [hi]at q1;cases q1;have:=q8 0 _ rfl;exact⟨_,A2,n2,c2,rfl,aQ oR,hF b rfl,Row.cells h _ _ (by rw [Nat.add_zero]at this;rw [List.getElem?_append_left (List.getElem?_eq_some_iff.1 this).1];exact this),q3.same k0,fun b hb=>WS _ (q4 b hb)⟩
 ·rename_i gu
  have Et:i=n/\y=x:=by
   cases hk:i-l.length with
   |zero=>rw [hk]at hi;exact⟨by omega,by simpa using hi.symm⟩
   |succ k=>rw [hk]at hi;simp at hi
  obtain⟨rfl,rfl⟩:=Et;exact⟨_,A1,n1,c1,rfl,aQ oR,hF b rfl,Row.cells h _ _ (by rw [List.getElem?_append_right (by omega),xK,show i*1-i*1=0 by omega];rfl),g1,g3⟩
end
section
variable{w w':World}{F:Nat->Prop}{r x k:Nat}{G:GS}{K:Value->World->Prop}
theorem wP(root:HT)(k:Nat)(hK: ∀v r x F,R3 v F r x k (dc root)->(∀j,F j->w.heap.size<=j)->w.heap.size<=r->w.heap.size<=x->Kept Nil w v->K (.pointer (some ⟨r,0,none⟩)) v):
 bn prog jx.id #[.int .i64 (k:Int),.agg root.1] w K:=by
 refine jx.of ?_;unfold jx.W;intro w1;have k1:Kept Nil w w1:=(Kept.refl _ _).alloc _;have xM:w1.heap[w.heap.size]? =some (.cells root.1 ag (0,0)):=aJ w _;clear_value w1;refine⟨root.1,⟨root.2.1,Cells.bC xM⟩,?_⟩;refine wR root fun w2 x FX hX hFX hx k2=>⟨_,rfl,rfl,?_⟩;have oh:=k1.trans k2 (fun _ _ h=>h);intro w3 w4 w5;have k3:Kept Nil w2 w3:=(Kept.refl _ _).alloc _;have Uj:w3.heap[w2.heap.size]? =some (.cells zC bk (0,0)):=aJ w2 _;have k4:Kept Nil w3 w4:=(Kept.refl _ _).alloc _;have hw4:w4.heap[w3.heap.size]? =some (.cells #[.slice none 0 0] az (0,0)):=aJ w3 _;have k5:Kept Nil w4 w5:=(Kept.refl _ _).alloc _;have ht5:w5.heap[w4.heap.size]? =some (.cells #[.int .i64 (k:Int),.pointer (some ⟨x,0,none⟩),.slice (some ⟨w2.heap.size,0,none⟩) 1 1,.slice (some ⟨w3.heap.size,0,none⟩) 1 1] gq (0,0)):=aJ w4 _;clear_value w5;have YY:=k5.heap hw4 (fun h=>h);have Qe:=k5.heap (k4.heap Uj (fun h=>h)) (fun h=>h);have CC:=(k3.trans k4 (fun _ _ h=>h)).trans k5 (fun _ _ h=>h);have s02:=oh.size;have l3:=aQ Uj;have l4:=aQ hw4;have l5:=aQ ht5;have s1:=k1.size;have s2:=k2.size;have lx:=hX.lt;clear_value w4 w3;refine hK w5 w4.heap.size x (fun j=>FX j\/j=w2.heap.size\/j=w3.heap.size) ⟨⟨some ⟨w2.heap.size,0,none⟩,1,some ⟨w3.heap.size,0,none⟩,1,ht5,⟨rfl,fun i y hi=>?_⟩,⟨rfl,fun i y hi=>?_⟩⟩,(hX.same CC).mono (fun j e=>.inl e) (fun e=>?_),fun e=>?_,by omega,lE k root,fun j e=>?_⟩ (fun j e=>?_) (by omega) (by omega) (oh.trans CC (fun _ _ h=>h))
 ·cases i with
  |zero=>
   have:y=⟨dL,0,[],[]⟩:=by simpa [dc]using hi.symm
   subst this;refine⟨_,none,0,0,none,0,0,rfl,by show w2.heap.size<_;omega,.inr (.inl rfl),fun j u hj=>?_,HS.nil _ _,⟨rfl,fun i b h=>by simp at h⟩,fun b hb=>(by cases hb),fun b hb=>(by cases hb)⟩;rw [Nat.zero_mul,add_zero,ba,Nat.zero_add,ax Qe];exact hj
  |succ i=>simp [dc]at hi
 ·cases i with
  |zero=>
   have:y= []:=by simpa [dc]using hi.symm
   subst this;refine⟨_,none,0,0,rfl,by show w3.heap.size<_;omega,.inr (.inr rfl),?_,HS.nil _ _,fun b hb=>(by cases hb)⟩;rw [Nat.zero_mul,add_zero,ax YY];rfl
  |succ i=>simp [dc]at hi
 ·rcases e with e|e|e
  ·exact hX.gU e
  ·omega
  ·omega
 ·rcases e with e|e|e
  ·have:=(hFX _ e).2;omega
  ·omega
  ·omega
 ·rcases e with e|e|e
  ·have:=(hFX _ e).2;omega
  ·omega
  ·omega
 ·rcases e with e|e|e
  ·have:=(hFX _ e).1;omega
  ·omega
  ·omega
end
end Go.Proofs.YtnboahlopghcjaaGreatDoor
namespace Go.Proofs.YtnboahlopghcjaaGreatDoor
open Go.Proofs.Tryz
open Go Go.bV Go.RowKit
section
variable{w w':World}{F:Nat->Prop}{r x k:Nat}{G:GS}{K:Value->World->Prop}{A:Option Addr}{n cx:Nat}{l:List HT}
set_option maxHeartbeats 2000000 in
theorem wQ(h:R3 w F r x k G)(hD:G.D.length<=300)(pP:k<=1000)(hl:HS w A n l)(hn:n<=5000)(id:HT)
 (hE:dp G.D id l≠0-> ∀w',Kept Nil w w'->K (.tuple #[.agg Kz,.int .i64 (dp G.D id l)]) w')
 (hO:dp G.D id l=0-> ∀w' A n c B e ce,R3 w' (fun j=>F j\/(w.heap.size<=j/\j<w'.heap.size)) r x k (dz k G id l)->Kept (fun j=>j=r\/j=x) w w'->HS w' A n (cO k G (b7 G l) l).merge->Bo w' B e (cO k G (b7 G l) l).de->(∀a,A=some a\/B=some a->w.heap.size<=a.block)->K (.tuple #[.agg (cF (cO k G (b7 G l) l) A n c B e ce),.int .i64 0]) w'):
 bn prog dA.id #[.pointer (some ⟨r,0,none⟩),.agg id.1,.slice A n cx] w K:=by
 have W0:=h.eM.W;have Wx:=h.lt;have LF:=h.lx;refine dA.of ?_;unfold dA.W;intro w1 w2;have k1:Kept Nil w w1:=(Kept.refl _ _).alloc _;have JW:w1.heap[w.heap.size]? =some (.cells id.1 ag (0,0)):=aJ w _;have k2:Kept Nil w1 w2:=(Kept.refl _ _).alloc _;have jv:w2.heap[w1.heap.size]? =some (.cells zC bk (0,0)):=aJ w1 _;clear_value w2;have Bh:=k2.heap JW (fun h=>h);have oh:=k1.trans k2 (fun _ _ h=>h);have s1:=k1.size;have l1:=aQ JW;have l2:=aQ jv;clear_value w1;have h2:=h.same oh;obtain⟨A0,c0,B0,e0,sl,g1,g2,g3,g4,g5⟩:=h2.X.ex;refine Is.mk rfl ⟨_,h2.c1,Is.mk rfl ⟨#[.slice A0 G.D.length c0],⟨rfl,fun j u hj=>?_⟩,?_⟩⟩
 ·cases j with
  |zero=>simp at hj;subst hj;rw [add_zero,add_zero,ax g1];rfl
  |succ j=>simp at hj
 intro w3;have k3:Kept Nil w2 w3:=(Kept.refl _ _).alloc _;have TU:w3.heap[w2.heap.size]? =some (.cells #[.slice none 0 0] gX (0,0)):=aJ w2 _;clear_value w3;obtain⟨t1,t2,t3⟩:=dT TU (cs:= #[.slice A0 G.D.length c0]) rfl;refine⟨⟨rfl,fun u hu=>by simp at hu;subst hu;rfl,fun j hj=>t1 j hj⟩,?_⟩;intro w4
 replace t2:w4.heap[w2.heap.size]? =some (.cells #[.slice A0 G.D.length c0] gX (0,0)):=t2
 replace t3:Kept (· =w2.heap.size) w3 w4:=t3
 clear_value w4;have pN:Kept Nil w2 w4:=k3.trans t3 (fun j hj e=>by omega);have qd:=oh.trans pN (fun _ _ h=>h);have s2:=oh.size;refine⟨id.1,⟨id.2.1,Cells.bC (pN.heap Bh (fun h=>h))⟩,?_⟩;have hIR:ti w4 F w2.heap.size G.D:=⟨⟨A0,c0,_,_,t2,rfl,g2.same pN⟩,fun e=>by have:=h.lo _ e;omega⟩;refine Cn hIR W0 (by omega) (hl.same qd) (by omega) fun w5 _ k5=>⟨_,rfl,?_⟩;have CC:Kept Nil w2 w5:=pN.trans k5 (fun j hj e=>by omega);have qa:=oh.trans CC (fun _ _ h=>h);have sS:=CC.heap jv (fun h=>h);have JV:=CC.heap Bh (fun h=>h);by_cases hc:dp G.D id l≠0
 ·obtain⟨f1,f2,f3⟩:=dT sS (cs:=zC) rfl
  refine Split.yes (by simpa using hc) ⟨⟨rfl,by show ∀u∈(Kz:Array Value).toList,_;exact ek _ _ _ _ _ _ _,fun j hj=>f1 j hj⟩,?_⟩;exact⟨_,⟨rfl,Cells.bC f2⟩,hE hc _ (qa.trans f3 (fun j hj e=>by omega))⟩
 have hc:dp G.D id l=0:=by omega
 refine Split.no (by rw [hc];rfl) ?_;obtain⟨_,fG,_,cS⟩:=kc hc;have fN: ∀z∈l,z∈ids G.D:=fun z hz=>cS z (dm.2 hz);refine sP (h.same qa) (by omega) (hl.same qa) fG (by omega) fN fun w6 k6=>⟨_,rfl,?_⟩;have yQ:=CC.trans k6 (fun _ _ h=>h);have mL:=oh.trans yQ (fun _ _ h=>h);generalize ml:b7 G l=s;have AS:s∈l:=by rw [<-ml];exact kh fG
 intro w7;have k7:Kept Nil w6 w7:=(Kept.refl _ _).alloc _;have hb7:w7.heap[w6.heap.size]? =some (.cells dL.1 ag (0,0)):=aJ w6 _;clear_value w7;obtain⟨q1,q2,q3⟩:=jk s hb7 rfl;refine⟨q1,?_⟩;intro w8
 replace q2:w8.heap[w6.heap.size]? =some (.cells s.1 ag (0,0)):=q2
 replace q3:Kept (· =w6.heap.size) w7 w8:=q3
 clear_value w8;have Jk:Kept Nil w6 w8:=k7.trans q3 (fun j hj e=>by omega);have Gs:=yQ.trans Jk (fun _ _ h=>h);have rK:=oh.trans Gs (fun _ _ h=>h);have s06:=mL.size;have s08:=rK.size;have s28:=Gs.size;refine⟨s.1,⟨s.2.1,Cells.bC q2⟩,?_⟩;refine vm (h.same rK) hD pP (fN s AS) (hl.same rK) hn fN fun w9 Am nm cm E e ce Wd nw cw rm rb rw9 k9=>⟨_,Wd,nw,cw,rfl,?_⟩;have Jr:=Gs.trans k9 (fun _ _ h=>h);have Eg:=oh.trans Jr (fun _ _ h=>h);have s09:=Eg.size;have s89:=k9.size;intro w10;have mC:Kept Nil w9 w10:=(Kept.refl _ _).alloc _;have aaT:w10.heap[w9.heap.size]? =some (.cells zC bk (0,0)):=aJ w9 _;clear_value w10;obtain⟨f1,f2,f3⟩:=dT aaT (cs:=cF (cO k G s l) Am nm cm E e ce) (by rw [aY];rfl);refine⟨⟨aY ..,ek _ _ _ _ _ _ _,fun j hj=>f1 j (by rw [aY];exact hj)⟩,?_⟩;intro tB lU
 replace f2:tB.heap[w9.heap.size]? =some (.cells (cF (cO k G s l) Am nm cm E e ce) bk (0,0)):=f2
 replace f3:Kept (· =w9.heap.size) w10 tB:=f3
 have vc:Kept Nil tB lU:=(Kept.refl _ _).drew;clear_value lU;have Ul:=vc.heap f2 (fun h=>h);have M1:Kept Nil w9 lU:=(mC.trans f3 (fun j hj e=>by omega)).trans vc (fun _ _ h=>h);clear_value tB;have Ng:=Jr.trans M1 (fun _ _ h=>h);have rL:=oh.trans Ng (fun _ _ h=>h);have af2:=rL.size;have agv:=aQ Ul;have C4:=h.same rL;refine Is.mk rfl ⟨_,C4.c1,id.1,⟨id.2.1,Cells.bC (Ng.heap Bh (fun h=>h))⟩,s.1,⟨s.2.1,Cells.bC ((k9.trans M1 (fun _ _ h=>h)).heap q2 (fun h=>h))⟩,?_⟩;refine DO C4.X C4.lo (by omega) (hl.same rL) (by omega) fun kN UU re=>⟨_,rfl,?_⟩;have eX:mU G.D id s l=(dz k G id l).D/\mT G.D G.P id s l=(dz k G id l).P:=by rw [<-ml];exact⟨H7.symm,H8.symm⟩
 rw [eX.1,eX.2]at UU;intro ie;have Il:Kept Nil kN ie:=(Kept.refl _ _).drew;clear_value ie;have yR:Kept (· =x) lU ie:=re.trans Il (fun _ _ h=>h.elim);have CH:Kept (· =x) w ie:=(rL.mono fun _ _ h=>h.elim).trans yR (fun _ _ h=>h);have acR:=yR.size;have yV:=kH (k:=k) (G:=G) (h:=id) (ps:=l) hc;rw [ml]at yV;obtain⟨A1,c1,B1,e1,p1,p2,p3⟩:=h.top;have MN:=CH.heap p1 h.ne;have MM:pH ie F A1 G.D.length G.o5:=p2.aC CH (fun j hj e=>h.X.gU (by rw [<-e];exact hj));have XU:oa ie F B1 G.D.length G.iJ:=p3.aC CH (fun j hj e=>h.X.gU (by rw [<-e];exact hj));have ja:=W0.pos;obtain⟨⟨a1,Qg⟩,Ls⟩:=(⟨MM.ye.1 ja,MM.ye.2⟩:(∃a,A1=some a)/\_);subst Qg;have OO:=yR.heap Ul (by omega);have Zu:=yR.heap (Ng.heap jv (fun h=>h)) (by omega);have bm: ∀j,bg Am=some j->w8.heap.size<=j/\j<w9.heap.size:=fun j hj=>by obtain⟨z1,cur,z2⟩:=Row.bC rm hj;exact⟨z1,aQ z2⟩
 have bb: ∀j,bg E=some j->w8.heap.size<=j/\j<w9.heap.size:=fun j hj=>by obtain⟨z1,cur,z2⟩:=Row.bC rb hj;exact⟨z1,aQ z2⟩
 have bw: ∀j,bg Wd=some j->w8.heap.size<=j/\j<w9.heap.size:=fun j hj=>by obtain⟨z1,cur,z2⟩:=Row.bC rw9 hj;exact⟨z1,aQ z2⟩
 have Ji:Kept (· =x) w9 ie:=(M1.mono fun _ _ h=>h.elim).trans yR (fun _ _ h=>h);have afH:=Ji.size;have Ra:HS ie Am nm (cO k G s l).merge:=(bO.hs rm).aC Ji (fun a ha e=>by have:=bm a.block (by rw [ha];rfl);omega);have VE:Bo ie E e (cO k G s l).de:=(Row.bo rb).aC Ji (fun a ha e=>by have:=bb a.block (by rw [ha];rfl);omega);have Xu:HS ie Wd nw (ft k G s l).wd:=(bO.hs rw9).aC Ji (fun a ha e=>by have:=bw a.block (by rw [ha];rfl);omega);have bF: ∀ {A:Option Addr} {b:Addr},(∀j,bg A=some j->w8.heap.size<=j/\j<w9.heap.size)->A=some b->w.heap.size<=b.block/\b.block<ie.heap.size:=fun hA hb=>by
  have:=hA _ (by rw [hb];rfl);omega
 rw [ml]at hO;have tail: ∀ {u:World} {Aa:Option Addr} {ca:Nat} {news:List Value},Row u ie.heap.size bk 35 Aa (G.D.length+1) ca (news++(cF (cO k G s l) Am nm cm E e ce).toList)->news.length=G.D.length*35->(∀i,i<G.D.length-> ∃arr:Array Value,Ie ie F G.o5 i arr/\arr.size=35/\ ∀(j:Nat) v,arr[j]? =some v->news[i*35+j]? =some v)->Kept Nil ie u->
  Wr u ((⟨r,0,none⟩:Addr).add 2)/\let a3:=u.setCell ((⟨r,0,none⟩:Addr).add 2) (.slice Aa (G.D.length+1) ca);Is (some (⟨r,0,none⟩:Addr)) fun b3:Addr=> ∃c3:Option Addr,∃d3:Nat,∃e3:Nat,a3.cell? (b3.add 3)=some (.slice c3 d3 e3)/\ ∃(f3:Option Addr) (g3 i3:Nat) (j3:World),(Builtin.append_ #[fj,fj] fj #[.slice none 0 0,.slice c3 d3 e3]).run prog a3=.ok (.slice f3 g3 i3) j3/\let k3:=j3.alloc (.cells #[.slice Wd nw cw] az);∃(m3:Option Addr) (n3 o3:Nat) (p3:World),(Builtin.append_ #[fj,fj] fj #[.slice f3 g3 i3,.slice (some (⟨j3.heap.size,0,none⟩:Addr)) 1 1]).run prog k3=.ok (.slice m3 n3 o3) p3/\Is (some (⟨r,0,none⟩:Addr)) fun q3:Addr=>Wr p3 (q3.add 3)/\let r3:=p3.setCell (q3.add 3) (.slice m3 n3 o3);∃t3:Array Value,(t3.size=35/\Cells r3 (⟨w9.heap.size,0,none⟩:Addr) t3)/\(t3.size=35/\(∀u3∈t3.toList,u3.oneCell'=true)/\ ∀v3,v3<35->Wr r3 ((⟨w1.heap.size,0,none⟩:Addr).add v3))/\let x3:=setCells r3 (⟨w1.heap.size,0,none⟩:Addr) t3.toList 0;∃y3:Array Value,(y3.size=35/\Cells x3 (⟨w1.heap.size,0,none⟩:Addr) y3)/\K (.tuple #[.agg y3,.int .i64 0]) x3:=by
  intro u Aa ca news row xK uC ku;have pu:=ku.heap MN (fun h=>h);have su:=ku.size;refine⟨by rw [ba];exact dM pu (by simp),?_⟩;intro u1;have pu1:u1.heap[r]? =some (.cells #[.int .i64 (k:Int),.pointer (some ⟨x,0,none⟩),.slice Aa (G.D.length+1) ca,.slice B1 G.D.length e1] gq (0,0)):=by
   show(u.setCell ((⟨r,0,none⟩:Addr).add 2) (.slice Aa (G.D.length+1) ca)).heap[r]? =_;rw [ba,cU pu];rfl
  have Cx:Kept (· =r) u u1:=by
   show Kept (· =r) u (u.setCell ((⟨r,0,none⟩:Addr).add 2) (.slice Aa (G.D.length+1) ca))
   rw [ba];exact Kept.setCell (S:=(· =r)) (Kept.refl _ u) (p:=⟨r,0+2,none⟩) (fun _=>rfl) _
  clear_value u1;have Gz:Kept (· =r) ie u1:=(ku.mono fun _ _ h=>h.elim).trans Cx (fun _ _ h=>h);have pw1:oa u1 F B1 G.D.length G.iJ:=XU.aC Gz (fun j hj e=>h.gU (by rw [<-e];exact hj));obtain⟨⟨b1,xM⟩,Sq⟩:=(⟨pw1.ye.1 ja,pw1.ye.2⟩:(∃a,B1=some a)/\_);subst xM;obtain⟨Aw,c2,u2,nws,JE,fO,AK,hcw⟩:=xx (w:=u1) QN (by omega) (by omega) (cx:=e1) (Pw u1 F G.iJ) (Sq b1 rfl);refine Is.mk rfl ⟨some b1,G.D.length,e1,by rw [ba,ax pu1];rfl,Aw,_,c2,u2,JE,?_⟩;intro u3;have yP:Kept Nil u2 u3:=(Kept.refl _ _).alloc _;have yW:u3.heap[u2.heap.size]? =some (.cells #[.slice Wd nw cw] az (0,0)):=aJ u2 _;clear_value u3;have su1:=Cx.size;have su2:=AK.size;have XC:=yP.size;obtain⟨VX,c3,u4,xJ,jJ,CX⟩:=xw QN (by omega) (by omega) (Row.aC fO yP (fun _ _ h=>h)) (by omega) yW rfl (fun v hv=>by simp at hv;subst hv;rfl);have Jt:Kept Nil u1 u4:=Kept.eA (AK.trans yP (fun _ _ h=>h)) CX (fun j hj=>(Row.bC fO hj).1);have pu4:=Jt.heap pu1 (fun h=>h);refine⟨VX,_,c3,u4,xJ,Is.mk rfl ⟨by rw [ba];exact dM pu4 (by simp),?_⟩⟩;intro u5;have pu5:u5.heap[r]? =some (.cells #[.int .i64 (k:Int),.pointer (some ⟨x,0,none⟩),.slice Aa (G.D.length+1) ca,.slice VX (G.D.length+1) c3] gq (0,0)):=by
   show(u4.setCell ((⟨r,0,none⟩:Addr).add 3) (.slice VX (G.D.length+1) c3)).heap[r]? =_;rw [ba,cU pu4];rfl
  have D9:Kept (· =r) u4 u5:=by
   show Kept (· =r) u4 (u4.setCell ((⟨r,0,none⟩:Addr).add 3) (.slice VX (G.D.length+1) c3))
   rw [ba];exact Kept.setCell (S:=(· =r)) (Kept.refl _ u4) (p:=⟨r,0+3,none⟩) (fun _=>rfl) _
  clear_value u5;have RC:Kept (· =r) u1 u5:=(Jt.mono fun _ _ h=>h.elim).trans D9 (fun _ _ h=>h);have La:Kept (· =r) ie u5:=Gz.trans RC (fun _ _ h=>h);have Qe:=La.heap OO (by omega);have sS:=La.heap Zu (by omega);obtain⟨z1,z2,z3⟩:=dT sS (cs:=cF (cO k G s l) Am nm cm E e ce) (by rw [aY];rfl);refine⟨_,⟨aY ..,Cells.bC Qe⟩,⟨aY ..,ek _ _ _ _ _ _ _,fun j hj=>z1 j (by rw [aY];exact hj)⟩,?_⟩;intro u6
  replace z2:u6.heap[w1.heap.size]? =some (.cells (cF (cO k G s l) Am nm cm E e ce) bk (0,0)):=z2
  replace z3:Kept (· =w1.heap.size) u5 u6:=z3
  clear_value u6;refine⟨_,⟨aY ..,Cells.bC z2⟩,?_⟩;have kwr: ∀j,j=r\/j=w1.heap.size-> ¬ie.heap.size<=j:=fun j hj e=>by rcases hj with hj|hj<;>omega
  have Wc:Kept (fun j=>j=r\/j=w1.heap.size) u u6:=((Cx.mono fun _ _ h=>.inl h).trans RC (fun _ _ h=>.inl h)).trans z3 (fun _ _ h=>.inr h);have CE:Kept (fun j=>j=r\/j=w1.heap.size) ie u6:=(ku.mono fun _ _ h=>h.elim).trans Wc (fun _ _ h=>h);have su6:=CE.size;have s46:u4.heap.size<=u6.heap.size:=by have:=D9.size;have:=z3.size;omega
  have s26:u.heap.size<=u6.heap.size:=Wc.size;have I8: ∀j,F j->j<w.heap.size:=h.lo
  let F2:Nat->Prop:=fun j=>F j\/(w8.heap.size<=j/\j<w9.heap.size)\/(ie.heap.size<=j/\j<u6.heap.size)
  have O9: ∀j,F2 j-> ¬(j=r\/j=w1.heap.size):=fun j hj e=>by
   rcases hj with hj|hj|hj
   ·have:=I8 j hj
    rcases e with e|e
    ·exact h.gU (by rw [<-e];exact hj)
    ·omega
   ·omega
   ·omega
  have U9: ∀j,F2 j->F j\/(w.heap.size<=j/\j<u6.heap.size):=fun j hj=>by
   rcases hj with hj|hj|hj
   ·exact .inl hj
   ·exact .inr ⟨by omega,by omega⟩
   ·exact .inr ⟨by omega,hj.2⟩
  refine hO hc u6 Am nm cm E e ce ⟨⟨Aa,ca,VX,c3,?_,?_,?_⟩,?_,fun hj=>?_,h.ne,h.eM.add id l,fun j hj=>?_⟩ ?_ (Ra.aC CE (fun a ha e=>by have:=bm a.block (by rw [ha];rfl);rcases e with e|e<;>omega)) (VE.aC CE (fun a ha e=>by have:=bb a.block (by rw [ha];rfl);rcases e with e|e<;>omega)) (fun a ha=>ha.elim (fun ha=>(bF bm ha).1) (fun ha=>(bF bb ha).1))
  ·rw [yV]
   simp only [List.length_append,List.length_singleton];exact z3.heap pu5 (by omega)
  ·rw [yV]
   simp only [List.length_append,List.length_singleton];refine pH.mono (F:=F2) (pH.aC (S:=fun j=>j=r\/j=w1.heap.size) (w:=u) (pH.snoc row xK p2.len ku (fun j hj=>?_) (fun j hj=>.inl hj) uC (Ra.same ku) (VE.same ku) (fun b hb=>.inr (.inl ?_)) (fun b hb=>.inr (.inl ?_))) Wc O9) U9
   ·obtain⟨y1,cur,y2⟩:=Row.bC row hj
    have:=aQ y2;exact .inr (.inr ⟨y1,by omega⟩)
   ·exact bm b.block (by rw [hb];rfl)
   ·exact bb b.block (by rw [hb];rfl)
  ·rw [yV]
   simp only [List.length_append,List.length_singleton];have M7:Kept (fun j=>j=r\/j=w1.heap.size) u4 u6:=(D9.mono fun _ _ h=>.inl h).trans z3 (fun _ _ h=>.inr h);refine oa.mono (F:=F2) (oa.aC (S:=fun j=>j=r\/j=w1.heap.size) (w:=u4) (oa.snoc jJ (Row.len fO) p3.len Jt (fun j hj=>?_) (fun j hj=>.inl hj) hcw (Xu.aC (Gz.trans Jt (fun _ _ h=>h.elim)) (fun a ha e=>by have:=bw a.block (by rw [ha];rfl);omega)) (fun b hb=>.inr (.inl ?_))) M7 O9) U9
   ·obtain⟨y1,cur,y2⟩:=Row.bC jJ hj
    have:=aQ y2;exact .inr (.inr ⟨by omega,by omega⟩)
   ·exact bw b.block (by rw [hb];rfl)
  ·refine((UU.aC (Il.trans ku (fun _ _ h=>h)) (fun h=>h) (fun _ _ h=>h)).aC Wc (fun e=>?_) (fun j hj e=>?_)).mono (fun j hj=>?_) (fun e=>?_)
   ·rcases e with e|e
    ·exact h.ne e.symm
    ·omega
   ·rcases hj with hj|hj
    ·have:=I8 j hj
     rcases e with e|e
     ·exact h.gU (by rw [<-e];exact hj)
     ·omega
    ·omega
   ·rcases hj with hj|hj
    ·exact .inl hj
    ·have:=re.size
     have:=Il.size;exact .inr ⟨by omega,by omega⟩
   ·rcases e with e|e
    ·exact h.X.gU e
    ·omega
  ·rcases hj with hj|hj
   ·exact h.gU hj
   ·omega
  ·rcases hj with hj|hj
   ·have:=I8 j hj
    omega
   ·exact hj.2
  ·exact(CH.mono fun _ _ h=>.inr h).trans CE (fun j hj e=>by
    rcases e with e|e
    ·exact .inl e
    ·omega)
 have Hb:(cF (cO k G s l) Am nm cm E e ce).toList++ []=(cF (cO k G s l) Am nm cm E e ce).toList:=List.append_nil _;refine Is.mk rfl ⟨some a1,G.D.length,c1,by rw [ba,ax MN];rfl,_,⟨aY ..,Cells.bC OO⟩,?_,?_⟩
 ·obtain⟨Aa,c2,u2,news,P3,fO,AK,uC⟩:=xx (w:=ie) Ce (by omega) (by omega) (cx:=c1) (Ie ie F G.o5) (Ls a1 rfl)
  refine⟨Aa,_,c2,u2,P3,⟨_,rfl,aY ..,Cells.bC (AK.heap OO (fun h=>h))⟩,aY ..,?_⟩;intro u3;have yP:Kept Nil u2 u3:=(Kept.refl _ _).alloc _;have yW:u3.heap[u2.heap.size]? =some (.cells (cF (cO k G s l) Am nm cm E e ce) bk (0,0)):=by
   have:=aJ u2 (.cells (cF (cO k G s l) Am nm cm E e ce) bk);show(u2.alloc (.cells ((cF (cO k G s l) Am nm cm E e ce).toList++ []).toArray bk)).heap[u2.heap.size]? =_;rw [Hb,Array.toArray_toList];exact this
  clear_value u3;have su2:=AK.size;have XC:=yP.size;obtain⟨Ab,c3,u4,xJ,jJ,CX⟩:=xw Ce (by omega) (by omega) (Row.aC fO yP (fun _ _ h=>h)) (by omega) yW (aY ..) (ek _ _ _ _ _ _ _);have ku:Kept Nil ie u4:=Kept.eA (AK.trans yP (fun _ _ h=>h)) CX (fun j hj=>(Row.bC fO hj).1);refine⟨Ab,_,c3,u4,xJ,Is.mk rfl ?_⟩;exact tail jJ (Row.len fO) uC ku
 ·refine⟨aY ..,?_⟩
  intro u3;have yP:Kept Nil ie u3:=(Kept.refl _ _).alloc _;have yW:u3.heap[ie.heap.size]? =some (.cells (cF (cO k G s l) Am nm cm E e ce) bk (0,0)):=by
   have:=aJ ie (.cells (cF (cO k G s l) Am nm cm E e ce) bk);show(ie.alloc (.cells ((cF (cO k G s l) Am nm cm E e ce).toList++ []).toArray bk)).heap[ie.heap.size]? =_;rw [Hb,Array.toArray_toList];exact this
  clear_value u3;have XC:=yP.size;refine⟨by rw [ba,ax (yP.heap MN (fun h=>h))];rfl,?_⟩;have p23:=MM.aC yP (fun _ _ h=>h);obtain⟨Aa,c2,u2,news,P3,fO,AK,uC⟩:=xx (w:=u3) (n:=G.D.length) (a:=a1) Ce (by omega) (by omega) (cx:=c1) (Ie ie F G.o5) (fun i hi=>by
   obtain⟨arr,y1,y2,y3,y4⟩:=Ls a1 rfl i hi;exact⟨arr,y1,y2,Cells.aC y3 yP (fun h=>h),y4⟩)
  have su2:=AK.size;have Li:=AK.heap yW (fun h=>h);obtain⟨Ab,c3,u4,xJ,jJ,CX⟩:=xw Ce (by omega) (by omega) (Row.base fO (B':=ie.heap.size) (fun j hj=>by have:=(Row.bC fO hj).1;omega)) (by omega) Li (aY ..) (ek _ _ _ _ _ _ _);have ku:Kept Nil ie u4:=Kept.eA (yP.trans AK (fun _ _ h=>h)) CX (fun j hj=>by have:=(Row.bC fO hj).1;omega);refine⟨Aa,_,c2,u2,P3,Ab,_,c3,u4,xJ,Is.mk rfl ?_⟩;exact tail jJ (Row.len fO) uC ku
end
end Go.Proofs.YtnboahlopghcjaaGreatDoor
