import Derived.Test.YtfleamccglihoaaGreatDoorMT
import Derived.Test.YtfleamccglihoaaGreatDoorMN
open Go.IntKind (i64 u64)
set_option linter.unusedVariables false
namespace Go.Proofs.YtfleamccglihoaaGreatDoor
open Go.Proofs.Tryz
open Go Go.bV Go.RowKit
structure qT(w:World)(F:Nat->Prop)(A:Option Addr)(n:Nat)(l:List oE):Prop where
 len:l.length=n
 at_:∀(i:Nat) x,l[i]? =some x->∃a A1 n1 c1 B1 m1 d1,A=some a/\a.block<w.heap.size/\F a.block/\Cells w (a.add (i*35)) (cQ x A1 n1 c1 B1 m1 d1)/\HS w A1 n1 x.merge/\Bo w B1 m1 x.fL/\(∀b,A1=some b->F b.block)/\(∀b,B1=some b->F b.block)
structure qo(w:World)(F:Nat->Prop)(A:Option Addr)(n:Nat)(l:List (List HT)):Prop where
 len:l.length=n
 at_:∀(i:Nat) x,l[i]? =some x->∃a A1 n1 c1,A=some a/\a.block<w.heap.size/\F a.block/\w.cell? (a.add (i*1))=some (.slice A1 n1 c1)/\HS w A1 n1 x/\(∀b,A1=some b->F b.block)
section
variable{w w':World}{F F' S:Nat->Prop}{A:Option Addr}{n:Nat}
theorem qT.aF{l:List oE}(h:qT w F A n l)(hk:Kept S w w')(hn:∀j,F j->¬S j):qT w' F A n l:=⟨h.len,fun i x hi=>by
 obtain⟨a,A1,n1,c1,B1,m1,d1,g1,g2,g3,g4,g5,g6,g7,g8⟩:=h.at_ i x hi;exact⟨a,A1,n1,c1,B1,m1,d1,g1,Nat.lt_of_lt_of_le g2 hk.size,g3,Cells.aF g4 hk (by rw [fg];exact hn _ g3),g5.aF hk (fun b hb=>hn _ (g7 b hb)),g6.aF hk (fun b hb=>hn _ (g8 b hb)),g7,g8⟩⟩
theorem qT.mono{l:List oE}(h:qT w F A n l)(hf:∀j,F j->F' j):qT w F' A n l:=⟨h.len,fun i x hi=>by
 obtain⟨a,A1,n1,c1,B1,m1,d1,g1,g2,g3,g4,g5,g6,g7,g8⟩:=h.at_ i x hi;exact⟨a,A1,n1,c1,B1,m1,d1,g1,g2,hf _ g3,g4,g5,g6,fun b hb=>hf _ (g7 b hb),fun b hb=>hf _ (g8 b hb)⟩⟩
theorem qo.aF{l:List (List HT)}(h:qo w F A n l)(hk:Kept S w w')(hn:∀j,F j->¬S j):qo w' F A n l:=⟨h.len,fun i x hi=>by
 obtain⟨a,A1,n1,c1,g1,g2,g3,g4,g5,g6⟩:=h.at_ i x hi;exact⟨a,A1,n1,c1,g1,Nat.lt_of_lt_of_le g2 hk.size,g3,hk.cell g4 (by rw [fg];exact hn _ g3),g5.aF hk (fun b hb=>hn _ (g6 b hb)),g6⟩⟩
theorem qo.mono{l:List (List HT)}(h:qo w F A n l)(hf:∀j,F j->F' j):qo w F' A n l:=⟨h.len,fun i x hi=>by
 obtain⟨a,A1,n1,c1,g1,g2,g3,g4,g5,g6⟩:=h.at_ i x hi;exact⟨a,A1,n1,c1,g1,g2,hf _ g3,g4,g5,fun b hb=>hf _ (g6 b hb)⟩⟩
end
structure R3(w:World)(F:Nat->Prop)(r x k:Nat)(G:GS):Prop where
 top:∃A c B e,w.heap[r]? =some (.cells #[.int .i64 (k:Int),.pointer (some ⟨x,0,none⟩),.slice A G.D.length c,.slice B G.D.length e] gY (0,0))/\qT w F A G.D.length G.qS/\qo w F B G.D.length G.kZ
 X:pr w F x G.D G.P
 iC:¬F r
 ne:r≠x
 fk:fp k G
 lo:∀j,F j->j<w.heap.size
section
variable{w w':World}{F F' S:Nat->Prop}{r x k:Nat}{G:GS}{K:Value->World->Prop}
theorem R3.aF(h:R3 w F r x k G)(hk:Kept S w w')(hr:¬S r)(hx:¬S x)(hF:∀j,F j->¬S j):R3 w' F r x k G:=by
 obtain⟨A,c,B,e,g1,g2,g3⟩:=h.top;exact⟨⟨A,c,B,e,hk.heap g1 hr,g2.aF hk hF,g3.aF hk hF⟩,h.X.aF hk hx hF,h.iC,h.ne,h.fk,fun j e=>Nat.lt_of_lt_of_le (h.lo j e) hk.size⟩
theorem R3.same(h:R3 w F r x k G)(hk:Kept Nil w w'):R3 w' F r x k G:=h.aF hk (fun h=>h) (fun h=>h) (fun _ _ h=>h)
theorem R3.lt(h:R3 w F r x k G):r<w.heap.size:=by obtain⟨_,_,_,_,g,_⟩:=h.top;exact aV g
theorem R3.lx(h:R3 w F r x k G):x<w.heap.size:=h.X.lt
theorem R3.c0(h:R3 w F r x k G):w.cell? ((⟨r,0,none⟩:Addr).add 0)=some (.int .i64 (k:Int)):=by obtain⟨_,_,_,_,g,_⟩:=h.top;rw [bt,aD g];rfl
theorem R3.c1(h:R3 w F r x k G):w.cell? ((⟨r,0,none⟩:Addr).add 1)=some (.pointer (some ⟨x,0,none⟩)):=by obtain⟨_,_,_,_,g,_⟩:=h.top;rw [bt,aD g];rfl
theorem OB(h:fp k G){y:HT}(hy:y∈ids G.D):∃(i:Nat) (nd:DN) (c:oE) (l:List HT),G.D[i]? =some nd/\nd.id=y/\G.qS[i]? =some c/\G.kZ[i]? =some l/\xz G.D y=(i:Int)/\G.fM y=c/\G.world y=l/\i<G.D.length:=by
 obtain⟨nd,ft,rfl⟩:=cS.1 hy;obtain⟨i,hi⟩:=List.mem_iff_getElem?.1 ft;have dY:=(lgeS hi).1;obtain⟨c,hc⟩:∃c,G.qS[i]? =some c:=⟨_,List.getElem?_eq_getElem (by rw [h.lc];exact dY)⟩;obtain⟨l,hl⟩:∃l,G.kZ[i]? =some l:=⟨_,List.getElem?_eq_getElem (by rw [h.lw];exact dY)⟩;exact⟨i,nd,c,l,hi,rfl,hc,hl,DB h.W hi,GS.JN h.W hi hc,GS.Hr h.W hi hl,dY⟩
theorem lr(h:R3 w F r x k G)(hD:G.D.length<=5000){a:HT}(ha:a∈ids G.D)(hK:∀w',Kept Nil w w'->K (.int .u64 (G.score a:Int)) w'):
 bz prog dI.id #[.pointer (some ⟨r,0,none⟩),.agg a.1] w K:=by
 refine dI.of ?_;unfold dI.W;intro w4 w5;have k4:Kept Nil w w4:=(Kept.refl _ _).alloc _;have xq:w4.heap[w.heap.size]? =some (.cells a.1 ag (0,0)):=aI w _;have k5:Kept Nil w4 w5:=(Kept.refl _ _).drew;clear_value w5;have Mq:=k5.heap xq (fun h=>h);have qM:=k4.tt k5;have h5:=h.same qM;obtain⟨A,c,B,e,g1,g2,g3⟩:=h5.top;refine Is.mk rfl ⟨A,_,c,by rw [bt,aD g1];rfl,Is.mk rfl ⟨_,h5.c1,Is.mk rfl ⟨a.1,⟨a.2.1,Cells.bJ Mq⟩,?_⟩⟩⟩;rw [add_zero];refine ln h5.X.gr (by omega) a fun w6 k6=>⟨_,rfl,?_⟩;have g16:=k6.heap g1 (fun h=>h);obtain⟨i,nd,cl,l,q1,q2,q3,q4,q5,q6,q7,q8⟩:=OB h.fk ha;rw [q5];obtain⟨aa,A1,n1,c1,B1,m1,d1,p1,p2,p3,p4,_⟩:=(g2.aF k6 (fun _ _ h=>h)).at_ i cl q3;subst p1;refine⟨by rw [bt,aD g16];rfl,⟨by omega,by omega⟩,Is.mk rfl ⟨((G.score a:Nat):Int),?_,?_⟩⟩
 ·have:=gD cl A1 n1 c1 B1 m1 d1 #[]
  rw [Array.append_empty]at this;have Hh:=p4 32 _ this.1;rw [Int.toNat_natCast,Hh];unfold GS.score;rw [q6]
 ·exact hK w6 (qM.tt k6)
theorem Ad(h:fp k G){a:HT}(ha:a∈ids G.D):G.score a<=G.D.length:=by
 rw [(h.wd a ha).2.2];exact sT h ha
theorem qX(h:R3 w F r x k G)(hD:G.D.length<=5000){a b:HT}(ha:a∈ids G.D)(hb:b∈ids G.D)(hK:∀w',Kept Nil w w'->K (.bool (gl G a b)) w'):
 bz prog dV.id #[.pointer (some ⟨r,0,none⟩),.agg a.1,.agg b.1] w K:=by
 refine dV.of ?_;unfold dV.W;intro w4 w5 w6;have k4:Kept Nil w w4:=(Kept.refl _ _).alloc _;have xq:w4.heap[w.heap.size]? =some (.cells a.1 ag (0,0)):=aI w _;have k5:Kept Nil w4 w5:=(Kept.refl _ _).alloc _;have oD:w5.heap[w4.heap.size]? =some (.cells b.1 ag (0,0)):=aI w4 _;have k6:Kept Nil w5 w6:=(Kept.refl _ _).drew;clear_value w6;have xp:=k6.heap (k5.heap xq (fun h=>h)) (fun h=>h);have qR:=k6.heap oD (fun h=>h);have o8:=(k4.tt k5).tt k6;refine⟨a.1,⟨a.2.1,Cells.bJ xp⟩,b.1,⟨b.2.1,Cells.bJ qR⟩,?_⟩;refine lr (h.same o8) hD ha fun w7 k7=>⟨_,rfl,⟨_,rfl,b.2.1,Cells.bJ (k7.heap qR (fun h=>h))⟩,?_⟩;have xi:=o8.tt k7;refine lr (h.same xi) hD hb fun w8 k8=>⟨_,rfl,?_⟩;have uS:=xi.tt k8;have Io:=k7.tt k8;by_cases he:G.score a=G.score b
 ·refine Split.no (by rw [he];simp) ⟨a.1,⟨a.2.1,Cells.bJ (Io.heap xp (fun h=>h))⟩,b.1,⟨b.2.1,Cells.bJ (Io.heap qR (fun h=>h))⟩,?_⟩
  refine tU a b fun w9 k9=>⟨_,rfl,?_⟩;have e:decide (lT a b<0)=gl G a b:=by
   rw [Bool.eq_iff_iff,decide_eq_true_eq,sF];unfold gl;rw [decide_eq_false (by omega),decide_eq_true he];simp
  rw [e];exact hK w9 (uS.tt k9)
 ·refine Split.yes (by simp only [bne_iff_ne,ne_eq];omega) ?_
  have e:decide ((G.score a:Int)<(G.score b:Int))=gl G a b:=by
   unfold gl;rw [decide_eq_false he];simp
  rw [e];exact hK w8 uS
theorem K2(h:R3 w F r x k G)(hD:G.D.length<=5000){A:Option Addr}{n cx:Nat}{l:List HT}(hl:HS w A n l)(hn:n<=400000)(hK:∀w',Kept Nil w w'->K (.int .i64 (og G.D l)) w'):
 bz prog bu.id #[.pointer (some ⟨r,0,none⟩),.slice A n cx] w K:=by
 have hlen:=hl.len;refine bu.of ?_;unfold bu.W;by_cases h0:n=0
 ·subst h0
  have e:l= []:=List.eq_nil_of_length_eq_zero hlen;refine Split.yes rfl ?_;have:=hK w (Kept.refl _ _);unfold og at this;rw [if_pos e]at this;exact this
 have fD:l≠ []:=fun e=>by subst e;exact h0 hlen.symm
 refine Split.no (by simpa using (by omega:¬(n:Int)=0)) ?_;refine bu.cy (I:=fun s v=>∃i:Nat,s=(0,(i:Int))/\i<=n/\(∀p∈l.take i,p∈ids G.D)/\Kept Nil w v) (μ:=fun s _=>((n:Int)-s.2).toNat) (s:=(0,0)) ⟨0,rfl,Nat.zero_le _,by simp,Kept.refl _ _⟩ ?_;rintro s v ⟨i,rfl,hi,dm,kv⟩;unfold bu.B1;refine Split.dec (fun cU=>?_) (fun gE=>?_)
 ·simp only at cU
  have dY:i<n:=by omega
  obtain⟨y,hy⟩:∃y,l[i]? =some y:=⟨_,List.getElem?_eq_getElem (by omega)⟩;intro w3;have k3:Kept Nil v w3:=(Kept.refl _ _).drew;clear_value w3;have sq:=kv.tt k3;have h3:=h.same sq;refine Is.mk rfl ⟨_,h3.c1,Is.mk rfl ((hl.same sq).load (i:=(i:Int)) (by omega) hy ?_)⟩;rw [add_zero];refine ln h3.X.gr (by omega) y fun w4 k4=>⟨_,rfl,?_⟩;have np:=sq.tt k4;refine Split.dec (fun y7=>?_) (fun jK=>?_)
  ·rw [iV]
   have:=hK w4 np;unfold og at this;rw [if_neg fD,if_pos ⟨y,List.mem_of_getElem? hy,qH.1 y7⟩]at this;exact this
  ·simp only
   rw [dH (n:=(i:Int)) (by omega) (by omega)];refine⟨(0,(i:Int)+1),rfl,⟨i+1,rfl,dY,fun p hp=>?_,np⟩,by simp only;omega⟩;rcases(bN hy).1 hp with hp|rfl
   ·exact dm p hp
   ·exact Classical.byContradiction fun e=>jK (qH.2 e)
 ·simp only at gE
  rw [aS,bu.dq];rw [List.take_of_length_le (by omega)]at dm;have:=hK v kv;unfold og at this;rw [if_neg fD,if_neg (fun⟨p,hp,hn⟩=>hn (dm p hp))]at this;exact this
theorem uA(h:R3 w F r x k G)(hD:G.D.length<=5000){A:Option Addr}{n cx:Nat}{l:List HT}(hl:HS w A n l)(h0:l≠ [])(hn:n<=400000)(fQ:∀y∈l,y∈ids G.D)(hK:∀w',Kept Nil w w'->K (.agg (bU G l).1) w'):
 bz prog a7.id #[.pointer (some ⟨r,0,none⟩),.slice A n cx] w K:=by
 have hlen:=hl.len;obtain⟨x0,t,rfl⟩:∃x0 t,l=x0::t:=by cases l with|nil=>exact absurd rfl h0|cons a b=>exact⟨a,b,rfl⟩
 refine a7.of ?_;unfold a7.W;intro w1;have k1:Kept Nil w w1:=(Kept.refl _ _).alloc _;have ns:w1.heap[w.heap.size]? =some (.cells dz.1 ag (0,0)):=aI w _;clear_value w1;simp only [List.length_cons]at hlen;refine(hl.same k1).load (i:=0) (by omega) rfl ?_;intro w2;have k2:Kept Nil w1 w2:=(Kept.refl _ _).alloc _;have kX:w2.heap[w1.heap.size]? =some (.cells dz.1 ag (0,0)):=aI w1 _;clear_value w2;have jP:=k2.heap ns (fun h=>h);have l1:=aV ns;have l2:=aV kX;obtain⟨t1,t2,t3⟩:=jy x0 kX rfl;refine⟨t1,?_⟩;intro w3
 replace t2:w3.heap[w1.heap.size]? =some (.cells x0.1 ag (0,0)):=t2
 replace t3:Kept (· =w1.heap.size) w2 w3:=t3
 clear_value w3;have s1:=k1.size;have lD:Kept Nil w w3:=(k1.tt k2).trans t3 (fun j hj e=>by omega);have um:=t3.heap jP (by omega);refine a7.cy (I:=fun s v=>∃(i:Nat) (b:HT),s=(i:Int)/\1<=i/\i<=n/\b∈ids G.D/\((x0::t).drop i).foldl (fun b y=>if gl G b y then y else b) b=bU G (x0::t)/\v.heap[w1.heap.size]? =some (.cells b.1 ag (0,0))/\v.heap[w.heap.size]? =some (.cells dz.1 ag (0,0))/\Kept Nil w v) (μ:=fun s _=>((n:Int)-s).toNat) (s:=1) ⟨1,x0,rfl,Nat.le_refl _,by omega,fQ _ List.mem_cons_self,rfl,t2,um,lD⟩ ?_;rintro s v ⟨i,b,rfl,Mc,xn,hb,he,EG,UF,kv⟩;unfold a7.B1;refine Split.dec (fun cU=>?_) (fun gE=>?_)
 ·have dY:i<n:=by omega
  obtain⟨y,hy⟩:∃y,(x0::t)[i]? =some y:=⟨_,List.getElem?_eq_getElem (by simp;omega)⟩;have Nq:y∈ids G.D:=fQ _ (List.mem_of_getElem? hy);have hd:(x0::t).drop i=y::(x0::t).drop (i+1):=by
   obtain⟨q1,q2⟩:=lgeS hy;rw [List.drop_eq_getElem_cons q1,q2]
  rw [hd,List.foldl_cons]at he;intro w4;have k4:Kept Nil v w4:=(Kept.refl _ _).drew;clear_value w4;have np:=kv.tt k4;have P5:(x0::t)[((i:Nat):Int).toNat]? =some y:=by rw [Int.toNat_natCast];exact hy
  refine⟨b.1,⟨b.2.1,Cells.bJ (k4.heap EG (fun h=>h))⟩,(hl.same np).load (i:=(i:Int)) (by omega) P5 ?_⟩;refine qX (h.same np) hD hb Nq fun w5 k5=>⟨_,rfl,?_⟩;have AQ:=np.tt k5;have oD:=k5.heap (k4.heap EG (fun h=>h)) (fun h=>h);have uE:=k5.heap (k4.heap UF (fun h=>h)) (fun h=>h);rw [dH (n:=(i:Int)) (by omega) (by omega)];refine Split.mk (fun yg=>?_) (fun hle=>?_)
  ·rw [if_pos yg]at he
   refine(hl.same AQ).load (i:=(i:Int)) (by omega) P5 ?_;obtain⟨f1,f2,f3⟩:=jy y oD b.2.1;refine⟨f1,?_⟩;exact⟨(i:Int)+1,rfl,⟨i+1,y,rfl,by omega,by omega,Nq,he,f2,f3.heap uE (by omega),AQ.trans f3 (fun j hj e=>by omega)⟩,by simp only;omega⟩
  ·rw [if_neg (by rw [hle];decide)]at he
   exact⟨(i:Int)+1,rfl,⟨i+1,b,rfl,by omega,by omega,hb,he,oD,uE,AQ⟩,by simp only;omega⟩
 ·rw [aS,a7.dq]
  rw [List.drop_eq_nil_of_le (by simp;omega)]at he
  replace he:b=bU G (x0::t):=he
  subst he;refine⟨_,⟨tD _,Cells.bJ EG⟩,?_⟩;obtain⟨f1,f2,f3⟩:=jy (bU G (x0::t)) UF rfl;exact⟨f1,_,⟨tD _,Cells.bJ f2⟩,hK _ (kv.trans f3 (fun j hj e=>by omega))⟩
theorem pM(h:R3 w F r x k G)(hD:G.D.length<=5000){A:Option Addr}{n cx:Nat}{l:List HT}(hl:HS w A n l)(hn:n<=100000)(y:HT)(hK:∀A' c' w',bM w' w.heap.size A' (bS G.D l y).length c' (bS G.D l y)->Kept Nil w w'->K (.slice A' (bS G.D l y).length c') w'):
 bz prog bf.id #[.pointer (some ⟨r,0,none⟩),.slice A n cx,.agg y.1] w K:=by
 have hlen:=hl.len;refine bf.of ?_;unfold bf.W;intro w1;have k1:Kept Nil w w1:=(Kept.refl _ _).alloc _;have P4:w1.heap[w.heap.size]? =some (.cells y.1 ag (0,0)):=aI w _;clear_value w1;refine bf.cy (I:=fun s v=>∃(i:Nat) (B:Option Addr) (c:Nat),s=(B,(bS G.D (l.take i) y).length,c,(i:Int))/\i<=n/\bM v w1.heap.size B (bS G.D (l.take i) y).length c (bS G.D (l.take i) y)/\Kept Nil w1 v) (μ:=fun s _=>((n:Int)-s.2.2.2).toNat) (s:=(none,0,0,0)) ⟨0,none,0,rfl,Nat.zero_le _,bM.nil _ _,Kept.refl _ _⟩ ?_;rintro s v ⟨i,B,c,rfl,hi,row,kv⟩;unfold bf.B1;have Eo:=k1.tt kv;refine Split.dec (fun cU=>?_) (fun gE=>?_)
 ·simp only at cU
  have dY:i<n:=by omega
  obtain⟨z,hz⟩:∃z,l[i]? =some z:=⟨_,List.getElem?_eq_getElem (by omega)⟩;have rO:(bS G.D (l.take i) y).length<=100000:=by
   have:=List.length_filter_le (fun b=>decide (mi G.D b y)) (l.take i);have h2:=List.length_take_le i l;unfold bS;omega
  intro w3;have k3:Kept Nil v w3:=(Kept.refl _ _).drew;clear_value w3;have sq:=kv.tt k3;have lD:=k1.tt sq;have h3:=h.same lD;have zy:l[((i:Nat):Int).toNat]? =some z:=by rw [Int.toNat_natCast];exact hz
  refine Is.mk rfl ⟨_,h3.c1,Is.mk rfl ((hl.same lD).load (i:=(i:Int)) (by omega) zy ⟨y.1,⟨y.2.1,Cells.bJ (sq.heap P4 (fun h=>h))⟩,?_⟩)⟩;rw [add_zero];refine FF h3.X.gr h.fk.W (by omega) z y fun w4 b hb k4=>⟨b,rfl,?_⟩
  replace hb:b=true↔mi G.D z y:=hb
  have np:=sq.tt k4;have mE:=k1.tt np;have iU:=Row.aF row (k3.tt k4) (fun _ _ h=>h);have GD:bS G.D (l.take (i+1)) y=bS G.D (l.take i) y++if mi G.D z y then [z]else []:=by
   rw [List.take_add_one,hz,eW]
   congr 1
   unfold bS;by_cases hp:mi G.D z y
   ·rw [if_pos hp];simp [hp]
   ·rw [if_neg hp];simp [hp]
  cases b with
  |true=>
   rw [if_pos (hb.1 rfl)]at GD;refine Split.yes rfl ((hl.same mE).load (i:=(i:Int)) (by omega) zy ⟨z.2.1,?_⟩);intro w5;have k5:Kept Nil w4 w5:=(Kept.refl _ _).alloc _;have Nu:=jq w4 z;have s5:=(np.tt k5).size;obtain⟨A',c',w6,hr,Cr,hg,_⟩:=cK (cx:=1) ay (Row.aF iU k5 (fun _ _ h=>h)) Nu (by omega) s5;refine⟨A',_,c',w6,hr,?_⟩;rw [dH (n:=(i:Int)) (by omega) (by omega)];have e:(bS G.D (l.take (i+1)) y).length=(bS G.D (l.take i) y).length+1:=by rw [GD];simp
   refine⟨(A',(bS G.D (l.take i) y).length+1,c',(i:Int)+1),rfl,⟨i+1,A',c',by rw [e];rfl,dY,by rw [e,GD];exact Cr,?_⟩,by simp only;omega⟩;exact Kept.eQ (np.tt k5) hg (fun j hj=>(Row.bJ row hj).1)
  |false=>
   rw [if_neg (fun e=>by have:=hb.2 e;cases this),List.append_nil]at GD;refine Split.no rfl ?_;simp only;rw [dH (n:=(i:Int)) (by omega) (by omega)];exact⟨(B,(bS G.D (l.take i) y).length,c,(i:Int)+1),rfl,⟨i+1,B,c,by rw [GD];rfl,dY,by rw [GD];exact iU,np⟩,by simp only;omega⟩
 ·simp only at gE
  rw [aS,bf.dq];rw [List.take_of_length_le (by omega)]at row;have e:i=n:=by omega
  subst e;rw [List.take_of_length_le (by omega)];exact hK B c v (Row.base row (fun j hj=>by have:=(Row.bJ row hj).1;have:=k1.size;omega)) Eo
end
structure VJ(v:World)(B0 xb rb:Nat)(x:oE)(A:Option Addr)(n cp:Nat)(E:Option Addr)(e ce:Nat)(W:Option Addr)(nw cw:Nat)(wd:List HT):Prop where
 top:v.heap[xb]? =some (.cells (cQ x A n cp E e ce) br (0,0))
 mg:bM v B0 A n cp x.merge
 bl:Row v B0 iK 1 E e ce (sS x.fL)
 wr:bM v B0 W nw cw wd
 box:v.heap[rb]? =some (.cells zC br (0,0))
 AE:∀j,bn A=some j->bn E≠some j
 AW:∀j,bn A=some j->bn W≠some j
 EW:∀j,bn E=some j->bn W≠some j
 xB:xb<B0
 rB:rb<B0
 xr:xb≠rb
section
variable{v v' u:World}{B0 xb rb n cp e ce nw cw:Nat}{x:oE}{A E W:Option Addr}{wd:List HT}{K:Value->World->Prop}
theorem VJ.same(h:VJ v B0 xb rb x A n cp E e ce W nw cw wd)(k:Kept Nil v v'):VJ v' B0 xb rb x A n cp E e ce W nw cw wd:=
 ⟨k.heap h.top (fun h=>h),Row.aF h.mg k (fun _ _ h=>h),Row.aF h.bl k (fun _ _ h=>h),Row.aF h.wr k (fun _ _ h=>h),k.heap h.box (fun h=>h),h.AE,h.AW,h.EW,h.xB,h.rB,h.xr⟩
theorem VJ.f32(h:VJ v B0 xb rb x A n cp E e ce W nw cw wd):v.cell? ((⟨xb,0,none⟩:Addr).add 32)=some (.int .u64 (x.score:Int)):=by
 have:=(gD x A n cp E e ce #[]).1;rw [Array.append_empty]at this;rw [bt,aD h.top];exact this
theorem VJ.f33(h:VJ v B0 xb rb x A n cp E e ce W nw cw wd):v.cell? ((⟨xb,0,none⟩:Addr).add 33)=some (.slice A n cp):=by
 have:=(gD x A n cp E e ce #[]).2.1;rw [Array.append_empty]at this;rw [bt,aD h.top];exact this
theorem VJ.f34(h:VJ v B0 xb rb x A n cp E e ce W nw cw wd):v.cell? ((⟨xb,0,none⟩:Addr).add 34)=some (.slice E e ce):=by
 have:=(gD x A n cp E e ce #[]).2.2.1;rw [Array.append_empty]at this;rw [bt,aD h.top];exact this
theorem VJ.wrx(h:VJ v B0 xb rb x A n cp E e ce W nw cw wd){j:Nat}(hj:j<35):Wr v ((⟨xb,0,none⟩:Addr).add j):=by
 rw [bt];exact dS h.top (by rw [a8];omega)
theorem VJ.O3(h:VJ v B0 xb rb x A n cp E e ce W nw cw wd)(j:Nat)(z:Value):Kept (· =xb) v (v.setCell ((⟨xb,0,none⟩:Addr).add j) z):=by
 rw [bt];exact Kept.setCell (S:=(· =xb)) (Kept.refl _ v) (p:=⟨xb,0+j,none⟩) (fun _=>rfl) _
theorem VJ.O5(h:VJ v B0 xb rb x A n cp E e ce W nw cw wd)(s:Nat):VJ (v.setCell ((⟨xb,0,none⟩:Addr).add 32) (.int .u64 (s:Int))) B0 xb rb {x with score:=s} A n cp E e ce W nw cw wd:=by
 have k:=h.O3 32 (.int .u64 (s:Int));have xB:=h.xB;refine⟨?_,Row.aF h.mg k (fun j hj e=>by have:=(Row.bJ h.mg hj).1;omega),Row.aF h.bl k (fun j hj e=>by have:=(Row.bJ h.bl hj).1;omega),Row.aF h.wr k (fun j hj e=>by have:=(Row.bJ h.wr hj).1;omega),k.heap h.box h.xr.symm,h.AE,h.AW,h.EW,h.xB,h.rB,h.xr⟩;rw [bt,di h.top];have:=wE x A n cp E e ce #[] s;rw [Array.append_empty,Array.append_empty]at this;rw [this]
theorem VJ.Tj(h:VJ v B0 xb rb x A n cp E e ce W nw cw wd)(hB:B0<=v.heap.size)(hn:nw<=100000){z:HT}(nM:Kept Nil v v'){bx:Nat}(hx:HS v' (some ⟨bx,0,none⟩) 1 [z]):
 ∃W' Sp u,(Builtin.append_ #[ay,ay] ay #[.slice W nw cw,.slice (some ⟨bx,0,none⟩) 1 1]).run prog v'=.ok (.slice W' (nw+1) Sp) u/\VJ u B0 xb rb x A n cp E e ce W' (nw+1) Sp (wd++ [z])/\Kept (fun j=>j=xb\/B0<=j) v u:=by
 have h':=h.same nM;have S7:=nM.size;obtain⟨W',c',u,hr,row,hg,hb⟩:=cK (cx:=1) ay h'.wr hx (by omega) (by omega);have kg:Kept (fun j=>bn W=some j) v' u:=Kept.grown (Kept.refl _ _) hg (fun j hj _=>hj);have nB:∀j,j<B0->bn W≠some j:=fun j hj e=>by have:=(Row.bJ h.wr e).1;omega
 refine⟨W',c',u,hr,⟨kg.heap h'.top (nB _ h.xB),Row.aF h'.mg kg (fun j hj=>h.AW j hj),Row.aF h'.bl kg (fun j hj=>h.EW j hj),row,kg.heap h'.box (nB _ h.rB),h.AE,fun j hj e=>?_,fun j hj e=>?_,h.xB,h.rB,h.xr⟩,(nM.mono fun _ _ h=>h.elim).trans kg (fun j hj e=>.inr (Row.bJ h.wr e).1)⟩
 ·rcases hb j e with e'|e'
  ·exact h.AW j hj e'
  ·obtain⟨_,cur,hc⟩:=Row.bJ h'.mg hj
   have:=aV hc;omega
 ·rcases hb j e with e'|e'
  ·exact h.EW j hj e'
  ·obtain⟨_,cur,hc⟩:=Row.bJ h'.bl hj
   have:=aV hc;omega
theorem VJ.HX(h:VJ v B0 xb rb x A n cp E e ce W nw cw wd)(hB:B0<=v.heap.size)(hn:e<=100000){b:Bool}(nM:Kept Nil v v'){bx:Nat}(hx:v'.cell? ⟨bx,0,none⟩=some (.bool b)):
 ∃E' sQ u,(Builtin.append_ #[gN,gN] gN #[.slice E e ce,.slice (some ⟨bx,0,none⟩) 1 1]).run prog v'=.ok (.slice E' (e+1) sQ) u/\Wr u ((⟨xb,0,none⟩:Addr).add 34)/\
  VJ (u.setCell ((⟨xb,0,none⟩:Addr).add 34) (.slice E' (e+1) sQ)) B0 xb rb {x with fL:=x.fL++ [b]} A n cp E' (e+1) sQ W nw cw wd/\Kept (fun j=>j=xb\/B0<=j) v (u.setCell ((⟨xb,0,none⟩:Addr).add 34) (.slice E' (e+1) sQ)):=by
 have h':=h.same nM;have S7:=nM.size;have xB:=h.xB;obtain⟨E',c',u,hr,row,hg,hb⟩:=fR (P:=prog) (t:=gN) (bytes:=1) (ty:=gN) Cn h'.bl (a:=⟨bx,0,none⟩) (m:=1) (cx:=1) (news:= [.bool b]) rfl (fun j z hj=>by
  cases j with
  |zero=>simp only [List.getElem?_cons_zero,Option.some.injEq]at hj;subst hj;rw [add_zero];exact hx
  |succ j=>simp at hj) (fun z hz=>by
  have:z=.bool b:=by simpa using hz
  subst this;rfl) (by omega) (by unfold maxLen;omega) (by omega)
 have kg:Kept (fun j=>bn E=some j) v' u:=Kept.grown (Kept.refl _ _) hg (fun j hj _=>hj);have nB:∀j,j<B0->bn E≠some j:=fun j hj e=>by have:=(Row.bJ h.bl e).1;omega
 have top:=kg.heap h'.top (nB _ h.xB);have ks:Kept (· =xb) u (u.setCell ((⟨xb,0,none⟩:Addr).add 34) (.slice E' (e+1) c')):=by
  rw [bt];exact Kept.setCell (S:=(· =xb)) (Kept.refl _ u) (p:=⟨xb,0+34,none⟩) (fun _=>rfl) _
 have lP:Kept (fun j=>j=xb\/bn E=some j) v' (u.setCell ((⟨xb,0,none⟩:Addr).add 34) (.slice E' (e+1) c')):=(kg.mono fun _ _ h=>.inr h).trans ks (fun _ _ h=>.inl h);refine⟨E',c',u,hr,by rw [bt];exact dS top (by rw [a8];omega),⟨?_,?_,?_,?_,?_,fun j hj e=>?_,h.AW,fun j hj e=>?_,h.xB,h.rB,h.xr⟩,(nM.mono fun _ _ h=>h.elim).trans lP (fun j hj e=>e.imp (fun h=>h) (fun e=>(Row.bJ h.bl e).1))⟩
 ·rw [bt,di top]
  have:=rI x A n cp E e ce #[] E' (e+1) c';rw [Array.append_empty,Array.append_empty]at this;rw [this];rfl
 ·exact Row.aF h'.mg lP (fun j hj e=>e.elim (fun e=>by have:=(Row.bJ h.mg hj).1;omega) (h.AE j hj))
 ·have e1:sS (x.fL++ [b])=sS x.fL++ [.bool b]:=by simp [sS]
  show Row _ B0 iK 1 E' (e+1) c' (sS (x.fL++ [b]))
  rw [e1];exact Row.aF row ks (fun j hj e=>by have:=(Row.bJ row hj).1;omega)
 ·exact Row.aF h'.wr lP (fun j hj e=>e.elim (fun e=>by have:=(Row.bJ h.wr hj).1;omega) (fun e=>h.EW j e hj))
 ·exact lP.heap h'.box (fun e=>e.elim (fun e=>h.xr e.symm) (nB _ h.rB))
 ·rcases hb j e with e'|e'
  ·exact h.AE j hj e'
  ·obtain⟨_,cur,hc⟩:=Row.bJ h'.mg hj
   have:=aV hc;omega
 ·rcases hb j hj with e'|e'
  ·exact h.EW j e' e
  ·obtain⟨_,cur,hc⟩:=Row.bJ h'.wr e
   have:=aV hc;omega
end
section
variable{y w w':World}{F F' S:Nat->Prop}{r x k:Nat}{G:GS}{K:Value->World->Prop}{B0 xb rb n cp e ce nw cw:Nat}{A E W:Option Addr}{s:HT}{l:List HT}
set_option maxHeartbeats 2000000 in
theorem Fb(h:R3 y F r x k G)(hD:G.D.length<=300)(rP:k<=1000)(hB:B0<=y.heap.size)(iC:∀j,(j=r\/j=x\/F j)->j<B0/\j≠xb/\j≠rb)(hM:∀z∈cG G s l,z∈ids G.D)(hs:s∈ids G.D)
 (V:VJ y B0 xb rb ⟨s,G.score s+1,cG G s l,[]⟩ A n cp none 0 0 W nw cw (G.world s++ [s]))
 (hK:∀v E e ce W nw cw,VJ v B0 xb rb (cX k G s l) A n cp E e ce W nw cw (dP k G s l).wd->Kept (fun j=>j=xb\/j=rb\/B0<=j) y (setCells v ⟨rb,0,none⟩ (cQ (cX k G s l) A n cp E e ce).toList 0)->K (.tuple #[.agg (cQ (cX k G s l) A n cp E e ce),.slice W nw cw]) (setCells v ⟨rb,0,none⟩ (cQ (cX k G s l) A n cp E e ce).toList 0)):
 af.cV (some ⟨r,0,none⟩) ⟨B0,0,none⟩ ⟨rb,0,none⟩ none 0 0 ⟨xb,0,none⟩ W nw cw none 0 0 0 K y:=by
 unfold af.cV;have L5:(cG G s l).length<=300:=by
  have:=cZ (m:=ids G.D) (jM G s l).nodup hM;rw [gF]at this;omega
 have hn:(cG G s l).length=n:=bM.len V.mg;have hwl:=sT h.fk hs;have Eu:=Ad h.fk hs;have hR:∀ {v:World},Kept (fun j=>j=xb\/B0<=j) y v->R3 v F r x k G:=fun kv=>h.aF kv (fun e=>by have:=iC r (.inl rfl);omega) (fun e=>by have:=iC x (.inr (.inl rfl));omega) (fun j hj e=>by have:=iC j (.inr (.inr hj));omega);have vl:∀i,i<=n->(la k G s l i).wd.length<=700:=fun i hi=>by
  obtain⟨b,h1,h2⟩:=Hy k G.D (G.world s++ [s]) ((cG G s l).take i);have h3:=yu ((cG G s l).take i) b;rw [List.length_take]at h3;show(((cG G s l).take i).foldl (jV k G.D) ⟨G.world s++ [s],[]⟩).wd.length<=700;rw [h2];simp only [List.length_append,List.length_singleton];omega
 refine af.sk (I:=fun st v=>∃(i:Nat) (E:Option Addr) (e ce:Nat) (W:Option Addr) (nw cw:Nat),st=(W,nw,cw,(i:Int))/\i<=n/\VJ v B0 xb rb ⟨s,G.score s+1+(la k G s l i).bl.count true,cG G s l,(la k G s l i).bl⟩ A n cp E e ce W nw cw (la k G s l i).wd/\Kept (fun j=>j=xb\/B0<=j) y v) (μ:=fun st _=>((n:Int)-st.2.2.2).toNat) (s:=(W,nw,cw,0)) ⟨0,none,0,0,W,nw,cw,rfl,Nat.zero_le _,V,Kept.refl _ _⟩ ?_;rintro st v ⟨i,E,e,ce,W,nw,cw,rfl,hi,Vv,kv⟩;unfold af.B3;refine⟨A,n,cp,Vv.f33,Split.dec (fun cU=>?_) (fun gE=>?_)⟩
 ·simp only at cU
  have dY:i<n:=by omega
  obtain⟨z,hz⟩:∃z,(cG G s l)[i]? =some z:=⟨_,List.getElem?_eq_getElem (by omega)⟩;have qN:=zP (k:=k) hz;have zy:(cG G s l)[((i:Nat):Int).toNat]? =some z:=by rw [Int.toNat_natCast];exact hz
  have hnw:(la k G s l i).wd.length=nw:=bM.len Vv.wr;have Yl:=vl i hi;have sv:=kv.size;refine⟨A,n,cp,Vv.f33,(bM.hs Vv.mg).load (i:=(i:Int)) (by omega) zy ?_⟩;refine pM (hR kv) (by omega) (bM.hs Vv.wr) (by omega) z fun N cN w4 S8 k4=>⟨N,_,cN,rfl,?_⟩;have np:=kv.trans k4 (fun _ _ h=>h.elim);have YN:=hR np;refine Is.mk rfl ⟨_,YN.c0,?_⟩;have zD:(bS G.D (la k G s l i).wd z).length<=700:=by
   have:=List.length_filter_le (fun b=>decide (mi G.D b z)) (la k G s l i).wd;unfold bS;omega
  generalize NO:bS G.D (la k G s l i).wd z=AD at S8 zD;have V4:=Vv.same k4;refine af.Ih (I:=fun st u=>∃(b:Bool) (q:Nat),st=(b,(q:Int))/\q<=AD.length/\b=(decide (AD.length<=k)&&(AD.take q).all fun z=>decide ((bS G.D (la k G s l i).wd z).length+1<=k))/\Kept Nil w4 u) (μ:=fun st _=>((AD.length:Int)-st.2).toNat) (s:=(decide ((AD.length:Int)<=(k:Int)),0)) ⟨_,0,rfl,Nat.zero_le _,by simp,Kept.refl _ _⟩ ?_;rintro st u ⟨b,q,rfl,hq,hb,ku⟩;have Kp:=np.trans ku (fun _ _ h=>h.elim);have Vu:=V4.same ku;have fin:∀ {t:World},Kept Nil w4 t->b=mf k G.D (la k G s l i).wd z->af.DI (some ⟨r,0,none⟩) ⟨rb,0,none⟩ none 0 0 ⟨xb,0,none⟩ W nw cw (i:Int) N AD.length cN b (q:Int) (bR (af.e3 (some ⟨r,0,none⟩) ⟨rb,0,none⟩ none 0 0 ⟨xb,0,none⟩) (fun st v=>∃(i:Nat) (E:Option Addr) (e ce:Nat) (W:Option Addr) (nw cw:Nat),st=(W,nw,cw,(i:Int))/\i<=n/\VJ v B0 xb rb ⟨s,G.score s+1+(la k G s l i).bl.count true,cG G s l,(la k G s l i).bl⟩ A n cp E e ce W nw cw (la k G s l i).wd/\Kept (fun j=>j=xb\/B0<=j) y v) (fun st _=>((n:Int)-st.2.2.2).toNat) (W,nw,cw,(i:Int)) v (af.q3 K)) t:=fun {t} kt Dd=>by
   have Vt:=V4.same kt;have Pn:=np.trans kt (fun _ _ h=>h.elim);have st:=Pn.size;have YI:(la k G s l i).bl.length=e:=by have:=(Row.bo Vt.bl).len;simpa using this
   have hbi:=DT k G s l i (by omega);unfold af.DI;refine⟨E,e,ce,Vt.f34,?_⟩;intro w5;have k5:Kept Nil t w5:=(Kept.refl _ _).alloc _;have oD:w5.cell? ⟨t.heap.size,0,none⟩=some (.bool b):=by rw [aD (aI t _)];rfl
   clear_value w5;obtain⟨E',sQ,u6,q1,q2,q3,q4⟩:=Vt.HX (by omega) (by omega) k5 oD;refine⟨E',e+1,sQ,u6,q1,q2,?_⟩;have Lk:=Pn.tt q4;rw [dH (n:=(i:Int)) (by omega) (by omega)];rw [jV,<-Dd]at qN;generalize u6.setCell ((⟨xb,0,none⟩:Addr).add 34) (.slice E' (e+1) sQ)=w6 at q3 q4 Lk⊢;have s6:=Lk.size;cases b with
   |false=>
    refine Split.no rfl ⟨(W,nw,cw,(i:Int)+1),rfl,⟨i+1,E',e+1,sQ,W,nw,cw,rfl,dY,?_,Lk⟩,by simp only;omega⟩;rw [qN];simpa [List.count_append]using q3
   |true=>
    refine Split.yes rfl ⟨A,n,cp,q3.f33,(bM.hs q3.mg).load (i:=(i:Int)) (by omega) zy ⟨z.2.1,?_⟩⟩;intro w7;have k7:Kept Nil w6 w7:=(Kept.refl _ _).alloc _;have Uq:=jq w6 z;obtain⟨W',Sp,w8,r1,r2,r3⟩:=q3.Tj (by omega) (by omega) k7 Uq;refine⟨W',nw+1,Sp,w8,r1,_,r2.f32,r2.wrx (by omega),?_⟩;have aka:(la k G s l i).bl.count true<=300:=by have:=List.count_le_length (a:=true) (l:=(la k G s l i).bl);omega
    have ew:u64.wrap (((G.score s+1+(la k G s l i).bl.count true:Nat):Int)+1)=((G.score s+1+(la k G s l i).bl.count true+1:Nat):Int):=by
     rw [show((G.score s+1+(la k G s l i).bl.count true:Nat):Int)+1=((G.score s+1+(la k G s l i).bl.count true+1:Nat):Int)by omega];exact kc (by omega)
    simp only;rw [ew];have r4:=r2.O5 (G.score s+1+(la k G s l i).bl.count true+1);have r5:=r2.O3 32 (.int .u64 ((G.score s+1+(la k G s l i).bl.count true+1:Nat):Int));refine⟨(W',nw+1,Sp,(i:Int)+1),rfl,⟨i+1,E',e+1,sQ,W',nw+1,Sp,rfl,dY,?_,(Lk.tt r3).trans r5 (fun _ _ h=>.inl h)⟩,by simp only;omega⟩;rw [qN];have ec:((la k G s l i).bl++ [true]).count true=(la k G s l i).bl.count true+1:=by simp [List.count_append]
    simp only [if_true];rw [ec,<-Nat.add_assoc];exact r4
  unfold af.B4;refine Split.dec (fun L6=>?_) (fun QM=>?_)
  ·simp only at L6
   refine Split.mk (fun wR=>?_) (fun wR=>?_)
   ·replace wR:b=true:=wR
    subst wR;have Hc:q<AD.length:=by omega
    obtain⟨z2,hz2⟩:∃z2,AD[q]? =some z2:=⟨_,List.getElem?_eq_getElem Hc⟩;intro w5;have k5:Kept Nil u w5:=(Kept.refl _ _).drew;clear_value w5;have F9:=ku.tt k5;have AQ:=np.trans F9 (fun _ _ h=>h.elim);have hR5:=hR AQ;refine((bM.hs S8).same F9).load (i:=(q:Int)) (by omega) (by rw [Int.toNat_natCast];exact hz2) (Is.mk rfl ⟨_,hR5.c0,?_⟩);refine pM hR5 (by omega) (bM.hs (V4.same F9).wr) (by omega) z2 fun N2 c2 w6 Cr k6=>⟨N2,_,c2,rfl,?_⟩;have Ln:=F9.tt k6;refine⟨(hR5.same k6).c0,?_⟩;simp only;rw [dH (n:=(q:Int)) (by omega) (by omega),gP (x:=(k:Int)-1) (by omega) (by omega)];refine⟨(decide (((bS G.D (la k G s l i).wd z2).length:Int)<=(k:Int)-1),(q:Int)+1),rfl,⟨_,q+1,rfl,Hc,?_,Ln⟩,by simp only;omega⟩;rw [eq_comm,Bool.and_eq_true,decide_eq_true_eq]at hb;rw [decide_eq_true hb.1,Bool.true_and,List.take_add_one,hz2];simp only [Option.toList_some,List.all_append,hb.2,Bool.true_and,List.all_cons,List.all_nil,Bool.and_true];rw [decide_eq_decide];omega
   ·rw [aS,af.Hp]
    replace wR:b=false:=wR
    refine fin ku ?_;rw [wR]at hb⊢
    symm
    unfold mf;rw [NO,decide_eq_false_iff_not];rintro⟨g1,g2⟩;rw [decide_eq_true g1,Bool.true_and]at hb;have:=List.all_eq_false.1 hb.symm;obtain⟨z0,hz0,hz1⟩:=this;exact hz1 (decide_eq_true (g2 z0 (List.mem_of_mem_take hz0)))
  ·simp only at QM
   rw [aS,af.Hp];refine fin ku ?_;rw [List.take_of_length_le (by omega)]at hb;rw [hb];unfold mf;rw [NO,Bool.eq_iff_iff,Bool.and_eq_true,decide_eq_true_eq,decide_eq_true_eq,List.all_eq_true];simp only [decide_eq_true_eq]
 ·simp only at gE
  have:i=n:=by omega
  subst this;rw [aS,af.yz];rw [<-hn,DU]at Vv;have BC:(⟨s,G.score s+1+(dP k G s l).bl.count true,cG G s l,(dP k G s l).bl⟩:oE)=cX k G s l:=rfl;rw [BC]at Vv;unfold af.sK;obtain⟨t1,t2,t3⟩:=dR Vv.box (cs:=cQ (cX k G s l) A (cG G s l).length cp E e ce) (by rw [a8];rfl);refine⟨_,⟨a8 ..,Cells.bJ Vv.top⟩,⟨a8 ..,dZ _ _ _ _ _ _ _,fun j hj=>t1 j (by rw [a8];exact hj)⟩,_,⟨a8 ..,Cells.bJ t2⟩,?_⟩;rw [hn]at t3 Vv⊢;exact hK v E e ce W nw cw Vv ((kv.mono fun _ _ h=>h.imp (fun h=>h) (fun h=>.inr h)).trans t3 (fun _ _ h=>.inr (.inl h)))
end
theorem RC{G:GS}{l:List HT}{k:Nat}{x:HT}(h:SO G l)(h1:∀y∈l.take k,gl G y x=true)(h2:∀y∈l.drop k,gl G x y=true):SO G (l.take k++x::l.drop k):=by
 have h0:SO G (l.take k++l.drop k):=by rw [List.take_append_drop];exact h
 unfold SO at h0⊢;rw [List.pairwise_append]at h0⊢;refine⟨h0.1,List.pairwise_cons.2 ⟨h2,h0.2.1⟩,fun a ha b hb=>?_⟩;rcases List.mem_cons.1 hb with rfl|hb
 ·exact h1 a ha
 ·exact h0.2.2 a ha b hb
section
variable{y w w':World}{F F' S:Nat->Prop}{r x k:Nat}{G:GS}{K:Value->World->Prop}{B0 xb rb sb n cp e ce nw cw na ca:Nat}{A E W AA:Option Addr}{s:HT}{l all wd:List HT}
set_option maxHeartbeats 2000000 in
theorem Fc(h:R3 y F r x k G)(hD:G.D.length<=300)(hB:B0<=y.heap.size)(iC:∀j,(j=r\/j=x\/F j)->j≠xb)(hs:s∈ids G.D)(IZ:y.heap[sb]? =some (.cells s.1 ag (0,0)))(R4:sb≠xb)
 (dm:HS y AA na all) (YQ:∀a,AA=some a->a.block≠xb) (hSS:SS all) (fQ:∀z∈all,z∈ids G.D)
 (V:VJ y B0 xb rb ⟨s,G.score s+1,[],[]⟩ none 0 0 none 0 0 W nw cw wd)
 (hK:∀v A n cp M i,SO G M->(∀z,z∈M↔z∈all/\z≠s/\¬eB G.D z s)->VJ v B0 xb rb ⟨s,G.score s+1,M,[]⟩ A n cp none 0 0 W nw cw wd->Kept (· =xb) y v->af.cV (some ⟨r,0,none⟩) ⟨sb,0,none⟩ ⟨rb,0,none⟩ none 0 0 ⟨xb,0,none⟩ W nw cw AA na ca i K v):
 Holds none [] prog 179 (.loop (lB (bB (sR (sL (b9 (body af.fn))))))) (af.q1 K) [(0,.pointer (some ⟨r,0,none⟩)),(4,.pointer (some ⟨sb,0,none⟩)),(6,.pointer (some ⟨rb,0,none⟩)),(7,.slice none 0 0),(8,.pointer (some ⟨xb,0,none⟩)),(9,.slice W nw cw),(10,.slice AA na ca),(11,.int .i64 0)] y:=by
 have LY:=dm.len;have ajn:na<=300:=by
  have:=cZ (m:=ids G.D) hSS.nodup fQ;rw [gF]at this;omega
 have hR:∀ {v:World},Kept (· =xb) y v->R3 v F r x k G:=fun kv=>h.aF kv (iC r (.inl rfl)) (iC x (.inr (.inl rfl))) (fun j hj=>iC j (.inr (.inr hj)));refine af.cy (I:=fun st v=>∃(i:Nat) (M:List HT) (A:Option Addr) (n cp:Nat),st=(i:Int)/\i<=na/\VJ v B0 xb rb ⟨s,G.score s+1,M,[]⟩ A n cp none 0 0 W nw cw wd/\SO G M/\(∀z,z∈M↔z∈all.take i/\z≠s/\¬eB G.D z s)/\Kept (· =xb) y v) (μ:=fun st _=>((na:Int)-st).toNat) (s:=0) ⟨0,[],none,0,0,rfl,Nat.zero_le _,V,List.Pairwise.nil,by simp,Kept.refl _ _⟩ ?_;rintro st v ⟨i,M,A,n,cp,rfl,hi,Vv,CQ,iY,kv⟩;unfold af.B1;refine Split.dec (fun cU=>?_) (fun gE=>?_)
 ·have dY:i<na:=by omega
  obtain⟨z,hz⟩:∃z,all[i]? =some z:=⟨_,List.getElem?_eq_getElem (by omega)⟩;have P2:=fQ z (List.mem_of_getElem? hz);have GD:all.take (i+1)=all.take i++ [z]:=by rw [List.take_add_one,hz];rfl
  have hMi:∀y∈M,y∈ids G.D:=fun y hy=>fQ y (List.mem_of_mem_take ((iY y).1 hy).1);have hMl:M.length<=300:=by
   have:=cZ (m:=ids G.D) CQ.nodup hMi;rw [gF]at this;omega
  have hMn:M.length=n:=bM.len Vv.mg;have sv:=kv.size;refine(dm.aF kv YQ).load (i:=(i:Int)) (by omega) hz ?_;intro w2;obtain⟨tz,jT,kL⟩:=iu (w:=v) (z:=dz.1) (cs:=z.1) (t:=ag) (by rw [z.2.1];rfl);refine⟨⟨z.2.1,z.2.one,fun j hj=>tz j (by rw [z.2.1];exact hj)⟩,?_⟩;intro w3 w4
  replace jT:w3.heap[v.heap.size]? =some (.cells z.1 ag (0,0)):=jT
  replace kL:Kept Nil v w3:=kL
  have k4:Kept Nil w3 w4:=(Kept.refl _ _).drew;clear_value w4;have pg:=k4.heap jT (fun h=>h);have Pp:=kL.tt k4;clear_value w3;have np:=kv.trans Pp (fun _ _ h=>h.elim);have Qd:∀ {u:World},Kept (· =xb) y u->Cells u ⟨sb,0,none⟩ s.1:=fun ku=>Cells.bJ (ku.heap IZ R4);have next:∀ {u:World} {M':List HT} {A':Option Addr} {n' xt:Nat},VJ u B0 xb rb ⟨s,G.score s+1,M',[]⟩ A' n' xt none 0 0 W nw cw wd->SO G M'->(∀z,z∈M'↔z∈all.take (i+1)/\z≠s/\¬eB G.D z s)->Kept (· =xb) y u->
   ∃s1:Int,i64.wrap ((i:Int)+(1:Int))=s1/\(∃(i:Nat) (M:List HT) (A:Option Addr) (n cp:Nat),s1=(i:Int)/\i<=na/\VJ u B0 xb rb ⟨s,G.score s+1,M,[]⟩ A n cp none 0 0 W nw cw wd/\SO G M/\(∀z,z∈M↔z∈all.take i/\z≠s/\¬eB G.D z s)/\Kept (· =xb) y u)/\((na:Int)-s1).toNat<((na:Int)-(i:Int)).toNat:=fun h1 h2 h3 h4=>by
   rw [dH (n:=(i:Int)) (by omega) (by omega)];exact⟨(i:Int)+1,rfl,⟨i+1,_,_,_,_,rfl,dY,h1,h2,h3,h4⟩,by omega⟩
  have skip:(z=s\/eB G.D z s)->∀z',z'∈M↔z'∈all.take (i+1)/\z'≠s/\¬eB G.D z' s:=fun hz0 z'=>by
   rw [iY,GD,List.mem_append,List.mem_singleton];constructor
   ·rintro⟨a,b⟩;exact⟨.inl a,b⟩
   ·rintro⟨a|rfl,b,c⟩
    ·exact⟨a,b,c⟩
    ·rcases hz0 with e|e
     ·exact absurd e b
     ·exact absurd e c
  refine⟨z.1,⟨z.2.1,Cells.bJ pg⟩,s.1,⟨s.2.1,Qd np⟩,⟨z.2.ints,s.2.ints⟩,?_⟩;rw [dC];refine Split.dec (fun Es=>?_) (fun Es=>?_)
  ·obtain⟨s1,e1,e2,e3⟩:=next (Vv.same Pp) CQ (skip (.inl Es)) np
   rw [e1];exact⟨s1,rfl,e2,e3⟩
  have YN:=hR np;refine Is.mk rfl ⟨_,YN.c1,Is.mk rfl ⟨z.1,⟨z.2.1,Cells.bJ pg⟩,s.1,⟨s.2.1,Qd np⟩,?_⟩⟩;rw [add_zero];refine rr YN.X.gr h.fk.W (by omega) z s fun w5 b hb k5=>⟨b,rfl,?_⟩;have Po:=Pp.tt k5;have AQ:=kv.trans Po (fun _ _ h=>h.elim);refine Split.mk (fun hbt=>?_) (fun YJ=>?_)
  ·obtain⟨s1,e1,e2,e3⟩:=next (Vv.same Po) CQ (skip (.inr (hb.1 hbt))) AQ
   rw [e1];exact⟨s1,rfl,e2,e3⟩
  have hzA:¬eB G.D z s:=fun e=>by rw [hb.2 e]at YJ;cases YJ
  have V5:=Vv.same Po;have oD:=k5.heap pg (fun h=>h);have hzM:z∉M:=fun e=>by
   have h1:=((iY z).1 e).1;have ft:=hSS.nodup;obtain⟨q,hq⟩:=List.mem_iff_getElem?.1 h1;rw [List.getElem?_take]at hq;split at hq
   ·rename_i hqi
    have:=(List.getElem?_inj (i:=q) (j:=i) (by rw [LY];omega) ft).1 (by rw [hq,hz]);omega
   ·cases hq
  refine⟨A,n,cp,V5.f33,?_⟩;refine af.gS (I:=fun st u=>∃q:Nat,st=(q:Int)/\q<=M.length/\(∀y∈M.drop q,gl G z y=true)/\Kept Nil w5 u) (μ:=fun st _=>st.toNat) (s:=(n:Int)) ⟨n,rfl,by omega,by rw [<-hMn];simp,Kept.refl _ _⟩ ?_;rintro st u ⟨q,rfl,hq,wg,ku⟩;unfold af.B2;have sC:∀ {t:World},Kept Nil w5 t->(∀y∈M.take q,gl G y z=true)->af.iI (some ⟨r,0,none⟩) ⟨sb,0,none⟩ ⟨rb,0,none⟩ none 0 0 ⟨xb,0,none⟩ W nw cw AA na ca (i:Int) ⟨v.heap.size,0,none⟩ (q:Int) (bR (af.e1 (some ⟨r,0,none⟩) ⟨sb,0,none⟩ ⟨rb,0,none⟩ none 0 0 ⟨xb,0,none⟩ W nw cw AA na ca) (fun st v=>∃(i:Nat) (M:List HT) (A:Option Addr) (n cp:Nat),st=(i:Int)/\i<=na/\VJ v B0 xb rb ⟨s,G.score s+1,M,[]⟩ A n cp none 0 0 W nw cw wd/\SO G M/\(∀z,z∈M↔z∈all.take i/\z≠s/\¬eB G.D z s)/\Kept (· =xb) y v) (fun st _=>((na:Int)-st).toNat) (i:Int) v (af.q1 K)) t:=by
   intro t kt IW;have Vt:=V5.same kt;have Pn:=AQ.trans kt (fun _ _ h=>h.elim);have st:=Pn.size;have vr:=Vt.mg;have Dc:n<=cp:=by rcases Row.own vr with⟨_,h1,h2,_⟩|⟨_,_,_,_,_,h1,_⟩<;>omega
   unfold af.iI;refine⟨A,n,cp,Vt.f33,⟨by omega,by omega⟩,?_⟩;have yY:HS t (if cp=0 then A else A.map (·.add (0*32))) ((q:Int).toNat -0) (M.take q):=by
    have h:=vr.hs.take (k:=q) (by omega);rw [Nat.sub_zero,Int.toNat_natCast];have e:(if cp=0 then A else A.map (·.add (0*32)))=A:=by
     split
     ·rfl
     ·cases A<;>simp [add_zero]
    rw [e];exact h
   obtain⟨A1,c1,u2,ns,gm,Mg,kX⟩:=cK (cx:=cp-0) ay (bM.nil t t.heap.size) yY (by simp;omega) (Nat.le_refl _);have k2:Kept Nil t u2:=Kept.eQ (Kept.refl _ _) Mg (fun k hk=>by cases hk);rw [Nat.zero_add,Nat.sub_zero,Int.toNat_natCast]at ns gm;rw [List.nil_append]at gm;refine⟨A1,_,c1,u2,by rw [Nat.sub_zero,Int.toNat_natCast];exact ns,?_⟩;refine⟨z.1,⟨z.2.1,Cells.bJ ((kt.tt k2).heap oD (fun h=>h))⟩,z.2.1,?_⟩;intro u3;have k3:Kept Nil u2 u3:=(Kept.refl _ _).alloc _;have WA:HS u3 (some ⟨u2.heap.size,0,none⟩) 1 [z]:=jq u2 z;clear_value u3;have mn:bM u3 t.heap.size A1 q c1 (M.take q):=Row.aF gm k3 (fun _ _ h=>h);have s2:=k2.size;have s3:=k3.size;obtain⟨A4,c4,u4,uU,iU,ED,akg⟩:=cK (cx:=1) ay mn WA (by omega) (by omega);have Lx:Kept Nil t u4:=Kept.eQ (k2.tt k3) ED (fun k hk=>by rcases kX k hk with h|h;cases h;exact h);have V4:=Vt.same Lx;refine⟨A4,_,c4,u4,uU,A,n,cp,V4.f33,⟨by omega,by omega⟩,?_⟩;have R6:HS u4 (if cp=(q:Int).toNat then A else A.map (·.add ((q:Int).toNat*32))) (n-(q:Int).toNat) (M.drop q):=by
    rw [Int.toNat_natCast];exact(vr.hs.same Lx).drop Dc (by omega)
   have YC:(n-(q:Int).toNat)=n-q:=by rw [Int.toNat_natCast]
   have s4:=Lx.size;obtain⟨A5,c5,u5,uE,jI,V0,akf⟩:=cK (cx:=cp-(q:Int).toNat) ay iU R6 (by omega) s4;have Rm:∀j,bn A4=some j->t.heap.size<=j:=fun j hj=>(Row.bJ iU hj).1;have k5':Kept Nil t u5:=Kept.eQ Lx V0 Rm;have Hl:=Vt.same k5';refine⟨A5,_,c5,u5,uE,Hl.wrx (by omega),?_⟩;have nN:M.take q++ [z]++M.drop q=M.take q++z::M.drop q:=by simp
   have zD:(M.take q++z::M.drop q).length=n+1:=by simp;omega
   rw [nN]at jI;have e5:q+1+(n-(q:Int).toNat)=n+1:=by omega
   rw [e5]at jI⊢;have Gy:∀j,bn A5=some j->t.heap.size<=j:=fun j hj=>(Row.bJ jI hj).1;have ks:=Hl.O3 33 (.slice A5 (n+1) c5);have Vf:VJ (u5.setCell ((⟨xb,0,none⟩:Addr).add 33) (.slice A5 (n+1) c5)) B0 xb rb ⟨s,G.score s+1,M.take q++z::M.drop q,[]⟩ A5 (n+1) c5 none 0 0 W nw cw wd:=by
    have xB:=Hl.xB;refine⟨?_,?_,Row.aF Hl.bl ks (fun j hj=>by cases hj),Row.aF Hl.wr ks (fun j hj e=>by have:=(Row.bJ Hl.wr hj).1;omega),ks.heap Hl.box Hl.xr.symm,fun j hj e=>(by cases e),fun j hj e=>?_,fun j hj=>(by cases hj),Hl.xB,Hl.rB,Hl.xr⟩
    ·rw [bt,di Hl.top]
     have:=rJ ⟨s,G.score s+1,M,[]⟩ A n cp none 0 0 #[] A5 (n+1) c5;rw [Array.append_empty,Array.append_empty]at this;rw [this];rfl
    ·have UH:bM u5 B0 A5 (n+1) c5 (M.take q++z::M.drop q):=Row.base jI (fun j hj=>by have:=Gy j hj;omega)
     exact Row.aF UH ks (fun j hj e=>by have:=Gy j hj;omega)
    ·obtain⟨_,cur,hc⟩:=Row.bJ Vt.wr e
     have:=aV hc;have:=Gy j hj;omega
   generalize u5.setCell ((⟨xb,0,none⟩:Addr).add 33) (.slice A5 (n+1) c5)=u6 at ks Vf⊢;obtain⟨s1,e1,e2,e3⟩:=next Vf (RC CQ IW wg) (fun z'=>by
    rw [GD,List.mem_append (s:=all.take i),List.mem_singleton];have hM2:z'∈M.take q++z::M.drop q↔z'=z\/z'∈M:=by
     rw [List.mem_append,List.mem_cons];constructor
     ·rintro(h|h|h)
      ·exact .inr (List.mem_of_mem_take h)
      ·exact .inl h
      ·exact .inr (List.mem_of_mem_drop h)
     ·rintro(h|h)
      ·exact .inr (.inl h)
      ·rw [<-List.take_append_drop q M,List.mem_append]at h
       exact h.imp (fun h=>h) (fun h=>.inr h)
    rw [hM2,iY];constructor
    ·rintro(rfl|⟨a,b⟩)
     ·exact⟨.inr rfl,Es,hzA⟩
     ·exact⟨.inl a,b⟩
    ·rintro⟨a|rfl,b⟩
     ·exact .inr ⟨a,b⟩
     ·exact .inl rfl) ((Pn.trans k5' (fun _ _ h=>h.elim)).tt ks)
   rw [e1];exact⟨s1,rfl,e2,e3⟩
  intro w6;have k6:Kept Nil u w6:=(Kept.refl _ _).drew;clear_value w6;have Ln:=ku.tt k6;have V6:=V5.same Ln;have Lk:=AQ.trans Ln (fun _ _ h=>h.elim);refine Split.dec (fun jK=>?_) (fun y7=>?_)
  ·have NJ:0<q:=by omega
   obtain⟨y1,P4⟩:∃y1,M[q-1]? =some y1:=⟨_,List.getElem?_eq_getElem (by omega)⟩;have Nq:=List.mem_of_getElem? P4;rw [wN (x:=(q:Int)-1) (i:=q-1) (by omega) (by omega)];refine⟨z.1,⟨z.2.1,Cells.bJ (Ln.heap oD (fun h=>h))⟩,A,n,cp,V6.f33,(bM.hs V6.mg).load (i:=((q-1:Nat):Int)) (by omega) (by rw [Int.toNat_natCast];exact P4) ?_⟩;refine qX (hR Lk) (by omega) P2 (hMi y1 Nq) fun w7 k7=>⟨_,rfl,?_⟩;have ku7:=Ln.tt k7;refine Split.mk (fun hc=>?_) (fun hc=>?_)
   ·refine⟨((q-1:Nat):Int),rfl,⟨q-1,rfl,by omega,fun z' zy=>?_,ku7⟩,by simp only;omega⟩
    have hd:M.drop (q-1)=y1::M.drop q:=by
     obtain⟨h1,h2⟩:=lgeS P4;rw [List.drop_eq_getElem_cons h1,h2,show q-1+1=q by omega]
    rw [hd]at zy;rcases List.mem_cons.1 zy with rfl|zy
    ·exact hc
    ·exact wg z' zy
   ·rw [aS,af.jU]
    refine sC ku7 fun z' zy=>?_;have Et:gl G y1 z=true:=by
     cases hg:gl G y1 z
     ·exact absurd (mU hc hg) (fun e=>hzM (by rw [e];exact Nq))
     ·rfl
    obtain⟨j,hj⟩:=List.mem_iff_getElem?.1 zy;rw [List.getElem?_take]at hj;split at hj
    ·rename_i hjq
     by_cases e:j=q-1
     ·subst e;rw [P4]at hj;cases hj;exact Et
     ·obtain⟨a1,a2⟩:=lgeS hj
      obtain⟨b1,b2⟩:=lgeS P4;have:=List.pairwise_iff_getElem.1 CQ j (q-1) a1 b1 (by omega);rw [a2,b2]at this;exact mT this Et
    ·cases hj
  ·rw [aS,af.jU]
   have NJ:q=0:=by omega
   refine sC Ln fun z' zy=>?_;rw [NJ]at zy;simp at zy
 ·rw [aS,af.dq]
  rw [List.take_of_length_le (by omega)]at iY;exact hK v A n cp M (i:Int) CQ iY Vv kv
end
section
variable{w w':World}{F F' S:Nat->Prop}{r x k:Nat}{G:GS}{K:Value->World->Prop}{xb rb sb n cx:Nat}{A:Option Addr}{s:HT}{l:List HT}
theorem OS{v:World}(h:R3 v F r x k G)(hD:G.D.length<=300)(rP:k<=1000)(hs:s∈ids G.D)(hl:HS v A n l)(hn:n<=5000)(fQ:∀z∈l,z∈ids G.D)(iC:∀j,(j=r\/j=x\/F j)->j≠xb/\j≠rb)
 (IZ:v.heap[sb]? =some (.cells s.1 ag (0,0))) (wQ:v.heap[rb]? =some (.cells zC br (0,0))) (Yj:v.heap[xb]? =some (.cells (cQ ⟨s,G.score s+1,[],[]⟩ none 0 0 none 0 0) br (0,0))) (R4:sb≠xb) (hrx:xb≠rb)
 (hK:∀u A n cp E e ce W nw cw,bM u v.heap.size A n cp (cX k G s l).merge->Row u v.heap.size iK 1 E e ce (sS (cX k G s l).fL)->bM u v.heap.size W nw cw (dP k G s l).wd->Kept (fun j=>j=xb\/j=rb) v u->K (.tuple #[.agg (cQ (cX k G s l) A n cp E e ce),.slice W nw cw]) u):
 af.J1 (some ⟨r,0,none⟩) A n cx ⟨sb,0,none⟩ ⟨rb,0,none⟩ none 0 0 ⟨xb,0,none⟩ K v:=by
 have W0:=h.fk.W;have lsb:=aV IZ;have lrb:=aV wQ;have lxb:=aV Yj;have hwl:=sT h.fk hs;have j2:∀ {u:World} {W:Option Addr} {nw cw:Nat},bM u v.heap.size W nw cw (G.world s++ [s])->Kept Nil v u->af.J2 (some ⟨r,0,none⟩) A n cx ⟨sb,0,none⟩ ⟨rb,0,none⟩ none 0 0 ⟨xb,0,none⟩ W nw cw K u:=by
  intro u W nw cw ZI ku;have hu:=h.same ku;have su:=ku.size;unfold af.J2;refine Is.mk rfl ⟨_,hu.c1,Is.mk rfl ?_⟩;rw [add_zero];refine An hu.X.gr W0 (by omega) (hl.same ku) (by omega) fun A1 c1 w1 lM k1=>⟨A1,_,c1,rfl,?_⟩;have rO:(dG G.D l).length<=300:=Nat.le_trans (mL _ _) hD;have s1:=k1.size;have Ga:=ku.tt k1;obtain⟨A2,c2,w2,jP,gm,g2,_⟩:=cK ay lM (cx:=cx) (hl.same Ga) (by omega) s1;have k2:Kept Nil u w2:=Kept.eQ k1 g2 (fun j hj=>(Row.bJ lM hj).1);refine⟨A2,_,c2,w2,jP,?_⟩;refine rp gm.hs (by omega) fun A3 c3 w3 mn k3=>⟨A3,_,c3,rfl,?_⟩;have M7:=k2.tt k3;have sq:=ku.tt M7;have h3:=h.same sq;have dm:∀z∈dA (dG G.D l++l),z∈ids G.D:=fun z hz=>by
   rcases List.mem_append.1 (dt.1 hz)with hz|hz
   ·exact(jv.1 hz).1
   ·exact fQ z hz
  have V3:VJ w3 v.heap.size xb rb ⟨s,G.score s+1,[],[]⟩ none 0 0 none 0 0 W nw cw (G.world s++ [s]):=
   ⟨sq.heap Yj (fun h=>h),bM.nil _ _,Row.nil _ _ _ _,Row.aF ZI M7 (fun _ _ h=>h),sq.heap wQ (fun h=>h),fun j hj=>(by cases hj),fun j hj=>(by cases hj),fun j hj=>(by cases hj),lxb,lrb,hrx⟩
  have s3:=sq.size;refine Fc h3 (by omega) (by omega) (fun j hj=>(iC j hj).1) hs (sq.heap IZ (fun h=>h)) R4 mn.hs (fun a ha e=>by
   subst ha;have:=(Row.bJ mn (k:=a.block) rfl).1;have:=(ku.tt k2).size;omega) (iL _) dm V3 fun t A n cp M i CQ iY Vt kt=>?_
  have hM:M=cG G s l:=nW CQ fun z=>by
   rw [iY];unfold pZ;rw [List.mem_filter,decide_eq_true_eq]
  subst hM;have ht:=h3.aF kt (iC r (.inl rfl)).1 (iC x (.inr (.inl rfl))).1 (fun j hj=>(iC j (.inr (.inr hj))).1);have st:=kt.size;refine Fb (B0:=v.heap.size) ht (by omega) rP (by omega) (fun j hj=>⟨?_,iC j hj⟩) (fun z hz=>?_) hs Vt fun t2 E e ce W nw cw V2 CG=>?_
  ·rcases hj with rfl|rfl|hj
   ·exact h.lt
   ·exact h.lx
   ·exact h.lo j hj
  ·exact dm z ((iY z).1 hz).1
  ·have box:=V2.box
   obtain⟨_,_,f3⟩:=dR box (cs:=cQ (cX k G s l) A n cp E e ce) (by rw [a8];rfl);refine hK _ A n cp E e ce W nw cw (Row.aF V2.mg f3 (fun j hj e=>by have:=(Row.bJ V2.mg hj).1;omega)) (Row.aF V2.bl f3 (fun j hj e=>by have:=(Row.bJ V2.bl hj).1;omega)) (Row.aF V2.wr f3 (fun j hj e=>by have:=(Row.bJ V2.wr hj).1;omega)) ?_;exact((sq.mono fun _ _ h=>h.elim).trans kt (fun j hj e=>.inl e)).trans CG (fun j hj e=>by
    rcases e with e|e|e
    ·exact .inl e
    ·exact .inr e
    ·omega)
 unfold af.J1;intro w1;have k1:Kept Nil v w1:=(Kept.refl _ _).drew;clear_value w1;have h1:=h.same k1;obtain⟨i,nd,cl,wl,q1,q2,q3,q4,q5,q6,q7,q8⟩:=OB h.fk hs;obtain⟨A0,c0,B,e,g1,g2,g3⟩:=h.top;have cB:∀ {u:World},Kept Nil v u->u.cell? ((⟨r,0,none⟩:Addr).add 3)=some (.slice B G.D.length e):=fun ku=>by rw [bt,aD (ku.heap g1 (fun h=>h))];rfl
 have gW:∀ {u:World},Kept Nil v u->qo u F B G.D.length G.kZ:=fun ku=>g3.aF ku (fun _ _ h=>h);obtain⟨aB,Aw,nw,cw,p1,p2,p3,p4,p5,p6⟩:=g3.at_ i wl q4;subst p1;have aiy:wl.length=nw:=p5.len;rw [q7]at hwl;have cW:∀ {u:World},Kept Nil v u->u.cell? (aB.add (((i:Nat):Int).toNat*1))=some (.slice Aw nw cw):=fun ku=>by rw [Int.toNat_natCast];exact ku.cell p4 (fun h=>h)
 have hW:∀ {u:World},Kept Nil v u->HS u Aw nw wl:=fun ku=>p5.same ku;have bx:∀ {u:World},Kept Nil v u->∃cs:Array Value,(.agg s.1:Value)=.agg cs/\cs.size=32/\Cells u ⟨sb,0,none⟩ cs:=fun ku=>⟨_,rfl,s.2.1,Cells.bJ (ku.heap IZ (fun h=>h))⟩;have Rw:∀ {u:World},Kept Nil v u->∃A' c' u',(Builtin.append_ #[ay,ay] ay #[.slice none 0 0,.slice Aw nw cw]).run prog u=.ok (.slice A' nw c') u'/\bM u' v.heap.size A' nw c' wl/\Kept Nil u u':=fun {u} ku=>by
  obtain⟨A',c',u',hr,row,hg,_⟩:=cK (cx:=cw) ay (bM.nil u v.heap.size) (hW ku) (by omega) ku.size;rw [Nat.zero_add]at hr row;rw [List.nil_append]at row;exact⟨A',c',u',hr,row,Kept.eQ (Kept.refl _ _) hg (fun j hj=>by cases hj)⟩
 have Rv:∀ {u:World} {A':Option Addr} {c' bq:Nat},Kept Nil v u->bM u v.heap.size A' nw c' wl->HS u (some ⟨bq,0,none⟩) 1 [s]->∃A2 c2 u',(Builtin.append_ #[ay,ay] ay #[.slice A' nw c',.slice (some ⟨bq,0,none⟩) 1 1]).run prog u=.ok (.slice A2 (nw+1) c2) u'/\bM u' v.heap.size A2 (nw+1) c2 (G.world s++ [s])/\Kept Nil v u':=fun {u A' c' bq} ku row hx=>by
  obtain⟨A2,c2,u',hr,gm,hg,_⟩:=cK (cx:=1) ay row hx (by omega) ku.size;rw [<-q7]at gm;exact⟨A2,c2,u',hr,gm,Kept.eQ ku hg (fun j hj=>(Row.bJ row hj).1)⟩
 refine Is.mk rfl ⟨some aB,_,e,cB k1,Is.mk rfl ⟨_,h1.c1,Is.mk rfl ⟨s.1,⟨s.2.1,Cells.bJ (k1.heap IZ (fun h=>h))⟩,s.1,⟨s.2.1,Cells.bJ (k1.heap IZ (fun h=>h))⟩,?_,?_⟩⟩⟩
 ·rw [add_zero]
  refine ln h1.X.gr (by omega) s fun w2 k2=>⟨_,rfl,?_⟩;have zx:=k1.tt k2;rw [q5];refine⟨bx zx,cB zx,⟨by omega,by omega⟩,Is.mk rfl ⟨Aw,nw,cw,cW zx,?_,?_⟩⟩
  ·obtain⟨A1,c1,w3,um,mn,k3⟩:=Rw zx
   have sq:=zx.tt k3;refine⟨A1,nw,c1,w3,um,bx sq,s.2.1,?_⟩;intro w4;have k4:Kept Nil w3 w4:=(Kept.refl _ _).alloc _;have Ur:=jq w3 s;obtain⟨A2,c2,w5,uE,jI,k5⟩:=Rv (sq.tt k4) (Row.aF mn k4 (fun _ _ h=>h)) Ur;exact⟨A2,nw+1,c2,w5,uE,af.q9 (j2 jI k5)⟩
  ·refine⟨s.2.1,?_⟩
   intro w3;have k3:Kept Nil w2 w3:=(Kept.refl _ _).alloc _;have CO:HS w3 (some ⟨w2.heap.size,0,none⟩) 1 [s]:=jq w2 s;clear_value w3;have sq:=zx.tt k3;obtain⟨A1,c1,w4,uU,iU,k4⟩:=Rw sq;obtain⟨A2,c2,w5,uE,jI,k5⟩:=Rv (sq.tt k4) iU (CO.same k4);exact⟨cW sq,cB sq,A1,nw,c1,w4,uU,A2,nw+1,c2,w5,uE,af.q9 (j2 jI k5)⟩
 ·refine⟨s.2.1,?_⟩
  intro w2;have k2:Kept Nil w1 w2:=(Kept.refl _ _).alloc _;have Nv:HS w2 (some ⟨w1.heap.size,0,none⟩) 1 [s]:=jq w1 s;clear_value w2;have zx:=k1.tt k2;refine⟨bx zx,(h.same zx).c1,cB zx,?_⟩;rw [add_zero];refine ln (h.same zx).X.gr (by omega) s fun w3 k3=>⟨_,rfl,?_⟩;have sq:=zx.tt k3;rw [q5];obtain⟨A1,c1,w4,uU,iU,k4⟩:=Rw sq;obtain⟨A2,c2,w5,uE,jI,k5⟩:=Rv (sq.tt k4) iU ((Nv.same k3).same k4);exact⟨cB sq,⟨by omega,by omega⟩,Is.mk rfl ⟨Aw,nw,cw,cW sq,A1,nw,c1,w4,uU,A2,nw+1,c2,w5,uE,af.q9 (j2 jI k5)⟩⟩
theorem wX(h:R3 w F r x k G)(hD:G.D.length<=300)(rP:k<=1000)(hs:s∈ids G.D)(hl:HS w A n l)(hn:n<=5000)(fQ:∀z∈l,z∈ids G.D)
 (hK:∀u A n cp E e ce W nw cw,bM u w.heap.size A n cp (cX k G s l).merge->Row u w.heap.size iK 1 E e ce (sS (cX k G s l).fL)->bM u w.heap.size W nw cw (dP k G s l).wd->Kept Nil w u->K (.tuple #[.agg (cQ (cX k G s l) A n cp E e ce),.slice W nw cw]) u):
 bz prog af.id #[.pointer (some ⟨r,0,none⟩),.agg s.1,.slice A n cx] w K:=by
 refine af.of ?_;unfold af.W;intro w1 w2 w3;have k1:Kept Nil w w1:=(Kept.refl _ _).alloc _;have yY:w1.heap[w.heap.size]? =some (.cells s.1 ag (0,0)):=aI w _;have k2:Kept Nil w1 w2:=(Kept.refl _ _).alloc _;have jP:w2.heap[w1.heap.size]? =some (.cells zC br (0,0)):=aI w1 _;have k3:Kept Nil w2 w3:=(Kept.refl _ _).drew;clear_value w3;have um:=k3.heap jP (fun h=>h);have CR:=k3.heap (k2.heap yY (fun h=>h)) (fun h=>h);have lD:=(k1.tt k2).tt k3;have s1:=k1.size;have l1:=aV yY;have l2:=aV um;clear_value w2 w1;have Eu:=Ad h.fk hs;have ew:u64.wrap ((G.score s:Int)+(1:Int))=((G.score s+1:Nat):Int):=by
  rw [show(G.score s:Int)+1=((G.score s+1:Nat):Int)by omega];exact kc (by omega)
 have BC:(s.1++ #[.int .u64 ((G.score s+1:Nat):Int),.slice none 0 0,.slice none 0 0]:Array Value)=cQ ⟨s,G.score s+1,[],[]⟩ none 0 0 none 0 0:=rfl;have go:∀ {u:World} {xb:Nat},Kept Nil w3 u->w3.heap.size<=xb->u.heap[xb]? =some (.cells (cQ ⟨s,G.score s+1,[],[]⟩ none 0 0 none 0 0) br (0,0))->af.J1 (some ⟨r,0,none⟩) A n cx ⟨w.heap.size,0,none⟩ ⟨w1.heap.size,0,none⟩ none 0 0 ⟨xb,0,none⟩ K u:=fun {u xb} ku hx Yj=>by
  have Nk:=lD.tt ku;have s0:=lD.size;refine OS (h.same Nk) hD rP hs (hl.same Nk) hn fQ (fun j hj=>?_) (ku.heap CR (fun h=>h)) (ku.heap um (fun h=>h)) Yj (by omega) (by omega) fun t A n cp E e ce W nw cw g1 g2 g3 g4=>?_
  ·have:j<w.heap.size:=by
    rcases hj with rfl|rfl|hj
    ·exact h.lt
    ·exact h.lx
    ·exact h.lo j hj
   exact⟨by omega,by omega⟩
  ·have s0u:=Nk.size
   exact hK t A n cp E e ce W nw cw (Row.base g1 (fun j hj=>by have:=(Row.bJ g1 hj).1;omega)) (Row.base g2 (fun j hj=>by have:=(Row.bJ g2 hj).1;omega)) (Row.base g3 (fun j hj=>by have:=(Row.bJ g3 hj).1;omega)) (Nk.trans g4 (fun j hj e=>by rcases e with e|e<;>omega))
 have bx:∀ {u:World},Kept Nil w3 u->∃cs:Array Value,(.agg s.1:Value)=.agg cs/\cs.size=32/\Cells u ⟨w.heap.size,0,none⟩ cs:=fun ku=>⟨_,rfl,s.2.1,Cells.bJ (ku.heap CR (fun h=>h))⟩;refine⟨s.1,⟨s.2.1,Cells.bJ CR⟩,s.1,⟨s.2.1,Cells.bJ CR⟩,?_,?_⟩
 ·refine lr (h.same lD) (by omega) hs fun w4 k4=>⟨_,rfl,bx k4,?_⟩
  rw [ew,wH s];refine Is.mk rfl ?_;rw [BC];intro w5;have k5:Kept Nil w4 w5:=(Kept.refl _ _).alloc _;have Nu:w5.heap[w4.heap.size]? =some (.cells zC br (0,0)):=aI w4 _;clear_value w5;have oC:=k4.tt k5;obtain⟨t1,t2,t3⟩:=dR Nu (cs:=cQ ⟨s,G.score s+1,[],[]⟩ none 0 0 none 0 0) (by rw [a8];rfl);refine⟨bx oC,⟨a8 ..,dZ _ _ _ _ _ _ _,fun j hj=>t1 j (by rw [a8];exact hj)⟩,?_⟩;have s4:=k4.size;exact af.oX (go (oC.trans t3 (fun j hj e=>by omega)) s4 t2)
 ·intro w4
  have k4:Kept Nil w3 w4:=(Kept.refl _ _).alloc _;have Ur:w4.heap[w3.heap.size]? =some (.cells zC br (0,0)):=aI w3 _;clear_value w4;refine⟨bx k4,bx k4,?_⟩;refine lr (h.same (lD.tt k4)) (by omega) hs fun w5 k5=>⟨_,rfl,bx (k4.tt k5),?_⟩;have oC:=k4.tt k5;rw [ew,wH s];refine Is.mk rfl ?_;rw [BC];obtain⟨t1,t2,t3⟩:=dR (k5.heap Ur (fun h=>h)) (cs:=cQ ⟨s,G.score s+1,[],[]⟩ none 0 0 none 0 0) (by rw [a8];rfl);refine⟨⟨a8 ..,dZ _ _ _ _ _ _ _,fun j hj=>t1 j (by rw [a8];exact hj)⟩,?_⟩;exact af.oX (go (oC.trans t3 (fun j hj e=>by omega)) (Nat.le_refl _) t2)
end
theorem DW:zI prog uL br 35 88:=⟨by kernel_rfl,by kernel_rfl⟩
theorem SY:zI prog fU ay 1 24:=⟨by kernel_rfl,by kernel_rfl⟩
section
variable{w w':World}{F F' S:Nat->Prop}{A:Option Addr}{n c B m bytes:Nat}{tS tE:TypeId}{news:List Value}
theorem Ac{a:Addr}(P:Nat->Array Value->Prop):∀n,(∀i,i<n->∃arr:Array Value,arr.size=m/\(∀u∈arr.toList,u.oneCell'=true)/\Cells w (a.add (i*m)) arr/\P i arr)->
 ∃news:List Value,news.length=n*m/\(∀j u,news[j]? =some u->w.cell? (a.add j)=some u)/\(∀u∈news,u.oneCell'=true)/\∀i,i<n->∃arr:Array Value,P i arr/\arr.size=m/\∀(j:Nat) v,arr[j]? =some v->news[i*m+j]? =some v
 |0,_=>⟨[],by simp,fun j u h=>by simp at h,fun u h=>by simp at h,fun i h=>by omega⟩
 |n+1,H=>by
  obtain⟨news,h1,h2,h3,h4⟩:=Ac P n fun i hi=>H i (by omega);obtain⟨arr,g1,g2,g3,g4⟩:=H n (by omega);refine⟨news++arr.toList,by rw [List.length_append,h1,Array.length_toList,g1,Nat.add_mul,Nat.one_mul],fun j u hj=>?_,fun u hu=>?_,fun i hi=>?_⟩
  ·rw [List.getElem?_append]at hj
   split at hj
   ·exact h2 j u hj
   ·rename_i gE
    rw [h1]at hj gE;have:=g3 (j-n*m) u (by simpa using hj)
    rwa [lU,show n*m+(j-n*m)=j by omega]at this
  ·rcases List.mem_append.1 hu with hu|hu
   ·exact h3 u hu
   ·exact g2 u hu
  ·by_cases fQ:i<n
   ·obtain⟨ar,q1,q2,q3⟩:=h4 i fQ
    exact⟨ar,q1,q2,fun j v hj=>by
     have:=q3 j v hj;rw [List.getElem?_append_left (lgeS this).1];exact this⟩
   ·obtain rfl:i=n:=by omega
    exact⟨arr,g4,g1,fun j v hj=>by
     rw [List.getElem?_append_right (by omega),h1,show i*m+j-i*m=j by omega,Array.getElem?_toList];exact hj⟩
theorem zp(T:zI prog tS tE m bytes)(hb:bytes<=1000)(hn:n<=100000){a:Addr}{cx:Nat}(P:Nat->Array Value->Prop)(H:∀i,i<n->∃arr:Array Value,arr.size=m/\(∀u∈arr.toList,u.oneCell'=true)/\Cells w (a.add (i*m)) arr/\P i arr):
 ∃A' c' w' news,(Builtin.append_ #[tS,tS] tS #[.slice none 0 0,.slice (some a) n cx]).run prog w=.ok (.slice A' n c') w'/\Row w' w.heap.size tE m A' n c' news/\Kept Nil w w'/\∀i,i<n->∃arr:Array Value,P i arr/\arr.size=m/\∀(j:Nat) v,arr[j]? =some v->news[i*m+j]? =some v:=by
 obtain⟨news,e1,e2,e3,e4⟩:=Ac (w:=w) (m:=m) P n H;obtain⟨A',c',w',hr,fG,hg,_⟩:=fR (P:=prog) (ty:=tS) T (Row.nil w w.heap.size _ _) (a:=a) (m:=n) (cx:=cx) (news:=news) e1 e2 e3 (by rw [Nat.zero_add];have:=Nat.mul_le_mul hn hb;omega) (by unfold maxLen;omega) (Nat.le_refl _);rw [Nat.zero_add]at hr fG;rw [List.nil_append]at fG;exact⟨A',c',w',news,hr,fG,Kept.eQ (Kept.refl _ _) hg (fun j hj=>by cases hj),e4⟩
theorem zo(T:zI prog tS tE m bytes)(hb:bytes<=1000)(hn:n<=100000)(h:Row w B tE m A n c news)(hB:B<=w.heap.size){b:Nat}{arr:Array Value}{t:TypeId}(jT:w.heap[b]? =some (.cells arr t (0,0)))(hs:arr.size=m)(h1:∀u∈arr.toList,u.oneCell'=true):
 ∃A' c' w',(Builtin.append_ #[tS,tS] tS #[.slice A n c,.slice (some ⟨b,0,none⟩) 1 1]).run prog w=.ok (.slice A' (n+1) c') w'/\Row w' B tE m A' (n+1) c' (news++arr.toList)/\w.grownBy w' (bn A):=by
 obtain⟨A',c',w',hr,fG,hg,_⟩:=fR (P:=prog) (ty:=tS) T h (a:=⟨b,0,none⟩) (m:=1) (cx:=1) (news:=arr.toList) (by simpa using hs)
  (fun j u hj=>by rw [bt,Nat.zero_add,aD jT];simpa using hj) h1 (by have:=Nat.mul_le_mul (show n+1<=100001 by omega) hb;omega) (by unfold maxLen;omega) hB
 exact⟨A',c',w',hr,fG,hg⟩
def Ki(w:World)(F:Nat->Prop)(l:List oE)(i:Nat)(arr:Array Value):Prop:=∃x A1 n1 c1 B1 m1 d1,l[i]? =some x/\arr=cQ x A1 n1 c1 B1 m1 d1/\HS w A1 n1 x.merge/\Bo w B1 m1 x.fL/\(∀b,A1=some b->F b.block)/\(∀b,B1=some b->F b.block)
def RB(w:World)(F:Nat->Prop)(l:List (List HT))(i:Nat)(arr:Array Value):Prop:=∃x A1 n1 c1,l[i]? =some x/\arr= #[.slice A1 n1 c1]/\HS w A1 n1 x/\(∀b,A1=some b->F b.block)
theorem qT.Ac{l:List oE}(h:qT w F A n l):(0<n->∃a,A=some a)/\∀a,A=some a->∀i,i<n->∃arr:Array Value,arr.size=35/\(∀u∈arr.toList,u.oneCell'=true)/\Cells w (a.add (i*35)) arr/\Ki w F l i arr:=by
 have hl:=h.len;refine⟨fun h0=>?_,fun a ha i hi=>?_⟩
 ·obtain⟨x,hx⟩:∃x,l[0]? =some x:=⟨_,List.getElem?_eq_getElem (by omega)⟩
  obtain⟨a,_,_,_,_,_,_,g1,_⟩:=h.at_ 0 x hx;exact⟨a,g1⟩
 ·obtain⟨x,hx⟩:∃x,l[i]? =some x:=⟨_,List.getElem?_eq_getElem (by omega)⟩
  obtain⟨a',A1,n1,c1,B1,m1,d1,g1,g2,g3,g4,g5,g6,g7,g8⟩:=h.at_ i x hx;rw [ha]at g1;cases g1;exact⟨_,a8 ..,dZ _ _ _ _ _ _ _,g4,x,A1,n1,c1,B1,m1,d1,hx,rfl,g5,g6,g7,g8⟩
theorem qo.Ac{l:List (List HT)}(h:qo w F A n l):(0<n->∃a,A=some a)/\∀a,A=some a->∀i,i<n->∃arr:Array Value,arr.size=1/\(∀u∈arr.toList,u.oneCell'=true)/\Cells w (a.add (i*1)) arr/\RB w F l i arr:=by
 have hl:=h.len;refine⟨fun h0=>?_,fun a ha i hi=>?_⟩
 ·obtain⟨x,hx⟩:∃x,l[0]? =some x:=⟨_,List.getElem?_eq_getElem (by omega)⟩
  obtain⟨a,_,_,_,g1,_⟩:=h.at_ 0 x hx;exact⟨a,g1⟩
 ·obtain⟨x,hx⟩:∃x,l[i]? =some x:=⟨_,List.getElem?_eq_getElem (by omega)⟩
  obtain⟨a',A1,n1,c1,g1,g2,g3,g4,g5,g6⟩:=h.at_ i x hx;rw [ha]at g1;cases g1;refine⟨#[.slice A1 n1 c1],rfl,fun u hu=>?_,fun j u hj=>?_,x,A1,n1,c1,hx,rfl,g5,g6⟩
  ·simp at hu;subst hu;rfl
  ·cases j with
   |zero=>simp at hj;subst hj;rw [add_zero];exact g4
   |succ j=>simp at hj
theorem qT.snoc{l:List oE}{x:oE}{A1 B1:Option Addr}{n1 c1 m1 d1:Nat}{w0:World}(h:Row w B br 35 A (n+1) c (news++(cQ x A1 n1 c1 B1 m1 d1).toList))(zD:news.length=n*35)(hl:l.length=n)(k0:Kept Nil w0 w)(hF:∀j,bn A=some j->F' j)(YO:∀j,F j->F' j)
 (hc:∀i,i<n->∃arr:Array Value,Ki w0 F l i arr/\arr.size=35/\∀(j:Nat) v,arr[j]? =some v->news[i*35+j]? =some v)
 (g1:HS w A1 n1 x.merge) (g2:Bo w B1 m1 x.fL) (g3:∀b,A1=some b->F' b.block) (g4:∀b,B1=some b->F' b.block):qT w F' A (n+1) (l++ [x]):=by
 refine⟨by simp [hl],fun i y hi=>?_⟩;obtain⟨b,rfl⟩:=Row.some h (by omega);obtain⟨_,cur,lv⟩:=Row.bJ h (k:=b) rfl;rw [List.getElem?_append]at hi;split at hi
 ·rename_i cU
  obtain⟨arr,⟨y',A2,n2,c2,B2,m2,d2,q1,rfl,q3,q4,q5,q6⟩,q7,q8⟩:=hc i (by omega);rw [hi]at q1;cases q1;exact⟨_,A2,n2,c2,B2,m2,d2,rfl,aV lv,hF b rfl,fun j v hj=>by
   rw [lU];have:=q8 j v hj;exact Row.cells h _ _ (by rw [List.getElem?_append_left (lgeS this).1];exact this),q3.same k0,q4.same k0,fun b hb=>YO _ (q5 b hb),fun b hb=>YO _ (q6 b hb)⟩
 ·rename_i gE
  have C8:i=n/\y=x:=by
   cases hk:i-l.length with
   |zero=>rw [hk]at hi;exact⟨by omega,by simpa using hi.symm⟩
   |succ k=>rw [hk]at hi;simp at hi
  obtain⟨rfl,rfl⟩:=C8;exact⟨_,A1,n1,c1,B1,m1,d1,rfl,aV lv,hF b rfl,fun j v hj=>by
   rw [lU];exact Row.cells h _ _ (by rw [List.getElem?_append_right (by omega),zD,show i*35+j-i*35=j by omega,Array.getElem?_toList];exact hj),g1,g2,g3,g4⟩
theorem qo.snoc{l:List (List HT)}{x:List HT}{A1:Option Addr}{n1 c1:Nat}{w0:World}(h:Row w B ay 1 A (n+1) c (news++(#[.slice A1 n1 c1]:Array Value).toList))(zD:news.length=n*1)(hl:l.length=n)(k0:Kept Nil w0 w)(hF:∀j,bn A=some j->F' j)(YO:∀j,F j->F' j)
 (hc:∀i,i<n->∃arr:Array Value,RB w0 F l i arr/\arr.size=1/\∀(j:Nat) v,arr[j]? =some v->news[i*1+j]? =some v)
 (g1:HS w A1 n1 x) (g3:∀b,A1=some b->F' b.block):qo w F' A (n+1) (l++ [x]):=by
 refine⟨by simp [hl],fun i y hi=>?_⟩;obtain⟨b,rfl⟩:=Row.some h (by omega);obtain⟨_,cur,lv⟩:=Row.bJ h (k:=b) rfl;rw [List.getElem?_append]at hi;split at hi
 ·rename_i cU
  obtain⟨arr,⟨y',A2,n2,c2,q1,rfl,q3,q4⟩,q7,q8⟩:=hc i (by omega);rw [hi]at q1;cases q1;have:=q8 0 _ rfl;exact⟨_,A2,n2,c2,rfl,aV lv,hF b rfl,Row.cells h _ _ (by rw [Nat.add_zero]at this;rw [List.getElem?_append_left (lgeS this).1];exact this),q3.same k0,fun b hb=>YO _ (q4 b hb)⟩
 ·rename_i gE
  have C8:i=n/\y=x:=by
   cases hk:i-l.length with
   |zero=>rw [hk]at hi;exact⟨by omega,by simpa using hi.symm⟩
   |succ k=>rw [hk]at hi;simp at hi
  obtain⟨rfl,rfl⟩:=C8;exact⟨_,A1,n1,c1,rfl,aV lv,hF b rfl,Row.cells h _ _ (by rw [List.getElem?_append_right (by omega),zD,show i*1-i*1=0 by omega];rfl),g1,g3⟩
end
section
variable{w w':World}{F:Nat->Prop}{r x k:Nat}{G:GS}{K:Value->World->Prop}
theorem yJ(root:HT)(k:Nat)(hK:∀v r x F,R3 v F r x k (dg root)->(∀j,F j->w.heap.size<=j)->w.heap.size<=r->w.heap.size<=x->Kept Nil w v->K (.pointer (some ⟨r,0,none⟩)) v):
 bz prog kM.id #[.int .i64 (k:Int),.agg root.1] w K:=by
 refine kM.of ?_;unfold kM.W;intro w1;have k1:Kept Nil w w1:=(Kept.refl _ _).alloc _;have zc:w1.heap[w.heap.size]? =some (.cells root.1 ag (0,0)):=aI w _;clear_value w1;refine⟨root.1,⟨root.2.1,Cells.bJ zc⟩,?_⟩;refine yL root fun w2 x FX hX hFX hx k2=>⟨_,rfl,rfl,?_⟩;have jS:=k1.tt k2;intro w3 w4 w5;have k3:Kept Nil w2 w3:=(Kept.refl _ _).alloc _;have QZ:w3.heap[w2.heap.size]? =some (.cells zC br (0,0)):=aI w2 _;have k4:Kept Nil w3 w4:=(Kept.refl _ _).alloc _;have hw4:w4.heap[w3.heap.size]? =some (.cells #[.slice none 0 0] ay (0,0)):=aI w3 _;have k5:Kept Nil w4 w5:=(Kept.refl _ _).alloc _;have ht5:w5.heap[w4.heap.size]? =some (.cells #[.int .i64 (k:Int),.pointer (some ⟨x,0,none⟩),.slice (some ⟨w2.heap.size,0,none⟩) 1 1,.slice (some ⟨w3.heap.size,0,none⟩) 1 1] gY (0,0)):=aI w4 _;clear_value w5;have hw5:=k5.heap hw4 (fun h=>h);have hc5:=k5.heap (k4.heap QZ (fun h=>h)) (fun h=>h);have Ek:=(k3.tt k4).tt k5;have s02:=jS.size;have l3:=aV QZ;have l4:=aV hw4;have l5:=aV ht5;have s1:=k1.size;have s2:=k2.size;have lx:=hX.lt;clear_value w4 w3;refine hK w5 w4.heap.size x (fun j=>FX j\/j=w2.heap.size\/j=w3.heap.size) ⟨⟨some ⟨w2.heap.size,0,none⟩,1,some ⟨w3.heap.size,0,none⟩,1,ht5,⟨rfl,fun i y hi=>?_⟩,⟨rfl,fun i y hi=>?_⟩⟩,(hX.same Ek).mono (fun j e=>.inl e) (fun e=>?_),fun e=>?_,by omega,ju k root,fun j e=>?_⟩ (fun j e=>?_) (by omega) (by omega) (jS.tt Ek)
 ·cases i with
  |zero=>
   have:y=⟨dz,0,[],[]⟩:=by simpa [dg]using hi.symm
   subst this;refine⟨_,none,0,0,none,0,0,rfl,by show w2.heap.size<_;omega,.inr (.inl rfl),fun j u hj=>?_,HS.nil _ _,⟨rfl,fun i b h=>by simp at h⟩,fun b hb=>(by cases hb),fun b hb=>(by cases hb)⟩;rw [Nat.zero_mul,add_zero,bt,Nat.zero_add,aD hc5];exact hj
  |succ i=>simp [dg]at hi
 ·cases i with
  |zero=>
   have:y= []:=by simpa [dg]using hi.symm
   subst this;refine⟨_,none,0,0,rfl,by show w3.heap.size<_;omega,.inr (.inr rfl),?_,HS.nil _ _,fun b hb=>(by cases hb)⟩;rw [Nat.zero_mul,add_zero,aD hw5];rfl
  |succ i=>simp [dg]at hi
 ·rcases e with e|e|e
  ·exact hX.iC e
  ·omega
  ·omega
 ·rcases e with e|e|e
  ·have:=(hFX _ e).2;omega
  ·omega
  ·omega
 ·rcases e with e|e|e
  ·have:=(hFX _ e).2;omega
  ·omega
  ·omega
 ·rcases e with e|e|e
  ·have:=(hFX _ e).1;omega
  ·omega
  ·omega
end
section
variable{w w':World}{F:Nat->Prop}{r x k:Nat}{G:GS}{K:Value->World->Prop}{A:Option Addr}{n cx:Nat}{l:List HT}
set_option maxHeartbeats 2000000 in
theorem yK(h:R3 w F r x k G)(hD:G.D.length<=300)(rP:k<=1000)(hl:HS w A n l)(hn:n<=5000)(id:HT)
 (hE:dF G.D id l≠0->∀w',Kept Nil w w'->K (.tuple #[.agg MF,.int .i64 (dF G.D id l)]) w')
 (hO:dF G.D id l=0->∀w' A n c B e ce,R3 w' (fun j=>F j\/(w.heap.size<=j/\j<w'.heap.size)) r x k (dh k G id l)->Kept (fun j=>j=r\/j=x) w w'->HS w' A n (cX k G (bU G l) l).merge->Bo w' B e (cX k G (bU G l) l).fL->(∀a,A=some a\/B=some a->w.heap.size<=a.block)->K (.tuple #[.agg (cQ (cX k G (bU G l) l) A n c B e ce),.int .i64 0]) w'):
 bz prog dM.id #[.pointer (some ⟨r,0,none⟩),.agg id.1,.slice A n cx] w K:=by
 have W0:=h.fk.W;have L7:=h.lt;have NT:=h.lx;refine dM.of ?_;unfold dM.W;intro w1 w2;have k1:Kept Nil w w1:=(Kept.refl _ _).alloc _;have Mc:w1.heap[w.heap.size]? =some (.cells id.1 ag (0,0)):=aI w _;have k2:Kept Nil w1 w2:=(Kept.refl _ _).alloc _;have jP:w2.heap[w1.heap.size]? =some (.cells zC br (0,0)):=aI w1 _;clear_value w2;have C7:=k2.heap Mc (fun h=>h);have jS:=k1.tt k2;have s1:=k1.size;have l1:=aV Mc;have l2:=aV jP;clear_value w1;have h2:=h.same jS;obtain⟨A0,c0,B0,e0,sl,g1,g2,g3,g4,g5⟩:=h2.X.ex;refine Is.mk rfl ⟨_,h2.c1,Is.mk rfl ⟨#[.slice A0 G.D.length c0],⟨rfl,fun j u hj=>?_⟩,?_⟩⟩
 ·cases j with
  |zero=>simp at hj;subst hj;rw [add_zero,add_zero,aD g1];rfl
  |succ j=>simp at hj
 intro w3;have k3:Kept Nil w2 w3:=(Kept.refl _ _).alloc _;have V7:w3.heap[w2.heap.size]? =some (.cells #[.slice none 0 0] iE (0,0)):=aI w2 _;clear_value w3;obtain⟨t1,t2,t3⟩:=dR V7 (cs:= #[.slice A0 G.D.length c0]) rfl;refine⟨⟨rfl,fun u hu=>by simp at hu;subst hu;rfl,fun j hj=>t1 j hj⟩,?_⟩;intro w4
 replace t2:w4.heap[w2.heap.size]? =some (.cells #[.slice A0 G.D.length c0] iE (0,0)):=t2
 replace t3:Kept (· =w2.heap.size) w3 w4:=t3
 clear_value w4;have p9:Kept Nil w2 w4:=k3.trans t3 (fun j hj e=>by omega);have mE:=jS.tt p9;have s2:=jS.size;refine⟨id.1,⟨id.2.1,Cells.bJ (p9.heap C7 (fun h=>h))⟩,?_⟩;have hIR:uM w4 F w2.heap.size G.D:=⟨⟨A0,c0,_,_,t2,rfl,g2.same p9⟩,fun e=>by have:=h.lo _ e;omega⟩;refine D6 hIR W0 (by omega) (hl.same mE) (by omega) fun w5 _ k5=>⟨_,rfl,?_⟩;have Ek:Kept Nil w2 w5:=p9.trans k5 (fun j hj e=>by omega);have qM:=jS.tt Ek;have uE:=Ek.heap jP (fun h=>h);have Mb:=Ek.heap C7 (fun h=>h);by_cases hc:dF G.D id l≠0
 ·obtain⟨f1,f2,f3⟩:=dR uE (cs:=zC) rfl
  refine Split.yes (by simpa using hc) ⟨⟨rfl,by show ∀u∈(MF:Array Value).toList,_;exact dZ _ _ _ _ _ _ _,fun j hj=>f1 j hj⟩,?_⟩;exact⟨_,⟨rfl,Cells.bJ f2⟩,hE hc _ (qM.trans f3 (fun j hj e=>by omega))⟩
 have hc:dF G.D id l=0:=by omega
 refine Split.no (by rw [hc];rfl) ?_;obtain⟨_,fD,_,dm⟩:=km hc;have fQ:∀z∈l,z∈ids G.D:=fun z hz=>dm z (dt.2 hz);refine uA (h.same qM) (by omega) (hl.same qM) fD (by omega) fQ fun w6 k6=>⟨_,rfl,?_⟩;have AZ:=Ek.tt k6;have o8:=jS.tt AZ;generalize mP:bU G l=s;have BY:s∈l:=by rw [<-mP];exact gK fD
 intro w7;have k7:Kept Nil w6 w7:=(Kept.refl _ _).alloc _;have hb7:w7.heap[w6.heap.size]? =some (.cells dz.1 ag (0,0)):=aI w6 _;clear_value w7;obtain⟨q1,q2,q3⟩:=jy s hb7 rfl;refine⟨q1,?_⟩;intro w8
 replace q2:w8.heap[w6.heap.size]? =some (.cells s.1 ag (0,0)):=q2
 replace q3:Kept (· =w6.heap.size) w7 w8:=q3
 clear_value w8;have Io:Kept Nil w6 w8:=k7.trans q3 (fun j hj e=>by omega);have Iw:=AZ.tt Io;have uS:=jS.tt Iw;have s06:=o8.size;have s08:=uS.size;have s28:=Iw.size;refine⟨s.1,⟨s.2.1,Cells.bJ q2⟩,?_⟩;refine wX (h.same uS) hD rP (fQ s BY) (hl.same uS) hn fQ fun w9 Am nm cm E e ce Wd nw cw rm rb rw9 k9=>⟨_,Wd,nw,cw,rfl,?_⟩;have Lz:=Iw.tt k9;have BW:=jS.tt Lz;have s09:=BW.size;have s89:=k9.size;intro w10;have mD:Kept Nil w9 w10:=(Kept.refl _ _).alloc _;have acF:w10.heap[w9.heap.size]? =some (.cells zC br (0,0)):=aI w9 _;clear_value w10;obtain⟨f1,f2,f3⟩:=dR acF (cs:=cQ (cX k G s l) Am nm cm E e ce) (by rw [a8];rfl);refine⟨⟨a8 ..,dZ _ _ _ _ _ _ _,fun j hj=>f1 j (by rw [a8];exact hj)⟩,?_⟩;intro qU lY
 replace f2:qU.heap[w9.heap.size]? =some (.cells (cQ (cX k G s l) Am nm cm E e ce) br (0,0)):=f2
 replace f3:Kept (· =w9.heap.size) w10 qU:=f3
 have xg:Kept Nil qU lY:=(Kept.refl _ _).drew;clear_value lY;have Wt:=xg.heap f2 (fun h=>h);have Pu:Kept Nil w9 lY:=(mD.trans f3 (fun j hj e=>by omega)).tt xg;clear_value qU;have PH:=Lz.tt Pu;have tq:=jS.tt PH;have ahy:=tq.size;have ahX:=aV Wt;have EK:=h.same tq;refine Is.mk rfl ⟨_,EK.c1,id.1,⟨id.2.1,Cells.bJ (PH.heap C7 (fun h=>h))⟩,s.1,⟨s.2.1,Cells.bJ ((k9.tt Pu).heap q2 (fun h=>h))⟩,?_⟩;refine FG EK.X EK.lo (by omega) (hl.same tq) (by omega) fun nn WY ui=>⟨_,rfl,?_⟩;have eX:ox G.D id s l=(dh k G id l).D/\ow G.D G.P id s l=(dh k G id l).P:=by rw [<-mP];exact⟨Kb.symm,Kc.symm⟩
 rw [eX.1,eX.2]at WY;intro iQ;have Ks:Kept Nil nn iQ:=(Kept.refl _ _).drew;clear_value iQ;have A9:Kept (· =x) lY iQ:=ui.trans Ks (fun _ _ h=>h.elim);have Ep:Kept (· =x) w iQ:=(tq.mono fun _ _ h=>h.elim).tt A9;have aeA:=A9.size;have Bd:=jZ (k:=k) (G:=G) (h:=id) (ps:=l) hc;rw [mP]at Bd;obtain⟨A1,c1,B1,e1,p1,p2,p3⟩:=h.top;have Pd:=Ep.heap p1 h.ne;have Pc:qT iQ F A1 G.D.length G.qS:=p2.aF Ep (fun j hj e=>h.X.iC (by rw [<-e];exact hj));have ZL:qo iQ F B1 G.D.length G.kZ:=p3.aF Ep (fun j hj e=>h.X.iC (by rw [<-e];exact hj));have jK:=W0.pos;obtain⟨⟨a1,uV⟩,ND⟩:=(⟨Pc.Ac.1 jK,Pc.Ac.2⟩:(∃a,A1=some a)/\_);subst uV;have Q0:=A9.heap Wt (by omega);have aa8:=A9.heap (PH.heap jP (fun h=>h)) (by omega);have bm:∀j,bn Am=some j->w8.heap.size<=j/\j<w9.heap.size:=fun j hj=>by obtain⟨z1,cur,z2⟩:=Row.bJ rm hj;exact⟨z1,aV z2⟩
 have bb:∀j,bn E=some j->w8.heap.size<=j/\j<w9.heap.size:=fun j hj=>by obtain⟨z1,cur,z2⟩:=Row.bJ rb hj;exact⟨z1,aV z2⟩
 have bw:∀j,bn Wd=some j->w8.heap.size<=j/\j<w9.heap.size:=fun j hj=>by obtain⟨z1,cur,z2⟩:=Row.bJ rw9 hj;exact⟨z1,aV z2⟩
 have Lp:Kept (· =x) w9 iQ:=(Pu.mono fun _ _ h=>h.elim).tt A9;have ahf:=Lp.size;have Tu:HS iQ Am nm (cX k G s l).merge:=(bM.hs rm).aF Lp (fun a ha e=>by have:=bm a.block (by rw [ha];rfl);omega);have XA:Bo iQ E e (cX k G s l).fL:=(Row.bo rb).aF Lp (fun a ha e=>by have:=bb a.block (by rw [ha];rfl);omega);have Zn:HS iQ Wd nw (dP k G s l).wd:=(bM.hs rw9).aF Lp (fun a ha e=>by have:=bw a.block (by rw [ha];rfl);omega);have bF:∀ {A:Option Addr} {b:Addr},(∀j,bn A=some j->w8.heap.size<=j/\j<w9.heap.size)->A=some b->w.heap.size<=b.block/\b.block<iQ.heap.size:=fun hA hb=>by
  have:=hA _ (by rw [hb];rfl);omega
 rw [mP]at hO;have tail:∀ {u:World} {Aa:Option Addr} {ca:Nat} {news:List Value},Row u iQ.heap.size br 35 Aa (G.D.length+1) ca (news++(cQ (cX k G s l) Am nm cm E e ce).toList)->news.length=G.D.length*35->(∀i,i<G.D.length->∃arr:Array Value,Ki iQ F G.qS i arr/\arr.size=35/\∀(j:Nat) v,arr[j]? =some v->news[i*35+j]? =some v)->Kept Nil iQ u->
  Wr u ((⟨r,0,none⟩:Addr).add 2)/\let a3:=u.setCell ((⟨r,0,none⟩:Addr).add 2) (.slice Aa (G.D.length+1) ca);Is (some (⟨r,0,none⟩:Addr)) fun b3:Addr=>∃c3:Option Addr,∃d3 e3:Nat,a3.cell? (b3.add 3)=some (.slice c3 d3 e3)/\∃(f3:Option Addr) (g3 i3:Nat) (j3:World),(Builtin.append_ #[fU,fU] fU #[.slice none 0 0,.slice c3 d3 e3]).run prog a3=.ok (.slice f3 g3 i3) j3/\let k3:=j3.alloc (.cells #[.slice Wd nw cw] ay);∃(m3:Option Addr) (n3 o3:Nat) (p3:World),(Builtin.append_ #[fU,fU] fU #[.slice f3 g3 i3,.slice (some (aR j3.heap.size)) 1 1]).run prog k3=.ok (.slice m3 n3 o3) p3/\Is (some (⟨r,0,none⟩:Addr)) fun q3:Addr=>Wr p3 (q3.add 3)/\let r3:=p3.setCell (q3.add 3) (.slice m3 n3 o3);∃t3:Array Value,(t3.size=35/\Cells r3 (aR w9.heap.size) t3)/\(t3.size=35/\(∀u3∈t3.toList,u3.oneCell'=true)/\∀v3,v3<35->Wr r3 ((aR w1.heap.size).add v3))/\let x3:=setCells r3 (aR w1.heap.size) t3.toList 0;∃y3:Array Value,(y3.size=35/\Cells x3 (aR w1.heap.size) y3)/\K (.tuple #[.agg y3,.int .i64 0]) x3:=by
  intro u Aa ca news row zD wh ku;have pu:=ku.heap Pd (fun h=>h);have su:=ku.size;refine⟨by rw [bt];exact dS pu (by simp),?_⟩;intro u1;have pu1:u1.heap[r]? =some (.cells #[.int .i64 (k:Int),.pointer (some ⟨x,0,none⟩),.slice Aa (G.D.length+1) ca,.slice B1 G.D.length e1] gY (0,0)):=by
   show(u.setCell ((⟨r,0,none⟩:Addr).add 2) (.slice Aa (G.D.length+1) ca)).heap[r]? =_;rw [bt,di pu];rfl
  have Ga:Kept (· =r) u u1:=by
   show Kept (· =r) u (u.setCell ((⟨r,0,none⟩:Addr).add 2) (.slice Aa (G.D.length+1) ca))
   rw [bt];exact Kept.setCell (S:=(· =r)) (Kept.refl _ u) (p:=⟨r,0+2,none⟩) (fun _=>rfl) _
  clear_value u1;have IE:Kept (· =r) iQ u1:=(ku.mono fun _ _ h=>h.elim).tt Ga;have pw1:qo u1 F B1 G.D.length G.kZ:=ZL.aF IE (fun j hj e=>h.iC (by rw [<-e];exact hj));obtain⟨⟨b1,zc⟩,UB⟩:=(⟨pw1.Ac.1 jK,pw1.Ac.2⟩:(∃a,B1=some a)/\_);subst zc;obtain⟨Aw,c2,u2,nws,LM,gm,CG,hcw⟩:=zp (w:=u1) SY (by omega) (by omega) (cx:=e1) (RB u1 F G.kZ) (UB b1 rfl);refine Is.mk rfl ⟨some b1,G.D.length,e1,by rw [bt,aD pu1];rfl,Aw,_,c2,u2,LM,?_⟩;intro u3;have AY:Kept Nil u2 u3:=(Kept.refl _ _).alloc _;have CO:u3.heap[u2.heap.size]? =some (.cells #[.slice Wd nw cw] ay (0,0)):=aI u2 _;clear_value u3;have su1:=Ga.size;have su2:=CG.size;have Zw:=AY.size;obtain⟨XX,c3,u4,uU,iU,ED⟩:=zo SY (by omega) (by omega) (Row.aF gm AY (fun _ _ h=>h)) (by omega) CO rfl (fun v hv=>by simp at hv;subst hv;rfl);have LB:Kept Nil u1 u4:=Kept.eQ (CG.tt AY) ED (fun j hj=>(Row.bJ gm hj).1);have pu4:=LB.heap pu1 (fun h=>h);refine⟨XX,_,c3,u4,uU,Is.mk rfl ⟨by rw [bt];exact dS pu4 (by simp),?_⟩⟩;intro u5;have pu5:u5.heap[r]? =some (.cells #[.int .i64 (k:Int),.pointer (some ⟨x,0,none⟩),.slice Aa (G.D.length+1) ca,.slice XX (G.D.length+1) c3] gY (0,0)):=by
   show(u4.setCell ((⟨r,0,none⟩:Addr).add 3) (.slice XX (G.D.length+1) c3)).heap[r]? =_;rw [bt,di pu4];rfl
  have F9:Kept (· =r) u4 u5:=by
   show Kept (· =r) u4 (u4.setCell ((⟨r,0,none⟩:Addr).add 3) (.slice XX (G.D.length+1) c3))
   rw [bt];exact Kept.setCell (S:=(· =r)) (Kept.refl _ u4) (p:=⟨r,0+3,none⟩) (fun _=>rfl) _
  clear_value u5;have TR:Kept (· =r) u1 u5:=(LB.mono fun _ _ h=>h.elim).tt F9;have Nj:Kept (· =r) iQ u5:=IE.tt TR;have hc5:=Nj.heap Q0 (by omega);have uE:=Nj.heap aa8 (by omega);obtain⟨z1,z2,z3⟩:=dR uE (cs:=cQ (cX k G s l) Am nm cm E e ce) (by rw [a8];rfl);refine⟨_,⟨a8 ..,Cells.bJ hc5⟩,⟨a8 ..,dZ _ _ _ _ _ _ _,fun j hj=>z1 j (by rw [a8];exact hj)⟩,?_⟩;intro u6
  replace z2:u6.heap[w1.heap.size]? =some (.cells (cQ (cX k G s l) Am nm cm E e ce) br (0,0)):=z2
  replace z3:Kept (· =w1.heap.size) u5 u6:=z3
  clear_value u6;refine⟨_,⟨a8 ..,Cells.bJ z2⟩,?_⟩;have kwr:∀j,j=r\/j=w1.heap.size->¬iQ.heap.size<=j:=fun j hj e=>by rcases hj with hj|hj<;>omega
  have Ya:Kept (fun j=>j=r\/j=w1.heap.size) u u6:=((Ga.mono fun _ _ h=>.inl h).trans TR (fun _ _ h=>.inl h)).trans z3 (fun _ _ h=>.inr h);have Em:Kept (fun j=>j=r\/j=w1.heap.size) iQ u6:=(ku.mono fun _ _ h=>h.elim).tt Ya;have su6:=Em.size;have s46:u4.heap.size<=u6.heap.size:=by have:=F9.size;have:=z3.size;omega
  have s26:u.heap.size<=u6.heap.size:=Ya.size;have Le:∀j,F j->j<w.heap.size:=h.lo
  let F2:Nat->Prop:=fun j=>F j\/(w8.heap.size<=j/\j<w9.heap.size)\/(iQ.heap.size<=j/\j<u6.heap.size)
  have Ri:∀j,F2 j->¬(j=r\/j=w1.heap.size):=fun j hj e=>by
   rcases hj with hj|hj|hj
   ·have:=Le j hj
    rcases e with e|e
    ·exact h.iC (by rw [<-e];exact hj)
    ·omega
   ·omega
   ·omega
  have Xf:∀j,F2 j->F j\/(w.heap.size<=j/\j<u6.heap.size):=fun j hj=>by
   rcases hj with hj|hj|hj
   ·exact .inl hj
   ·exact .inr ⟨by omega,by omega⟩
   ·exact .inr ⟨by omega,hj.2⟩
  refine hO hc u6 Am nm cm E e ce ⟨⟨Aa,ca,XX,c3,?_,?_,?_⟩,?_,fun hj=>?_,h.ne,h.fk.add id l,fun j hj=>?_⟩ ?_ (Tu.aF Em (fun a ha e=>by have:=bm a.block (by rw [ha];rfl);rcases e with e|e<;>omega)) (XA.aF Em (fun a ha e=>by have:=bb a.block (by rw [ha];rfl);rcases e with e|e<;>omega)) (fun a ha=>ha.elim (fun ha=>(bF bm ha).1) (fun ha=>(bF bb ha).1))
  ·rw [Bd]
   simp only [List.length_append,List.length_singleton];exact z3.heap pu5 (by omega)
  ·rw [Bd]
   simp only [List.length_append,List.length_singleton];refine qT.mono (F:=F2) (qT.aF (S:=fun j=>j=r\/j=w1.heap.size) (w:=u) (qT.snoc row zD p2.len ku (fun j hj=>?_) (fun j hj=>.inl hj) wh (Tu.same ku) (XA.same ku) (fun b hb=>.inr (.inl ?_)) (fun b hb=>.inr (.inl ?_))) Ya Ri) Xf
   ·obtain⟨y1,cur,y2⟩:=Row.bJ row hj
    have:=aV y2;exact .inr (.inr ⟨y1,by omega⟩)
   ·exact bm b.block (by rw [hb];rfl)
   ·exact bb b.block (by rw [hb];rfl)
  ·rw [Bd]
   simp only [List.length_append,List.length_singleton];have uB:Kept (fun j=>j=r\/j=w1.heap.size) u4 u6:=(F9.mono fun _ _ h=>.inl h).trans z3 (fun _ _ h=>.inr h);refine qo.mono (F:=F2) (qo.aF (S:=fun j=>j=r\/j=w1.heap.size) (w:=u4) (qo.snoc iU (Row.len gm) p3.len LB (fun j hj=>?_) (fun j hj=>.inl hj) hcw (Zn.aF (IE.trans LB (fun _ _ h=>h.elim)) (fun a ha e=>by have:=bw a.block (by rw [ha];rfl);omega)) (fun b hb=>.inr (.inl ?_))) uB Ri) Xf
   ·obtain⟨y1,cur,y2⟩:=Row.bJ iU hj
    have:=aV y2;exact .inr (.inr ⟨by omega,by omega⟩)
   ·exact bw b.block (by rw [hb];rfl)
  ·refine((WY.aF (Ks.tt ku) (fun h=>h) (fun _ _ h=>h)).aF Ya (fun e=>?_) (fun j hj e=>?_)).mono (fun j hj=>?_) (fun e=>?_)
   ·rcases e with e|e
    ·exact h.ne e.symm
    ·omega
   ·rcases hj with hj|hj
    ·have:=Le j hj
     rcases e with e|e
     ·exact h.iC (by rw [<-e];exact hj)
     ·omega
    ·omega
   ·rcases hj with hj|hj
    ·exact .inl hj
    ·have:=ui.size
     have:=Ks.size;exact .inr ⟨by omega,by omega⟩
   ·rcases e with e|e
    ·exact h.X.iC e
    ·omega
  ·rcases hj with hj|hj
   ·exact h.iC hj
   ·omega
  ·rcases hj with hj|hj
   ·have:=Le j hj
    omega
   ·exact hj.2
  ·exact(Ep.mono fun _ _ h=>.inr h).trans Em (fun j hj e=>by
    rcases e with e|e
    ·exact .inl e
    ·omega)
 have Gr:(cQ (cX k G s l) Am nm cm E e ce).toList++ []=(cQ (cX k G s l) Am nm cm E e ce).toList:=List.append_nil _;refine Is.mk rfl ⟨some a1,G.D.length,c1,by rw [bt,aD Pd];rfl,_,⟨a8 ..,Cells.bJ Q0⟩,?_,?_⟩
 ·obtain⟨Aa,c2,u2,news,R7,gm,CG,wh⟩:=zp (w:=iQ) DW (by omega) (by omega) (cx:=c1) (Ki iQ F G.qS) (ND a1 rfl)
  refine⟨Aa,_,c2,u2,R7,⟨_,rfl,a8 ..,Cells.bJ (CG.heap Q0 (fun h=>h))⟩,a8 ..,?_⟩;intro u3;have AY:Kept Nil u2 u3:=(Kept.refl _ _).alloc _;have CO:u3.heap[u2.heap.size]? =some (.cells (cQ (cX k G s l) Am nm cm E e ce) br (0,0)):=by
   have:=aI u2 (.cells (cQ (cX k G s l) Am nm cm E e ce) br);show(u2.alloc (.cells ((cQ (cX k G s l) Am nm cm E e ce).toList++ []).toArray br)).heap[u2.heap.size]? =_;rw [Gr,Array.toArray_toList];exact this
  clear_value u3;have su2:=CG.size;have Zw:=AY.size;obtain⟨Ab,c3,u4,uU,iU,ED⟩:=zo DW (by omega) (by omega) (Row.aF gm AY (fun _ _ h=>h)) (by omega) CO (a8 ..) (dZ _ _ _ _ _ _ _);have ku:Kept Nil iQ u4:=Kept.eQ (CG.tt AY) ED (fun j hj=>(Row.bJ gm hj).1);refine⟨Ab,_,c3,u4,uU,Is.mk rfl ?_⟩;exact tail iU (Row.len gm) wh ku
 ·refine⟨a8 ..,?_⟩
  intro u3;have AY:Kept Nil iQ u3:=(Kept.refl _ _).alloc _;have CO:u3.heap[iQ.heap.size]? =some (.cells (cQ (cX k G s l) Am nm cm E e ce) br (0,0)):=by
   have:=aI iQ (.cells (cQ (cX k G s l) Am nm cm E e ce) br);show(iQ.alloc (.cells ((cQ (cX k G s l) Am nm cm E e ce).toList++ []).toArray br)).heap[iQ.heap.size]? =_;rw [Gr,Array.toArray_toList];exact this
  clear_value u3;have Zw:=AY.size;refine⟨by rw [bt,aD (AY.heap Pd (fun h=>h))];rfl,?_⟩;have p23:=Pc.aF AY (fun _ _ h=>h);obtain⟨Aa,c2,u2,news,R7,gm,CG,wh⟩:=zp (w:=u3) (n:=G.D.length) (a:=a1) DW (by omega) (by omega) (cx:=c1) (Ki iQ F G.qS) (fun i hi=>by
   obtain⟨arr,y1,y2,y3,y4⟩:=ND a1 rfl i hi;exact⟨arr,y1,y2,Cells.aF y3 AY (fun h=>h),y4⟩)
  have su2:=CG.size;have Nv:=CG.heap CO (fun h=>h);obtain⟨Ab,c3,u4,uU,iU,ED⟩:=zo DW (by omega) (by omega) (Row.base gm (B':=iQ.heap.size) (fun j hj=>by have:=(Row.bJ gm hj).1;omega)) (by omega) Nv (a8 ..) (dZ _ _ _ _ _ _ _);have ku:Kept Nil iQ u4:=Kept.eQ (AY.tt CG) ED (fun j hj=>by have:=(Row.bJ gm hj).1;omega);refine⟨Aa,_,c2,u2,R7,Ab,_,c3,u4,uU,Is.mk rfl ?_⟩;exact tail iU (Row.len gm) wh ku
end
end Go.Proofs.YtfleamccglihoaaGreatDoor
