import Derived.Test.YtnboahlopghcjaaGreatDoorMT
import Derived.Test.YtnboahlopghcjaaGreatDoorMN
open Go.IntKind (i64 u64)
set_option linter.unusedVariables false
namespace Go.Proofs.YtnboahlopghcjaaGreatDoor
open Go.Proofs.Tryz
open Go Go.bU Go.RowKit
structure qu(w:World)(F:Nat->Prop)(A:Option Addr)(n:Nat)(l:List nZ):Prop where
 len:l.length=n
 at_:∀(i:Nat) x,l[i]? =some x->∃a A1 n1 c1 B1 m1 d1,A=some a/\a.block<w.heap.size/\F a.block/\Cells w (a.add (i*35)) (cF x A1 n1 c1 B1 m1 d1)/\HS w A1 n1 x.merge/\Bo w B1 m1 x.dg/\(∀b,A1=some b->F b.block)/\(∀b,B1=some b->F b.block)
structure o8(w:World)(F:Nat->Prop)(A:Option Addr)(n:Nat)(l:List (List HT)):Prop where
 len:l.length=n
 at_:∀(i:Nat) x,l[i]? =some x->∃a A1 n1 c1,A=some a/\a.block<w.heap.size/\F a.block/\w.cell? (a.add (i*1))=some (.slice A1 n1 c1)/\HS w A1 n1 x/\(∀b,A1=some b->F b.block)
section
variable{w w':World}{F F' S:Nat->Prop}{A:Option Addr}{n:Nat}
theorem qu.aC{l:List nZ}(h:qu w F A n l)(hk:Kept S w w')(hn:∀j,F j->¬S j):qu w' F A n l:=⟨h.len,fun i x hi=>by
 obtain⟨a,A1,n1,c1,B1,m1,d1,g1,g2,g3,g4,g5,g6,g7,g8⟩:=h.at_ i x hi;exact⟨a,A1,n1,c1,B1,m1,d1,g1,Nat.lt_of_lt_of_le g2 hk.size,g3,Cells.aC g4 hk (by rw [eJ];exact hn _ g3),g5.aC hk (fun b hb=>hn _ (g7 b hb)),g6.aC hk (fun b hb=>hn _ (g8 b hb)),g7,g8⟩⟩
theorem qu.mono{l:List nZ}(h:qu w F A n l)(hf:∀j,F j->F' j):qu w F' A n l:=⟨h.len,fun i x hi=>by
 obtain⟨a,A1,n1,c1,B1,m1,d1,g1,g2,g3,g4,g5,g6,g7,g8⟩:=h.at_ i x hi;exact⟨a,A1,n1,c1,B1,m1,d1,g1,g2,hf _ g3,g4,g5,g6,fun b hb=>hf _ (g7 b hb),fun b hb=>hf _ (g8 b hb)⟩⟩
theorem o8.aC{l:List (List HT)}(h:o8 w F A n l)(hk:Kept S w w')(hn:∀j,F j->¬S j):o8 w' F A n l:=⟨h.len,fun i x hi=>by
 obtain⟨a,A1,n1,c1,g1,g2,g3,g4,g5,g6⟩:=h.at_ i x hi;exact⟨a,A1,n1,c1,g1,Nat.lt_of_lt_of_le g2 hk.size,g3,hk.cell g4 (by rw [eJ];exact hn _ g3),g5.aC hk (fun b hb=>hn _ (g6 b hb)),g6⟩⟩
theorem o8.mono{l:List (List HT)}(h:o8 w F A n l)(hf:∀j,F j->F' j):o8 w F' A n l:=⟨h.len,fun i x hi=>by
 obtain⟨a,A1,n1,c1,g1,g2,g3,g4,g5,g6⟩:=h.at_ i x hi;exact⟨a,A1,n1,c1,g1,g2,hf _ g3,g4,g5,fun b hb=>hf _ (g6 b hb)⟩⟩
end
structure R3(w:World)(F:Nat->Prop)(r x k:Nat)(G:GS):Prop where
 top:∃A c B e,w.heap[r]? =some (.cells #[.int .i64 (k:Int),.pointer (some ⟨x,0,none⟩),.slice A G.D.length c,.slice B G.D.length e] gh (0,0))/\qu w F A G.D.length G.pK/\o8 w F B G.D.length G.ja
 X:o9 w F x G.D G.P
 gR:¬F r
 ne:r≠x
 eo:ga k G
 lo:∀j,F j->j<w.heap.size
section
variable{w w':World}{F F' S:Nat->Prop}{r x k:Nat}{G:GS}{K:Value->World->Prop}
theorem R3.aC(h:R3 w F r x k G)(hk:Kept S w w')(hr:¬S r)(hx:¬S x)(hF:∀j,F j->¬S j):R3 w' F r x k G:=by
 obtain⟨A,c,B,e,g1,g2,g3⟩:=h.top;exact⟨⟨A,c,B,e,hk.heap g1 hr,g2.aC hk hF,g3.aC hk hF⟩,h.X.aC hk hx hF,h.gR,h.ne,h.eo,fun j e=>Nat.lt_of_lt_of_le (h.lo j e) hk.size⟩
theorem R3.same(h:R3 w F r x k G)(hk:Kept Nil w w'):R3 w' F r x k G:=h.aC hk (fun h=>h) (fun h=>h) (fun _ _ h=>h)
theorem R3.lt(h:R3 w F r x k G):r<w.heap.size:=by obtain⟨_,_,_,_,g,_⟩:=h.top;exact aQ g
theorem R3.lx(h:R3 w F r x k G):x<w.heap.size:=h.X.lt
theorem R3.c0(h:R3 w F r x k G):w.cell? ((⟨r,0,none⟩:Addr).add 0)=some (.int .i64 (k:Int)):=by obtain⟨_,_,_,_,g,_⟩:=h.top;rw [a8,ay g];rfl
theorem R3.c1(h:R3 w F r x k G):w.cell? ((⟨r,0,none⟩:Addr).add 1)=some (.pointer (some ⟨x,0,none⟩)):=by obtain⟨_,_,_,_,g,_⟩:=h.top;rw [a8,ay g];rfl
theorem Ms(h:ga k G){y:HT}(hy:y∈ids G.D):∃(i:Nat) (nd:DN) (c:nZ) (l:List HT),G.D[i]? =some nd/\nd.id=y/\G.pK[i]? =some c/\G.ja[i]? =some l/\Fy G.D y=(i:Int)/\G.eK y=c/\G.world y=l/\i<G.D.length:=by
 obtain⟨nd,eQ,rfl⟩:=dt.1 hy;obtain⟨i,hi⟩:=List.mem_iff_getElem?.1 eQ;have dQ:=(lgeS hi).1;obtain⟨c,hc⟩:∃c,G.pK[i]? =some c:=⟨_,List.getElem?_eq_getElem (by rw [h.lc];exact dQ)⟩;obtain⟨l,hl⟩:∃l,G.ja[i]? =some l:=⟨_,List.getElem?_eq_getElem (by rw [h.lw];exact dQ)⟩;exact⟨i,nd,c,l,hi,rfl,hc,hl,PA h.W hi,GS.HX h.W hi hc,GS.x9 h.W hi hl,dQ⟩
theorem jJ(h:R3 w F r x k G)(hD:G.D.length<=5000){a:HT}(ha:a∈ids G.D)(hK:∀w',Kept Nil w w'->K (.int .u64 (G.score a:Int)) w'):
 bk prog dv.id #[.pointer (some ⟨r,0,none⟩),.agg a.1] w K:=by
 refine dv.of ?_;unfold dv.W;intro w4 w5;have k4:Kept Nil w w4:=(Kept.refl _ _).alloc _;have xv:w4.heap[w.heap.size]? =some (.cells a.1 aj (0,0)):=aJ w _;have k5:Kept Nil w4 w5:=(Kept.refl _ _).drew;clear_value w5;have Bw:=k5.heap xv (fun h=>h);have pG:=k4.tt k5;have h5:=h.same pG;obtain⟨A,c,B,e,g1,g2,g3⟩:=h5.top;refine Is.mk rfl ⟨A,_,c,by rw [a8,ay g1];rfl,Is.mk rfl ⟨_,h5.c1,Is.mk rfl ⟨a.1,⟨a.2.1,Cells.bC Bw⟩,?_⟩⟩⟩;rw [add_zero];refine oB h5.X.gr (by omega) a fun w6 k6=>⟨_,rfl,?_⟩;have g16:=k6.heap g1 (fun h=>h);obtain⟨i,nd,cl,l,q1,q2,q3,q4,q5,q6,q7,q8⟩:=Ms h.eo ha;rw [q5];obtain⟨aa,A1,n1,c1,B1,m1,d1,p1,p2,p3,p4,_⟩:=(g2.aC k6 (fun _ _ h=>h)).at_ i cl q3;subst p1;refine⟨by rw [a8,ay g16];rfl,⟨by omega,by omega⟩,Is.mk rfl ⟨((G.score a:Nat):Int),?_,?_⟩⟩
 ·have:=dJ cl A1 n1 c1 B1 m1 d1 #[]
  rw [Array.append_empty]at this;have C6:=p4 32 _ this.1;rw [Int.toNat_natCast,C6];unfold GS.score;rw [q6]
 ·exact hK w6 (pG.tt k6)
theorem yq(h:ga k G){a:HT}(ha:a∈ids G.D):G.score a<=G.D.length:=by
 rw [(h.wd a ha).2.2];exact pe h ha
theorem pN(h:R3 w F r x k G)(hD:G.D.length<=5000){a b:HT}(ha:a∈ids G.D)(hb:b∈ids G.D)(hK:∀w',Kept Nil w w'->K (.bool (gl G a b)) w'):
 bk prog dG.id #[.pointer (some ⟨r,0,none⟩),.agg a.1,.agg b.1] w K:=by
 refine dG.of ?_;unfold dG.W;intro w4 w5 w6;have k4:Kept Nil w w4:=(Kept.refl _ _).alloc _;have xv:w4.heap[w.heap.size]? =some (.cells a.1 aj (0,0)):=aJ w _;have k5:Kept Nil w4 w5:=(Kept.refl _ _).alloc _;have nz:w5.heap[w4.heap.size]? =some (.cells b.1 aj (0,0)):=aJ w4 _;have k6:Kept Nil w5 w6:=(Kept.refl _ _).drew;clear_value w6;have tq:=k6.heap (k5.heap xv (fun h=>h)) (fun h=>h);have nM:=k6.heap nz (fun h=>h);have mM:=(k4.tt k5).tt k6;refine⟨a.1,⟨a.2.1,Cells.bC tq⟩,b.1,⟨b.2.1,Cells.bC nM⟩,?_⟩;refine jJ (h.same mM) hD ha fun w7 k7=>⟨_,rfl,⟨_,rfl,b.2.1,Cells.bC (k7.heap nM (fun h=>h))⟩,?_⟩;have vt:=mM.tt k7;refine jJ (h.same vt) hD hb fun w8 k8=>⟨_,rfl,?_⟩;have vr:=vt.tt k8;have Jw:=k7.tt k8;by_cases he:G.score a=G.score b
 ·refine Split.no (by rw [he];simp) ⟨a.1,⟨a.2.1,Cells.bC (Jw.heap tq (fun h=>h))⟩,b.1,⟨b.2.1,Cells.bC (Jw.heap nM (fun h=>h))⟩,?_⟩
  refine sq a b fun w9 k9=>⟨_,rfl,?_⟩;have e:decide (kI a b<0)=gl G a b:=by
   rw [Bool.eq_iff_iff,decide_eq_true_eq,qU];unfold gl;rw [decide_eq_false (by omega),decide_eq_true he];simp
  rw [e];exact hK w9 (vr.tt k9)
 ·refine Split.yes (by simp only [bne_iff_ne,ne_eq];omega) ?_
  have e:decide ((G.score a:Int)<(G.score b:Int))=gl G a b:=by
   unfold gl;rw [decide_eq_false he];simp
  rw [e];exact hK w8 vr
theorem I7(h:R3 w F r x k G)(hD:G.D.length<=5000){A:Option Addr}{n cx:Nat}{l:List HT}(hl:HS w A n l)(hn:n<=400000)(hK:∀w',Kept Nil w w'->K (.int .i64 (mK G.D l)) w'):
 bk prog bj.id #[.pointer (some ⟨r,0,none⟩),.slice A n cx] w K:=by
 have hlen:=hl.len;refine bj.of ?_;unfold bj.W;by_cases h0:n=0
 ·subst h0
  have e:l= []:=List.eq_nil_of_length_eq_zero hlen;refine Split.yes rfl ?_;have:=hK w (Kept.refl _ _);unfold mK at this;rw [if_pos e]at this;exact this
 have fC:l≠ []:=fun e=>by subst e;exact h0 hlen.symm
 refine Split.no (by simpa using (by omega:¬(n:Int)=0)) ?_;refine bj.cf (I:=fun s v=>∃i:Nat,s=(0,(i:Int))/\i<=n/\(∀p∈l.take i,p∈ids G.D)/\Kept Nil w v) (μ:=fun s _=>((n:Int)-s.2).toNat) (s:=(0,0)) ⟨0,rfl,Nat.zero_le _,by simp,Kept.refl _ _⟩ ?_;rintro s v ⟨i,rfl,hi,cY,kv⟩;unfold bj.B1;refine Split.dec (fun cH=>?_) (fun fV=>?_)
 ·simp only at cH
  have dQ:i<n:=by omega
  obtain⟨y,hy⟩:∃y,l[i]? =some y:=⟨_,List.getElem?_eq_getElem (by omega)⟩;intro w3;have k3:Kept Nil v w3:=(Kept.refl _ _).drew;clear_value w3;have oO:=kv.tt k3;have h3:=h.same oO;refine Is.mk rfl ⟨_,h3.c1,Is.mk rfl ((hl.same oO).load (i:=(i:Int)) (by omega) hy ?_)⟩;rw [add_zero];refine oB h3.X.gr (by omega) y fun w4 k4=>⟨_,rfl,?_⟩;have oe:=oO.tt k4;refine Split.dec (fun zi=>?_) (fun iX=>?_)
  ·rw [ij]
   have:=hK w4 oe;unfold mK at this;rw [if_neg fC,if_pos ⟨y,List.mem_of_getElem? hy,qY.1 zi⟩]at this;exact this
  ·simp only
   rw [dq (n:=(i:Int)) (by omega) (by omega)];refine⟨(0,(i:Int)+1),rfl,⟨i+1,rfl,dQ,fun p hp=>?_,oe⟩,by simp only;omega⟩;rcases(bG hy).1 hp with hp|rfl
   ·exact cY p hp
   ·exact Classical.byContradiction fun e=>iX (qY.2 e)
 ·simp only at fV
  rw [aP,bj.dh];rw [List.take_of_length_le (by omega)]at cY;have:=hK v kv;unfold mK at this;rw [if_neg fC,if_neg (fun⟨p,hp,hn⟩=>hn (cY p hp))]at this;exact this
theorem sQ(h:R3 w F r x k G)(hD:G.D.length<=5000){A:Option Addr}{n cx:Nat}{l:List HT}(hl:HS w A n l)(h0:l≠ [])(hn:n<=400000)(fF:∀y∈l,y∈ids G.D)(hK:∀w',Kept Nil w w'->K (.agg (bZ G l).1) w'):
 bk prog aW.id #[.pointer (some ⟨r,0,none⟩),.slice A n cx] w K:=by
 have hlen:=hl.len;obtain⟨x0,t,rfl⟩:∃x0 t,l=x0::t:=by cases l with|nil=>exact absurd rfl h0|cons a b=>exact⟨a,b,rfl⟩
 refine aW.of ?_;unfold aW.W;intro w1;have k1:Kept Nil w w1:=(Kept.refl _ _).alloc _;have kQ:w1.heap[w.heap.size]? =some (.cells dO.1 aj (0,0)):=aJ w _;clear_value w1;simp only [List.length_cons]at hlen;refine(hl.same k1).load (i:=0) (by omega) rfl ?_;intro w2;have k2:Kept Nil w1 w2:=(Kept.refl _ _).alloc _;have kZ:w2.heap[w1.heap.size]? =some (.cells dO.1 aj (0,0)):=aJ w1 _;clear_value w2;have ju:=k2.heap kQ (fun h=>h);have l1:=aQ kQ;have l2:=aQ kZ;obtain⟨t1,t2,t3⟩:=jg x0 kZ rfl;refine⟨t1,?_⟩;intro w3
 replace t2:w3.heap[w1.heap.size]? =some (.cells x0.1 aj (0,0)):=t2
 replace t3:Kept (· =w1.heap.size) w2 w3:=t3
 clear_value w3;have s1:=k1.size;have mh:Kept Nil w w3:=(k1.tt k2).trans t3 (fun j hj e=>by omega);have CO:=t3.heap ju (by omega);refine aW.cf (I:=fun s v=>∃(i:Nat) (b:HT),s=(i:Int)/\1<=i/\i<=n/\b∈ids G.D/\((x0::t).drop i).foldl (fun b y=>if gl G b y then y else b) b=bZ G (x0::t)/\v.heap[w1.heap.size]? =some (.cells b.1 aj (0,0))/\v.heap[w.heap.size]? =some (.cells dO.1 aj (0,0))/\Kept Nil w v) (μ:=fun s _=>((n:Int)-s).toNat) (s:=1) ⟨1,x0,rfl,Nat.le_refl _,by omega,fF _ List.mem_cons_self,rfl,t2,CO,mh⟩ ?_;rintro s v ⟨i,b,rfl,Kg,vz,hb,he,Ad,Su,kv⟩;unfold aW.B1;refine Split.dec (fun cH=>?_) (fun fV=>?_)
 ·have dQ:i<n:=by omega
  obtain⟨y,hy⟩:∃y,(x0::t)[i]? =some y:=⟨_,List.getElem?_eq_getElem (by simp;omega)⟩;have Lq:y∈ids G.D:=fF _ (List.mem_of_getElem? hy);have hd:(x0::t).drop i=y::(x0::t).drop (i+1):=by
   obtain⟨q1,q2⟩:=lgeS hy;rw [List.drop_eq_getElem_cons q1,q2]
  rw [hd,List.foldl_cons]at he;intro w4;have k4:Kept Nil v w4:=(Kept.refl _ _).drew;clear_value w4;have oe:=kv.tt k4;have NT:(x0::t)[((i:Nat):Int).toNat]? =some y:=by rw [Int.toNat_natCast];exact hy
  refine⟨b.1,⟨b.2.1,Cells.bC (k4.heap Ad (fun h=>h))⟩,(hl.same oe).load (i:=(i:Int)) (by omega) NT ?_⟩;refine pN (h.same oe) hD hb Lq fun w5 k5=>⟨_,rfl,?_⟩;have yT:=oe.tt k5;have nz:=k5.heap (k4.heap Ad (fun h=>h)) (fun h=>h);have sT:=k5.heap (k4.heap Su (fun h=>h)) (fun h=>h);rw [dq (n:=(i:Int)) (by omega) (by omega)];refine Split.mk (fun wA=>?_) (fun hle=>?_)
  ·rw [if_pos wA]at he
   refine(hl.same yT).load (i:=(i:Int)) (by omega) NT ?_;obtain⟨f1,f2,f3⟩:=jg y nz b.2.1;refine⟨f1,?_⟩;exact⟨(i:Int)+1,rfl,⟨i+1,y,rfl,by omega,by omega,Lq,he,f2,f3.heap sT (by omega),yT.trans f3 (fun j hj e=>by omega)⟩,by simp only;omega⟩
  ·rw [if_neg (by rw [hle];decide)]at he
   exact⟨(i:Int)+1,rfl,⟨i+1,b,rfl,by omega,by omega,hb,he,nz,sT,yT⟩,by simp only;omega⟩
 ·rw [aP,aW.dh]
  rw [List.drop_eq_nil_of_le (by simp;omega)]at he
  replace he:b=bZ G (x0::t):=he
  subst he;refine⟨_,⟨rT _,Cells.bC Ad⟩,?_⟩;obtain⟨f1,f2,f3⟩:=jg (bZ G (x0::t)) Su rfl;exact⟨f1,_,⟨rT _,Cells.bC f2⟩,hK _ (kv.trans f3 (fun j hj e=>by omega))⟩
theorem oC(h:R3 w F r x k G)(hD:G.D.length<=5000){A:Option Addr}{n cx:Nat}{l:List HT}(hl:HS w A n l)(hn:n<=100000)(y:HT)(hK:∀A' c' w',bQ w' w.heap.size A' (bJ G.D l y).length c' (bJ G.D l y)->Kept Nil w w'->K (.slice A' (bJ G.D l y).length c') w'):
 bk prog aY.id #[.pointer (some ⟨r,0,none⟩),.slice A n cx,.agg y.1] w K:=by
 have hlen:=hl.len;refine aY.of ?_;unfold aY.W;intro w1;have k1:Kept Nil w w1:=(Kept.refl _ _).alloc _;have NR:w1.heap[w.heap.size]? =some (.cells y.1 aj (0,0)):=aJ w _;clear_value w1;refine aY.cf (I:=fun s v=>∃(i:Nat) (B:Option Addr) (c:Nat),s=(B,(bJ G.D (l.take i) y).length,c,(i:Int))/\i<=n/\bQ v w1.heap.size B (bJ G.D (l.take i) y).length c (bJ G.D (l.take i) y)/\Kept Nil w1 v) (μ:=fun s _=>((n:Int)-s.2.2.2).toNat) (s:=(none,0,0,0)) ⟨0,none,0,rfl,Nat.zero_le _,bQ.nil _ _,Kept.refl _ _⟩ ?_;rintro s v ⟨i,B,c,rfl,hi,row,kv⟩;unfold aY.B1;have AU:=k1.tt kv;refine Split.dec (fun cH=>?_) (fun fV=>?_)
 ·simp only at cH
  have dQ:i<n:=by omega
  obtain⟨z,hz⟩:∃z,l[i]? =some z:=⟨_,List.getElem?_eq_getElem (by omega)⟩;have pH:(bJ G.D (l.take i) y).length<=100000:=by
   have:=List.length_filter_le (fun b=>decide (jS G.D b y)) (l.take i);have h2:=List.length_take_le i l;unfold bJ;omega
  intro w3;have k3:Kept Nil v w3:=(Kept.refl _ _).drew;clear_value w3;have oO:=kv.tt k3;have mh:=k1.tt oO;have h3:=h.same mh;have xP:l[((i:Nat):Int).toNat]? =some z:=by rw [Int.toNat_natCast];exact hz
  refine Is.mk rfl ⟨_,h3.c1,Is.mk rfl ((hl.same mh).load (i:=(i:Int)) (by omega) xP ⟨y.1,⟨y.2.1,Cells.bC (oO.heap NR (fun h=>h))⟩,?_⟩)⟩;rw [add_zero];refine rD h3.X.gr h.eo.W (by omega) z y fun w4 b hb k4=>⟨b,rfl,?_⟩
  replace hb:b=true↔jS G.D z y:=hb
  have oe:=oO.tt k4;have rf:=k1.tt oe;have jI:=Row.aC row (k3.tt k4) (fun _ _ h=>h);have EM:bJ G.D (l.take (i+1)) y=bJ G.D (l.take i) y++if jS G.D z y then [z]else []:=by
   rw [List.take_add_one,hz,eh]
   congr 1
   unfold bJ;by_cases hp:jS G.D z y
   ·rw [if_pos hp];simp [hp]
   ·rw [if_neg hp];simp [hp]
  cases b with
  |true=>
   rw [if_pos (hb.1 rfl)]at EM;refine Split.yes rfl ((hl.same rf).load (i:=(i:Int)) (by omega) xP ⟨z.2.1,?_⟩);intro w5;have k5:Kept Nil w4 w5:=(Kept.refl _ _).alloc _;have Qb:=iq w4 z;have s5:=(oe.tt k5).size;obtain⟨A',c',w6,hr,F7,hg,_⟩:=cD (cx:=1) az (Row.aC jI k5 (fun _ _ h=>h)) Qb (by omega) s5;refine⟨A',_,c',w6,hr,?_⟩;rw [dq (n:=(i:Int)) (by omega) (by omega)];have e:(bJ G.D (l.take (i+1)) y).length=(bJ G.D (l.take i) y).length+1:=by rw [EM];simp
   refine⟨(A',(bJ G.D (l.take i) y).length+1,c',(i:Int)+1),rfl,⟨i+1,A',c',by rw [e];rfl,dQ,by rw [e,EM];exact F7,?_⟩,by simp only;omega⟩;exact Kept.dM (oe.tt k5) hg (fun j hj=>(Row.bC row hj).1)
  |false=>
   rw [if_neg (fun e=>by have:=hb.2 e;cases this),List.append_nil]at EM;refine Split.no rfl ?_;simp only;rw [dq (n:=(i:Int)) (by omega) (by omega)];exact⟨(B,(bJ G.D (l.take i) y).length,c,(i:Int)+1),rfl,⟨i+1,B,c,by rw [EM];rfl,dQ,by rw [EM];exact jI,oe⟩,by simp only;omega⟩
 ·simp only at fV
  rw [aP,aY.dh];rw [List.take_of_length_le (by omega)]at row;have e:i=n:=by omega
  subst e;rw [List.take_of_length_le (by omega)];exact hK B c v (Row.base row (fun j hj=>by have:=(Row.bC row hj).1;have:=k1.size;omega)) AU
theorem I4{c:nZ}{A1 A2 B1 B2:Option Addr}{n1 n2 m1 m2 p1 p2 q1 q2:Nat}(h1:HS w A1 n1 c.merge)(h2:HS w A2 n2 c.merge)(g1:Bo w B1 m1 c.dg)(g2:Bo w B2 m2 c.dg)(hn:n1<=100000)(hm:m1<=100000)(hK:∀w',Kept Nil w w'->K (.bool true) w'):
 bk prog b7.id #[.agg (cF c A1 n1 p1 B1 m1 q1),.agg (cF c A2 n2 p2 B2 m2 q2)] w K:=by
 have e1:=g1.len;have e2:=g2.len;have e3:=h1.len;have e4:=h2.len;refine b7.of ?_;unfold b7.W;intro w4 w5;have k4:Kept Nil w w4:=(Kept.refl _ _).alloc _;have xv:w4.heap[w.heap.size]? =some (.cells (cF c A1 n1 p1 B1 m1 q1) bf (0,0)):=aJ w _;have k5:Kept Nil w4 w5:=(Kept.refl _ _).alloc _;have nz:w5.heap[w4.heap.size]? =some (.cells (cF c A2 n2 p2 B2 m2 q2) bf (0,0)):=aJ w4 _;clear_value w5;have Bw:=k5.heap xv (fun h=>h);have pG:=k4.tt k5;clear_value w4;have c1:=dJ c A1 n1 p1 B1 m1 q1 #[];have c2:=dJ c A2 n2 p2 B2 m2 q2 #[];rw [Array.append_empty]at c1 c2;refine⟨B1,m1,q1,by rw [a8,ay Bw];exact c1.2.2.1,B2,m2,q2,by rw [a8,ay nz];exact c2.2.2.1,Split.no (by simp only [bne_eq_false_iff_eq];omega) ?_⟩;refine b7.cf (I:=fun s v=>∃i:Nat,s=(false,(i:Int))/\i<=m1/\Kept Nil w5 v) (μ:=fun s _=>((m1:Int)-s.2).toNat) (s:=(false,0)) ⟨0,rfl,Nat.zero_le _,Kept.refl _ _⟩ ?_;rintro s v ⟨i,rfl,hi,kv⟩;unfold b7.B1;have Hy:=kv.heap Bw (fun h=>h);have Ad:=kv.heap nz (fun h=>h);have AU:=pG.tt kv;refine⟨B1,m1,q1,by rw [a8,ay Hy];exact c1.2.2.1,Split.dec (fun cH=>?_) (fun fV=>?_)⟩
 ·simp only at cH
  obtain⟨b,hb⟩:∃b,c.dg[i]? =some b:=⟨_,List.getElem?_eq_getElem (by omega)⟩;intro w6;have k6:Kept Nil v w6:=(Kept.refl _ _).drew;clear_value w6;have mM:=AU.tt k6;obtain⟨a1,r1,_,r3⟩:=(g1.same mM).at_ i b hb;obtain⟨a2,r4,_,r6⟩:=(g2.same mM).at_ i b hb;subst r1 r4;refine⟨some a1,m1,q1,by rw [a8,ay (k6.heap Hy (fun h=>h))];exact c1.2.2.1,⟨by simp only;omega,by simp only;omega⟩,b,by rw [Int.toNat_natCast,Nat.mul_one];exact r3,some a2,m2,q2,by rw [a8,ay (k6.heap Ad (fun h=>h))];exact c2.2.2.1,⟨by simp only;omega,by simp only;omega⟩,b,by rw [Int.toNat_natCast,Nat.mul_one];exact r6,Split.no (by simp) ?_⟩;simp only;rw [dq (n:=(i:Int)) (by omega) (by omega)];exact⟨(false,(i:Int)+1),rfl,⟨i+1,rfl,by omega,kv.tt k6⟩,by simp only;omega⟩
 ·rw [aP,b7.dh]
  have gV:∀ {b:Nat} {A B:Option Addr} {n m p q:Nat},v.heap[b]? =some (.cells (cF c A n p B m q) bf (0,0))->Cells v ((⟨b,0,none⟩:Addr).add 0) c.gV.1:=fun hb j u hj=>by
   have cH:=(Array.getElem?_eq_some_iff.1 hj).1;rw [add_zero,a8,ay hb,Nat.zero_add];unfold cF;rw [Array.getElem?_append_left cH];exact hj
  refine⟨c.gV.1,⟨c.gV.2.1,gV Hy⟩,c.gV.1,⟨c.gV.2.1,gV Ad⟩,⟨c.gV.2.ints,c.gV.2.ints⟩,?_⟩;rw [du];refine Split.yes (decide_eq_true rfl) ⟨_,by rw [a8,ay Hy];exact c1.1,_,by rw [a8,ay Ad];exact c2.1,Split.yes (beq_self_eq_true _) ⟨_,_,_,by rw [a8,ay Hy];exact c1.2.1,_,_,_,by rw [a8,ay Ad];exact c2.2.1,?_⟩⟩;refine vZ (h1.same AU) (h2.same AU) (by omega) fun w7 k7=>⟨_,rfl,?_⟩;rw [decide_eq_true rfl];exact hK w7 (AU.tt k7)
end
structure VJ(v:World)(B0 xb rb:Nat)(x:nZ)(A:Option Addr)(n cp:Nat)(E:Option Addr)(e ce:Nat)(W:Option Addr)(nw cw:Nat)(wd:List HT):Prop where
 top:v.heap[xb]? =some (.cells (cF x A n cp E e ce) bf (0,0))
 mg:bQ v B0 A n cp x.merge
 bl:Row v B0 gM 1 E e ce (qW x.dg)
 wr:bQ v B0 W nw cw wd
 box:v.heap[rb]? =some (.cells zC bf (0,0))
 AE:∀j,bg A=some j->bg E≠some j
 AW:∀j,bg A=some j->bg W≠some j
 EW:∀j,bg E=some j->bg W≠some j
 xB:xb<B0
 rB:rb<B0
 xr:xb≠rb
section
variable{v v' u:World}{B0 xb rb n cp e ce nw cw:Nat}{x:nZ}{A E W:Option Addr}{wd:List HT}{K:Value->World->Prop}
theorem VJ.same(h:VJ v B0 xb rb x A n cp E e ce W nw cw wd)(k:Kept Nil v v'):VJ v' B0 xb rb x A n cp E e ce W nw cw wd:=
 ⟨k.heap h.top (fun h=>h),Row.aC h.mg k (fun _ _ h=>h),Row.aC h.bl k (fun _ _ h=>h),Row.aC h.wr k (fun _ _ h=>h),k.heap h.box (fun h=>h),h.AE,h.AW,h.EW,h.xB,h.rB,h.xr⟩
theorem VJ.f32(h:VJ v B0 xb rb x A n cp E e ce W nw cw wd):v.cell? ((⟨xb,0,none⟩:Addr).add 32)=some (.int .u64 (x.score:Int)):=by
 have:=(dJ x A n cp E e ce #[]).1;rw [Array.append_empty]at this;rw [a8,ay h.top];exact this
theorem VJ.f33(h:VJ v B0 xb rb x A n cp E e ce W nw cw wd):v.cell? ((⟨xb,0,none⟩:Addr).add 33)=some (.slice A n cp):=by
 have:=(dJ x A n cp E e ce #[]).2.1;rw [Array.append_empty]at this;rw [a8,ay h.top];exact this
theorem VJ.f34(h:VJ v B0 xb rb x A n cp E e ce W nw cw wd):v.cell? ((⟨xb,0,none⟩:Addr).add 34)=some (.slice E e ce):=by
 have:=(dJ x A n cp E e ce #[]).2.2.1;rw [Array.append_empty]at this;rw [a8,ay h.top];exact this
theorem VJ.wrx(h:VJ v B0 xb rb x A n cp E e ce W nw cw wd){j:Nat}(hj:j<35):Wr v ((⟨xb,0,none⟩:Addr).add j):=by
 rw [a8];exact dL h.top (by rw [aX];omega)
theorem VJ.MR(h:VJ v B0 xb rb x A n cp E e ce W nw cw wd)(j:Nat)(z:Value):Kept (· =xb) v (v.setCell ((⟨xb,0,none⟩:Addr).add j) z):=by
 rw [a8];exact Kept.setCell (S:=(· =xb)) (Kept.refl _ v) (p:=⟨xb,0+j,none⟩) (fun _=>rfl) _
theorem VJ.MT(h:VJ v B0 xb rb x A n cp E e ce W nw cw wd)(s:Nat):VJ (v.setCell ((⟨xb,0,none⟩:Addr).add 32) (.int .u64 (s:Int))) B0 xb rb {x with score:=s} A n cp E e ce W nw cw wd:=by
 have k:=h.MR 32 (.int .u64 (s:Int));have xB:=h.xB;refine⟨?_,Row.aC h.mg k (fun j hj e=>by have:=(Row.bC h.mg hj).1;omega),Row.aC h.bl k (fun j hj e=>by have:=(Row.bC h.bl hj).1;omega),Row.aC h.wr k (fun j hj e=>by have:=(Row.bC h.wr hj).1;omega),k.heap h.box h.xr.symm,h.AE,h.AW,h.EW,h.xB,h.rB,h.xr⟩;rw [a8,cV h.top];have:=uS x A n cp E e ce #[] s;rw [Array.append_empty,Array.append_empty]at this;rw [this]
theorem VJ.Rc(h:VJ v B0 xb rb x A n cp E e ce W nw cw wd)(hB:B0<=v.heap.size)(hn:nw<=100000){z:HT}(lj:Kept Nil v v'){bx:Nat}(hx:HS v' (some ⟨bx,0,none⟩) 1 [z]):
 ∃W' QA u,(Builtin.append_ #[az,az] az #[.slice W nw cw,.slice (some ⟨bx,0,none⟩) 1 1]).run prog v'=.ok (.slice W' (nw+1) QA) u/\VJ u B0 xb rb x A n cp E e ce W' (nw+1) QA (wd++ [z])/\Kept (fun j=>j=xb\/B0<=j) v u:=by
 have h':=h.same lj;have V0:=lj.size;obtain⟨W',c',u,hr,row,hg,hb⟩:=cD (cx:=1) az h'.wr hx (by omega) (by omega);have kg:Kept (fun j=>bg W=some j) v' u:=Kept.grown (Kept.refl _ _) hg (fun j hj _=>hj);have nB:∀j,j<B0->bg W≠some j:=fun j hj e=>by have:=(Row.bC h.wr e).1;omega
 refine⟨W',c',u,hr,⟨kg.heap h'.top (nB _ h.xB),Row.aC h'.mg kg (fun j hj=>h.AW j hj),Row.aC h'.bl kg (fun j hj=>h.EW j hj),row,kg.heap h'.box (nB _ h.rB),h.AE,fun j hj e=>?_,fun j hj e=>?_,h.xB,h.rB,h.xr⟩,(lj.mono fun _ _ h=>h.elim).trans kg (fun j hj e=>.inr (Row.bC h.wr e).1)⟩
 ·rcases hb j e with e'|e'
  ·exact h.AW j hj e'
  ·obtain⟨_,cur,hc⟩:=Row.bC h'.mg hj
   have:=aQ hc;omega
 ·rcases hb j e with e'|e'
  ·exact h.EW j hj e'
  ·obtain⟨_,cur,hc⟩:=Row.bC h'.bl hj
   have:=aQ hc;omega
theorem VJ.Gb(h:VJ v B0 xb rb x A n cp E e ce W nw cw wd)(hB:B0<=v.heap.size)(hn:e<=100000){b:Bool}(lj:Kept Nil v v'){bx:Nat}(hx:v'.cell? ⟨bx,0,none⟩=some (.bool b)):
 ∃E' rk u,(Builtin.append_ #[fU,fU] fU #[.slice E e ce,.slice (some ⟨bx,0,none⟩) 1 1]).run prog v'=.ok (.slice E' (e+1) rk) u/\Wr u ((⟨xb,0,none⟩:Addr).add 34)/\
  VJ (u.setCell ((⟨xb,0,none⟩:Addr).add 34) (.slice E' (e+1) rk)) B0 xb rb {x with dg:=x.dg++ [b]} A n cp E' (e+1) rk W nw cw wd/\Kept (fun j=>j=xb\/B0<=j) v (u.setCell ((⟨xb,0,none⟩:Addr).add 34) (.slice E' (e+1) rk)):=by
 have h':=h.same lj;have V0:=lj.size;have xB:=h.xB;obtain⟨E',c',u,hr,row,hg,hb⟩:=fi (P:=prog) (t:=fU) (bytes:=1) (ty:=fU) Ax h'.bl (a:=⟨bx,0,none⟩) (m:=1) (cx:=1) (news:= [.bool b]) rfl (fun j z hj=>by
  cases j with
  |zero=>simp only [List.getElem?_cons_zero,Option.some.injEq]at hj;subst hj;rw [add_zero];exact hx
  |succ j=>simp at hj) (fun z hz=>by
  have:z=.bool b:=by simpa using hz
  subst this;rfl) (by omega) (by unfold maxLen;omega) (by omega)
 have kg:Kept (fun j=>bg E=some j) v' u:=Kept.grown (Kept.refl _ _) hg (fun j hj _=>hj);have nB:∀j,j<B0->bg E≠some j:=fun j hj e=>by have:=(Row.bC h.bl e).1;omega
 have top:=kg.heap h'.top (nB _ h.xB);have ks:Kept (· =xb) u (u.setCell ((⟨xb,0,none⟩:Addr).add 34) (.slice E' (e+1) c')):=by
  rw [a8];exact Kept.setCell (S:=(· =xb)) (Kept.refl _ u) (p:=⟨xb,0+34,none⟩) (fun _=>rfl) _
 have ko:Kept (fun j=>j=xb\/bg E=some j) v' (u.setCell ((⟨xb,0,none⟩:Addr).add 34) (.slice E' (e+1) c')):=(kg.mono fun _ _ h=>.inr h).trans ks (fun _ _ h=>.inl h);refine⟨E',c',u,hr,by rw [a8];exact dL top (by rw [aX];omega),⟨?_,?_,?_,?_,?_,fun j hj e=>?_,h.AW,fun j hj e=>?_,h.xB,h.rB,h.xr⟩,(lj.mono fun _ _ h=>h.elim).trans ko (fun j hj e=>e.imp (fun h=>h) (fun e=>(Row.bC h.bl e).1))⟩
 ·rw [a8,cV top]
  have:=qm x A n cp E e ce #[] E' (e+1) c';rw [Array.append_empty,Array.append_empty]at this;rw [this];rfl
 ·exact Row.aC h'.mg ko (fun j hj e=>e.elim (fun e=>by have:=(Row.bC h.mg hj).1;omega) (h.AE j hj))
 ·have e1:qW (x.dg++ [b])=qW x.dg++ [.bool b]:=by simp [qW]
  show Row _ B0 gM 1 E' (e+1) c' (qW (x.dg++ [b]))
  rw [e1];exact Row.aC row ks (fun j hj e=>by have:=(Row.bC row hj).1;omega)
 ·exact Row.aC h'.wr ko (fun j hj e=>e.elim (fun e=>by have:=(Row.bC h.wr hj).1;omega) (fun e=>h.EW j e hj))
 ·exact ko.heap h'.box (fun e=>e.elim (fun e=>h.xr e.symm) (nB _ h.rB))
 ·rcases hb j e with e'|e'
  ·exact h.AE j hj e'
  ·obtain⟨_,cur,hc⟩:=Row.bC h'.mg hj
   have:=aQ hc;omega
 ·rcases hb j hj with e'|e'
  ·exact h.EW j e' e
  ·obtain⟨_,cur,hc⟩:=Row.bC h'.wr e
   have:=aQ hc;omega
end
section
variable{y w w':World}{F F' S:Nat->Prop}{r x k:Nat}{G:GS}{K:Value->World->Prop}{B0 xb rb n cp e ce nw cw:Nat}{A E W:Option Addr}{s:HT}{l:List HT}
set_option maxHeartbeats 2000000 in
theorem Dx(h:R3 y F r x k G)(hD:G.D.length<=300)(pS:k<=1000)(hB:B0<=y.heap.size)(gR:∀j,(j=r\/j=x\/F j)->j<B0/\j≠xb/\j≠rb)(hM:∀z∈cC G s l,z∈ids G.D)(hs:s∈ids G.D)
 (V:VJ y B0 xb rb ⟨s,G.score s+1,cC G s l,[]⟩ A n cp none 0 0 W nw cw (G.world s++ [s]))
 (hK:∀v E e ce W nw cw,VJ v B0 xb rb (cQ k G s l) A n cp E e ce W nw cw (fg k G s l).wd->Kept (fun j=>j=xb\/j=rb\/B0<=j) y (setCells v ⟨rb,0,none⟩ (cF (cQ k G s l) A n cp E e ce).toList 0)->K (.tuple #[.agg (cF (cQ k G s l) A n cp E e ce),.slice W nw cw]) (setCells v ⟨rb,0,none⟩ (cF (cQ k G s l) A n cp E e ce).toList 0)):
 af.cO (some ⟨r,0,none⟩) ⟨B0,0,none⟩ ⟨rb,0,none⟩ none 0 0 ⟨xb,0,none⟩ W nw cw none 0 0 0 K y:=by
 unfold af.cO;have Hj:(cC G s l).length<=300:=by
  have:=cJ (m:=ids G.D) (lr G s l).nodup hM;rw [fN]at this;omega
 have hn:(cC G s l).length=n:=bQ.len V.mg;have Wl:=pe h.eo hs;have Bb:=yq h.eo hs;have hR:∀ {v:World},Kept (fun j=>j=xb\/B0<=j) y v->R3 v F r x k G:=fun kv=>h.aC kv (fun e=>by have:=gR r (.inl rfl);omega) (fun e=>by have:=gR x (.inr (.inl rfl));omega) (fun j hj e=>by have:=gR j (.inr (.inr hj));omega);have vl:∀i,i<=n->(jE k G s l i).wd.length<=700:=fun i hi=>by
  obtain⟨b,h1,h2⟩:=FH k G.D (G.world s++ [s]) ((cC G s l).take i);have h3:=pC ((cC G s l).take i) b;rw [List.length_take]at h3;show(((cC G s l).take i).foldl (ly k G.D) ⟨G.world s++ [s],[]⟩).wd.length<=700;rw [h2];simp only [List.length_append,List.length_singleton];omega
 refine af.qL (I:=fun st v=>∃(i:Nat) (E:Option Addr) (e ce:Nat) (W:Option Addr) (nw cw:Nat),st=(W,nw,cw,(i:Int))/\i<=n/\VJ v B0 xb rb ⟨s,G.score s+1+(jE k G s l i).bl.count true,cC G s l,(jE k G s l i).bl⟩ A n cp E e ce W nw cw (jE k G s l i).wd/\Kept (fun j=>j=xb\/B0<=j) y v) (μ:=fun st _=>((n:Int)-st.2.2.2).toNat) (s:=(W,nw,cw,0)) ⟨0,none,0,0,W,nw,cw,rfl,Nat.zero_le _,V,Kept.refl _ _⟩ ?_;rintro st v ⟨i,E,e,ce,W,nw,cw,rfl,hi,Vv,kv⟩;unfold af.B3;refine⟨A,n,cp,Vv.f33,Split.dec (fun cH=>?_) (fun fV=>?_)⟩
 ·simp only at cH
  have dQ:i<n:=by omega
  obtain⟨z,hz⟩:∃z,(cC G s l)[i]? =some z:=⟨_,List.getElem?_eq_getElem (by omega)⟩;have oh:=yf (k:=k) hz;have xP:(cC G s l)[((i:Nat):Int).toNat]? =some z:=by rw [Int.toNat_natCast];exact hz
  have hnw:(jE k G s l i).wd.length=nw:=bQ.len Vv.wr;have Wm:=vl i hi;have sv:=kv.size;refine⟨A,n,cp,Vv.f33,(bQ.hs Vv.mg).load (i:=(i:Int)) (by omega) xP ?_⟩;refine oC (hR kv) (by omega) (bQ.hs Vv.wr) (by omega) z fun N cN w4 Q2 k4=>⟨N,_,cN,rfl,?_⟩;have oe:=kv.trans k4 (fun _ _ h=>h.elim);have WO:=hR oe;refine Is.mk rfl ⟨_,WO.c0,?_⟩;have xS:(bJ G.D (jE k G s l i).wd z).length<=700:=by
   have:=List.length_filter_le (fun b=>decide (jS G.D b z)) (jE k G s l i).wd;unfold bJ;omega
  generalize LQ:bJ G.D (jE k G s l i).wd z=yH at Q2 xS;have V4:=Vv.same k4;refine af.yN (I:=fun st u=>∃(b:Bool) (q:Nat),st=(b,(q:Int))/\q<=yH.length/\b=(decide (yH.length<=k)&&(yH.take q).all fun z=>decide ((bJ G.D (jE k G s l i).wd z).length+1<=k))/\Kept Nil w4 u) (μ:=fun st _=>((yH.length:Int)-st.2).toNat) (s:=(decide ((yH.length:Int)<=(k:Int)),0)) ⟨_,0,rfl,Nat.zero_le _,by simp,Kept.refl _ _⟩ ?_;rintro st u ⟨b,q,rfl,hq,hb,ku⟩;have Wb:=oe.trans ku (fun _ _ h=>h.elim);have Vu:=V4.same ku;have fin:∀ {t:World},Kept Nil w4 t->b=mV k G.D (jE k G s l i).wd z->af.vd (some ⟨r,0,none⟩) ⟨rb,0,none⟩ none 0 0 ⟨xb,0,none⟩ W nw cw (i:Int) N yH.length cN b (q:Int) (bI (af.e3 (some ⟨r,0,none⟩) ⟨rb,0,none⟩ none 0 0 ⟨xb,0,none⟩) (fun st v=>∃(i:Nat) (E:Option Addr) (e ce:Nat) (W:Option Addr) (nw cw:Nat),st=(W,nw,cw,(i:Int))/\i<=n/\VJ v B0 xb rb ⟨s,G.score s+1+(jE k G s l i).bl.count true,cC G s l,(jE k G s l i).bl⟩ A n cp E e ce W nw cw (jE k G s l i).wd/\Kept (fun j=>j=xb\/B0<=j) y v) (fun st _=>((n:Int)-st.2.2.2).toNat) (W,nw,cw,(i:Int)) v (af.q3 K)) t:=fun {t} kt xU=>by
   have Vt:=V4.same kt;have RA:=oe.trans kt (fun _ _ h=>h.elim);have st:=RA.size;have WI:(jE k G s l i).bl.length=e:=by have:=(Row.bo Vt.bl).len;simpa using this
   have hbi:=Cc k G s l i (by omega);unfold af.vd;refine⟨E,e,ce,Vt.f34,?_⟩;intro w5;have k5:Kept Nil t w5:=(Kept.refl _ _).alloc _;have nz:w5.cell? ⟨t.heap.size,0,none⟩=some (.bool b):=by rw [ay (aJ t _)];rfl
   clear_value w5;obtain⟨E',rk,u6,q1,q2,q3,q4⟩:=Vt.Gb (by omega) (by omega) k5 nz;refine⟨E',e+1,rk,u6,q1,q2,?_⟩;have P1:=RA.tt q4;rw [dq (n:=(i:Int)) (by omega) (by omega)];rw [ly,<-xU]at oh;generalize u6.setCell ((⟨xb,0,none⟩:Addr).add 34) (.slice E' (e+1) rk)=w6 at q3 q4 P1⊢;have s6:=P1.size;cases b with
   |false=>
    refine Split.no rfl ⟨(W,nw,cw,(i:Int)+1),rfl,⟨i+1,E',e+1,rk,W,nw,cw,rfl,dQ,?_,P1⟩,by simp only;omega⟩;rw [oh];simpa [List.count_append]using q3
   |true=>
    refine Split.yes rfl ⟨A,n,cp,q3.f33,(bQ.hs q3.mg).load (i:=(i:Int)) (by omega) xP ⟨z.2.1,?_⟩⟩;intro w7;have k7:Kept Nil w6 w7:=(Kept.refl _ _).alloc _;have YJ:=iq w6 z;obtain⟨W',QA,w8,r1,r2,r3⟩:=q3.Rc (by omega) (by omega) k7 YJ;refine⟨W',nw+1,QA,w8,r1,_,r2.f32,r2.wrx (by omega),?_⟩;have aiF:(jE k G s l i).bl.count true<=300:=by have:=List.count_le_length (a:=true) (l:=(jE k G s l i).bl);omega
    have ew:u64.wrap (((G.score s+1+(jE k G s l i).bl.count true:Nat):Int)+1)=((G.score s+1+(jE k G s l i).bl.count true+1:Nat):Int):=by
     rw [show((G.score s+1+(jE k G s l i).bl.count true:Nat):Int)+1=((G.score s+1+(jE k G s l i).bl.count true+1:Nat):Int)by omega];exact jk (by omega)
    simp only;rw [ew];have r4:=r2.MT (G.score s+1+(jE k G s l i).bl.count true+1);have r5:=r2.MR 32 (.int .u64 ((G.score s+1+(jE k G s l i).bl.count true+1:Nat):Int));refine⟨(W',nw+1,QA,(i:Int)+1),rfl,⟨i+1,E',e+1,rk,W',nw+1,QA,rfl,dQ,?_,(P1.tt r3).trans r5 (fun _ _ h=>.inl h)⟩,by simp only;omega⟩;rw [oh];have ec:((jE k G s l i).bl++ [true]).count true=(jE k G s l i).bl.count true+1:=by simp [List.count_append]
    simp only [if_true];rw [ec,<-Nat.add_assoc];exact r4
  unfold af.B4;refine Split.dec (fun Ka=>?_) (fun Kh=>?_)
  ·simp only at Ka
   refine Split.mk (fun vA=>?_) (fun vA=>?_)
   ·replace vA:b=true:=vA
    subst vA;have JS:q<yH.length:=by omega
    obtain⟨z2,hz2⟩:∃z2,yH[q]? =some z2:=⟨_,List.getElem?_eq_getElem JS⟩;intro w5;have k5:Kept Nil u w5:=(Kept.refl _ _).drew;clear_value w5;have Eg:=ku.tt k5;have yT:=oe.trans Eg (fun _ _ h=>h.elim);have hR5:=hR yT;refine((bQ.hs Q2).same Eg).load (i:=(q:Int)) (by omega) (by rw [Int.toNat_natCast];exact hz2) (Is.mk rfl ⟨_,hR5.c0,?_⟩);refine oC hR5 (by omega) (bQ.hs (V4.same Eg).wr) (by omega) z2 fun N2 c2 w6 F7 k6=>⟨N2,_,c2,rfl,?_⟩;have Jt:=Eg.tt k6;refine⟨(hR5.same k6).c0,?_⟩;simp only;rw [dq (n:=(q:Int)) (by omega) (by omega),gU (x:=(k:Int)-1) (by omega) (by omega)];refine⟨(decide (((bJ G.D (jE k G s l i).wd z2).length:Int)<=(k:Int)-1),(q:Int)+1),rfl,⟨_,q+1,rfl,JS,?_,Jt⟩,by simp only;omega⟩;rw [eq_comm,Bool.and_eq_true,decide_eq_true_eq]at hb;rw [decide_eq_true hb.1,Bool.true_and,List.take_add_one,hz2];simp only [Option.toList_some,List.all_append,hb.2,Bool.true_and,List.all_cons,List.all_nil,Bool.and_true];rw [decide_eq_decide];omega
   ·rw [aP,af.Ai]
    replace vA:b=false:=vA
    refine fin ku ?_;rw [vA]at hb⊢
    symm
    unfold mV;rw [LQ,decide_eq_false_iff_not];rintro⟨g1,g2⟩;rw [decide_eq_true g1,Bool.true_and]at hb;have:=List.all_eq_false.1 hb.symm;obtain⟨z0,YI,hz1⟩:=this;exact hz1 (decide_eq_true (g2 z0 (List.mem_of_mem_take YI)))
  ·simp only at Kh
   rw [aP,af.Ai];refine fin ku ?_;rw [List.take_of_length_le (by omega)]at hb;rw [hb];unfold mV;rw [LQ,Bool.eq_iff_iff,Bool.and_eq_true,decide_eq_true_eq,decide_eq_true_eq,List.all_eq_true];simp only [decide_eq_true_eq]
 ·simp only at fV
  have:i=n:=by omega
  subst this;rw [aP,af.wO];rw [<-hn,Cd]at Vv;have EN:(⟨s,G.score s+1+(fg k G s l).bl.count true,cC G s l,(fg k G s l).bl⟩:nZ)=cQ k G s l:=rfl;rw [EN]at Vv;unfold af.se;obtain⟨t1,t2,t3⟩:=dT Vv.box (cs:=cF (cQ k G s l) A (cC G s l).length cp E e ce) (by rw [aX];rfl);refine⟨_,⟨aX ..,Cells.bC Vv.top⟩,⟨aX ..,dP _ _ _ _ _ _ _,fun j hj=>t1 j (by rw [aX];exact hj)⟩,_,⟨aX ..,Cells.bC t2⟩,?_⟩;rw [hn]at t3 Vv⊢;exact hK v E e ce W nw cw Vv ((kv.mono fun _ _ h=>h.imp (fun h=>h) (fun h=>.inr h)).trans t3 (fun _ _ h=>.inr (.inl h)))
end
theorem PJ{G:GS}{l:List HT}{k:Nat}{x:HT}(h:SO G l)(h1:∀y∈l.take k,gl G y x=true)(h2:∀y∈l.drop k,gl G x y=true):SO G (l.take k++x::l.drop k):=by
 have h0:SO G (l.take k++l.drop k):=by rw [List.take_append_drop];exact h
 unfold SO at h0⊢;rw [List.pairwise_append]at h0⊢;refine⟨h0.1,List.pairwise_cons.2 ⟨h2,h0.2.1⟩,fun a ha b hb=>?_⟩;rcases List.mem_cons.1 hb with rfl|hb
 ·exact h1 a ha
 ·exact h0.2.2 a ha b hb
section
variable{y w w':World}{F F' S:Nat->Prop}{r x k:Nat}{G:GS}{K:Value->World->Prop}{B0 xb rb sb n cp e ce nw cw na ca:Nat}{A E W AA:Option Addr}{s:HT}{l all wd:List HT}
set_option maxHeartbeats 2000000 in
theorem Dy(h:R3 y F r x k G)(hD:G.D.length<=300)(hB:B0<=y.heap.size)(gR:∀j,(j=r\/j=x\/F j)->j≠xb)(hs:s∈ids G.D)(G5:y.heap[sb]? =some (.cells s.1 aj (0,0)))(Qd:sb≠xb)
 (cY:HS y AA na all) (WS:∀a,AA=some a->a.block≠xb) (hSS:SS all) (fF:∀z∈all,z∈ids G.D)
 (V:VJ y B0 xb rb ⟨s,G.score s+1,[],[]⟩ none 0 0 none 0 0 W nw cw wd)
 (hK:∀v A n cp M i,SO G M->(∀z,z∈M↔z∈all/\z≠s/\¬eB G.D z s)->VJ v B0 xb rb ⟨s,G.score s+1,M,[]⟩ A n cp none 0 0 W nw cw wd->Kept (· =xb) y v->af.cO (some ⟨r,0,none⟩) ⟨sb,0,none⟩ ⟨rb,0,none⟩ none 0 0 ⟨xb,0,none⟩ W nw cw AA na ca i K v):
 Holds none [] prog 179 (.loop (lB (bB (sR (sL (sR (sR (sR (sR (body af.fn)))))))))) (af.q1 K) [(0,.pointer (some ⟨r,0,none⟩)),(4,.pointer (some ⟨sb,0,none⟩)),(6,.pointer (some ⟨rb,0,none⟩)),(7,.slice none 0 0),(8,.pointer (some ⟨xb,0,none⟩)),(9,.slice W nw cw),(10,.slice AA na ca),(11,.int .i64 0)] y:=by
 have JX:=cY.len;have ahT:na<=300:=by
  have:=cJ (m:=ids G.D) hSS.nodup fF;rw [fN]at this;omega
 have hR:∀ {v:World},Kept (· =xb) y v->R3 v F r x k G:=fun kv=>h.aC kv (gR r (.inl rfl)) (gR x (.inr (.inl rfl))) (fun j hj=>gR j (.inr (.inr hj)));refine af.cf (I:=fun st v=>∃(i:Nat) (M:List HT) (A:Option Addr) (n cp:Nat),st=(i:Int)/\i<=na/\VJ v B0 xb rb ⟨s,G.score s+1,M,[]⟩ A n cp none 0 0 W nw cw wd/\SO G M/\(∀z,z∈M↔z∈all.take i/\z≠s/\¬eB G.D z s)/\Kept (· =xb) y v) (μ:=fun st _=>((na:Int)-st).toNat) (s:=0) ⟨0,[],none,0,0,rfl,Nat.zero_le _,V,List.Pairwise.nil,by simp,Kept.refl _ _⟩ ?_;rintro st v ⟨i,M,A,n,cp,rfl,hi,Vv,Eu,gB,kv⟩;unfold af.B1;refine Split.dec (fun cH=>?_) (fun fV=>?_)
 ·have dQ:i<na:=by omega
  obtain⟨z,hz⟩:∃z,all[i]? =some z:=⟨_,List.getElem?_eq_getElem (by omega)⟩;have Ep:=fF z (List.mem_of_getElem? hz);have EM:all.take (i+1)=all.take i++ [z]:=by rw [List.take_add_one,hz];rfl
  have hMi:∀y∈M,y∈ids G.D:=fun y hy=>fF y (List.mem_of_mem_take ((gB y).1 hy).1);have hMl:M.length<=300:=by
   have:=cJ (m:=ids G.D) Eu.nodup hMi;rw [fN]at this;omega
  have hMn:M.length=n:=bQ.len Vv.mg;have sv:=kv.size;refine(cY.aC kv WS).load (i:=(i:Int)) (by omega) hz ?_;intro w2;obtain⟨qR,iD,iH⟩:=gg (w:=v) (z:=dO.1) (cs:=z.1) (t:=aj) (by rw [z.2.1];rfl);refine⟨⟨z.2.1,z.2.one,fun j hj=>qR j (by rw [z.2.1];exact hj)⟩,?_⟩;intro w3 w4
  replace iD:w3.heap[v.heap.size]? =some (.cells z.1 aj (0,0)):=iD
  replace iH:Kept Nil v w3:=iH
  have k4:Kept Nil w3 w4:=(Kept.refl _ _).drew;clear_value w4;have rj:=k4.heap iD (fun h=>h);have Nb:=iH.tt k4;clear_value w3;have oe:=kv.trans Nb (fun _ _ h=>h.elim);have Ob:∀ {u:World},Kept (· =xb) y u->Cells u ⟨sb,0,none⟩ s.1:=fun ku=>Cells.bC (ku.heap G5 Qd);have next:∀ {u:World} {M':List HT} {A':Option Addr} {n' vC:Nat},VJ u B0 xb rb ⟨s,G.score s+1,M',[]⟩ A' n' vC none 0 0 W nw cw wd->SO G M'->(∀z,z∈M'↔z∈all.take (i+1)/\z≠s/\¬eB G.D z s)->Kept (· =xb) y u->
   ∃s1:Int,i64.wrap ((i:Int)+(1:Int))=s1/\(∃(i:Nat) (M:List HT) (A:Option Addr) (n cp:Nat),s1=(i:Int)/\i<=na/\VJ u B0 xb rb ⟨s,G.score s+1,M,[]⟩ A n cp none 0 0 W nw cw wd/\SO G M/\(∀z,z∈M↔z∈all.take i/\z≠s/\¬eB G.D z s)/\Kept (· =xb) y u)/\((na:Int)-s1).toNat<((na:Int)-(i:Int)).toNat:=fun h1 h2 h3 h4=>by
   rw [dq (n:=(i:Int)) (by omega) (by omega)];exact⟨(i:Int)+1,rfl,⟨i+1,_,_,_,_,rfl,dQ,h1,h2,h3,h4⟩,by omega⟩
  have skip:(z=s\/eB G.D z s)->∀z',z'∈M↔z'∈all.take (i+1)/\z'≠s/\¬eB G.D z' s:=fun YI z'=>by
   rw [gB,EM,List.mem_append,List.mem_singleton];constructor
   ·rintro⟨a,b⟩;exact⟨.inl a,b⟩
   ·rintro⟨a|rfl,b,c⟩
    ·exact⟨a,b,c⟩
    ·rcases YI with e|e
     ·exact absurd e b
     ·exact absurd e c
  refine⟨z.1,⟨z.2.1,Cells.bC rj⟩,s.1,⟨s.2.1,Ob oe⟩,⟨z.2.ints,s.2.ints⟩,?_⟩;rw [du];refine Split.dec (fun CL=>?_) (fun CL=>?_)
  ·obtain⟨s1,e1,e2,e3⟩:=next (Vv.same Nb) Eu (skip (.inl CL)) oe
   rw [e1];exact⟨s1,rfl,e2,e3⟩
  have WO:=hR oe;refine Is.mk rfl ⟨_,WO.c1,Is.mk rfl ⟨z.1,⟨z.2.1,Cells.bC rj⟩,s.1,⟨s.2.1,Ob oe⟩,?_⟩⟩;rw [add_zero];refine pZ WO.X.gr h.eo.W (by omega) z s fun w5 b hb k5=>⟨b,rfl,?_⟩;have Na:=Nb.tt k5;have yT:=kv.trans Na (fun _ _ h=>h.elim);refine Split.mk (fun hbt=>?_) (fun WJ=>?_)
  ·obtain⟨s1,e1,e2,e3⟩:=next (Vv.same Na) Eu (skip (.inr (hb.1 hbt))) yT
   rw [e1];exact⟨s1,rfl,e2,e3⟩
  have hzA:¬eB G.D z s:=fun e=>by rw [hb.2 e]at WJ;cases WJ
  have V5:=Vv.same Na;have nz:=k5.heap rj (fun h=>h);have hzM:z∉M:=fun e=>by
   have h1:=((gB z).1 e).1;have eQ:=hSS.nodup;obtain⟨q,hq⟩:=List.mem_iff_getElem?.1 h1;rw [List.getElem?_take]at hq;split at hq
   ·rename_i hqi
    have:=(List.getElem?_inj (i:=q) (j:=i) (by rw [JX];omega) eQ).1 (by rw [hq,hz]);omega
   ·cases hq
  refine⟨A,n,cp,V5.f33,?_⟩;refine af.gz (I:=fun st u=>∃q:Nat,st=(q:Int)/\q<=M.length/\(∀y∈M.drop q,gl G z y=true)/\Kept Nil w5 u) (μ:=fun st _=>st.toNat) (s:=(n:Int)) ⟨n,rfl,by omega,by rw [<-hMn];simp,Kept.refl _ _⟩ ?_;rintro st u ⟨q,rfl,hq,uB,ku⟩;unfold af.B2;have uA:∀ {t:World},Kept Nil w5 t->(∀y∈M.take q,gl G y z=true)->af.gY (some ⟨r,0,none⟩) ⟨sb,0,none⟩ ⟨rb,0,none⟩ none 0 0 ⟨xb,0,none⟩ W nw cw AA na ca (i:Int) ⟨v.heap.size,0,none⟩ (q:Int) (bI (af.e1 (some ⟨r,0,none⟩) ⟨sb,0,none⟩ ⟨rb,0,none⟩ none 0 0 ⟨xb,0,none⟩ W nw cw AA na ca) (fun st v=>∃(i:Nat) (M:List HT) (A:Option Addr) (n cp:Nat),st=(i:Int)/\i<=na/\VJ v B0 xb rb ⟨s,G.score s+1,M,[]⟩ A n cp none 0 0 W nw cw wd/\SO G M/\(∀z,z∈M↔z∈all.take i/\z≠s/\¬eB G.D z s)/\Kept (· =xb) y v) (fun st _=>((na:Int)-st).toNat) (i:Int) v (af.q1 K)) t:=by
   intro t kt G3;have Vt:=V5.same kt;have RA:=yT.trans kt (fun _ _ h=>h.elim);have st:=RA.size;have wV:=Vt.mg;have Hr:n<=cp:=by rcases Row.own wV with⟨_,h1,h2,_⟩|⟨_,_,_,_,_,h1,_⟩<;>omega
   unfold af.gY;refine⟨A,n,cp,Vt.f33,⟨by omega,by omega⟩,?_⟩;have xn:HS t (if cp=0 then A else A.map (·.add (0*32))) ((q:Int).toNat -0) (M.take q):=by
    have h:=wV.hs.take (k:=q) (by omega);rw [Nat.sub_zero,Int.toNat_natCast];have e:(if cp=0 then A else A.map (·.add (0*32)))=A:=by
     split
     ·rfl
     ·cases A<;>simp [add_zero]
    rw [e];exact h
   obtain⟨A1,c1,u2,kQ,fz,Kl,kZ⟩:=cD (cx:=cp-0) az (bQ.nil t t.heap.size) xn (by simp;omega) (Nat.le_refl _);have k2:Kept Nil t u2:=Kept.dM (Kept.refl _ _) Kl (fun k hk=>by cases hk);rw [Nat.zero_add,Nat.sub_zero,Int.toNat_natCast]at kQ fz;rw [List.nil_append]at fz;refine⟨A1,_,c1,u2,by rw [Nat.sub_zero,Int.toNat_natCast];exact kQ,?_⟩;refine⟨z.1,⟨z.2.1,Cells.bC ((kt.tt k2).heap nz (fun h=>h))⟩,z.2.1,?_⟩;intro u3;have k3:Kept Nil u2 u3:=(Kept.refl _ _).alloc _;have Us:HS u3 (some ⟨u2.heap.size,0,none⟩) 1 [z]:=iq u2 z;clear_value u3;have lX:bQ u3 t.heap.size A1 q c1 (M.take q):=Row.aC fz k3 (fun _ _ h=>h);have s2:=k2.size;have s3:=k3.size;obtain⟨A4,c4,u4,xR,jI,C1,aiL⟩:=cD (cx:=1) az lX Us (by omega) (by omega);have JB:Kept Nil t u4:=Kept.dM (k2.tt k3) C1 (fun k hk=>by rcases kZ k hk with h|h;cases h;exact h);have V4:=Vt.same JB;refine⟨A4,_,c4,u4,xR,A,n,cp,V4.f33,⟨by omega,by omega⟩,?_⟩;have Qf:HS u4 (if cp=(q:Int).toNat then A else A.map (·.add ((q:Int).toNat*32))) (n-(q:Int).toNat) (M.drop q):=by
    rw [Int.toNat_natCast];exact(wV.hs.same JB).drop Hr (by omega)
   have hdl:(n-(q:Int).toNat)=n-q:=by rw [Int.toNat_natCast]
   have s4:=JB.size;obtain⟨A5,c5,u5,sT,kO,TS,aiK⟩:=cD (cx:=cp-(q:Int).toNat) az jI Qf (by omega) s4;have Va:∀j,bg A4=some j->t.heap.size<=j:=fun j hj=>(Row.bC jI hj).1;have k5':Kept Nil t u5:=Kept.dM JB TS Va;have Fz:=Vt.same k5';refine⟨A5,_,c5,u5,sT,Fz.wrx (by omega),?_⟩;have mu:M.take q++ [z]++M.drop q=M.take q++z::M.drop q:=by simp
   have xS:(M.take q++z::M.drop q).length=n+1:=by simp;omega
   rw [mu]at kO;have e5:q+1+(n-(q:Int).toNat)=n+1:=by omega
   rw [e5]at kO⊢;have EG:∀j,bg A5=some j->t.heap.size<=j:=fun j hj=>(Row.bC kO hj).1;have ks:=Fz.MR 33 (.slice A5 (n+1) c5);have Vf:VJ (u5.setCell ((⟨xb,0,none⟩:Addr).add 33) (.slice A5 (n+1) c5)) B0 xb rb ⟨s,G.score s+1,M.take q++z::M.drop q,[]⟩ A5 (n+1) c5 none 0 0 W nw cw wd:=by
    have xB:=Fz.xB;refine⟨?_,?_,Row.aC Fz.bl ks (fun j hj=>by cases hj),Row.aC Fz.wr ks (fun j hj e=>by have:=(Row.bC Fz.wr hj).1;omega),ks.heap Fz.box Fz.xr.symm,fun j hj e=>(by cases e),fun j hj e=>?_,fun j hj=>(by cases hj),Fz.xB,Fz.rB,Fz.xr⟩
    ·rw [a8,cV Fz.top]
     have:=qo ⟨s,G.score s+1,M,[]⟩ A n cp none 0 0 #[] A5 (n+1) c5;rw [Array.append_empty,Array.append_empty]at this;rw [this];rfl
    ·have Sw:bQ u5 B0 A5 (n+1) c5 (M.take q++z::M.drop q):=Row.base kO (fun j hj=>by have:=EG j hj;omega)
     exact Row.aC Sw ks (fun j hj e=>by have:=EG j hj;omega)
    ·obtain⟨_,cur,hc⟩:=Row.bC Vt.wr e
     have:=aQ hc;have:=EG j hj;omega
   generalize u5.setCell ((⟨xb,0,none⟩:Addr).add 33) (.slice A5 (n+1) c5)=u6 at ks Vf⊢;obtain⟨s1,e1,e2,e3⟩:=next Vf (PJ Eu G3 uB) (fun z'=>by
    rw [EM,List.mem_append (s:=all.take i),List.mem_singleton];have hM2:z'∈M.take q++z::M.drop q↔z'=z\/z'∈M:=by
     rw [List.mem_append,List.mem_cons];constructor
     ·rintro(h|h|h)
      ·exact .inr (List.mem_of_mem_take h)
      ·exact .inl h
      ·exact .inr (List.mem_of_mem_drop h)
     ·rintro(h|h)
      ·exact .inr (.inl h)
      ·rw [<-List.take_append_drop q M,List.mem_append]at h
       exact h.imp (fun h=>h) (fun h=>.inr h)
    rw [hM2,gB];constructor
    ·rintro(rfl|⟨a,b⟩)
     ·exact⟨.inr rfl,CL,hzA⟩
     ·exact⟨.inl a,b⟩
    ·rintro⟨a|rfl,b⟩
     ·exact .inr ⟨a,b⟩
     ·exact .inl rfl) ((RA.trans k5' (fun _ _ h=>h.elim)).tt ks)
   rw [e1];exact⟨s1,rfl,e2,e3⟩
  intro w6;have k6:Kept Nil u w6:=(Kept.refl _ _).drew;clear_value w6;have Jt:=ku.tt k6;have V6:=V5.same Jt;have P1:=yT.trans Jt (fun _ _ h=>h.elim);refine Split.dec (fun iX=>?_) (fun zi=>?_)
  ·have SM:0<q:=by omega
   obtain⟨y1,NR⟩:∃y1,M[q-1]? =some y1:=⟨_,List.getElem?_eq_getElem (by omega)⟩;have Lq:=List.mem_of_getElem? NR;rw [wN (x:=(q:Int)-1) (i:=q-1) (by omega) (by omega)];refine⟨z.1,⟨z.2.1,Cells.bC (Jt.heap nz (fun h=>h))⟩,A,n,cp,V6.f33,(bQ.hs V6.mg).load (i:=((q-1:Nat):Int)) (by omega) (by rw [Int.toNat_natCast];exact NR) ?_⟩;refine pN (hR P1) (by omega) Ep (hMi y1 Lq) fun w7 k7=>⟨_,rfl,?_⟩;have ku7:=Jt.tt k7;refine Split.mk (fun hc=>?_) (fun hc=>?_)
   ·refine⟨((q-1:Nat):Int),rfl,⟨q-1,rfl,by omega,fun z' xP=>?_,ku7⟩,by simp only;omega⟩
    have hd:M.drop (q-1)=y1::M.drop q:=by
     obtain⟨h1,h2⟩:=lgeS NR;rw [List.drop_eq_getElem_cons h1,h2,show q-1+1=q by omega]
    rw [hd]at xP;rcases List.mem_cons.1 xP with rfl|xP
    ·exact hc
    ·exact uB z' xP
   ·rw [aP,af.jB]
    refine uA ku7 fun z' xP=>?_;have CN:gl G y1 z=true:=by
     cases hg:gl G y1 z
     ·exact absurd (oU hc hg) (fun e=>hzM (by rw [e];exact Lq))
     ·rfl
    obtain⟨j,hj⟩:=List.mem_iff_getElem?.1 xP;rw [List.getElem?_take]at hj;split at hj
    ·rename_i hjq
     by_cases e:j=q-1
     ·subst e;rw [NR]at hj;cases hj;exact CN
     ·obtain⟨a1,a2⟩:=lgeS hj
      obtain⟨b1,b2⟩:=lgeS NR;have:=List.pairwise_iff_getElem.1 Eu j (q-1) a1 b1 (by omega);rw [a2,b2]at this;exact oT this CN
    ·cases hj
  ·rw [aP,af.jB]
   have SM:q=0:=by omega
   refine uA Jt fun z' xP=>?_;rw [SM]at xP;simp at xP
 ·rw [aP,af.dh]
  rw [List.take_of_length_le (by omega)]at gB;exact hK v A n cp M (i:Int) Eu gB Vv kv
end
section
variable{w w':World}{F F' S:Nat->Prop}{r x k:Nat}{G:GS}{K:Value->World->Prop}{xb rb sb n cx:Nat}{A:Option Addr}{s:HT}{l:List HT}
theorem MH{v:World}(h:R3 v F r x k G)(hD:G.D.length<=300)(pS:k<=1000)(hs:s∈ids G.D)(hl:HS v A n l)(hn:n<=5000)(fF:∀z∈l,z∈ids G.D)(gR:∀j,(j=r\/j=x\/F j)->j≠xb/\j≠rb)
 (G5:v.heap[sb]? =some (.cells s.1 aj (0,0))) (zf:v.heap[rb]? =some (.cells zC bf (0,0))) (Wj:v.heap[xb]? =some (.cells (cF ⟨s,G.score s+1,[],[]⟩ none 0 0 none 0 0) bf (0,0))) (Qd:sb≠xb) (hrx:xb≠rb)
 (hK:∀u A n cp E e ce W nw cw,bQ u v.heap.size A n cp (cQ k G s l).merge->Row u v.heap.size gM 1 E e ce (qW (cQ k G s l).dg)->bQ u v.heap.size W nw cw (fg k G s l).wd->Kept (fun j=>j=xb\/j=rb) v u->K (.tuple #[.agg (cF (cQ k G s l) A n cp E e ce),.slice W nw cw]) u):
 af.J1 (some ⟨r,0,none⟩) A n cx ⟨sb,0,none⟩ ⟨rb,0,none⟩ none 0 0 ⟨xb,0,none⟩ K v:=by
 have W0:=h.eo.W;have lsb:=aQ G5;have lrb:=aQ zf;have lxb:=aQ Wj;have Wl:=pe h.eo hs;have j2:∀ {u:World} {W:Option Addr} {nw cw:Nat},bQ u v.heap.size W nw cw (G.world s++ [s])->Kept Nil v u->af.J2 (some ⟨r,0,none⟩) A n cx ⟨sb,0,none⟩ ⟨rb,0,none⟩ none 0 0 ⟨xb,0,none⟩ W nw cw K u:=by
  intro u W nw cw XQ ku;have hu:=h.same ku;have su:=ku.size;unfold af.J2;refine Is.mk rfl ⟨_,hu.c1,Is.mk rfl ?_⟩;rw [add_zero];refine mI hu.X.gr W0 (by omega) (hl.same ku) (by omega) fun A1 c1 w1 jW k1=>⟨A1,_,c1,rfl,?_⟩;have pH:(cy G.D l).length<=300:=Nat.le_trans (jK _ _) hD;have s1:=k1.size;have Cz:=ku.tt k1;obtain⟨A2,c2,w2,ju,fz,g2,_⟩:=cD az jW (cx:=cx) (hl.same Cz) (by omega) s1;have k2:Kept Nil u w2:=Kept.dM k1 g2 (fun j hj=>(Row.bC jW hj).1);refine⟨A2,_,c2,w2,ju,?_⟩;refine nu fz.hs (by omega) fun A3 c3 w3 lX k3=>⟨A3,_,c3,rfl,?_⟩;have La:=k2.tt k3;have oO:=ku.tt La;have h3:=h.same oO;have cY:∀z∈de (cy G.D l++l),z∈ids G.D:=fun z hz=>by
   rcases List.mem_append.1 (df.1 hz)with hz|hz
   ·exact(iw.1 hz).1
   ·exact fF z hz
  have V3:VJ w3 v.heap.size xb rb ⟨s,G.score s+1,[],[]⟩ none 0 0 none 0 0 W nw cw (G.world s++ [s]):=
   ⟨oO.heap Wj (fun h=>h),bQ.nil _ _,Row.nil _ _ _ _,Row.aC XQ La (fun _ _ h=>h),oO.heap zf (fun h=>h),fun j hj=>(by cases hj),fun j hj=>(by cases hj),fun j hj=>(by cases hj),lxb,lrb,hrx⟩
  have s3:=oO.size;refine Dy h3 (by omega) (by omega) (fun j hj=>(gR j hj).1) hs (oO.heap G5 (fun h=>h)) Qd lX.hs (fun a ha e=>by
   subst ha;have:=(Row.bC lX (k:=a.block) rfl).1;have:=(ku.tt k2).size;omega) (gN _) cY V3 fun t A n cp M i Eu gB Vt kt=>?_
  have hM:M=cC G s l:=rJ Eu fun z=>by
   rw [gB];unfold rI;rw [List.mem_filter,decide_eq_true_eq]
  subst hM;have ht:=h3.aC kt (gR r (.inl rfl)).1 (gR x (.inr (.inl rfl))).1 (fun j hj=>(gR j (.inr (.inr hj))).1);have st:=kt.size;refine Dx (B0:=v.heap.size) ht (by omega) pS (by omega) (fun j hj=>⟨?_,gR j hj⟩) (fun z hz=>?_) hs Vt fun t2 E e ce W nw cw V2 y0=>?_
  ·rcases hj with rfl|rfl|hj
   ·exact h.lt
   ·exact h.lx
   ·exact h.lo j hj
  ·exact cY z ((gB z).1 hz).1
  ·have box:=V2.box
   obtain⟨_,_,f3⟩:=dT box (cs:=cF (cQ k G s l) A n cp E e ce) (by rw [aX];rfl);refine hK _ A n cp E e ce W nw cw (Row.aC V2.mg f3 (fun j hj e=>by have:=(Row.bC V2.mg hj).1;omega)) (Row.aC V2.bl f3 (fun j hj e=>by have:=(Row.bC V2.bl hj).1;omega)) (Row.aC V2.wr f3 (fun j hj e=>by have:=(Row.bC V2.wr hj).1;omega)) ?_;exact((oO.mono fun _ _ h=>h.elim).trans kt (fun j hj e=>.inl e)).trans y0 (fun j hj e=>by
    rcases e with e|e|e
    ·exact .inl e
    ·exact .inr e
    ·omega)
 unfold af.J1;intro w1;have k1:Kept Nil v w1:=(Kept.refl _ _).drew;clear_value w1;have h1:=h.same k1;obtain⟨i,nd,cl,wl,q1,q2,q3,q4,q5,q6,q7,q8⟩:=Ms h.eo hs;obtain⟨A0,c0,B,e,g1,g2,g3⟩:=h.top;have cB:∀ {u:World},Kept Nil v u->u.cell? ((⟨r,0,none⟩:Addr).add 3)=some (.slice B G.D.length e):=fun ku=>by rw [a8,ay (ku.heap g1 (fun h=>h))];rfl
 have gW:∀ {u:World},Kept Nil v u->o8 u F B G.D.length G.ja:=fun ku=>g3.aC ku (fun _ _ h=>h);obtain⟨aB,Aw,nw,cw,p1,p2,p3,p4,p5,p6⟩:=g3.at_ i wl q4;subst p1;have ag0:wl.length=nw:=p5.len;rw [q7]at Wl;have cW:∀ {u:World},Kept Nil v u->u.cell? (aB.add (((i:Nat):Int).toNat*1))=some (.slice Aw nw cw):=fun ku=>by rw [Int.toNat_natCast];exact ku.cell p4 (fun h=>h)
 have hW:∀ {u:World},Kept Nil v u->HS u Aw nw wl:=fun ku=>p5.same ku;have bx:∀ {u:World},Kept Nil v u->∃cs:Array Value,(.agg s.1:Value)=.agg cs/\cs.size=32/\Cells u ⟨sb,0,none⟩ cs:=fun ku=>⟨_,rfl,s.2.1,Cells.bC (ku.heap G5 (fun h=>h))⟩;have PD:∀ {u:World},Kept Nil v u->∃A' c' u',(Builtin.append_ #[az,az] az #[.slice none 0 0,.slice Aw nw cw]).run prog u=.ok (.slice A' nw c') u'/\bQ u' v.heap.size A' nw c' wl/\Kept Nil u u':=fun {u} ku=>by
  obtain⟨A',c',u',hr,row,hg,_⟩:=cD (cx:=cw) az (bQ.nil u v.heap.size) (hW ku) (by omega) ku.size;rw [Nat.zero_add]at hr row;rw [List.nil_append]at row;exact⟨A',c',u',hr,row,Kept.dM (Kept.refl _ _) hg (fun j hj=>by cases hj)⟩
 have PC:∀ {u:World} {A':Option Addr} {c' bq:Nat},Kept Nil v u->bQ u v.heap.size A' nw c' wl->HS u (some ⟨bq,0,none⟩) 1 [s]->∃A2 c2 u',(Builtin.append_ #[az,az] az #[.slice A' nw c',.slice (some ⟨bq,0,none⟩) 1 1]).run prog u=.ok (.slice A2 (nw+1) c2) u'/\bQ u' v.heap.size A2 (nw+1) c2 (G.world s++ [s])/\Kept Nil v u':=fun {u A' c' bq} ku row hx=>by
  obtain⟨A2,c2,u',hr,fz,hg,_⟩:=cD (cx:=1) az row hx (by omega) ku.size;rw [<-q7]at fz;exact⟨A2,c2,u',hr,fz,Kept.dM ku hg (fun j hj=>(Row.bC row hj).1)⟩
 refine Is.mk rfl ⟨some aB,_,e,cB k1,Is.mk rfl ⟨_,h1.c1,Is.mk rfl ⟨s.1,⟨s.2.1,Cells.bC (k1.heap G5 (fun h=>h))⟩,s.1,⟨s.2.1,Cells.bC (k1.heap G5 (fun h=>h))⟩,?_,?_⟩⟩⟩
 ·rw [add_zero]
  refine oB h1.X.gr (by omega) s fun w2 k2=>⟨_,rfl,?_⟩;have xN:=k1.tt k2;rw [q5];refine⟨bx xN,cB xN,⟨by omega,by omega⟩,Is.mk rfl ⟨Aw,nw,cw,cW xN,?_,?_⟩⟩
  ·obtain⟨A1,c1,w3,CO,lX,k3⟩:=PD xN
   have oO:=xN.tt k3;refine⟨A1,nw,c1,w3,CO,bx oO,s.2.1,?_⟩;intro w4;have k4:Kept Nil w3 w4:=(Kept.refl _ _).alloc _;have Se:=iq w3 s;obtain⟨A2,c2,w5,sT,kO,k5⟩:=PC (oO.tt k4) (Row.aC lX k4 (fun _ _ h=>h)) Se;exact⟨A2,nw+1,c2,w5,sT,af.pR (j2 kO k5)⟩
  ·refine⟨s.2.1,?_⟩
   intro w3;have k3:Kept Nil w2 w3:=(Kept.refl _ _).alloc _;have zc:HS w3 (some ⟨w2.heap.size,0,none⟩) 1 [s]:=iq w2 s;clear_value w3;have oO:=xN.tt k3;obtain⟨A1,c1,w4,xR,jI,k4⟩:=PD oO;obtain⟨A2,c2,w5,sT,kO,k5⟩:=PC (oO.tt k4) jI (zc.same k4);exact⟨cW oO,cB oO,A1,nw,c1,w4,xR,A2,nw+1,c2,w5,sT,af.pR (j2 kO k5)⟩
 ·refine⟨s.2.1,?_⟩
  intro w2;have k2:Kept Nil w1 w2:=(Kept.refl _ _).alloc _;have Lu:HS w2 (some ⟨w1.heap.size,0,none⟩) 1 [s]:=iq w1 s;clear_value w2;have xN:=k1.tt k2;refine⟨bx xN,(h.same xN).c1,cB xN,?_⟩;rw [add_zero];refine oB (h.same xN).X.gr (by omega) s fun w3 k3=>⟨_,rfl,?_⟩;have oO:=xN.tt k3;rw [q5];obtain⟨A1,c1,w4,xR,jI,k4⟩:=PD oO;obtain⟨A2,c2,w5,sT,kO,k5⟩:=PC (oO.tt k4) jI ((Lu.same k3).same k4);exact⟨cB oO,⟨by omega,by omega⟩,Is.mk rfl ⟨Aw,nw,cw,cW oO,A1,nw,c1,w4,xR,A2,nw+1,c2,w5,sT,af.pR (j2 kO k5)⟩⟩
theorem vm(h:R3 w F r x k G)(hD:G.D.length<=300)(pS:k<=1000)(hs:s∈ids G.D)(hl:HS w A n l)(hn:n<=5000)(fF:∀z∈l,z∈ids G.D)
 (hK:∀u A n cp E e ce W nw cw,bQ u w.heap.size A n cp (cQ k G s l).merge->Row u w.heap.size gM 1 E e ce (qW (cQ k G s l).dg)->bQ u w.heap.size W nw cw (fg k G s l).wd->Kept Nil w u->K (.tuple #[.agg (cF (cQ k G s l) A n cp E e ce),.slice W nw cw]) u):
 bk prog af.id #[.pointer (some ⟨r,0,none⟩),.agg s.1,.slice A n cx] w K:=by
 refine af.of ?_;unfold af.W;intro w1 w2 w3;have k1:Kept Nil w w1:=(Kept.refl _ _).alloc _;have xn:w1.heap[w.heap.size]? =some (.cells s.1 aj (0,0)):=aJ w _;have k2:Kept Nil w1 w2:=(Kept.refl _ _).alloc _;have ju:w2.heap[w1.heap.size]? =some (.cells zC bf (0,0)):=aJ w1 _;have k3:Kept Nil w2 w3:=(Kept.refl _ _).drew;clear_value w3;have CO:=k3.heap ju (fun h=>h);have Bc:=k3.heap (k2.heap xn (fun h=>h)) (fun h=>h);have mh:=(k1.tt k2).tt k3;have s1:=k1.size;have l1:=aQ xn;have l2:=aQ CO;clear_value w2 w1;have Bb:=yq h.eo hs;have ew:u64.wrap ((G.score s:Int)+(1:Int))=((G.score s+1:Nat):Int):=by
  rw [show(G.score s:Int)+1=((G.score s+1:Nat):Int)by omega];exact jk (by omega)
 have EN:(s.1++ #[.int .u64 ((G.score s+1:Nat):Int),.slice none 0 0,.slice none 0 0]:Array Value)=cF ⟨s,G.score s+1,[],[]⟩ none 0 0 none 0 0:=rfl;have go:∀ {u:World} {xb:Nat},Kept Nil w3 u->w3.heap.size<=xb->u.heap[xb]? =some (.cells (cF ⟨s,G.score s+1,[],[]⟩ none 0 0 none 0 0) bf (0,0))->af.J1 (some ⟨r,0,none⟩) A n cx ⟨w.heap.size,0,none⟩ ⟨w1.heap.size,0,none⟩ none 0 0 ⟨xb,0,none⟩ K u:=fun {u xb} ku hx Wj=>by
  have Nu:=mh.tt ku;have s0:=mh.size;refine MH (h.same Nu) hD pS hs (hl.same Nu) hn fF (fun j hj=>?_) (ku.heap Bc (fun h=>h)) (ku.heap CO (fun h=>h)) Wj (by omega) (by omega) fun t A n cp E e ce W nw cw g1 g2 g3 g4=>?_
  ·have:j<w.heap.size:=by
    rcases hj with rfl|rfl|hj
    ·exact h.lt
    ·exact h.lx
    ·exact h.lo j hj
   exact⟨by omega,by omega⟩
  ·have s0u:=Nu.size
   exact hK t A n cp E e ce W nw cw (Row.base g1 (fun j hj=>by have:=(Row.bC g1 hj).1;omega)) (Row.base g2 (fun j hj=>by have:=(Row.bC g2 hj).1;omega)) (Row.base g3 (fun j hj=>by have:=(Row.bC g3 hj).1;omega)) (Nu.trans g4 (fun j hj e=>by rcases e with e|e<;>omega))
 have bx:∀ {u:World},Kept Nil w3 u->∃cs:Array Value,(.agg s.1:Value)=.agg cs/\cs.size=32/\Cells u ⟨w.heap.size,0,none⟩ cs:=fun ku=>⟨_,rfl,s.2.1,Cells.bC (ku.heap Bc (fun h=>h))⟩;refine⟨s.1,⟨s.2.1,Cells.bC Bc⟩,s.1,⟨s.2.1,Cells.bC Bc⟩,?_,?_⟩
 ·refine jJ (h.same mh) (by omega) hs fun w4 k4=>⟨_,rfl,bx k4,?_⟩
  rw [ew,uW s];refine Is.mk rfl ?_;rw [EN];intro w5;have k5:Kept Nil w4 w5:=(Kept.refl _ _).alloc _;have Qb:w5.heap[w4.heap.size]? =some (.cells zC bf (0,0)):=aJ w4 _;clear_value w5;have lW:=k4.tt k5;obtain⟨t1,t2,t3⟩:=dT Qb (cs:=cF ⟨s,G.score s+1,[],[]⟩ none 0 0 none 0 0) (by rw [aX];rfl);refine⟨bx lW,⟨aX ..,dP _ _ _ _ _ _ _,fun j hj=>t1 j (by rw [aX];exact hj)⟩,?_⟩;have s4:=k4.size;exact af.nI (go (lW.trans t3 (fun j hj e=>by omega)) s4 t2)
 ·intro w4
  have k4:Kept Nil w3 w4:=(Kept.refl _ _).alloc _;have Se:w4.heap[w3.heap.size]? =some (.cells zC bf (0,0)):=aJ w3 _;clear_value w4;refine⟨bx k4,bx k4,?_⟩;refine jJ (h.same (mh.tt k4)) (by omega) hs fun w5 k5=>⟨_,rfl,bx (k4.tt k5),?_⟩;have lW:=k4.tt k5;rw [ew,uW s];refine Is.mk rfl ?_;rw [EN];obtain⟨t1,t2,t3⟩:=dT (k5.heap Se (fun h=>h)) (cs:=cF ⟨s,G.score s+1,[],[]⟩ none 0 0 none 0 0) (by rw [aX];rfl);refine⟨⟨aX ..,dP _ _ _ _ _ _ _,fun j hj=>t1 j (by rw [aX];exact hj)⟩,?_⟩;exact af.nI (go (lW.trans t3 (fun j hj e=>by omega)) (Nat.le_refl _) t2)
end
theorem Cf:xY prog tf bf 35 88:=⟨by kernel_rfl,by kernel_rfl⟩
theorem QZ:xY prog fj az 1 24:=⟨by kernel_rfl,by kernel_rfl⟩
section
variable{w w':World}{F F' S:Nat->Prop}{A:Option Addr}{n c B m bytes:Nat}{tS tE:TypeId}{news:List Value}
theorem yp{a:Addr}(P:Nat->Array Value->Prop):∀n,(∀i,i<n->∃arr:Array Value,arr.size=m/\(∀u∈arr.toList,u.oneCell'=true)/\Cells w (a.add (i*m)) arr/\P i arr)->
 ∃news:List Value,news.length=n*m/\(∀j u,news[j]? =some u->w.cell? (a.add j)=some u)/\(∀u∈news,u.oneCell'=true)/\∀i,i<n->∃arr:Array Value,P i arr/\arr.size=m/\∀(j:Nat) v,arr[j]? =some v->news[i*m+j]? =some v
 |0,_=>⟨[],by simp,fun j u h=>by simp at h,fun u h=>by simp at h,fun i h=>by omega⟩
 |n+1,H=>by
  obtain⟨news,h1,h2,h3,h4⟩:=yp P n fun i hi=>H i (by omega);obtain⟨arr,g1,g2,g3,g4⟩:=H n (by omega);refine⟨news++arr.toList,by rw [List.length_append,h1,Array.length_toList,g1,Nat.add_mul,Nat.one_mul],fun j u hj=>?_,fun u hu=>?_,fun i hi=>?_⟩
  ·rw [List.getElem?_append]at hj
   split at hj
   ·exact h2 j u hj
   ·rename_i fV
    rw [h1]at hj fV;have:=g3 (j-n*m) u (by simpa using hj)
    rwa [kK,show n*m+(j-n*m)=j by omega]at this
  ·rcases List.mem_append.1 hu with hu|hu
   ·exact h3 u hu
   ·exact g2 u hu
  ·by_cases fF:i<n
   ·obtain⟨ar,q1,q2,q3⟩:=h4 i fF
    exact⟨ar,q1,q2,fun j v hj=>by
     have:=q3 j v hj;rw [List.getElem?_append_left (lgeS this).1];exact this⟩
   ·obtain rfl:i=n:=by omega
    exact⟨arr,g4,g1,fun j v hj=>by
     rw [List.getElem?_append_right (by omega),h1,show i*m+j-i*m=j by omega,Array.getElem?_toList];exact hj⟩
theorem xH(T:xY prog tS tE m bytes)(hb:bytes<=1000)(hn:n<=100000){a:Addr}{cx:Nat}(P:Nat->Array Value->Prop)(H:∀i,i<n->∃arr:Array Value,arr.size=m/\(∀u∈arr.toList,u.oneCell'=true)/\Cells w (a.add (i*m)) arr/\P i arr):
 ∃A' c' w' news,(Builtin.append_ #[tS,tS] tS #[.slice none 0 0,.slice (some a) n cx]).run prog w=.ok (.slice A' n c') w'/\Row w' w.heap.size tE m A' n c' news/\Kept Nil w w'/\∀i,i<n->∃arr:Array Value,P i arr/\arr.size=m/\∀(j:Nat) v,arr[j]? =some v->news[i*m+j]? =some v:=by
 obtain⟨news,e1,e2,e3,e4⟩:=yp (w:=w) (m:=m) P n H;obtain⟨A',c',w',hr,e8,hg,_⟩:=fi (P:=prog) (ty:=tS) T (Row.nil w w.heap.size _ _) (a:=a) (m:=n) (cx:=cx) (news:=news) e1 e2 e3 (by rw [Nat.zero_add];have:=Nat.mul_le_mul hn hb;omega) (by unfold maxLen;omega) (Nat.le_refl _);rw [Nat.zero_add]at hr e8;rw [List.nil_append]at e8;exact⟨A',c',w',news,hr,e8,Kept.dM (Kept.refl _ _) hg (fun j hj=>by cases hj),e4⟩
theorem xG(T:xY prog tS tE m bytes)(hb:bytes<=1000)(hn:n<=100000)(h:Row w B tE m A n c news)(hB:B<=w.heap.size){b:Nat}{arr:Array Value}{t:TypeId}(iD:w.heap[b]? =some (.cells arr t (0,0)))(hs:arr.size=m)(h1:∀u∈arr.toList,u.oneCell'=true):
 ∃A' c' w',(Builtin.append_ #[tS,tS] tS #[.slice A n c,.slice (some ⟨b,0,none⟩) 1 1]).run prog w=.ok (.slice A' (n+1) c') w'/\Row w' B tE m A' (n+1) c' (news++arr.toList)/\w.grownBy w' (bg A):=by
 obtain⟨A',c',w',hr,e8,hg,_⟩:=fi (P:=prog) (ty:=tS) T h (a:=⟨b,0,none⟩) (m:=1) (cx:=1) (news:=arr.toList) (by simpa using hs)
  (fun j u hj=>by rw [a8,Nat.zero_add,ay iD];simpa using hj) h1 (by have:=Nat.mul_le_mul (show n+1<=100001 by omega) hb;omega) (by unfold maxLen;omega) hB
 exact⟨A',c',w',hr,e8,hg⟩
def Io(w:World)(F:Nat->Prop)(l:List nZ)(i:Nat)(arr:Array Value):Prop:=∃x A1 n1 c1 B1 m1 d1,l[i]? =some x/\arr=cF x A1 n1 c1 B1 m1 d1/\HS w A1 n1 x.merge/\Bo w B1 m1 x.dg/\(∀b,A1=some b->F b.block)/\(∀b,B1=some b->F b.block)
def PI(w:World)(F:Nat->Prop)(l:List (List HT))(i:Nat)(arr:Array Value):Prop:=∃x A1 n1 c1,l[i]? =some x/\arr= #[.slice A1 n1 c1]/\HS w A1 n1 x/\(∀b,A1=some b->F b.block)
theorem qu.yp{l:List nZ}(h:qu w F A n l):(0<n->∃a,A=some a)/\∀a,A=some a->∀i,i<n->∃arr:Array Value,arr.size=35/\(∀u∈arr.toList,u.oneCell'=true)/\Cells w (a.add (i*35)) arr/\Io w F l i arr:=by
 have hl:=h.len;refine⟨fun h0=>?_,fun a ha i hi=>?_⟩
 ·obtain⟨x,hx⟩:∃x,l[0]? =some x:=⟨_,List.getElem?_eq_getElem (by omega)⟩
  obtain⟨a,_,_,_,_,_,_,g1,_⟩:=h.at_ 0 x hx;exact⟨a,g1⟩
 ·obtain⟨x,hx⟩:∃x,l[i]? =some x:=⟨_,List.getElem?_eq_getElem (by omega)⟩
  obtain⟨a',A1,n1,c1,B1,m1,d1,g1,g2,g3,g4,g5,g6,g7,g8⟩:=h.at_ i x hx;rw [ha]at g1;cases g1;exact⟨_,aX ..,dP _ _ _ _ _ _ _,g4,x,A1,n1,c1,B1,m1,d1,hx,rfl,g5,g6,g7,g8⟩
theorem o8.yp{l:List (List HT)}(h:o8 w F A n l):(0<n->∃a,A=some a)/\∀a,A=some a->∀i,i<n->∃arr:Array Value,arr.size=1/\(∀u∈arr.toList,u.oneCell'=true)/\Cells w (a.add (i*1)) arr/\PI w F l i arr:=by
 have hl:=h.len;refine⟨fun h0=>?_,fun a ha i hi=>?_⟩
 ·obtain⟨x,hx⟩:∃x,l[0]? =some x:=⟨_,List.getElem?_eq_getElem (by omega)⟩
  obtain⟨a,_,_,_,g1,_⟩:=h.at_ 0 x hx;exact⟨a,g1⟩
 ·obtain⟨x,hx⟩:∃x,l[i]? =some x:=⟨_,List.getElem?_eq_getElem (by omega)⟩
  obtain⟨a',A1,n1,c1,g1,g2,g3,g4,g5,g6⟩:=h.at_ i x hx;rw [ha]at g1;cases g1;refine⟨#[.slice A1 n1 c1],rfl,fun u hu=>?_,fun j u hj=>?_,x,A1,n1,c1,hx,rfl,g5,g6⟩
  ·simp at hu;subst hu;rfl
  ·cases j with
   |zero=>simp at hj;subst hj;rw [add_zero];exact g4
   |succ j=>simp at hj
theorem qu.snoc{l:List nZ}{x:nZ}{A1 B1:Option Addr}{n1 c1 m1 d1:Nat}{w0:World}(h:Row w B bf 35 A (n+1) c (news++(cF x A1 n1 c1 B1 m1 d1).toList))(xS:news.length=n*35)(hl:l.length=n)(k0:Kept Nil w0 w)(hF:∀j,bg A=some j->F' j)(WQ:∀j,F j->F' j)
 (hc:∀i,i<n->∃arr:Array Value,Io w0 F l i arr/\arr.size=35/\∀(j:Nat) v,arr[j]? =some v->news[i*35+j]? =some v)
 (g1:HS w A1 n1 x.merge) (g2:Bo w B1 m1 x.dg) (g3:∀b,A1=some b->F' b.block) (g4:∀b,B1=some b->F' b.block):qu w F' A (n+1) (l++ [x]):=by
 refine⟨by simp [hl],fun i y hi=>?_⟩;obtain⟨b,rfl⟩:=Row.some h (by omega);obtain⟨_,cur,oQ⟩:=Row.bC h (k:=b) rfl;rw [List.getElem?_append]at hi;split at hi
 ·rename_i cH
  obtain⟨arr,⟨y',A2,n2,c2,B2,m2,d2,q1,rfl,q3,q4,q5,q6⟩,q7,q8⟩:=hc i (by omega);rw [hi]at q1;cases q1;exact⟨_,A2,n2,c2,B2,m2,d2,rfl,aQ oQ,hF b rfl,fun j v hj=>by
   rw [kK];have:=q8 j v hj;exact Row.cells h _ _ (by rw [List.getElem?_append_left (lgeS this).1];exact this),q3.same k0,q4.same k0,fun b hb=>WQ _ (q5 b hb),fun b hb=>WQ _ (q6 b hb)⟩
 ·rename_i fV
  have EC:i=n/\y=x:=by
   cases hk:i-l.length with
   |zero=>rw [hk]at hi;exact⟨by omega,by simpa using hi.symm⟩
   |succ k=>rw [hk]at hi;simp at hi
  obtain⟨rfl,rfl⟩:=EC;exact⟨_,A1,n1,c1,B1,m1,d1,rfl,aQ oQ,hF b rfl,fun j v hj=>by
   rw [kK];exact Row.cells h _ _ (by rw [List.getElem?_append_right (by omega),xS,show i*35+j-i*35=j by omega,Array.getElem?_toList];exact hj),g1,g2,g3,g4⟩
theorem o8.snoc{l:List (List HT)}{x:List HT}{A1:Option Addr}{n1 c1:Nat}{w0:World}(h:Row w B az 1 A (n+1) c (news++(#[.slice A1 n1 c1]:Array Value).toList))(xS:news.length=n*1)(hl:l.length=n)(k0:Kept Nil w0 w)(hF:∀j,bg A=some j->F' j)(WQ:∀j,F j->F' j)
 (hc:∀i,i<n->∃arr:Array Value,PI w0 F l i arr/\arr.size=1/\∀(j:Nat) v,arr[j]? =some v->news[i*1+j]? =some v)
 (g1:HS w A1 n1 x) (g3:∀b,A1=some b->F' b.block):o8 w F' A (n+1) (l++ [x]):=by
 refine⟨by simp [hl],fun i y hi=>?_⟩;obtain⟨b,rfl⟩:=Row.some h (by omega);obtain⟨_,cur,oQ⟩:=Row.bC h (k:=b) rfl;rw [List.getElem?_append]at hi;split at hi
 ·rename_i cH
  obtain⟨arr,⟨y',A2,n2,c2,q1,rfl,q3,q4⟩,q7,q8⟩:=hc i (by omega);rw [hi]at q1;cases q1;have:=q8 0 _ rfl;exact⟨_,A2,n2,c2,rfl,aQ oQ,hF b rfl,Row.cells h _ _ (by rw [Nat.add_zero]at this;rw [List.getElem?_append_left (lgeS this).1];exact this),q3.same k0,fun b hb=>WQ _ (q4 b hb)⟩
 ·rename_i fV
  have EC:i=n/\y=x:=by
   cases hk:i-l.length with
   |zero=>rw [hk]at hi;exact⟨by omega,by simpa using hi.symm⟩
   |succ k=>rw [hk]at hi;simp at hi
  obtain⟨rfl,rfl⟩:=EC;exact⟨_,A1,n1,c1,rfl,aQ oQ,hF b rfl,Row.cells h _ _ (by rw [List.getElem?_append_right (by omega),xS,show i*1-i*1=0 by omega];rfl),g1,g3⟩
end
section
variable{w w':World}{F:Nat->Prop}{r x k:Nat}{G:GS}{K:Value->World->Prop}
theorem wZ(root:HT)(k:Nat)(hK:∀v r x F,R3 v F r x k (cS root)->(∀j,F j->w.heap.size<=j)->w.heap.size<=r->w.heap.size<=x->Kept Nil w v->K (.pointer (some ⟨r,0,none⟩)) v):
 bk prog jw.id #[.int .i64 (k:Int),.agg root.1] w K:=by
 refine jw.of ?_;unfold jw.W;intro w1;have k1:Kept Nil w w1:=(Kept.refl _ _).alloc _;have xV:w1.heap[w.heap.size]? =some (.cells root.1 aj (0,0)):=aJ w _;clear_value w1;refine⟨root.1,⟨root.2.1,Cells.bC xV⟩,?_⟩;refine xc root fun w2 x FX hX hFX hx k2=>⟨_,rfl,rfl,?_⟩;have og:=k1.tt k2;intro w3 w4 w5;have k3:Kept Nil w2 w3:=(Kept.refl _ _).alloc _;have Ui:w3.heap[w2.heap.size]? =some (.cells zC bf (0,0)):=aJ w2 _;have k4:Kept Nil w3 w4:=(Kept.refl _ _).alloc _;have hw4:w4.heap[w3.heap.size]? =some (.cells #[.slice none 0 0] az (0,0)):=aJ w3 _;have k5:Kept Nil w4 w5:=(Kept.refl _ _).alloc _;have ht5:w5.heap[w4.heap.size]? =some (.cells #[.int .i64 (k:Int),.pointer (some ⟨x,0,none⟩),.slice (some ⟨w2.heap.size,0,none⟩) 1 1,.slice (some ⟨w3.heap.size,0,none⟩) 1 1] gh (0,0)):=aJ w4 _;clear_value w5;have YV:=k5.heap hw4 (fun h=>h);have Qt:=k5.heap (k4.heap Ui (fun h=>h)) (fun h=>h);have CF:=(k3.tt k4).tt k5;have s02:=og.size;have l3:=aQ Ui;have l4:=aQ hw4;have l5:=aQ ht5;have s1:=k1.size;have s2:=k2.size;have lx:=hX.lt;clear_value w4 w3;refine hK w5 w4.heap.size x (fun j=>FX j\/j=w2.heap.size\/j=w3.heap.size) ⟨⟨some ⟨w2.heap.size,0,none⟩,1,some ⟨w3.heap.size,0,none⟩,1,ht5,⟨rfl,fun i y hi=>?_⟩,⟨rfl,fun i y hi=>?_⟩⟩,(hX.same CF).mono (fun j e=>.inl e) (fun e=>?_),fun e=>?_,by omega,jr k root,fun j e=>?_⟩ (fun j e=>?_) (by omega) (by omega) (og.tt CF)
 ·cases i with
  |zero=>
   have:y=⟨dO,0,[],[]⟩:=by simpa [cS]using hi.symm
   subst this;refine⟨_,none,0,0,none,0,0,rfl,by show w2.heap.size<_;omega,.inr (.inl rfl),fun j u hj=>?_,HS.nil _ _,⟨rfl,fun i b h=>by simp at h⟩,fun b hb=>(by cases hb),fun b hb=>(by cases hb)⟩;rw [Nat.zero_mul,add_zero,a8,Nat.zero_add,ay Qt];exact hj
  |succ i=>simp [cS]at hi
 ·cases i with
  |zero=>
   have:y= []:=by simpa [cS]using hi.symm
   subst this;refine⟨_,none,0,0,rfl,by show w3.heap.size<_;omega,.inr (.inr rfl),?_,HS.nil _ _,fun b hb=>(by cases hb)⟩;rw [Nat.zero_mul,add_zero,ay YV];rfl
  |succ i=>simp [cS]at hi
 ·rcases e with e|e|e
  ·exact hX.gR e
  ·omega
  ·omega
 ·rcases e with e|e|e
  ·have:=(hFX _ e).2;omega
  ·omega
  ·omega
 ·rcases e with e|e|e
  ·have:=(hFX _ e).2;omega
  ·omega
  ·omega
 ·rcases e with e|e|e
  ·have:=(hFX _ e).1;omega
  ·omega
  ·omega
end
section
variable{w w':World}{F:Nat->Prop}{r x k:Nat}{G:GS}{K:Value->World->Prop}{A:Option Addr}{n cx:Nat}{l:List HT}
set_option maxHeartbeats 2000000 in
theorem xa(h:R3 w F r x k G)(hD:G.D.length<=300)(pS:k<=1000)(hl:HS w A n l)(hn:n<=5000)(id:HT)
 (hE:dr G.D id l≠0->∀w',Kept Nil w w'->K (.tuple #[.agg KI,.int .i64 (dr G.D id l)]) w')
 (hO:dr G.D id l=0->∀w' A n c B e ce,R3 w' (fun j=>F j\/(w.heap.size<=j/\j<w'.heap.size)) r x k (dd k G id l)->Kept (fun j=>j=r\/j=x) w w'->HS w' A n (cQ k G (bZ G l) l).merge->Bo w' B e (cQ k G (bZ G l) l).dg->(∀a,A=some a\/B=some a->w.heap.size<=a.block)->K (.tuple #[.agg (cF (cQ k G (bZ G l) l) A n c B e ce),.int .i64 0]) w'):
 bk prog dC.id #[.pointer (some ⟨r,0,none⟩),.agg id.1,.slice A n cx] w K:=by
 have W0:=h.eo.W;have Wu:=h.lt;have LS:=h.lx;refine dC.of ?_;unfold dC.W;intro w1 w2;have k1:Kept Nil w w1:=(Kept.refl _ _).alloc _;have Kg:w1.heap[w.heap.size]? =some (.cells id.1 aj (0,0)):=aJ w _;have k2:Kept Nil w1 w2:=(Kept.refl _ _).alloc _;have ju:w2.heap[w1.heap.size]? =some (.cells zC bf (0,0)):=aJ w1 _;clear_value w2;have Bq:=k2.heap Kg (fun h=>h);have og:=k1.tt k2;have s1:=k1.size;have l1:=aQ Kg;have l2:=aQ ju;clear_value w1;have h2:=h.same og;obtain⟨A0,c0,B0,e0,sl,g1,g2,g3,g4,g5⟩:=h2.X.ex;refine Is.mk rfl ⟨_,h2.c1,Is.mk rfl ⟨#[.slice A0 G.D.length c0],⟨rfl,fun j u hj=>?_⟩,?_⟩⟩
 ·cases j with
  |zero=>simp at hj;subst hj;rw [add_zero,add_zero,ay g1];rfl
  |succ j=>simp at hj
 intro w3;have k3:Kept Nil w2 w3:=(Kept.refl _ _).alloc _;have TU:w3.heap[w2.heap.size]? =some (.cells #[.slice none 0 0] gS (0,0)):=aJ w2 _;clear_value w3;obtain⟨t1,t2,t3⟩:=dT TU (cs:= #[.slice A0 G.D.length c0]) rfl;refine⟨⟨rfl,fun u hu=>by simp at hu;subst hu;rfl,fun j hj=>t1 j hj⟩,?_⟩;intro w4
 replace t2:w4.heap[w2.heap.size]? =some (.cells #[.slice A0 G.D.length c0] gS (0,0)):=t2
 replace t3:Kept (· =w2.heap.size) w3 w4:=t3
 clear_value w4;have pQ:Kept Nil w2 w4:=k3.trans t3 (fun j hj e=>by omega);have rf:=og.tt pQ;have s2:=og.size;refine⟨id.1,⟨id.2.1,Cells.bC (pQ.heap Bq (fun h=>h))⟩,?_⟩;have hIR:tg w4 F w2.heap.size G.D:=⟨⟨A0,c0,_,_,t2,rfl,g2.same pQ⟩,fun e=>by have:=h.lo _ e;omega⟩;refine Cp hIR W0 (by omega) (hl.same rf) (by omega) fun w5 _ k5=>⟨_,rfl,?_⟩;have CF:Kept Nil w2 w5:=pQ.trans k5 (fun j hj e=>by omega);have pG:=og.tt CF;have sT:=CF.heap ju (fun h=>h);have Kf:=CF.heap Bq (fun h=>h);by_cases hc:dr G.D id l≠0
 ·obtain⟨f1,f2,f3⟩:=dT sT (cs:=zC) rfl
  refine Split.yes (by simpa using hc) ⟨⟨rfl,by show ∀u∈(KI:Array Value).toList,_;exact dP _ _ _ _ _ _ _,fun j hj=>f1 j hj⟩,?_⟩;exact⟨_,⟨rfl,Cells.bC f2⟩,hE hc _ (pG.trans f3 (fun j hj e=>by omega))⟩
 have hc:dr G.D id l=0:=by omega
 refine Split.no (by rw [hc];rfl) ?_;obtain⟨_,fC,_,cY⟩:=jP hc;have fF:∀z∈l,z∈ids G.D:=fun z hz=>cY z (df.2 hz);refine sQ (h.same pG) (by omega) (hl.same pG) fC (by omega) fF fun w6 k6=>⟨_,rfl,?_⟩;have Ek:=CF.tt k6;have mM:=og.tt Ek;generalize lK:bZ G l=s;have z6:s∈l:=by rw [<-lK];exact kj fC
 intro w7;have k7:Kept Nil w6 w7:=(Kept.refl _ _).alloc _;have hb7:w7.heap[w6.heap.size]? =some (.cells dO.1 aj (0,0)):=aJ w6 _;clear_value w7;obtain⟨q1,q2,q3⟩:=jg s hb7 rfl;refine⟨q1,?_⟩;intro w8
 replace q2:w8.heap[w6.heap.size]? =some (.cells s.1 aj (0,0)):=q2
 replace q3:Kept (· =w6.heap.size) w7 w8:=q3
 clear_value w8;have Jw:Kept Nil w6 w8:=k7.trans q3 (fun j hj e=>by omega);have GB:=Ek.tt Jw;have vr:=og.tt GB;have s06:=mM.size;have s08:=vr.size;have s28:=GB.size;refine⟨s.1,⟨s.2.1,Cells.bC q2⟩,?_⟩;refine vm (h.same vr) hD pS (fF s z6) (hl.same vr) hn fF fun w9 Am nm cm E e ce Wd nw cw rm rb rw9 k9=>⟨_,Wd,nw,cw,rfl,?_⟩;have JD:=GB.tt k9;have En:=og.tt JD;have s09:=En.size;have s89:=k9.size;intro w10;have ny:Kept Nil w9 w10:=(Kept.refl _ _).alloc _;have aaN:w10.heap[w9.heap.size]? =some (.cells zC bf (0,0)):=aJ w9 _;clear_value w10;obtain⟨f1,f2,f3⟩:=dT aaN (cs:=cF (cQ k G s l) Am nm cm E e ce) (by rw [aX];rfl);refine⟨⟨aX ..,dP _ _ _ _ _ _ _,fun j hj=>f1 j (by rw [aX];exact hj)⟩,?_⟩;intro vS mc
 replace f2:vS.heap[w9.heap.size]? =some (.cells (cF (cQ k G s l) Am nm cm E e ce) bf (0,0)):=f2
 replace f3:Kept (· =w9.heap.size) w10 vS:=f3
 have xO:Kept Nil vS mc:=(Kept.refl _ _).drew;clear_value mc;have Uk:=xO.heap f2 (fun h=>h);have Nh:Kept Nil w9 mc:=(ny.trans f3 (fun j hj e=>by omega)).tt xO;clear_value vS;have Nr:=JD.tt Nh;have rM:=og.tt Nr;have afT:=rM.size;have agl:=aQ Uk;have C9:=h.same rM;refine Is.mk rfl ⟨_,C9.c1,id.1,⟨id.2.1,Cells.bC (Nr.heap Bq (fun h=>h))⟩,s.1,⟨s.2.1,Cells.bC ((k9.tt Nh).heap q2 (fun h=>h))⟩,?_⟩;refine DV C9.X C9.lo (by omega) (hl.same rM) (by omega) fun lV UR ve=>⟨_,rfl,?_⟩;have eX:mX G.D id s l=(dd k G id l).D/\mW G.D G.P id s l=(dd k G id l).P:=by rw [<-lK];exact⟨Ig.symm,Ih.symm⟩
 rw [eX.1,eX.2]at UR;intro hU;have Ix:Kept Nil lV hU:=(Kept.refl _ _).drew;clear_value hU;have y5:Kept (· =x) mc hU:=ve.trans Ix (fun _ _ h=>h.elim);have CJ:Kept (· =x) w hU:=(rM.mono fun _ _ h=>h.elim).tt y5;have acL:=y5.size;have za:=jN (k:=k) (G:=G) (h:=id) (ps:=l) hc;rw [lK]at za;obtain⟨A1,c1,B1,e1,p1,p2,p3⟩:=h.top;have MZ:=CJ.heap p1 h.ne;have MY:qu hU F A1 G.D.length G.pK:=p2.aC CJ (fun j hj e=>h.X.gR (by rw [<-e];exact hj));have XU:o8 hU F B1 G.D.length G.ja:=p3.aC CJ (fun j hj e=>h.X.gR (by rw [<-e];exact hj));have iX:=W0.pos;obtain⟨⟨a1,Qv⟩,LF⟩:=(⟨MY.yp.1 iX,MY.yp.2⟩:(∃a,A1=some a)/\_);subst Qv;have OY:=y5.heap Uk (by omega);have Zr:=y5.heap (Nr.heap ju (fun h=>h)) (by omega);have bm:∀j,bg Am=some j->w8.heap.size<=j/\j<w9.heap.size:=fun j hj=>by obtain⟨z1,cur,z2⟩:=Row.bC rm hj;exact⟨z1,aQ z2⟩
 have bb:∀j,bg E=some j->w8.heap.size<=j/\j<w9.heap.size:=fun j hj=>by obtain⟨z1,cur,z2⟩:=Row.bC rb hj;exact⟨z1,aQ z2⟩
 have bw:∀j,bg Wd=some j->w8.heap.size<=j/\j<w9.heap.size:=fun j hj=>by obtain⟨z1,cur,z2⟩:=Row.bC rw9 hj;exact⟨z1,aQ z2⟩
 have Ju:Kept (· =x) w9 hU:=(Nh.mono fun _ _ h=>h.elim).tt y5;have afy:=Ju.size;have Rm:HS hU Am nm (cQ k G s l).merge:=(bQ.hs rm).aC Ju (fun a ha e=>by have:=bm a.block (by rw [ha];rfl);omega);have Vz:Bo hU E e (cQ k G s l).dg:=(Row.bo rb).aC Ju (fun a ha e=>by have:=bb a.block (by rw [ha];rfl);omega);have Xr:HS hU Wd nw (fg k G s l).wd:=(bQ.hs rw9).aC Ju (fun a ha e=>by have:=bw a.block (by rw [ha];rfl);omega);have bF:∀ {A:Option Addr} {b:Addr},(∀j,bg A=some j->w8.heap.size<=j/\j<w9.heap.size)->A=some b->w.heap.size<=b.block/\b.block<hU.heap.size:=fun hA hb=>by
  have:=hA _ (by rw [hb];rfl);omega
 rw [lK]at hO;have tail:∀ {u:World} {Aa:Option Addr} {ca:Nat} {news:List Value},Row u hU.heap.size bf 35 Aa (G.D.length+1) ca (news++(cF (cQ k G s l) Am nm cm E e ce).toList)->news.length=G.D.length*35->(∀i,i<G.D.length->∃arr:Array Value,Io hU F G.pK i arr/\arr.size=35/\∀(j:Nat) v,arr[j]? =some v->news[i*35+j]? =some v)->Kept Nil hU u->
  Wr u ((⟨r,0,none⟩:Addr).add 2)/\let a3:=u.setCell ((⟨r,0,none⟩:Addr).add 2) (.slice Aa (G.D.length+1) ca);Is (some (⟨r,0,none⟩:Addr)) fun b3:Addr=>∃c3:Option Addr,∃d3 e3:Nat,a3.cell? (b3.add 3)=some (.slice c3 d3 e3)/\∃(f3:Option Addr) (g3 i3:Nat) (j3:World),(Builtin.append_ #[fj,fj] fj #[.slice none 0 0,.slice c3 d3 e3]).run prog a3=.ok (.slice f3 g3 i3) j3/\let k3:=j3.alloc (.cells #[.slice Wd nw cw] az);∃(m3:Option Addr) (n3 o3:Nat) (p3:World),(Builtin.append_ #[fj,fj] fj #[.slice f3 g3 i3,.slice (some (⟨j3.heap.size,0,none⟩:Addr)) 1 1]).run prog k3=.ok (.slice m3 n3 o3) p3/\Is (some (⟨r,0,none⟩:Addr)) fun q3:Addr=>Wr p3 (q3.add 3)/\let r3:=p3.setCell (q3.add 3) (.slice m3 n3 o3);∃t3:Array Value,(t3.size=35/\Cells r3 (⟨w9.heap.size,0,none⟩:Addr) t3)/\(t3.size=35/\(∀u3∈t3.toList,u3.oneCell'=true)/\∀v3,v3<35->Wr r3 ((⟨w1.heap.size,0,none⟩:Addr).add v3))/\let x3:=setCells r3 (⟨w1.heap.size,0,none⟩:Addr) t3.toList 0;∃y3:Array Value,(y3.size=35/\Cells x3 (⟨w1.heap.size,0,none⟩:Addr) y3)/\K (.tuple #[.agg y3,.int .i64 0]) x3:=by
  intro u Aa ca news row xS uC ku;have pu:=ku.heap MZ (fun h=>h);have su:=ku.size;refine⟨by rw [a8];exact dL pu (by simp),?_⟩;intro u1;have pu1:u1.heap[r]? =some (.cells #[.int .i64 (k:Int),.pointer (some ⟨x,0,none⟩),.slice Aa (G.D.length+1) ca,.slice B1 G.D.length e1] gh (0,0)):=by
   show(u.setCell ((⟨r,0,none⟩:Addr).add 2) (.slice Aa (G.D.length+1) ca)).heap[r]? =_;rw [a8,cV pu];rfl
  have Cz:Kept (· =r) u u1:=by
   show Kept (· =r) u (u.setCell ((⟨r,0,none⟩:Addr).add 2) (.slice Aa (G.D.length+1) ca))
   rw [a8];exact Kept.setCell (S:=(· =r)) (Kept.refl _ u) (p:=⟨r,0+2,none⟩) (fun _=>rfl) _
  clear_value u1;have GK:Kept (· =r) hU u1:=(ku.mono fun _ _ h=>h.elim).tt Cz;have pw1:o8 u1 F B1 G.D.length G.ja:=XU.aC GK (fun j hj e=>h.gR (by rw [<-e];exact hj));obtain⟨⟨b1,xV⟩,Sq⟩:=(⟨pw1.yp.1 iX,pw1.yp.2⟩:(∃a,B1=some a)/\_);subst xV;obtain⟨Aw,c2,u2,nws,JR,fz,y0,hcw⟩:=xH (w:=u1) QZ (by omega) (by omega) (cx:=e1) (PI u1 F G.ja) (Sq b1 rfl);refine Is.mk rfl ⟨some b1,G.D.length,e1,by rw [a8,ay pu1];rfl,Aw,_,c2,u2,JR,?_⟩;intro u3;have yZ:Kept Nil u2 u3:=(Kept.refl _ _).alloc _;have zc:u3.heap[u2.heap.size]? =some (.cells #[.slice Wd nw cw] az (0,0)):=aJ u2 _;clear_value u3;have su1:=Cz.size;have su2:=y0.size;have XE:=yZ.size;obtain⟨VT,c3,u4,xR,jI,C1⟩:=xG QZ (by omega) (by omega) (Row.aC fz yZ (fun _ _ h=>h)) (by omega) zc rfl (fun v hv=>by simp at hv;subst hv;rfl);have JF:Kept Nil u1 u4:=Kept.dM (y0.tt yZ) C1 (fun j hj=>(Row.bC fz hj).1);have pu4:=JF.heap pu1 (fun h=>h);refine⟨VT,_,c3,u4,xR,Is.mk rfl ⟨by rw [a8];exact dL pu4 (by simp),?_⟩⟩;intro u5;have pu5:u5.heap[r]? =some (.cells #[.int .i64 (k:Int),.pointer (some ⟨x,0,none⟩),.slice Aa (G.D.length+1) ca,.slice VT (G.D.length+1) c3] gh (0,0)):=by
   show(u4.setCell ((⟨r,0,none⟩:Addr).add 3) (.slice VT (G.D.length+1) c3)).heap[r]? =_;rw [a8,cV pu4];rfl
  have Eg:Kept (· =r) u4 u5:=by
   show Kept (· =r) u4 (u4.setCell ((⟨r,0,none⟩:Addr).add 3) (.slice VT (G.D.length+1) c3))
   rw [a8];exact Kept.setCell (S:=(· =r)) (Kept.refl _ u4) (p:=⟨r,0+3,none⟩) (fun _=>rfl) _
  clear_value u5;have RJ:Kept (· =r) u1 u5:=(JF.mono fun _ _ h=>h.elim).tt Eg;have Ll:Kept (· =r) hU u5:=GK.tt RJ;have Qt:=Ll.heap OY (by omega);have sT:=Ll.heap Zr (by omega);obtain⟨z1,z2,z3⟩:=dT sT (cs:=cF (cQ k G s l) Am nm cm E e ce) (by rw [aX];rfl);refine⟨_,⟨aX ..,Cells.bC Qt⟩,⟨aX ..,dP _ _ _ _ _ _ _,fun j hj=>z1 j (by rw [aX];exact hj)⟩,?_⟩;intro u6
  replace z2:u6.heap[w1.heap.size]? =some (.cells (cF (cQ k G s l) Am nm cm E e ce) bf (0,0)):=z2
  replace z3:Kept (· =w1.heap.size) u5 u6:=z3
  clear_value u6;refine⟨_,⟨aX ..,Cells.bC z2⟩,?_⟩;have kwr:∀j,j=r\/j=w1.heap.size->¬hU.heap.size<=j:=fun j hj e=>by rcases hj with hj|hj<;>omega
  have Wc:Kept (fun j=>j=r\/j=w1.heap.size) u u6:=((Cz.mono fun _ _ h=>.inl h).trans RJ (fun _ _ h=>.inl h)).trans z3 (fun _ _ h=>.inr h);have CH:Kept (fun j=>j=r\/j=w1.heap.size) hU u6:=(ku.mono fun _ _ h=>h.elim).tt Wc;have su6:=CH.size;have s46:u4.heap.size<=u6.heap.size:=by have:=Eg.size;have:=z3.size;omega
  have s26:u.heap.size<=u6.heap.size:=Wc.size;have Jl:∀j,F j->j<w.heap.size:=h.lo
  let F2:Nat->Prop:=fun j=>F j\/(w8.heap.size<=j/\j<w9.heap.size)\/(hU.heap.size<=j/\j<u6.heap.size)
  have Pk:∀j,F2 j->¬(j=r\/j=w1.heap.size):=fun j hj e=>by
   rcases hj with hj|hj|hj
   ·have:=Jl j hj
    rcases e with e|e
    ·exact h.gR (by rw [<-e];exact hj)
    ·omega
   ·omega
   ·omega
  have U7:∀j,F2 j->F j\/(w.heap.size<=j/\j<u6.heap.size):=fun j hj=>by
   rcases hj with hj|hj|hj
   ·exact .inl hj
   ·exact .inr ⟨by omega,by omega⟩
   ·exact .inr ⟨by omega,hj.2⟩
  refine hO hc u6 Am nm cm E e ce ⟨⟨Aa,ca,VT,c3,?_,?_,?_⟩,?_,fun hj=>?_,h.ne,h.eo.add id l,fun j hj=>?_⟩ ?_ (Rm.aC CH (fun a ha e=>by have:=bm a.block (by rw [ha];rfl);rcases e with e|e<;>omega)) (Vz.aC CH (fun a ha e=>by have:=bb a.block (by rw [ha];rfl);rcases e with e|e<;>omega)) (fun a ha=>ha.elim (fun ha=>(bF bm ha).1) (fun ha=>(bF bb ha).1))
  ·rw [za]
   simp only [List.length_append,List.length_singleton];exact z3.heap pu5 (by omega)
  ·rw [za]
   simp only [List.length_append,List.length_singleton];refine qu.mono (F:=F2) (qu.aC (S:=fun j=>j=r\/j=w1.heap.size) (w:=u) (qu.snoc row xS p2.len ku (fun j hj=>?_) (fun j hj=>.inl hj) uC (Rm.same ku) (Vz.same ku) (fun b hb=>.inr (.inl ?_)) (fun b hb=>.inr (.inl ?_))) Wc Pk) U7
   ·obtain⟨y1,cur,y2⟩:=Row.bC row hj
    have:=aQ y2;exact .inr (.inr ⟨y1,by omega⟩)
   ·exact bm b.block (by rw [hb];rfl)
   ·exact bb b.block (by rw [hb];rfl)
  ·rw [za]
   simp only [List.length_append,List.length_singleton];have Nk:Kept (fun j=>j=r\/j=w1.heap.size) u4 u6:=(Eg.mono fun _ _ h=>.inl h).trans z3 (fun _ _ h=>.inr h);refine o8.mono (F:=F2) (o8.aC (S:=fun j=>j=r\/j=w1.heap.size) (w:=u4) (o8.snoc jI (Row.len fz) p3.len JF (fun j hj=>?_) (fun j hj=>.inl hj) hcw (Xr.aC (GK.trans JF (fun _ _ h=>h.elim)) (fun a ha e=>by have:=bw a.block (by rw [ha];rfl);omega)) (fun b hb=>.inr (.inl ?_))) Nk Pk) U7
   ·obtain⟨y1,cur,y2⟩:=Row.bC jI hj
    have:=aQ y2;exact .inr (.inr ⟨by omega,by omega⟩)
   ·exact bw b.block (by rw [hb];rfl)
  ·refine((UR.aC (Ix.tt ku) (fun h=>h) (fun _ _ h=>h)).aC Wc (fun e=>?_) (fun j hj e=>?_)).mono (fun j hj=>?_) (fun e=>?_)
   ·rcases e with e|e
    ·exact h.ne e.symm
    ·omega
   ·rcases hj with hj|hj
    ·have:=Jl j hj
     rcases e with e|e
     ·exact h.gR (by rw [<-e];exact hj)
     ·omega
    ·omega
   ·rcases hj with hj|hj
    ·exact .inl hj
    ·have:=ve.size
     have:=Ix.size;exact .inr ⟨by omega,by omega⟩
   ·rcases e with e|e
    ·exact h.X.gR e
    ·omega
  ·rcases hj with hj|hj
   ·exact h.gR hj
   ·omega
  ·rcases hj with hj|hj
   ·have:=Jl j hj
    omega
   ·exact hj.2
  ·exact(CJ.mono fun _ _ h=>.inr h).trans CH (fun j hj e=>by
    rcases e with e|e
    ·exact .inl e
    ·omega)
 have CR:(cF (cQ k G s l) Am nm cm E e ce).toList++ []=(cF (cQ k G s l) Am nm cm E e ce).toList:=List.append_nil _;refine Is.mk rfl ⟨some a1,G.D.length,c1,by rw [a8,ay MZ];rfl,_,⟨aX ..,Cells.bC OY⟩,?_,?_⟩
 ·obtain⟨Aa,c2,u2,news,Qg,fz,y0,uC⟩:=xH (w:=hU) Cf (by omega) (by omega) (cx:=c1) (Io hU F G.pK) (LF a1 rfl)
  refine⟨Aa,_,c2,u2,Qg,⟨_,rfl,aX ..,Cells.bC (y0.heap OY (fun h=>h))⟩,aX ..,?_⟩;intro u3;have yZ:Kept Nil u2 u3:=(Kept.refl _ _).alloc _;have zc:u3.heap[u2.heap.size]? =some (.cells (cF (cQ k G s l) Am nm cm E e ce) bf (0,0)):=by
   have:=aJ u2 (.cells (cF (cQ k G s l) Am nm cm E e ce) bf);show(u2.alloc (.cells ((cF (cQ k G s l) Am nm cm E e ce).toList++ []).toArray bf)).heap[u2.heap.size]? =_;rw [CR,Array.toArray_toList];exact this
  clear_value u3;have su2:=y0.size;have XE:=yZ.size;obtain⟨Ab,c3,u4,xR,jI,C1⟩:=xG Cf (by omega) (by omega) (Row.aC fz yZ (fun _ _ h=>h)) (by omega) zc (aX ..) (dP _ _ _ _ _ _ _);have ku:Kept Nil hU u4:=Kept.dM (y0.tt yZ) C1 (fun j hj=>(Row.bC fz hj).1);refine⟨Ab,_,c3,u4,xR,Is.mk rfl ?_⟩;exact tail jI (Row.len fz) uC ku
 ·refine⟨aX ..,?_⟩
  intro u3;have yZ:Kept Nil hU u3:=(Kept.refl _ _).alloc _;have zc:u3.heap[hU.heap.size]? =some (.cells (cF (cQ k G s l) Am nm cm E e ce) bf (0,0)):=by
   have:=aJ hU (.cells (cF (cQ k G s l) Am nm cm E e ce) bf);show(hU.alloc (.cells ((cF (cQ k G s l) Am nm cm E e ce).toList++ []).toArray bf)).heap[hU.heap.size]? =_;rw [CR,Array.toArray_toList];exact this
  clear_value u3;have XE:=yZ.size;refine⟨by rw [a8,ay (yZ.heap MZ (fun h=>h))];rfl,?_⟩;have p23:=MY.aC yZ (fun _ _ h=>h);obtain⟨Aa,c2,u2,news,Qg,fz,y0,uC⟩:=xH (w:=u3) (n:=G.D.length) (a:=a1) Cf (by omega) (by omega) (cx:=c1) (Io hU F G.pK) (fun i hi=>by
   obtain⟨arr,y1,y2,y3,y4⟩:=LF a1 rfl i hi;exact⟨arr,y1,y2,Cells.aC y3 yZ (fun h=>h),y4⟩)
  have su2:=y0.size;have Lu:=y0.heap zc (fun h=>h);obtain⟨Ab,c3,u4,xR,jI,C1⟩:=xG Cf (by omega) (by omega) (Row.base fz (B':=hU.heap.size) (fun j hj=>by have:=(Row.bC fz hj).1;omega)) (by omega) Lu (aX ..) (dP _ _ _ _ _ _ _);have ku:Kept Nil hU u4:=Kept.dM (yZ.tt y0) C1 (fun j hj=>by have:=(Row.bC fz hj).1;omega);refine⟨Aa,_,c2,u2,Qg,Ab,_,c3,u4,xR,Is.mk rfl ?_⟩;exact tail jI (Row.len fz) uC ku
end
end Go.Proofs.YtnboahlopghcjaaGreatDoor
