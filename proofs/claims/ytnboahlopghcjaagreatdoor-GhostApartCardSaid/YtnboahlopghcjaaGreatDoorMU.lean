import Derived.Test.YtnboahlopghcjaaGreatDoorMT
import Derived.Test.YtnboahlopghcjaaGreatDoorMN
open Go.IntKind (i64 u64)
set_option linter.unusedVariables false
namespace Go.Proofs.YtnboahlopghcjaaGreatDoor
open Go.Proofs.Tryz
open Go Go.bT Go.RowKit
structure qQ(w:World)(F:Nat->Prop)(A:Option Addr)(n:Nat)(l:List oC):Prop where
 len:l.length=n
 at_:∀(i:Nat) x,l[i]? =some x->∃a A1 n1 c1 B1 m1 d1,A=some a/\a.block<w.heap.size/\F a.block/\Cells w (a.add (i*35)) (cF x A1 n1 c1 B1 m1 d1)/\HS w A1 n1 x.merge/\Bo w B1 m1 x.dR/\(∀b,A1=some b->F b.block)/\(∀b,B1=some b->F b.block)
structure pz(w:World)(F:Nat->Prop)(A:Option Addr)(n:Nat)(l:List (List HT)):Prop where
 len:l.length=n
 at_:∀(i:Nat) x,l[i]? =some x->∃a A1 n1 c1,A=some a/\a.block<w.heap.size/\F a.block/\w.cell? (a.add (i*1))=some (.slice A1 n1 c1)/\HS w A1 n1 x/\(∀b,A1=some b->F b.block)
section
variable{w w':World}{F F' S:Nat->Prop}{A:Option Addr}{n:Nat}
theorem qQ.az{l:List oC}(h:qQ w F A n l)(hk:Kept S w w')(hn:∀j,F j->¬S j):qQ w' F A n l:=⟨h.len,fun i x hi=>by
 obtain⟨a,A1,n1,c1,B1,m1,d1,g1,g2,g3,g4,g5,g6,g7,g8⟩:=h.at_ i x hi;exact⟨a,A1,n1,c1,B1,m1,d1,g1,Nat.lt_of_lt_of_le g2 hk.size,g3,Cells.az g4 hk (by rw [dT];exact hn _ g3),g5.az hk (fun b hb=>hn _ (g7 b hb)),g6.az hk (fun b hb=>hn _ (g8 b hb)),g7,g8⟩⟩
theorem qQ.mono{l:List oC}(h:qQ w F A n l)(hf:∀j,F j->F' j):qQ w F' A n l:=⟨h.len,fun i x hi=>by
 obtain⟨a,A1,n1,c1,B1,m1,d1,g1,g2,g3,g4,g5,g6,g7,g8⟩:=h.at_ i x hi;exact⟨a,A1,n1,c1,B1,m1,d1,g1,g2,hf _ g3,g4,g5,g6,fun b hb=>hf _ (g7 b hb),fun b hb=>hf _ (g8 b hb)⟩⟩
theorem pz.az{l:List (List HT)}(h:pz w F A n l)(hk:Kept S w w')(hn:∀j,F j->¬S j):pz w' F A n l:=⟨h.len,fun i x hi=>by
 obtain⟨a,A1,n1,c1,g1,g2,g3,g4,g5,g6⟩:=h.at_ i x hi;exact⟨a,A1,n1,c1,g1,Nat.lt_of_lt_of_le g2 hk.size,g3,hk.cell g4 (by rw [dT];exact hn _ g3),g5.az hk (fun b hb=>hn _ (g6 b hb)),g6⟩⟩
theorem pz.mono{l:List (List HT)}(h:pz w F A n l)(hf:∀j,F j->F' j):pz w F' A n l:=⟨h.len,fun i x hi=>by
 obtain⟨a,A1,n1,c1,g1,g2,g3,g4,g5,g6⟩:=h.at_ i x hi;exact⟨a,A1,n1,c1,g1,g2,hf _ g3,g4,g5,fun b hb=>hf _ (g6 b hb)⟩⟩
end
structure R3(w:World)(F:Nat->Prop)(r x k:Nat)(G:GS):Prop where
 top:∃A c B e,w.heap[r]? =some (.cells #[.int .i64 (k:Int),.pointer (some ⟨x,0,none⟩),.slice A G.D.length c,.slice B G.D.length e] gD (0,0))/\qQ w F A G.D.length G.p8/\pz w F B G.D.length G.jh
 X:pB w F x G.D G.P
 hU:¬F r
 ne:r≠x
 fG:jr k G
 lo:∀j,F j->j<w.heap.size
section
variable{w w':World}{F F' S:Nat->Prop}{r x k:Nat}{G:GS}{K:Value->World->Prop}
theorem R3.az(h:R3 w F r x k G)(hk:Kept S w w')(hr:¬S r)(hx:¬S x)(hF:∀j,F j->¬S j):R3 w' F r x k G:=by
 obtain⟨A,c,B,e,g1,g2,g3⟩:=h.top;exact⟨⟨A,c,B,e,hk.heap g1 hr,g2.az hk hF,g3.az hk hF⟩,h.X.az hk hx hF,h.hU,h.ne,h.fG,fun j e=>Nat.lt_of_lt_of_le (h.lo j e) hk.size⟩
theorem R3.same(h:R3 w F r x k G)(hk:Kept Nil w w'):R3 w' F r x k G:=h.az hk (fun h=>h) (fun h=>h) (fun _ _ h=>h)
theorem R3.lt(h:R3 w F r x k G):r<w.heap.size:=by obtain⟨_,_,_,_,g,_⟩:=h.top;exact aO g
theorem R3.lx(h:R3 w F r x k G):x<w.heap.size:=h.X.lt
theorem R3.c0(h:R3 w F r x k G):w.cell? ((⟨r,0,none⟩:Addr).add 0)=some (.int .i64 (k:Int)):=by obtain⟨_,_,_,_,g,_⟩:=h.top;rw [a8,ay g];rfl
theorem R3.c1(h:R3 w F r x k G):w.cell? ((⟨r,0,none⟩:Addr).add 1)=some (.pointer (some ⟨x,0,none⟩)):=by obtain⟨_,_,_,_,g,_⟩:=h.top;rw [a8,ay g];rfl
theorem O9(h:jr k G){y:HT}(hy:y∈ids G.D):∃(i:Nat) (nd:DN) (c:oC) (l:List HT),G.D[i]? =some nd/\nd.id=y/\G.p8[i]? =some c/\G.jh[i]? =some l/\Ha G.D y=(i:Int)/\G.gR y=c/\G.world y=l/\i<G.D.length:=by
 obtain⟨nd,dW,rfl⟩:=dI.1 hy;obtain⟨i,hi⟩:=List.mem_iff_getElem?.1 dW;have dQ:=(lgeS hi).1;obtain⟨c,hc⟩:∃c,G.p8[i]? =some c:=⟨_,List.getElem?_eq_getElem (by rw [h.lc];exact dQ)⟩;obtain⟨l,hl⟩:∃l,G.jh[i]? =some l:=⟨_,List.getElem?_eq_getElem (by rw [h.lw];exact dQ)⟩;exact⟨i,nd,c,l,hi,rfl,hc,hl,R9 h.W hi,GS.JW h.W hi hc,GS.yQ h.W hi hl,dQ⟩
theorem jS(h:R3 w F r x k G)(hD:G.D.length<=5000){a:HT}(ha:a∈ids G.D)(hK:∀w',Kept Nil w w'->K (.int .u64 (G.score a:Int)) w'):
 bj prog dz.id #[.pointer (some ⟨r,0,none⟩),.agg a.1] w K:=by
 refine dz.of ?_;unfold dz.W;intro w4 w5;have k4:Kept Nil w w4:=(Kept.refl _ _).alloc _;have yj:w4.heap[w.heap.size]? =some (.cells a.1 aj (0,0)):=aH w _;have k5:Kept Nil w4 w5:=(Kept.refl _ _).drew;clear_value w5;have G3:=k5.heap yj (fun h=>h);have sH:=k4.tt k5;have h5:=h.same sH;obtain⟨A,c,B,e,g1,g2,g3⟩:=h5.top;refine Is.mk rfl ⟨A,_,c,by rw [a8,ay g1];rfl,Is.mk rfl ⟨_,h5.c1,Is.mk rfl ⟨a.1,⟨a.2.1,Cells.bz G3⟩,?_⟩⟩⟩;rw [add_zero];refine oT h5.X.gr (by omega) a fun w6 k6=>⟨_,rfl,?_⟩;have g16:=k6.heap g1 (fun h=>h);obtain⟨i,nd,cl,l,q1,q2,q3,q4,q5,q6,q7,q8⟩:=O9 h.fG ha;rw [q5];obtain⟨aa,A1,n1,c1,B1,m1,d1,p1,p2,p3,p4,_⟩:=(g2.az k6 (fun _ _ h=>h)).at_ i cl q3;subst p1;refine⟨by rw [a8,ay g16];rfl,⟨by omega,by omega⟩,Is.mk rfl ⟨((G.score a:Nat):Int),?_,?_⟩⟩
 ·have:=eW cl A1 n1 c1 B1 m1 d1 #[]
  rw [Array.append_empty]at this;have Ym:=p4 32 _ this.1;rw [Int.toNat_natCast,Ym];unfold GS.score;rw [q6]
 ·exact hK w6 (sH.tt k6)
theorem y9(h:jr k G){a:HT}(ha:a∈ids G.D):G.score a<=G.D.length:=by
 rw [(h.wd a ha).2.2];exact r9 h ha
theorem qe(h:R3 w F r x k G)(hD:G.D.length<=5000){a b:HT}(ha:a∈ids G.D)(hb:b∈ids G.D)(hK:∀w',Kept Nil w w'->K (.bool (gl G a b)) w'):
 bj prog dM.id #[.pointer (some ⟨r,0,none⟩),.agg a.1,.agg b.1] w K:=by
 refine dM.of ?_;unfold dM.W;intro w4 w5 w6;have k4:Kept Nil w w4:=(Kept.refl _ _).alloc _;have yj:w4.heap[w.heap.size]? =some (.cells a.1 aj (0,0)):=aH w _;have k5:Kept Nil w4 w5:=(Kept.refl _ _).alloc _;have nY:w5.heap[w4.heap.size]? =some (.cells b.1 aj (0,0)):=aH w4 _;have k6:Kept Nil w5 w6:=(Kept.refl _ _).drew;clear_value w6;have v8:=k6.heap (k5.heap yj (fun h=>h)) (fun h=>h);have p7:=k6.heap nY (fun h=>h);have nK:=(k4.tt k5).tt k6;refine⟨a.1,⟨a.2.1,Cells.bz v8⟩,b.1,⟨b.2.1,Cells.bz p7⟩,?_⟩;refine jS (h.same nK) hD ha fun w7 k7=>⟨_,rfl,⟨_,rfl,b.2.1,Cells.bz (k7.heap p7 (fun h=>h))⟩,?_⟩;have sG:=nK.tt k7;refine jS (h.same sG) hD hb fun w8 k8=>⟨_,rfl,?_⟩;have wX:=sG.tt k8;have Zf:=k7.tt k8;by_cases he:G.score a=G.score b
 ·refine Split.no (by rw [he];simp) ⟨a.1,⟨a.2.1,Cells.bz (Zf.heap v8 (fun h=>h))⟩,b.1,⟨b.2.1,Cells.bz (Zf.heap p7 (fun h=>h))⟩,?_⟩
  refine ti a b fun w9 k9=>⟨_,rfl,?_⟩;have e:decide (kV a b<0)=gl G a b:=by
   rw [Bool.eq_iff_iff,decide_eq_true_eq,rO];unfold gl;rw [decide_eq_false (by omega),decide_eq_true he];simp
  rw [e];exact hK w9 (wX.tt k9)
 ·refine Split.yes (by simp only [bne_iff_ne,ne_eq];omega) ?_
  have e:decide ((G.score a:Int)<(G.score b:Int))=gl G a b:=by
   unfold gl;rw [decide_eq_false he];simp
  rw [e];exact hK w8 wX
theorem La(h:R3 w F r x k G)(hD:G.D.length<=5000){A:Option Addr}{n cx:Nat}{l:List HT}(hl:HS w A n l)(hn:n<=400000)(hK:∀w',Kept Nil w w'->K (.int .i64 (mV G.D l)) w'):
 bj prog bk.id #[.pointer (some ⟨r,0,none⟩),.slice A n cx] w K:=by
 have hlen:=hl.len;refine bk.of ?_;unfold bk.W;by_cases h0:n=0
 ·subst h0
  have e:l= []:=List.eq_nil_of_length_eq_zero hlen;refine Split.yes rfl ?_;have:=hK w (Kept.refl _ _);unfold mV at this;rw [if_pos e]at this;exact this
 have fD:l≠ []:=fun e=>by subst e;exact h0 hlen.symm
 refine Split.no (by simpa using (by omega:¬(n:Int)=0)) ?_;refine bk.b6 (I:=fun s v=>∃i:Nat,s=(0,(i:Int))/\i<=n/\(∀p∈l.take i,p∈ids G.D)/\Kept Nil w v) (μ:=fun s _=>((n:Int)-s.2).toNat) (s:=(0,0)) ⟨0,rfl,Nat.zero_le _,by simp,Kept.refl _ _⟩ ?_;rintro s v ⟨i,rfl,hi,cZ,kv⟩;unfold bk.B1;refine Split.dec (fun cH=>?_) (fun gq=>?_)
 ·simp only at cH
  have dQ:i<n:=by omega
  obtain⟨y,hy⟩:∃y,l[i]? =some y:=⟨_,List.getElem?_eq_getElem (by omega)⟩;intro w3;have k3:Kept Nil v w3:=(Kept.refl _ _).drew;clear_value w3;have rv:=kv.tt k3;have h3:=h.same rv;refine Is.mk rfl ⟨_,h3.c1,Is.mk rfl ((hl.same rv).load (i:=(i:Int)) (by omega) hy ?_)⟩;rw [add_zero];refine oT h3.X.gr (by omega) y fun w4 k4=>⟨_,rfl,?_⟩;have pV:=rv.tt k4;refine Split.dec (fun z7=>?_) (fun iq=>?_)
  ·rw [iz]
   have:=hK w4 pV;unfold mV at this;rw [if_neg fD,if_pos ⟨y,List.mem_of_getElem? hy,rR.1 z7⟩]at this;exact this
  ·simp only
   rw [dw (n:=(i:Int)) (by omega) (by omega)];refine⟨(0,(i:Int)+1),rfl,⟨i+1,rfl,dQ,fun p hp=>?_,pV⟩,by simp only;omega⟩;rcases(bJ hy).1 hp with hp|rfl
   ·exact cZ p hp
   ·exact Classical.byContradiction fun e=>iq (rR.2 e)
 ·simp only at gq
  rw [aP,bk.cX];rw [List.take_of_length_le (by omega)]at cZ;have:=hK v kv;unfold mV at this;rw [if_neg fD,if_neg (fun⟨p,hp,hn⟩=>hn (cZ p hp))]at this;exact this
theorem tH(h:R3 w F r x k G)(hD:G.D.length<=5000){A:Option Addr}{n cx:Nat}{l:List HT}(hl:HS w A n l)(h0:l≠ [])(hn:n<=400000)(fN:∀y∈l,y∈ids G.D)(hK:∀w',Kept Nil w w'->K (.agg (b9 G l).1) w'):
 bj prog aV.id #[.pointer (some ⟨r,0,none⟩),.slice A n cx] w K:=by
 have hlen:=hl.len;obtain⟨x0,t,rfl⟩:∃x0 t,l=x0::t:=by cases l with|nil=>exact absurd rfl h0|cons a b=>exact⟨a,b,rfl⟩
 refine aV.of ?_;unfold aV.W;intro w1;have k1:Kept Nil w w1:=(Kept.refl _ _).alloc _;have lf:w1.heap[w.heap.size]? =some (.cells dG.1 aj (0,0)):=aH w _;clear_value w1;simp only [List.length_cons]at hlen;refine(hl.same k1).load (i:=0) (by omega) rfl ?_;intro w2;have k2:Kept Nil w1 w2:=(Kept.refl _ _).alloc _;have mu:w2.heap[w1.heap.size]? =some (.cells dG.1 aj (0,0)):=aH w1 _;clear_value w2;have jj:=k2.heap lf (fun h=>h);have l1:=aO lf;have l2:=aO mu;obtain⟨t1,t2,t3⟩:=jq x0 mu rfl;refine⟨t1,?_⟩;intro w3
 replace t2:w3.heap[w1.heap.size]? =some (.cells x0.1 aj (0,0)):=t2
 replace t3:Kept (· =w1.heap.size) w2 w3:=t3
 clear_value w3;have s1:=k1.size;have nV:Kept Nil w w3:=(k1.tt k2).trans t3 (fun j hj e=>by omega);have DW:=t3.heap jj (by omega);refine aV.b6 (I:=fun s v=>∃(i:Nat) (b:HT),s=(i:Int)/\1<=i/\i<=n/\b∈ids G.D/\((x0::t).drop i).foldl (fun b y=>if gl G b y then y else b) b=b9 G (x0::t)/\v.heap[w1.heap.size]? =some (.cells b.1 aj (0,0))/\v.heap[w.heap.size]? =some (.cells dG.1 aj (0,0))/\Kept Nil w v) (μ:=fun s _=>((n:Int)-s).toNat) (s:=1) ⟨1,x0,rfl,Nat.le_refl _,by omega,fN _ List.mem_cons_self,rfl,t2,DW,nV⟩ ?_;rintro s v ⟨i,b,rfl,Ms,vY,hb,he,Bn,Vw,kv⟩;unfold aV.B1;refine Split.dec (fun cH=>?_) (fun gq=>?_)
 ·have dQ:i<n:=by omega
  obtain⟨y,hy⟩:∃y,(x0::t)[i]? =some y:=⟨_,List.getElem?_eq_getElem (by simp;omega)⟩;have NW:y∈ids G.D:=fN _ (List.mem_of_getElem? hy);have hd:(x0::t).drop i=y::(x0::t).drop (i+1):=by
   obtain⟨q1,q2⟩:=lgeS hy;rw [List.drop_eq_getElem_cons q1,q2]
  rw [hd,List.foldl_cons]at he;intro w4;have k4:Kept Nil v w4:=(Kept.refl _ _).drew;clear_value w4;have pV:=kv.tt k4;have Qy:(x0::t)[((i:Nat):Int).toNat]? =some y:=by rw [Int.toNat_natCast];exact hy
  refine⟨b.1,⟨b.2.1,Cells.bz (k4.heap Bn (fun h=>h))⟩,(hl.same pV).load (i:=(i:Int)) (by omega) Qy ?_⟩;refine qe (h.same pV) hD hb NW fun w5 k5=>⟨_,rfl,?_⟩;have Bf:=pV.tt k5;have nY:=k5.heap (k4.heap Bn (fun h=>h)) (fun h=>h);have tJ:=k5.heap (k4.heap Vw (fun h=>h)) (fun h=>h);rw [dw (n:=(i:Int)) (by omega) (by omega)];refine Split.mk (fun xf=>?_) (fun hle=>?_)
  ·rw [if_pos xf]at he
   refine(hl.same Bf).load (i:=(i:Int)) (by omega) Qy ?_;obtain⟨f1,f2,f3⟩:=jq y nY b.2.1;refine⟨f1,?_⟩;exact⟨(i:Int)+1,rfl,⟨i+1,y,rfl,by omega,by omega,NW,he,f2,f3.heap tJ (by omega),Bf.trans f3 (fun j hj e=>by omega)⟩,by simp only;omega⟩
  ·rw [if_neg (by rw [hle];decide)]at he
   exact⟨(i:Int)+1,rfl,⟨i+1,b,rfl,by omega,by omega,hb,he,nY,tJ,Bf⟩,by simp only;omega⟩
 ·rw [aP,aV.cX]
  rw [List.drop_eq_nil_of_le (by simp;omega)]at he
  replace he:b=b9 G (x0::t):=he
  subst he;refine⟨_,⟨sP _,Cells.bz Bn⟩,?_⟩;obtain⟨f1,f2,f3⟩:=jq (b9 G (x0::t)) Vw rfl;exact⟨f1,_,⟨sP _,Cells.bz f2⟩,hK _ (kv.trans f3 (fun j hj e=>by omega))⟩
theorem oU(h:R3 w F r x k G)(hD:G.D.length<=5000){A:Option Addr}{n cx:Nat}{l:List HT}(hl:HS w A n l)(hn:n<=100000)(y:HT)(hK:∀A' c' w',bL w' w.heap.size A' (bO G.D l y).length c' (bO G.D l y)->Kept Nil w w'->K (.slice A' (bO G.D l y).length c') w'):
 bj prog aY.id #[.pointer (some ⟨r,0,none⟩),.slice A n cx,.agg y.1] w K:=by
 have hlen:=hl.len;refine aY.of ?_;unfold aY.W;intro w1;have k1:Kept Nil w w1:=(Kept.refl _ _).alloc _;have Qx:w1.heap[w.heap.size]? =some (.cells y.1 aj (0,0)):=aH w _;clear_value w1;refine aY.b6 (I:=fun s v=>∃(i:Nat) (B:Option Addr) (c:Nat),s=(B,(bO G.D (l.take i) y).length,c,(i:Int))/\i<=n/\bL v w1.heap.size B (bO G.D (l.take i) y).length c (bO G.D (l.take i) y)/\Kept Nil w1 v) (μ:=fun s _=>((n:Int)-s.2.2.2).toNat) (s:=(none,0,0,0)) ⟨0,none,0,rfl,Nat.zero_le _,bL.nil _ _,Kept.refl _ _⟩ ?_;rintro s v ⟨i,B,c,rfl,hi,row,kv⟩;unfold aY.B1;have BY:=k1.tt kv;refine Split.dec (fun cH=>?_) (fun gq=>?_)
 ·simp only at cH
  have dQ:i<n:=by omega
  obtain⟨z,hz⟩:∃z,l[i]? =some z:=⟨_,List.getElem?_eq_getElem (by omega)⟩;have qk:(bO G.D (l.take i) y).length<=100000:=by
   have:=List.length_filter_le (fun b=>decide (nH G.D b y)) (l.take i);have h2:=List.length_take_le i l;unfold bO;omega
  intro w3;have k3:Kept Nil v w3:=(Kept.refl _ _).drew;clear_value w3;have rv:=kv.tt k3;have nV:=k1.tt rv;have h3:=h.same nV;have yG:l[((i:Nat):Int).toNat]? =some z:=by rw [Int.toNat_natCast];exact hz
  refine Is.mk rfl ⟨_,h3.c1,Is.mk rfl ((hl.same nV).load (i:=(i:Int)) (by omega) yG ⟨y.1,⟨y.2.1,Cells.bz (rv.heap Qx (fun h=>h))⟩,?_⟩)⟩;rw [add_zero];refine Fe h3.X.gr h.fG.W (by omega) z y fun w4 b hb k4=>⟨b,rfl,?_⟩
  replace hb:b=true↔nH G.D z y:=hb
  have pV:=rv.tt k4;have qi:=k1.tt pV;have jR:=Row.az row (k3.tt k4) (fun _ _ h=>h);have Gl:bO G.D (l.take (i+1)) y=bO G.D (l.take i) y++if nH G.D z y then [z]else []:=by
   rw [List.take_add_one,hz,fM]
   congr 1
   unfold bO;by_cases hp:nH G.D z y
   ·rw [if_pos hp];simp [hp]
   ·rw [if_neg hp];simp [hp]
  cases b with
  |true=>
   rw [if_pos (hb.1 rfl)]at Gl;refine Split.yes rfl ((hl.same qi).load (i:=(i:Int)) (by omega) yG ⟨z.2.1,?_⟩);intro w5;have k5:Kept Nil w4 w5:=(Kept.refl _ _).alloc _;have SN:=jA w4 z;have s5:=(pV.tt k5).size;obtain⟨A',c',w6,hr,HI,hg,_⟩:=cO (cx:=1) aA (Row.az jR k5 (fun _ _ h=>h)) SN (by omega) s5;refine⟨A',_,c',w6,hr,?_⟩;rw [dw (n:=(i:Int)) (by omega) (by omega)];have e:(bO G.D (l.take (i+1)) y).length=(bO G.D (l.take i) y).length+1:=by rw [Gl];simp
   refine⟨(A',(bO G.D (l.take i) y).length+1,c',(i:Int)+1),rfl,⟨i+1,A',c',by rw [e];rfl,dQ,by rw [e,Gl];exact HI,?_⟩,by simp only;omega⟩;exact Kept.eA (pV.tt k5) hg (fun j hj=>(Row.bz row hj).1)
  |false=>
   rw [if_neg (fun e=>by have:=hb.2 e;cases this),List.append_nil]at Gl;refine Split.no rfl ?_;simp only;rw [dw (n:=(i:Int)) (by omega) (by omega)];exact⟨(B,(bO G.D (l.take i) y).length,c,(i:Int)+1),rfl,⟨i+1,B,c,by rw [Gl];rfl,dQ,by rw [Gl];exact jR,pV⟩,by simp only;omega⟩
 ·simp only at gq
  rw [aP,aY.cX];rw [List.take_of_length_le (by omega)]at row;have e:i=n:=by omega
  subst e;rw [List.take_of_length_le (by omega)];exact hK B c v (Row.base row (fun j hj=>by have:=(Row.bz row hj).1;have:=k1.size;omega)) BY
theorem xI{c:oC}{A1 A2 B1 B2:Option Addr}{n1 n2 m1 m2 p1 p2 q1 q2:Nat}(h1:HS w A1 n1 c.merge)(h2:HS w A2 n2 c.merge)(g1:Bo w B1 m1 c.dR)(g2:Bo w B2 m2 c.dR)(hn:n1<=100000)(hm:m1<=100000)(hK:∀w',Kept Nil w w'->K (.bool true) w'):
 bj prog b0.id #[.agg (cF c A1 n1 p1 B1 m1 q1),.agg (cF c A2 n2 p2 B2 m2 q2)] w K:=by
 have e1:=g1.len;have e2:=g2.len;have e3:=h1.len;have e4:=h2.len;refine b0.of ?_;unfold b0.W;intro w4 w5;have k4:Kept Nil w w4:=(Kept.refl _ _).alloc _;have yj:w4.heap[w.heap.size]? =some (.cells (cF c A1 n1 p1 B1 m1 q1) bg (0,0)):=aH w _;have k5:Kept Nil w4 w5:=(Kept.refl _ _).alloc _;have nY:w5.heap[w4.heap.size]? =some (.cells (cF c A2 n2 p2 B2 m2 q2) bg (0,0)):=aH w4 _;clear_value w5;have G3:=k5.heap yj (fun h=>h);have sH:=k4.tt k5;clear_value w4;have c1:=eW c A1 n1 p1 B1 m1 q1 #[];have c2:=eW c A2 n2 p2 B2 m2 q2 #[];rw [Array.append_empty]at c1 c2;refine⟨B1,m1,q1,by rw [a8,ay G3];exact c1.2.2.1,B2,m2,q2,by rw [a8,ay nY];exact c2.2.2.1,Split.no (by simp only [bne_eq_false_iff_eq];omega) ?_⟩;refine b0.b6 (I:=fun s v=>∃i:Nat,s=(false,(i:Int))/\i<=m1/\Kept Nil w5 v) (μ:=fun s _=>((m1:Int)-s.2).toNat) (s:=(false,0)) ⟨0,rfl,Nat.zero_le _,Kept.refl _ _⟩ ?_;rintro s v ⟨i,rfl,hi,kv⟩;unfold b0.B1;have XK:=kv.heap G3 (fun h=>h);have Bn:=kv.heap nY (fun h=>h);have BY:=sH.tt kv;refine⟨B1,m1,q1,by rw [a8,ay XK];exact c1.2.2.1,Split.dec (fun cH=>?_) (fun gq=>?_)⟩
 ·simp only at cH
  obtain⟨b,hb⟩:∃b,c.dR[i]? =some b:=⟨_,List.getElem?_eq_getElem (by omega)⟩;intro w6;have k6:Kept Nil v w6:=(Kept.refl _ _).drew;clear_value w6;have nK:=BY.tt k6;obtain⟨a1,r1,_,r3⟩:=(g1.same nK).at_ i b hb;obtain⟨a2,r4,_,r6⟩:=(g2.same nK).at_ i b hb;subst r1 r4;refine⟨some a1,m1,q1,by rw [a8,ay (k6.heap XK (fun h=>h))];exact c1.2.2.1,⟨by simp only;omega,by simp only;omega⟩,b,by rw [Int.toNat_natCast,Nat.mul_one];exact r3,some a2,m2,q2,by rw [a8,ay (k6.heap Bn (fun h=>h))];exact c2.2.2.1,⟨by simp only;omega,by simp only;omega⟩,b,by rw [Int.toNat_natCast,Nat.mul_one];exact r6,Split.no (by simp) ?_⟩;simp only;rw [dw (n:=(i:Int)) (by omega) (by omega)];exact⟨(false,(i:Int)+1),rfl,⟨i+1,rfl,by omega,kv.tt k6⟩,by simp only;omega⟩
 ·rw [aP,b0.cX]
  have jX:∀ {b:Nat} {A B:Option Addr} {n m p q:Nat},v.heap[b]? =some (.cells (cF c A n p B m q) bg (0,0))->Cells v ((⟨b,0,none⟩:Addr).add 0) c.jX.1:=fun hb j u hj=>by
   have cH:=(Array.getElem?_eq_some_iff.1 hj).1;rw [add_zero,a8,ay hb,Nat.zero_add];unfold cF;rw [Array.getElem?_append_left cH];exact hj
  refine⟨c.jX.1,⟨c.jX.2.1,jX XK⟩,c.jX.1,⟨c.jX.2.1,jX Bn⟩,⟨c.jX.2.ints,c.jX.2.ints⟩,?_⟩;rw [dL];refine Split.yes (decide_eq_true rfl) ⟨_,by rw [a8,ay XK];exact c1.1,_,by rw [a8,ay Bn];exact c2.1,Split.yes (beq_self_eq_true _) ⟨_,_,_,by rw [a8,ay XK];exact c1.2.1,_,_,_,by rw [a8,ay Bn];exact c2.2.1,?_⟩⟩;refine Fc (h1.same BY) (h2.same BY) (by omega) fun w7 k7=>⟨_,rfl,?_⟩;rw [decide_eq_true rfl];exact hK w7 (BY.tt k7)
end
structure VJ(v:World)(B0 xb rb:Nat)(x:oC)(A:Option Addr)(n cp:Nat)(E:Option Addr)(e ce:Nat)(W:Option Addr)(nw cw:Nat)(wd:List HT):Prop where
 top:v.heap[xb]? =some (.cells (cF x A n cp E e ce) bg (0,0))
 mg:bL v B0 A n cp x.merge
 bl:Row v B0 gh 1 E e ce (oB x.dR)
 wr:bL v B0 W nw cw wd
 box:v.heap[rb]? =some (.cells zC bg (0,0))
 AE:∀j,aW A=some j->aW E≠some j
 AW:∀j,aW A=some j->aW W≠some j
 EW:∀j,aW E=some j->aW W≠some j
 xB:xb<B0
 rB:rb<B0
 xr:xb≠rb
section
variable{v v' u:World}{B0 xb rb n cp e ce nw cw:Nat}{x:oC}{A E W:Option Addr}{wd:List HT}{K:Value->World->Prop}
theorem VJ.same(h:VJ v B0 xb rb x A n cp E e ce W nw cw wd)(k:Kept Nil v v'):VJ v' B0 xb rb x A n cp E e ce W nw cw wd:=
 ⟨k.heap h.top (fun h=>h),Row.az h.mg k (fun _ _ h=>h),Row.az h.bl k (fun _ _ h=>h),Row.az h.wr k (fun _ _ h=>h),k.heap h.box (fun h=>h),h.AE,h.AW,h.EW,h.xB,h.rB,h.xr⟩
theorem VJ.f32(h:VJ v B0 xb rb x A n cp E e ce W nw cw wd):v.cell? ((⟨xb,0,none⟩:Addr).add 32)=some (.int .u64 (x.score:Int)):=by
 have:=(eW x A n cp E e ce #[]).1;rw [Array.append_empty]at this;rw [a8,ay h.top];exact this
theorem VJ.f33(h:VJ v B0 xb rb x A n cp E e ce W nw cw wd):v.cell? ((⟨xb,0,none⟩:Addr).add 33)=some (.slice A n cp):=by
 have:=(eW x A n cp E e ce #[]).2.1;rw [Array.append_empty]at this;rw [a8,ay h.top];exact this
theorem VJ.f34(h:VJ v B0 xb rb x A n cp E e ce W nw cw wd):v.cell? ((⟨xb,0,none⟩:Addr).add 34)=some (.slice E e ce):=by
 have:=(eW x A n cp E e ce #[]).2.2.1;rw [Array.append_empty]at this;rw [a8,ay h.top];exact this
theorem VJ.wrx(h:VJ v B0 xb rb x A n cp E e ce W nw cw wd){j:Nat}(hj:j<35):Wr v ((⟨xb,0,none⟩:Addr).add j):=by
 rw [a8];exact dJ h.top (by rw [aS];omega)
theorem VJ.Pz(h:VJ v B0 xb rb x A n cp E e ce W nw cw wd)(j:Nat)(z:Value):Kept (· =xb) v (v.setCell ((⟨xb,0,none⟩:Addr).add j) z):=by
 rw [a8];exact Kept.setCell (S:=(· =xb)) (Kept.refl _ v) (p:=⟨xb,0+j,none⟩) (fun _=>rfl) _
theorem VJ.PC(h:VJ v B0 xb rb x A n cp E e ce W nw cw wd)(s:Nat):VJ (v.setCell ((⟨xb,0,none⟩:Addr).add 32) (.int .u64 (s:Int))) B0 xb rb {x with score:=s} A n cp E e ce W nw cw wd:=by
 have k:=h.Pz 32 (.int .u64 (s:Int));have xB:=h.xB;refine⟨?_,Row.az h.mg k (fun j hj e=>by have:=(Row.bz h.mg hj).1;omega),Row.az h.bl k (fun j hj e=>by have:=(Row.bz h.bl hj).1;omega),Row.az h.wr k (fun j hj e=>by have:=(Row.bz h.wr hj).1;omega),k.heap h.box h.xr.symm,h.AE,h.AW,h.EW,h.xB,h.rB,h.xr⟩;rw [a8,cV h.top];have:=vu x A n cp E e ce #[] s;rw [Array.append_empty,Array.append_empty]at this;rw [this]
theorem VJ.Ub(h:VJ v B0 xb rb x A n cp E e ce W nw cw wd)(hB:B0<=v.heap.size)(hn:nw<=100000){z:HT}(ow:Kept Nil v v'){bx:Nat}(hx:HS v' (some ⟨bx,0,none⟩) 1 [z]):
 ∃W' Tm u,(Builtin.append_ #[aA,aA] aA #[.slice W nw cw,.slice (some ⟨bx,0,none⟩) 1 1]).run prog v'=.ok (.slice W' (nw+1) Tm) u/\VJ u B0 xb rb x A n cp E e ce W' (nw+1) Tm (wd++ [z])/\Kept (fun j=>j=xb\/B0<=j) v u:=by
 have h':=h.same ow;have Y8:=ow.size;obtain⟨W',c',u,hr,row,hg,hb⟩:=cO (cx:=1) aA h'.wr hx (by omega) (by omega);have kg:Kept (fun j=>aW W=some j) v' u:=Kept.grown (Kept.refl _ _) hg (fun j hj _=>hj);have nB:∀j,j<B0->aW W≠some j:=fun j hj e=>by have:=(Row.bz h.wr e).1;omega
 refine⟨W',c',u,hr,⟨kg.heap h'.top (nB _ h.xB),Row.az h'.mg kg (fun j hj=>h.AW j hj),Row.az h'.bl kg (fun j hj=>h.EW j hj),row,kg.heap h'.box (nB _ h.rB),h.AE,fun j hj e=>?_,fun j hj e=>?_,h.xB,h.rB,h.xr⟩,(ow.mono fun _ _ h=>h.elim).trans kg (fun j hj e=>.inr (Row.bz h.wr e).1)⟩
 ·rcases hb j e with e'|e'
  ·exact h.AW j hj e'
  ·obtain⟨_,cur,hc⟩:=Row.bz h'.mg hj
   have:=aO hc;omega
 ·rcases hb j e with e'|e'
  ·exact h.EW j hj e'
  ·obtain⟨_,cur,hc⟩:=Row.bz h'.bl hj
   have:=aO hc;omega
theorem VJ.HN(h:VJ v B0 xb rb x A n cp E e ce W nw cw wd)(hB:B0<=v.heap.size)(hn:e<=100000){b:Bool}(ow:Kept Nil v v'){bx:Nat}(hx:v'.cell? ⟨bx,0,none⟩=some (.bool b)):
 ∃E' rY u,(Builtin.append_ #[gB,gB] gB #[.slice E e ce,.slice (some ⟨bx,0,none⟩) 1 1]).run prog v'=.ok (.slice E' (e+1) rY) u/\Wr u ((⟨xb,0,none⟩:Addr).add 34)/\
  VJ (u.setCell ((⟨xb,0,none⟩:Addr).add 34) (.slice E' (e+1) rY)) B0 xb rb {x with dR:=x.dR++ [b]} A n cp E' (e+1) rY W nw cw wd/\Kept (fun j=>j=xb\/B0<=j) v (u.setCell ((⟨xb,0,none⟩:Addr).add 34) (.slice E' (e+1) rY)):=by
 have h':=h.same ow;have Y8:=ow.size;have xB:=h.xB;obtain⟨E',c',u,hr,row,hg,hb⟩:=dS (P:=prog) (t:=gB) (bytes:=1) (ty:=gB) BF h'.bl (a:=⟨bx,0,none⟩) (m:=1) (cx:=1) (news:= [.bool b]) rfl (fun j z hj=>by
  cases j with
  |zero=>simp only [List.getElem?_cons_zero,Option.some.injEq]at hj;subst hj;rw [add_zero];exact hx
  |succ j=>simp at hj) (fun z hz=>by
  have:z=.bool b:=by simpa using hz
  subst this;rfl) (by omega) (by unfold maxLen;omega) (by omega)
 have kg:Kept (fun j=>aW E=some j) v' u:=Kept.grown (Kept.refl _ _) hg (fun j hj _=>hj);have nB:∀j,j<B0->aW E≠some j:=fun j hj e=>by have:=(Row.bz h.bl e).1;omega
 have top:=kg.heap h'.top (nB _ h.xB);have ks:Kept (· =xb) u (u.setCell ((⟨xb,0,none⟩:Addr).add 34) (.slice E' (e+1) c')):=by
  rw [a8];exact Kept.setCell (S:=(· =xb)) (Kept.refl _ u) (p:=⟨xb,0+34,none⟩) (fun _=>rfl) _
 have ji:Kept (fun j=>j=xb\/aW E=some j) v' (u.setCell ((⟨xb,0,none⟩:Addr).add 34) (.slice E' (e+1) c')):=(kg.mono fun _ _ h=>.inr h).trans ks (fun _ _ h=>.inl h);refine⟨E',c',u,hr,by rw [a8];exact dJ top (by rw [aS];omega),⟨?_,?_,?_,?_,?_,fun j hj e=>?_,h.AW,fun j hj e=>?_,h.xB,h.rB,h.xr⟩,(ow.mono fun _ _ h=>h.elim).trans ji (fun j hj e=>e.imp (fun h=>h) (fun e=>(Row.bz h.bl e).1))⟩
 ·rw [a8,cV top]
  have:=qK x A n cp E e ce #[] E' (e+1) c';rw [Array.append_empty,Array.append_empty]at this;rw [this];rfl
 ·exact Row.az h'.mg ji (fun j hj e=>e.elim (fun e=>by have:=(Row.bz h.mg hj).1;omega) (h.AE j hj))
 ·have e1:oB (x.dR++ [b])=oB x.dR++ [.bool b]:=by simp [oB]
  show Row _ B0 gh 1 E' (e+1) c' (oB (x.dR++ [b]))
  rw [e1];exact Row.az row ks (fun j hj e=>by have:=(Row.bz row hj).1;omega)
 ·exact Row.az h'.wr ji (fun j hj e=>e.elim (fun e=>by have:=(Row.bz h.wr hj).1;omega) (fun e=>h.EW j e hj))
 ·exact ji.heap h'.box (fun e=>e.elim (fun e=>h.xr e.symm) (nB _ h.rB))
 ·rcases hb j e with e'|e'
  ·exact h.AE j hj e'
  ·obtain⟨_,cur,hc⟩:=Row.bz h'.mg hj
   have:=aO hc;omega
 ·rcases hb j hj with e'|e'
  ·exact h.EW j e' e
  ·obtain⟨_,cur,hc⟩:=Row.bz h'.wr e
   have:=aO hc;omega
end
section
variable{y w w':World}{F F' S:Nat->Prop}{r x k:Nat}{G:GS}{K:Value->World->Prop}{B0 xb rb n cp e ce nw cw:Nat}{A E W:Option Addr}{s:HT}{l:List HT}
set_option maxHeartbeats 2000000 in
theorem EH(h:R3 y F r x k G)(hD:G.D.length<=300)(nW:k<=1000)(hB:B0<=y.heap.size)(hU:∀j,(j=r\/j=x\/F j)->j<B0/\j≠xb/\j≠rb)(hM:∀z∈cD G s l,z∈ids G.D)(hs:s∈ids G.D)
 (V:VJ y B0 xb rb ⟨s,G.score s+1,cD G s l,[]⟩ A n cp none 0 0 W nw cw (G.world s++ [s]))
 (hK:∀v E e ce W nw cw,VJ v B0 xb rb (cR k G s l) A n cp E e ce W nw cw (fF k G s l).wd->Kept (fun j=>j=xb\/j=rb\/B0<=j) y (setCells v ⟨rb,0,none⟩ (cF (cR k G s l) A n cp E e ce).toList 0)->K (.tuple #[.agg (cF (cR k G s l) A n cp E e ce),.slice W nw cw]) (setCells v ⟨rb,0,none⟩ (cF (cR k G s l) A n cp E e ce).toList 0)):
 ae.cI (some ⟨r,0,none⟩) ⟨B0,0,none⟩ ⟨rb,0,none⟩ none 0 0 ⟨xb,0,none⟩ W nw cw none 0 0 0 K y:=by
 unfold ae.cI;have GW:(cD G s l).length<=300:=by
  have:=cQ (m:=ids G.D) (kr G s l).nodup hM;rw [fX]at this;omega
 have hn:(cD G s l).length=n:=bL.len V.mg;have hwl:=r9 h.fG hs;have DV:=y9 h.fG hs;have hR:∀ {v:World},Kept (fun j=>j=xb\/B0<=j) y v->R3 v F r x k G:=fun kv=>h.az kv (fun e=>by have:=hU r (.inl rfl);omega) (fun e=>by have:=hU x (.inr (.inl rfl));omega) (fun j hj e=>by have:=hU j (.inr (.inr hj));omega);have vl:∀i,i<=n->(jL k G s l i).wd.length<=700:=fun i hi=>by
  obtain⟨b,h1,h2⟩:=Hn k G.D (G.world s++ [s]) ((cD G s l).take i);have h3:=xu ((cD G s l).take i) b;rw [List.length_take]at h3;show(((cD G s l).take i).foldl (om k G.D) ⟨G.world s++ [s],[]⟩).wd.length<=700;rw [h2];simp only [List.length_append,List.length_singleton];omega
 refine ae.rr (I:=fun st v=>∃(i:Nat) (E:Option Addr) (e ce:Nat) (W:Option Addr) (nw cw:Nat),st=(W,nw,cw,(i:Int))/\i<=n/\VJ v B0 xb rb ⟨s,G.score s+1+(jL k G s l i).bl.count true,cD G s l,(jL k G s l i).bl⟩ A n cp E e ce W nw cw (jL k G s l i).wd/\Kept (fun j=>j=xb\/B0<=j) y v) (μ:=fun st _=>((n:Int)-st.2.2.2).toNat) (s:=(W,nw,cw,0)) ⟨0,none,0,0,W,nw,cw,rfl,Nat.zero_le _,V,Kept.refl _ _⟩ ?_;rintro st v ⟨i,E,e,ce,W,nw,cw,rfl,hi,Vv,kv⟩;unfold ae.B3;refine⟨A,n,cp,Vv.f33,Split.dec (fun cH=>?_) (fun gq=>?_)⟩
 ·simp only at cH
  have dQ:i<n:=by omega
  obtain⟨z,hz⟩:∃z,(cD G s l)[i]? =some z:=⟨_,List.getElem?_eq_getElem (by omega)⟩;have pX:=yU (k:=k) hz;have yG:(cD G s l)[((i:Nat):Int).toNat]? =some z:=by rw [Int.toNat_natCast];exact hz
  have hnw:(jL k G s l i).wd.length=nw:=bL.len Vv.wr;have Zr:=vl i hi;have sv:=kv.size;refine⟨A,n,cp,Vv.f33,(bL.hs Vv.mg).load (i:=(i:Int)) (by omega) yG ?_⟩;refine oU (hR kv) (by omega) (bL.hs Vv.wr) (by omega) z fun N cN w4 TU k4=>⟨N,_,cN,rfl,?_⟩;have pV:=kv.trans k4 (fun _ _ h=>h.elim);have ZT:=hR pV;refine Is.mk rfl ⟨_,ZT.c0,?_⟩;have wZ:(bO G.D (jL k G s l i).wd z).length<=700:=by
   have:=List.length_filter_le (fun b=>decide (nH G.D b z)) (jL k G s l i).wd;unfold bO;omega
  generalize Ox:bO G.D (jL k G s l i).wd z=zu at TU wZ;have V4:=Vv.same k4;refine ae.zz (I:=fun st u=>∃(b:Bool) (q:Nat),st=(b,(q:Int))/\q<=zu.length/\b=(decide (zu.length<=k)&&(zu.take q).all fun z=>decide ((bO G.D (jL k G s l i).wd z).length+1<=k))/\Kept Nil w4 u) (μ:=fun st _=>((zu.length:Int)-st.2).toNat) (s:=(decide ((zu.length:Int)<=(k:Int)),0)) ⟨_,0,rfl,Nat.zero_le _,by simp,Kept.refl _ _⟩ ?_;rintro st u ⟨b,q,rfl,hq,hb,ku⟩;have Sy:=pV.trans ku (fun _ _ h=>h.elim);have Vu:=V4.same ku;have fin:∀ {t:World},Kept Nil w4 t->b=oA k G.D (jL k G s l i).wd z->ae.vD (some ⟨r,0,none⟩) ⟨rb,0,none⟩ none 0 0 ⟨xb,0,none⟩ W nw cw (i:Int) N zu.length cN b (q:Int) (bH (ae.e3 (some ⟨r,0,none⟩) ⟨rb,0,none⟩ none 0 0 ⟨xb,0,none⟩) (fun st v=>∃(i:Nat) (E:Option Addr) (e ce:Nat) (W:Option Addr) (nw cw:Nat),st=(W,nw,cw,(i:Int))/\i<=n/\VJ v B0 xb rb ⟨s,G.score s+1+(jL k G s l i).bl.count true,cD G s l,(jL k G s l i).bl⟩ A n cp E e ce W nw cw (jL k G s l i).wd/\Kept (fun j=>j=xb\/B0<=j) y v) (fun st _=>((n:Int)-st.2.2.2).toNat) (W,nw,cw,(i:Int)) v (ae.q3 K)) t:=fun {t} kt Ai=>by
   have Vt:=V4.same kt;have Uy:=pV.trans kt (fun _ _ h=>h.elim);have st:=Uy.size;have ZP:(jL k G s l i).bl.length=e:=by have:=(Row.bo Vt.bl).len;simpa using this
   have hbi:=Di k G s l i (by omega);unfold ae.vD;refine⟨E,e,ce,Vt.f34,?_⟩;intro w5;have k5:Kept Nil t w5:=(Kept.refl _ _).alloc _;have nY:w5.cell? ⟨t.heap.size,0,none⟩=some (.bool b):=by rw [ay (aH t _)];rfl
   clear_value w5;obtain⟨E',rY,u6,q1,q2,q3,q4⟩:=Vt.HN (by omega) (by omega) k5 nY;refine⟨E',e+1,rY,u6,q1,q2,?_⟩;have Sz:=Uy.tt q4;rw [dw (n:=(i:Int)) (by omega) (by omega)];rw [om,<-Ai]at pX;generalize u6.setCell ((⟨xb,0,none⟩:Addr).add 34) (.slice E' (e+1) rY)=w6 at q3 q4 Sz⊢;have s6:=Sz.size;cases b with
   |false=>
    refine Split.no rfl ⟨(W,nw,cw,(i:Int)+1),rfl,⟨i+1,E',e+1,rY,W,nw,cw,rfl,dQ,?_,Sz⟩,by simp only;omega⟩;rw [pX];simpa [List.count_append]using q3
   |true=>
    refine Split.yes rfl ⟨A,n,cp,q3.f33,(bL.hs q3.mg).load (i:=(i:Int)) (by omega) yG ⟨z.2.1,?_⟩⟩;intro w7;have k7:Kept Nil w6 w7:=(Kept.refl _ _).alloc _;have hx7:=jA w6 z;obtain⟨W',Tm,w8,r1,r2,r3⟩:=q3.Ub (by omega) (by omega) k7 hx7;refine⟨W',nw+1,Tm,w8,r1,_,r2.f32,r2.wrx (by omega),?_⟩;have alR:(jL k G s l i).bl.count true<=300:=by have:=List.count_le_length (a:=true) (l:=(jL k G s l i).bl);omega
    have ew:u64.wrap (((G.score s+1+(jL k G s l i).bl.count true:Nat):Int)+1)=((G.score s+1+(jL k G s l i).bl.count true+1:Nat):Int):=by
     rw [show((G.score s+1+(jL k G s l i).bl.count true:Nat):Int)+1=((G.score s+1+(jL k G s l i).bl.count true+1:Nat):Int)by omega];exact js (by omega)
    simp only;rw [ew];have r4:=r2.PC (G.score s+1+(jL k G s l i).bl.count true+1);have r5:=r2.Pz 32 (.int .u64 ((G.score s+1+(jL k G s l i).bl.count true+1:Nat):Int));refine⟨(W',nw+1,Tm,(i:Int)+1),rfl,⟨i+1,E',e+1,rY,W',nw+1,Tm,rfl,dQ,?_,(Sz.tt r3).trans r5 (fun _ _ h=>.inl h)⟩,by simp only;omega⟩;rw [pX];have ec:((jL k G s l i).bl++ [true]).count true=(jL k G s l i).bl.count true+1:=by simp [List.count_append]
    simp only [if_true];rw [ec,<-Nat.add_assoc];exact r4
  unfold ae.B4;refine Split.dec (fun Wy=>?_) (fun WS=>?_)
  ·simp only at Wy
   refine Split.mk (fun vZ=>?_) (fun vZ=>?_)
   ·replace vZ:b=true:=vZ
    subst vZ;have Mb:q<zu.length:=by omega
    obtain⟨z2,hz2⟩:∃z2,zu[q]? =some z2:=⟨_,List.getElem?_eq_getElem Mb⟩;intro w5;have k5:Kept Nil u w5:=(Kept.refl _ _).drew;clear_value w5;have FE:=ku.tt k5;have Bf:=pV.trans FE (fun _ _ h=>h.elim);have hR5:=hR Bf;refine((bL.hs TU).same FE).load (i:=(q:Int)) (by omega) (by rw [Int.toNat_natCast];exact hz2) (Is.mk rfl ⟨_,hR5.c0,?_⟩);refine oU hR5 (by omega) (bL.hs (V4.same FE).wr) (by omega) z2 fun N2 c2 w6 HI k6=>⟨N2,_,c2,rfl,?_⟩;have LD:=FE.tt k6;refine⟨(hR5.same k6).c0,?_⟩;simp only;rw [dw (n:=(q:Int)) (by omega) (by omega),gZ (x:=(k:Int)-1) (by omega) (by omega)];refine⟨(decide (((bO G.D (jL k G s l i).wd z2).length:Int)<=(k:Int)-1),(q:Int)+1),rfl,⟨_,q+1,rfl,Mb,?_,LD⟩,by simp only;omega⟩;rw [eq_comm,Bool.and_eq_true,decide_eq_true_eq]at hb;rw [decide_eq_true hb.1,Bool.true_and,List.take_add_one,hz2];simp only [Option.toList_some,List.all_append,hb.2,Bool.true_and,List.all_cons,List.all_nil,Bool.and_true];rw [decide_eq_decide];omega
   ·rw [aP,ae.Br]
    replace vZ:b=false:=vZ
    refine fin ku ?_;rw [vZ]at hb⊢
    symm
    unfold oA;rw [Ox,decide_eq_false_iff_not];rintro⟨g1,g2⟩;rw [decide_eq_true g1,Bool.true_and]at hb;have:=List.all_eq_false.1 hb.symm;obtain⟨z0,hz0,hz1⟩:=this;exact hz1 (decide_eq_true (g2 z0 (List.mem_of_mem_take hz0)))
  ·simp only at WS
   rw [aP,ae.Br];refine fin ku ?_;rw [List.take_of_length_le (by omega)]at hb;rw [hb];unfold oA;rw [Ox,Bool.eq_iff_iff,Bool.and_eq_true,decide_eq_true_eq,decide_eq_true_eq,List.all_eq_true];simp only [decide_eq_true_eq]
 ·simp only at gq
  have:i=n:=by omega
  subst this;rw [aP,ae.xD];rw [<-hn,Dj]at Vv;have Gm:(⟨s,G.score s+1+(fF k G s l).bl.count true,cD G s l,(fF k G s l).bl⟩:oC)=cR k G s l:=rfl;rw [Gm]at Vv;unfold ae.rU;obtain⟨t1,t2,t3⟩:=dD Vv.box (cs:=cF (cR k G s l) A (cD G s l).length cp E e ce) (by rw [aS];rfl);refine⟨_,⟨aS ..,Cells.bz Vv.top⟩,⟨aS ..,dt _ _ _ _ _ _ _,fun j hj=>t1 j (by rw [aS];exact hj)⟩,_,⟨aS ..,Cells.bz t2⟩,?_⟩;rw [hn]at t3 Vv⊢;exact hK v E e ce W nw cw Vv ((kv.mono fun _ _ h=>h.imp (fun h=>h) (fun h=>.inr h)).trans t3 (fun _ _ h=>.inr (.inl h)))
end
theorem Sg{G:GS}{l:List HT}{k:Nat}{x:HT}(h:SO G l)(h1:∀y∈l.take k,gl G y x=true)(h2:∀y∈l.drop k,gl G x y=true):SO G (l.take k++x::l.drop k):=by
 have h0:SO G (l.take k++l.drop k):=by rw [List.take_append_drop];exact h
 unfold SO at h0⊢;rw [List.pairwise_append]at h0⊢;refine⟨h0.1,List.pairwise_cons.2 ⟨h2,h0.2.1⟩,fun a ha b hb=>?_⟩;rcases List.mem_cons.1 hb with rfl|hb
 ·exact h1 a ha
 ·exact h0.2.2 a ha b hb
section
variable{y w w':World}{F F' S:Nat->Prop}{r x k:Nat}{G:GS}{K:Value->World->Prop}{B0 xb rb sb n cp e ce nw cw na ca:Nat}{A E W AA:Option Addr}{s:HT}{l all wd:List HT}
set_option maxHeartbeats 2000000 in
theorem EI(h:R3 y F r x k G)(hD:G.D.length<=300)(hB:B0<=y.heap.size)(hU:∀j,(j=r\/j=x\/F j)->j≠xb)(hs:s∈ids G.D)(IX:y.heap[sb]? =some (.cells s.1 aj (0,0)))(SU:sb≠xb)
 (cZ:HS y AA na all) (ZX:∀a,AA=some a->a.block≠xb) (hSS:SS all) (fN:∀z∈all,z∈ids G.D)
 (V:VJ y B0 xb rb ⟨s,G.score s+1,[],[]⟩ none 0 0 none 0 0 W nw cw wd)
 (hK:∀v A n cp M i,SO G M->(∀z,z∈M↔z∈all/\z≠s/\¬fC G.D z s)->VJ v B0 xb rb ⟨s,G.score s+1,M,[]⟩ A n cp none 0 0 W nw cw wd->Kept (· =xb) y v->ae.cI (some ⟨r,0,none⟩) ⟨sb,0,none⟩ ⟨rb,0,none⟩ none 0 0 ⟨xb,0,none⟩ W nw cw AA na ca i K v):
 Holds none [] prog 179 (.loop (lB (bB (sR (sL (sR (sR (sR (sR (body ae.fn)))))))))) (ae.q1 K) [(0,.pointer (some ⟨r,0,none⟩)),(4,.pointer (some ⟨sb,0,none⟩)),(6,.pointer (some ⟨rb,0,none⟩)),(7,.slice none 0 0),(8,.pointer (some ⟨xb,0,none⟩)),(9,.slice W nw cw),(10,.slice AA na ca),(11,.int .i64 0)] y:=by
 have Mj:=cZ.len;have ak9:na<=300:=by
  have:=cQ (m:=ids G.D) hSS.nodup fN;rw [fX]at this;omega
 have hR:∀ {v:World},Kept (· =xb) y v->R3 v F r x k G:=fun kv=>h.az kv (hU r (.inl rfl)) (hU x (.inr (.inl rfl))) (fun j hj=>hU j (.inr (.inr hj)));refine ae.b6 (I:=fun st v=>∃(i:Nat) (M:List HT) (A:Option Addr) (n cp:Nat),st=(i:Int)/\i<=na/\VJ v B0 xb rb ⟨s,G.score s+1,M,[]⟩ A n cp none 0 0 W nw cw wd/\SO G M/\(∀z,z∈M↔z∈all.take i/\z≠s/\¬fC G.D z s)/\Kept (· =xb) y v) (μ:=fun st _=>((na:Int)-st).toNat) (s:=0) ⟨0,[],none,0,0,rfl,Nat.zero_le _,V,List.Pairwise.nil,by simp,Kept.refl _ _⟩ ?_;rintro st v ⟨i,M,A,n,cp,rfl,hi,Vv,FV,ig,kv⟩;unfold ae.B1;refine Split.dec (fun cH=>?_) (fun gq=>?_)
 ·have dQ:i<na:=by omega
  obtain⟨z,hz⟩:∃z,all[i]? =some z:=⟨_,List.getElem?_eq_getElem (by omega)⟩;have Qv:=fN z (List.mem_of_getElem? hz);have Gl:all.take (i+1)=all.take i++ [z]:=by rw [List.take_add_one,hz];rfl
  have hMi:∀y∈M,y∈ids G.D:=fun y hy=>fN y (List.mem_of_mem_take ((ig y).1 hy).1);have hMl:M.length<=300:=by
   have:=cQ (m:=ids G.D) FV.nodup hMi;rw [fX]at this;omega
  have hMn:M.length=n:=bL.len Vv.mg;have sv:=kv.size;refine(cZ.az kv ZX).load (i:=(i:Int)) (by omega) hz ?_;intro w2;obtain⟨sM,jg,jk⟩:=gP (w:=v) (z:=dG.1) (cs:=z.1) (t:=aj) (by rw [z.2.1];rfl);refine⟨⟨z.2.1,z.2.one,fun j hj=>sM j (by rw [z.2.1];exact hj)⟩,?_⟩;intro w3 w4
  replace jg:w3.heap[v.heap.size]? =some (.cells z.1 aj (0,0)):=jg
  replace jk:Kept Nil v w3:=jk
  have k4:Kept Nil w3 w4:=(Kept.refl _ _).drew;clear_value w4;have rX:=k4.heap jg (fun h=>h);have PX:=jk.tt k4;clear_value w3;have pV:=kv.trans PX (fun _ _ h=>h.elim);have L4:∀ {u:World},Kept (· =xb) y u->Cells u ⟨sb,0,none⟩ s.1:=fun ku=>Cells.bz (ku.heap IX SU);have next:∀ {u:World} {M':List HT} {A':Option Addr} {n' wc:Nat},VJ u B0 xb rb ⟨s,G.score s+1,M',[]⟩ A' n' wc none 0 0 W nw cw wd->SO G M'->(∀z,z∈M'↔z∈all.take (i+1)/\z≠s/\¬fC G.D z s)->Kept (· =xb) y u->
   ∃s1:Int,i64.wrap ((i:Int)+(1:Int))=s1/\(∃(i:Nat) (M:List HT) (A:Option Addr) (n cp:Nat),s1=(i:Int)/\i<=na/\VJ u B0 xb rb ⟨s,G.score s+1,M,[]⟩ A n cp none 0 0 W nw cw wd/\SO G M/\(∀z,z∈M↔z∈all.take i/\z≠s/\¬fC G.D z s)/\Kept (· =xb) y u)/\((na:Int)-s1).toNat<((na:Int)-(i:Int)).toNat:=fun h1 h2 h3 h4=>by
   rw [dw (n:=(i:Int)) (by omega) (by omega)];exact⟨(i:Int)+1,rfl,⟨i+1,_,_,_,_,rfl,dQ,h1,h2,h3,h4⟩,by omega⟩
  have skip:(z=s\/fC G.D z s)->∀z',z'∈M↔z'∈all.take (i+1)/\z'≠s/\¬fC G.D z' s:=fun hz0 z'=>by
   rw [ig,Gl,List.mem_append,List.mem_singleton];constructor
   ·rintro⟨a,b⟩;exact⟨.inl a,b⟩
   ·rintro⟨a|rfl,b,c⟩
    ·exact⟨a,b,c⟩
    ·rcases hz0 with e|e
     ·exact absurd e b
     ·exact absurd e c
  refine⟨z.1,⟨z.2.1,Cells.bz rX⟩,s.1,⟨s.2.1,L4 pV⟩,⟨z.2.ints,s.2.ints⟩,?_⟩;rw [dL];refine Split.dec (fun B9=>?_) (fun B9=>?_)
  ·obtain⟨s1,e1,e2,e3⟩:=next (Vv.same PX) FV (skip (.inl B9)) pV
   rw [e1];exact⟨s1,rfl,e2,e3⟩
  have ZT:=hR pV;refine Is.mk rfl ⟨_,ZT.c1,Is.mk rfl ⟨z.1,⟨z.2.1,Cells.bz rX⟩,s.1,⟨s.2.1,L4 pV⟩,?_⟩⟩;rw [add_zero];refine qv ZT.X.gr h.fG.W (by omega) z s fun w5 b hb k5=>⟨b,rfl,?_⟩;have PW:=PX.tt k5;have Bf:=kv.trans PW (fun _ _ h=>h.elim);refine Split.mk (fun hbt=>?_) (fun ZQ=>?_)
  ·obtain⟨s1,e1,e2,e3⟩:=next (Vv.same PW) FV (skip (.inr (hb.1 hbt))) Bf
   rw [e1];exact⟨s1,rfl,e2,e3⟩
  have hzA:¬fC G.D z s:=fun e=>by rw [hb.2 e]at ZQ;cases ZQ
  have V5:=Vv.same PW;have nY:=k5.heap rX (fun h=>h);have hzM:z∉M:=fun e=>by
   have h1:=((ig z).1 e).1;have dW:=hSS.nodup;obtain⟨q,hq⟩:=List.mem_iff_getElem?.1 h1;rw [List.getElem?_take]at hq;split at hq
   ·rename_i hqi
    have:=(List.getElem?_inj (i:=q) (j:=i) (by rw [Mj];omega) dW).1 (by rw [hq,hz]);omega
   ·cases hq
  refine⟨A,n,cp,V5.f33,?_⟩;refine ae.gI (I:=fun st u=>∃q:Nat,st=(q:Int)/\q<=M.length/\(∀y∈M.drop q,gl G z y=true)/\Kept Nil w5 u) (μ:=fun st _=>st.toNat) (s:=(n:Int)) ⟨n,rfl,by omega,by rw [<-hMn];simp,Kept.refl _ _⟩ ?_;rintro st u ⟨q,rfl,hq,u9,ku⟩;unfold ae.B2;have u7:∀ {t:World},Kept Nil w5 t->(∀y∈M.take q,gl G y z=true)->ae.iE (some ⟨r,0,none⟩) ⟨sb,0,none⟩ ⟨rb,0,none⟩ none 0 0 ⟨xb,0,none⟩ W nw cw AA na ca (i:Int) ⟨v.heap.size,0,none⟩ (q:Int) (bH (ae.e1 (some ⟨r,0,none⟩) ⟨sb,0,none⟩ ⟨rb,0,none⟩ none 0 0 ⟨xb,0,none⟩ W nw cw AA na ca) (fun st v=>∃(i:Nat) (M:List HT) (A:Option Addr) (n cp:Nat),st=(i:Int)/\i<=na/\VJ v B0 xb rb ⟨s,G.score s+1,M,[]⟩ A n cp none 0 0 W nw cw wd/\SO G M/\(∀z,z∈M↔z∈all.take i/\z≠s/\¬fC G.D z s)/\Kept (· =xb) y v) (fun st _=>((na:Int)-st).toNat) (i:Int) v (ae.q1 K)) t:=by
   intro t kt IV;have Vt:=V5.same kt;have Uy:=Bf.trans kt (fun _ _ h=>h.elim);have st:=Uy.size;have xJ:=Vt.mg;have Js:n<=cp:=by rcases Row.own xJ with⟨_,h1,h2,_⟩|⟨_,_,_,_,_,h1,_⟩<;>omega
   unfold ae.iE;refine⟨A,n,cp,Vt.f33,⟨by omega,by omega⟩,?_⟩;have yc:HS t (if cp=0 then A else A.map (·.add (0*32))) ((q:Int).toNat -0) (M.take q):=by
    have h:=xJ.hs.take (k:=q) (by omega);rw [Nat.sub_zero,Int.toNat_natCast];have e:(if cp=0 then A else A.map (·.add (0*32)))=A:=by
     split
     ·rfl
     ·cases A<;>simp [add_zero]
    rw [e];exact h
   obtain⟨A1,c1,u2,lf,fW,Mw,mu⟩:=cO (cx:=cp-0) aA (bL.nil t t.heap.size) yc (by simp;omega) (Nat.le_refl _);have k2:Kept Nil t u2:=Kept.eA (Kept.refl _ _) Mw (fun k hk=>by cases hk);rw [Nat.zero_add,Nat.sub_zero,Int.toNat_natCast]at lf fW;rw [List.nil_append]at fW;refine⟨A1,_,c1,u2,by rw [Nat.sub_zero,Int.toNat_natCast];exact lf,?_⟩;refine⟨z.1,⟨z.2.1,Cells.bz ((kt.tt k2).heap nY (fun h=>h))⟩,z.2.1,?_⟩;intro u3;have k3:Kept Nil u2 u3:=(Kept.refl _ _).alloc _;have Xp:HS u3 (some ⟨u2.heap.size,0,none⟩) 1 [z]:=jA u2 z;clear_value u3;have mD:bL u3 t.heap.size A1 q c1 (M.take q):=Row.az fW k3 (fun _ _ h=>h);have s2:=k2.size;have s3:=k3.size;obtain⟨A4,c4,u4,vG,jR,D9,alX⟩:=cO (cx:=1) aA mD Xp (by omega) (by omega);have LO:Kept Nil t u4:=Kept.eA (k2.tt k3) D9 (fun k hk=>by rcases mu k hk with h|h;cases h;exact h);have V4:=Vt.same LO;refine⟨A4,_,c4,u4,vG,A,n,cp,V4.f33,⟨by omega,by omega⟩,?_⟩;have SY:HS u4 (if cp=(q:Int).toNat then A else A.map (·.add ((q:Int).toNat*32))) (n-(q:Int).toNat) (M.drop q):=by
    rw [Int.toNat_natCast];exact(xJ.hs.same LO).drop Js (by omega)
   have hdl:(n-(q:Int).toNat)=n-q:=by rw [Int.toNat_natCast]
   have s4:=LO.size;obtain⟨A5,c5,u5,tJ,lj,WU,alW⟩:=cO (cx:=cp-(q:Int).toNat) aA jR SY (by omega) s4;have Yj:∀j,aW A4=some j->t.heap.size<=j:=fun j hj=>(Row.bz jR hj).1;have k5':Kept Nil t u5:=Kept.eA LO WU Yj;have Hb:=Vt.same k5';refine⟨A5,_,c5,u5,tJ,Hb.wrx (by omega),?_⟩;have mI:M.take q++ [z]++M.drop q=M.take q++z::M.drop q:=by simp
   have wZ:(M.take q++z::M.drop q).length=n+1:=by simp;omega
   rw [mI]at lj;have e5:q+1+(n-(q:Int).toNat)=n+1:=by omega
   rw [e5]at lj⊢;have Ge:∀j,aW A5=some j->t.heap.size<=j:=fun j hj=>(Row.bz lj hj).1;have ks:=Hb.Pz 33 (.slice A5 (n+1) c5);have Vf:VJ (u5.setCell ((⟨xb,0,none⟩:Addr).add 33) (.slice A5 (n+1) c5)) B0 xb rb ⟨s,G.score s+1,M.take q++z::M.drop q,[]⟩ A5 (n+1) c5 none 0 0 W nw cw wd:=by
    have xB:=Hb.xB;refine⟨?_,?_,Row.az Hb.bl ks (fun j hj=>by cases hj),Row.az Hb.wr ks (fun j hj e=>by have:=(Row.bz Hb.wr hj).1;omega),ks.heap Hb.box Hb.xr.symm,fun j hj e=>(by cases e),fun j hj e=>?_,fun j hj=>(by cases hj),Hb.xB,Hb.rB,Hb.xr⟩
    ·rw [a8,cV Hb.top]
     have:=qL ⟨s,G.score s+1,M,[]⟩ A n cp none 0 0 #[] A5 (n+1) c5;rw [Array.append_empty,Array.append_empty]at this;rw [this];rfl
    ·have Vy:bL u5 B0 A5 (n+1) c5 (M.take q++z::M.drop q):=Row.base lj (fun j hj=>by have:=Ge j hj;omega)
     exact Row.az Vy ks (fun j hj e=>by have:=Ge j hj;omega)
    ·obtain⟨_,cur,hc⟩:=Row.bz Vt.wr e
     have:=aO hc;have:=Ge j hj;omega
   generalize u5.setCell ((⟨xb,0,none⟩:Addr).add 33) (.slice A5 (n+1) c5)=u6 at ks Vf⊢;obtain⟨s1,e1,e2,e3⟩:=next Vf (Sg FV IV u9) (fun z'=>by
    rw [Gl,List.mem_append (s:=all.take i),List.mem_singleton];have hM2:z'∈M.take q++z::M.drop q↔z'=z\/z'∈M:=by
     rw [List.mem_append,List.mem_cons];constructor
     ·rintro(h|h|h)
      ·exact .inr (List.mem_of_mem_take h)
      ·exact .inl h
      ·exact .inr (List.mem_of_mem_drop h)
     ·rintro(h|h)
      ·exact .inr (.inl h)
      ·rw [<-List.take_append_drop q M,List.mem_append]at h
       exact h.imp (fun h=>h) (fun h=>.inr h)
    rw [hM2,ig];constructor
    ·rintro(rfl|⟨a,b⟩)
     ·exact⟨.inr rfl,B9,hzA⟩
     ·exact⟨.inl a,b⟩
    ·rintro⟨a|rfl,b⟩
     ·exact .inr ⟨a,b⟩
     ·exact .inl rfl) ((Uy.trans k5' (fun _ _ h=>h.elim)).tt ks)
   rw [e1];exact⟨s1,rfl,e2,e3⟩
  intro w6;have k6:Kept Nil u w6:=(Kept.refl _ _).drew;clear_value w6;have LD:=ku.tt k6;have V6:=V5.same LD;have Sz:=Bf.trans LD (fun _ _ h=>h.elim);refine Split.dec (fun iq=>?_) (fun z7=>?_)
  ·have VN:0<q:=by omega
   obtain⟨y1,Qx⟩:∃y1,M[q-1]? =some y1:=⟨_,List.getElem?_eq_getElem (by omega)⟩;have NW:=List.mem_of_getElem? Qx;rw [wN (x:=(q:Int)-1) (i:=q-1) (by omega) (by omega)];refine⟨z.1,⟨z.2.1,Cells.bz (LD.heap nY (fun h=>h))⟩,A,n,cp,V6.f33,(bL.hs V6.mg).load (i:=((q-1:Nat):Int)) (by omega) (by rw [Int.toNat_natCast];exact Qx) ?_⟩;refine qe (hR Sz) (by omega) Qv (hMi y1 NW) fun w7 k7=>⟨_,rfl,?_⟩;have ku7:=LD.tt k7;refine Split.mk (fun hc=>?_) (fun hc=>?_)
   ·refine⟨((q-1:Nat):Int),rfl,⟨q-1,rfl,by omega,fun z' yG=>?_,ku7⟩,by simp only;omega⟩
    have hd:M.drop (q-1)=y1::M.drop q:=by
     obtain⟨h1,h2⟩:=lgeS Qx;rw [List.drop_eq_getElem_cons h1,h2,show q-1+1=q by omega]
    rw [hd]at yG;rcases List.mem_cons.1 yG with rfl|yG
    ·exact hc
    ·exact u9 z' yG
   ·rw [aP,ae.jJ]
    refine u7 ku7 fun z' yG=>?_;have DT:gl G y1 z=true:=by
     cases hg:gl G y1 z
     ·exact absurd (pf hc hg) (fun e=>hzM (by rw [e];exact NW))
     ·rfl
    obtain⟨j,hj⟩:=List.mem_iff_getElem?.1 yG;rw [List.getElem?_take]at hj;split at hj
    ·rename_i hjq
     by_cases e:j=q-1
     ·subst e;rw [Qx]at hj;cases hj;exact DT
     ·obtain⟨a1,a2⟩:=lgeS hj
      obtain⟨b1,b2⟩:=lgeS Qx;have:=List.pairwise_iff_getElem.1 FV j (q-1) a1 b1 (by omega);rw [a2,b2]at this;exact pe this DT
    ·cases hj
  ·rw [aP,ae.jJ]
   have VN:q=0:=by omega
   refine u7 LD fun z' yG=>?_;rw [VN]at yG;simp at yG
 ·rw [aP,ae.cX]
  rw [List.take_of_length_le (by omega)]at ig;exact hK v A n cp M (i:Int) FV ig Vv kv
end
section
variable{w w':World}{F F' S:Nat->Prop}{r x k:Nat}{G:GS}{K:Value->World->Prop}{xb rb sb n cx:Nat}{A:Option Addr}{s:HT}{l:List HT}
theorem Pq{v:World}(h:R3 v F r x k G)(hD:G.D.length<=300)(nW:k<=1000)(hs:s∈ids G.D)(hl:HS v A n l)(hn:n<=5000)(fN:∀z∈l,z∈ids G.D)(hU:∀j,(j=r\/j=x\/F j)->j≠xb/\j≠rb)
 (IX:v.heap[sb]? =some (.cells s.1 aj (0,0))) (zY:v.heap[rb]? =some (.cells zC bg (0,0))) (Zp:v.heap[xb]? =some (.cells (cF ⟨s,G.score s+1,[],[]⟩ none 0 0 none 0 0) bg (0,0))) (SU:sb≠xb) (hrx:xb≠rb)
 (hK:∀u A n cp E e ce W nw cw,bL u v.heap.size A n cp (cR k G s l).merge->Row u v.heap.size gh 1 E e ce (oB (cR k G s l).dR)->bL u v.heap.size W nw cw (fF k G s l).wd->Kept (fun j=>j=xb\/j=rb) v u->K (.tuple #[.agg (cF (cR k G s l) A n cp E e ce),.slice W nw cw]) u):
 ae.J1 (some ⟨r,0,none⟩) A n cx ⟨sb,0,none⟩ ⟨rb,0,none⟩ none 0 0 ⟨xb,0,none⟩ K v:=by
 have W0:=h.fG.W;have lsb:=aO IX;have lrb:=aO zY;have lxb:=aO Zp;have hwl:=r9 h.fG hs;have j2:∀ {u:World} {W:Option Addr} {nw cw:Nat},bL u v.heap.size W nw cw (G.world s++ [s])->Kept Nil v u->ae.J2 (some ⟨r,0,none⟩) A n cx ⟨sb,0,none⟩ ⟨rb,0,none⟩ none 0 0 ⟨xb,0,none⟩ W nw cw K u:=by
  intro u W nw cw aaO ku;have hu:=h.same ku;have su:=ku.size;unfold ae.J2;refine Is.mk rfl ⟨_,hu.c1,Is.mk rfl ?_⟩;rw [add_zero];refine zk hu.X.gr W0 (by omega) (hl.same ku) (by omega) fun A1 c1 w1 ke k1=>⟨A1,_,c1,rfl,?_⟩;have qk:(dY G.D l).length<=300:=Nat.le_trans (lT _ _) hD;have s1:=k1.size;have zG:=ku.tt k1;obtain⟨A2,c2,w2,jj,fW,g2,_⟩:=cO aA ke (cx:=cx) (hl.same zG) (by omega) s1;have k2:Kept Nil u w2:=Kept.eA k1 g2 (fun j hj=>(Row.bz ke hj).1);refine⟨A2,_,c2,w2,jj,?_⟩;refine qu fW.hs (by omega) fun A3 c3 w3 mD k3=>⟨A3,_,c3,rfl,?_⟩;have NA:=k2.tt k3;have rv:=ku.tt NA;have h3:=h.same rv;have cZ:∀z∈dv (dY G.D l++l),z∈ids G.D:=fun z hz=>by
   rcases List.mem_append.1 (dF.1 hz)with hz|hz
   ·exact(jn.1 hz).1
   ·exact fN z hz
  have V3:VJ w3 v.heap.size xb rb ⟨s,G.score s+1,[],[]⟩ none 0 0 none 0 0 W nw cw (G.world s++ [s]):=
   ⟨rv.heap Zp (fun h=>h),bL.nil _ _,Row.nil _ _ _ _,Row.az aaO NA (fun _ _ h=>h),rv.heap zY (fun h=>h),fun j hj=>(by cases hj),fun j hj=>(by cases hj),fun j hj=>(by cases hj),lxb,lrb,hrx⟩
  have s3:=rv.size;refine EI h3 (by omega) (by omega) (fun j hj=>(hU j hj).1) hs (rv.heap IX (fun h=>h)) SU mD.hs (fun a ha e=>by
   subst ha;have:=(Row.bz mD (k:=a.block) rfl).1;have:=(ku.tt k2).size;omega) (iK _) cZ V3 fun t A n cp M i FV ig Vt kt=>?_
  have hM:M=cD G s l:=sC FV fun z=>by
   rw [ig];unfold sA;rw [List.mem_filter,decide_eq_true_eq]
  subst hM;have ht:=h3.az kt (hU r (.inl rfl)).1 (hU x (.inr (.inl rfl))).1 (fun j hj=>(hU j (.inr (.inr hj))).1);have st:=kt.size;refine EH (B0:=v.heap.size) ht (by omega) nW (by omega) (fun j hj=>⟨?_,hU j hj⟩) (fun z hz=>?_) hs Vt fun t2 E e ce W nw cw V2 BW=>?_
  ·rcases hj with rfl|rfl|hj
   ·exact h.lt
   ·exact h.lx
   ·exact h.lo j hj
  ·exact cZ z ((ig z).1 hz).1
  ·have box:=V2.box
   obtain⟨_,_,f3⟩:=dD box (cs:=cF (cR k G s l) A n cp E e ce) (by rw [aS];rfl);refine hK _ A n cp E e ce W nw cw (Row.az V2.mg f3 (fun j hj e=>by have:=(Row.bz V2.mg hj).1;omega)) (Row.az V2.bl f3 (fun j hj e=>by have:=(Row.bz V2.bl hj).1;omega)) (Row.az V2.wr f3 (fun j hj e=>by have:=(Row.bz V2.wr hj).1;omega)) ?_;exact((rv.mono fun _ _ h=>h.elim).trans kt (fun j hj e=>.inl e)).trans BW (fun j hj e=>by
    rcases e with e|e|e
    ·exact .inl e
    ·exact .inr e
    ·omega)
 unfold ae.J1;intro w1;have k1:Kept Nil v w1:=(Kept.refl _ _).drew;clear_value w1;have h1:=h.same k1;obtain⟨i,nd,cl,wl,q1,q2,q3,q4,q5,q6,q7,q8⟩:=O9 h.fG hs;obtain⟨A0,c0,B,e,g1,g2,g3⟩:=h.top;have cB:∀ {u:World},Kept Nil v u->u.cell? ((⟨r,0,none⟩:Addr).add 3)=some (.slice B G.D.length e):=fun ku=>by rw [a8,ay (ku.heap g1 (fun h=>h))];rfl
 have gW:∀ {u:World},Kept Nil v u->pz u F B G.D.length G.jh:=fun ku=>g3.az ku (fun _ _ h=>h);obtain⟨aB,Aw,nw,cw,p1,p2,p3,p4,p5,p6⟩:=g3.at_ i wl q4;subst p1;have akd:wl.length=nw:=p5.len;rw [q7]at hwl;have cW:∀ {u:World},Kept Nil v u->u.cell? (aB.add (((i:Nat):Int).toNat*1))=some (.slice Aw nw cw):=fun ku=>by rw [Int.toNat_natCast];exact ku.cell p4 (fun h=>h)
 have hW:∀ {u:World},Kept Nil v u->HS u Aw nw wl:=fun ku=>p5.same ku;have bx:∀ {u:World},Kept Nil v u->∃cs:Array Value,(.agg s.1:Value)=.agg cs/\cs.size=32/\Cells u ⟨sb,0,none⟩ cs:=fun ku=>⟨_,rfl,s.2.1,Cells.bz (ku.heap IX (fun h=>h))⟩;have Sb:∀ {u:World},Kept Nil v u->∃A' c' u',(Builtin.append_ #[aA,aA] aA #[.slice none 0 0,.slice Aw nw cw]).run prog u=.ok (.slice A' nw c') u'/\bL u' v.heap.size A' nw c' wl/\Kept Nil u u':=fun {u} ku=>by
  obtain⟨A',c',u',hr,row,hg,_⟩:=cO (cx:=cw) aA (bL.nil u v.heap.size) (hW ku) (by omega) ku.size;rw [Nat.zero_add]at hr row;rw [List.nil_append]at row;exact⟨A',c',u',hr,row,Kept.eA (Kept.refl _ _) hg (fun j hj=>by cases hj)⟩
 have Sa:∀ {u:World} {A':Option Addr} {c' bq:Nat},Kept Nil v u->bL u v.heap.size A' nw c' wl->HS u (some ⟨bq,0,none⟩) 1 [s]->∃A2 c2 u',(Builtin.append_ #[aA,aA] aA #[.slice A' nw c',.slice (some ⟨bq,0,none⟩) 1 1]).run prog u=.ok (.slice A2 (nw+1) c2) u'/\bL u' v.heap.size A2 (nw+1) c2 (G.world s++ [s])/\Kept Nil v u':=fun {u A' c' bq} ku row hx=>by
  obtain⟨A2,c2,u',hr,fW,hg,_⟩:=cO (cx:=1) aA row hx (by omega) ku.size;rw [<-q7]at fW;exact⟨A2,c2,u',hr,fW,Kept.eA ku hg (fun j hj=>(Row.bz row hj).1)⟩
 refine Is.mk rfl ⟨some aB,_,e,cB k1,Is.mk rfl ⟨_,h1.c1,Is.mk rfl ⟨s.1,⟨s.2.1,Cells.bz (k1.heap IX (fun h=>h))⟩,s.1,⟨s.2.1,Cells.bz (k1.heap IX (fun h=>h))⟩,?_,?_⟩⟩⟩
 ·rw [add_zero]
  refine oT h1.X.gr (by omega) s fun w2 k2=>⟨_,rfl,?_⟩;have yF:=k1.tt k2;rw [q5];refine⟨bx yF,cB yF,⟨by omega,by omega⟩,Is.mk rfl ⟨Aw,nw,cw,cW yF,?_,?_⟩⟩
  ·obtain⟨A1,c1,w3,DW,mD,k3⟩:=Sb yF
   have rv:=yF.tt k3;refine⟨A1,nw,c1,w3,DW,bx rv,s.2.1,?_⟩;intro w4;have k4:Kept Nil w3 w4:=(Kept.refl _ _).alloc _;have Vb:=jA w3 s;obtain⟨A2,c2,w5,tJ,lj,k5⟩:=Sa (rv.tt k4) (Row.az mD k4 (fun _ _ h=>h)) Vb;exact⟨A2,nw+1,c2,w5,tJ,ae.qj (j2 lj k5)⟩
  ·refine⟨s.2.1,?_⟩
   intro w3;have k3:Kept Nil w2 w3:=(Kept.refl _ _).alloc _;have Cd:HS w3 (some ⟨w2.heap.size,0,none⟩) 1 [s]:=jA w2 s;clear_value w3;have rv:=yF.tt k3;obtain⟨A1,c1,w4,vG,jR,k4⟩:=Sb rv;obtain⟨A2,c2,w5,tJ,lj,k5⟩:=Sa (rv.tt k4) jR (Cd.same k4);exact⟨cW rv,cB rv,A1,nw,c1,w4,vG,A2,nw+1,c2,w5,tJ,ae.qj (j2 lj k5)⟩
 ·refine⟨s.2.1,?_⟩
  intro w2;have k2:Kept Nil w1 w2:=(Kept.refl _ _).alloc _;have NZ:HS w2 (some ⟨w1.heap.size,0,none⟩) 1 [s]:=jA w1 s;clear_value w2;have yF:=k1.tt k2;refine⟨bx yF,(h.same yF).c1,cB yF,?_⟩;rw [add_zero];refine oT (h.same yF).X.gr (by omega) s fun w3 k3=>⟨_,rfl,?_⟩;have rv:=yF.tt k3;rw [q5];obtain⟨A1,c1,w4,vG,jR,k4⟩:=Sb rv;obtain⟨A2,c2,w5,tJ,lj,k5⟩:=Sa (rv.tt k4) jR ((NZ.same k3).same k4);exact⟨cB rv,⟨by omega,by omega⟩,Is.mk rfl ⟨Aw,nw,cw,cW rv,A1,nw,c1,w4,vG,A2,nw+1,c2,w5,tJ,ae.qj (j2 lj k5)⟩⟩
theorem vM(h:R3 w F r x k G)(hD:G.D.length<=300)(nW:k<=1000)(hs:s∈ids G.D)(hl:HS w A n l)(hn:n<=5000)(fN:∀z∈l,z∈ids G.D)
 (hK:∀u A n cp E e ce W nw cw,bL u w.heap.size A n cp (cR k G s l).merge->Row u w.heap.size gh 1 E e ce (oB (cR k G s l).dR)->bL u w.heap.size W nw cw (fF k G s l).wd->Kept Nil w u->K (.tuple #[.agg (cF (cR k G s l) A n cp E e ce),.slice W nw cw]) u):
 bj prog ae.id #[.pointer (some ⟨r,0,none⟩),.agg s.1,.slice A n cx] w K:=by
 refine ae.of ?_;unfold ae.W;intro w1 w2 w3;have k1:Kept Nil w w1:=(Kept.refl _ _).alloc _;have yc:w1.heap[w.heap.size]? =some (.cells s.1 aj (0,0)):=aH w _;have k2:Kept Nil w1 w2:=(Kept.refl _ _).alloc _;have jj:w2.heap[w1.heap.size]? =some (.cells zC bg (0,0)):=aH w1 _;have k3:Kept Nil w2 w3:=(Kept.refl _ _).drew;clear_value w3;have DW:=k3.heap jj (fun h=>h);have Cg:=k3.heap (k2.heap yc (fun h=>h)) (fun h=>h);have nV:=(k1.tt k2).tt k3;have s1:=k1.size;have l1:=aO yc;have l2:=aO DW;clear_value w2 w1;have DV:=y9 h.fG hs;have ew:u64.wrap ((G.score s:Int)+(1:Int))=((G.score s+1:Nat):Int):=by
  rw [show(G.score s:Int)+1=((G.score s+1:Nat):Int)by omega];exact js (by omega)
 have Gm:(s.1++ #[.int .u64 ((G.score s+1:Nat):Int),.slice none 0 0,.slice none 0 0]:Array Value)=cF ⟨s,G.score s+1,[],[]⟩ none 0 0 none 0 0:=rfl;have go:∀ {u:World} {xb:Nat},Kept Nil w3 u->w3.heap.size<=xb->u.heap[xb]? =some (.cells (cF ⟨s,G.score s+1,[],[]⟩ none 0 0 none 0 0) bg (0,0))->ae.J1 (some ⟨r,0,none⟩) A n cx ⟨w.heap.size,0,none⟩ ⟨w1.heap.size,0,none⟩ none 0 0 ⟨xb,0,none⟩ K u:=fun {u xb} ku hx Zp=>by
  have Zm:=nV.tt ku;have s0:=nV.size;refine Pq (h.same Zm) hD nW hs (hl.same Zm) hn fN (fun j hj=>?_) (ku.heap Cg (fun h=>h)) (ku.heap DW (fun h=>h)) Zp (by omega) (by omega) fun t A n cp E e ce W nw cw g1 g2 g3 g4=>?_
  ·have:j<w.heap.size:=by
    rcases hj with rfl|rfl|hj
    ·exact h.lt
    ·exact h.lx
    ·exact h.lo j hj
   exact⟨by omega,by omega⟩
  ·have s0u:=Zm.size
   exact hK t A n cp E e ce W nw cw (Row.base g1 (fun j hj=>by have:=(Row.bz g1 hj).1;omega)) (Row.base g2 (fun j hj=>by have:=(Row.bz g2 hj).1;omega)) (Row.base g3 (fun j hj=>by have:=(Row.bz g3 hj).1;omega)) (Zm.trans g4 (fun j hj e=>by rcases e with e|e<;>omega))
 have bx:∀ {u:World},Kept Nil w3 u->∃cs:Array Value,(.agg s.1:Value)=.agg cs/\cs.size=32/\Cells u ⟨w.heap.size,0,none⟩ cs:=fun ku=>⟨_,rfl,s.2.1,Cells.bz (ku.heap Cg (fun h=>h))⟩;refine⟨s.1,⟨s.2.1,Cells.bz Cg⟩,s.1,⟨s.2.1,Cells.bz Cg⟩,?_,?_⟩
 ·refine jS (h.same nV) (by omega) hs fun w4 k4=>⟨_,rfl,bx k4,?_⟩
  rw [ew,vx s];refine Is.mk rfl ?_;rw [Gm];intro w5;have k5:Kept Nil w4 w5:=(Kept.refl _ _).alloc _;have SN:w5.heap[w4.heap.size]? =some (.cells zC bg (0,0)):=aH w4 _;clear_value w5;have mF:=k4.tt k5;obtain⟨t1,t2,t3⟩:=dD SN (cs:=cF ⟨s,G.score s+1,[],[]⟩ none 0 0 none 0 0) (by rw [aS];rfl);refine⟨bx mF,⟨aS ..,dt _ _ _ _ _ _ _,fun j hj=>t1 j (by rw [aS];exact hj)⟩,?_⟩;have s4:=k4.size;exact ae.ox (go (mF.trans t3 (fun j hj e=>by omega)) s4 t2)
 ·intro w4
  have k4:Kept Nil w3 w4:=(Kept.refl _ _).alloc _;have Vb:w4.heap[w3.heap.size]? =some (.cells zC bg (0,0)):=aH w3 _;clear_value w4;refine⟨bx k4,bx k4,?_⟩;refine jS (h.same (nV.tt k4)) (by omega) hs fun w5 k5=>⟨_,rfl,bx (k4.tt k5),?_⟩;have mF:=k4.tt k5;rw [ew,vx s];refine Is.mk rfl ?_;rw [Gm];obtain⟨t1,t2,t3⟩:=dD (k5.heap Vb (fun h=>h)) (cs:=cF ⟨s,G.score s+1,[],[]⟩ none 0 0 none 0 0) (by rw [aS];rfl);refine⟨⟨aS ..,dt _ _ _ _ _ _ _,fun j hj=>t1 j (by rw [aS];exact hj)⟩,?_⟩;exact ae.ox (go (mF.trans t3 (fun j hj e=>by omega)) (Nat.le_refl _) t2)
end
theorem Dq:yA prog tR bg 35 88:=⟨by kernel_rfl,by kernel_rfl⟩
theorem TR:yA prog fK aA 1 24:=⟨by kernel_rfl,by kernel_rfl⟩
section
variable{w w':World}{F F' S:Nat->Prop}{A:Option Addr}{n c B m bytes:Nat}{tS tE:TypeId}{news:List Value}
theorem y8{a:Addr}(P:Nat->Array Value->Prop):∀n,(∀i,i<n->∃arr:Array Value,arr.size=m/\(∀u∈arr.toList,u.oneCell'=true)/\Cells w (a.add (i*m)) arr/\P i arr)->
 ∃news:List Value,news.length=n*m/\(∀j u,news[j]? =some u->w.cell? (a.add j)=some u)/\(∀u∈news,u.oneCell'=true)/\∀i,i<n->∃arr:Array Value,P i arr/\arr.size=m/\∀(j:Nat) v,arr[j]? =some v->news[i*m+j]? =some v
 |0,_=>⟨[],by simp,fun j u h=>by simp at h,fun u h=>by simp at h,fun i h=>by omega⟩
 |n+1,H=>by
  obtain⟨news,h1,h2,h3,h4⟩:=y8 P n fun i hi=>H i (by omega);obtain⟨arr,g1,g2,g3,g4⟩:=H n (by omega);refine⟨news++arr.toList,by rw [List.length_append,h1,Array.length_toList,g1,Nat.add_mul,Nat.one_mul],fun j u hj=>?_,fun u hu=>?_,fun i hi=>?_⟩
  ·rw [List.getElem?_append]at hj
   split at hj
   ·exact h2 j u hj
   ·rename_i gq
    rw [h1]at hj gq;have:=g3 (j-n*m) u (by simpa using hj)
    rwa [jU,show n*m+(j-n*m)=j by omega]at this
  ·rcases List.mem_append.1 hu with hu|hu
   ·exact h3 u hu
   ·exact g2 u hu
  ·by_cases fN:i<n
   ·obtain⟨ar,q1,q2,q3⟩:=h4 i fN
    exact⟨ar,q1,q2,fun j v hj=>by
     have:=q3 j v hj;rw [List.getElem?_append_left (lgeS this).1];exact this⟩
   ·obtain rfl:i=n:=by omega
    exact⟨arr,g4,g1,fun j v hj=>by
     rw [List.getElem?_append_right (by omega),h1,show i*m+j-i*m=j by omega,Array.getElem?_toList];exact hj⟩
theorem yw(T:yA prog tS tE m bytes)(hb:bytes<=1000)(hn:n<=100000){a:Addr}{cx:Nat}(P:Nat->Array Value->Prop)(H:∀i,i<n->∃arr:Array Value,arr.size=m/\(∀u∈arr.toList,u.oneCell'=true)/\Cells w (a.add (i*m)) arr/\P i arr):
 ∃A' c' w' news,(Builtin.append_ #[tS,tS] tS #[.slice none 0 0,.slice (some a) n cx]).run prog w=.ok (.slice A' n c') w'/\Row w' w.heap.size tE m A' n c' news/\Kept Nil w w'/\∀i,i<n->∃arr:Array Value,P i arr/\arr.size=m/\∀(j:Nat) v,arr[j]? =some v->news[i*m+j]? =some v:=by
 obtain⟨news,e1,e2,e3,e4⟩:=y8 (w:=w) (m:=m) P n H;obtain⟨A',c',w',hr,eI,hg,_⟩:=dS (P:=prog) (ty:=tS) T (Row.nil w w.heap.size _ _) (a:=a) (m:=n) (cx:=cx) (news:=news) e1 e2 e3 (by rw [Nat.zero_add];have:=Nat.mul_le_mul hn hb;omega) (by unfold maxLen;omega) (Nat.le_refl _);rw [Nat.zero_add]at hr eI;rw [List.nil_append]at eI;exact⟨A',c',w',news,hr,eI,Kept.eA (Kept.refl _ _) hg (fun j hj=>by cases hj),e4⟩
theorem yv(T:yA prog tS tE m bytes)(hb:bytes<=1000)(hn:n<=100000)(h:Row w B tE m A n c news)(hB:B<=w.heap.size){b:Nat}{arr:Array Value}{t:TypeId}(jg:w.heap[b]? =some (.cells arr t (0,0)))(hs:arr.size=m)(h1:∀u∈arr.toList,u.oneCell'=true):
 ∃A' c' w',(Builtin.append_ #[tS,tS] tS #[.slice A n c,.slice (some ⟨b,0,none⟩) 1 1]).run prog w=.ok (.slice A' (n+1) c') w'/\Row w' B tE m A' (n+1) c' (news++arr.toList)/\w.grownBy w' (aW A):=by
 obtain⟨A',c',w',hr,eI,hg,_⟩:=dS (P:=prog) (ty:=tS) T h (a:=⟨b,0,none⟩) (m:=1) (cx:=1) (news:=arr.toList) (by simpa using hs)
  (fun j u hj=>by rw [a8,Nat.zero_add,ay jg];simpa using hj) h1 (by have:=Nat.mul_le_mul (show n+1<=100001 by omega) hb;omega) (by unfold maxLen;omega) hB
 exact⟨A',c',w',hr,eI,hg⟩
def Ku(w:World)(F:Nat->Prop)(l:List oC)(i:Nat)(arr:Array Value):Prop:=∃x A1 n1 c1 B1 m1 d1,l[i]? =some x/\arr=cF x A1 n1 c1 B1 m1 d1/\HS w A1 n1 x.merge/\Bo w B1 m1 x.dR/\(∀b,A1=some b->F b.block)/\(∀b,B1=some b->F b.block)
def Sf(w:World)(F:Nat->Prop)(l:List (List HT))(i:Nat)(arr:Array Value):Prop:=∃x A1 n1 c1,l[i]? =some x/\arr= #[.slice A1 n1 c1]/\HS w A1 n1 x/\(∀b,A1=some b->F b.block)
theorem qQ.y8{l:List oC}(h:qQ w F A n l):(0<n->∃a,A=some a)/\∀a,A=some a->∀i,i<n->∃arr:Array Value,arr.size=35/\(∀u∈arr.toList,u.oneCell'=true)/\Cells w (a.add (i*35)) arr/\Ku w F l i arr:=by
 have hl:=h.len;refine⟨fun h0=>?_,fun a ha i hi=>?_⟩
 ·obtain⟨x,hx⟩:∃x,l[0]? =some x:=⟨_,List.getElem?_eq_getElem (by omega)⟩
  obtain⟨a,_,_,_,_,_,_,g1,_⟩:=h.at_ 0 x hx;exact⟨a,g1⟩
 ·obtain⟨x,hx⟩:∃x,l[i]? =some x:=⟨_,List.getElem?_eq_getElem (by omega)⟩
  obtain⟨a',A1,n1,c1,B1,m1,d1,g1,g2,g3,g4,g5,g6,g7,g8⟩:=h.at_ i x hx;rw [ha]at g1;cases g1;exact⟨_,aS ..,dt _ _ _ _ _ _ _,g4,x,A1,n1,c1,B1,m1,d1,hx,rfl,g5,g6,g7,g8⟩
theorem pz.y8{l:List (List HT)}(h:pz w F A n l):(0<n->∃a,A=some a)/\∀a,A=some a->∀i,i<n->∃arr:Array Value,arr.size=1/\(∀u∈arr.toList,u.oneCell'=true)/\Cells w (a.add (i*1)) arr/\Sf w F l i arr:=by
 have hl:=h.len;refine⟨fun h0=>?_,fun a ha i hi=>?_⟩
 ·obtain⟨x,hx⟩:∃x,l[0]? =some x:=⟨_,List.getElem?_eq_getElem (by omega)⟩
  obtain⟨a,_,_,_,g1,_⟩:=h.at_ 0 x hx;exact⟨a,g1⟩
 ·obtain⟨x,hx⟩:∃x,l[i]? =some x:=⟨_,List.getElem?_eq_getElem (by omega)⟩
  obtain⟨a',A1,n1,c1,g1,g2,g3,g4,g5,g6⟩:=h.at_ i x hx;rw [ha]at g1;cases g1;refine⟨#[.slice A1 n1 c1],rfl,fun u hu=>?_,fun j u hj=>?_,x,A1,n1,c1,hx,rfl,g5,g6⟩
  ·simp at hu;subst hu;rfl
  ·cases j with
   |zero=>simp at hj;subst hj;rw [add_zero];exact g4
   |succ j=>simp at hj
theorem qQ.snoc{l:List oC}{x:oC}{A1 B1:Option Addr}{n1 c1 m1 d1:Nat}{w0:World}(h:Row w B bg 35 A (n+1) c (news++(cF x A1 n1 c1 B1 m1 d1).toList))(wZ:news.length=n*35)(hl:l.length=n)(k0:Kept Nil w0 w)(hF:∀j,aW A=some j->F' j)(ZU:∀j,F j->F' j)
 (hc:∀i,i<n->∃arr:Array Value,Ku w0 F l i arr/\arr.size=35/\∀(j:Nat) v,arr[j]? =some v->news[i*35+j]? =some v)
 (g1:HS w A1 n1 x.merge) (g2:Bo w B1 m1 x.dR) (g3:∀b,A1=some b->F' b.block) (g4:∀b,B1=some b->F' b.block):qQ w F' A (n+1) (l++ [x]):=by
 refine⟨by simp [hl],fun i y hi=>?_⟩;obtain⟨b,rfl⟩:=Row.some h (by omega);obtain⟨_,cur,lr⟩:=Row.bz h (k:=b) rfl;rw [List.getElem?_append]at hi;split at hi
 ·rename_i cH
  obtain⟨arr,⟨y',A2,n2,c2,B2,m2,d2,q1,rfl,q3,q4,q5,q6⟩,q7,q8⟩:=hc i (by omega);rw [hi]at q1;cases q1;exact⟨_,A2,n2,c2,B2,m2,d2,rfl,aO lr,hF b rfl,fun j v hj=>by
   rw [jU];have:=q8 j v hj;exact Row.cells h _ _ (by rw [List.getElem?_append_left (lgeS this).1];exact this),q3.same k0,q4.same k0,fun b hb=>ZU _ (q5 b hb),fun b hb=>ZU _ (q6 b hb)⟩
 ·rename_i gq
  have F7:i=n/\y=x:=by
   cases hk:i-l.length with
   |zero=>rw [hk]at hi;exact⟨by omega,by simpa using hi.symm⟩
   |succ k=>rw [hk]at hi;simp at hi
  obtain⟨rfl,rfl⟩:=F7;exact⟨_,A1,n1,c1,B1,m1,d1,rfl,aO lr,hF b rfl,fun j v hj=>by
   rw [jU];exact Row.cells h _ _ (by rw [List.getElem?_append_right (by omega),wZ,show i*35+j-i*35=j by omega,Array.getElem?_toList];exact hj),g1,g2,g3,g4⟩
theorem pz.snoc{l:List (List HT)}{x:List HT}{A1:Option Addr}{n1 c1:Nat}{w0:World}(h:Row w B aA 1 A (n+1) c (news++(#[.slice A1 n1 c1]:Array Value).toList))(wZ:news.length=n*1)(hl:l.length=n)(k0:Kept Nil w0 w)(hF:∀j,aW A=some j->F' j)(ZU:∀j,F j->F' j)
 (hc:∀i,i<n->∃arr:Array Value,Sf w0 F l i arr/\arr.size=1/\∀(j:Nat) v,arr[j]? =some v->news[i*1+j]? =some v)
 (g1:HS w A1 n1 x) (g3:∀b,A1=some b->F' b.block):pz w F' A (n+1) (l++ [x]):=by
 refine⟨by simp [hl],fun i y hi=>?_⟩;obtain⟨b,rfl⟩:=Row.some h (by omega);obtain⟨_,cur,lr⟩:=Row.bz h (k:=b) rfl;rw [List.getElem?_append]at hi;split at hi
 ·rename_i cH
  obtain⟨arr,⟨y',A2,n2,c2,q1,rfl,q3,q4⟩,q7,q8⟩:=hc i (by omega);rw [hi]at q1;cases q1;have:=q8 0 _ rfl;exact⟨_,A2,n2,c2,rfl,aO lr,hF b rfl,Row.cells h _ _ (by rw [Nat.add_zero]at this;rw [List.getElem?_append_left (lgeS this).1];exact this),q3.same k0,fun b hb=>ZU _ (q4 b hb)⟩
 ·rename_i gq
  have F7:i=n/\y=x:=by
   cases hk:i-l.length with
   |zero=>rw [hk]at hi;exact⟨by omega,by simpa using hi.symm⟩
   |succ k=>rw [hk]at hi;simp at hi
  obtain⟨rfl,rfl⟩:=F7;exact⟨_,A1,n1,c1,rfl,aO lr,hF b rfl,Row.cells h _ _ (by rw [List.getElem?_append_right (by omega),wZ,show i*1-i*1=0 by omega];rfl),g1,g3⟩
end
section
variable{w w':World}{F:Nat->Prop}{r x k:Nat}{G:GS}{K:Value->World->Prop}
theorem xN(root:HT)(k:Nat)(hK:∀v r x F,R3 v F r x k (de root)->(∀j,F j->w.heap.size<=j)->w.heap.size<=r->w.heap.size<=x->Kept Nil w v->K (.pointer (some ⟨r,0,none⟩)) v):
 bj prog jD.id #[.int .i64 (k:Int),.agg root.1] w K:=by
 refine jD.of ?_;unfold jD.W;intro w1;have k1:Kept Nil w w1:=(Kept.refl _ _).alloc _;have yI:w1.heap[w.heap.size]? =some (.cells root.1 aj (0,0)):=aH w _;clear_value w1;refine⟨root.1,⟨root.2.1,Cells.bz yI⟩,?_⟩;refine xP root fun w2 x FX hX hFX hx k2=>⟨_,rfl,rfl,?_⟩;have oI:=k1.tt k2;intro w3 w4 w5;have k3:Kept Nil w2 w3:=(Kept.refl _ _).alloc _;have Tf:w3.heap[w2.heap.size]? =some (.cells zC bg (0,0)):=aH w2 _;have k4:Kept Nil w3 w4:=(Kept.refl _ _).alloc _;have hw4:w4.heap[w3.heap.size]? =some (.cells #[.slice none 0 0] aA (0,0)):=aH w3 _;have k5:Kept Nil w4 w5:=(Kept.refl _ _).alloc _;have ht5:w5.heap[w4.heap.size]? =some (.cells #[.int .i64 (k:Int),.pointer (some ⟨x,0,none⟩),.slice (some ⟨w2.heap.size,0,none⟩) 1 1,.slice (some ⟨w3.heap.size,0,none⟩) 1 1] gD (0,0)):=aH w4 _;clear_value w5;have hw5:=k5.heap hw4 (fun h=>h);have hc5:=k5.heap (k4.heap Tf (fun h=>h)) (fun h=>h);have wU:=(k3.tt k4).tt k5;have s02:=oI.size;have l3:=aO Tf;have l4:=aO hw4;have l5:=aO ht5;have s1:=k1.size;have s2:=k2.size;have lx:=hX.lt;clear_value w4 w3;refine hK w5 w4.heap.size x (fun j=>FX j\/j=w2.heap.size\/j=w3.heap.size) ⟨⟨some ⟨w2.heap.size,0,none⟩,1,some ⟨w3.heap.size,0,none⟩,1,ht5,⟨rfl,fun i y hi=>?_⟩,⟨rfl,fun i y hi=>?_⟩⟩,(hX.same wU).mono (fun j e=>.inl e) (fun e=>?_),fun e=>?_,by omega,lS k root,fun j e=>?_⟩ (fun j e=>?_) (by omega) (by omega) (oI.tt wU)
 ·cases i with
  |zero=>
   have:y=⟨dG,0,[],[]⟩:=by simpa [de]using hi.symm
   subst this;refine⟨_,none,0,0,none,0,0,rfl,by show w2.heap.size<_;omega,.inr (.inl rfl),fun j u hj=>?_,HS.nil _ _,⟨rfl,fun i b h=>by simp at h⟩,fun b hb=>(by cases hb),fun b hb=>(by cases hb)⟩;rw [Nat.zero_mul,add_zero,a8,Nat.zero_add,ay hc5];exact hj
  |succ i=>simp [de]at hi
 ·cases i with
  |zero=>
   have:y= []:=by simpa [de]using hi.symm
   subst this;refine⟨_,none,0,0,rfl,by show w3.heap.size<_;omega,.inr (.inr rfl),?_,HS.nil _ _,fun b hb=>(by cases hb)⟩;rw [Nat.zero_mul,add_zero,ay hw5];rfl
  |succ i=>simp [de]at hi
 ·rcases e with e|e|e
  ·exact hX.hU e
  ·omega
  ·omega
 ·rcases e with e|e|e
  ·have:=(hFX _ e).2;omega
  ·omega
  ·omega
 ·rcases e with e|e|e
  ·have:=(hFX _ e).2;omega
  ·omega
  ·omega
 ·rcases e with e|e|e
  ·have:=(hFX _ e).1;omega
  ·omega
  ·omega
end
section
variable{w w':World}{F:Nat->Prop}{r x k:Nat}{G:GS}{K:Value->World->Prop}{A:Option Addr}{n cx:Nat}{l:List HT}
set_option maxHeartbeats 2000000 in
theorem xO(h:R3 w F r x k G)(hD:G.D.length<=300)(nW:k<=1000)(hl:HS w A n l)(hn:n<=5000)(id:HT)
 (hE:du G.D id l≠0->∀w',Kept Nil w w'->K (.tuple #[.agg MS,.int .i64 (du G.D id l)]) w')
 (hO:du G.D id l=0->∀w' A n c B e ce,R3 w' (fun j=>F j\/(w.heap.size<=j/\j<w'.heap.size)) r x k (cU k G id l)->Kept (fun j=>j=r\/j=x) w w'->HS w' A n (cR k G (b9 G l) l).merge->Bo w' B e (cR k G (b9 G l) l).dR->(∀a,A=some a\/B=some a->w.heap.size<=a.block)->K (.tuple #[.agg (cF (cR k G (b9 G l) l) A n c B e ce),.int .i64 0]) w'):
 bj prog dE.id #[.pointer (some ⟨r,0,none⟩),.agg id.1,.slice A n cx] w K:=by
 have W0:=h.fG.W;have ZB:=h.lt;have OB:=h.lx;refine dE.of ?_;unfold dE.W;intro w1 w2;have k1:Kept Nil w w1:=(Kept.refl _ _).alloc _;have Ms:w1.heap[w.heap.size]? =some (.cells id.1 aj (0,0)):=aH w _;have k2:Kept Nil w1 w2:=(Kept.refl _ _).alloc _;have jj:w2.heap[w1.heap.size]? =some (.cells zC bg (0,0)):=aH w1 _;clear_value w2;have Ad:=k2.heap Ms (fun h=>h);have oI:=k1.tt k2;have s1:=k1.size;have l1:=aO Ms;have l2:=aO jj;clear_value w1;have h2:=h.same oI;obtain⟨A0,c0,B0,e0,sl,g1,g2,g3,g4,g5⟩:=h2.X.ex;refine Is.mk rfl ⟨_,h2.c1,Is.mk rfl ⟨#[.slice A0 G.D.length c0],⟨rfl,fun j u hj=>?_⟩,?_⟩⟩
 ·cases j with
  |zero=>simp at hj;subst hj;rw [add_zero,add_zero,ay g1];rfl
  |succ j=>simp at hj
 intro w3;have k3:Kept Nil w2 w3:=(Kept.refl _ _).alloc _;have WW:w3.heap[w2.heap.size]? =some (.cells #[.slice none 0 0] ie (0,0)):=aH w2 _;clear_value w3;obtain⟨t1,t2,t3⟩:=dD WW (cs:= #[.slice A0 G.D.length c0]) rfl;refine⟨⟨rfl,fun u hu=>by simp at hu;subst hu;rfl,fun j hj=>t1 j hj⟩,?_⟩;intro w4
 replace t2:w4.heap[w2.heap.size]? =some (.cells #[.slice A0 G.D.length c0] ie (0,0)):=t2
 replace t3:Kept (· =w2.heap.size) w3 w4:=t3
 clear_value w4;have qh:Kept Nil w2 w4:=k3.trans t3 (fun j hj e=>by omega);have qi:=oI.tt qh;have s2:=oI.size;refine⟨id.1,⟨id.2.1,Cells.bz (qh.heap Ad (fun h=>h))⟩,?_⟩;have hIR:tT w4 F w2.heap.size G.D:=⟨⟨A0,c0,_,_,t2,rfl,g2.same qh⟩,fun e=>by have:=h.lo _ e;omega⟩;refine Dz hIR W0 (by omega) (hl.same qi) (by omega) fun w5 _ k5=>⟨_,rfl,?_⟩;have wU:Kept Nil w2 w5:=qh.trans k5 (fun j hj e=>by omega);have sH:=oI.tt wU;have tJ:=wU.heap jj (fun h=>h);have Mr:=wU.heap Ad (fun h=>h);by_cases hc:du G.D id l≠0
 ·obtain⟨f1,f2,f3⟩:=dD tJ (cs:=zC) rfl
  refine Split.yes (by simpa using hc) ⟨⟨rfl,by show ∀u∈(MS:Array Value).toList,_;exact dt _ _ _ _ _ _ _,fun j hj=>f1 j hj⟩,?_⟩;exact⟨_,⟨rfl,Cells.bz f2⟩,hE hc _ (sH.trans f3 (fun j hj e=>by omega))⟩
 have hc:du G.D id l=0:=by omega
 refine Split.no (by rw [hc];rfl) ?_;obtain⟨_,fD,_,cZ⟩:=jV hc;have fN:∀z∈l,z∈ids G.D:=fun z hz=>cZ z (dF.2 hz);refine tH (h.same sH) (by omega) (hl.same sH) fD (by omega) fN fun w6 k6=>⟨_,rfl,?_⟩;have FK:=wU.tt k6;have nK:=oI.tt FK;generalize mG:b9 G l=s;have DU:s∈l:=by rw [<-mG];exact kM fD
 intro w7;have k7:Kept Nil w6 w7:=(Kept.refl _ _).alloc _;have hb7:w7.heap[w6.heap.size]? =some (.cells dG.1 aj (0,0)):=aH w6 _;clear_value w7;obtain⟨q1,q2,q3⟩:=jq s hb7 rfl;refine⟨q1,?_⟩;intro w8
 replace q2:w8.heap[w6.heap.size]? =some (.cells s.1 aj (0,0)):=q2
 replace q3:Kept (· =w6.heap.size) w7 w8:=q3
 clear_value w8;have Zf:Kept Nil w6 w8:=k7.trans q3 (fun j hj e=>by omega);have xW:=FK.tt Zf;have wX:=oI.tt xW;have s06:=nK.size;have s08:=wX.size;have s28:=xW.size;refine⟨s.1,⟨s.2.1,Cells.bz q2⟩,?_⟩;refine vM (h.same wX) hD nW (fN s DU) (hl.same wX) hn fN fun w9 Am nm cm E e ce Wd nw cw rm rb rw9 k9=>⟨_,Wd,nw,cw,rfl,?_⟩;have FJ:=xW.tt k9;have FO:=oI.tt FJ;have s09:=FO.size;have s89:=k9.size;intro w10;have me:Kept Nil w9 w10:=(Kept.refl _ _).alloc _;have adT:w10.heap[w9.heap.size]? =some (.cells zC bg (0,0)):=aH w9 _;clear_value w10;obtain⟨f1,f2,f3⟩:=dD adT (cs:=cF (cR k G s l) Am nm cm E e ce) (by rw [aS];rfl);refine⟨⟨aS ..,dt _ _ _ _ _ _ _,fun j hj=>f1 j (by rw [aS];exact hj)⟩,?_⟩;intro qR mq
 replace f2:qR.heap[w9.heap.size]? =some (.cells (cF (cR k G s l) Am nm cm E e ce) bg (0,0)):=f2
 replace f3:Kept (· =w9.heap.size) w10 qR:=f3
 have wW:Kept Nil qR mq:=(Kept.refl _ _).drew;clear_value mq;have Xj:=wW.heap f2 (fun h=>h);have P2:Kept Nil w9 mq:=(me.trans f3 (fun j hj e=>by omega)).tt wW;clear_value qR;have Qa:=FJ.tt P2;have qD:=oI.tt Qa;have ai5:=qD.size;have ajz:=aO Xj;have Ee:=h.same qD;refine Is.mk rfl ⟨_,Ee.c1,id.1,⟨id.2.1,Cells.bz (Qa.heap Ad (fun h=>h))⟩,s.1,⟨s.2.1,Cells.bz ((k9.tt P2).heap q2 (fun h=>h))⟩,?_⟩;refine Ff Ee.X Ee.lo (by omega) (hl.same qD) (by omega) fun lh XT tI=>⟨_,rfl,?_⟩;have eX:nu G.D id s l=(cU k G id l).D/\nt G.D G.P id s l=(cU k G id l).P:=by rw [<-mG];exact⟨Km.symm,Kn.symm⟩
 rw [eX.1,eX.2]at XT;intro ir;have Kz:Kept Nil lh ir:=(Kept.refl _ _).drew;clear_value ir;have zQ:Kept (· =x) mq ir:=tI.trans Kz (fun _ _ h=>h.elim);have DR:Kept (· =x) w ir:=(qD.mono fun _ _ h=>h.elim).tt zQ;have afW:=zQ.size;have zW:=kW (k:=k) (G:=G) (h:=id) (ps:=l) hc;rw [mG]at zW;obtain⟨A1,c1,B1,e1,p1,p2,p3⟩:=h.top;have PL:=DR.heap p1 h.ne;have PK:qQ ir F A1 G.D.length G.p8:=p2.az DR (fun j hj e=>h.X.hU (by rw [<-e];exact hj));have aaV:pz ir F B1 G.D.length G.jh:=p3.az DR (fun j hj e=>h.X.hU (by rw [<-e];exact hj));have iq:=W0.pos;obtain⟨⟨a1,Th⟩,Oh⟩:=(⟨PK.y8.1 iq,PK.y8.2⟩:(∃a,A1=some a)/\_);subst Th;have Rw:=zQ.heap Xj (by omega);have aco:=zQ.heap (Qa.heap jj (fun h=>h)) (by omega);have bm:∀j,aW Am=some j->w8.heap.size<=j/\j<w9.heap.size:=fun j hj=>by obtain⟨z1,cur,z2⟩:=Row.bz rm hj;exact⟨z1,aO z2⟩
 have bb:∀j,aW E=some j->w8.heap.size<=j/\j<w9.heap.size:=fun j hj=>by obtain⟨z1,cur,z2⟩:=Row.bz rb hj;exact⟨z1,aO z2⟩
 have bw:∀j,aW Wd=some j->w8.heap.size<=j/\j<w9.heap.size:=fun j hj=>by obtain⟨z1,cur,z2⟩:=Row.bz rw9 hj;exact⟨z1,aO z2⟩
 have LG:Kept (· =x) w9 ir:=(P2.mono fun _ _ h=>h.elim).tt zQ;have aiK:=LG.size;have Uj:HS ir Am nm (cR k G s l).merge:=(bL.hs rm).az LG (fun a ha e=>by have:=bm a.block (by rw [ha];rfl);omega);have YF:Bo ir E e (cR k G s l).dR:=(Row.bo rb).az LG (fun a ha e=>by have:=bb a.block (by rw [ha];rfl);omega);have aar:HS ir Wd nw (fF k G s l).wd:=(bL.hs rw9).az LG (fun a ha e=>by have:=bw a.block (by rw [ha];rfl);omega);have bF:∀ {A:Option Addr} {b:Addr},(∀j,aW A=some j->w8.heap.size<=j/\j<w9.heap.size)->A=some b->w.heap.size<=b.block/\b.block<ir.heap.size:=fun hA hb=>by
  have:=hA _ (by rw [hb];rfl);omega
 rw [mG]at hO;have tail:∀ {u:World} {Aa:Option Addr} {ca:Nat} {news:List Value},Row u ir.heap.size bg 35 Aa (G.D.length+1) ca (news++(cF (cR k G s l) Am nm cm E e ce).toList)->news.length=G.D.length*35->(∀i,i<G.D.length->∃arr:Array Value,Ku ir F G.p8 i arr/\arr.size=35/\∀(j:Nat) v,arr[j]? =some v->news[i*35+j]? =some v)->Kept Nil ir u->
  Wr u ((⟨r,0,none⟩:Addr).add 2)/\let a3:=u.setCell ((⟨r,0,none⟩:Addr).add 2) (.slice Aa (G.D.length+1) ca);Is (some (⟨r,0,none⟩:Addr)) fun b3:Addr=>∃c3:Option Addr,∃d3 e3:Nat,a3.cell? (b3.add 3)=some (.slice c3 d3 e3)/\∃(f3:Option Addr) (g3 i3:Nat) (j3:World),(Builtin.append_ #[fK,fK] fK #[.slice none 0 0,.slice c3 d3 e3]).run prog a3=.ok (.slice f3 g3 i3) j3/\let k3:=j3.alloc (.cells #[.slice Wd nw cw] aA);∃(m3:Option Addr) (n3 o3:Nat) (p3:World),(Builtin.append_ #[fK,fK] fK #[.slice f3 g3 i3,.slice (some (⟨j3.heap.size,0,none⟩:Addr)) 1 1]).run prog k3=.ok (.slice m3 n3 o3) p3/\Is (some (⟨r,0,none⟩:Addr)) fun q3:Addr=>Wr p3 (q3.add 3)/\let r3:=p3.setCell (q3.add 3) (.slice m3 n3 o3);∃t3:Array Value,(t3.size=35/\Cells r3 (⟨w9.heap.size,0,none⟩:Addr) t3)/\(t3.size=35/\(∀u3∈t3.toList,u3.oneCell'=true)/\∀v3,v3<35->Wr r3 ((⟨w1.heap.size,0,none⟩:Addr).add v3))/\let x3:=setCells r3 (⟨w1.heap.size,0,none⟩:Addr) t3.toList 0;∃y3:Array Value,(y3.size=35/\Cells x3 (⟨w1.heap.size,0,none⟩:Addr) y3)/\K (.tuple #[.agg y3,.int .i64 0]) x3:=by
  intro u Aa ca news row wZ vc ku;have pu:=ku.heap PL (fun h=>h);have su:=ku.size;refine⟨by rw [a8];exact dJ pu (by simp),?_⟩;intro u1;have pu1:u1.heap[r]? =some (.cells #[.int .i64 (k:Int),.pointer (some ⟨x,0,none⟩),.slice Aa (G.D.length+1) ca,.slice B1 G.D.length e1] gD (0,0)):=by
   show(u.setCell ((⟨r,0,none⟩:Addr).add 2) (.slice Aa (G.D.length+1) ca)).heap[r]? =_;rw [a8,cV pu];rfl
  have zG:Kept (· =r) u u1:=by
   show Kept (· =r) u (u.setCell ((⟨r,0,none⟩:Addr).add 2) (.slice Aa (G.D.length+1) ca))
   rw [a8];exact Kept.setCell (S:=(· =r)) (Kept.refl _ u) (p:=⟨r,0+2,none⟩) (fun _=>rfl) _
  clear_value u1;have ID:Kept (· =r) ir u1:=(ku.mono fun _ _ h=>h.elim).tt zG;have pw1:pz u1 F B1 G.D.length G.jh:=aaV.az ID (fun j hj e=>h.hU (by rw [<-e];exact hj));obtain⟨⟨b1,yI⟩,Vp⟩:=(⟨pw1.y8.1 iq,pw1.y8.2⟩:(∃a,B1=some a)/\_);subst yI;obtain⟨Aw,c2,u2,nws,Ma,fW,BW,hcw⟩:=yw (w:=u1) TR (by omega) (by omega) (cx:=e1) (Sf u1 F G.jh) (Vp b1 rfl);refine Is.mk rfl ⟨some b1,G.D.length,e1,by rw [a8,ay pu1];rfl,Aw,_,c2,u2,Ma,?_⟩;intro u3;have zP:Kept Nil u2 u3:=(Kept.refl _ _).alloc _;have Cd:u3.heap[u2.heap.size]? =some (.cells #[.slice Wd nw cw] aA (0,0)):=aH u2 _;clear_value u3;have su1:=zG.size;have su2:=BW.size;have su3:=zP.size;obtain⟨YZ,c3,u4,vG,jR,D9⟩:=yv TR (by omega) (by omega) (Row.az fW zP (fun _ _ h=>h)) (by omega) Cd rfl (fun v hv=>by simp at hv;subst hv;rfl);have LS:Kept Nil u1 u4:=Kept.eA (BW.tt zP) D9 (fun j hj=>(Row.bz fW hj).1);have pu4:=LS.heap pu1 (fun h=>h);refine⟨YZ,_,c3,u4,vG,Is.mk rfl ⟨by rw [a8];exact dJ pu4 (by simp),?_⟩⟩;intro u5;have pu5:u5.heap[r]? =some (.cells #[.int .i64 (k:Int),.pointer (some ⟨x,0,none⟩),.slice Aa (G.D.length+1) ca,.slice YZ (G.D.length+1) c3] gD (0,0)):=by
   show(u4.setCell ((⟨r,0,none⟩:Addr).add 3) (.slice YZ (G.D.length+1) c3)).heap[r]? =_;rw [a8,cV pu4];rfl
  have FE:Kept (· =r) u4 u5:=by
   show Kept (· =r) u4 (u4.setCell ((⟨r,0,none⟩:Addr).add 3) (.slice YZ (G.D.length+1) c3))
   rw [a8];exact Kept.setCell (S:=(· =r)) (Kept.refl _ u4) (p:=⟨r,0+3,none⟩) (fun _=>rfl) _
  clear_value u5;have UF:Kept (· =r) u1 u5:=(LS.mono fun _ _ h=>h.elim).tt FE;have NQ:Kept (· =r) ir u5:=ID.tt UF;have hc5:=NQ.heap Rw (by omega);have tJ:=NQ.heap aco (by omega);obtain⟨z1,z2,z3⟩:=dD tJ (cs:=cF (cR k G s l) Am nm cm E e ce) (by rw [aS];rfl);refine⟨_,⟨aS ..,Cells.bz hc5⟩,⟨aS ..,dt _ _ _ _ _ _ _,fun j hj=>z1 j (by rw [aS];exact hj)⟩,?_⟩;intro u6
  replace z2:u6.heap[w1.heap.size]? =some (.cells (cF (cR k G s l) Am nm cm E e ce) bg (0,0)):=z2
  replace z3:Kept (· =w1.heap.size) u5 u6:=z3
  clear_value u6;refine⟨_,⟨aS ..,Cells.bz z2⟩,?_⟩;have kwr:∀j,j=r\/j=w1.heap.size->¬ir.heap.size<=j:=fun j hj e=>by rcases hj with hj|hj<;>omega
  have Zc:Kept (fun j=>j=r\/j=w1.heap.size) u u6:=((zG.mono fun _ _ h=>.inl h).trans UF (fun _ _ h=>.inl h)).trans z3 (fun _ _ h=>.inr h);have DP:Kept (fun j=>j=r\/j=w1.heap.size) ir u6:=(ku.mono fun _ _ h=>h.elim).tt Zc;have su6:=DP.size;have s46:u4.heap.size<=u6.heap.size:=by have:=FE.size;have:=z3.size;omega
  have s26:u.heap.size<=u6.heap.size:=Zc.size;have Lt:∀j,F j->j<w.heap.size:=h.lo
  let F2:Nat->Prop:=fun j=>F j\/(w8.heap.size<=j/\j<w9.heap.size)\/(ir.heap.size<=j/\j<u6.heap.size)
  have RS:∀j,F2 j->¬(j=r\/j=w1.heap.size):=fun j hj e=>by
   rcases hj with hj|hj|hj
   ·have:=Lt j hj
    rcases e with e|e
    ·exact h.hU (by rw [<-e];exact hj)
    ·omega
   ·omega
   ·omega
  have Yf:∀j,F2 j->F j\/(w.heap.size<=j/\j<u6.heap.size):=fun j hj=>by
   rcases hj with hj|hj|hj
   ·exact .inl hj
   ·exact .inr ⟨by omega,by omega⟩
   ·exact .inr ⟨by omega,hj.2⟩
  refine hO hc u6 Am nm cm E e ce ⟨⟨Aa,ca,YZ,c3,?_,?_,?_⟩,?_,fun hj=>?_,h.ne,h.fG.add id l,fun j hj=>?_⟩ ?_ (Uj.az DP (fun a ha e=>by have:=bm a.block (by rw [ha];rfl);rcases e with e|e<;>omega)) (YF.az DP (fun a ha e=>by have:=bb a.block (by rw [ha];rfl);rcases e with e|e<;>omega)) (fun a ha=>ha.elim (fun ha=>(bF bm ha).1) (fun ha=>(bF bb ha).1))
  ·rw [zW]
   simp only [List.length_append,List.length_singleton];exact z3.heap pu5 (by omega)
  ·rw [zW]
   simp only [List.length_append,List.length_singleton];refine qQ.mono (F:=F2) (qQ.az (S:=fun j=>j=r\/j=w1.heap.size) (w:=u) (qQ.snoc row wZ p2.len ku (fun j hj=>?_) (fun j hj=>.inl hj) vc (Uj.same ku) (YF.same ku) (fun b hb=>.inr (.inl ?_)) (fun b hb=>.inr (.inl ?_))) Zc RS) Yf
   ·obtain⟨y1,cur,y2⟩:=Row.bz row hj
    have:=aO y2;exact .inr (.inr ⟨y1,by omega⟩)
   ·exact bm b.block (by rw [hb];rfl)
   ·exact bb b.block (by rw [hb];rfl)
  ·rw [zW]
   simp only [List.length_append,List.length_singleton];have Ip:Kept (fun j=>j=r\/j=w1.heap.size) u4 u6:=(FE.mono fun _ _ h=>.inl h).trans z3 (fun _ _ h=>.inr h);refine pz.mono (F:=F2) (pz.az (S:=fun j=>j=r\/j=w1.heap.size) (w:=u4) (pz.snoc jR (Row.len fW) p3.len LS (fun j hj=>?_) (fun j hj=>.inl hj) hcw (aar.az (ID.trans LS (fun _ _ h=>h.elim)) (fun a ha e=>by have:=bw a.block (by rw [ha];rfl);omega)) (fun b hb=>.inr (.inl ?_))) Ip RS) Yf
   ·obtain⟨y1,cur,y2⟩:=Row.bz jR hj
    have:=aO y2;exact .inr (.inr ⟨by omega,by omega⟩)
   ·exact bw b.block (by rw [hb];rfl)
  ·refine((XT.az (Kz.tt ku) (fun h=>h) (fun _ _ h=>h)).az Zc (fun e=>?_) (fun j hj e=>?_)).mono (fun j hj=>?_) (fun e=>?_)
   ·rcases e with e|e
    ·exact h.ne e.symm
    ·omega
   ·rcases hj with hj|hj
    ·have:=Lt j hj
     rcases e with e|e
     ·exact h.hU (by rw [<-e];exact hj)
     ·omega
    ·omega
   ·rcases hj with hj|hj
    ·exact .inl hj
    ·have:=tI.size
     have:=Kz.size;exact .inr ⟨by omega,by omega⟩
   ·rcases e with e|e
    ·exact h.X.hU e
    ·omega
  ·rcases hj with hj|hj
   ·exact h.hU hj
   ·omega
  ·rcases hj with hj|hj
   ·have:=Lt j hj
    omega
   ·exact hj.2
  ·exact(DR.mono fun _ _ h=>.inr h).trans DP (fun j hj e=>by
    rcases e with e|e
    ·exact .inl e
    ·omega)
 have Jg:(cF (cR k G s l) Am nm cm E e ce).toList++ []=(cF (cR k G s l) Am nm cm E e ce).toList:=List.append_nil _;refine Is.mk rfl ⟨some a1,G.D.length,c1,by rw [a8,ay PL];rfl,_,⟨aS ..,Cells.bz Rw⟩,?_,?_⟩
 ·obtain⟨Aa,c2,u2,news,Om,fW,BW,vc⟩:=yw (w:=ir) Dq (by omega) (by omega) (cx:=c1) (Ku ir F G.p8) (Oh a1 rfl)
  refine⟨Aa,_,c2,u2,Om,⟨_,rfl,aS ..,Cells.bz (BW.heap Rw (fun h=>h))⟩,aS ..,?_⟩;intro u3;have zP:Kept Nil u2 u3:=(Kept.refl _ _).alloc _;have Cd:u3.heap[u2.heap.size]? =some (.cells (cF (cR k G s l) Am nm cm E e ce) bg (0,0)):=by
   have:=aH u2 (.cells (cF (cR k G s l) Am nm cm E e ce) bg);show(u2.alloc (.cells ((cF (cR k G s l) Am nm cm E e ce).toList++ []).toArray bg)).heap[u2.heap.size]? =_;rw [Jg,Array.toArray_toList];exact this
  clear_value u3;have su2:=BW.size;have su3:=zP.size;obtain⟨Ab,c3,u4,vG,jR,D9⟩:=yv Dq (by omega) (by omega) (Row.az fW zP (fun _ _ h=>h)) (by omega) Cd (aS ..) (dt _ _ _ _ _ _ _);have ku:Kept Nil ir u4:=Kept.eA (BW.tt zP) D9 (fun j hj=>(Row.bz fW hj).1);refine⟨Ab,_,c3,u4,vG,Is.mk rfl ?_⟩;exact tail jR (Row.len fW) vc ku
 ·refine⟨aS ..,?_⟩
  intro u3;have zP:Kept Nil ir u3:=(Kept.refl _ _).alloc _;have Cd:u3.heap[ir.heap.size]? =some (.cells (cF (cR k G s l) Am nm cm E e ce) bg (0,0)):=by
   have:=aH ir (.cells (cF (cR k G s l) Am nm cm E e ce) bg);show(ir.alloc (.cells ((cF (cR k G s l) Am nm cm E e ce).toList++ []).toArray bg)).heap[ir.heap.size]? =_;rw [Jg,Array.toArray_toList];exact this
  clear_value u3;have su3:=zP.size;refine⟨by rw [a8,ay (zP.heap PL (fun h=>h))];rfl,?_⟩;have p23:=PK.az zP (fun _ _ h=>h);obtain⟨Aa,c2,u2,news,Om,fW,BW,vc⟩:=yw (w:=u3) (n:=G.D.length) (a:=a1) Dq (by omega) (by omega) (cx:=c1) (Ku ir F G.p8) (fun i hi=>by
   obtain⟨arr,y1,y2,y3,y4⟩:=Oh a1 rfl i hi;exact⟨arr,y1,y2,Cells.az y3 zP (fun h=>h),y4⟩)
  have su2:=BW.size;have NZ:=BW.heap Cd (fun h=>h);obtain⟨Ab,c3,u4,vG,jR,D9⟩:=yv Dq (by omega) (by omega) (Row.base fW (B':=ir.heap.size) (fun j hj=>by have:=(Row.bz fW hj).1;omega)) (by omega) NZ (aS ..) (dt _ _ _ _ _ _ _);have ku:Kept Nil ir u4:=Kept.eA (zP.tt BW) D9 (fun j hj=>by have:=(Row.bz fW hj).1;omega);refine⟨Aa,_,c2,u2,Om,Ab,_,c3,u4,vG,Is.mk rfl ?_⟩;exact tail jR (Row.len fW) vc ku
end
end Go.Proofs.YtnboahlopghcjaaGreatDoor
