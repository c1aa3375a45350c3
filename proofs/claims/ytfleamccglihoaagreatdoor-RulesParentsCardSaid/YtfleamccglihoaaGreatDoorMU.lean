import Derived.Test.YtfleamccglihoaaGreatDoorMT
import Derived.Test.YtfleamccglihoaaGreatDoorMN
open Go.IntKind (i64 u64)
set_option linter.unusedVariables false
namespace Go.Proofs.YtfleamccglihoaaGreatDoor
open Go.Proofs.Tryz
open Go Go.cF Go.RowKit
structure tu(w:World)(F:Nat->Prop)(A:Option Addr)(n:Nat)(l:List qF):Prop where
 len:l.length=n
 at_:∀(i:Nat) x,l[i]? =some x->∃a A1 n1 c1 B1 m1 d1,A=some a/\a.block<w.heap.size/\F a.block/\Cells w (a.add (i*35)) (dI x A1 n1 c1 B1 m1 d1)/\HS w A1 n1 x.merge/\Bo w B1 m1 x.gZ/\(∀b,A1=some b->F b.block)/\(∀b,B1=some b->F b.block)
structure rM(w:World)(F:Nat->Prop)(A:Option Addr)(n:Nat)(l:List (List HT)):Prop where
 len:l.length=n
 at_:∀(i:Nat) x,l[i]? =some x->∃a A1 n1 c1,A=some a/\a.block<w.heap.size/\F a.block/\w.cell? (a.add (i*1))=some (.slice A1 n1 c1)/\HS w A1 n1 x/\(∀b,A1=some b->F b.block)
section
variable{w w':World}{F F' S:Nat->Prop}{A:Option Addr}{n:Nat}
theorem tu.aN{l:List qF}(h:tu w F A n l)(hk:Kept S w w')(hn:∀j,F j->¬S j):tu w' F A n l:=⟨h.len,λi x hi=>by
 obtain⟨a,A1,n1,c1,B1,m1,d1,g1,g2,g3,g4,g5,g6,g7,g8⟩:=h.at_ i x hi;exact⟨a,A1,n1,c1,B1,m1,d1,g1,Nat.lt_of_lt_of_le g2 hk.size,g3,Cells.aN g4 hk (by rw [fY];exact hn _ g3),g5.aN hk (λb hb=>hn _ (g7 b hb)),g6.aN hk (λb hb=>hn _ (g8 b hb)),g7,g8⟩⟩
theorem tu.mono{l:List qF}(h:tu w F A n l)(hf:∀j,F j->F' j):tu w F' A n l:=⟨h.len,λi x hi=>by
 obtain⟨a,A1,n1,c1,B1,m1,d1,g1,g2,g3,g4,g5,g6,g7,g8⟩:=h.at_ i x hi;exact⟨a,A1,n1,c1,B1,m1,d1,g1,g2,hf _ g3,g4,g5,g6,λb hb=>hf _ (g7 b hb),λb hb=>hf _ (g8 b hb)⟩⟩
theorem rM.aN{l:List (List HT)}(h:rM w F A n l)(hk:Kept S w w')(hn:∀j,F j->¬S j):rM w' F A n l:=⟨h.len,λi x hi=>by
 obtain⟨a,A1,n1,c1,g1,g2,g3,g4,g5,g6⟩:=h.at_ i x hi;exact⟨a,A1,n1,c1,g1,Nat.lt_of_lt_of_le g2 hk.size,g3,hk.cell g4 (by rw [fY];exact hn _ g3),g5.aN hk (λb hb=>hn _ (g6 b hb)),g6⟩⟩
theorem rM.mono{l:List (List HT)}(h:rM w F A n l)(hf:∀j,F j->F' j):rM w F' A n l:=⟨h.len,λi x hi=>by
 obtain⟨a,A1,n1,c1,g1,g2,g3,g4,g5,g6⟩:=h.at_ i x hi;exact⟨a,A1,n1,c1,g1,g2,hf _ g3,g4,g5,λb hb=>hf _ (g6 b hb)⟩⟩
end
structure R3(w:World)(F:Nat->Prop)(r x k:Nat)(G:GS):Prop where
 top:∃A c B e,w.heap[r]? =some (.cells #[.int .i64 (k:Int),.pointer (some ⟨x,0,none⟩),.slice A G.D.length c,.slice B G.D.length e] jf (0,0))/\tu w F A G.D.length G.ug/\rM w F B G.D.length G.lW
 X:rN w F x G.D G.P
 jD:¬F r
 ne:r≠x
 iN:jM k G
 lo:∀j,F j->j<w.heap.size
section
variable{w w':World}{F F' S:Nat->Prop}{r x k:Nat}{G:GS}{K:Value->World->Prop}
theorem R3.aN(h:R3 w F r x k G)(hk:Kept S w w')(hr:¬S r)(hx:¬S x)(hF:∀j,F j->¬S j):R3 w' F r x k G:=by
 obtain⟨A,c,B,e,g1,g2,g3⟩:=h.top;exact⟨⟨A,c,B,e,hk.heap g1 hr,g2.aN hk hF,g3.aN hk hF⟩,h.X.aN hk hx hF,h.jD,h.ne,h.iN,λj e=>Nat.lt_of_lt_of_le (h.lo j e) hk.size⟩
theorem R3.same(h:R3 w F r x k G)(hk:Kept Nil w w'):R3 w' F r x k G:=h.aN hk (λh=>h) (λh=>h) (λ_ _ h=>h)
theorem R3.lt(h:R3 w F r x k G):r<w.heap.size:=by obtain⟨_,_,_,_,g,_⟩:=h.top;exact bt g
theorem R3.lx(h:R3 w F r x k G):x<w.heap.size:=h.X.lt
theorem R3.c0(h:R3 w F r x k G):w.cell? ((⟨r,0,none⟩:Addr).add 0)=some (.int .i64 (k:Int)):=by obtain⟨_,_,_,_,g,_⟩:=h.top;rw [bO,aI g];rfl
theorem R3.c1(h:R3 w F r x k G):w.cell? ((⟨r,0,none⟩:Addr).add 1)=some (.pointer (some ⟨x,0,none⟩)):=by obtain⟨_,_,_,_,g,_⟩:=h.top;rw [bO,aI g];rfl
theorem QG(h:jM k G){y:HT}(hy:y∈ids G.D):∃(i:Nat) (nd:DN) (c:qF) (l:List HT),G.D[i]? =some nd/\nd.id=y/\G.ug[i]? =some c/\G.lW[i]? =some l/\IS G.D y=(i:Int)/\G.ln y=c/\G.world y=l/\i<G.D.length:=by
 obtain⟨nd,fE,rfl⟩:=eV.1 hy;obtain⟨i,hi⟩:=List.mem_iff_getElem?.1 fE;have eA:=(lgeS hi).1;obtain⟨c,hc⟩:∃c,G.ug[i]? =some c:=⟨_,List.getElem?_eq_getElem (by rw [h.lc];exact eA)⟩;obtain⟨l,hl⟩:∃l,G.lW[i]? =some l:=⟨_,List.getElem?_eq_getElem (by rw [h.lw];exact eA)⟩;exact⟨i,nd,c,l,hi,rfl,hc,hl,T4 h.W hi,GS.TX h.W hi hc,GS.Jn h.W hi hl,eA⟩
theorem mf(h:R3 w F r x k G)(hD:G.D.length<=5000){a:HT}(ha:a∈ids G.D)(hK:∀w',Kept Nil w w'->K (.int .u64 (G.score a:Int)) w'):
 bJ prog eK.id #[.pointer (some ⟨r,0,none⟩),.agg a.1] w K:=by
 refine eK.of ?_;unfold eK.W;intro w4 w5;have k4:Kept Nil w w4:=(Kept.refl _ _).alloc _;have CS:w4.heap[w.heap.size]? =some (.cells a.1 ai (0,0)):=aO w _;have k5:Kept Nil w4 w5:=(Kept.refl _ _).drew;clear_value w5;have Ow:=k5.heap CS (λh=>h);have pq:=k4.tt k5;have h5:=h.same pq;obtain⟨A,c,B,e,g1,g2,g3⟩:=h5.top;refine Is.mk rfl ⟨A,_,c,by rw [bO,aI g1];rfl,Is.mk rfl ⟨_,h5.c1,Is.mk rfl ⟨a.1,⟨a.2.1,Cells.bX Ow⟩,?_⟩⟩⟩;rw [add_zero];refine pR h5.X.gr (by omega) a λw6 k6=>⟨_,rfl,?_⟩;have g16:=k6.heap g1 (λh=>h);obtain⟨i,nd,cl,l,q1,q2,q3,q4,q5,q6,q7,q8⟩:=QG h.iN ha;rw [q5];obtain⟨aa,A1,n1,c1,B1,m1,d1,p1,p2,p3,p4,_⟩:=(g2.aN k6 (λ_ _ h=>h)).at_ i cl q3;subst p1;refine⟨by rw [bO,aI g16];rfl,⟨by omega,by omega⟩,Is.mk rfl ⟨((G.score a:Nat):Int),?_,?_⟩⟩
 ·have:=iI cl A1 n1 c1 B1 m1 d1 #[]
  rw [Array.append_empty]at this;have ZW:=p4 32 _ this.1;rw [Int.toNat_natCast,ZW];unfold GS.score;rw [q6]
 ·exact hK w6 (pq.tt k6)
theorem BO(h:jM k G){a:HT}(ha:a∈ids G.D):G.score a<=G.D.length:=by
 rw [(h.wd a ha).2.2];exact ux h ha
theorem mI(h:R3 w F r x k G)(hD:G.D.length<=5000){a b:HT}(ha:a∈ids G.D)(hb:b∈ids G.D)(hK:∀w',Kept Nil w w'->K (.bool (gl G a b)) w'):
 bJ prog fp.id #[.pointer (some ⟨r,0,none⟩),.agg a.1,.agg b.1] w K:=by
 refine fp.of ?_;unfold fp.W;intro w4 w5 w6;have k4:Kept Nil w w4:=(Kept.refl _ _).alloc _;have CS:w4.heap[w.heap.size]? =some (.cells a.1 ai (0,0)):=aO w _;have k5:Kept Nil w4 w5:=(Kept.refl _ _).alloc _;have o9:w5.heap[w4.heap.size]? =some (.cells b.1 ai (0,0)):=aO w4 _;have k6:Kept Nil w5 w6:=(Kept.refl _ _).drew;clear_value w6;have yL:=k6.heap (k5.heap CS (λh=>h)) (λh=>h);have rr:=k6.heap o9 (λh=>h);have rl:=(k4.tt k5).tt k6;refine⟨a.1,⟨a.2.1,Cells.bX yL⟩,b.1,⟨b.2.1,Cells.bX rr⟩,?_⟩;refine mf (h.same rl) hD ha λw7 k7=>⟨_,rfl,⟨_,rfl,b.2.1,Cells.bX (k7.heap rr (λh=>h))⟩,?_⟩;have tX:=rl.tt k7;refine mf (h.same tX) hD hb λw8 k8=>⟨_,rfl,?_⟩;have Bl:=tX.tt k8;have k68:=k7.tt k8;by_cases he:G.score a=G.score b
 ·refine Split.no (by rw [he];simp) ⟨a.1,⟨a.2.1,Cells.bX (k68.heap yL (λh=>h))⟩,b.1,⟨b.2.1,Cells.bX (k68.heap rr (λh=>h))⟩,?_⟩
  refine vo a b λw9 k9=>⟨_,rfl,?_⟩;have e:decide (mX a b<0)=gl G a b:=by
   rw [Bool.eq_iff_iff,decide_eq_true_eq,uh];unfold gl;rw [decide_eq_false (by omega),decide_eq_true he];simp
  rw [e];exact hK w9 (Bl.tt k9)
 ·refine Split.yes (by simp only [bne_iff_ne,ne_eq];omega) ?_
  have e:decide ((G.score a:Int)<(G.score b:Int))=gl G a b:=by
   unfold gl;rw [decide_eq_false he];simp
  rw [e];exact hK w8 Bl
theorem MT(h:R3 w F r x k G)(hD:G.D.length<=5000){A:Option Addr}{n cx:Nat}{l:List HT}(hl:HS w A n l)(hn:n<=400000)(hK:∀w',Kept Nil w w'->K (.int .i64 (lD G.D l)) w'):
 bJ prog bQ.id #[.pointer (some ⟨r,0,none⟩),.slice A n cx] w K:=by
 have hlen:=hl.len;refine bQ.of ?_;unfold bQ.W;by_cases h0:n=0
 ·subst h0
  have e:l= []:=List.eq_nil_of_length_eq_zero hlen;refine Split.yes rfl ?_;have:=hK w (Kept.refl _ _);unfold lD at this;rw [if_pos e]at this;exact this
 have gQ:l≠ []:=λe=>by subst e;exact h0 hlen.symm
 refine Split.no (by simpa using (by omega:¬(n:Int)=0)) ?_;refine bQ.cP (I:=λs v=>∃i:Nat,s=(0,(i:Int))/\i<=n/\(∀p∈l.take i,p∈ids G.D)/\Kept Nil w v) (μ:=λs _=>((n:Int)-s.2).toNat) (s:=(0,0)) ⟨0,rfl,Nat.zero_le _,by simp,Kept.refl _ _⟩ ?_;rintro s v ⟨i,rfl,hi,dr,kv⟩;unfold bQ.B1;refine Split.dec (λdD=>?_) (λgE=>?_)
 ·simp only at dD
  have eA:i<n:=by omega
  obtain⟨y,hy⟩:∃y,l[i]? =some y:=⟨_,List.getElem?_eq_getElem (by omega)⟩;intro w3;have k3:Kept Nil v w3:=(Kept.refl _ _).drew;clear_value w3;have tU:=kv.tt k3;have h3:=h.same tU;refine Is.mk rfl ⟨_,h3.c1,Is.mk rfl ((hl.same tU).load (i:=(i:Int)) (by omega) hy ?_)⟩;rw [add_zero];refine pR h3.X.gr (by omega) y λw4 k4=>⟨_,rfl,?_⟩;have qH:=tU.tt k4;refine Split.dec (λCK=>?_) (λkW=>?_)
  ·rw [iD]
   have:=hK w4 qH;unfold lD at this;rw [if_neg gQ,if_pos ⟨y,List.mem_of_getElem? hy,qd.1 CK⟩]at this;exact this
  ·simp only
   rw [dO (n:=(i:Int)) (by omega) (by omega)];refine⟨(0,(i:Int)+1),rfl,⟨i+1,rfl,eA,λp hp=>?_,qH⟩,by simp only;omega⟩;rcases(bV hy).1 hp with hp|rfl
   ·exact dr p hp
   ·exact Classical.byContradiction λe=>kW (qd.2 e)
 ·simp only at gE
  rw [bg,bQ.dJ];rw [List.take_of_length_le (by omega)]at dr;have:=hK v kv;unfold lD at this;rw [if_neg gQ,if_neg (λ⟨p,hp,hn⟩=>hn (dr p hp))]at this;exact this
theorem vM(h:R3 w F r x k G)(hD:G.D.length<=5000){A:Option Addr}{n cx:Nat}{l:List HT}(hl:HS w A n l)(h0:l≠ [])(hn:n<=400000)(gD:∀y∈l,y∈ids G.D)(hK:∀w',Kept Nil w w'->K (.agg (cf G l).1) w'):
 bJ prog bD.id #[.pointer (some ⟨r,0,none⟩),.slice A n cx] w K:=by
 have hlen:=hl.len;obtain⟨x0,t,rfl⟩:∃x0 t,l=x0::t:=by cases l with|nil=>exact absurd rfl h0|cons a b=>exact⟨a,b,rfl⟩
 refine bD.of ?_;unfold bD.W;intro w1;have k1:Kept Nil w w1:=(Kept.refl _ _).alloc _;have oE:w1.heap[w.heap.size]? =some (.cells gu.1 ai (0,0)):=aO w _;clear_value w1;simp only [List.length_cons]at hlen;refine(hl.same k1).load (i:=0) (by omega) rfl ?_;intro w2;have k2:Kept Nil w1 w2:=(Kept.refl _ _).alloc _;have oN:w2.heap[w1.heap.size]? =some (.cells gu.1 ai (0,0)):=aO w1 _;clear_value w2;have lj:=k2.heap oE (λh=>h);have l1:=bt oE;have l2:=bt oN;obtain⟨t1,t2,t3⟩:=iZ x0 oN rfl;refine⟨t1,?_⟩;intro w3
 replace t2:w3.heap[w1.heap.size]? =some (.cells x0.1 ai (0,0)):=t2
 replace t3:Kept (· =w1.heap.size) w2 w3:=t3
 clear_value w3;have s1:=k1.size;have jH:Kept Nil w w3:=(k1.tt k2).trans t3 (λj hj e=>by omega);have yF:=t3.heap lj (by omega);refine bD.cP (I:=λs v=>∃(i:Nat) (b:HT),s=(i:Int)/\1<=i/\i<=n/\b∈ids G.D/\((x0::t).drop i).foldl (λb y=>if gl G b y then y else b) b=cf G (x0::t)/\v.heap[w1.heap.size]? =some (.cells b.1 ai (0,0))/\v.heap[w.heap.size]? =some (.cells gu.1 ai (0,0))/\Kept Nil w v) (μ:=λs _=>((n:Int)-s).toNat) (s:=1) ⟨1,x0,rfl,Nat.le_refl _,by omega,gD _ List.mem_cons_self,rfl,t2,yF,jH⟩ ?_;rintro s v ⟨i,b,rfl,Oc,sn,hb,he,ET,Xi,kv⟩;unfold bD.B1;refine Split.dec (λdD=>?_) (λgE=>?_)
 ·have eA:i<n:=by omega
  obtain⟨y,hy⟩:∃y,(x0::t)[i]? =some y:=⟨_,List.getElem?_eq_getElem (by simp;omega)⟩;have Pz:y∈ids G.D:=gD _ (List.mem_of_getElem? hy);have hd:(x0::t).drop i=y::(x0::t).drop (i+1):=by
   obtain⟨q1,q2⟩:=lgeS hy;rw [List.drop_eq_getElem_cons q1,q2]
  rw [hd,List.foldl_cons]at he;intro w4;have k4:Kept Nil v w4:=(Kept.refl _ _).drew;clear_value w4;have qH:=kv.tt k4;have R1:(x0::t)[((i:Nat):Int).toNat]? =some y:=by rw [Int.toNat_natCast];exact hy
  refine⟨b.1,⟨b.2.1,Cells.bX (k4.heap ET (λh=>h))⟩,(hl.same qH).load (i:=(i:Int)) (by omega) R1 ?_⟩;refine mI (h.same qH) hD hb Pz λw5 k5=>⟨_,rfl,?_⟩;have xm:=qH.tt k5;have o9:=k5.heap (k4.heap ET (λh=>h)) (λh=>h);have tZ:=k5.heap (k4.heap Xi (λh=>h)) (λh=>h);rw [dO (n:=(i:Int)) (by omega) (by omega)];refine Split.mk (λyn=>?_) (λhle=>?_)
  ·rw [if_pos yn]at he
   refine(hl.same xm).load (i:=(i:Int)) (by omega) R1 ?_;obtain⟨f1,f2,f3⟩:=iZ y o9 b.2.1;refine⟨f1,?_⟩;exact⟨(i:Int)+1,rfl,⟨i+1,y,rfl,by omega,by omega,Pz,he,f2,f3.heap tZ (by omega),xm.trans f3 (λj hj e=>by omega)⟩,by simp only;omega⟩
  ·rw [if_neg (by rw [hle];decide)]at he
   exact⟨(i:Int)+1,rfl,⟨i+1,b,rfl,by omega,by omega,hb,he,o9,tZ,xm⟩,by simp only;omega⟩
 ·rw [bg,bD.dJ]
  rw [List.drop_eq_nil_of_le (by simp;omega)]at he
  replace he:b=cf G (x0::t):=he
  subst he;refine⟨_,⟨uS _,Cells.bX ET⟩,?_⟩;obtain⟨f1,f2,f3⟩:=iZ (cf G (x0::t)) Xi rfl;exact⟨f1,_,⟨uS _,Cells.bX f2⟩,hK _ (kv.trans f3 (λj hj e=>by omega))⟩
theorem qU(h:R3 w F r x k G)(hD:G.D.length<=5000){A:Option Addr}{n cx:Nat}{l:List HT}(hl:HS w A n l)(hn:n<=100000)(y:HT)(hK:∀A' c' w',bY w' w.heap.size A' (cG G.D l y).length c' (cG G.D l y)->Kept Nil w w'->K (.slice A' (cG G.D l y).length c') w'):
 bJ prog bK.id #[.pointer (some ⟨r,0,none⟩),.slice A n cx,.agg y.1] w K:=by
 have hlen:=hl.len;refine bK.of ?_;unfold bK.W;intro w1;have k1:Kept Nil w w1:=(Kept.refl _ _).alloc _;have Nz:w1.heap[w.heap.size]? =some (.cells y.1 ai (0,0)):=aO w _;clear_value w1;refine bK.cP (I:=λs v=>∃(i:Nat) (B:Option Addr) (c:Nat),s=(B,(cG G.D (l.take i) y).length,c,(i:Int))/\i<=n/\bY v w1.heap.size B (cG G.D (l.take i) y).length c (cG G.D (l.take i) y)/\Kept Nil w1 v) (μ:=λs _=>((n:Int)-s.2.2.2).toNat) (s:=(none,0,0,0)) ⟨0,none,0,rfl,Nat.zero_le _,bY.nil _ _,Kept.refl _ _⟩ ?_;rintro s v ⟨i,B,c,rfl,hi,row,kv⟩;unfold bK.B1;have yz:=k1.tt kv;refine Split.dec (λdD=>?_) (λgE=>?_)
 ·simp only at dD
  have eA:i<n:=by omega
  obtain⟨z,hz⟩:∃z,l[i]? =some z:=⟨_,List.getElem?_eq_getElem (by omega)⟩;have rZ:(cG G.D (l.take i) y).length<=100000:=by
   have:=List.length_filter_le (λb=>decide (oF G.D b y)) (l.take i);have h2:=List.length_take_le i l;unfold cG;omega
  intro w3;have k3:Kept Nil v w3:=(Kept.refl _ _).drew;clear_value w3;have tU:=kv.tt k3;have jH:=k1.tt tU;have h3:=h.same jH;have Bm:l[((i:Nat):Int).toNat]? =some z:=by rw [Int.toNat_natCast];exact hz
  refine Is.mk rfl ⟨_,h3.c1,Is.mk rfl ((hl.same jH).load (i:=(i:Int)) (by omega) Bm ⟨y.1,⟨y.2.1,Cells.bX (tU.heap Nz (λh=>h))⟩,?_⟩)⟩;rw [add_zero];refine HD h3.X.gr h.iN.W (by omega) z y λw4 b hb k4=>⟨b,rfl,?_⟩
  replace hb:b=true↔oF G.D z y:=hb
  have qH:=tU.tt k4;have mD:=k1.tt qH;have lh:=Row.aN row (k3.tt k4) (λ_ _ h=>h);have Ff:cG G.D (l.take (i+1)) y=cG G.D (l.take i) y++if oF G.D z y then [z]else []:=by
   rw [List.take_add_one,hz,fQ]
   congr 1
   unfold cG;by_cases hp:oF G.D z y
   ·rw [if_pos hp];simp [hp]
   ·rw [if_neg hp];simp [hp]
  cases b with
  |true=>
   rw [if_pos (hb.1 rfl)]at Ff;refine Split.yes rfl ((hl.same mD).load (i:=(i:Int)) (by omega) Bm ⟨z.2.1,?_⟩);intro w5;have k5:Kept Nil w4 w5:=(Kept.refl _ _).alloc _;have UF:=jy w4 z;have s5:=(qH.tt k5).size;obtain⟨A',c',w6,hr,Af,hg,_⟩:=dp (cx:=1) aH (Row.aN lh k5 (λ_ _ h=>h)) UF (by omega) s5;refine⟨A',_,c',w6,hr,?_⟩;rw [dO (n:=(i:Int)) (by omega) (by omega)];have e:(cG G.D (l.take (i+1)) y).length=(cG G.D (l.take i) y).length+1:=by rw [Ff];simp
   refine⟨(A',(cG G.D (l.take i) y).length+1,c',(i:Int)+1),rfl,⟨i+1,A',c',by rw [e];rfl,eA,by rw [e,Ff];exact Af,?_⟩,by simp only;omega⟩;exact Kept.dY (qH.tt k5) hg (λj hj=>(Row.bX row hj).1)
  |false=>
   rw [if_neg (λe=>by have:=hb.2 e;cases this),List.append_nil]at Ff;refine Split.no rfl ?_;simp only;rw [dO (n:=(i:Int)) (by omega) (by omega)];exact⟨(B,(cG G.D (l.take i) y).length,c,(i:Int)+1),rfl,⟨i+1,B,c,by rw [Ff];rfl,eA,by rw [Ff];exact lh,qH⟩,by simp only;omega⟩
 ·simp only at gE
  rw [bg,bK.dJ];rw [List.take_of_length_le (by omega)]at row;have e:i=n:=by omega
  subst e;rw [List.take_of_length_le (by omega)];exact hK B c v (Row.base row (λj hj=>by have:=(Row.bX row hj).1;have:=k1.size;omega)) yz
end
structure VJ(v:World)(B0 xb rb:Nat)(x:qF)(A:Option Addr)(n cp:Nat)(E:Option Addr)(e ce:Nat)(W:Option Addr)(nw cw:Nat)(wd:List HT):Prop where
 top:v.heap[xb]? =some (.cells (dI x A n cp E e ce) bT (0,0))
 mg:bY v B0 A n cp x.merge
 bl:Row v B0 jW 1 E e ce (uX x.gZ)
 wr:bY v B0 W nw cw wd
 box:v.heap[rb]? =some (.cells zC bT (0,0))
 AE:∀j,bL A=some j->bL E≠some j
 AW:∀j,bL A=some j->bL W≠some j
 EW:∀j,bL E=some j->bL W≠some j
 xB:xb<B0
 rB:rb<B0
 xr:xb≠rb
section
variable{v v' u:World}{B0 xb rb n cp e ce nw cw:Nat}{x:qF}{A E W:Option Addr}{wd:List HT}{K:Value->World->Prop}
theorem VJ.same(h:VJ v B0 xb rb x A n cp E e ce W nw cw wd)(k:Kept Nil v v'):VJ v' B0 xb rb x A n cp E e ce W nw cw wd:=
 ⟨k.heap h.top (λh=>h),Row.aN h.mg k (λ_ _ h=>h),Row.aN h.bl k (λ_ _ h=>h),Row.aN h.wr k (λ_ _ h=>h),k.heap h.box (λh=>h),h.AE,h.AW,h.EW,h.xB,h.rB,h.xr⟩
theorem VJ.f32(h:VJ v B0 xb rb x A n cp E e ce W nw cw wd):v.cell? ((⟨xb,0,none⟩:Addr).add 32)=some (.int .u64 (x.score:Int)):=by
 have:=(iI x A n cp E e ce #[]).1;rw [Array.append_empty]at this;rw [bO,aI h.top];exact this
theorem VJ.f33(h:VJ v B0 xb rb x A n cp E e ce W nw cw wd):v.cell? ((⟨xb,0,none⟩:Addr).add 33)=some (.slice A n cp):=by
 have:=(iI x A n cp E e ce #[]).2.1;rw [Array.append_empty]at this;rw [bO,aI h.top];exact this
theorem VJ.f34(h:VJ v B0 xb rb x A n cp E e ce W nw cw wd):v.cell? ((⟨xb,0,none⟩:Addr).add 34)=some (.slice E e ce):=by
 have:=(iI x A n cp E e ce #[]).2.2.1;rw [Array.append_empty]at this;rw [bO,aI h.top];exact this
theorem VJ.wrx(h:VJ v B0 xb rb x A n cp E e ce W nw cw wd){j:Nat}(hj:j<35):Wr v ((⟨xb,0,none⟩:Addr).add j):=by
 rw [bO];exact eI h.top (by rw [bR];omega)
theorem VJ.Q4(h:VJ v B0 xb rb x A n cp E e ce W nw cw wd)(j:Nat)(z:Value):Kept (· =xb) v (v.setCell ((⟨xb,0,none⟩:Addr).add j) z):=by
 rw [bO];exact Kept.setCell (S:=(· =xb)) (Kept.refl _ v) (p:=⟨xb,0+j,none⟩) (λ_=>rfl) _
theorem VJ.Q6(h:VJ v B0 xb rb x A n cp E e ce W nw cw wd)(s:Nat):VJ (v.setCell ((⟨xb,0,none⟩:Addr).add 32) (.int .u64 (s:Int))) B0 xb rb {x with score:=s} A n cp E e ce W nw cw wd:=by
 have k:=h.Q4 32 (.int .u64 (s:Int));have xB:=h.xB;refine⟨?_,Row.aN h.mg k (λj hj e=>by have:=(Row.bX h.mg hj).1;omega),Row.aN h.bl k (λj hj e=>by have:=(Row.bX h.bl hj).1;omega),Row.aN h.wr k (λj hj e=>by have:=(Row.bX h.wr hj).1;omega),k.heap h.box h.xr.symm,h.AE,h.AW,h.EW,h.xB,h.rB,h.xr⟩;rw [bO,dL h.top];have:=xT x A n cp E e ce #[] s;rw [Array.append_empty,Array.append_empty]at this;rw [this]
theorem VJ.VP(h:VJ v B0 xb rb x A n cp E e ce W nw cw wd)(hB:B0<=v.heap.size)(hn:nw<=100000){z:HT}(pU:Kept Nil v v'){bx:Nat}(hx:HS v' (some ⟨bx,0,none⟩) 1 [z]):
 ∃W' U5 u,(Builtin.append_ #[aH,aH] aH #[.slice W nw cw,.slice (some ⟨bx,0,none⟩) 1 1]).run prog v'=.ok (.slice W' (nw+1) U5) u/\VJ u B0 xb rb x A n cp E e ce W' (nw+1) U5 (wd++ [z])/\Kept (λj=>j=xb\/B0<=j) v u:=by
 have h':=h.same pU;have s16:=pU.size;obtain⟨W',c',u,hr,row,hg,hb⟩:=dp (cx:=1) aH h'.wr hx (by omega) (by omega);have kg:Kept (λj=>bL W=some j) v' u:=Kept.grown (Kept.refl _ _) hg (λj hj _=>hj);have nB:∀j,j<B0->bL W≠some j:=λj hj e=>by have:=(Row.bX h.wr e).1;omega
 refine⟨W',c',u,hr,⟨kg.heap h'.top (nB _ h.xB),Row.aN h'.mg kg (λj hj=>h.AW j hj),Row.aN h'.bl kg (λj hj=>h.EW j hj),row,kg.heap h'.box (nB _ h.rB),h.AE,λj hj e=>?_,λj hj e=>?_,h.xB,h.rB,h.xr⟩,(pU.mono λ_ _ h=>h.elim).trans kg (λj hj e=>.inr (Row.bX h.wr e).1)⟩
 ·rcases hb j e with e'|e'
  ·exact h.AW j hj e'
  ·obtain⟨_,cur,hc⟩:=Row.bX h'.mg hj
   have:=bt hc;omega
 ·rcases hb j e with e'|e'
  ·exact h.EW j hj e'
  ·obtain⟨_,cur,hc⟩:=Row.bX h'.bl hj
   have:=bt hc;omega
theorem VJ.JQ(h:VJ v B0 xb rb x A n cp E e ce W nw cw wd)(hB:B0<=v.heap.size)(hn:e<=100000){b:Bool}(pU:Kept Nil v v'){bx:Nat}(hx:v'.cell? ⟨bx,0,none⟩=some (.bool b)):
 ∃E' uv u,(Builtin.append_ #[iV,iV] iV #[.slice E e ce,.slice (some ⟨bx,0,none⟩) 1 1]).run prog v'=.ok (.slice E' (e+1) uv) u/\Wr u ((⟨xb,0,none⟩:Addr).add 34)/\
  VJ (u.setCell ((⟨xb,0,none⟩:Addr).add 34) (.slice E' (e+1) uv)) B0 xb rb {x with gZ:=x.gZ++ [b]} A n cp E' (e+1) uv W nw cw wd/\Kept (λj=>j=xb\/B0<=j) v (u.setCell ((⟨xb,0,none⟩:Addr).add 34) (.slice E' (e+1) uv)):=by
 have h':=h.same pU;have s16:=pU.size;have xB:=h.xB;obtain⟨E',c',u,hr,row,hg,hb⟩:=gU (P:=prog) (t:=iV) (bytes:=1) (ty:=iV) DS h'.bl (a:=⟨bx,0,none⟩) (m:=1) (cx:=1) (news:= [.bool b]) rfl (λj z hj=>by
  cases j with
  |zero=>simp only [List.getElem?_cons_zero,Option.some.injEq]at hj;subst hj;rw [add_zero];exact hx
  |succ j=>simp at hj) (λz hz=>by
  have:z=.bool b:=by simpa using hz
  subst this;rfl) (by omega) (by unfold maxLen;omega) (by omega)
 have kg:Kept (λj=>bL E=some j) v' u:=Kept.grown (Kept.refl _ _) hg (λj hj _=>hj);have nB:∀j,j<B0->bL E≠some j:=λj hj e=>by have:=(Row.bX h.bl e).1;omega
 have top:=kg.heap h'.top (nB _ h.xB);have ks:Kept (· =xb) u (u.setCell ((⟨xb,0,none⟩:Addr).add 34) (.slice E' (e+1) c')):=by
  rw [bO];exact Kept.setCell (S:=(· =xb)) (Kept.refl _ u) (p:=⟨xb,0+34,none⟩) (λ_=>rfl) _
 have mS:Kept (λj=>j=xb\/bL E=some j) v' (u.setCell ((⟨xb,0,none⟩:Addr).add 34) (.slice E' (e+1) c')):=(kg.mono λ_ _ h=>.inr h).trans ks (λ_ _ h=>.inl h);refine⟨E',c',u,hr,by rw [bO];exact eI top (by rw [bR];omega),⟨?_,?_,?_,?_,?_,λj hj e=>?_,h.AW,λj hj e=>?_,h.xB,h.rB,h.xr⟩,(pU.mono λ_ _ h=>h.elim).trans mS (λj hj e=>e.imp (λh=>h) (λe=>(Row.bX h.bl e).1))⟩
 ·rw [bO,dL top]
  have:=tf x A n cp E e ce #[] E' (e+1) c';rw [Array.append_empty,Array.append_empty]at this;rw [this];rfl
 ·exact Row.aN h'.mg mS (λj hj e=>e.elim (λe=>by have:=(Row.bX h.mg hj).1;omega) (h.AE j hj))
 ·have e1:uX (x.gZ++ [b])=uX x.gZ++ [.bool b]:=by simp [uX]
  show Row _ B0 jW 1 E' (e+1) c' (uX (x.gZ++ [b]))
  rw [e1];exact Row.aN row ks (λj hj e=>by have:=(Row.bX row hj).1;omega)
 ·exact Row.aN h'.wr mS (λj hj e=>e.elim (λe=>by have:=(Row.bX h.wr hj).1;omega) (λe=>h.EW j e hj))
 ·exact mS.heap h'.box (λe=>e.elim (λe=>h.xr e.symm) (nB _ h.rB))
 ·rcases hb j e with e'|e'
  ·exact h.AE j hj e'
  ·obtain⟨_,cur,hc⟩:=Row.bX h'.mg hj
   have:=bt hc;omega
 ·rcases hb j hj with e'|e'
  ·exact h.EW j e' e
  ·obtain⟨_,cur,hc⟩:=Row.bX h'.wr e
   have:=bt hc;omega
end
section
variable{y w w':World}{F F' S:Nat->Prop}{r x k:Nat}{G:GS}{K:Value->World->Prop}{B0 xb rb n cp e ce nw cw:Nat}{A E W:Option Addr}{s:HT}{l:List HT}
set_option maxHeartbeats 2000000 in
theorem He(h:R3 y F r x k G)(hD:G.D.length<=300)(pJ:k<=1000)(hB:B0<=y.heap.size)(jD:∀j,(j=r\/j=x\/F j)->j<B0/\j≠xb/\j≠rb)(hM:∀z∈cZ G s l,z∈ids G.D)(hs:s∈ids G.D)
 (V:VJ y B0 xb rb ⟨s,G.score s+1,cZ G s l,[]⟩ A n cp none 0 0 W nw cw (G.world s++ [s]))
 (hK:∀v E e ce W nw cw,VJ v B0 xb rb (dE k G s l) A n cp E e ce W nw cw (iO k G s l).wd->Kept (λj=>j=xb\/j=rb\/B0<=j) y (setCells v ⟨rb,0,none⟩ (dI (dE k G s l) A n cp E e ce).toList 0)->K (.tuple #[.agg (dI (dE k G s l) A n cp E e ce),.slice W nw cw]) (setCells v ⟨rb,0,none⟩ (dI (dE k G s l) A n cp E e ce).toList 0)):
 af.dA (some ⟨r,0,none⟩) ⟨B0,0,none⟩ ⟨rb,0,none⟩ none 0 0 ⟨xb,0,none⟩ W nw cw none 0 0 0 K y:=by
 unfold af.dA;have K0:(cZ G s l).length<=300:=by
  have:=eJ (m:=ids G.D) (mH G s l).nodup hM;rw [iL]at this;omega
 have hn:(cZ G s l).length=n:=bY.len V.mg;have hwl:=ux h.iN hs;have Gu:=BO h.iN hs;have hR:∀ {v:World},Kept (λj=>j=xb\/B0<=j) y v->R3 v F r x k G:=λkv=>h.aN kv (λe=>by have:=jD r (.inl rfl);omega) (λe=>by have:=jD x (.inr (.inl rfl));omega) (λj hj e=>by have:=jD j (.inr (.inr hj));omega);have vl:∀i,i<=n->(lX k G s l i).wd.length<=700:=λi hi=>by
  obtain⟨b,h1,h2⟩:=Ju k G.D (G.world s++ [s]) ((cZ G s l).take i);have h3:=zT ((cZ G s l).take i) b;rw [List.length_take]at h3;show(((cZ G s l).take i).foldl (qg k G.D) ⟨G.world s++ [s],[]⟩).wd.length<=700;rw [h2];simp only [List.length_append,List.length_singleton];omega
 refine af.xg (I:=λst v=>∃(i:Nat) (E:Option Addr) (e ce:Nat) (W:Option Addr) (nw cw:Nat),st=(W,nw,cw,(i:Int))/\i<=n/\VJ v B0 xb rb ⟨s,G.score s+1+(lX k G s l i).bl.count true,cZ G s l,(lX k G s l i).bl⟩ A n cp E e ce W nw cw (lX k G s l i).wd/\Kept (λj=>j=xb\/B0<=j) y v) (μ:=λst _=>((n:Int)-st.2.2.2).toNat) (s:=(W,nw,cw,0)) ⟨0,none,0,0,W,nw,cw,rfl,Nat.zero_le _,V,Kept.refl _ _⟩ ?_;rintro st v ⟨i,E,e,ce,W,nw,cw,rfl,hi,Vv,kv⟩;unfold af.B3;refine⟨A,n,cp,Vv.f33,Split.dec (λdD=>?_) (λgE=>?_)⟩
 ·simp only at dD
  have eA:i<n:=by omega
  obtain⟨z,hz⟩:∃z,(cZ G s l)[i]? =some z:=⟨_,List.getElem?_eq_getElem (by omega)⟩;have oL:=BD (k:=k) hz;have Bm:(cZ G s l)[((i:Nat):Int).toNat]? =some z:=by rw [Int.toNat_natCast];exact hz
  have hnw:(lX k G s l i).wd.length=nw:=bY.len Vv.wr;have hvl:=vl i hi;have sv:=kv.size;refine⟨A,n,cp,Vv.f33,(bY.hs Vv.mg).load (i:=(i:Int)) (by omega) Bm ?_⟩;refine qU (hR kv) (by omega) (bY.hs Vv.wr) (by omega) z λN cN w4 VD k4=>⟨N,_,cN,rfl,?_⟩;have qH:=kv.trans k4 (λ_ _ h=>h.elim);have hR4:=hR qH;refine Is.mk rfl ⟨_,hR4.c0,?_⟩;have Bq:(cG G.D (lX k G s l i).wd z).length<=700:=by
   have:=List.length_filter_le (λb=>decide (oF G.D b z)) (lX k G s l i).wd;unfold cG;omega
  generalize PZ:cG G.D (lX k G s l i).wd z=Ce at VD Bq;have V4:=Vv.same k4;refine af.Ka (I:=λst u=>∃(b:Bool) (q:Nat),st=(b,(q:Int))/\q<=Ce.length/\b=(decide (Ce.length<=k)&&(Ce.take q).all λz=>decide ((cG G.D (lX k G s l i).wd z).length+1<=k))/\Kept Nil w4 u) (μ:=λst _=>((Ce.length:Int)-st.2).toNat) (s:=(decide ((Ce.length:Int)<=(k:Int)),0)) ⟨_,0,rfl,Nat.zero_le _,by simp,Kept.refl _ _⟩ ?_;rintro st u ⟨b,q,rfl,hq,hb,ku⟩;have kvu:=qH.trans ku (λ_ _ h=>h.elim);have Vu:=V4.same ku;have fin:∀ {t:World},Kept Nil w4 t->b=rH k G.D (lX k G s l i).wd z->af.FC (some ⟨r,0,none⟩) ⟨rb,0,none⟩ none 0 0 ⟨xb,0,none⟩ W nw cw (i:Int) N Ce.length cN b (q:Int) (b7 (af.e3 (some ⟨r,0,none⟩) ⟨rb,0,none⟩ none 0 0 ⟨xb,0,none⟩) (λst v=>∃(i:Nat) (E:Option Addr) (e ce:Nat) (W:Option Addr) (nw cw:Nat),st=(W,nw,cw,(i:Int))/\i<=n/\VJ v B0 xb rb ⟨s,G.score s+1+(lX k G s l i).bl.count true,cZ G s l,(lX k G s l i).bl⟩ A n cp E e ce W nw cw (lX k G s l i).wd/\Kept (λj=>j=xb\/B0<=j) y v) (λst _=>((n:Int)-st.2.2.2).toNat) (W,nw,cw,(i:Int)) v (af.q3 K)) t:=λ{t} kt EU=>by
   have Vt:=V4.same kt;have Wj:=qH.trans kt (λ_ _ h=>h.elim);have st:=Wj.size;have hbn:(lX k G s l i).bl.length=e:=by have:=(Row.bo Vt.bl).len;simpa using this
   have hbi:=FN k G s l i (by omega);unfold af.FC;refine⟨E,e,ce,Vt.f34,?_⟩;intro w5;have k5:Kept Nil t w5:=(Kept.refl _ _).alloc _;have o9:w5.cell? ⟨t.heap.size,0,none⟩=some (.bool b):=by rw [aI (aO t _)];rfl
   clear_value w5;obtain⟨E',uv,u6,q1,q2,q3,q4⟩:=Vt.JQ (by omega) (by omega) k5 o9;refine⟨E',e+1,uv,u6,q1,q2,?_⟩;have Uu:=Wj.tt q4;rw [dO (n:=(i:Int)) (by omega) (by omega)];rw [qg,<-EU]at oL;generalize u6.setCell ((⟨xb,0,none⟩:Addr).add 34) (.slice E' (e+1) uv)=w6 at q3 q4 Uu⊢;have s6:=Uu.size;cases b with
   |false=>
    refine Split.no rfl ⟨(W,nw,cw,(i:Int)+1),rfl,⟨i+1,E',e+1,uv,W,nw,cw,rfl,eA,?_,Uu⟩,by simp only;omega⟩;rw [oL];simpa [List.count_append]using q3
   |true=>
    refine Split.yes rfl ⟨A,n,cp,q3.f33,(bY.hs q3.mg).load (i:=(i:Int)) (by omega) Bm ⟨z.2.1,?_⟩⟩;intro w7;have k7:Kept Nil w6 w7:=(Kept.refl _ _).alloc _;have R4:=jy w6 z;obtain⟨W',U5,w8,r1,r2,r3⟩:=q3.VP (by omega) (by omega) k7 R4;refine⟨W',nw+1,U5,w8,r1,_,r2.f32,r2.wrx (by omega),?_⟩;have anj:(lX k G s l i).bl.count true<=300:=by have:=List.count_le_length (a:=true) (l:=(lX k G s l i).bl);omega
    have ew:u64.wrap (((G.score s+1+(lX k G s l i).bl.count true:Nat):Int)+1)=((G.score s+1+(lX k G s l i).bl.count true+1:Nat):Int):=by
     rw [show((G.score s+1+(lX k G s l i).bl.count true:Nat):Int)+1=((G.score s+1+(lX k G s l i).bl.count true+1:Nat):Int)by omega];exact lF (by omega)
    simp only;rw [ew];have r4:=r2.Q6 (G.score s+1+(lX k G s l i).bl.count true+1);have r5:=r2.Q4 32 (.int .u64 ((G.score s+1+(lX k G s l i).bl.count true+1:Nat):Int));refine⟨(W',nw+1,U5,(i:Int)+1),rfl,⟨i+1,E',e+1,uv,W',nw+1,U5,rfl,eA,?_,(Uu.tt r3).trans r5 (λ_ _ h=>.inl h)⟩,by simp only;omega⟩;rw [oL];have ec:((lX k G s l i).bl++ [true]).count true=(lX k G s l i).bl.count true+1:=by simp [List.count_append]
    simp only [if_true];rw [ec,<-Nat.add_assoc];exact r4
  unfold af.B4;refine Split.dec (λYp=>?_) (λYJ=>?_)
  ·simp only at Yp
   refine Split.mk (λyK=>?_) (λyK=>?_)
   ·replace yK:b=true:=yK
    subst yK;have Jc:q<Ce.length:=by omega
    obtain⟨z2,hz2⟩:∃z2,Ce[q]? =some z2:=⟨_,List.getElem?_eq_getElem Jc⟩;intro w5;have k5:Kept Nil u w5:=(Kept.refl _ _).drew;clear_value w5;have HY:=ku.tt k5;have xm:=qH.trans HY (λ_ _ h=>h.elim);have hR5:=hR xm;refine((bY.hs VD).same HY).load (i:=(q:Int)) (by omega) (by rw [Int.toNat_natCast];exact hz2) (Is.mk rfl ⟨_,hR5.c0,?_⟩);refine qU hR5 (by omega) (bY.hs (V4.same HY).wr) (by omega) z2 λN2 c2 w6 Af k6=>⟨N2,_,c2,rfl,?_⟩;have Ni:=HY.tt k6;refine⟨(hR5.same k6).c0,?_⟩;simp only;rw [dO (n:=(q:Int)) (by omega) (by omega),jG (x:=(k:Int)-1) (by omega) (by omega)];refine⟨(decide (((cG G.D (lX k G s l i).wd z2).length:Int)<=(k:Int)-1),(q:Int)+1),rfl,⟨_,q+1,rfl,Jc,?_,Ni⟩,by simp only;omega⟩;rw [eq_comm,Bool.and_eq_true,decide_eq_true_eq]at hb;rw [decide_eq_true hb.1,Bool.true_and,List.take_add_one,hz2];simp only [Option.toList_some,List.all_append,hb.2,Bool.true_and,List.all_cons,List.all_nil,Bool.and_true];rw [decide_eq_decide];omega
   ·rw [bg,af.Jl]
    replace yK:b=false:=yK
    refine fin ku ?_;rw [yK]at hb⊢
    symm
    unfold rH;rw [PZ,decide_eq_false_iff_not];rintro⟨g1,g2⟩;rw [decide_eq_true g1,Bool.true_and]at hb;have:=List.all_eq_false.1 hb.symm;obtain⟨z0,hz0,hz1⟩:=this;exact hz1 (decide_eq_true (g2 z0 (List.mem_of_mem_take hz0)))
  ·simp only at YJ
   rw [bg,af.Jl];refine fin ku ?_;rw [List.take_of_length_le (by omega)]at hb;rw [hb];unfold rH;rw [PZ,Bool.eq_iff_iff,Bool.and_eq_true,decide_eq_true_eq,decide_eq_true_eq,List.all_eq_true];simp only [decide_eq_true_eq]
 ·simp only at gE
  have:i=n:=by omega
  subst this;rw [bg,af.DF];rw [<-hn,FO]at Vv;have IG:(⟨s,G.score s+1+(iO k G s l).bl.count true,cZ G s l,(iO k G s l).bl⟩:qF)=dE k G s l:=rfl;rw [IG]at Vv;unfold af.yV;obtain⟨t1,t2,t3⟩:=hU Vv.box (cs:=dI (dE k G s l) A (cZ G s l).length cp E e ce) (by rw [bR];rfl);refine⟨_,⟨bR ..,Cells.bX Vv.top⟩,⟨bR ..,gv _ _ _ _ _ _ _,λj hj=>t1 j (by rw [bR];exact hj)⟩,_,⟨bR ..,Cells.bX t2⟩,?_⟩;rw [hn]at t3 Vv⊢;exact hK v E e ce W nw cw Vv ((kv.mono λ_ _ h=>h.imp (λh=>h) (λh=>.inr h)).trans t3 (λ_ _ h=>.inr (.inl h)))
end
theorem Ub{G:GS}{l:List HT}{k:Nat}{x:HT}(h:SO G l)(h1:∀y∈l.take k,gl G y x=true)(h2:∀y∈l.drop k,gl G x y=true):SO G (l.take k++x::l.drop k):=by
 have h0:SO G (l.take k++l.drop k):=by rw [List.take_append_drop];exact h
 unfold SO at h0⊢;rw [List.pairwise_append]at h0⊢;refine⟨h0.1,List.pairwise_cons.2 ⟨h2,h0.2.1⟩,λa ha b hb=>?_⟩;rcases List.mem_cons.1 hb with rfl|hb
 ·exact h1 a ha
 ·exact h0.2.2 a ha b hb
section
variable{y w w':World}{F F' S:Nat->Prop}{r x k:Nat}{G:GS}{K:Value->World->Prop}{B0 xb rb sb n cp e ce nw cw na ca:Nat}{A E W AA:Option Addr}{s:HT}{l all wd:List HT}
set_option maxHeartbeats 2000000 in
theorem Hf(h:R3 y F r x k G)(hD:G.D.length<=300)(hB:B0<=y.heap.size)(jD:∀j,(j=r\/j=x\/F j)->j≠xb)(hs:s∈ids G.D)(Jb:y.heap[sb]? =some (.cells s.1 ai (0,0)))(UI:sb≠xb)
 (dr:HS y AA na all) (hAA:∀a,AA=some a->a.block≠xb) (hSS:SS all) (gD:∀z∈all,z∈ids G.D)
 (V:VJ y B0 xb rb ⟨s,G.score s+1,[],[]⟩ none 0 0 none 0 0 W nw cw wd)
 (hK:∀v A n cp M i,SO G M->(∀z,z∈M↔z∈all/\z≠s/\¬fU G.D z s)->VJ v B0 xb rb ⟨s,G.score s+1,M,[]⟩ A n cp none 0 0 W nw cw wd->Kept (· =xb) y v->af.dA (some ⟨r,0,none⟩) ⟨sb,0,none⟩ ⟨rb,0,none⟩ none 0 0 ⟨xb,0,none⟩ W nw cw AA na ca i K v):
 Holds none [] prog 179 (.loop (lB (bB (sR (sL (dc (body af.fn))))))) (af.q1 K) [(0,.pointer (some ⟨r,0,none⟩)),(4,.pointer (some ⟨sb,0,none⟩)),(6,.pointer (some ⟨rb,0,none⟩)),(7,.slice none 0 0),(8,.pointer (some ⟨xb,0,none⟩)),(9,.slice W nw cw),(10,.slice AA na ca),(11,.int .i64 0)] y:=by
 have Im:=dr.len;have amv:na<=300:=by
  have:=eJ (m:=ids G.D) hSS.nodup gD;rw [iL]at this;omega
 have hR:∀ {v:World},Kept (· =xb) y v->R3 v F r x k G:=λkv=>h.aN kv (jD r (.inl rfl)) (jD x (.inr (.inl rfl))) (λj hj=>jD j (.inr (.inr hj)));refine af.cP (I:=λst v=>∃(i:Nat) (M:List HT) (A:Option Addr) (n cp:Nat),st=(i:Int)/\i<=na/\VJ v B0 xb rb ⟨s,G.score s+1,M,[]⟩ A n cp none 0 0 W nw cw wd/\SO G M/\(∀z,z∈M↔z∈all.take i/\z≠s/\¬fU G.D z s)/\Kept (· =xb) y v) (μ:=λst _=>((na:Int)-st).toNat) (s:=0) ⟨0,[],none,0,0,rfl,Nat.zero_le _,V,List.Pairwise.nil,by simp,Kept.refl _ _⟩ ?_;rintro st v ⟨i,M,A,n,cp,rfl,hi,Vv,Ie,jx,kv⟩;unfold af.B1;refine Split.dec (λdD=>?_) (λgE=>?_)
 ·have eA:i<na:=by omega
  obtain⟨z,hz⟩:∃z,all[i]? =some z:=⟨_,List.getElem?_eq_getElem (by omega)⟩;have RY:=gD z (List.mem_of_getElem? hz);have Ff:all.take (i+1)=all.take i++ [z]:=by rw [List.take_add_one,hz];rfl
  have hMi:∀y∈M,y∈ids G.D:=λy hy=>gD y (List.mem_of_mem_take ((jx y).1 hy).1);have hMl:M.length<=300:=by
   have:=eJ (m:=ids G.D) Ie.nodup hMi;rw [iL]at this;omega
  have hMn:M.length=n:=bY.len Vv.mg;have sv:=kv.size;refine(dr.aN kv hAA).load (i:=(i:Int)) (by omega) hz ?_;intro w2;obtain⟨uP,ly,lH⟩:=jt (w:=v) (z:=gu.1) (cs:=z.1) (t:=ai) (by rw [z.2.1];rfl);refine⟨⟨z.2.1,z.2.one,λj hj=>uP j (by rw [z.2.1];exact hj)⟩,?_⟩;intro w3 w4
  replace ly:w3.heap[v.heap.size]? =some (.cells z.1 ai (0,0)):=ly
  replace lH:Kept Nil v w3:=lH
  have k4:Kept Nil w3 w4:=(Kept.refl _ _).drew;clear_value w4;have vB:=k4.heap ly (λh=>h);have Rs:=lH.tt k4;clear_value w3;have qH:=kv.trans Rs (λ_ _ h=>h.elim);have Sf:∀ {u:World},Kept (· =xb) y u->Cells u ⟨sb,0,none⟩ s.1:=λku=>Cells.bX (ku.heap Jb UI);have next:∀ {u:World} {M':List HT} {A':Option Addr} {n' yM:Nat},VJ u B0 xb rb ⟨s,G.score s+1,M',[]⟩ A' n' yM none 0 0 W nw cw wd->SO G M'->(∀z,z∈M'↔z∈all.take (i+1)/\z≠s/\¬fU G.D z s)->Kept (· =xb) y u->
   ∃s1:Int,i64.wrap ((i:Int)+(1:Int))=s1/\(∃(i:Nat) (M:List HT) (A:Option Addr) (n cp:Nat),s1=(i:Int)/\i<=na/\VJ u B0 xb rb ⟨s,G.score s+1,M,[]⟩ A n cp none 0 0 W nw cw wd/\SO G M/\(∀z,z∈M↔z∈all.take i/\z≠s/\¬fU G.D z s)/\Kept (· =xb) y u)/\((na:Int)-s1).toNat<((na:Int)-(i:Int)).toNat:=λh1 h2 h3 h4=>by
   rw [dO (n:=(i:Int)) (by omega) (by omega)];exact⟨(i:Int)+1,rfl,⟨i+1,_,_,_,_,rfl,eA,h1,h2,h3,h4⟩,by omega⟩
  have skip:(z=s\/fU G.D z s)->∀z',z'∈M↔z'∈all.take (i+1)/\z'≠s/\¬fU G.D z' s:=λhz0 z'=>by
   rw [jx,Ff,List.mem_append,List.mem_singleton];constructor
   ·rintro⟨a,b⟩;exact⟨.inl a,b⟩
   ·rintro⟨a|rfl,b,c⟩
    ·exact⟨a,b,c⟩
    ·rcases hz0 with e|e
     ·exact absurd e b
     ·exact absurd e c
  refine⟨z.1,⟨z.2.1,Cells.bX vB⟩,s.1,⟨s.2.1,Sf qH⟩,⟨z.2.ints,s.2.ints⟩,?_⟩;rw [dQ];refine Split.dec (λGs=>?_) (λGs=>?_)
  ·obtain⟨s1,e1,e2,e3⟩:=next (Vv.same Rs) Ie (skip (.inl Gs)) qH
   rw [e1];exact⟨s1,rfl,e2,e3⟩
  have hR4:=hR qH;refine Is.mk rfl ⟨_,hR4.c1,Is.mk rfl ⟨z.1,⟨z.2.1,Cells.bX vB⟩,s.1,⟨s.2.1,Sf qH⟩,?_⟩⟩;rw [add_zero];refine pQ hR4.X.gr h.iN.W (by omega) z s λw5 b hb k5=>⟨b,rfl,?_⟩;have Rr:=Rs.tt k5;have xm:=kv.trans Rr (λ_ _ h=>h.elim);refine Split.mk (λhbt=>?_) (λhbf=>?_)
  ·obtain⟨s1,e1,e2,e3⟩:=next (Vv.same Rr) Ie (skip (.inr (hb.1 hbt))) xm
   rw [e1];exact⟨s1,rfl,e2,e3⟩
  have hzA:¬fU G.D z s:=λe=>by rw [hb.2 e]at hbf;cases hbf
  have V5:=Vv.same Rr;have o9:=k5.heap vB (λh=>h);have hzM:z∉M:=λe=>by
   have h1:=((jx z).1 e).1;have fE:=hSS.nodup;obtain⟨q,hq⟩:=List.mem_iff_getElem?.1 h1;rw [List.getElem?_take]at hq;split at hq
   ·rename_i hqi
    have:=(List.getElem?_inj (i:=q) (j:=i) (by rw [Im];omega) fE).1 (by rw [hq,hz]);omega
   ·cases hq
  refine⟨A,n,cp,V5.f33,?_⟩;refine af.iY (I:=λst u=>∃q:Nat,st=(q:Int)/\q<=M.length/\(∀y∈M.drop q,gl G z y=true)/\Kept Nil w5 u) (μ:=λst _=>st.toNat) (s:=(n:Int)) ⟨n,rfl,by omega,by rw [<-hMn];simp,Kept.refl _ _⟩ ?_;rintro st u ⟨q,rfl,hq,xx,ku⟩;unfold af.B2;have xw:∀ {t:World},Kept Nil w5 t->(∀y∈M.take q,gl G y z=true)->af.jJ (some ⟨r,0,none⟩) ⟨sb,0,none⟩ ⟨rb,0,none⟩ none 0 0 ⟨xb,0,none⟩ W nw cw AA na ca (i:Int) ⟨v.heap.size,0,none⟩ (q:Int) (b7 (af.e1 (some ⟨r,0,none⟩) ⟨sb,0,none⟩ ⟨rb,0,none⟩ none 0 0 ⟨xb,0,none⟩ W nw cw AA na ca) (λst v=>∃(i:Nat) (M:List HT) (A:Option Addr) (n cp:Nat),st=(i:Int)/\i<=na/\VJ v B0 xb rb ⟨s,G.score s+1,M,[]⟩ A n cp none 0 0 W nw cw wd/\SO G M/\(∀z,z∈M↔z∈all.take i/\z≠s/\¬fU G.D z s)/\Kept (· =xb) y v) (λst _=>((na:Int)-st).toNat) (i:Int) v (af.q1 K)) t:=by
   intro t kt KJ;have Vt:=V5.same kt;have Wj:=xm.trans kt (λ_ _ h=>h.elim);have st:=Wj.size;have Ac:=Vt.mg;have Ix:n<=cp:=by rcases Row.own Ac with⟨_,h1,h2,_⟩|⟨_,_,_,_,_,h1,_⟩<;>omega
   unfold af.jJ;refine⟨A,n,cp,Vt.f33,⟨by omega,by omega⟩,?_⟩;have vN:HS t (if cp=0 then A else A.map (·.add (0*32))) ((q:Int).toNat -0) (M.take q):=by
    have h:=Ac.hs.take (k:=q) (by omega);rw [Nat.sub_zero,Int.toNat_natCast];have e:(if cp=0 then A else A.map (·.add (0*32)))=A:=by
     split
     ·rfl
     ·cases A<;>simp [add_zero]
    rw [e];exact h
   obtain⟨A1,c1,u2,oE,iU,Ir,oN⟩:=dp (cx:=cp-0) aH (bY.nil t t.heap.size) vN (by simp;omega) (Nat.le_refl _);have k2:Kept Nil t u2:=Kept.dY (Kept.refl _ _) Ir (λk hk=>by cases hk);rw [Nat.zero_add,Nat.sub_zero,Int.toNat_natCast]at oE iU;rw [List.nil_append]at iU;refine⟨A1,_,c1,u2,by rw [Nat.sub_zero,Int.toNat_natCast];exact oE,?_⟩;refine⟨z.1,⟨z.2.1,Cells.bX ((kt.tt k2).heap o9 (λh=>h))⟩,z.2.1,?_⟩;intro u3;have k3:Kept Nil u2 u3:=(Kept.refl _ _).alloc _;have Zc:HS u3 (some ⟨u2.heap.size,0,none⟩) 1 [z]:=jy u2 z;clear_value u3;have oR:bY u3 t.heap.size A1 q c1 (M.take q):=Row.aN iU k3 (λ_ _ h=>h);have s2:=k2.size;have s3:=k3.size;obtain⟨A4,c4,u4,zE,lh,GI,anq⟩:=dp (cx:=1) aH oR Zc (by omega) (by omega);have k4':Kept Nil t u4:=Kept.dY (k2.tt k3) GI (λk hk=>by rcases oN k hk with h|h;cases h;exact h);have V4:=Vt.same k4';refine⟨A4,_,c4,u4,zE,A,n,cp,V4.f33,⟨by omega,by omega⟩,?_⟩;have CH:HS u4 (if cp=(q:Int).toNat then A else A.map (·.add ((q:Int).toNat*32))) (n-(q:Int).toNat) (M.drop q):=by
    rw [Int.toNat_natCast];exact(Ac.hs.same k4').drop Ix (by omega)
   have hdl:(n-(q:Int).toNat)=n-q:=by rw [Int.toNat_natCast]
   have s4:=k4'.size;obtain⟨A5,c5,u5,tZ,kQ,Og,anp⟩:=dp (cx:=cp-(q:Int).toNat) aH lh CH (by omega) s4;have U2:∀j,bL A4=some j->t.heap.size<=j:=λj hj=>(Row.bX lh hj).1;have k5':Kept Nil t u5:=Kept.dY k4' Og U2;have Ji:=Vt.same k5';refine⟨A5,_,c5,u5,tZ,Ji.wrx (by omega),?_⟩;have oY:M.take q++ [z]++M.drop q=M.take q++z::M.drop q:=by simp
   have Bq:(M.take q++z::M.drop q).length=n+1:=by simp;omega
   rw [oY]at kQ;have e5:q+1+(n-(q:Int).toNat)=n+1:=by omega
   rw [e5]at kQ⊢;have Iz:∀j,bL A5=some j->t.heap.size<=j:=λj hj=>(Row.bX kQ hj).1;have ks:=Ji.Q4 33 (.slice A5 (n+1) c5);have Vf:VJ (u5.setCell ((⟨xb,0,none⟩:Addr).add 33) (.slice A5 (n+1) c5)) B0 xb rb ⟨s,G.score s+1,M.take q++z::M.drop q,[]⟩ A5 (n+1) c5 none 0 0 W nw cw wd:=by
    have xB:=Ji.xB;refine⟨?_,?_,Row.aN Ji.bl ks (λj hj=>by cases hj),Row.aN Ji.wr ks (λj hj e=>by have:=(Row.bX Ji.wr hj).1;omega),ks.heap Ji.box Ji.xr.symm,λj hj e=>(by cases e),λj hj e=>?_,λj hj=>(by cases hj),Ji.xB,Ji.rB,Ji.xr⟩
    ·rw [bO,dL Ji.top]
     have:=tg ⟨s,G.score s+1,M,[]⟩ A n cp none 0 0 #[] A5 (n+1) c5;rw [Array.append_empty,Array.append_empty]at this;rw [this];rfl
    ·have Xk:bY u5 B0 A5 (n+1) c5 (M.take q++z::M.drop q):=Row.base kQ (λj hj=>by have:=Iz j hj;omega)
     exact Row.aN Xk ks (λj hj e=>by have:=Iz j hj;omega)
    ·obtain⟨_,cur,hc⟩:=Row.bX Vt.wr e
     have:=bt hc;have:=Iz j hj;omega
   generalize u5.setCell ((⟨xb,0,none⟩:Addr).add 33) (.slice A5 (n+1) c5)=u6 at ks Vf⊢;obtain⟨s1,e1,e2,e3⟩:=next Vf (Ub Ie KJ xx) (λz'=>by
    rw [Ff,List.mem_append (s:=all.take i),List.mem_singleton];have hM2:z'∈M.take q++z::M.drop q↔z'=z\/z'∈M:=by
     rw [List.mem_append,List.mem_cons];constructor
     ·rintro(h|h|h)
      ·exact .inr (List.mem_of_mem_take h)
      ·exact .inl h
      ·exact .inr (List.mem_of_mem_drop h)
     ·rintro(h|h)
      ·exact .inr (.inl h)
      ·rw [<-List.take_append_drop q M,List.mem_append]at h
       exact h.imp (λh=>h) (λh=>.inr h)
    rw [hM2,jx];constructor
    ·rintro(rfl|⟨a,b⟩)
     ·exact⟨.inr rfl,Gs,hzA⟩
     ·exact⟨.inl a,b⟩
    ·rintro⟨a|rfl,b⟩
     ·exact .inr ⟨a,b⟩
     ·exact .inl rfl) ((Wj.trans k5' (λ_ _ h=>h.elim)).tt ks)
   rw [e1];exact⟨s1,rfl,e2,e3⟩
  intro w6;have k6:Kept Nil u w6:=(Kept.refl _ _).drew;clear_value w6;have Ni:=ku.tt k6;have V6:=V5.same Ni;have Uu:=xm.trans Ni (λ_ _ h=>h.elim);refine Split.dec (λkW=>?_) (λCK=>?_)
  ·have Xz:0<q:=by omega
   obtain⟨y1,Nz⟩:∃y1,M[q-1]? =some y1:=⟨_,List.getElem?_eq_getElem (by omega)⟩;have Pz:=List.mem_of_getElem? Nz;rw [wN (x:=(q:Int)-1) (i:=q-1) (by omega) (by omega)];refine⟨z.1,⟨z.2.1,Cells.bX (Ni.heap o9 (λh=>h))⟩,A,n,cp,V6.f33,(bY.hs V6.mg).load (i:=((q-1:Nat):Int)) (by omega) (by rw [Int.toNat_natCast];exact Nz) ?_⟩;refine mI (hR Uu) (by omega) RY (hMi y1 Pz) λw7 k7=>⟨_,rfl,?_⟩;have Rv:=Ni.tt k7;refine Split.mk (λhc=>?_) (λhc=>?_)
   ·refine⟨((q-1:Nat):Int),rfl,⟨q-1,rfl,by omega,λz' Bm=>?_,Rv⟩,by simp only;omega⟩
    have hd:M.drop (q-1)=y1::M.drop q:=by
     obtain⟨h1,h2⟩:=lgeS Nz;rw [List.drop_eq_getElem_cons h1,h2,show q-1+1=q by omega]
    rw [hd]at Bm;rcases List.mem_cons.1 Bm with rfl|Bm
    ·exact hc
    ·exact xx z' Bm
   ·rw [bg,af.lA]
    refine xw Rv λz' Bm=>?_;have Gt:gl G y1 z=true:=by
     cases hg:gl G y1 z
     ·exact absurd (ml hc hg) (λe=>hzM (by rw [e];exact Pz))
     ·rfl
    obtain⟨j,hj⟩:=List.mem_iff_getElem?.1 Bm;rw [List.getElem?_take]at hj;split at hj
    ·rename_i hjq
     by_cases e:j=q-1
     ·subst e;rw [Nz]at hj;cases hj;exact Gt
     ·obtain⟨a1,a2⟩:=lgeS hj
      obtain⟨b1,b2⟩:=lgeS Nz;have:=List.pairwise_iff_getElem.1 Ie j (q-1) a1 b1 (by omega);rw [a2,b2]at this;exact mi this Gt
    ·cases hj
  ·rw [bg,af.lA]
   have Xz:q=0:=by omega
   refine xw Ni λz' Bm=>?_;rw [Xz]at Bm;simp at Bm
 ·rw [bg,af.dJ]
  rw [List.take_of_length_le (by omega)]at jx;exact hK v A n cp M (i:Int) Ie jx Vv kv
end
section
variable{w w':World}{F F' S:Nat->Prop}{r x k:Nat}{G:GS}{K:Value->World->Prop}{xb rb sb n cx:Nat}{A:Option Addr}{s:HT}{l:List HT}
theorem QU{v:World}(h:R3 v F r x k G)(hD:G.D.length<=300)(pJ:k<=1000)(hs:s∈ids G.D)(hl:HS v A n l)(hn:n<=5000)(gD:∀z∈l,z∈ids G.D)(jD:∀j,(j=r\/j=x\/F j)->j≠xb/\j≠rb)
 (Jb:v.heap[sb]? =some (.cells s.1 ai (0,0))) (Ii:v.heap[rb]? =some (.cells zC bT (0,0))) (I9:v.heap[xb]? =some (.cells (dI ⟨s,G.score s+1,[],[]⟩ none 0 0 none 0 0) bT (0,0))) (UI:sb≠xb) (hrx:xb≠rb)
 (hK:∀u A n cp E e ce W nw cw,bY u v.heap.size A n cp (dE k G s l).merge->Row u v.heap.size jW 1 E e ce (uX (dE k G s l).gZ)->bY u v.heap.size W nw cw (iO k G s l).wd->Kept (λj=>j=xb\/j=rb) v u->K (.tuple #[.agg (dI (dE k G s l) A n cp E e ce),.slice W nw cw]) u):
 af.J1 (some ⟨r,0,none⟩) A n cx ⟨sb,0,none⟩ ⟨rb,0,none⟩ none 0 0 ⟨xb,0,none⟩ K v:=by
 have W0:=h.iN.W;have lsb:=bt Jb;have lrb:=bt Ii;have lxb:=bt I9;have hwl:=ux h.iN hs;have j2:∀ {u:World} {W:Option Addr} {nw cw:Nat},bY u v.heap.size W nw cw (G.world s++ [s])->Kept Nil v u->af.J2 (some ⟨r,0,none⟩) A n cx ⟨sb,0,none⟩ ⟨rb,0,none⟩ none 0 0 ⟨xb,0,none⟩ W nw cw K u:=by
  intro u W nw cw ack ku;have hu:=h.same ku;have su:=ku.size;unfold af.J2;refine Is.mk rfl ⟨_,hu.c1,Is.mk rfl ?_⟩;rw [add_zero];refine BZ hu.X.gr W0 (by omega) (hl.same ku) (by omega) λA1 c1 w1 nv k1=>⟨A1,_,c1,rfl,?_⟩;have rZ:(fI G.D l).length<=300:=Nat.le_trans (mP _ _) hD;have s1:=k1.size;have HZ:=ku.tt k1;obtain⟨A2,c2,w2,lj,iU,g2,_⟩:=dp aH nv (cx:=cx) (hl.same HZ) (by omega) s1;have k2:Kept Nil u w2:=Kept.dY k1 g2 (λj hj=>(Row.bX nv hj).1);refine⟨A2,_,c2,w2,lj,?_⟩;refine og iU.hs (by omega) λA3 c3 w3 oR k3=>⟨A3,_,c3,rfl,?_⟩;have Pj:=k2.tt k3;have tU:=ku.tt Pj;have h3:=h.same tU;have dr:∀z∈dP (fI G.D l++l),z∈ids G.D:=λz hz=>by
   rcases List.mem_append.1 (dU.1 hz)with hz|hz
   ·exact(iX.1 hz).1
   ·exact gD z hz
  have V3:VJ w3 v.heap.size xb rb ⟨s,G.score s+1,[],[]⟩ none 0 0 none 0 0 W nw cw (G.world s++ [s]):=
   ⟨tU.heap I9 (λh=>h),bY.nil _ _,Row.nil _ _ _ _,Row.aN ack Pj (λ_ _ h=>h),tU.heap Ii (λh=>h),λj hj=>(by cases hj),λj hj=>(by cases hj),λj hj=>(by cases hj),lxb,lrb,hrx⟩
  have s3:=tU.size;refine Hf h3 (by omega) (by omega) (λj hj=>(jD j hj).1) hs (tU.heap Jb (λh=>h)) UI oR.hs (λa ha e=>by
   subst ha;have:=(Row.bX oR (k:=a.block) rfl).1;have:=(ku.tt k2).size;omega) (jL _) dr V3 λt A n cp M i Ie jx Vt kt=>?_
  have hM:M=cZ G s l:=uK Ie λz=>by
   rw [jx];unfold uJ;rw [List.mem_filter,decide_eq_true_eq]
  subst hM;have ht:=h3.aN kt (jD r (.inl rfl)).1 (jD x (.inr (.inl rfl))).1 (λj hj=>(jD j (.inr (.inr hj))).1);have st:=kt.size;refine He (B0:=v.heap.size) ht (by omega) pJ (by omega) (λj hj=>⟨?_,jD j hj⟩) (λz hz=>?_) hs Vt λt2 E e ce W nw cw V2 I8=>?_
  ·rcases hj with rfl|rfl|hj
   ·exact h.lt
   ·exact h.lx
   ·exact h.lo j hj
  ·exact dr z ((jx z).1 hz).1
  ·have box:=V2.box
   obtain⟨_,_,f3⟩:=hU box (cs:=dI (dE k G s l) A n cp E e ce) (by rw [bR];rfl);refine hK _ A n cp E e ce W nw cw (Row.aN V2.mg f3 (λj hj e=>by have:=(Row.bX V2.mg hj).1;omega)) (Row.aN V2.bl f3 (λj hj e=>by have:=(Row.bX V2.bl hj).1;omega)) (Row.aN V2.wr f3 (λj hj e=>by have:=(Row.bX V2.wr hj).1;omega)) ?_;exact((tU.mono λ_ _ h=>h.elim).trans kt (λj hj e=>.inl e)).trans I8 (λj hj e=>by
    rcases e with e|e|e
    ·exact .inl e
    ·exact .inr e
    ·omega)
 unfold af.J1;intro w1;have k1:Kept Nil v w1:=(Kept.refl _ _).drew;clear_value w1;have h1:=h.same k1;obtain⟨i,nd,cl,wl,q1,q2,q3,q4,q5,q6,q7,q8⟩:=QG h.iN hs;obtain⟨A0,c0,B,e,g1,g2,g3⟩:=h.top;have cB:∀ {u:World},Kept Nil v u->u.cell? ((⟨r,0,none⟩:Addr).add 3)=some (.slice B G.D.length e):=λku=>by rw [bO,aI (ku.heap g1 (λh=>h))];rfl
 have gW:∀ {u:World},Kept Nil v u->rM u F B G.D.length G.lW:=λku=>g3.aN ku (λ_ _ h=>h);obtain⟨aB,Aw,nw,cw,p1,p2,p3,p4,p5,p6⟩:=g3.at_ i wl q4;subst p1;have alD:wl.length=nw:=p5.len;rw [q7]at hwl;have cW:∀ {u:World},Kept Nil v u->u.cell? (aB.add (((i:Nat):Int).toNat*1))=some (.slice Aw nw cw):=λku=>by rw [Int.toNat_natCast];exact ku.cell p4 (λh=>h)
 have hW:∀ {u:World},Kept Nil v u->HS u Aw nw wl:=λku=>p5.same ku;have bx:∀ {u:World},Kept Nil v u->∃cs:Array Value,(.agg s.1:Value)=.agg cs/\cs.size=32/\Cells u ⟨sb,0,none⟩ cs:=λku=>⟨_,rfl,s.2.1,Cells.bX (ku.heap Jb (λh=>h))⟩;have T6:∀ {u:World},Kept Nil v u->∃A' c' u',(Builtin.append_ #[aH,aH] aH #[.slice none 0 0,.slice Aw nw cw]).run prog u=.ok (.slice A' nw c') u'/\bY u' v.heap.size A' nw c' wl/\Kept Nil u u':=λ{u} ku=>by
  obtain⟨A',c',u',hr,row,hg,_⟩:=dp (cx:=cw) aH (bY.nil u v.heap.size) (hW ku) (by omega) ku.size;rw [Nat.zero_add]at hr row;rw [List.nil_append]at row;exact⟨A',c',u',hr,row,Kept.dY (Kept.refl _ _) hg (λj hj=>by cases hj)⟩
 have T5:∀ {u:World} {A':Option Addr} {c' bq:Nat},Kept Nil v u->bY u v.heap.size A' nw c' wl->HS u (some ⟨bq,0,none⟩) 1 [s]->∃A2 c2 u',(Builtin.append_ #[aH,aH] aH #[.slice A' nw c',.slice (some ⟨bq,0,none⟩) 1 1]).run prog u=.ok (.slice A2 (nw+1) c2) u'/\bY u' v.heap.size A2 (nw+1) c2 (G.world s++ [s])/\Kept Nil v u':=λ{u A' c' bq} ku row hx=>by
  obtain⟨A2,c2,u',hr,iU,hg,_⟩:=dp (cx:=1) aH row hx (by omega) ku.size;rw [<-q7]at iU;exact⟨A2,c2,u',hr,iU,Kept.dY ku hg (λj hj=>(Row.bX row hj).1)⟩
 refine Is.mk rfl ⟨some aB,_,e,cB k1,Is.mk rfl ⟨_,h1.c1,Is.mk rfl ⟨s.1,⟨s.2.1,Cells.bX (k1.heap Jb (λh=>h))⟩,s.1,⟨s.2.1,Cells.bX (k1.heap Jb (λh=>h))⟩,?_,?_⟩⟩⟩
 ·rw [add_zero]
  refine pR h1.X.gr (by omega) s λw2 k2=>⟨_,rfl,?_⟩;have Bj:=k1.tt k2;rw [q5];refine⟨bx Bj,cB Bj,⟨by omega,by omega⟩,Is.mk rfl ⟨Aw,nw,cw,cW Bj,?_,?_⟩⟩
  ·obtain⟨A1,c1,w3,yF,oR,k3⟩:=T6 Bj
   have tU:=Bj.tt k3;refine⟨A1,nw,c1,w3,yF,bx tU,s.2.1,?_⟩;intro w4;have k4:Kept Nil w3 w4:=(Kept.refl _ _).alloc _;have W2:=jy w3 s;obtain⟨A2,c2,w5,tZ,kQ,k5⟩:=T5 (tU.tt k4) (Row.aN oR k4 (λ_ _ h=>h)) W2;exact⟨A2,nw+1,c2,w5,tZ,af.sG (j2 kQ k5)⟩
  ·refine⟨s.2.1,?_⟩
   intro w3;have k3:Kept Nil w2 w3:=(Kept.refl _ _).alloc _;have wc:HS w3 (some ⟨w2.heap.size,0,none⟩) 1 [s]:=jy w2 s;clear_value w3;have tU:=Bj.tt k3;obtain⟨A1,c1,w4,zE,lh,k4⟩:=T6 tU;obtain⟨A2,c2,w5,tZ,kQ,k5⟩:=T5 (tU.tt k4) lh (wc.same k4);exact⟨cW tU,cB tU,A1,nw,c1,w4,zE,A2,nw+1,c2,w5,tZ,af.sG (j2 kQ k5)⟩
 ·refine⟨s.2.1,?_⟩
  intro w2;have k2:Kept Nil w1 w2:=(Kept.refl _ _).alloc _;have Dx:HS w2 (some ⟨w1.heap.size,0,none⟩) 1 [s]:=jy w1 s;clear_value w2;have Bj:=k1.tt k2;refine⟨bx Bj,(h.same Bj).c1,cB Bj,?_⟩;rw [add_zero];refine pR (h.same Bj).X.gr (by omega) s λw3 k3=>⟨_,rfl,?_⟩;have tU:=Bj.tt k3;rw [q5];obtain⟨A1,c1,w4,zE,lh,k4⟩:=T6 tU;obtain⟨A2,c2,w5,tZ,kQ,k5⟩:=T5 (tU.tt k4) lh ((Dx.same k3).same k4);exact⟨cB tU,⟨by omega,by omega⟩,Is.mk rfl ⟨Aw,nw,cw,cW tU,A1,nw,c1,w4,zE,A2,nw+1,c2,w5,tZ,af.sG (j2 kQ k5)⟩⟩
theorem oS(h:R3 w F r x k G)(hD:G.D.length<=300)(pJ:k<=1000)(hs:s∈ids G.D)(hl:HS w A n l)(hn:n<=5000)(gD:∀z∈l,z∈ids G.D)
 (hK:∀u A n cp E e ce W nw cw,bY u w.heap.size A n cp (dE k G s l).merge->Row u w.heap.size jW 1 E e ce (uX (dE k G s l).gZ)->bY u w.heap.size W nw cw (iO k G s l).wd->Kept Nil w u->K (.tuple #[.agg (dI (dE k G s l) A n cp E e ce),.slice W nw cw]) u):
 bJ prog af.id #[.pointer (some ⟨r,0,none⟩),.agg s.1,.slice A n cx] w K:=by
 refine af.of ?_;unfold af.W;intro w1 w2 w3;have k1:Kept Nil w w1:=(Kept.refl _ _).alloc _;have vN:w1.heap[w.heap.size]? =some (.cells s.1 ai (0,0)):=aO w _;have k2:Kept Nil w1 w2:=(Kept.refl _ _).alloc _;have lj:w2.heap[w1.heap.size]? =some (.cells zC bT (0,0)):=aO w1 _;have k3:Kept Nil w2 w3:=(Kept.refl _ _).drew;clear_value w3;have yF:=k3.heap lj (λh=>h);have vy:=k3.heap (k2.heap vN (λh=>h)) (λh=>h);have jH:=(k1.tt k2).tt k3;have s1:=k1.size;have l1:=bt vN;have l2:=bt yF;clear_value w2 w1;have Gu:=BO h.iN hs;have ew:u64.wrap ((G.score s:Int)+(1:Int))=((G.score s+1:Nat):Int):=by
  rw [show(G.score s:Int)+1=((G.score s+1:Nat):Int)by omega];exact lF (by omega)
 have IG:(s.1++ #[.int .u64 ((G.score s+1:Nat):Int),.slice none 0 0,.slice none 0 0]:Array Value)=dI ⟨s,G.score s+1,[],[]⟩ none 0 0 none 0 0:=rfl;have go:∀ {u:World} {xb:Nat},Kept Nil w3 u->w3.heap.size<=xb->u.heap[xb]? =some (.cells (dI ⟨s,G.score s+1,[],[]⟩ none 0 0 none 0 0) bT (0,0))->af.J1 (some ⟨r,0,none⟩) A n cx ⟨w.heap.size,0,none⟩ ⟨w1.heap.size,0,none⟩ none 0 0 ⟨xb,0,none⟩ K u:=λ{u xb} ku hx I9=>by
  have Mf:=jH.tt ku;have s0:=jH.size;refine QU (h.same Mf) hD pJ hs (hl.same Mf) hn gD (λj hj=>?_) (ku.heap vy (λh=>h)) (ku.heap yF (λh=>h)) I9 (by omega) (by omega) λt A n cp E e ce W nw cw g1 g2 g3 g4=>?_
  ·have:j<w.heap.size:=by
    rcases hj with rfl|rfl|hj
    ·exact h.lt
    ·exact h.lx
    ·exact h.lo j hj
   exact⟨by omega,by omega⟩
  ·have s0u:=Mf.size
   exact hK t A n cp E e ce W nw cw (Row.base g1 (λj hj=>by have:=(Row.bX g1 hj).1;omega)) (Row.base g2 (λj hj=>by have:=(Row.bX g2 hj).1;omega)) (Row.base g3 (λj hj=>by have:=(Row.bX g3 hj).1;omega)) (Mf.trans g4 (λj hj e=>by rcases e with e|e<;>omega))
 have bx:∀ {u:World},Kept Nil w3 u->∃cs:Array Value,(.agg s.1:Value)=.agg cs/\cs.size=32/\Cells u ⟨w.heap.size,0,none⟩ cs:=λku=>⟨_,rfl,s.2.1,Cells.bX (ku.heap vy (λh=>h))⟩;refine⟨s.1,⟨s.2.1,Cells.bX vy⟩,s.1,⟨s.2.1,Cells.bX vy⟩,?_,?_⟩
 ·refine mf (h.same jH) (by omega) hs λw4 k4=>⟨_,rfl,bx k4,?_⟩
  rw [ew,xV s];refine Is.mk rfl ?_;rw [IG];intro w5;have k5:Kept Nil w4 w5:=(Kept.refl _ _).alloc _;have UF:w5.heap[w4.heap.size]? =some (.cells zC bT (0,0)):=aO w4 _;clear_value w5;have nA:=k4.tt k5;obtain⟨t1,t2,t3⟩:=hU UF (cs:=dI ⟨s,G.score s+1,[],[]⟩ none 0 0 none 0 0) (by rw [bR];rfl);refine⟨bx nA,⟨bR ..,gv _ _ _ _ _ _ _,λj hj=>t1 j (by rw [bR];exact hj)⟩,?_⟩;have s4:=k4.size;exact af.lR (go (nA.trans t3 (λj hj e=>by omega)) s4 t2)
 ·intro w4
  have k4:Kept Nil w3 w4:=(Kept.refl _ _).alloc _;have W2:w4.heap[w3.heap.size]? =some (.cells zC bT (0,0)):=aO w3 _;clear_value w4;refine⟨bx k4,bx k4,?_⟩;refine mf (h.same (jH.tt k4)) (by omega) hs λw5 k5=>⟨_,rfl,bx (k4.tt k5),?_⟩;have nA:=k4.tt k5;rw [ew,xV s];refine Is.mk rfl ?_;rw [IG];obtain⟨t1,t2,t3⟩:=hU (k5.heap W2 (λh=>h)) (cs:=dI ⟨s,G.score s+1,[],[]⟩ none 0 0 none 0 0) (by rw [bR];rfl);refine⟨⟨bR ..,gv _ _ _ _ _ _ _,λj hj=>t1 j (by rw [bR];exact hj)⟩,?_⟩;exact af.lR (go (nA.trans t3 (λj hj e=>by omega)) (Nat.le_refl _) t2)
end
theorem FY:Bu prog vX bT 35 88:=⟨by kernel_rfl,by kernel_rfl⟩
theorem Vy:Bu prog gV aH 1 24:=⟨by kernel_rfl,by kernel_rfl⟩
section
variable{w w':World}{F F' S:Nat->Prop}{A:Option Addr}{n c B m bytes:Nat}{tS tE:TypeId}{news:List Value}
theorem BN{a:Addr}(P:Nat->Array Value->Prop):∀n,(∀i,i<n->∃arr:Array Value,arr.size=m/\(∀u∈arr.toList,u.oneCell'=true)/\Cells w (a.add (i*m)) arr/\P i arr)->
 ∃news:List Value,news.length=n*m/\(∀j u,news[j]? =some u->w.cell? (a.add j)=some u)/\(∀u∈news,u.oneCell'=true)/\∀i,i<n->∃arr:Array Value,P i arr/\arr.size=m/\∀(j:Nat) v,arr[j]? =some v->news[i*m+j]? =some v
 |0,_=>⟨[],by simp,λj u h=>by simp at h,λu h=>by simp at h,λi h=>by omega⟩
 |n+1,H=>by
  obtain⟨news,h1,h2,h3,h4⟩:=BN P n λi hi=>H i (by omega);obtain⟨arr,g1,g2,g3,g4⟩:=H n (by omega);refine⟨news++arr.toList,by rw [List.length_append,h1,Array.length_toList,g1,Nat.add_mul,Nat.one_mul],λj u hj=>?_,λu hu=>?_,λi hi=>?_⟩
  ·rw [List.getElem?_append]at hj
   split at hj
   ·exact h2 j u hj
   ·rename_i gE
    rw [h1]at hj gE;have:=g3 (j-n*m) u (by simpa using hj)
    rwa [mZ,show n*m+(j-n*m)=j by omega]at this
  ·rcases List.mem_append.1 hu with hu|hu
   ·exact h3 u hu
   ·exact g2 u hu
  ·by_cases gD:i<n
   ·obtain⟨ar,q1,q2,q3⟩:=h4 i gD
    exact⟨ar,q1,q2,λj v hj=>by
     have:=q3 j v hj;rw [List.getElem?_append_left (lgeS this).1];exact this⟩
   ·obtain rfl:i=n:=by omega
    exact⟨arr,g4,g1,λj v hj=>by
     rw [List.getElem?_append_right (by omega),h1,show i*m+j-i*m=j by omega,Array.getElem?_toList];exact hj⟩
theorem Bc(T:Bu prog tS tE m bytes)(hb:bytes<=1000)(hn:n<=100000){a:Addr}{cx:Nat}(P:Nat->Array Value->Prop)(H:∀i,i<n->∃arr:Array Value,arr.size=m/\(∀u∈arr.toList,u.oneCell'=true)/\Cells w (a.add (i*m)) arr/\P i arr):
 ∃A' c' w' news,(Builtin.append_ #[tS,tS] tS #[.slice none 0 0,.slice (some a) n cx]).run prog w=.ok (.slice A' n c') w'/\Row w' w.heap.size tE m A' n c' news/\Kept Nil w w'/\∀i,i<n->∃arr:Array Value,P i arr/\arr.size=m/\∀(j:Nat) v,arr[j]? =some v->news[i*m+j]? =some v:=by
 obtain⟨news,e1,e2,e3,e4⟩:=BN (w:=w) (m:=m) P n H;obtain⟨A',c',w',hr,gL,hg,_⟩:=gU (P:=prog) (ty:=tS) T (Row.nil w w.heap.size _ _) (a:=a) (m:=n) (cx:=cx) (news:=news) e1 e2 e3 (by rw [Nat.zero_add];have:=Nat.mul_le_mul hn hb;omega) (by unfold maxLen;omega) (Nat.le_refl _);rw [Nat.zero_add]at hr gL;rw [List.nil_append]at gL;exact⟨A',c',w',news,hr,gL,Kept.dY (Kept.refl _ _) hg (λj hj=>by cases hj),e4⟩
theorem Bb(T:Bu prog tS tE m bytes)(hb:bytes<=1000)(hn:n<=100000)(h:Row w B tE m A n c news)(hB:B<=w.heap.size){b:Nat}{arr:Array Value}{t:TypeId}(ly:w.heap[b]? =some (.cells arr t (0,0)))(hs:arr.size=m)(h1:∀u∈arr.toList,u.oneCell'=true):
 ∃A' c' w',(Builtin.append_ #[tS,tS] tS #[.slice A n c,.slice (some ⟨b,0,none⟩) 1 1]).run prog w=.ok (.slice A' (n+1) c') w'/\Row w' B tE m A' (n+1) c' (news++arr.toList)/\w.grownBy w' (bL A):=by
 obtain⟨A',c',w',hr,gL,hg,_⟩:=gU (P:=prog) (ty:=tS) T h (a:=⟨b,0,none⟩) (m:=1) (cx:=1) (news:=arr.toList) (by simpa using hs)
  (λj u hj=>by rw [bO,Nat.zero_add,aI ly];simpa using hj) h1 (by have:=Nat.mul_le_mul (show n+1<=100001 by omega) hb;omega) (by unfold maxLen;omega) hB
 exact⟨A',c',w',hr,gL,hg⟩
def LZ(w:World)(F:Nat->Prop)(l:List qF)(i:Nat)(arr:Array Value):Prop:=∃x A1 n1 c1 B1 m1 d1,l[i]? =some x/\arr=dI x A1 n1 c1 B1 m1 d1/\HS w A1 n1 x.merge/\Bo w B1 m1 x.gZ/\(∀b,A1=some b->F b.block)/\(∀b,B1=some b->F b.block)
def Ua(w:World)(F:Nat->Prop)(l:List (List HT))(i:Nat)(arr:Array Value):Prop:=∃x A1 n1 c1,l[i]? =some x/\arr= #[.slice A1 n1 c1]/\HS w A1 n1 x/\(∀b,A1=some b->F b.block)
theorem tu.BN{l:List qF}(h:tu w F A n l):(0<n->∃a,A=some a)/\∀a,A=some a->∀i,i<n->∃arr:Array Value,arr.size=35/\(∀u∈arr.toList,u.oneCell'=true)/\Cells w (a.add (i*35)) arr/\LZ w F l i arr:=by
 have hl:=h.len;refine⟨λh0=>?_,λa ha i hi=>?_⟩
 ·obtain⟨x,hx⟩:∃x,l[0]? =some x:=⟨_,List.getElem?_eq_getElem (by omega)⟩
  obtain⟨a,_,_,_,_,_,_,g1,_⟩:=h.at_ 0 x hx;exact⟨a,g1⟩
 ·obtain⟨x,hx⟩:∃x,l[i]? =some x:=⟨_,List.getElem?_eq_getElem (by omega)⟩
  obtain⟨a',A1,n1,c1,B1,m1,d1,g1,g2,g3,g4,g5,g6,g7,g8⟩:=h.at_ i x hx;rw [ha]at g1;cases g1;exact⟨_,bR ..,gv _ _ _ _ _ _ _,g4,x,A1,n1,c1,B1,m1,d1,hx,rfl,g5,g6,g7,g8⟩
theorem rM.BN{l:List (List HT)}(h:rM w F A n l):(0<n->∃a,A=some a)/\∀a,A=some a->∀i,i<n->∃arr:Array Value,arr.size=1/\(∀u∈arr.toList,u.oneCell'=true)/\Cells w (a.add (i*1)) arr/\Ua w F l i arr:=by
 have hl:=h.len;refine⟨λh0=>?_,λa ha i hi=>?_⟩
 ·obtain⟨x,hx⟩:∃x,l[0]? =some x:=⟨_,List.getElem?_eq_getElem (by omega)⟩
  obtain⟨a,_,_,_,g1,_⟩:=h.at_ 0 x hx;exact⟨a,g1⟩
 ·obtain⟨x,hx⟩:∃x,l[i]? =some x:=⟨_,List.getElem?_eq_getElem (by omega)⟩
  obtain⟨a',A1,n1,c1,g1,g2,g3,g4,g5,g6⟩:=h.at_ i x hx;rw [ha]at g1;cases g1;refine⟨#[.slice A1 n1 c1],rfl,λu hu=>?_,λj u hj=>?_,x,A1,n1,c1,hx,rfl,g5,g6⟩
  ·simp at hu;subst hu;rfl
  ·cases j with
   |zero=>simp at hj;subst hj;rw [add_zero];exact g4
   |succ j=>simp at hj
theorem tu.snoc{l:List qF}{x:qF}{A1 B1:Option Addr}{n1 c1 m1 d1:Nat}{w0:World}(h:Row w B bT 35 A (n+1) c (news++(dI x A1 n1 c1 B1 m1 d1).toList))(Bq:news.length=n*35)(hl:l.length=n)(k0:Kept Nil w0 w)(hF:∀j,bL A=some j->F' j)(hFF:∀j,F j->F' j)
 (hc:∀i,i<n->∃arr:Array Value,LZ w0 F l i arr/\arr.size=35/\∀(j:Nat) v,arr[j]? =some v->news[i*35+j]? =some v)
 (g1:HS w A1 n1 x.merge) (g2:Bo w B1 m1 x.gZ) (g3:∀b,A1=some b->F' b.block) (g4:∀b,B1=some b->F' b.block):tu w F' A (n+1) (l++ [x]):=by
 refine⟨by simp [hl],λi y hi=>?_⟩;obtain⟨b,rfl⟩:=Row.some h (by omega);obtain⟨_,cur,o5⟩:=Row.bX h (k:=b) rfl;rw [List.getElem?_append]at hi;split at hi
 ·rename_i dD
  obtain⟨arr,⟨y',A2,n2,c2,B2,m2,d2,q1,rfl,q3,q4,q5,q6⟩,q7,q8⟩:=hc i (by omega);rw [hi]at q1;cases q1;exact⟨_,A2,n2,c2,B2,m2,d2,rfl,bt o5,hF b rfl,λj v hj=>by
   rw [mZ];have:=q8 j v hj;exact Row.cells h _ _ (by rw [List.getElem?_append_left (lgeS this).1];exact this),q3.same k0,q4.same k0,λb hb=>hFF _ (q5 b hb),λb hb=>hFF _ (q6 b hb)⟩
 ·rename_i gE
  have Iq:i=n/\y=x:=by
   cases hk:i-l.length with
   |zero=>rw [hk]at hi;exact⟨by omega,by simpa using hi.symm⟩
   |succ k=>rw [hk]at hi;simp at hi
  obtain⟨rfl,rfl⟩:=Iq;exact⟨_,A1,n1,c1,B1,m1,d1,rfl,bt o5,hF b rfl,λj v hj=>by
   rw [mZ];exact Row.cells h _ _ (by rw [List.getElem?_append_right (by omega),Bq,show i*35+j-i*35=j by omega,Array.getElem?_toList];exact hj),g1,g2,g3,g4⟩
theorem rM.snoc{l:List (List HT)}{x:List HT}{A1:Option Addr}{n1 c1:Nat}{w0:World}(h:Row w B aH 1 A (n+1) c (news++(#[.slice A1 n1 c1]:Array Value).toList))(Bq:news.length=n*1)(hl:l.length=n)(k0:Kept Nil w0 w)(hF:∀j,bL A=some j->F' j)(hFF:∀j,F j->F' j)
 (hc:∀i,i<n->∃arr:Array Value,Ua w0 F l i arr/\arr.size=1/\∀(j:Nat) v,arr[j]? =some v->news[i*1+j]? =some v)
 (g1:HS w A1 n1 x) (g3:∀b,A1=some b->F' b.block):rM w F' A (n+1) (l++ [x]):=by
 refine⟨by simp [hl],λi y hi=>?_⟩;obtain⟨b,rfl⟩:=Row.some h (by omega);obtain⟨_,cur,o5⟩:=Row.bX h (k:=b) rfl;rw [List.getElem?_append]at hi;split at hi
 ·rename_i dD
  obtain⟨arr,⟨y',A2,n2,c2,q1,rfl,q3,q4⟩,q7,q8⟩:=hc i (by omega);rw [hi]at q1;cases q1;have:=q8 0 _ rfl;exact⟨_,A2,n2,c2,rfl,bt o5,hF b rfl,Row.cells h _ _ (by rw [Nat.add_zero]at this;rw [List.getElem?_append_left (lgeS this).1];exact this),q3.same k0,λb hb=>hFF _ (q4 b hb)⟩
 ·rename_i gE
  have Iq:i=n/\y=x:=by
   cases hk:i-l.length with
   |zero=>rw [hk]at hi;exact⟨by omega,by simpa using hi.symm⟩
   |succ k=>rw [hk]at hi;simp at hi
  obtain⟨rfl,rfl⟩:=Iq;exact⟨_,A1,n1,c1,rfl,bt o5,hF b rfl,Row.cells h _ _ (by rw [List.getElem?_append_right (by omega),Bq,show i*1-i*1=0 by omega];rfl),g1,g3⟩
end
section
variable{w w':World}{F:Nat->Prop}{r x k:Nat}{G:GS}{K:Value->World->Prop}
theorem Ai(root:HT)(k:Nat)(hK:∀v r x F,R3 v F r x k (fH root)->(∀j,F j->w.heap.size<=j)->w.heap.size<=r->w.heap.size<=x->Kept Nil w v->K (.pointer (some ⟨r,0,none⟩)) v):
 bJ prog lO.id #[.int .i64 (k:Int),.agg root.1] w K:=by
 refine lO.of ?_;unfold lO.W;intro w1;have k1:Kept Nil w w1:=(Kept.refl _ _).alloc _;have Bs:w1.heap[w.heap.size]? =some (.cells root.1 ai (0,0)):=aO w _;clear_value w1;refine⟨root.1,⟨root.2.1,Cells.bX Bs⟩,?_⟩;refine Ak root λw2 x FX hX hFX hx k2=>⟨_,rfl,rfl,?_⟩;have mT:=k1.tt k2;intro w3 w4 w5;have k3:Kept Nil w2 w3:=(Kept.refl _ _).alloc _;have Mv:w3.heap[w2.heap.size]? =some (.cells zC bT (0,0)):=aO w2 _;have k4:Kept Nil w3 w4:=(Kept.refl _ _).alloc _;have hw4:w4.heap[w3.heap.size]? =some (.cells #[.slice none 0 0] aH (0,0)):=aO w3 _;have k5:Kept Nil w4 w5:=(Kept.refl _ _).alloc _;have ht5:w5.heap[w4.heap.size]? =some (.cells #[.int .i64 (k:Int),.pointer (some ⟨x,0,none⟩),.slice (some ⟨w2.heap.size,0,none⟩) 1 1,.slice (some ⟨w3.heap.size,0,none⟩) 1 1] jf (0,0)):=aO w4 _;clear_value w5;have hw5:=k5.heap hw4 (λh=>h);have hc5:=k5.heap (k4.heap Mv (λh=>h)) (λh=>h);have Kn:=(k3.tt k4).tt k5;have s02:=mT.size;have l3:=bt Mv;have l4:=bt hw4;have l5:=bt ht5;have s1:=k1.size;have s2:=k2.size;have lx:=hX.lt;clear_value w4 w3;refine hK w5 w4.heap.size x (λj=>FX j\/j=w2.heap.size\/j=w3.heap.size) ⟨⟨some ⟨w2.heap.size,0,none⟩,1,some ⟨w3.heap.size,0,none⟩,1,ht5,⟨rfl,λi y hi=>?_⟩,⟨rfl,λi y hi=>?_⟩⟩,(hX.same Kn).mono (λj e=>.inl e) (λe=>?_),λe=>?_,by omega,lM k root,λj e=>?_⟩ (λj e=>?_) (by omega) (by omega) (mT.tt Kn)
 ·cases i with
  |zero=>
   have:y=⟨gu,0,[],[]⟩:=by simpa [fH]using hi.symm
   subst this;refine⟨_,none,0,0,none,0,0,rfl,by show w2.heap.size<_;omega,.inr (.inl rfl),λj u hj=>?_,HS.nil _ _,⟨rfl,λi b h=>by simp at h⟩,λb hb=>(by cases hb),λb hb=>(by cases hb)⟩;rw [Nat.zero_mul,add_zero,bO,Nat.zero_add,aI hc5];exact hj
  |succ i=>simp [fH]at hi
 ·cases i with
  |zero=>
   have:y= []:=by simpa [fH]using hi.symm
   subst this;refine⟨_,none,0,0,rfl,by show w3.heap.size<_;omega,.inr (.inr rfl),?_,HS.nil _ _,λb hb=>(by cases hb)⟩;rw [Nat.zero_mul,add_zero,aI hw5];rfl
  |succ i=>simp [fH]at hi
 ·rcases e with e|e|e
  ·exact hX.jD e
  ·omega
  ·omega
 ·rcases e with e|e|e
  ·have:=(hFX _ e).2;omega
  ·omega
  ·omega
 ·rcases e with e|e|e
  ·have:=(hFX _ e).2;omega
  ·omega
  ·omega
 ·rcases e with e|e|e
  ·have:=(hFX _ e).1;omega
  ·omega
  ·omega
end
section
variable{w w':World}{F:Nat->Prop}{r x k:Nat}{G:GS}{K:Value->World->Prop}{A:Option Addr}{n cx:Nat}{l:List HT}
set_option maxHeartbeats 2000000 in
theorem Aj(h:R3 w F r x k G)(hD:G.D.length<=300)(pJ:k<=1000)(hl:HS w A n l)(hn:n<=5000)(id:HT)
 (hE:fg G.D id l≠0->∀w',Kept Nil w w'->K (.tuple #[.agg OO,.int .i64 (fg G.D id l)]) w')
 (hO:fg G.D id l=0->∀w' A n c B e ce,R3 w' (λj=>F j\/(w.heap.size<=j/\j<w'.heap.size)) r x k (eZ k G id l)->Kept (λj=>j=r\/j=x) w w'->HS w' A n (dE k G (cf G l) l).merge->Bo w' B e (dE k G (cf G l) l).gZ->(∀a,A=some a\/B=some a->w.heap.size<=a.block)->K (.tuple #[.agg (dI (dE k G (cf G l) l) A n c B e ce),.int .i64 0]) w'):
 bJ prog eU.id #[.pointer (some ⟨r,0,none⟩),.agg id.1,.slice A n cx] w K:=by
 have W0:=h.iN.W;have hlr:=h.lt;have P4:=h.lx;refine eU.of ?_;unfold eU.W;intro w1 w2;have k1:Kept Nil w w1:=(Kept.refl _ _).alloc _;have Oc:w1.heap[w.heap.size]? =some (.cells id.1 ai (0,0)):=aO w _;have k2:Kept Nil w1 w2:=(Kept.refl _ _).alloc _;have lj:w2.heap[w1.heap.size]? =some (.cells zC bT (0,0)):=aO w1 _;clear_value w2;have EJ:=k2.heap Oc (λh=>h);have mT:=k1.tt k2;have s1:=k1.size;have l1:=bt Oc;have l2:=bt lj;clear_value w1;have h2:=h.same mT;obtain⟨A0,c0,B0,e0,sl,g1,g2,g3,g4,g5⟩:=h2.X.ex;refine Is.mk rfl ⟨_,h2.c1,Is.mk rfl ⟨#[.slice A0 G.D.length c0],⟨rfl,λj u hj=>?_⟩,?_⟩⟩
 ·cases j with
  |zero=>simp at hj;subst hj;rw [add_zero,add_zero,aI g1];rfl
  |succ j=>simp at hj
 intro w3;have k3:Kept Nil w2 w3:=(Kept.refl _ _).alloc _;have Tf:w3.heap[w2.heap.size]? =some (.cells #[.slice none 0 0] jF (0,0)):=aO w2 _;clear_value w3;obtain⟨t1,t2,t3⟩:=hU Tf (cs:= #[.slice A0 G.D.length c0]) rfl;refine⟨⟨rfl,λu hu=>by simp at hu;subst hu;rfl,λj hj=>t1 j hj⟩,?_⟩;intro w4
 replace t2:w4.heap[w2.heap.size]? =some (.cells #[.slice A0 G.D.length c0] jF (0,0)):=t2
 replace t3:Kept (· =w2.heap.size) w3 w4:=t3
 clear_value w4;have tA:Kept Nil w2 w4:=k3.trans t3 (λj hj e=>by omega);have mD:=mT.tt tA;have s2:=mT.size;refine⟨id.1,⟨id.2.1,Cells.bX (tA.heap EJ (λh=>h))⟩,?_⟩;have hIR:vK w4 F w2.heap.size G.D:=⟨⟨A0,c0,_,_,t2,rfl,g2.same tA⟩,λe=>by have:=h.lo _ e;omega⟩;refine Ga hIR W0 (by omega) (hl.same mD) (by omega) λw5 _ k5=>⟨_,rfl,?_⟩;have Kn:Kept Nil w2 w5:=tA.trans k5 (λj hj e=>by omega);have pq:=mT.tt Kn;have tZ:=Kn.heap lj (λh=>h);have Ob:=Kn.heap EJ (λh=>h);by_cases hc:fg G.D id l≠0
 ·obtain⟨f1,f2,f3⟩:=hU tZ (cs:=zC) rfl
  refine Split.yes (by simpa using hc) ⟨⟨rfl,by show ∀u∈(OO:Array Value).toList,_;exact gv _ _ _ _ _ _ _,λj hj=>f1 j hj⟩,?_⟩;exact⟨_,⟨rfl,Cells.bX f2⟩,hE hc _ (pq.trans f3 (λj hj e=>by omega))⟩
 have hc:fg G.D id l=0:=by omega
 refine Split.no (by rw [hc];rfl) ?_;obtain⟨_,gQ,_,dr⟩:=mo hc;have gD:∀z∈l,z∈ids G.D:=λz hz=>dr z (dU.2 hz);refine vM (h.same pq) (by omega) (hl.same pq) gQ (by omega) gD λw6 k6=>⟨_,rfl,?_⟩;have H6:=Kn.tt k6;have rl:=mT.tt H6;generalize oW:cf G l=s;have Ew:s∈l:=by rw [<-oW];exact kF gQ
 intro w7;have k7:Kept Nil w6 w7:=(Kept.refl _ _).alloc _;have Le:w7.heap[w6.heap.size]? =some (.cells gu.1 ai (0,0)):=aO w6 _;clear_value w7;obtain⟨q1,q2,q3⟩:=iZ s Le rfl;refine⟨q1,?_⟩;intro w8
 replace q2:w8.heap[w6.heap.size]? =some (.cells s.1 ai (0,0)):=q2
 replace q3:Kept (· =w6.heap.size) w7 w8:=q3
 clear_value w8;have k68:Kept Nil w6 w8:=k7.trans q3 (λj hj e=>by omega);have Km:=H6.tt k68;have Bl:=mT.tt Km;have s06:=rl.size;have s08:=Bl.size;have s28:=Km.size;refine⟨s.1,⟨s.2.1,Cells.bX q2⟩,?_⟩;refine oS (h.same Bl) hD pJ (gD s Ew) (hl.same Bl) hn gD λw9 Am nm cm E e ce Wd nw cw rm rb rw9 k9=>⟨_,Wd,nw,cw,rfl,?_⟩;have Nt:=Km.tt k9;have Dv:=mT.tt Nt;have s09:=Dv.size;have s89:=k9.size;intro w10;have oV:Kept Nil w9 w10:=(Kept.refl _ _).alloc _;have afi:w10.heap[w9.heap.size]? =some (.cells zC bT (0,0)):=aO w9 _;clear_value w10;obtain⟨f1,f2,f3⟩:=hU afi (cs:=dI (dE k G s l) Am nm cm E e ce) (by rw [bR];rfl);refine⟨⟨bR ..,gv _ _ _ _ _ _ _,λj hj=>f1 j (by rw [bR];exact hj)⟩,?_⟩;intro oH nM
 replace f2:oH.heap[w9.heap.size]? =some (.cells (dI (dE k G s l) Am nm cm E e ce) bT (0,0)):=f2
 replace f3:Kept (· =w9.heap.size) w10 oH:=f3
 have yl:Kept Nil oH nM:=(Kept.refl _ _).drew;clear_value nM;have Y5:=yl.heap f2 (λh=>h);have Rx:Kept Nil w9 nM:=(oV.trans f3 (λj hj e=>by omega)).tt yl;clear_value oH;have RG:=Nt.tt Rx;have uN:=mT.tt RG;have akp:=uN.size;have akU:=bt Y5;have DB:=h.same uN;refine Is.mk rfl ⟨_,DB.c1,id.1,⟨id.2.1,Cells.bX (RG.heap EJ (λh=>h))⟩,s.1,⟨s.2.1,Cells.bX ((k9.tt Rx).heap q2 (λh=>h))⟩,?_⟩;refine HE DB.X DB.lo (by omega) (hl.same uN) (by omega) λoD ZA Cz=>⟨_,rfl,?_⟩;have eX:pE G.D id s l=(eZ k G id l).D/\pD G.D G.P id s l=(eZ k G id l).P:=by rw [<-oW];exact⟨LS.symm,LU.symm⟩
 rw [eX.1,eX.2]at ZA;intro jg;have Du:Kept Nil oD jg:=(Kept.refl _ _).drew;clear_value jg;have CB:Kept (· =x) nM jg:=Cz.trans Du (λ_ _ h=>h.elim);have Gq:Kept (· =x) w jg:=(uN.mono λ_ _ h=>h.elim).tt CB;have ahk:=CB.size;have yD:=nf (k:=k) (G:=G) (h:=id) (ps:=l) hc;rw [oW]at yD;obtain⟨A1,c1,B1,e1,p1,p2,p3⟩:=h.top;have Ri:=Gq.heap p1 h.ne;have Rh:tu jg F A1 G.D.length G.ug:=p2.aN Gq (λj hj e=>h.X.jD (by rw [<-e];exact hj));have acv:rM jg F B1 G.D.length G.lW:=p3.aN Gq (λj hj e=>h.X.jD (by rw [<-e];exact hj));have kW:=W0.pos;obtain⟨⟨a1,ha1⟩,PL⟩:=(⟨Rh.BN.1 kW,Rh.BN.2⟩:(∃a,A1=some a)/\_);subst ha1;have Ts:=CB.heap Y5 (by omega);have adS:=CB.heap (RG.heap lj (λh=>h)) (by omega);have bm:∀j,bL Am=some j->w8.heap.size<=j/\j<w9.heap.size:=λj hj=>by obtain⟨z1,cur,z2⟩:=Row.bX rm hj;exact⟨z1,bt z2⟩
 have bb:∀j,bL E=some j->w8.heap.size<=j/\j<w9.heap.size:=λj hj=>by obtain⟨z1,cur,z2⟩:=Row.bX rb hj;exact⟨z1,bt z2⟩
 have bw:∀j,bL Wd=some j->w8.heap.size<=j/\j<w9.heap.size:=λj hj=>by obtain⟨z1,cur,z2⟩:=Row.bX rw9 hj;exact⟨z1,bt z2⟩
 have Nj:Kept (· =x) w9 jg:=(Rx.mono λ_ _ h=>h.elim).tt CB;have aj5:=Nj.size;have VY:HS jg Am nm (dE k G s l).merge:=(bY.hs rm).aN Nj (λa ha e=>by have:=bm a.block (by rw [ha];rfl);omega);have aai:Bo jg E e (dE k G s l).gZ:=(Row.bo rb).aN Nj (λa ha e=>by have:=bb a.block (by rw [ha];rfl);omega);have ab1:HS jg Wd nw (iO k G s l).wd:=(bY.hs rw9).aN Nj (λa ha e=>by have:=bw a.block (by rw [ha];rfl);omega);have bF:∀ {A:Option Addr} {b:Addr},(∀j,bL A=some j->w8.heap.size<=j/\j<w9.heap.size)->A=some b->w.heap.size<=b.block/\b.block<jg.heap.size:=λhA hb=>by
  have:=hA _ (by rw [hb];rfl);omega
 rw [oW]at hO;have tail:∀ {u:World} {Aa:Option Addr} {ca:Nat} {news:List Value},Row u jg.heap.size bT 35 Aa (G.D.length+1) ca (news++(dI (dE k G s l) Am nm cm E e ce).toList)->news.length=G.D.length*35->(∀i,i<G.D.length->∃arr:Array Value,LZ jg F G.ug i arr/\arr.size=35/\∀(j:Nat) v,arr[j]? =some v->news[i*35+j]? =some v)->Kept Nil jg u->
  Wr u ((⟨r,0,none⟩:Addr).add 2)/\let a3:=u.setCell ((⟨r,0,none⟩:Addr).add 2) (.slice Aa (G.D.length+1) ca);Is (some (⟨r,0,none⟩:Addr)) λb3:Addr=>∃c3:Option Addr,∃d3 e3:Nat,a3.cell? (b3.add 3)=some (.slice c3 d3 e3)/\∃(f3:Option Addr) (g3 i3:Nat) (j3:World),(Builtin.append_ #[gV,gV] gV #[.slice none 0 0,.slice c3 d3 e3]).run prog a3=.ok (.slice f3 g3 i3) j3/\let k3:=j3.alloc (.cells #[.slice Wd nw cw] aH);∃(m3:Option Addr) (n3 o3:Nat) (p3:World),(Builtin.append_ #[gV,gV] gV #[.slice f3 g3 i3,.slice (some (aU j3.heap.size)) 1 1]).run prog k3=.ok (.slice m3 n3 o3) p3/\Is (some (⟨r,0,none⟩:Addr)) λq3:Addr=>Wr p3 (q3.add 3)/\let r3:=p3.setCell (q3.add 3) (.slice m3 n3 o3);∃t3:Array Value,(t3.size=35/\Cells r3 (aU w9.heap.size) t3)/\(t3.size=35/\(∀u3∈t3.toList,u3.oneCell'=true)/\∀v3,v3<35->Wr r3 ((aU w1.heap.size).add v3))/\let x3:=setCells r3 (aU w1.heap.size) t3.toList 0;∃y3:Array Value,(y3.size=35/\Cells x3 (aU w1.heap.size) y3)/\K (.tuple #[.agg y3,.int .i64 0]) x3:=by
  intro u Aa ca news row Bq xy ku;have pu:=ku.heap Ri (λh=>h);have su:=ku.size;refine⟨by rw [bO];exact eI pu (by simp),?_⟩;intro u1;have pu1:u1.heap[r]? =some (.cells #[.int .i64 (k:Int),.pointer (some ⟨x,0,none⟩),.slice Aa (G.D.length+1) ca,.slice B1 G.D.length e1] jf (0,0)):=by
   show(u.setCell ((⟨r,0,none⟩:Addr).add 2) (.slice Aa (G.D.length+1) ca)).heap[r]? =_;rw [bO,dL pu];rfl
  have HZ:Kept (· =r) u u1:=by
   show Kept (· =r) u (u.setCell ((⟨r,0,none⟩:Addr).add 2) (.slice Aa (G.D.length+1) ca))
   rw [bO];exact Kept.setCell (S:=(· =r)) (Kept.refl _ u) (p:=⟨r,0+2,none⟩) (λ_=>rfl) _
  clear_value u1;have Ku:Kept (· =r) jg u1:=(ku.mono λ_ _ h=>h.elim).tt HZ;have pw1:rM u1 F B1 G.D.length G.lW:=acv.aN Ku (λj hj e=>h.jD (by rw [<-e];exact hj));obtain⟨⟨b1,Bs⟩,Xe⟩:=(⟨pw1.BN.1 kW,pw1.BN.2⟩:(∃a,B1=some a)/\_);subst Bs;obtain⟨Aw,c2,u2,nws,NN,iU,I8,hcw⟩:=Bc (w:=u1) Vy (by omega) (by omega) (cx:=e1) (Ua u1 F G.lW) (Xe b1 rfl);refine Is.mk rfl ⟨some b1,G.D.length,e1,by rw [bO,aI pu1];rfl,Aw,_,c2,u2,NN,?_⟩;intro u3;have H5:Kept Nil u2 u3:=(Kept.refl _ _).alloc _;have wc:u3.heap[u2.heap.size]? =some (.cells #[.slice Wd nw cw] aH (0,0)):=aO u2 _;clear_value u3;have su1:=HZ.size;have su2:=I8.size;have su3:=H5.size;obtain⟨Aw2,c3,u4,zE,lh,GI⟩:=Bb Vy (by omega) (by omega) (Row.aN iU H5 (λ_ _ h=>h)) (by omega) wc rfl (λv hv=>by simp at hv;subst hv;rfl);have Nv:Kept Nil u1 u4:=Kept.dY (I8.tt H5) GI (λj hj=>(Row.bX iU hj).1);have pu4:=Nv.heap pu1 (λh=>h);refine⟨Aw2,_,c3,u4,zE,Is.mk rfl ⟨by rw [bO];exact eI pu4 (by simp),?_⟩⟩;intro u5;have pu5:u5.heap[r]? =some (.cells #[.int .i64 (k:Int),.pointer (some ⟨x,0,none⟩),.slice Aa (G.D.length+1) ca,.slice Aw2 (G.D.length+1) c3] jf (0,0)):=by
   show(u4.setCell ((⟨r,0,none⟩:Addr).add 3) (.slice Aw2 (G.D.length+1) c3)).heap[r]? =_;rw [bO,dL pu4];rfl
  have HY:Kept (· =r) u4 u5:=by
   show Kept (· =r) u4 (u4.setCell ((⟨r,0,none⟩:Addr).add 3) (.slice Aw2 (G.D.length+1) c3))
   rw [bO];exact Kept.setCell (S:=(· =r)) (Kept.refl _ u4) (p:=⟨r,0+3,none⟩) (λ_=>rfl) _
  clear_value u5;have Wq:Kept (· =r) u1 u5:=(Nv.mono λ_ _ h=>h.elim).tt HY;have Ps:Kept (· =r) jg u5:=Ku.tt Wq;have hc5:=Ps.heap Ts (by omega);have tZ:=Ps.heap adS (by omega);obtain⟨z1,z2,z3⟩:=hU tZ (cs:=dI (dE k G s l) Am nm cm E e ce) (by rw [bR];rfl);refine⟨_,⟨bR ..,Cells.bX hc5⟩,⟨bR ..,gv _ _ _ _ _ _ _,λj hj=>z1 j (by rw [bR];exact hj)⟩,?_⟩;intro u6
  replace z2:u6.heap[w1.heap.size]? =some (.cells (dI (dE k G s l) Am nm cm E e ce) bT (0,0)):=z2
  replace z3:Kept (· =w1.heap.size) u5 u6:=z3
  clear_value u6;refine⟨_,⟨bR ..,Cells.bX z2⟩,?_⟩;have kwr:∀j,j=r\/j=w1.heap.size->¬jg.heap.size<=j:=λj hj e=>by rcases hj with hj|hj<;>omega
  have kuL:Kept (λj=>j=r\/j=w1.heap.size) u u6:=((HZ.mono λ_ _ h=>.inl h).trans Wq (λ_ _ h=>.inl h)).trans z3 (λ_ _ h=>.inr h);have Gn:Kept (λj=>j=r\/j=w1.heap.size) jg u6:=(ku.mono λ_ _ h=>h.elim).tt kuL;have su6:=Gn.size;have s46:u4.heap.size<=u6.heap.size:=by have:=HY.size;have:=z3.size;omega
  have s26:u.heap.size<=u6.heap.size:=kuL.size;have M6:∀j,F j->j<w.heap.size:=h.lo
  let F2:Nat->Prop:=λj=>F j\/(w8.heap.size<=j/\j<w9.heap.size)\/(jg.heap.size<=j/\j<u6.heap.size)
  have TL:∀j,F2 j->¬(j=r\/j=w1.heap.size):=λj hj e=>by
   rcases hj with hj|hj|hj
   ·have:=M6 j hj
    rcases e with e|e
    ·exact h.jD (by rw [<-e];exact hj)
    ·omega
   ·omega
   ·omega
  have ZR:∀j,F2 j->F j\/(w.heap.size<=j/\j<u6.heap.size):=λj hj=>by
   rcases hj with hj|hj|hj
   ·exact .inl hj
   ·exact .inr ⟨by omega,by omega⟩
   ·exact .inr ⟨by omega,hj.2⟩
  refine hO hc u6 Am nm cm E e ce ⟨⟨Aa,ca,Aw2,c3,?_,?_,?_⟩,?_,λhj=>?_,h.ne,h.iN.add id l,λj hj=>?_⟩ ?_ (VY.aN Gn (λa ha e=>by have:=bm a.block (by rw [ha];rfl);rcases e with e|e<;>omega)) (aai.aN Gn (λa ha e=>by have:=bb a.block (by rw [ha];rfl);rcases e with e|e<;>omega)) (λa ha=>ha.elim (λha=>(bF bm ha).1) (λha=>(bF bb ha).1))
  ·rw [yD]
   simp only [List.length_append,List.length_singleton];exact z3.heap pu5 (by omega)
  ·rw [yD]
   simp only [List.length_append,List.length_singleton];refine tu.mono (F:=F2) (tu.aN (S:=λj=>j=r\/j=w1.heap.size) (w:=u) (tu.snoc row Bq p2.len ku (λj hj=>?_) (λj hj=>.inl hj) xy (VY.same ku) (aai.same ku) (λb hb=>.inr (.inl ?_)) (λb hb=>.inr (.inl ?_))) kuL TL) ZR
   ·obtain⟨y1,cur,y2⟩:=Row.bX row hj
    have:=bt y2;exact .inr (.inr ⟨y1,by omega⟩)
   ·exact bm b.block (by rw [hb];rfl)
   ·exact bb b.block (by rw [hb];rfl)
  ·rw [yD]
   simp only [List.length_append,List.length_singleton];have Md:Kept (λj=>j=r\/j=w1.heap.size) u4 u6:=(HY.mono λ_ _ h=>.inl h).trans z3 (λ_ _ h=>.inr h);refine rM.mono (F:=F2) (rM.aN (S:=λj=>j=r\/j=w1.heap.size) (w:=u4) (rM.snoc lh (Row.len iU) p3.len Nv (λj hj=>?_) (λj hj=>.inl hj) hcw (ab1.aN (Ku.trans Nv (λ_ _ h=>h.elim)) (λa ha e=>by have:=bw a.block (by rw [ha];rfl);omega)) (λb hb=>.inr (.inl ?_))) Md TL) ZR
   ·obtain⟨y1,cur,y2⟩:=Row.bX lh hj
    have:=bt y2;exact .inr (.inr ⟨by omega,by omega⟩)
   ·exact bw b.block (by rw [hb];rfl)
  ·refine((ZA.aN (Du.tt ku) (λh=>h) (λ_ _ h=>h)).aN kuL (λe=>?_) (λj hj e=>?_)).mono (λj hj=>?_) (λe=>?_)
   ·rcases e with e|e
    ·exact h.ne e.symm
    ·omega
   ·rcases hj with hj|hj
    ·have:=M6 j hj
     rcases e with e|e
     ·exact h.jD (by rw [<-e];exact hj)
     ·omega
    ·omega
   ·rcases hj with hj|hj
    ·exact .inl hj
    ·have:=Cz.size
     have:=Du.size;exact .inr ⟨by omega,by omega⟩
   ·rcases e with e|e
    ·exact h.X.jD e
    ·omega
  ·rcases hj with hj|hj
   ·exact h.jD hj
   ·omega
  ·rcases hj with hj|hj
   ·have:=M6 j hj
    omega
   ·exact hj.2
  ·exact(Gq.mono λ_ _ h=>.inr h).trans Gn (λj hj e=>by
    rcases e with e|e
    ·exact .inl e
    ·omega)
 have Io:(dI (dE k G s l) Am nm cm E e ce).toList++ []=(dI (dE k G s l) Am nm cm E e ce).toList:=List.append_nil _;refine Is.mk rfl ⟨some a1,G.D.length,c1,by rw [bO,aI Ri];rfl,_,⟨bR ..,Cells.bX Ts⟩,?_,?_⟩
 ·obtain⟨Aa,c2,u2,news,UK,iU,I8,xy⟩:=Bc (w:=jg) FY (by omega) (by omega) (cx:=c1) (LZ jg F G.ug) (PL a1 rfl)
  refine⟨Aa,_,c2,u2,UK,⟨_,rfl,bR ..,Cells.bX (I8.heap Ts (λh=>h))⟩,bR ..,?_⟩;intro u3;have H5:Kept Nil u2 u3:=(Kept.refl _ _).alloc _;have wc:u3.heap[u2.heap.size]? =some (.cells (dI (dE k G s l) Am nm cm E e ce) bT (0,0)):=by
   have:=aO u2 (.cells (dI (dE k G s l) Am nm cm E e ce) bT);show(u2.alloc (.cells ((dI (dE k G s l) Am nm cm E e ce).toList++ []).toArray bT)).heap[u2.heap.size]? =_;rw [Io,Array.toArray_toList];exact this
  clear_value u3;have su2:=I8.size;have su3:=H5.size;obtain⟨Ab,c3,u4,zE,lh,GI⟩:=Bb FY (by omega) (by omega) (Row.aN iU H5 (λ_ _ h=>h)) (by omega) wc (bR ..) (gv _ _ _ _ _ _ _);have ku:Kept Nil jg u4:=Kept.dY (I8.tt H5) GI (λj hj=>(Row.bX iU hj).1);refine⟨Ab,_,c3,u4,zE,Is.mk rfl ?_⟩;exact tail lh (Row.len iU) xy ku
 ·refine⟨bR ..,?_⟩
  intro u3;have H5:Kept Nil jg u3:=(Kept.refl _ _).alloc _;have wc:u3.heap[jg.heap.size]? =some (.cells (dI (dE k G s l) Am nm cm E e ce) bT (0,0)):=by
   have:=aO jg (.cells (dI (dE k G s l) Am nm cm E e ce) bT);show(jg.alloc (.cells ((dI (dE k G s l) Am nm cm E e ce).toList++ []).toArray bT)).heap[jg.heap.size]? =_;rw [Io,Array.toArray_toList];exact this
  clear_value u3;have su3:=H5.size;refine⟨by rw [bO,aI (H5.heap Ri (λh=>h))];rfl,?_⟩;have p23:=Rh.aN H5 (λ_ _ h=>h);obtain⟨Aa,c2,u2,news,UK,iU,I8,xy⟩:=Bc (w:=u3) (n:=G.D.length) (a:=a1) FY (by omega) (by omega) (cx:=c1) (LZ jg F G.ug) (λi hi=>by
   obtain⟨arr,y1,y2,y3,y4⟩:=PL a1 rfl i hi;exact⟨arr,y1,y2,Cells.aN y3 H5 (λh=>h),y4⟩)
  have su2:=I8.size;have Dx:=I8.heap wc (λh=>h);obtain⟨Ab,c3,u4,zE,lh,GI⟩:=Bb FY (by omega) (by omega) (Row.base iU (B':=jg.heap.size) (λj hj=>by have:=(Row.bX iU hj).1;omega)) (by omega) Dx (bR ..) (gv _ _ _ _ _ _ _);have ku:Kept Nil jg u4:=Kept.dY (H5.tt I8) GI (λj hj=>by have:=(Row.bX iU hj).1;omega);refine⟨Aa,_,c2,u2,UK,Ab,_,c3,u4,zE,Is.mk rfl ?_⟩;exact tail lh (Row.len iU) xy ku
end
end Go.Proofs.YtfleamccglihoaaGreatDoor
