import Derived.Test.YtfleamccglihoaaGreatDoorMT
import Derived.Test.YtfleamccglihoaaGreatDoorMN
open Go.IntKind (i64 u64)
set_option linter.unusedVariables false
namespace Go.Proofs.YtfleamccglihoaaGreatDoor
open Go.Proofs.Tryz
open Go Go.bR Go.RowKit
structure qP(w:World)(F:Nat->Prop)(A:Option Addr)(n:Nat)(l:List nN):Prop where
 len:l.length=n
 at_:∀(i:Nat) x,l[i]? =some x->∃a A1 n1 c1 B1 m1 d1,A=some a/\a.block<w.heap.size/\F a.block/\Cells w (a.add (i*35)) (cG x A1 n1 c1 B1 m1 d1)/\HS w A1 n1 x.merge/\Bo w B1 m1 x.fz/\(∀b,A1=some b->F b.block)/\(∀b,B1=some b->F b.block)
structure pN(w:World)(F:Nat->Prop)(A:Option Addr)(n:Nat)(l:List (List HT)):Prop where
 len:l.length=n
 at_:∀(i:Nat) x,l[i]? =some x->∃a A1 n1 c1,A=some a/\a.block<w.heap.size/\F a.block/\w.cell? (a.add (i*1))=some (.slice A1 n1 c1)/\HS w A1 n1 x/\(∀b,A1=some b->F b.block)
section
variable{w w':World}{F F' S:Nat->Prop}{A:Option Addr}{n:Nat}
theorem qP.aG{l:List nN}(h:qP w F A n l)(hk:Kept S w w')(hn:∀j,F j->¬S j):qP w' F A n l:=⟨h.len,fun i x hi=>by
 obtain⟨a,A1,n1,c1,B1,m1,d1,g1,g2,g3,g4,g5,g6,g7,g8⟩:=h.at_ i x hi;exact⟨a,A1,n1,c1,B1,m1,d1,g1,Nat.lt_of_lt_of_le g2 hk.size,g3,Cells.aG g4 hk (by rw [eR];exact hn _ g3),g5.aG hk (fun b hb=>hn _ (g7 b hb)),g6.aG hk (fun b hb=>hn _ (g8 b hb)),g7,g8⟩⟩
theorem qP.mono{l:List nN}(h:qP w F A n l)(hf:∀j,F j->F' j):qP w F' A n l:=⟨h.len,fun i x hi=>by
 obtain⟨a,A1,n1,c1,B1,m1,d1,g1,g2,g3,g4,g5,g6,g7,g8⟩:=h.at_ i x hi;exact⟨a,A1,n1,c1,B1,m1,d1,g1,g2,hf _ g3,g4,g5,g6,fun b hb=>hf _ (g7 b hb),fun b hb=>hf _ (g8 b hb)⟩⟩
theorem pN.aG{l:List (List HT)}(h:pN w F A n l)(hk:Kept S w w')(hn:∀j,F j->¬S j):pN w' F A n l:=⟨h.len,fun i x hi=>by
 obtain⟨a,A1,n1,c1,g1,g2,g3,g4,g5,g6⟩:=h.at_ i x hi;exact⟨a,A1,n1,c1,g1,Nat.lt_of_lt_of_le g2 hk.size,g3,hk.cell g4 (by rw [eR];exact hn _ g3),g5.aG hk (fun b hb=>hn _ (g6 b hb)),g6⟩⟩
theorem pN.mono{l:List (List HT)}(h:pN w F A n l)(hf:∀j,F j->F' j):pN w F' A n l:=⟨h.len,fun i x hi=>by
 obtain⟨a,A1,n1,c1,g1,g2,g3,g4,g5,g6⟩:=h.at_ i x hi;exact⟨a,A1,n1,c1,g1,g2,hf _ g3,g4,g5,fun b hb=>hf _ (g6 b hb)⟩⟩
end
structure R3(w:World)(F:Nat->Prop)(r x k:Nat)(G:GS):Prop where
 top:∃A c B e,w.heap[r]? =some (.cells #[.int .i64 (k:Int),.pointer (some ⟨x,0,none⟩),.slice A G.D.length c,.slice B G.D.length e] gH (0,0))/\qP w F A G.D.length G.rN/\pN w F B G.D.length G.j0
 X:oP w F x G.D G.P
 gZ:¬F r
 ne:r≠x
 fy:eK k G
 lo:∀j,F j->j<w.heap.size
section
variable{w w':World}{F F' S:Nat->Prop}{r x k:Nat}{G:GS}{K:Value->World->Prop}
theorem R3.aG(h:R3 w F r x k G)(hk:Kept S w w')(hr:¬S r)(hx:¬S x)(hF:∀j,F j->¬S j):R3 w' F r x k G:=by
 obtain⟨A,c,B,e,g1,g2,g3⟩:=h.top;exact⟨⟨A,c,B,e,hk.heap g1 hr,g2.aG hk hF,g3.aG hk hF⟩,h.X.aG hk hx hF,h.gZ,h.ne,h.fy,fun j e=>Nat.lt_of_lt_of_le (h.lo j e) hk.size⟩
theorem R3.same(h:R3 w F r x k G)(hk:Kept Nil w w'):R3 w' F r x k G:=h.aG hk (fun h=>h) (fun h=>h) (fun _ _ h=>h)
theorem R3.lt(h:R3 w F r x k G):r<w.heap.size:=by obtain⟨_,_,_,_,g,_⟩:=h.top;exact aT g
theorem R3.lx(h:R3 w F r x k G):x<w.heap.size:=h.X.lt
theorem R3.c0(h:R3 w F r x k G):w.cell? ((⟨r,0,none⟩:Addr).add 0)=some (.int .i64 (k:Int)):=by obtain⟨_,_,_,_,g,_⟩:=h.top;rw [bg,aA g];rfl
theorem R3.c1(h:R3 w F r x k G):w.cell? ((⟨r,0,none⟩:Addr).add 1)=some (.pointer (some ⟨x,0,none⟩)):=by obtain⟨_,_,_,_,g,_⟩:=h.top;rw [bg,aA g];rfl
theorem Nu(h:eK k G){y:HT}(hy:y∈ids G.D):∃(i:Nat) (nd:DN) (c:nN) (l:List HT),G.D[i]? =some nd/\nd.id=y/\G.rN[i]? =some c/\G.j0[i]? =some l/\CT G.D y=(i:Int)/\G.gw y=c/\G.world y=l/\i<G.D.length:=by
 obtain⟨nd,eW,rfl⟩:=cP.1 hy;obtain⟨i,hi⟩:=List.mem_iff_getElem?.1 eW;have dP:=(lgeS hi).1;obtain⟨c,hc⟩:∃c,G.rN[i]? =some c:=⟨_,List.getElem?_eq_getElem (by rw [h.lc];exact dP)⟩;obtain⟨l,hl⟩:∃l,G.j0[i]? =some l:=⟨_,List.getElem?_eq_getElem (by rw [h.lw];exact dP)⟩;exact⟨i,nd,c,l,hi,rfl,hc,hl,CS h.W hi,GS.QJ h.W hi hc,GS.GC h.W hi hl,dP⟩
theorem km(h:R3 w F r x k G)(hD:G.D.length<=5000){a:HT}(ha:a∈ids G.D)(hK:∀w',Kept Nil w w'->K (.int .u64 (G.score a:Int)) w'):
 bk prog dv.id #[.pointer (some ⟨r,0,none⟩),.agg a.1] w K:=by
 refine dv.of ?_;unfold dv.W;intro w4 w5;have k4:Kept Nil w w4:=(Kept.refl _ _).alloc _;have Ar:w4.heap[w.heap.size]? =some (.cells a.1 ai (0,0)):=aI w _;have k5:Kept Nil w4 w5:=(Kept.refl _ _).drew;clear_value w5;have Lv:=k5.heap Ar (fun h=>h);have tk:=k4.tt k5;have h5:=h.same tk;obtain⟨A,c,B,e,g1,g2,g3⟩:=h5.top;refine Is.mk rfl ⟨A,_,c,by rw [bg,aA g1];rfl,Is.mk rfl ⟨_,h5.c1,Is.mk rfl ⟨a.1,⟨a.2.1,Cells.bE Lv⟩,?_⟩⟩⟩;rw [add_zero];refine mR h5.X.gr (by omega) a fun w6 k6=>⟨_,rfl,?_⟩;have g16:=k6.heap g1 (fun h=>h);obtain⟨i,nd,cl,l,q1,q2,q3,q4,q5,q6,q7,q8⟩:=Nu h.fy ha;rw [q5];obtain⟨aa,A1,n1,c1,B1,m1,d1,p1,p2,p3,p4,_⟩:=(g2.aG k6 (fun _ _ h=>h)).at_ i cl q3;subst p1;refine⟨by rw [bg,aA g16];rfl,⟨by omega,by omega⟩,Is.mk rfl ⟨((G.score a:Nat):Int),?_,?_⟩⟩
 ·have:=fZ cl A1 n1 c1 B1 m1 d1 #[]
  rw [Array.append_empty]at this;have Gu:=p4 32 _ this.1;rw [Int.toNat_natCast,Gu];unfold GS.score;rw [q6]
 ·exact hK w6 (tk.tt k6)
theorem zm(h:eK k G){a:HT}(ha:a∈ids G.D):G.score a<=G.D.length:=by
 rw [(h.wd a ha).2.2];exact rZ h ha
theorem ql(h:R3 w F r x k G)(hD:G.D.length<=5000){a b:HT}(ha:a∈ids G.D)(hb:b∈ids G.D)(hK:∀w',Kept Nil w w'->K (.bool (gl G a b)) w'):
 bk prog dI.id #[.pointer (some ⟨r,0,none⟩),.agg a.1,.agg b.1] w K:=by
 refine dI.of ?_;unfold dI.W;intro w4 w5 w6;have k4:Kept Nil w w4:=(Kept.refl _ _).alloc _;have Ar:w4.heap[w.heap.size]? =some (.cells a.1 ai (0,0)):=aI w _;have k5:Kept Nil w4 w5:=(Kept.refl _ _).alloc _;have oE:w5.heap[w4.heap.size]? =some (.cells b.1 ai (0,0)):=aI w4 _;have k6:Kept Nil w5 w6:=(Kept.refl _ _).drew;clear_value w6;have wu:=k6.heap (k5.heap Ar (fun h=>h)) (fun h=>h);have qh:=k6.heap oE (fun h=>h);have qE:=(k4.tt k5).tt k6;refine⟨a.1,⟨a.2.1,Cells.bE wu⟩,b.1,⟨b.2.1,Cells.bE qh⟩,?_⟩;refine km (h.same qE) hD ha fun w7 k7=>⟨_,rfl,⟨_,rfl,b.2.1,Cells.bE (k7.heap qh (fun h=>h))⟩,?_⟩;have yM:=qE.tt k7;refine km (h.same yM) hD hb fun w8 k8=>⟨_,rfl,?_⟩;have ud:=yM.tt k8;have Xj:=k7.tt k8;by_cases he:G.score a=G.score b
 ·refine Split.no (by rw [he];simp) ⟨a.1,⟨a.2.1,Cells.bE (Xj.heap wu (fun h=>h))⟩,b.1,⟨b.2.1,Cells.bE (Xj.heap qh (fun h=>h))⟩,?_⟩
  refine sY a b fun w9 k9=>⟨_,rfl,?_⟩;have e:decide (ln a b<0)=gl G a b:=by
   rw [Bool.eq_iff_iff,decide_eq_true_eq,rO];unfold gl;rw [decide_eq_false (by omega),decide_eq_true he];simp
  rw [e];exact hK w9 (ud.tt k9)
 ·refine Split.yes (by simp only [bne_iff_ne,ne_eq];omega) ?_
  have e:decide ((G.score a:Int)<(G.score b:Int))=gl G a b:=by
   unfold gl;rw [decide_eq_false he];simp
  rw [e];exact hK w8 ud
theorem Kh(h:R3 w F r x k G)(hD:G.D.length<=5000){A:Option Addr}{n cx:Nat}{l:List HT}(hl:HS w A n l)(hn:n<=400000)(hK:∀w',Kept Nil w w'->K (.int .i64 (nx G.D l)) w'):
 bk prog bj.id #[.pointer (some ⟨r,0,none⟩),.slice A n cx] w K:=by
 have hlen:=hl.len;refine bj.of ?_;unfold bj.W;by_cases h0:n=0
 ·subst h0
  have e:l= []:=List.eq_nil_of_length_eq_zero hlen;refine Split.yes rfl ?_;have:=hK w (Kept.refl _ _);unfold nx at this;rw [if_pos e]at this;exact this
 have e9:l≠ []:=fun e=>by subst e;exact h0 hlen.symm
 refine Split.no (by simpa using (by omega:¬(n:Int)=0)) ?_;refine bj.b9 (I:=fun s v=>∃i:Nat,s=(0,(i:Int))/\i<=n/\(∀p∈l.take i,p∈ids G.D)/\Kept Nil w v) (μ:=fun s _=>((n:Int)-s.2).toNat) (s:=(0,0)) ⟨0,rfl,Nat.zero_le _,by simp,Kept.refl _ _⟩ ?_;rintro s v ⟨i,rfl,hi,cU,kv⟩;unfold bj.B1;refine Split.dec (fun cJ=>?_) (fun gu=>?_)
 ·simp only at cJ
  have dP:i<n:=by omega
  obtain⟨y,hy⟩:∃y,l[i]? =some y:=⟨_,List.getElem?_eq_getElem (by omega)⟩;intro w3;have k3:Kept Nil v w3:=(Kept.refl _ _).drew;clear_value w3;have rC:=kv.tt k3;have h3:=h.same rC;refine Is.mk rfl ⟨_,h3.c1,Is.mk rfl ((hl.same rC).load (i:=(i:Int)) (by omega) hy ?_)⟩;rw [add_zero];refine mR h3.X.gr (by omega) y fun w4 k4=>⟨_,rfl,?_⟩;have nf:=rC.tt k4;refine Split.dec (fun ym=>?_) (fun jt=>?_)
  ·rw [iF]
   have:=hK w4 nf;unfold nx at this;rw [if_neg e9,if_pos ⟨y,List.mem_of_getElem? hy,pZ.1 ym⟩]at this;exact this
  ·simp only
   rw [dt (n:=(i:Int)) (by omega) (by omega)];refine⟨(0,(i:Int)+1),rfl,⟨i+1,rfl,dP,fun p hp=>?_,nf⟩,by simp only;omega⟩;rcases(bJ hy).1 hp with hp|rfl
   ·exact cU p hp
   ·exact Classical.byContradiction fun e=>jt (pZ.2 e)
 ·simp only at gu
  rw [aO,bj.df];rw [List.take_of_length_le (by omega)]at cU;have:=hK v kv;unfold nx at this;rw [if_neg e9,if_neg (fun⟨p,hp,hn⟩=>hn (cU p hp))]at this;exact this
theorem tF(h:R3 w F r x k G)(hD:G.D.length<=5000){A:Option Addr}{n cx:Nat}{l:List HT}(hl:HS w A n l)(h0:l≠ [])(hn:n<=400000)(fC:∀y∈l,y∈ids G.D)(hK:∀w',Kept Nil w w'->K (.agg (bN G l).1) w'):
 bk prog aW.id #[.pointer (some ⟨r,0,none⟩),.slice A n cx] w K:=by
 have hlen:=hl.len;obtain⟨x0,t,rfl⟩:∃x0 t,l=x0::t:=by cases l with|nil=>exact absurd rfl h0|cons a b=>exact⟨a,b,rfl⟩
 refine aW.of ?_;unfold aW.W;intro w1;have k1:Kept Nil w w1:=(Kept.refl _ _).alloc _;have mE:w1.heap[w.heap.size]? =some (.cells dZ.1 ai (0,0)):=aI w _;clear_value w1;simp only [List.length_cons]at hlen;refine(hl.same k1).load (i:=0) (by omega) rfl ?_;intro w2;have k2:Kept Nil w1 w2:=(Kept.refl _ _).alloc _;have lh:w2.heap[w1.heap.size]? =some (.cells dZ.1 ai (0,0)):=aI w1 _;clear_value w2;have jD:=k2.heap mE (fun h=>h);have l1:=aT mE;have l2:=aT lh;obtain⟨t1,t2,t3⟩:=jG x0 lh rfl;refine⟨t1,?_⟩;intro w3
 replace t2:w3.heap[w1.heap.size]? =some (.cells x0.1 ai (0,0)):=t2
 replace t3:Kept (· =w1.heap.size) w2 w3:=t3
 clear_value w3;have s1:=k1.size;have lC:Kept Nil w w3:=(k1.tt k2).trans t3 (fun j hj e=>by omega);have wi:=t3.heap jD (by omega);refine aW.b9 (I:=fun s v=>∃(i:Nat) (b:HT),s=(i:Int)/\1<=i/\i<=n/\b∈ids G.D/\((x0::t).drop i).foldl (fun b y=>if gl G b y then y else b) b=bN G (x0::t)/\v.heap[w1.heap.size]? =some (.cells b.1 ai (0,0))/\v.heap[w.heap.size]? =some (.cells dZ.1 ai (0,0))/\Kept Nil w v) (μ:=fun s _=>((n:Int)-s).toNat) (s:=1) ⟨1,x0,rfl,Nat.le_refl _,by omega,fC _ List.mem_cons_self,rfl,t2,wi,lC⟩ ?_;rintro s v ⟨i,b,rfl,Lj,wm,hb,he,D4,TQ,kv⟩;unfold aW.B1;refine Split.dec (fun cJ=>?_) (fun gu=>?_)
 ·have dP:i<n:=by omega
  obtain⟨y,hy⟩:∃y,(x0::t)[i]? =some y:=⟨_,List.getElem?_eq_getElem (by simp;omega)⟩;have Mz:y∈ids G.D:=fC _ (List.mem_of_getElem? hy);have hd:(x0::t).drop i=y::(x0::t).drop (i+1):=by
   obtain⟨q1,q2⟩:=lgeS hy;rw [List.drop_eq_getElem_cons q1,q2]
  rw [hd,List.foldl_cons]at he;intro w4;have k4:Kept Nil v w4:=(Kept.refl _ _).drew;clear_value w4;have nf:=kv.tt k4;have O9:(x0::t)[((i:Nat):Int).toNat]? =some y:=by rw [Int.toNat_natCast];exact hy
  refine⟨b.1,⟨b.2.1,Cells.bE (k4.heap D4 (fun h=>h))⟩,(hl.same nf).load (i:=(i:Int)) (by omega) O9 ?_⟩;refine ql (h.same nf) hD hb Mz fun w5 k5=>⟨_,rfl,?_⟩;have yK:=nf.tt k5;have oE:=k5.heap (k4.heap D4 (fun h=>h)) (fun h=>h);have tL:=k5.heap (k4.heap TQ (fun h=>h)) (fun h=>h);rw [dt (n:=(i:Int)) (by omega) (by omega)];refine Split.mk (fun xp=>?_) (fun hle=>?_)
  ·rw [if_pos xp]at he
   refine(hl.same yK).load (i:=(i:Int)) (by omega) O9 ?_;obtain⟨f1,f2,f3⟩:=jG y oE b.2.1;refine⟨f1,?_⟩;exact⟨(i:Int)+1,rfl,⟨i+1,y,rfl,by omega,by omega,Mz,he,f2,f3.heap tL (by omega),yK.trans f3 (fun j hj e=>by omega)⟩,by simp only;omega⟩
  ·rw [if_neg (by rw [hle];decide)]at he
   exact⟨(i:Int)+1,rfl,⟨i+1,b,rfl,by omega,by omega,hb,he,oE,tL,yK⟩,by simp only;omega⟩
 ·rw [aO,aW.df]
  rw [List.drop_eq_nil_of_le (by simp;omega)]at he
  replace he:b=bN G (x0::t):=he
  subst he;refine⟨_,⟨sH _,Cells.bE D4⟩,?_⟩;obtain⟨f1,f2,f3⟩:=jG (bN G (x0::t)) TQ rfl;exact⟨f1,_,⟨sH _,Cells.bE f2⟩,hK _ (kv.trans f3 (fun j hj e=>by omega))⟩
theorem o7(h:R3 w F r x k G)(hD:G.D.length<=5000){A:Option Addr}{n cx:Nat}{l:List HT}(hl:HS w A n l)(hn:n<=100000)(y:HT)(hK:∀A' c' w',bI w' w.heap.size A' (bM G.D l y).length c' (bM G.D l y)->Kept Nil w w'->K (.slice A' (bM G.D l y).length c') w'):
 bk prog aX.id #[.pointer (some ⟨r,0,none⟩),.slice A n cx,.agg y.1] w K:=by
 have hlen:=hl.len;refine aX.of ?_;unfold aX.W;intro w1;have k1:Kept Nil w w1:=(Kept.refl _ _).alloc _;have O8:w1.heap[w.heap.size]? =some (.cells y.1 ai (0,0)):=aI w _;clear_value w1;refine aX.b9 (I:=fun s v=>∃(i:Nat) (B:Option Addr) (c:Nat),s=(B,(bM G.D (l.take i) y).length,c,(i:Int))/\i<=n/\bI v w1.heap.size B (bM G.D (l.take i) y).length c (bM G.D (l.take i) y)/\Kept Nil w1 v) (μ:=fun s _=>((n:Int)-s.2.2.2).toNat) (s:=(none,0,0,0)) ⟨0,none,0,rfl,Nat.zero_le _,bI.nil _ _,Kept.refl _ _⟩ ?_;rintro s v ⟨i,B,c,rfl,hi,row,kv⟩;unfold aX.B1;have HP:=k1.tt kv;refine Split.dec (fun cJ=>?_) (fun gu=>?_)
 ·simp only at cJ
  have dP:i<n:=by omega
  obtain⟨z,hz⟩:∃z,l[i]? =some z:=⟨_,List.getElem?_eq_getElem (by omega)⟩;have qG:(bM G.D (l.take i) y).length<=100000:=by
   have:=List.length_filter_le (fun b=>decide (lI G.D b y)) (l.take i);have h2:=List.length_take_le i l;unfold bM;omega
  intro w3;have k3:Kept Nil v w3:=(Kept.refl _ _).drew;clear_value w3;have rC:=kv.tt k3;have lC:=k1.tt rC;have h3:=h.same lC;have yN:l[((i:Nat):Int).toNat]? =some z:=by rw [Int.toNat_natCast];exact hz
  refine Is.mk rfl ⟨_,h3.c1,Is.mk rfl ((hl.same lC).load (i:=(i:Int)) (by omega) yN ⟨y.1,⟨y.2.1,Cells.bE (rC.heap O8 (fun h=>h))⟩,?_⟩)⟩;rw [add_zero];refine ES h3.X.gr h.fy.W (by omega) z y fun w4 b hb k4=>⟨b,rfl,?_⟩
  replace hb:b=true↔lI G.D z y:=hb
  have nf:=rC.tt k4;have pE:=k1.tt nf;have iE:=Row.aG row (k3.tt k4) (fun _ _ h=>h);have FU:bM G.D (l.take (i+1)) y=bM G.D (l.take i) y++if lI G.D z y then [z]else []:=by
   rw [List.take_add_one,hz,eF]
   congr 1
   unfold bM;by_cases hp:lI G.D z y
   ·rw [if_pos hp];simp [hp]
   ·rw [if_neg hp];simp [hp]
  cases b with
  |true=>
   rw [if_pos (hb.1 rfl)]at FU;refine Split.yes rfl ((hl.same pE).load (i:=(i:Int)) (by omega) yN ⟨z.2.1,?_⟩);intro w5;have k5:Kept Nil w4 w5:=(Kept.refl _ _).alloc _;have Rk:=iV w4 z;have s5:=(nf.tt k5).size;obtain⟨A',c',w6,hr,BI,hg,_⟩:=cD (cx:=1) aC (Row.aG iE k5 (fun _ _ h=>h)) Rk (by omega) s5;refine⟨A',_,c',w6,hr,?_⟩;rw [dt (n:=(i:Int)) (by omega) (by omega)];have e:(bM G.D (l.take (i+1)) y).length=(bM G.D (l.take i) y).length+1:=by rw [FU];simp
   refine⟨(A',(bM G.D (l.take i) y).length+1,c',(i:Int)+1),rfl,⟨i+1,A',c',by rw [e];rfl,dP,by rw [e,FU];exact BI,?_⟩,by simp only;omega⟩;exact Kept.eh (nf.tt k5) hg (fun j hj=>(Row.bE row hj).1)
  |false=>
   rw [if_neg (fun e=>by have:=hb.2 e;cases this),List.append_nil]at FU;refine Split.no rfl ?_;simp only;rw [dt (n:=(i:Int)) (by omega) (by omega)];exact⟨(B,(bM G.D (l.take i) y).length,c,(i:Int)+1),rfl,⟨i+1,B,c,by rw [FU];rfl,dP,by rw [FU];exact iE,nf⟩,by simp only;omega⟩
 ·simp only at gu
  rw [aO,aX.df];rw [List.take_of_length_le (by omega)]at row;have e:i=n:=by omega
  subst e;rw [List.take_of_length_le (by omega)];exact hK B c v (Row.base row (fun j hj=>by have:=(Row.bE row hj).1;have:=k1.size;omega)) HP
end
structure VJ(v:World)(B0 xb rb:Nat)(x:nN)(A:Option Addr)(n cp:Nat)(E:Option Addr)(e ce:Nat)(W:Option Addr)(nw cw:Nat)(wd:List HT):Prop where
 top:v.heap[xb]? =some (.cells (cG x A n cp E e ce) bn (0,0))
 mg:bI v B0 A n cp x.merge
 bl:Row v B0 iq 1 E e ce (rY x.fz)
 wr:bI v B0 W nw cw wd
 box:v.heap[rb]? =some (.cells zC bn (0,0))
 AE:∀j,a8 A=some j->a8 E≠some j
 AW:∀j,a8 A=some j->a8 W≠some j
 EW:∀j,a8 E=some j->a8 W≠some j
 xB:xb<B0
 rB:rb<B0
 xr:xb≠rb
section
variable{v v' u:World}{B0 xb rb n cp e ce nw cw:Nat}{x:nN}{A E W:Option Addr}{wd:List HT}{K:Value->World->Prop}
theorem VJ.same(h:VJ v B0 xb rb x A n cp E e ce W nw cw wd)(k:Kept Nil v v'):VJ v' B0 xb rb x A n cp E e ce W nw cw wd:=
 ⟨k.heap h.top (fun h=>h),Row.aG h.mg k (fun _ _ h=>h),Row.aG h.bl k (fun _ _ h=>h),Row.aG h.wr k (fun _ _ h=>h),k.heap h.box (fun h=>h),h.AE,h.AW,h.EW,h.xB,h.rB,h.xr⟩
theorem VJ.f32(h:VJ v B0 xb rb x A n cp E e ce W nw cw wd):v.cell? ((⟨xb,0,none⟩:Addr).add 32)=some (.int .u64 (x.score:Int)):=by
 have:=(fZ x A n cp E e ce #[]).1;rw [Array.append_empty]at this;rw [bg,aA h.top];exact this
theorem VJ.f33(h:VJ v B0 xb rb x A n cp E e ce W nw cw wd):v.cell? ((⟨xb,0,none⟩:Addr).add 33)=some (.slice A n cp):=by
 have:=(fZ x A n cp E e ce #[]).2.1;rw [Array.append_empty]at this;rw [bg,aA h.top];exact this
theorem VJ.f34(h:VJ v B0 xb rb x A n cp E e ce W nw cw wd):v.cell? ((⟨xb,0,none⟩:Addr).add 34)=some (.slice E e ce):=by
 have:=(fZ x A n cp E e ce #[]).2.2.1;rw [Array.append_empty]at this;rw [bg,aA h.top];exact this
theorem VJ.wrx(h:VJ v B0 xb rb x A n cp E e ce W nw cw wd){j:Nat}(hj:j<35):Wr v ((⟨xb,0,none⟩:Addr).add j):=by
 rw [bg];exact dO h.top (by rw [bf];omega)
theorem VJ.Oa(h:VJ v B0 xb rb x A n cp E e ce W nw cw wd)(j:Nat)(z:Value):Kept (· =xb) v (v.setCell ((⟨xb,0,none⟩:Addr).add j) z):=by
 rw [bg];exact Kept.setCell (S:=(· =xb)) (Kept.refl _ v) (p:=⟨xb,0+j,none⟩) (fun _=>rfl) _
theorem VJ.Oc(h:VJ v B0 xb rb x A n cp E e ce W nw cw wd)(s:Nat):VJ (v.setCell ((⟨xb,0,none⟩:Addr).add 32) (.int .u64 (s:Int))) B0 xb rb {x with score:=s} A n cp E e ce W nw cw wd:=by
 have k:=h.Oa 32 (.int .u64 (s:Int));have xB:=h.xB;refine⟨?_,Row.aG h.mg k (fun j hj e=>by have:=(Row.bE h.mg hj).1;omega),Row.aG h.bl k (fun j hj e=>by have:=(Row.bE h.bl hj).1;omega),Row.aG h.wr k (fun j hj e=>by have:=(Row.bE h.wr hj).1;omega),k.heap h.box h.xr.symm,h.AE,h.AW,h.EW,h.xB,h.rB,h.xr⟩;rw [bg,dc h.top];have:=vG x A n cp E e ce #[] s;rw [Array.append_empty,Array.append_empty]at this;rw [this]
theorem VJ.Sn(h:VJ v B0 xb rb x A n cp E e ce W nw cw wd)(hB:B0<=v.heap.size)(hn:nw<=100000){z:HT}(mT:Kept Nil v v'){bx:Nat}(hx:HS v' (some ⟨bx,0,none⟩) 1 [z]):
 ∃W' RH u,(Builtin.append_ #[aC,aC] aC #[.slice W nw cw,.slice (some ⟨bx,0,none⟩) 1 1]).run prog v'=.ok (.slice W' (nw+1) RH) u/\VJ u B0 xb rb x A n cp E e ce W' (nw+1) RH (wd++ [z])/\Kept (fun j=>j=xb\/B0<=j) v u:=by
 have h':=h.same mT;have Sd:=mT.size;obtain⟨W',c',u,hr,row,hg,hb⟩:=cD (cx:=1) aC h'.wr hx (by omega) (by omega);have kg:Kept (fun j=>a8 W=some j) v' u:=Kept.grown (Kept.refl _ _) hg (fun j hj _=>hj);have nB:∀j,j<B0->a8 W≠some j:=fun j hj e=>by have:=(Row.bE h.wr e).1;omega
 refine⟨W',c',u,hr,⟨kg.heap h'.top (nB _ h.xB),Row.aG h'.mg kg (fun j hj=>h.AW j hj),Row.aG h'.bl kg (fun j hj=>h.EW j hj),row,kg.heap h'.box (nB _ h.rB),h.AE,fun j hj e=>?_,fun j hj e=>?_,h.xB,h.rB,h.xr⟩,(mT.mono fun _ _ h=>h.elim).trans kg (fun j hj e=>.inr (Row.bE h.wr e).1)⟩
 ·rcases hb j e with e'|e'
  ·exact h.AW j hj e'
  ·obtain⟨_,cur,hc⟩:=Row.bE h'.mg hj
   have:=aT hc;omega
 ·rcases hb j e with e'|e'
  ·exact h.EW j hj e'
  ·obtain⟨_,cur,hc⟩:=Row.bE h'.bl hj
   have:=aT hc;omega
theorem VJ.Hg(h:VJ v B0 xb rb x A n cp E e ce W nw cw wd)(hB:B0<=v.heap.size)(hn:e<=100000){b:Bool}(mT:Kept Nil v v'){bx:Nat}(hx:v'.cell? ⟨bx,0,none⟩=some (.bool b)):
 ∃E' rX u,(Builtin.append_ #[gA,gA] gA #[.slice E e ce,.slice (some ⟨bx,0,none⟩) 1 1]).run prog v'=.ok (.slice E' (e+1) rX) u/\Wr u ((⟨xb,0,none⟩:Addr).add 34)/\
  VJ (u.setCell ((⟨xb,0,none⟩:Addr).add 34) (.slice E' (e+1) rX)) B0 xb rb {x with fz:=x.fz++ [b]} A n cp E' (e+1) rX W nw cw wd/\Kept (fun j=>j=xb\/B0<=j) v (u.setCell ((⟨xb,0,none⟩:Addr).add 34) (.slice E' (e+1) rX)):=by
 have h':=h.same mT;have Sd:=mT.size;have xB:=h.xB;obtain⟨E',c',u,hr,row,hg,hb⟩:=fE (P:=prog) (t:=gA) (bytes:=1) (ty:=gA) BE h'.bl (a:=⟨bx,0,none⟩) (m:=1) (cx:=1) (news:= [.bool b]) rfl (fun j z hj=>by
  cases j with
  |zero=>simp only [List.getElem?_cons_zero,Option.some.injEq]at hj;subst hj;rw [add_zero];exact hx
  |succ j=>simp at hj) (fun z hz=>by
  have:z=.bool b:=by simpa using hz
  subst this;rfl) (by omega) (by unfold maxLen;omega) (by omega)
 have kg:Kept (fun j=>a8 E=some j) v' u:=Kept.grown (Kept.refl _ _) hg (fun j hj _=>hj);have nB:∀j,j<B0->a8 E≠some j:=fun j hj e=>by have:=(Row.bE h.bl e).1;omega
 have top:=kg.heap h'.top (nB _ h.xB);have ks:Kept (· =xb) u (u.setCell ((⟨xb,0,none⟩:Addr).add 34) (.slice E' (e+1) c')):=by
  rw [bg];exact Kept.setCell (S:=(· =xb)) (Kept.refl _ u) (p:=⟨xb,0+34,none⟩) (fun _=>rfl) _
 have la:Kept (fun j=>j=xb\/a8 E=some j) v' (u.setCell ((⟨xb,0,none⟩:Addr).add 34) (.slice E' (e+1) c')):=(kg.mono fun _ _ h=>.inr h).trans ks (fun _ _ h=>.inl h);refine⟨E',c',u,hr,by rw [bg];exact dO top (by rw [bf];omega),⟨?_,?_,?_,?_,?_,fun j hj e=>?_,h.AW,fun j hj e=>?_,h.xB,h.rB,h.xr⟩,(mT.mono fun _ _ h=>h.elim).trans la (fun j hj e=>e.imp (fun h=>h) (fun e=>(Row.bE h.bl e).1))⟩
 ·rw [bg,dc top]
  have:=qK x A n cp E e ce #[] E' (e+1) c';rw [Array.append_empty,Array.append_empty]at this;rw [this];rfl
 ·exact Row.aG h'.mg la (fun j hj e=>e.elim (fun e=>by have:=(Row.bE h.mg hj).1;omega) (h.AE j hj))
 ·have e1:rY (x.fz++ [b])=rY x.fz++ [.bool b]:=by simp [rY]
  show Row _ B0 iq 1 E' (e+1) c' (rY (x.fz++ [b]))
  rw [e1];exact Row.aG row ks (fun j hj e=>by have:=(Row.bE row hj).1;omega)
 ·exact Row.aG h'.wr la (fun j hj e=>e.elim (fun e=>by have:=(Row.bE h.wr hj).1;omega) (fun e=>h.EW j e hj))
 ·exact la.heap h'.box (fun e=>e.elim (fun e=>h.xr e.symm) (nB _ h.rB))
 ·rcases hb j e with e'|e'
  ·exact h.AE j hj e'
  ·obtain⟨_,cur,hc⟩:=Row.bE h'.mg hj
   have:=aT hc;omega
 ·rcases hb j hj with e'|e'
  ·exact h.EW j e' e
  ·obtain⟨_,cur,hc⟩:=Row.bE h'.wr e
   have:=aT hc;omega
end
section
variable{y w w':World}{F F' S:Nat->Prop}{r x k:Nat}{G:GS}{K:Value->World->Prop}{B0 xb rb n cp e ce nw cw:Nat}{A E W:Option Addr}{s:HT}{l:List HT}
set_option maxHeartbeats 2000000 in
theorem Et(h:R3 y F r x k G)(hD:G.D.length<=300)(qQ:k<=1000)(hB:B0<=y.heap.size)(gZ:∀j,(j=r\/j=x\/F j)->j<B0/\j≠xb/\j≠rb)(hM:∀z∈cj G s l,z∈ids G.D)(hs:s∈ids G.D)
 (V:VJ y B0 xb rb ⟨s,G.score s+1,cj G s l,[]⟩ A n cp none 0 0 W nw cw (G.world s++ [s]))
 (hK:∀v E e ce W nw cw,VJ v B0 xb rb (cI k G s l) A n cp E e ce W nw cw (dE k G s l).wd->Kept (fun j=>j=xb\/j=rb\/B0<=j) y (setCells v ⟨rb,0,none⟩ (cG (cI k G s l) A n cp E e ce).toList 0)->K (.tuple #[.agg (cG (cI k G s l) A n cp E e ce),.slice W nw cw]) (setCells v ⟨rb,0,none⟩ (cG (cI k G s l) A n cp E e ce).toList 0)):
 af.cH (some ⟨r,0,none⟩) ⟨B0,0,none⟩ ⟨rb,0,none⟩ none 0 0 ⟨xb,0,none⟩ W nw cw none 0 0 0 K y:=by
 unfold af.cH;have Lb:(cj G s l).length<=300:=by
  have:=cM (m:=ids G.D) (jv G s l).nodup hM;rw [gg]at this;omega
 have hn:(cj G s l).length=n:=bI.len V.mg;have hwl:=rZ h.fy hs;have DL:=zm h.fy hs;have hR:∀ {v:World},Kept (fun j=>j=xb\/B0<=j) y v->R3 v F r x k G:=fun kv=>h.aG kv (fun e=>by have:=gZ r (.inl rfl);omega) (fun e=>by have:=gZ x (.inr (.inl rfl));omega) (fun j hj e=>by have:=gZ j (.inr (.inr hj));omega);have vl:∀i,i<=n->(kc k G s l i).wd.length<=700:=fun i hi=>by
  obtain⟨b,h1,h2⟩:=GL k G.D (G.world s++ [s]) ((cj G s l).take i);have h3:=xF ((cj G s l).take i) b;rw [List.length_take]at h3;show(((cj G s l).take i).foldl (jB k G.D) ⟨G.world s++ [s],[]⟩).wd.length<=700;rw [h2];simp only [List.length_append,List.length_singleton];omega
 refine af.rv (I:=fun st v=>∃(i:Nat) (E:Option Addr) (e ce:Nat) (W:Option Addr) (nw cw:Nat),st=(W,nw,cw,(i:Int))/\i<=n/\VJ v B0 xb rb ⟨s,G.score s+1+(kc k G s l i).bl.count true,cj G s l,(kc k G s l i).bl⟩ A n cp E e ce W nw cw (kc k G s l i).wd/\Kept (fun j=>j=xb\/B0<=j) y v) (μ:=fun st _=>((n:Int)-st.2.2.2).toNat) (s:=(W,nw,cw,0)) ⟨0,none,0,0,W,nw,cw,rfl,Nat.zero_le _,V,Kept.refl _ _⟩ ?_;rintro st v ⟨i,E,e,ce,W,nw,cw,rfl,hi,Vv,kv⟩;unfold af.B3;refine⟨A,n,cp,Vv.f33,Split.dec (fun cJ=>?_) (fun gu=>?_)⟩
 ·simp only at cJ
  have dP:i<n:=by omega
  obtain⟨z,hz⟩:∃z,(cj G s l)[i]? =some z:=⟨_,List.getElem?_eq_getElem (by omega)⟩;have qf:=y5 (k:=k) hz;have yN:(cj G s l)[((i:Nat):Int).toNat]? =some z:=by rw [Int.toNat_natCast];exact hz
  have hnw:(kc k G s l i).wd.length=nw:=bI.len Vv.wr;have Xs:=vl i hi;have sv:=kv.size;refine⟨A,n,cp,Vv.f33,(bI.hs Vv.mg).load (i:=(i:Int)) (by omega) yN ?_⟩;refine o7 (hR kv) (by omega) (bI.hs Vv.wr) (by omega) z fun N cN w4 Se k4=>⟨N,_,cN,rfl,?_⟩;have nf:=kv.trans k4 (fun _ _ h=>h.elim);have XX:=hR nf;refine Is.mk rfl ⟨_,XX.c0,?_⟩;have yQ:(bM G.D (kc k G s l i).wd z).length<=700:=by
   have:=List.length_filter_le (fun b=>decide (lI G.D b z)) (kc k G s l i).wd;unfold bM;omega
  generalize MT:bM G.D (kc k G s l i).wd z=zE at Se yQ;have V4:=Vv.same k4;refine af.zL (I:=fun st u=>∃(b:Bool) (q:Nat),st=(b,(q:Int))/\q<=zE.length/\b=(decide (zE.length<=k)&&(zE.take q).all fun z=>decide ((bM G.D (kc k G s l i).wd z).length+1<=k))/\Kept Nil w4 u) (μ:=fun st _=>((zE.length:Int)-st.2).toNat) (s:=(decide ((zE.length:Int)<=(k:Int)),0)) ⟨_,0,rfl,Nat.zero_le _,by simp,Kept.refl _ _⟩ ?_;rintro st u ⟨b,q,rfl,hq,hb,ku⟩;have Xd:=nf.trans ku (fun _ _ h=>h.elim);have Vu:=V4.same ku;have fin:∀ {t:World},Kept Nil w4 t->b=lG k G.D (kc k G s l i).wd z->af.wF (some ⟨r,0,none⟩) ⟨rb,0,none⟩ none 0 0 ⟨xb,0,none⟩ W nw cw (i:Int) N zE.length cN b (q:Int) (bL (af.e3 (some ⟨r,0,none⟩) ⟨rb,0,none⟩ none 0 0 ⟨xb,0,none⟩) (fun st v=>∃(i:Nat) (E:Option Addr) (e ce:Nat) (W:Option Addr) (nw cw:Nat),st=(W,nw,cw,(i:Int))/\i<=n/\VJ v B0 xb rb ⟨s,G.score s+1+(kc k G s l i).bl.count true,cj G s l,(kc k G s l i).bl⟩ A n cp E e ce W nw cw (kc k G s l i).wd/\Kept (fun j=>j=xb\/B0<=j) y v) (fun st _=>((n:Int)-st.2.2.2).toNat) (W,nw,cw,(i:Int)) v (af.q3 K)) t:=fun {t} kt Cx=>by
   have Vt:=V4.same kt;have Mi:=nf.trans kt (fun _ _ h=>h.elim);have st:=Mi.size;have XS:(kc k G s l i).bl.length=e:=by have:=(Row.bo Vt.bl).len;simpa using this
   have hbi:=Db k G s l i (by omega);unfold af.wF;refine⟨E,e,ce,Vt.f34,?_⟩;intro w5;have k5:Kept Nil t w5:=(Kept.refl _ _).alloc _;have oE:w5.cell? ⟨t.heap.size,0,none⟩=some (.bool b):=by rw [aA (aI t _)];rfl
   clear_value w5;obtain⟨E',rX,u6,q1,q2,q3,q4⟩:=Vt.Hg (by omega) (by omega) k5 oE;refine⟨E',e+1,rX,u6,q1,q2,?_⟩;have Kz:=Mi.tt q4;rw [dt (n:=(i:Int)) (by omega) (by omega)];rw [jB,<-Cx]at qf;generalize u6.setCell ((⟨xb,0,none⟩:Addr).add 34) (.slice E' (e+1) rX)=w6 at q3 q4 Kz⊢;have s6:=Kz.size;cases b with
   |false=>
    refine Split.no rfl ⟨(W,nw,cw,(i:Int)+1),rfl,⟨i+1,E',e+1,rX,W,nw,cw,rfl,dP,?_,Kz⟩,by simp only;omega⟩;rw [qf];simpa [List.count_append]using q3
   |true=>
    refine Split.yes rfl ⟨A,n,cp,q3.f33,(bI.hs q3.mg).load (i:=(i:Int)) (by omega) yN ⟨z.2.1,?_⟩⟩;intro w7;have k7:Kept Nil w6 w7:=(Kept.refl _ _).alloc _;have ZH:=iV w6 z;obtain⟨W',RH,w8,r1,r2,r3⟩:=q3.Sn (by omega) (by omega) k7 ZH;refine⟨W',nw+1,RH,w8,r1,_,r2.f32,r2.wrx (by omega),?_⟩;have ajf:(kc k G s l i).bl.count true<=300:=by have:=List.count_le_length (a:=true) (l:=(kc k G s l i).bl);omega
    have ew:u64.wrap (((G.score s+1+(kc k G s l i).bl.count true:Nat):Int)+1)=((G.score s+1+(kc k G s l i).bl.count true+1:Nat):Int):=by
     rw [show((G.score s+1+(kc k G s l i).bl.count true:Nat):Int)+1=((G.score s+1+(kc k G s l i).bl.count true+1:Nat):Int)by omega];exact jJ (by omega)
    simp only;rw [ew];have r4:=r2.Oc (G.score s+1+(kc k G s l i).bl.count true+1);have r5:=r2.Oa 32 (.int .u64 ((G.score s+1+(kc k G s l i).bl.count true+1:Nat):Int));refine⟨(W',nw+1,RH,(i:Int)+1),rfl,⟨i+1,E',e+1,rX,W',nw+1,RH,rfl,dP,?_,(Kz.tt r3).trans r5 (fun _ _ h=>.inl h)⟩,by simp only;omega⟩;rw [qf];have ec:((kc k G s l i).bl++ [true]).count true=(kc k G s l i).bl.count true+1:=by simp [List.count_append]
    simp only [if_true];rw [ec,<-Nat.add_assoc];exact r4
  unfold af.B4;refine Split.dec (fun Ld=>?_) (fun P0=>?_)
  ·simp only at Ld
   refine Split.mk (fun wo=>?_) (fun wo=>?_)
   ·replace wo:b=true:=wo
    subst wo;have DO:q<zE.length:=by omega
    obtain⟨z2,hz2⟩:∃z2,zE[q]? =some z2:=⟨_,List.getElem?_eq_getElem DO⟩;intro w5;have k5:Kept Nil u w5:=(Kept.refl _ _).drew;clear_value w5;have Fk:=ku.tt k5;have yK:=nf.trans Fk (fun _ _ h=>h.elim);have hR5:=hR yK;refine((bI.hs Se).same Fk).load (i:=(q:Int)) (by omega) (by rw [Int.toNat_natCast];exact hz2) (Is.mk rfl ⟨_,hR5.c0,?_⟩);refine o7 hR5 (by omega) (bI.hs (V4.same Fk).wr) (by omega) z2 fun N2 c2 w6 BI k6=>⟨N2,_,c2,rfl,?_⟩;have KC:=Fk.tt k6;refine⟨(hR5.same k6).c0,?_⟩;simp only;rw [dt (n:=(q:Int)) (by omega) (by omega),gN (x:=(k:Int)-1) (by omega) (by omega)];refine⟨(decide (((bM G.D (kc k G s l i).wd z2).length:Int)<=(k:Int)-1),(q:Int)+1),rfl,⟨_,q+1,rfl,DO,?_,KC⟩,by simp only;omega⟩;rw [eq_comm,Bool.and_eq_true,decide_eq_true_eq]at hb;rw [decide_eq_true hb.1,Bool.true_and,List.take_add_one,hz2];simp only [Option.toList_some,List.all_append,hb.2,Bool.true_and,List.all_cons,List.all_nil,Bool.and_true];rw [decide_eq_decide];omega
   ·rw [aO,af.Bq]
    replace wo:b=false:=wo
    refine fin ku ?_;rw [wo]at hb⊢
    symm
    unfold lG;rw [MT,decide_eq_false_iff_not];rintro⟨g1,g2⟩;rw [decide_eq_true g1,Bool.true_and]at hb;have:=List.all_eq_false.1 hb.symm;obtain⟨z0,ZG,hz1⟩:=this;exact hz1 (decide_eq_true (g2 z0 (List.mem_of_mem_take ZG)))
  ·simp only at P0
   rw [aO,af.Bq];refine fin ku ?_;rw [List.take_of_length_le (by omega)]at hb;rw [hb];unfold lG;rw [MT,Bool.eq_iff_iff,Bool.and_eq_true,decide_eq_true_eq,decide_eq_true_eq,List.all_eq_true];simp only [decide_eq_true_eq]
 ·simp only at gu
  have:i=n:=by omega
  subst this;rw [aO,af.xK];rw [<-hn,Dc]at Vv;have FV:(⟨s,G.score s+1+(dE k G s l).bl.count true,cj G s l,(dE k G s l).bl⟩:nN)=cI k G s l:=rfl;rw [FV]at Vv;unfold af.sP;obtain⟨t1,t2,t3⟩:=dW Vv.box (cs:=cG (cI k G s l) A (cj G s l).length cp E e ce) (by rw [bf];rfl);refine⟨_,⟨bf ..,Cells.bE Vv.top⟩,⟨bf ..,eI _ _ _ _ _ _ _,fun j hj=>t1 j (by rw [bf];exact hj)⟩,_,⟨bf ..,Cells.bE t2⟩,?_⟩;rw [hn]at t3 Vv⊢;exact hK v E e ce W nw cw Vv ((kv.mono fun _ _ h=>h.imp (fun h=>h) (fun h=>.inr h)).trans t3 (fun _ _ h=>.inr (.inl h)))
end
theorem QV{G:GS}{l:List HT}{k:Nat}{x:HT}(h:SO G l)(h1:∀y∈l.take k,gl G y x=true)(h2:∀y∈l.drop k,gl G x y=true):SO G (l.take k++x::l.drop k):=by
 have h0:SO G (l.take k++l.drop k):=by rw [List.take_append_drop];exact h
 unfold SO at h0⊢;rw [List.pairwise_append]at h0⊢;refine⟨h0.1,List.pairwise_cons.2 ⟨h2,h0.2.1⟩,fun a ha b hb=>?_⟩;rcases List.mem_cons.1 hb with rfl|hb
 ·exact h1 a ha
 ·exact h0.2.2 a ha b hb
section
variable{y w w':World}{F F' S:Nat->Prop}{r x k:Nat}{G:GS}{K:Value->World->Prop}{B0 xb rb sb n cp e ce nw cw na ca:Nat}{A E W AA:Option Addr}{s:HT}{l all wd:List HT}
set_option maxHeartbeats 2000000 in
theorem Eu(h:R3 y F r x k G)(hD:G.D.length<=300)(hB:B0<=y.heap.size)(gZ:∀j,(j=r\/j=x\/F j)->j≠xb)(hs:s∈ids G.D)(Ia:y.heap[sb]? =some (.cells s.1 ai (0,0)))(Rn:sb≠xb)
 (cU:HS y AA na all) (X0:∀a,AA=some a->a.block≠xb) (hSS:SS all) (fC:∀z∈all,z∈ids G.D)
 (V:VJ y B0 xb rb ⟨s,G.score s+1,[],[]⟩ none 0 0 none 0 0 W nw cw wd)
 (hK:∀v A n cp M i,SO G M->(∀z,z∈M↔z∈all/\z≠s/\¬dN G.D z s)->VJ v B0 xb rb ⟨s,G.score s+1,M,[]⟩ A n cp none 0 0 W nw cw wd->Kept (· =xb) y v->af.cH (some ⟨r,0,none⟩) ⟨sb,0,none⟩ ⟨rb,0,none⟩ none 0 0 ⟨xb,0,none⟩ W nw cw AA na ca i K v):
 Holds none [] prog 179 (.loop (lB (bB (sR (sL (sR (sR (sR (sR (body af.fn)))))))))) (af.q1 K) [(0,.pointer (some ⟨r,0,none⟩)),(4,.pointer (some ⟨sb,0,none⟩)),(6,.pointer (some ⟨rb,0,none⟩)),(7,.slice none 0 0),(8,.pointer (some ⟨xb,0,none⟩)),(9,.slice W nw cw),(10,.slice AA na ca),(11,.int .i64 0)] y:=by
 have K8:=cU.len;have ais:na<=300:=by
  have:=cM (m:=ids G.D) hSS.nodup fC;rw [gg]at this;omega
 have hR:∀ {v:World},Kept (· =xb) y v->R3 v F r x k G:=fun kv=>h.aG kv (gZ r (.inl rfl)) (gZ x (.inr (.inl rfl))) (fun j hj=>gZ j (.inr (.inr hj)));refine af.b9 (I:=fun st v=>∃(i:Nat) (M:List HT) (A:Option Addr) (n cp:Nat),st=(i:Int)/\i<=na/\VJ v B0 xb rb ⟨s,G.score s+1,M,[]⟩ A n cp none 0 0 W nw cw wd/\SO G M/\(∀z,z∈M↔z∈all.take i/\z≠s/\¬dN G.D z s)/\Kept (· =xb) y v) (μ:=fun st _=>((na:Int)-st).toNat) (s:=0) ⟨0,[],none,0,0,rfl,Nat.zero_le _,V,List.Pairwise.nil,by simp,Kept.refl _ _⟩ ?_;rintro st v ⟨i,M,A,n,cp,rfl,hi,Vv,Cf,iI,kv⟩;unfold af.B1;refine Split.dec (fun cJ=>?_) (fun gu=>?_)
 ·have dP:i<na:=by omega
  obtain⟨z,hz⟩:∃z,all[i]? =some z:=⟨_,List.getElem?_eq_getElem (by omega)⟩;have O6:=fC z (List.mem_of_getElem? hz);have FU:all.take (i+1)=all.take i++ [z]:=by rw [List.take_add_one,hz];rfl
  have hMi:∀y∈M,y∈ids G.D:=fun y hy=>fC y (List.mem_of_mem_take ((iI y).1 hy).1);have hMl:M.length<=300:=by
   have:=cM (m:=ids G.D) Cf.nodup hMi;rw [gg]at this;omega
  have hMn:M.length=n:=bI.len Vv.mg;have sv:=kv.size;refine(cU.aG kv X0).load (i:=(i:Int)) (by omega) hz ?_;intro w2;obtain⟨sD,jz,jS⟩:=gR (w:=v) (z:=dZ.1) (cs:=z.1) (t:=ai) (by rw [z.2.1];rfl);refine⟨⟨z.2.1,z.2.one,fun j hj=>sD j (by rw [z.2.1];exact hj)⟩,?_⟩;intro w3 w4
  replace jz:w3.heap[v.heap.size]? =some (.cells z.1 ai (0,0)):=jz
  replace jS:Kept Nil v w3:=jS
  have k4:Kept Nil w3 w4:=(Kept.refl _ _).drew;clear_value w4;have qJ:=k4.heap jz (fun h=>h);have Ox:=jS.tt k4;clear_value w3;have nf:=kv.trans Ox (fun _ _ h=>h.elim);have Ph:∀ {u:World},Kept (· =xb) y u->Cells u ⟨sb,0,none⟩ s.1:=fun ku=>Cells.bE (ku.heap Ia Rn);have next:∀ {u:World} {M':List HT} {A':Option Addr} {n' wv:Nat},VJ u B0 xb rb ⟨s,G.score s+1,M',[]⟩ A' n' wv none 0 0 W nw cw wd->SO G M'->(∀z,z∈M'↔z∈all.take (i+1)/\z≠s/\¬dN G.D z s)->Kept (· =xb) y u->
   ∃s1:Int,i64.wrap ((i:Int)+(1:Int))=s1/\(∃(i:Nat) (M:List HT) (A:Option Addr) (n cp:Nat),s1=(i:Int)/\i<=na/\VJ u B0 xb rb ⟨s,G.score s+1,M,[]⟩ A n cp none 0 0 W nw cw wd/\SO G M/\(∀z,z∈M↔z∈all.take i/\z≠s/\¬dN G.D z s)/\Kept (· =xb) y u)/\((na:Int)-s1).toNat<((na:Int)-(i:Int)).toNat:=fun h1 h2 h3 h4=>by
   rw [dt (n:=(i:Int)) (by omega) (by omega)];exact⟨(i:Int)+1,rfl,⟨i+1,_,_,_,_,rfl,dP,h1,h2,h3,h4⟩,by omega⟩
  have skip:(z=s\/dN G.D z s)->∀z',z'∈M↔z'∈all.take (i+1)/\z'≠s/\¬dN G.D z' s:=fun ZG z'=>by
   rw [iI,FU,List.mem_append,List.mem_singleton];constructor
   ·rintro⟨a,b⟩;exact⟨.inl a,b⟩
   ·rintro⟨a|rfl,b,c⟩
    ·exact⟨a,b,c⟩
    ·rcases ZG with e|e
     ·exact absurd e b
     ·exact absurd e c
  refine⟨z.1,⟨z.2.1,Cells.bE qJ⟩,s.1,⟨s.2.1,Ph nf⟩,⟨z.2.ints,s.2.ints⟩,?_⟩;rw [dH];refine Split.dec (fun DJ=>?_) (fun DJ=>?_)
  ·obtain⟨s1,e1,e2,e3⟩:=next (Vv.same Ox) Cf (skip (.inl DJ)) nf
   rw [e1];exact⟨s1,rfl,e2,e3⟩
  have XX:=hR nf;refine Is.mk rfl ⟨_,XX.c1,Is.mk rfl ⟨z.1,⟨z.2.1,Cells.bE qJ⟩,s.1,⟨s.2.1,Ph nf⟩,?_⟩⟩;rw [add_zero];refine nW XX.X.gr h.fy.W (by omega) z s fun w5 b hb k5=>⟨b,rfl,?_⟩;have Ow:=Ox.tt k5;have yK:=kv.trans Ow (fun _ _ h=>h.elim);refine Split.mk (fun hbt=>?_) (fun XT=>?_)
  ·obtain⟨s1,e1,e2,e3⟩:=next (Vv.same Ow) Cf (skip (.inr (hb.1 hbt))) yK
   rw [e1];exact⟨s1,rfl,e2,e3⟩
  have hzA:¬dN G.D z s:=fun e=>by rw [hb.2 e]at XT;cases XT
  have V5:=Vv.same Ow;have oE:=k5.heap qJ (fun h=>h);have hzM:z∉M:=fun e=>by
   have h1:=((iI z).1 e).1;have eW:=hSS.nodup;obtain⟨q,hq⟩:=List.mem_iff_getElem?.1 h1;rw [List.getElem?_take]at hq;split at hq
   ·rename_i hqi
    have:=(List.getElem?_inj (i:=q) (j:=i) (by rw [K8];omega) eW).1 (by rw [hq,hz]);omega
   ·cases hq
  refine⟨A,n,cp,V5.f33,?_⟩;refine af.gC (I:=fun st u=>∃q:Nat,st=(q:Int)/\q<=M.length/\(∀y∈M.drop q,gl G z y=true)/\Kept Nil w5 u) (μ:=fun st _=>st.toNat) (s:=(n:Int)) ⟨n,rfl,by omega,by rw [<-hMn];simp,Kept.refl _ _⟩ ?_;rintro st u ⟨q,rfl,hq,vo,ku⟩;unfold af.B2;have rK:∀ {t:World},Kept Nil w5 t->(∀y∈M.take q,gl G y z=true)->af.ik (some ⟨r,0,none⟩) ⟨sb,0,none⟩ ⟨rb,0,none⟩ none 0 0 ⟨xb,0,none⟩ W nw cw AA na ca (i:Int) ⟨v.heap.size,0,none⟩ (q:Int) (bL (af.e1 (some ⟨r,0,none⟩) ⟨sb,0,none⟩ ⟨rb,0,none⟩ none 0 0 ⟨xb,0,none⟩ W nw cw AA na ca) (fun st v=>∃(i:Nat) (M:List HT) (A:Option Addr) (n cp:Nat),st=(i:Int)/\i<=na/\VJ v B0 xb rb ⟨s,G.score s+1,M,[]⟩ A n cp none 0 0 W nw cw wd/\SO G M/\(∀z,z∈M↔z∈all.take i/\z≠s/\¬dN G.D z s)/\Kept (· =xb) y v) (fun st _=>((na:Int)-st).toNat) (i:Int) v (af.q1 K)) t:=by
   intro t kt xm;have Vt:=V5.same kt;have Mi:=yK.trans kt (fun _ _ h=>h.elim);have st:=Mi.size;have xS:=Vt.mg;have yo:n<=cp:=by rcases Row.own xS with⟨_,h1,h2,_⟩|⟨_,_,_,_,_,h1,_⟩<;>omega
   unfold af.ik;refine⟨A,n,cp,Vt.f33,⟨by omega,by omega⟩,?_⟩;have yi:HS t (if cp=0 then A else A.map (·.add (0*32))) ((q:Int).toNat -0) (M.take q):=by
    have h:=xS.hs.take (k:=q) (by omega);rw [Nat.sub_zero,Int.toNat_natCast];have e:(if cp=0 then A else A.map (·.add (0*32)))=A:=by
     split
     ·rfl
     ·cases A<;>simp [add_zero]
    rw [e];exact h
   obtain⟨A1,c1,u2,mE,fW,Ln,lh⟩:=cD (cx:=cp-0) aC (bI.nil t t.heap.size) yi (by simp;omega) (Nat.le_refl _);have k2:Kept Nil t u2:=Kept.eh (Kept.refl _ _) Ln (fun k hk=>by cases hk);rw [Nat.zero_add,Nat.sub_zero,Int.toNat_natCast]at mE fW;rw [List.nil_append]at fW;refine⟨A1,_,c1,u2,by rw [Nat.sub_zero,Int.toNat_natCast];exact mE,?_⟩;refine⟨z.1,⟨z.2.1,Cells.bE ((kt.tt k2).heap oE (fun h=>h))⟩,z.2.1,?_⟩;intro u3;have k3:Kept Nil u2 u3:=(Kept.refl _ _).alloc _;have VD:HS u3 (some ⟨u2.heap.size,0,none⟩) 1 [z]:=iV u2 z;clear_value u3;have mQ:bI u3 t.heap.size A1 q c1 (M.take q):=Row.aG fW k3 (fun _ _ h=>h);have s2:=k2.size;have s3:=k3.size;obtain⟨A4,c4,u4,xn,iE,DY,ajl⟩:=cD (cx:=1) aC mQ VD (by omega) (by omega);have KK:Kept Nil t u4:=Kept.eh (k2.tt k3) DY (fun k hk=>by rcases lh k hk with h|h;cases h;exact h);have V4:=Vt.same KK;refine⟨A4,_,c4,u4,xn,A,n,cp,V4.f33,⟨by omega,by omega⟩,?_⟩;have Rp:HS u4 (if cp=(q:Int).toNat then A else A.map (·.add ((q:Int).toNat*32))) (n-(q:Int).toNat) (M.drop q):=by
    rw [Int.toNat_natCast];exact(xS.hs.same KK).drop yo (by omega)
   have XK:(n-(q:Int).toNat)=n-q:=by rw [Int.toNat_natCast]
   have s4:=KK.size;obtain⟨A5,c5,u5,tL,iY,U5,ajk⟩:=cD (cx:=cp-(q:Int).toNat) aC iE Rp (by omega) s4;have QE:∀j,a8 A4=some j->t.heap.size<=j:=fun j hj=>(Row.bE iE hj).1;have k5':Kept Nil t u5:=Kept.eh KK U5 QE;have Gy:=Vt.same k5';refine⟨A5,_,c5,u5,tL,Gy.wrx (by omega),?_⟩;have mU:M.take q++ [z]++M.drop q=M.take q++z::M.drop q:=by simp
   have yQ:(M.take q++z::M.drop q).length=n+1:=by simp;omega
   rw [mU]at iY;have e5:q+1+(n-(q:Int).toNat)=n+1:=by omega
   rw [e5]at iY⊢;have FL:∀j,a8 A5=some j->t.heap.size<=j:=fun j hj=>(Row.bE iY hj).1;have ks:=Gy.Oa 33 (.slice A5 (n+1) c5);have Vf:VJ (u5.setCell ((⟨xb,0,none⟩:Addr).add 33) (.slice A5 (n+1) c5)) B0 xb rb ⟨s,G.score s+1,M.take q++z::M.drop q,[]⟩ A5 (n+1) c5 none 0 0 W nw cw wd:=by
    have xB:=Gy.xB;refine⟨?_,?_,Row.aG Gy.bl ks (fun j hj=>by cases hj),Row.aG Gy.wr ks (fun j hj e=>by have:=(Row.bE Gy.wr hj).1;omega),ks.heap Gy.box Gy.xr.symm,fun j hj e=>(by cases e),fun j hj e=>?_,fun j hj=>(by cases hj),Gy.xB,Gy.rB,Gy.xr⟩
    ·rw [bg,dc Gy.top]
     have:=qL ⟨s,G.score s+1,M,[]⟩ A n cp none 0 0 #[] A5 (n+1) c5;rw [Array.append_empty,Array.append_empty]at this;rw [this];rfl
    ·have TS:bI u5 B0 A5 (n+1) c5 (M.take q++z::M.drop q):=Row.base iY (fun j hj=>by have:=FL j hj;omega)
     exact Row.aG TS ks (fun j hj e=>by have:=FL j hj;omega)
    ·obtain⟨_,cur,hc⟩:=Row.bE Vt.wr e
     have:=aT hc;have:=FL j hj;omega
   generalize u5.setCell ((⟨xb,0,none⟩:Addr).add 33) (.slice A5 (n+1) c5)=u6 at ks Vf⊢;obtain⟨s1,e1,e2,e3⟩:=next Vf (QV Cf xm vo) (fun z'=>by
    rw [FU,List.mem_append (s:=all.take i),List.mem_singleton];have hM2:z'∈M.take q++z::M.drop q↔z'=z\/z'∈M:=by
     rw [List.mem_append,List.mem_cons];constructor
     ·rintro(h|h|h)
      ·exact .inr (List.mem_of_mem_take h)
      ·exact .inl h
      ·exact .inr (List.mem_of_mem_drop h)
     ·rintro(h|h)
      ·exact .inr (.inl h)
      ·rw [<-List.take_append_drop q M,List.mem_append]at h
       exact h.imp (fun h=>h) (fun h=>.inr h)
    rw [hM2,iI];constructor
    ·rintro(rfl|⟨a,b⟩)
     ·exact⟨.inr rfl,DJ,hzA⟩
     ·exact⟨.inl a,b⟩
    ·rintro⟨a|rfl,b⟩
     ·exact .inr ⟨a,b⟩
     ·exact .inl rfl) ((Mi.trans k5' (fun _ _ h=>h.elim)).tt ks)
   rw [e1];exact⟨s1,rfl,e2,e3⟩
  intro w6;have k6:Kept Nil u w6:=(Kept.refl _ _).drew;clear_value w6;have KC:=ku.tt k6;have V6:=V5.same KC;have Kz:=yK.trans KC (fun _ _ h=>h.elim);refine Split.dec (fun jt=>?_) (fun ym=>?_)
  ·have MP:0<q:=by omega
   obtain⟨y1,O8⟩:∃y1,M[q-1]? =some y1:=⟨_,List.getElem?_eq_getElem (by omega)⟩;have Mz:=List.mem_of_getElem? O8;rw [wN (x:=(q:Int)-1) (i:=q-1) (by omega) (by omega)];refine⟨z.1,⟨z.2.1,Cells.bE (KC.heap oE (fun h=>h))⟩,A,n,cp,V6.f33,(bI.hs V6.mg).load (i:=((q-1:Nat):Int)) (by omega) (by rw [Int.toNat_natCast];exact O8) ?_⟩;refine ql (hR Kz) (by omega) O6 (hMi y1 Mz) fun w7 k7=>⟨_,rfl,?_⟩;have ku7:=KC.tt k7;refine Split.mk (fun hc=>?_) (fun hc=>?_)
   ·refine⟨((q-1:Nat):Int),rfl,⟨q-1,rfl,by omega,fun z' yN=>?_,ku7⟩,by simp only;omega⟩
    have hd:M.drop (q-1)=y1::M.drop q:=by
     obtain⟨h1,h2⟩:=lgeS O8;rw [List.drop_eq_getElem_cons h1,h2,show q-1+1=q by omega]
    rw [hd]at yN;rcases List.mem_cons.1 yN with rfl|yN
    ·exact hc
    ·exact vo z' yN
   ·rw [aO,af.jA]
    refine rK ku7 fun z' yN=>?_;have DK:gl G y1 z=true:=by
     cases hg:gl G y1 z
     ·exact absurd (mu hc hg) (fun e=>hzM (by rw [e];exact Mz))
     ·rfl
    obtain⟨j,hj⟩:=List.mem_iff_getElem?.1 yN;rw [List.getElem?_take]at hj;split at hj
    ·rename_i hjq
     by_cases e:j=q-1
     ·subst e;rw [O8]at hj;cases hj;exact DK
     ·obtain⟨a1,a2⟩:=lgeS hj
      obtain⟨b1,b2⟩:=lgeS O8;have:=List.pairwise_iff_getElem.1 Cf j (q-1) a1 b1 (by omega);rw [a2,b2]at this;exact mr this DK
    ·cases hj
  ·rw [aO,af.jA]
   have MP:q=0:=by omega
   refine rK KC fun z' yN=>?_;rw [MP]at yN;simp at yN
 ·rw [aO,af.df]
  rw [List.take_of_length_le (by omega)]at iI;exact hK v A n cp M (i:Int) Cf iI Vv kv
end
section
variable{w w':World}{F F' S:Nat->Prop}{r x k:Nat}{G:GS}{K:Value->World->Prop}{xb rb sb n cx:Nat}{A:Option Addr}{s:HT}{l:List HT}
theorem NO{v:World}(h:R3 v F r x k G)(hD:G.D.length<=300)(qQ:k<=1000)(hs:s∈ids G.D)(hl:HS v A n l)(hn:n<=5000)(fC:∀z∈l,z∈ids G.D)(gZ:∀j,(j=r\/j=x\/F j)->j≠xb/\j≠rb)
 (Ia:v.heap[sb]? =some (.cells s.1 ai (0,0))) (wh:v.heap[rb]? =some (.cells zC bn (0,0))) (Rj:v.heap[xb]? =some (.cells (cG ⟨s,G.score s+1,[],[]⟩ none 0 0 none 0 0) bn (0,0))) (Rn:sb≠xb) (hrx:xb≠rb)
 (hK:∀u A n cp E e ce W nw cw,bI u v.heap.size A n cp (cI k G s l).merge->Row u v.heap.size iq 1 E e ce (rY (cI k G s l).fz)->bI u v.heap.size W nw cw (dE k G s l).wd->Kept (fun j=>j=xb\/j=rb) v u->K (.tuple #[.agg (cG (cI k G s l) A n cp E e ce),.slice W nw cw]) u):
 af.J1 (some ⟨r,0,none⟩) A n cx ⟨sb,0,none⟩ ⟨rb,0,none⟩ none 0 0 ⟨xb,0,none⟩ K v:=by
 have W0:=h.fy.W;have lsb:=aT Ia;have lrb:=aT wh;have lxb:=aT Rj;have hwl:=rZ h.fy hs;have j2:∀ {u:World} {W:Option Addr} {nw cw:Nat},bI u v.heap.size W nw cw (G.world s++ [s])->Kept Nil v u->af.J2 (some ⟨r,0,none⟩) A n cx ⟨sb,0,none⟩ ⟨rb,0,none⟩ none 0 0 ⟨xb,0,none⟩ W nw cw K u:=by
  intro u W nw cw YT ku;have hu:=h.same ku;have su:=ku.size;unfold af.J2;refine Is.mk rfl ⟨_,hu.c1,Is.mk rfl ?_⟩;rw [add_zero];refine uD hu.X.gr W0 (by omega) (hl.same ku) (by omega) fun A1 c1 w1 lK k1=>⟨A1,_,c1,rfl,?_⟩;have qG:(du G.D l).length<=300:=Nat.le_trans (mc _ _) hD;have s1:=k1.size;have Fm:=ku.tt k1;obtain⟨A2,c2,w2,jD,fW,g2,_⟩:=cD aC lK (cx:=cx) (hl.same Fm) (by omega) s1;have k2:Kept Nil u w2:=Kept.eh k1 g2 (fun j hj=>(Row.bE lK hj).1);refine⟨A2,_,c2,w2,jD,?_⟩;refine nV fW.hs (by omega) fun A3 c3 w3 mQ k3=>⟨A3,_,c3,rfl,?_⟩;have Mj:=k2.tt k3;have rC:=ku.tt Mj;have h3:=h.same rC;have cU:∀z∈di (du G.D l++l),z∈ids G.D:=fun z hz=>by
   rcases List.mem_append.1 (dd.1 hz)with hz|hz
   ·exact(jb.1 hz).1
   ·exact fC z hz
  have V3:VJ w3 v.heap.size xb rb ⟨s,G.score s+1,[],[]⟩ none 0 0 none 0 0 W nw cw (G.world s++ [s]):=
   ⟨rC.heap Rj (fun h=>h),bI.nil _ _,Row.nil _ _ _ _,Row.aG YT Mj (fun _ _ h=>h),rC.heap wh (fun h=>h),fun j hj=>(by cases hj),fun j hj=>(by cases hj),fun j hj=>(by cases hj),lxb,lrb,hrx⟩
  have s3:=rC.size;refine Eu h3 (by omega) (by omega) (fun j hj=>(gZ j hj).1) hs (rC.heap Ia (fun h=>h)) Rn mQ.hs (fun a ha e=>by
   subst ha;have:=(Row.bE mQ (k:=a.block) rfl).1;have:=(ku.tt k2).size;omega) (ir _) cU V3 fun t A n cp M i Cf iI Vt kt=>?_
  have hM:M=cj G s l:=nt Cf fun z=>by
   rw [iI];unfold pw;rw [List.mem_filter,decide_eq_true_eq]
  subst hM;have ht:=h3.aG kt (gZ r (.inl rfl)).1 (gZ x (.inr (.inl rfl))).1 (fun j hj=>(gZ j (.inr (.inr hj))).1);have st:=kt.size;refine Et (B0:=v.heap.size) ht (by omega) qQ (by omega) (fun j hj=>⟨?_,gZ j hj⟩) (fun z hz=>?_) hs Vt fun t2 E e ce W nw cw V2 BZ=>?_
  ·rcases hj with rfl|rfl|hj
   ·exact h.lt
   ·exact h.lx
   ·exact h.lo j hj
  ·exact cU z ((iI z).1 hz).1
  ·have box:=V2.box
   obtain⟨_,_,f3⟩:=dW box (cs:=cG (cI k G s l) A n cp E e ce) (by rw [bf];rfl);refine hK _ A n cp E e ce W nw cw (Row.aG V2.mg f3 (fun j hj e=>by have:=(Row.bE V2.mg hj).1;omega)) (Row.aG V2.bl f3 (fun j hj e=>by have:=(Row.bE V2.bl hj).1;omega)) (Row.aG V2.wr f3 (fun j hj e=>by have:=(Row.bE V2.wr hj).1;omega)) ?_;exact((rC.mono fun _ _ h=>h.elim).trans kt (fun j hj e=>.inl e)).trans BZ (fun j hj e=>by
    rcases e with e|e|e
    ·exact .inl e
    ·exact .inr e
    ·omega)
 unfold af.J1;intro w1;have k1:Kept Nil v w1:=(Kept.refl _ _).drew;clear_value w1;have h1:=h.same k1;obtain⟨i,nd,cl,wl,q1,q2,q3,q4,q5,q6,q7,q8⟩:=Nu h.fy hs;obtain⟨A0,c0,B,e,g1,g2,g3⟩:=h.top;have cB:∀ {u:World},Kept Nil v u->u.cell? ((⟨r,0,none⟩:Addr).add 3)=some (.slice B G.D.length e):=fun ku=>by rw [bg,aA (ku.heap g1 (fun h=>h))];rfl
 have gW:∀ {u:World},Kept Nil v u->pN u F B G.D.length G.j0:=fun ku=>g3.aG ku (fun _ _ h=>h);obtain⟨aB,Aw,nw,cw,p1,p2,p3,p4,p5,p6⟩:=g3.at_ i wl q4;subst p1;have ahC:wl.length=nw:=p5.len;rw [q7]at hwl;have cW:∀ {u:World},Kept Nil v u->u.cell? (aB.add (((i:Nat):Int).toNat*1))=some (.slice Aw nw cw):=fun ku=>by rw [Int.toNat_natCast];exact ku.cell p4 (fun h=>h)
 have hW:∀ {u:World},Kept Nil v u->HS u Aw nw wl:=fun ku=>p5.same ku;have bx:∀ {u:World},Kept Nil v u->∃cs:Array Value,(.agg s.1:Value)=.agg cs/\cs.size=32/\Cells u ⟨sb,0,none⟩ cs:=fun ku=>⟨_,rfl,s.2.1,Cells.bE (ku.heap Ia (fun h=>h))⟩;have QP:∀ {u:World},Kept Nil v u->∃A' c' u',(Builtin.append_ #[aC,aC] aC #[.slice none 0 0,.slice Aw nw cw]).run prog u=.ok (.slice A' nw c') u'/\bI u' v.heap.size A' nw c' wl/\Kept Nil u u':=fun {u} ku=>by
  obtain⟨A',c',u',hr,row,hg,_⟩:=cD (cx:=cw) aC (bI.nil u v.heap.size) (hW ku) (by omega) ku.size;rw [Nat.zero_add]at hr row;rw [List.nil_append]at row;exact⟨A',c',u',hr,row,Kept.eh (Kept.refl _ _) hg (fun j hj=>by cases hj)⟩
 have QO:∀ {u:World} {A':Option Addr} {c' bq:Nat},Kept Nil v u->bI u v.heap.size A' nw c' wl->HS u (some ⟨bq,0,none⟩) 1 [s]->∃A2 c2 u',(Builtin.append_ #[aC,aC] aC #[.slice A' nw c',.slice (some ⟨bq,0,none⟩) 1 1]).run prog u=.ok (.slice A2 (nw+1) c2) u'/\bI u' v.heap.size A2 (nw+1) c2 (G.world s++ [s])/\Kept Nil v u':=fun {u A' c' bq} ku row hx=>by
  obtain⟨A2,c2,u',hr,fW,hg,_⟩:=cD (cx:=1) aC row hx (by omega) ku.size;rw [<-q7]at fW;exact⟨A2,c2,u',hr,fW,Kept.eh ku hg (fun j hj=>(Row.bE row hj).1)⟩
 refine Is.mk rfl ⟨some aB,_,e,cB k1,Is.mk rfl ⟨_,h1.c1,Is.mk rfl ⟨s.1,⟨s.2.1,Cells.bE (k1.heap Ia (fun h=>h))⟩,s.1,⟨s.2.1,Cells.bE (k1.heap Ia (fun h=>h))⟩,?_,?_⟩⟩⟩
 ·rw [add_zero]
  refine mR h1.X.gr (by omega) s fun w2 k2=>⟨_,rfl,?_⟩;have yL:=k1.tt k2;rw [q5];refine⟨bx yL,cB yL,⟨by omega,by omega⟩,Is.mk rfl ⟨Aw,nw,cw,cW yL,?_,?_⟩⟩
  ·obtain⟨A1,c1,w3,wi,mQ,k3⟩:=QP yL
   have rC:=yL.tt k3;refine⟨A1,nw,c1,w3,wi,bx rC,s.2.1,?_⟩;intro w4;have k4:Kept Nil w3 w4:=(Kept.refl _ _).alloc _;have TB:=iV w3 s;obtain⟨A2,c2,w5,tL,iY,k5⟩:=QO (rC.tt k4) (Row.aG mQ k4 (fun _ _ h=>h)) TB;exact⟨A2,nw+1,c2,w5,tL,af.qq (j2 iY k5)⟩
  ·refine⟨s.2.1,?_⟩
   intro w3;have k3:Kept Nil w2 w3:=(Kept.refl _ _).alloc _;have Cd:HS w3 (some ⟨w2.heap.size,0,none⟩) 1 [s]:=iV w2 s;clear_value w3;have rC:=yL.tt k3;obtain⟨A1,c1,w4,xn,iE,k4⟩:=QP rC;obtain⟨A2,c2,w5,tL,iY,k5⟩:=QO (rC.tt k4) iE (Cd.same k4);exact⟨cW rC,cB rC,A1,nw,c1,w4,xn,A2,nw+1,c2,w5,tL,af.qq (j2 iY k5)⟩
 ·refine⟨s.2.1,?_⟩
  intro w2;have k2:Kept Nil w1 w2:=(Kept.refl _ _).alloc _;have Rl:HS w2 (some ⟨w1.heap.size,0,none⟩) 1 [s]:=iV w1 s;clear_value w2;have yL:=k1.tt k2;refine⟨bx yL,(h.same yL).c1,cB yL,?_⟩;rw [add_zero];refine mR (h.same yL).X.gr (by omega) s fun w3 k3=>⟨_,rfl,?_⟩;have rC:=yL.tt k3;rw [q5];obtain⟨A1,c1,w4,xn,iE,k4⟩:=QP rC;obtain⟨A2,c2,w5,tL,iY,k5⟩:=QO (rC.tt k4) iE ((Rl.same k3).same k4);exact⟨cB rC,⟨by omega,by omega⟩,Is.mk rfl ⟨Aw,nw,cw,cW rC,A1,nw,c1,w4,xn,A2,nw+1,c2,w5,tL,af.qq (j2 iY k5)⟩⟩
theorem vX(h:R3 w F r x k G)(hD:G.D.length<=300)(qQ:k<=1000)(hs:s∈ids G.D)(hl:HS w A n l)(hn:n<=5000)(fC:∀z∈l,z∈ids G.D)
 (hK:∀u A n cp E e ce W nw cw,bI u w.heap.size A n cp (cI k G s l).merge->Row u w.heap.size iq 1 E e ce (rY (cI k G s l).fz)->bI u w.heap.size W nw cw (dE k G s l).wd->Kept Nil w u->K (.tuple #[.agg (cG (cI k G s l) A n cp E e ce),.slice W nw cw]) u):
 bk prog af.id #[.pointer (some ⟨r,0,none⟩),.agg s.1,.slice A n cx] w K:=by
 refine af.of ?_;unfold af.W;intro w1 w2 w3;have k1:Kept Nil w w1:=(Kept.refl _ _).alloc _;have yi:w1.heap[w.heap.size]? =some (.cells s.1 ai (0,0)):=aI w _;have k2:Kept Nil w1 w2:=(Kept.refl _ _).alloc _;have jD:w2.heap[w1.heap.size]? =some (.cells zC bn (0,0)):=aI w1 _;have k3:Kept Nil w2 w3:=(Kept.refl _ _).drew;clear_value w3;have wi:=k3.heap jD (fun h=>h);have Cg:=k3.heap (k2.heap yi (fun h=>h)) (fun h=>h);have lC:=(k1.tt k2).tt k3;have s1:=k1.size;have l1:=aT yi;have l2:=aT wi;clear_value w2 w1;have DL:=zm h.fy hs;have ew:u64.wrap ((G.score s:Int)+(1:Int))=((G.score s+1:Nat):Int):=by
  rw [show(G.score s:Int)+1=((G.score s+1:Nat):Int)by omega];exact jJ (by omega)
 have FV:(s.1++ #[.int .u64 ((G.score s+1:Nat):Int),.slice none 0 0,.slice none 0 0]:Array Value)=cG ⟨s,G.score s+1,[],[]⟩ none 0 0 none 0 0:=rfl;have go:∀ {u:World} {xb:Nat},Kept Nil w3 u->w3.heap.size<=xb->u.heap[xb]? =some (.cells (cG ⟨s,G.score s+1,[],[]⟩ none 0 0 none 0 0) bn (0,0))->af.J1 (some ⟨r,0,none⟩) A n cx ⟨w.heap.size,0,none⟩ ⟨w1.heap.size,0,none⟩ none 0 0 ⟨xb,0,none⟩ K u:=fun {u xb} ku hx Rj=>by
  have Xn:=lC.tt ku;have s0:=lC.size;refine NO (h.same Xn) hD qQ hs (hl.same Xn) hn fC (fun j hj=>?_) (ku.heap Cg (fun h=>h)) (ku.heap wi (fun h=>h)) Rj (by omega) (by omega) fun t A n cp E e ce W nw cw g1 g2 g3 g4=>?_
  ·have:j<w.heap.size:=by
    rcases hj with rfl|rfl|hj
    ·exact h.lt
    ·exact h.lx
    ·exact h.lo j hj
   exact⟨by omega,by omega⟩
  ·have s0u:=Xn.size
   exact hK t A n cp E e ce W nw cw (Row.base g1 (fun j hj=>by have:=(Row.bE g1 hj).1;omega)) (Row.base g2 (fun j hj=>by have:=(Row.bE g2 hj).1;omega)) (Row.base g3 (fun j hj=>by have:=(Row.bE g3 hj).1;omega)) (Xn.trans g4 (fun j hj e=>by rcases e with e|e<;>omega))
 have bx:∀ {u:World},Kept Nil w3 u->∃cs:Array Value,(.agg s.1:Value)=.agg cs/\cs.size=32/\Cells u ⟨w.heap.size,0,none⟩ cs:=fun ku=>⟨_,rfl,s.2.1,Cells.bE (ku.heap Cg (fun h=>h))⟩;refine⟨s.1,⟨s.2.1,Cells.bE Cg⟩,s.1,⟨s.2.1,Cells.bE Cg⟩,?_,?_⟩
 ·refine km (h.same lC) (by omega) hs fun w4 k4=>⟨_,rfl,bx k4,?_⟩
  rw [ew,vK s];refine Is.mk rfl ?_;rw [FV];intro w5;have k5:Kept Nil w4 w5:=(Kept.refl _ _).alloc _;have Rk:w5.heap[w4.heap.size]? =some (.cells zC bn (0,0)):=aI w4 _;clear_value w5;have nM:=k4.tt k5;obtain⟨t1,t2,t3⟩:=dW Rk (cs:=cG ⟨s,G.score s+1,[],[]⟩ none 0 0 none 0 0) (by rw [bf];rfl);refine⟨bx nM,⟨bf ..,eI _ _ _ _ _ _ _,fun j hj=>t1 j (by rw [bf];exact hj)⟩,?_⟩;have s4:=k4.size;exact af.oA (go (nM.trans t3 (fun j hj e=>by omega)) s4 t2)
 ·intro w4
  have k4:Kept Nil w3 w4:=(Kept.refl _ _).alloc _;have TB:w4.heap[w3.heap.size]? =some (.cells zC bn (0,0)):=aI w3 _;clear_value w4;refine⟨bx k4,bx k4,?_⟩;refine km (h.same (lC.tt k4)) (by omega) hs fun w5 k5=>⟨_,rfl,bx (k4.tt k5),?_⟩;have nM:=k4.tt k5;rw [ew,vK s];refine Is.mk rfl ?_;rw [FV];obtain⟨t1,t2,t3⟩:=dW (k5.heap TB (fun h=>h)) (cs:=cG ⟨s,G.score s+1,[],[]⟩ none 0 0 none 0 0) (by rw [bf];rfl);refine⟨⟨bf ..,eI _ _ _ _ _ _ _,fun j hj=>t1 j (by rw [bf];exact hj)⟩,?_⟩;exact af.oA (go (nM.trans t3 (fun j hj e=>by omega)) (Nat.le_refl _) t2)
end
theorem De:yU prog tU bn 35 88:=⟨by kernel_rfl,by kernel_rfl⟩
theorem Sa:yU prog fF aC 1 24:=⟨by kernel_rfl,by kernel_rfl⟩
section
variable{w w':World}{F F' S:Nat->Prop}{A:Option Addr}{n c B m bytes:Nat}{tS tE:TypeId}{news:List Value}
theorem zl{a:Addr}(P:Nat->Array Value->Prop):∀n,(∀i,i<n->∃arr:Array Value,arr.size=m/\(∀u∈arr.toList,u.oneCell'=true)/\Cells w (a.add (i*m)) arr/\P i arr)->
 ∃news:List Value,news.length=n*m/\(∀j u,news[j]? =some u->w.cell? (a.add j)=some u)/\(∀u∈news,u.oneCell'=true)/\∀i,i<n->∃arr:Array Value,P i arr/\arr.size=m/\∀(j:Nat) v,arr[j]? =some v->news[i*m+j]? =some v
 |0,_=>⟨[],by simp,fun j u h=>by simp at h,fun u h=>by simp at h,fun i h=>by omega⟩
 |n+1,H=>by
  obtain⟨news,h1,h2,h3,h4⟩:=zl P n fun i hi=>H i (by omega);obtain⟨arr,g1,g2,g3,g4⟩:=H n (by omega);refine⟨news++arr.toList,by rw [List.length_append,h1,Array.length_toList,g1,Nat.add_mul,Nat.one_mul],fun j u hj=>?_,fun u hu=>?_,fun i hi=>?_⟩
  ·rw [List.getElem?_append]at hj
   split at hj
   ·exact h2 j u hj
   ·rename_i gu
    rw [h1]at hj gu;have:=g3 (j-n*m) u (by simpa using hj)
    rwa [lr,show n*m+(j-n*m)=j by omega]at this
  ·rcases List.mem_append.1 hu with hu|hu
   ·exact h3 u hu
   ·exact g2 u hu
  ·by_cases fC:i<n
   ·obtain⟨ar,q1,q2,q3⟩:=h4 i fC
    exact⟨ar,q1,q2,fun j v hj=>by
     have:=q3 j v hj;rw [List.getElem?_append_left (lgeS this).1];exact this⟩
   ·obtain rfl:i=n:=by omega
    exact⟨arr,g4,g1,fun j v hj=>by
     rw [List.getElem?_append_right (by omega),h1,show i*m+j-i*m=j by omega,Array.getElem?_toList];exact hj⟩
theorem yD(T:yU prog tS tE m bytes)(hb:bytes<=1000)(hn:n<=100000){a:Addr}{cx:Nat}(P:Nat->Array Value->Prop)(H:∀i,i<n->∃arr:Array Value,arr.size=m/\(∀u∈arr.toList,u.oneCell'=true)/\Cells w (a.add (i*m)) arr/\P i arr):
 ∃A' c' w' news,(Builtin.append_ #[tS,tS] tS #[.slice none 0 0,.slice (some a) n cx]).run prog w=.ok (.slice A' n c') w'/\Row w' w.heap.size tE m A' n c' news/\Kept Nil w w'/\∀i,i<n->∃arr:Array Value,P i arr/\arr.size=m/\∀(j:Nat) v,arr[j]? =some v->news[i*m+j]? =some v:=by
 obtain⟨news,e1,e2,e3,e4⟩:=zl (w:=w) (m:=m) P n H;obtain⟨A',c',w',hr,fk,hg,_⟩:=fE (P:=prog) (ty:=tS) T (Row.nil w w.heap.size _ _) (a:=a) (m:=n) (cx:=cx) (news:=news) e1 e2 e3 (by rw [Nat.zero_add];have:=Nat.mul_le_mul hn hb;omega) (by unfold maxLen;omega) (Nat.le_refl _);rw [Nat.zero_add]at hr fk;rw [List.nil_append]at fk;exact⟨A',c',w',news,hr,fk,Kept.eh (Kept.refl _ _) hg (fun j hj=>by cases hj),e4⟩
theorem yC(T:yU prog tS tE m bytes)(hb:bytes<=1000)(hn:n<=100000)(h:Row w B tE m A n c news)(hB:B<=w.heap.size){b:Nat}{arr:Array Value}{t:TypeId}(jz:w.heap[b]? =some (.cells arr t (0,0)))(hs:arr.size=m)(h1:∀u∈arr.toList,u.oneCell'=true):
 ∃A' c' w',(Builtin.append_ #[tS,tS] tS #[.slice A n c,.slice (some ⟨b,0,none⟩) 1 1]).run prog w=.ok (.slice A' (n+1) c') w'/\Row w' B tE m A' (n+1) c' (news++arr.toList)/\w.grownBy w' (a8 A):=by
 obtain⟨A',c',w',hr,fk,hg,_⟩:=fE (P:=prog) (ty:=tS) T h (a:=⟨b,0,none⟩) (m:=1) (cx:=1) (news:=arr.toList) (by simpa using hs)
  (fun j u hj=>by rw [bg,Nat.zero_add,aA jz];simpa using hj) h1 (by have:=Nat.mul_le_mul (show n+1<=100001 by omega) hb;omega) (by unfold maxLen;omega) hB
 exact⟨A',c',w',hr,fk,hg⟩
def Jp(w:World)(F:Nat->Prop)(l:List nN)(i:Nat)(arr:Array Value):Prop:=∃x A1 n1 c1 B1 m1 d1,l[i]? =some x/\arr=cG x A1 n1 c1 B1 m1 d1/\HS w A1 n1 x.merge/\Bo w B1 m1 x.fz/\(∀b,A1=some b->F b.block)/\(∀b,B1=some b->F b.block)
def QU(w:World)(F:Nat->Prop)(l:List (List HT))(i:Nat)(arr:Array Value):Prop:=∃x A1 n1 c1,l[i]? =some x/\arr= #[.slice A1 n1 c1]/\HS w A1 n1 x/\(∀b,A1=some b->F b.block)
theorem qP.zl{l:List nN}(h:qP w F A n l):(0<n->∃a,A=some a)/\∀a,A=some a->∀i,i<n->∃arr:Array Value,arr.size=35/\(∀u∈arr.toList,u.oneCell'=true)/\Cells w (a.add (i*35)) arr/\Jp w F l i arr:=by
 have hl:=h.len;refine⟨fun h0=>?_,fun a ha i hi=>?_⟩
 ·obtain⟨x,hx⟩:∃x,l[0]? =some x:=⟨_,List.getElem?_eq_getElem (by omega)⟩
  obtain⟨a,_,_,_,_,_,_,g1,_⟩:=h.at_ 0 x hx;exact⟨a,g1⟩
 ·obtain⟨x,hx⟩:∃x,l[i]? =some x:=⟨_,List.getElem?_eq_getElem (by omega)⟩
  obtain⟨a',A1,n1,c1,B1,m1,d1,g1,g2,g3,g4,g5,g6,g7,g8⟩:=h.at_ i x hx;rw [ha]at g1;cases g1;exact⟨_,bf ..,eI _ _ _ _ _ _ _,g4,x,A1,n1,c1,B1,m1,d1,hx,rfl,g5,g6,g7,g8⟩
theorem pN.zl{l:List (List HT)}(h:pN w F A n l):(0<n->∃a,A=some a)/\∀a,A=some a->∀i,i<n->∃arr:Array Value,arr.size=1/\(∀u∈arr.toList,u.oneCell'=true)/\Cells w (a.add (i*1)) arr/\QU w F l i arr:=by
 have hl:=h.len;refine⟨fun h0=>?_,fun a ha i hi=>?_⟩
 ·obtain⟨x,hx⟩:∃x,l[0]? =some x:=⟨_,List.getElem?_eq_getElem (by omega)⟩
  obtain⟨a,_,_,_,g1,_⟩:=h.at_ 0 x hx;exact⟨a,g1⟩
 ·obtain⟨x,hx⟩:∃x,l[i]? =some x:=⟨_,List.getElem?_eq_getElem (by omega)⟩
  obtain⟨a',A1,n1,c1,g1,g2,g3,g4,g5,g6⟩:=h.at_ i x hx;rw [ha]at g1;cases g1;refine⟨#[.slice A1 n1 c1],rfl,fun u hu=>?_,fun j u hj=>?_,x,A1,n1,c1,hx,rfl,g5,g6⟩
  ·simp at hu;subst hu;rfl
  ·cases j with
   |zero=>simp at hj;subst hj;rw [add_zero];exact g4
   |succ j=>simp at hj
theorem qP.snoc{l:List nN}{x:nN}{A1 B1:Option Addr}{n1 c1 m1 d1:Nat}{w0:World}(h:Row w B bn 35 A (n+1) c (news++(cG x A1 n1 c1 B1 m1 d1).toList))(yQ:news.length=n*35)(hl:l.length=n)(k0:Kept Nil w0 w)(hF:∀j,a8 A=some j->F' j)(XY:∀j,F j->F' j)
 (hc:∀i,i<n->∃arr:Array Value,Jp w0 F l i arr/\arr.size=35/\∀(j:Nat) v,arr[j]? =some v->news[i*35+j]? =some v)
 (g1:HS w A1 n1 x.merge) (g2:Bo w B1 m1 x.fz) (g3:∀b,A1=some b->F' b.block) (g4:∀b,B1=some b->F' b.block):qP w F' A (n+1) (l++ [x]):=by
 refine⟨by simp [hl],fun i y hi=>?_⟩;obtain⟨b,rfl⟩:=Row.some h (by omega);obtain⟨_,cur,kR⟩:=Row.bE h (k:=b) rfl;rw [List.getElem?_append]at hi;split at hi
 ·rename_i cJ
  obtain⟨arr,⟨y',A2,n2,c2,B2,m2,d2,q1,rfl,q3,q4,q5,q6⟩,q7,q8⟩:=hc i (by omega);rw [hi]at q1;cases q1;exact⟨_,A2,n2,c2,B2,m2,d2,rfl,aT kR,hF b rfl,fun j v hj=>by
   rw [lr];have:=q8 j v hj;exact Row.cells h _ _ (by rw [List.getElem?_append_left (lgeS this).1];exact this),q3.same k0,q4.same k0,fun b hb=>XY _ (q5 b hb),fun b hb=>XY _ (q6 b hb)⟩
 ·rename_i gu
  have FG:i=n/\y=x:=by
   cases hk:i-l.length with
   |zero=>rw [hk]at hi;exact⟨by omega,by simpa using hi.symm⟩
   |succ k=>rw [hk]at hi;simp at hi
  obtain⟨rfl,rfl⟩:=FG;exact⟨_,A1,n1,c1,B1,m1,d1,rfl,aT kR,hF b rfl,fun j v hj=>by
   rw [lr];exact Row.cells h _ _ (by rw [List.getElem?_append_right (by omega),yQ,show i*35+j-i*35=j by omega,Array.getElem?_toList];exact hj),g1,g2,g3,g4⟩
theorem pN.snoc{l:List (List HT)}{x:List HT}{A1:Option Addr}{n1 c1:Nat}{w0:World}(h:Row w B aC 1 A (n+1) c (news++(#[.slice A1 n1 c1]:Array Value).toList))(yQ:news.length=n*1)(hl:l.length=n)(k0:Kept Nil w0 w)(hF:∀j,a8 A=some j->F' j)(XY:∀j,F j->F' j)
 (hc:∀i,i<n->∃arr:Array Value,QU w0 F l i arr/\arr.size=1/\∀(j:Nat) v,arr[j]? =some v->news[i*1+j]? =some v)
 (g1:HS w A1 n1 x) (g3:∀b,A1=some b->F' b.block):pN w F' A (n+1) (l++ [x]):=by
 refine⟨by simp [hl],fun i y hi=>?_⟩;obtain⟨b,rfl⟩:=Row.some h (by omega);obtain⟨_,cur,kR⟩:=Row.bE h (k:=b) rfl;rw [List.getElem?_append]at hi;split at hi
 ·rename_i cJ
  obtain⟨arr,⟨y',A2,n2,c2,q1,rfl,q3,q4⟩,q7,q8⟩:=hc i (by omega);rw [hi]at q1;cases q1;have:=q8 0 _ rfl;exact⟨_,A2,n2,c2,rfl,aT kR,hF b rfl,Row.cells h _ _ (by rw [Nat.add_zero]at this;rw [List.getElem?_append_left (lgeS this).1];exact this),q3.same k0,fun b hb=>XY _ (q4 b hb)⟩
 ·rename_i gu
  have FG:i=n/\y=x:=by
   cases hk:i-l.length with
   |zero=>rw [hk]at hi;exact⟨by omega,by simpa using hi.symm⟩
   |succ k=>rw [hk]at hi;simp at hi
  obtain⟨rfl,rfl⟩:=FG;exact⟨_,A1,n1,c1,rfl,aT kR,hF b rfl,Row.cells h _ _ (by rw [List.getElem?_append_right (by omega),yQ,show i*1-i*1=0 by omega];rfl),g1,g3⟩
end
section
variable{w w':World}{F:Nat->Prop}{r x k:Nat}{G:GS}{K:Value->World->Prop}
theorem xW(root:HT)(k:Nat)(hK:∀v r x F,R3 v F r x k (cS root)->(∀j,F j->w.heap.size<=j)->w.heap.size<=r->w.heap.size<=x->Kept Nil w v->K (.pointer (some ⟨r,0,none⟩)) v):
 bk prog jT.id #[.int .i64 (k:Int),.agg root.1] w K:=by
 refine jT.of ?_;unfold jT.W;intro w1;have k1:Kept Nil w w1:=(Kept.refl _ _).alloc _;have yq:w1.heap[w.heap.size]? =some (.cells root.1 ai (0,0)):=aI w _;clear_value w1;refine⟨root.1,⟨root.2.1,Cells.bE yq⟩,?_⟩;refine xY root fun w2 x FX hX hFX hx k2=>⟨_,rfl,rfl,?_⟩;have kL:=k1.tt k2;intro w3 w4 w5;have k3:Kept Nil w2 w3:=(Kept.refl _ _).alloc _;have Qf:w3.heap[w2.heap.size]? =some (.cells zC bn (0,0)):=aI w2 _;have k4:Kept Nil w3 w4:=(Kept.refl _ _).alloc _;have hw4:w4.heap[w3.heap.size]? =some (.cells #[.slice none 0 0] aC (0,0)):=aI w3 _;have k5:Kept Nil w4 w5:=(Kept.refl _ _).alloc _;have ht5:w5.heap[w4.heap.size]? =some (.cells #[.int .i64 (k:Int),.pointer (some ⟨x,0,none⟩),.slice (some ⟨w2.heap.size,0,none⟩) 1 1,.slice (some ⟨w3.heap.size,0,none⟩) 1 1] gH (0,0)):=aI w4 _;clear_value w5;have ZQ:=k5.heap hw4 (fun h=>h);have hc5:=k5.heap (k4.heap Qf (fun h=>h)) (fun h=>h);have DB:=(k3.tt k4).tt k5;have s02:=kL.size;have l3:=aT Qf;have l4:=aT hw4;have l5:=aT ht5;have s1:=k1.size;have s2:=k2.size;have lx:=hX.lt;clear_value w4 w3;refine hK w5 w4.heap.size x (fun j=>FX j\/j=w2.heap.size\/j=w3.heap.size) ⟨⟨some ⟨w2.heap.size,0,none⟩,1,some ⟨w3.heap.size,0,none⟩,1,ht5,⟨rfl,fun i y hi=>?_⟩,⟨rfl,fun i y hi=>?_⟩⟩,(hX.same DB).mono (fun j e=>.inl e) (fun e=>?_),fun e=>?_,by omega,iZ k root,fun j e=>?_⟩ (fun j e=>?_) (by omega) (by omega) (kL.tt DB)
 ·cases i with
  |zero=>
   have:y=⟨dZ,0,[],[]⟩:=by simpa [cS]using hi.symm
   subst this;refine⟨_,none,0,0,none,0,0,rfl,by show w2.heap.size<_;omega,.inr (.inl rfl),fun j u hj=>?_,HS.nil _ _,⟨rfl,fun i b h=>by simp at h⟩,fun b hb=>(by cases hb),fun b hb=>(by cases hb)⟩;rw [Nat.zero_mul,add_zero,bg,Nat.zero_add,aA hc5];exact hj
  |succ i=>simp [cS]at hi
 ·cases i with
  |zero=>
   have:y= []:=by simpa [cS]using hi.symm
   subst this;refine⟨_,none,0,0,rfl,by show w3.heap.size<_;omega,.inr (.inr rfl),?_,HS.nil _ _,fun b hb=>(by cases hb)⟩;rw [Nat.zero_mul,add_zero,aA ZQ];rfl
  |succ i=>simp [cS]at hi
 ·rcases e with e|e|e
  ·exact hX.gZ e
  ·omega
  ·omega
 ·rcases e with e|e|e
  ·have:=(hFX _ e).2;omega
  ·omega
  ·omega
 ·rcases e with e|e|e
  ·have:=(hFX _ e).2;omega
  ·omega
  ·omega
 ·rcases e with e|e|e
  ·have:=(hFX _ e).1;omega
  ·omega
  ·omega
end
section
variable{w w':World}{F:Nat->Prop}{r x k:Nat}{G:GS}{K:Value->World->Prop}{A:Option Addr}{n cx:Nat}{l:List HT}
set_option maxHeartbeats 2000000 in
theorem xX(h:R3 w F r x k G)(hD:G.D.length<=300)(qQ:k<=1000)(hl:HS w A n l)(hn:n<=5000)(id:HT)
 (hE:dr G.D id l≠0->∀w',Kept Nil w w'->K (.tuple #[.agg LL,.int .i64 (dr G.D id l)]) w')
 (hO:dr G.D id l=0->∀w' A n c B e ce,R3 w' (fun j=>F j\/(w.heap.size<=j/\j<w'.heap.size)) r x k (cV k G id l)->Kept (fun j=>j=r\/j=x) w w'->HS w' A n (cI k G (bN G l) l).merge->Bo w' B e (cI k G (bN G l) l).fz->(∀a,A=some a\/B=some a->w.heap.size<=a.block)->K (.tuple #[.agg (cG (cI k G (bN G l) l) A n c B e ce),.int .i64 0]) w'):
 bk prog dB.id #[.pointer (some ⟨r,0,none⟩),.agg id.1,.slice A n cx] w K:=by
 have W0:=h.fy.W;have Le:=h.lt;have MW:=h.lx;refine dB.of ?_;unfold dB.W;intro w1 w2;have k1:Kept Nil w w1:=(Kept.refl _ _).alloc _;have Lj:w1.heap[w.heap.size]? =some (.cells id.1 ai (0,0)):=aI w _;have k2:Kept Nil w1 w2:=(Kept.refl _ _).alloc _;have jD:w2.heap[w1.heap.size]? =some (.cells zC bn (0,0)):=aI w1 _;clear_value w2;have Ct:=k2.heap Lj (fun h=>h);have kL:=k1.tt k2;have s1:=k1.size;have l1:=aT Lj;have l2:=aT jD;clear_value w1;have h2:=h.same kL;obtain⟨A0,c0,B0,e0,sl,g1,g2,g3,g4,g5⟩:=h2.X.ex;refine Is.mk rfl ⟨_,h2.c1,Is.mk rfl ⟨#[.slice A0 G.D.length c0],⟨rfl,fun j u hj=>?_⟩,?_⟩⟩
 ·cases j with
  |zero=>simp at hj;subst hj;rw [add_zero,add_zero,aA g1];rfl
  |succ j=>simp at hj
 intro w3;have k3:Kept Nil w2 w3:=(Kept.refl _ _).alloc _;have U7:w3.heap[w2.heap.size]? =some (.cells #[.slice none 0 0] hZ (0,0)):=aI w2 _;clear_value w3;obtain⟨t1,t2,t3⟩:=dW U7 (cs:= #[.slice A0 G.D.length c0]) rfl;refine⟨⟨rfl,fun u hu=>by simp at hu;subst hu;rfl,fun j hj=>t1 j hj⟩,?_⟩;intro w4
 replace t2:w4.heap[w2.heap.size]? =some (.cells #[.slice A0 G.D.length c0] hZ (0,0)):=t2
 replace t3:Kept (· =w2.heap.size) w3 w4:=t3
 clear_value w4;have qp:Kept Nil w2 w4:=k3.trans t3 (fun j hj e=>by omega);have pE:=kL.tt qp;have s2:=kL.size;refine⟨id.1,⟨id.2.1,Cells.bE (qp.heap Ct (fun h=>h))⟩,?_⟩;have hIR:tV w4 F w2.heap.size G.D:=⟨⟨A0,c0,_,_,t2,rfl,g2.same qp⟩,fun e=>by have:=h.lo _ e;omega⟩;refine Dk hIR W0 (by omega) (hl.same pE) (by omega) fun w5 _ k5=>⟨_,rfl,?_⟩;have DB:Kept Nil w2 w5:=qp.trans k5 (fun j hj e=>by omega);have tk:=kL.tt DB;have tL:=DB.heap jD (fun h=>h);have Li:=DB.heap Ct (fun h=>h);by_cases hc:dr G.D id l≠0
 ·obtain⟨f1,f2,f3⟩:=dW tL (cs:=zC) rfl
  refine Split.yes (by simpa using hc) ⟨⟨rfl,by show ∀u∈(LL:Array Value).toList,_;exact eI _ _ _ _ _ _ _,fun j hj=>f1 j hj⟩,?_⟩;exact⟨_,⟨rfl,Cells.bE f2⟩,hE hc _ (tk.trans f3 (fun j hj e=>by omega))⟩
 have hc:dr G.D id l=0:=by omega
 refine Split.no (by rw [hc];rfl) ?_;obtain⟨_,e9,_,cU⟩:=jM hc;have fC:∀z∈l,z∈ids G.D:=fun z hz=>cU z (dd.2 hz);refine tF (h.same tk) (by omega) (hl.same tk) e9 (by omega) fC fun w6 k6=>⟨_,rfl,?_⟩;have zY:=DB.tt k6;have qE:=kL.tt zY;generalize ml:bN G l=s;have Bh:s∈l:=by rw [<-ml];exact gq e9
 intro w7;have k7:Kept Nil w6 w7:=(Kept.refl _ _).alloc _;have VN:w7.heap[w6.heap.size]? =some (.cells dZ.1 ai (0,0)):=aI w6 _;clear_value w7;obtain⟨q1,q2,q3⟩:=jG s VN rfl;refine⟨q1,?_⟩;intro w8
 replace q2:w8.heap[w6.heap.size]? =some (.cells s.1 ai (0,0)):=q2
 replace q3:Kept (· =w6.heap.size) w7 w8:=q3
 clear_value w8;have Xj:Kept Nil w6 w8:=k7.trans q3 (fun j hj e=>by omega);have HE:=zY.tt Xj;have ud:=kL.tt HE;have s06:=qE.size;have s08:=ud.size;have s28:=HE.size;refine⟨s.1,⟨s.2.1,Cells.bE q2⟩,?_⟩;refine vX (h.same ud) hD qQ (fC s Bh) (hl.same ud) hn fC fun w9 Am nm cm E e ce Wd nw cw rm rb rw9 k9=>⟨_,Wd,nw,cw,rfl,?_⟩;have KM:=HE.tt k9;have Fv:=kL.tt KM;have s09:=Fv.size;have s89:=k9.size;intro w10;have mG:Kept Nil w9 w10:=(Kept.refl _ _).alloc _;have abM:w10.heap[w9.heap.size]? =some (.cells zC bn (0,0)):=aI w9 _;clear_value w10;obtain⟨f1,f2,f3⟩:=dW abM (cs:=cG (cI k G s l) Am nm cm E e ce) (by rw [bf];rfl);refine⟨⟨bf ..,eI _ _ _ _ _ _ _,fun j hj=>f1 j (by rw [bf];exact hj)⟩,?_⟩;intro qi lR
 replace f2:qi.heap[w9.heap.size]? =some (.cells (cG (cI k G s l) Am nm cm E e ce) bn (0,0)):=f2
 replace f3:Kept (· =w9.heap.size) w10 qi:=f3
 have vf:Kept Nil qi lR:=(Kept.refl _ _).drew;clear_value lR;have Vs:=vf.heap f2 (fun h=>h);have OC:Kept Nil w9 lR:=(mG.trans f3 (fun j hj e=>by omega)).tt vf;clear_value qi;have OM:=KM.tt OC;have sy:=kL.tt OM;have agz:=sy.size;have ag0:=aT Vs;have D7:=h.same sy;refine Is.mk rfl ⟨_,D7.c1,id.1,⟨id.2.1,Cells.bE (OM.heap Ct (fun h=>h))⟩,s.1,⟨s.2.1,Cells.bE ((k9.tt OC).heap q2 (fun h=>h))⟩,?_⟩;refine ET D7.X D7.lo (by omega) (hl.same sy) (by omega) fun lV V7 rI=>⟨_,rfl,?_⟩;have eX:nE G.D id s l=(cV k G id l).D/\nD G.D G.P id s l=(cV k G id l).P:=by rw [<-ml];exact⟨Jj.symm,Jk.symm⟩
 rw [eX.1,eX.2]at V7;intro iu;have Gp:Kept Nil lV iu:=(Kept.refl _ _).drew;clear_value iu;have zZ:Kept (· =x) lR iu:=rI.trans Gp (fun _ _ h=>h.elim);have DH:Kept (· =x) w iu:=(sy.mono fun _ _ h=>h.elim).tt zZ;have adF:=zZ.size;have Ac:=jH (k:=k) (G:=G) (h:=id) (ps:=l) hc;rw [ml]at Ac;obtain⟨A1,c1,B1,e1,p1,p2,p3⟩:=h.top;have Ol:=DH.heap p1 h.ne;have Oj:qP iu F A1 G.D.length G.rN:=p2.aG DH (fun j hj e=>h.X.gZ (by rw [<-e];exact hj));have YW:pN iu F B1 G.D.length G.j0:=p3.aG DH (fun j hj e=>h.X.gZ (by rw [<-e];exact hj));have jt:=W0.pos;obtain⟨⟨a1,Au⟩,MK⟩:=(⟨Oj.zl.1 jt,Oj.zl.2⟩:(∃a,A1=some a)/\_);subst Au;have Qg:=zZ.heap Vs (by omega);have aan:=zZ.heap (OM.heap jD (fun h=>h)) (by omega);have bm:∀j,a8 Am=some j->w8.heap.size<=j/\j<w9.heap.size:=fun j hj=>by obtain⟨z1,cur,z2⟩:=Row.bE rm hj;exact⟨z1,aT z2⟩
 have bb:∀j,a8 E=some j->w8.heap.size<=j/\j<w9.heap.size:=fun j hj=>by obtain⟨z1,cur,z2⟩:=Row.bE rb hj;exact⟨z1,aT z2⟩
 have bw:∀j,a8 Wd=some j->w8.heap.size<=j/\j<w9.heap.size:=fun j hj=>by obtain⟨z1,cur,z2⟩:=Row.bE rw9 hj;exact⟨z1,aT z2⟩
 have KD:Kept (· =x) w9 iu:=(OC.mono fun _ _ h=>h.elim).tt zZ;have agf:=KD.size;have Sy:HS iu Am nm (cI k G s l).merge:=(bI.hs rm).aG KD (fun a ha e=>by have:=bm a.block (by rw [ha];rfl);omega);have WJ:Bo iu E e (cI k G s l).fz:=(Row.bo rb).aG KD (fun a ha e=>by have:=bb a.block (by rw [ha];rfl);omega);have Yz:HS iu Wd nw (dE k G s l).wd:=(bI.hs rw9).aG KD (fun a ha e=>by have:=bw a.block (by rw [ha];rfl);omega);have bF:∀ {A:Option Addr} {b:Addr},(∀j,a8 A=some j->w8.heap.size<=j/\j<w9.heap.size)->A=some b->w.heap.size<=b.block/\b.block<iu.heap.size:=fun hA hb=>by
  have:=hA _ (by rw [hb];rfl);omega
 rw [ml]at hO;have tail:∀ {u:World} {Aa:Option Addr} {ca:Nat} {news:List Value},Row u iu.heap.size bn 35 Aa (G.D.length+1) ca (news++(cG (cI k G s l) Am nm cm E e ce).toList)->news.length=G.D.length*35->(∀i,i<G.D.length->∃arr:Array Value,Jp iu F G.rN i arr/\arr.size=35/\∀(j:Nat) v,arr[j]? =some v->news[i*35+j]? =some v)->Kept Nil iu u->
  Wr u ((⟨r,0,none⟩:Addr).add 2)/\let a3:=u.setCell ((⟨r,0,none⟩:Addr).add 2) (.slice Aa (G.D.length+1) ca);Is (some (⟨r,0,none⟩:Addr)) fun b3:Addr=>∃c3:Option Addr,∃d3 e3:Nat,a3.cell? (b3.add 3)=some (.slice c3 d3 e3)/\∃(f3:Option Addr) (g3 i3:Nat) (j3:World),(Builtin.append_ #[fF,fF] fF #[.slice none 0 0,.slice c3 d3 e3]).run prog a3=.ok (.slice f3 g3 i3) j3/\let k3:=j3.alloc (.cells #[.slice Wd nw cw] aC);∃(m3:Option Addr) (n3 o3:Nat) (p3:World),(Builtin.append_ #[fF,fF] fF #[.slice f3 g3 i3,.slice (some (⟨j3.heap.size,0,none⟩:Addr)) 1 1]).run prog k3=.ok (.slice m3 n3 o3) p3/\Is (some (⟨r,0,none⟩:Addr)) fun q3:Addr=>Wr p3 (q3.add 3)/\let r3:=p3.setCell (q3.add 3) (.slice m3 n3 o3);∃t3:Array Value,(t3.size=35/\Cells r3 (⟨w9.heap.size,0,none⟩:Addr) t3)/\(t3.size=35/\(∀u3∈t3.toList,u3.oneCell'=true)/\∀v3,v3<35->Wr r3 ((⟨w1.heap.size,0,none⟩:Addr).add v3))/\let x3:=setCells r3 (⟨w1.heap.size,0,none⟩:Addr) t3.toList 0;∃y3:Array Value,(y3.size=35/\Cells x3 (⟨w1.heap.size,0,none⟩:Addr) y3)/\K (.tuple #[.agg y3,.int .i64 0]) x3:=by
  intro u Aa ca news row yQ vp ku;have pu:=ku.heap Ol (fun h=>h);have su:=ku.size;refine⟨by rw [bg];exact dO pu (by simp),?_⟩;intro u1;have pu1:u1.heap[r]? =some (.cells #[.int .i64 (k:Int),.pointer (some ⟨x,0,none⟩),.slice Aa (G.D.length+1) ca,.slice B1 G.D.length e1] gH (0,0)):=by
   show(u.setCell ((⟨r,0,none⟩:Addr).add 2) (.slice Aa (G.D.length+1) ca)).heap[r]? =_;rw [bg,dc pu];rfl
  have Fm:Kept (· =r) u u1:=by
   show Kept (· =r) u (u.setCell ((⟨r,0,none⟩:Addr).add 2) (.slice Aa (G.D.length+1) ca))
   rw [bg];exact Kept.setCell (S:=(· =r)) (Kept.refl _ u) (p:=⟨r,0+2,none⟩) (fun _=>rfl) _
  clear_value u1;have HM:Kept (· =r) iu u1:=(ku.mono fun _ _ h=>h.elim).tt Fm;have pw1:pN u1 F B1 G.D.length G.j0:=YW.aG HM (fun j hj e=>h.gZ (by rw [<-e];exact hj));obtain⟨⟨b1,yq⟩,TL⟩:=(⟨pw1.zl.1 jt,pw1.zl.2⟩:(∃a,B1=some a)/\_);subst yq;obtain⟨Aw,c2,u2,nws,KZ,fW,BZ,hcw⟩:=yD (w:=u1) Sa (by omega) (by omega) (cx:=e1) (QU u1 F G.j0) (TL b1 rfl);refine Is.mk rfl ⟨some b1,G.D.length,e1,by rw [bg,aA pu1];rfl,Aw,_,c2,u2,KZ,?_⟩;intro u3;have zX:Kept Nil u2 u3:=(Kept.refl _ _).alloc _;have Cd:u3.heap[u2.heap.size]? =some (.cells #[.slice Wd nw cw] aC (0,0)):=aI u2 _;clear_value u3;have su1:=Fm.size;have su2:=BZ.size;have YI:=zX.size;obtain⟨W5,c3,u4,xn,iE,DY⟩:=yC Sa (by omega) (by omega) (Row.aG fW zX (fun _ _ h=>h)) (by omega) Cd rfl (fun v hv=>by simp at hv;subst hv;rfl);have KO:Kept Nil u1 u4:=Kept.eh (BZ.tt zX) DY (fun j hj=>(Row.bE fW hj).1);have pu4:=KO.heap pu1 (fun h=>h);refine⟨W5,_,c3,u4,xn,Is.mk rfl ⟨by rw [bg];exact dO pu4 (by simp),?_⟩⟩;intro u5;have pu5:u5.heap[r]? =some (.cells #[.int .i64 (k:Int),.pointer (some ⟨x,0,none⟩),.slice Aa (G.D.length+1) ca,.slice W5 (G.D.length+1) c3] gH (0,0)):=by
   show(u4.setCell ((⟨r,0,none⟩:Addr).add 3) (.slice W5 (G.D.length+1) c3)).heap[r]? =_;rw [bg,dc pu4];rfl
  have Fk:Kept (· =r) u4 u5:=by
   show Kept (· =r) u4 (u4.setCell ((⟨r,0,none⟩:Addr).add 3) (.slice W5 (G.D.length+1) c3))
   rw [bg];exact Kept.setCell (S:=(· =r)) (Kept.refl _ u4) (p:=⟨r,0+3,none⟩) (fun _=>rfl) _
  clear_value u5;have S7:Kept (· =r) u1 u5:=(KO.mono fun _ _ h=>h.elim).tt Fk;have Mu:Kept (· =r) iu u5:=HM.tt S7;have hc5:=Mu.heap Qg (by omega);have tL:=Mu.heap aan (by omega);obtain⟨z1,z2,z3⟩:=dW tL (cs:=cG (cI k G s l) Am nm cm E e ce) (by rw [bf];rfl);refine⟨_,⟨bf ..,Cells.bE hc5⟩,⟨bf ..,eI _ _ _ _ _ _ _,fun j hj=>z1 j (by rw [bf];exact hj)⟩,?_⟩;intro u6
  replace z2:u6.heap[w1.heap.size]? =some (.cells (cG (cI k G s l) Am nm cm E e ce) bn (0,0)):=z2
  replace z3:Kept (· =w1.heap.size) u5 u6:=z3
  clear_value u6;refine⟨_,⟨bf ..,Cells.bE z2⟩,?_⟩;have kwr:∀j,j=r\/j=w1.heap.size->¬iu.heap.size<=j:=fun j hj e=>by rcases hj with hj|hj<;>omega
  have Xf:Kept (fun j=>j=r\/j=w1.heap.size) u u6:=((Fm.mono fun _ _ h=>.inl h).trans S7 (fun _ _ h=>.inl h)).trans z3 (fun _ _ h=>.inr h);have DD:Kept (fun j=>j=r\/j=w1.heap.size) iu u6:=(ku.mono fun _ _ h=>h.elim).tt Xf;have su6:=DD.size;have s46:u4.heap.size<=u6.heap.size:=by have:=Fk.size;have:=z3.size;omega
  have s26:u.heap.size<=u6.heap.size:=Xf.size;have Kt:∀j,F j->j<w.heap.size:=h.lo
  let F2:Nat->Prop:=fun j=>F j\/(w8.heap.size<=j/\j<w9.heap.size)\/(iu.heap.size<=j/\j<u6.heap.size)
  have QA:∀j,F2 j->¬(j=r\/j=w1.heap.size):=fun j hj e=>by
   rcases hj with hj|hj|hj
   ·have:=Kt j hj
    rcases e with e|e
    ·exact h.gZ (by rw [<-e];exact hj)
    ·omega
   ·omega
   ·omega
  have Wm:∀j,F2 j->F j\/(w.heap.size<=j/\j<u6.heap.size):=fun j hj=>by
   rcases hj with hj|hj|hj
   ·exact .inl hj
   ·exact .inr ⟨by omega,by omega⟩
   ·exact .inr ⟨by omega,hj.2⟩
  refine hO hc u6 Am nm cm E e ce ⟨⟨Aa,ca,W5,c3,?_,?_,?_⟩,?_,fun hj=>?_,h.ne,h.fy.add id l,fun j hj=>?_⟩ ?_ (Sy.aG DD (fun a ha e=>by have:=bm a.block (by rw [ha];rfl);rcases e with e|e<;>omega)) (WJ.aG DD (fun a ha e=>by have:=bb a.block (by rw [ha];rfl);rcases e with e|e<;>omega)) (fun a ha=>ha.elim (fun ha=>(bF bm ha).1) (fun ha=>(bF bb ha).1))
  ·rw [Ac]
   simp only [List.length_append,List.length_singleton];exact z3.heap pu5 (by omega)
  ·rw [Ac]
   simp only [List.length_append,List.length_singleton];refine qP.mono (F:=F2) (qP.aG (S:=fun j=>j=r\/j=w1.heap.size) (w:=u) (qP.snoc row yQ p2.len ku (fun j hj=>?_) (fun j hj=>.inl hj) vp (Sy.same ku) (WJ.same ku) (fun b hb=>.inr (.inl ?_)) (fun b hb=>.inr (.inl ?_))) Xf QA) Wm
   ·obtain⟨y1,cur,y2⟩:=Row.bE row hj
    have:=aT y2;exact .inr (.inr ⟨y1,by omega⟩)
   ·exact bm b.block (by rw [hb];rfl)
   ·exact bb b.block (by rw [hb];rfl)
  ·rw [Ac]
   simp only [List.length_append,List.length_singleton];have Jx:Kept (fun j=>j=r\/j=w1.heap.size) u4 u6:=(Fk.mono fun _ _ h=>.inl h).trans z3 (fun _ _ h=>.inr h);refine pN.mono (F:=F2) (pN.aG (S:=fun j=>j=r\/j=w1.heap.size) (w:=u4) (pN.snoc iE (Row.len fW) p3.len KO (fun j hj=>?_) (fun j hj=>.inl hj) hcw (Yz.aG (HM.trans KO (fun _ _ h=>h.elim)) (fun a ha e=>by have:=bw a.block (by rw [ha];rfl);omega)) (fun b hb=>.inr (.inl ?_))) Jx QA) Wm
   ·obtain⟨y1,cur,y2⟩:=Row.bE iE hj
    have:=aT y2;exact .inr (.inr ⟨by omega,by omega⟩)
   ·exact bw b.block (by rw [hb];rfl)
  ·refine((V7.aG (Gp.tt ku) (fun h=>h) (fun _ _ h=>h)).aG Xf (fun e=>?_) (fun j hj e=>?_)).mono (fun j hj=>?_) (fun e=>?_)
   ·rcases e with e|e
    ·exact h.ne e.symm
    ·omega
   ·rcases hj with hj|hj
    ·have:=Kt j hj
     rcases e with e|e
     ·exact h.gZ (by rw [<-e];exact hj)
     ·omega
    ·omega
   ·rcases hj with hj|hj
    ·exact .inl hj
    ·have:=rI.size
     have:=Gp.size;exact .inr ⟨by omega,by omega⟩
   ·rcases e with e|e
    ·exact h.X.gZ e
    ·omega
  ·rcases hj with hj|hj
   ·exact h.gZ hj
   ·omega
  ·rcases hj with hj|hj
   ·have:=Kt j hj
    omega
   ·exact hj.2
  ·exact(DH.mono fun _ _ h=>.inr h).trans DD (fun j hj e=>by
    rcases e with e|e
    ·exact .inl e
    ·omega)
 have It:(cG (cI k G s l) Am nm cm E e ce).toList++ []=(cG (cI k G s l) Am nm cm E e ce).toList:=List.append_nil _;refine Is.mk rfl ⟨some a1,G.D.length,c1,by rw [bg,aA Ol];rfl,_,⟨bf ..,Cells.bE Qg⟩,?_,?_⟩
 ·obtain⟨Aa,c2,u2,news,Rq,fW,BZ,vp⟩:=yD (w:=iu) De (by omega) (by omega) (cx:=c1) (Jp iu F G.rN) (MK a1 rfl)
  refine⟨Aa,_,c2,u2,Rq,⟨_,rfl,bf ..,Cells.bE (BZ.heap Qg (fun h=>h))⟩,bf ..,?_⟩;intro u3;have zX:Kept Nil u2 u3:=(Kept.refl _ _).alloc _;have Cd:u3.heap[u2.heap.size]? =some (.cells (cG (cI k G s l) Am nm cm E e ce) bn (0,0)):=by
   have:=aI u2 (.cells (cG (cI k G s l) Am nm cm E e ce) bn);show(u2.alloc (.cells ((cG (cI k G s l) Am nm cm E e ce).toList++ []).toArray bn)).heap[u2.heap.size]? =_;rw [It,Array.toArray_toList];exact this
  clear_value u3;have su2:=BZ.size;have YI:=zX.size;obtain⟨Ab,c3,u4,xn,iE,DY⟩:=yC De (by omega) (by omega) (Row.aG fW zX (fun _ _ h=>h)) (by omega) Cd (bf ..) (eI _ _ _ _ _ _ _);have ku:Kept Nil iu u4:=Kept.eh (BZ.tt zX) DY (fun j hj=>(Row.bE fW hj).1);refine⟨Ab,_,c3,u4,xn,Is.mk rfl ?_⟩;exact tail iE (Row.len fW) vp ku
 ·refine⟨bf ..,?_⟩
  intro u3;have zX:Kept Nil iu u3:=(Kept.refl _ _).alloc _;have Cd:u3.heap[iu.heap.size]? =some (.cells (cG (cI k G s l) Am nm cm E e ce) bn (0,0)):=by
   have:=aI iu (.cells (cG (cI k G s l) Am nm cm E e ce) bn);show(iu.alloc (.cells ((cG (cI k G s l) Am nm cm E e ce).toList++ []).toArray bn)).heap[iu.heap.size]? =_;rw [It,Array.toArray_toList];exact this
  clear_value u3;have YI:=zX.size;refine⟨by rw [bg,aA (zX.heap Ol (fun h=>h))];rfl,?_⟩;have p23:=Oj.aG zX (fun _ _ h=>h);obtain⟨Aa,c2,u2,news,Rq,fW,BZ,vp⟩:=yD (w:=u3) (n:=G.D.length) (a:=a1) De (by omega) (by omega) (cx:=c1) (Jp iu F G.rN) (fun i hi=>by
   obtain⟨arr,y1,y2,y3,y4⟩:=MK a1 rfl i hi;exact⟨arr,y1,y2,Cells.aG y3 zX (fun h=>h),y4⟩)
  have su2:=BZ.size;have Rl:=BZ.heap Cd (fun h=>h);obtain⟨Ab,c3,u4,xn,iE,DY⟩:=yC De (by omega) (by omega) (Row.base fW (B':=iu.heap.size) (fun j hj=>by have:=(Row.bE fW hj).1;omega)) (by omega) Rl (bf ..) (eI _ _ _ _ _ _ _);have ku:Kept Nil iu u4:=Kept.eh (zX.tt BZ) DY (fun j hj=>by have:=(Row.bE fW hj).1;omega);refine⟨Aa,_,c2,u2,Rq,Ab,_,c3,u4,xn,Is.mk rfl ?_⟩;exact tail iE (Row.len fW) vp ku
end
end Go.Proofs.YtfleamccglihoaaGreatDoor
