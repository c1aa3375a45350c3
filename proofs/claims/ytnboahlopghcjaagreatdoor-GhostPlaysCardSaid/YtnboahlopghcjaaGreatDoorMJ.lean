import Derived.Test.YtnboahlopghcjaaGreatDoorMI
import Derived.Test.YtnboahlopghcjaaGreatDoorMG
import Derived.Test.YtnboahlopghcjaaGreatDoorMF
import Derived.Maps.Range
set_option linter.unusedVariables false
namespace Go.Proofs.YtnboahlopghcjaaGreatDoor
open Go.Proofs.Tryz
open Go Go.bV Go.RowKit
def KH(D:DG)(P:List Int)(l:List HT):Prop:=l.length=D.length/\ ∀(i j:Nat) (m:DN),P[i]? =some (j:Int)->D[j]? =some m->l[i]? =some m.id
structure nC(w:World)(F:Nat->Prop)(r:Nat)(D:DG)(P:List Int):Prop where
 ex: ∃(A:Option Addr) (c:Nat) (B:Option Addr) (e:Nat) (l:List HT),w.heap[r]? =some (.cells #[.slice A D.length c,.slice B D.length e] jg (0,0))/\NS w F A D.length D/\HS w B D.length l/\(∀a,B=some a->F a.block)/\KH D P l
 gU: ¬F r
 je:qZ D P
 W:jw D
section
variable{w w':World}{F F' S:Nat->Prop}{r:Nat}{D:DG}{P:List Int}{K:Value->World->Prop}
theorem nC.aC(h:nC w F r D P)(hk:Kept S w w')(hr: ¬S r)(hn: ∀k,F k-> ¬S k):nC w' F r D P:=by
 obtain⟨A,c,B,e,l,h1,h2,h3,h4,h5⟩:=h.ex;exact⟨⟨A,c,B,e,l,hk.heap h1 hr,h2.aC hk hn,h3.aC hk (fun a ha=>hn _ (h4 a ha)),h4,h5⟩,h.gU,h.je,h.W⟩
theorem nC.same(h:nC w F r D P)(hk:Kept Nil w w'):nC w' F r D P:=h.aC hk (fun h=>h) (fun _ _ h=>h)
theorem nC.lt(h:nC w F r D P):r<w.heap.size:=by obtain⟨A,c,B,e,l,h1,_⟩:=h.ex;exact aQ h1
theorem nC.mono(h:nC w F r D P)(hf: ∀k,F k->F' k)(hr: ¬F' r):nC w F' r D P:=by
 obtain⟨A,c,B,e,l,h1,h2,h3,h4,h5⟩:=h.ex;exact⟨⟨A,c,B,e,l,h1,h2.mono hf,h3,fun a ha=>hf _ (h4 a ha),h5⟩,hr,h.je,h.W⟩
theorem nC.gr(h:nC w F r D P):ti w F r D:=by
 obtain⟨A,c,B,e,l,h1,h2,_⟩:=h.ex;exact⟨⟨A,c,_,_,h1,rfl,h2⟩,h.gU⟩
theorem BM(W:jw D){j:Nat}{nd:DN}(h:D[j]? =some nd):BN D nd.id=(j:Int):=by unfold BN;rw [W.pos_eq h]
theorem FU(H:nC w F r D P)(hD:D.length<=10000)(h:HT)(hK: ∀A c w' l,cM D P h l->bO w' w.heap.size A l.length c l->Kept Nil w w'->K (.slice A l.length c) w'):
 bn prog bt.id #[.pointer (some ⟨r,0,none⟩),.agg h.1] w K:=by
 have W:=H.W;have jQ:=H.je.par;refine bt.of ?_;unfold bt.W;intro w3 w4;have k3:Kept Nil w w3:=(Kept.refl _ _).alloc _;have oo:w3.heap[w.heap.size]? =some (.cells h.1 ag (0,0)):=aJ w _;have k4:Kept Nil w3 w4:=(Kept.refl _ _).drew;clear_value w4;have qi:=k4.heap oo (fun h=>h);have qd:=k3.trans k4 (fun _ _ h=>h);refine⟨h.1,⟨h.2.1,Cells.bC qi⟩,?_⟩;rw [add_zero];refine mh (H.gr.same qd) (by omega) h fun w8 k8=>⟨_,rfl,?_⟩;have rK:=qd.trans k8 (fun _ _ h=>h);have Kf:=k8.heap qi (fun h=>h);have s08:=rK.size;have l08:=aQ Kf;by_cases hm: ¬h∈ids D
 ·have xh:=pB.2 hm
  refine bt.b6 (I:=fun s v=>s=(none,0,0,BN D h)/\v=w8) (μ:=fun _ _=>0) (s:=(none,0,0,BN D h)) ⟨rfl,rfl⟩ ?_;rintro s v ⟨rfl,rfl⟩;refine Split.no (decide_eq_false (by simp only;omega)) ?_;simp only;rw [aS,bt.cX];exact hK none 0 v [] (.inl ⟨hm,rfl⟩) (bO.nil _ _) rK
 replace hm:=Classical.not_not.1 hm
 obtain⟨nd,fw,hid⟩:=dB.1 hm;obtain⟨i,hi⟩:=List.mem_iff_getElem?.1 fw;have dP:=(List.getElem?_eq_some_iff.1 hi).1;obtain⟨ks,Oq⟩:=Up.ex jQ i (by rw [H.je.len];exact dP);have zW:=Oq.len jQ;refine bt.b6 (I:=fun s v=> ∃(k:Nat) (nk:DN) (dn rs:List Nat) (A:Option Addr) (c:Nat),s=(A,dn.length,c,(k:Int))/\ks=dn++rs/\Up P k rs/\D[k]? =some nk/\v.heap[w.heap.size]? =some (.cells nk.id.1 ag (0,0))/\bO v w8.heap.size A dn.length c (dn.map (lJ D))/\Kept (· =w.heap.size) w8 v)
  (μ:=fun s _=>s.2.2.2.toNat) (s:=(none,0,0,BN D h)) ⟨i,nd,[],ks,none,0,by rw [<-hid,BM W hi];rfl,rfl,Oq,hi,by rw [hid];exact Kf,bO.nil _ _,Kept.refl _ _⟩ ?_
 rintro s v ⟨k,nk,dn,rs,A,c,rfl,yX,Wo,JK,xk,row,kv⟩;have aij:=(List.getElem?_eq_some_iff.1 JK).1;have zQ:Kept Nil w v:=rK.trans kv (fun q hq e=>by omega);have sv:=kv.size;refine Split.yes (decide_eq_true (by simp only;omega)) ⟨nk.id.1,⟨nk.id.2.1,Cells.bC xk⟩,nk.id.2.1,?_⟩;intro iz;have jS:Kept Nil v iz:=(Kept.refl _ _).alloc _;have Ex:HS iz (some ⟨v.heap.size,0,none⟩) 1 [nk.id]:=jb v nk.id;clear_value iz;have hdl:dn.length<=ks.length:=by rw [yX];simp
 have QQ:=jS.size;obtain⟨A2,c2,pU,Zt,jK,TW,_⟩:=cD (cx:=1) az (Row.aC row jS (fun _ _ h=>h)) Ex (by omega) (by omega);have AM:Kept (· =w.heap.size) w8 pU:=(kv.trans jS (fun _ _ h=>h.elim)).grown TW (fun q hq cI=>by have:=(Row.bC row hq).1;omega);have R0:Kept Nil w pU:=rK.trans AM (fun q hq e=>by omega);have NR:dn.map (lJ D)++ [nk.id]=(dn++ [k]).map (lJ D):=by simp [lI JK]
 rw [NR]at jK;have Hr:pU.heap[w.heap.size]? =some (.cells nk.id.1 ag (0,0)):=by
  have hkg:Kept (fun q=>bg A=some q) iz pU:=Kept.grown (Kept.refl _ _) TW (fun q hq _=>hq);exact hkg.heap (jS.heap xk (fun h=>h)) (fun e=>by have:=(Row.bC row e).1;omega)
 refine⟨A2,_,c2,pU,Zt,?_⟩;cases Wo with
 |root=>
  refine Split.yes rfl ?_;simp only;rw [aS,bt.cX];have e:(ks.map (lJ D)).length=dn.length+1:=by rw [yX];simp
  have:=hK A2 c2 pU (ks.map (lJ D)) (.inr ⟨i,nd,ks,hi,hid,Oq,rfl⟩) (by rw [e,yX];exact Row.base jK (fun b hb=>Nat.le_trans s08 (Row.bC jK hb).1)) R0
  rwa [e]at this
 | @step _ j XO hj GK=>
   have TK:=(Tr.gV jQ (Tr.dO.2 hj)).1;refine Split.no (by simp only [beq_eq_false_iff_ne,ne_eq];omega) ?_;obtain⟨A0,c0,B,e,l,h1,h2,h3,h4,h5⟩:=(H.same R0).ex;obtain⟨nj,Fe⟩: ∃nj,D[j]? =some nj:=⟨_,List.getElem?_eq_getElem (by omega)⟩;refine⟨B,D.length,e,by rw [ba,ax h1];rfl,?_⟩;refine h3.load (i:=(k:Int)) (by omega) (by rw [Int.toNat_natCast];exact h5.2 k j nj hj Fe) ?_;obtain⟨g1,g2,g3⟩:=dT Hr (cs:=nj.id.1) (by rw [nj.id.2.1,nk.id.2.1]);refine⟨⟨nj.id.2.1,nj.id.2.one,fun q hq=>g1 q (by rw [nj.id.2.1];exact hq)⟩,?_⟩;intro IJ oe
   replace g2:IJ.heap[w.heap.size]? =some (.cells nj.id.1 ag (0,0)):=g2
   replace g3:Kept (· =w.heap.size) pU IJ:=g3
   have yQ:Kept Nil IJ oe:=(Kept.refl _ _).drew;clear_value oe IJ;have W1:=yQ.heap g2 (fun h=>h);have RG:Kept (· =w.heap.size) w8 oe:=(AM.trans g3 (fun _ _ h=>h)).trans yQ (fun _ _ h=>h.elim);have YB:Kept Nil w oe:=rK.trans RG (fun q hq e=>by omega);refine⟨nj.id.1,⟨nj.id.2.1,Cells.bC W1⟩,?_⟩;rw [add_zero];refine mh (H.gr.same YB) (by omega) nj.id fun Mr Na=>⟨_,rfl,?_⟩;rw [BM W Fe];refine⟨(A2,dn.length+1,c2,(j:Int)),rfl,⟨j,nj,dn++ [k],XO,A2,c2,by simp,by rw [yX];simp,GK,Fe,Na.heap W1 (fun h=>h),?_,RG.trans Na (fun _ _ h=>h.elim)⟩,by simp only;omega⟩;rw [List.length_append];exact Row.aC (Row.aC (Row.aC jK g3 (fun q hq e=>by have:=(Row.bC jK hq).1;omega)) yQ (fun _ _ h=>h)) Na (fun _ _ h=>h)
theorem yp(H:nC w F r D P)(hD:D.length<=10000)(a b:HT)(hK: ∀w' (x:Bool),(x=true↔Ch D P a b)->Kept Nil w w'->K (.bool x) w'):
 bn prog dU.id #[.pointer (some ⟨r,0,none⟩),.agg a.1,.agg b.1] w K:=by
 refine dU.of ?_;unfold dU.W;intro w4 w5 w6;have k4:Kept Nil w w4:=(Kept.refl _ _).alloc _;have uD:w4.heap[w.heap.size]? =some (.cells a.1 ag (0,0)):=aJ w _;have k5:Kept Nil w4 w5:=(Kept.refl _ _).alloc _;have mv:w5.heap[w4.heap.size]? =some (.cells b.1 ag (0,0)):=aJ w4 _;have k6:Kept Nil w5 w6:=(Kept.refl _ _).drew;clear_value w6;have rT:=(k5.trans k6 (fun _ _ h=>h)).heap uD (fun h=>h);have oT:=k6.heap mv (fun h=>h);have mL:=(k4.trans k5 (fun _ _ h=>h)).trans k6 (fun _ _ h=>h);refine⟨b.1,⟨b.2.1,Cells.bC oT⟩,a.1,⟨a.2.1,Cells.bC rT⟩,?_⟩;refine FU (H.same mL) hD b fun zK C7 w10 l hc vU mC=>⟨zK,_,C7,rfl,⟨a.1,rfl,a.2.1,Cells.bC (mC.heap rT (fun h=>h))⟩,?_⟩;have wX:=mL.trans mC (fun _ _ h=>h);have Wz:l.length<=1000000:=by
  rcases hc with⟨_,rfl⟩|⟨i,nd,ks,h1,_,h3,rfl⟩
  ·simp
  ·have:=h3.len H.je.par
   have:=(List.getElem?_eq_some_iff.1 h1).1;simp only [List.length_map];omega
 refine rz a (bO.hs vU) Wz fun kN re=>⟨_,rfl,hK kN _ ?_ (wX.trans re (fun _ _ h=>h))⟩;rw [decide_eq_true_iff];exact hc.mem H.W H.je
end
end Go.Proofs.YtnboahlopghcjaaGreatDoor
namespace Go.Proofs.YtnboahlopghcjaaGreatDoor
open Go.Proofs.Tryz
open Go Go.bV Go.RowKit
theorem XG(w:World)(r j:Nat)(v:Value):setCells w ((⟨r,0,none⟩:Addr).add j) [v] 0=w.setCell ⟨r,j,none⟩ v:=by
 simp only [setCells];rw [ba,ba,Nat.add_zero,Nat.zero_add]
theorem jk{v:World}{b:Nat}{z:Array Value}{t:TypeId}(s:HT)(h:v.heap[b]? =some (.cells z t (0,0)))(hz:z.size=32):
 (s.1.size=32/\(∀c∈s.1.toList,c.oneCell'=true)/\ ∀j,j<32->Wr v ((⟨b,0,none⟩:Addr).add j))/\(setCells v (⟨b,0,none⟩:Addr) s.1.toList 0).heap[b]? =some (.cells s.1 t (0,0))/\Kept (· =b) v (setCells v (⟨b,0,none⟩:Addr) s.1.toList 0):=by
 obtain⟨h1,h2,h3⟩:=dT h (cs:=s.1) (by rw [s.2.1];exact hz);exact⟨⟨s.2.1,s.2.one,fun j hj=>h1 j (by rw [s.2.1];exact hj)⟩,h2,h3⟩
theorem qZ.one(r:HT):qZ [⟨r,[]⟩] [-1]:=⟨rfl,rfl,fun i p nd hi hp=>by
 cases i with
 |zero=>omega
 |succ i=>simp at hp⟩
section
variable{w w':World}{F F' S:Nat->Prop}{r:Nat}{D:DG}{P:List Int}{K:Value->World->Prop}
theorem wR(root:HT)(hK: ∀v r F,nC v F r [⟨root,[]⟩] [-1]->(∀k,F k->w.heap.size<=k/\k<v.heap.size)->w.heap.size<=r->Kept Nil w v->K (.pointer (some ⟨r,0,none⟩)) v):
 bn prog jy.id #[.agg root.1] w K:=by
 refine jy.of ?_;unfold jy.W;intro w2;have k2:Kept Nil w w2:=(Kept.refl _ _).alloc _;have la:w2.heap[w.heap.size]? =some (.cells root.1 ag (0,0)):=aJ w _;clear_value w2;have kZ:(root.1.push (.slice none 0 0)).size=33:=by rw [Array.size_push,root.2.1]
 refine⟨root.1,⟨root.2.1,Cells.bC la⟩,?_⟩;rw [HP];refine Is.mk rfl ⟨kZ,?_⟩;intro w5;have h5:w5.heap[w2.heap.size]? =some (.cells (root.1.push (.slice none 0 0)) bL (0,0)):=by
  have:=aJ w2 (.cells (root.1.push (.slice none 0 0)) bL);show(w2.alloc (.cells ((root.1.push (.slice none 0 0)).toList++ []).toArray bL)).heap[w2.heap.size]? =_;rw [List.append_nil,Array.toArray_toList];exact this
 have k5:Kept Nil w2 w5:=(Kept.refl _ _).alloc _;clear_value w5;refine⟨rfl,?_⟩;intro w6;have h6:w6.heap[w5.heap.size]? =some (.cells dL.1 ag (0,0)):=aJ w5 _;have k6:Kept Nil w5 w6:=(Kept.refl _ _).alloc _;clear_value w6;intro w7;have h7:w7.heap[w6.heap.size]? =some (.cells #[.slice (some ⟨w2.heap.size,0,none⟩) 1 1,.slice (some ⟨w5.heap.size,0,none⟩) 1 1] jg (0,0)):=aJ w6 _;have k7:Kept Nil w6 w7:=(Kept.refl _ _).alloc _;clear_value w7;have s2:=k2.size;have s5:=k5.size;have s6:=k6.size;have l5:=aQ h5;have l6:=aQ h6;have h57:=k7.heap (k6.heap h5 (fun h=>h)) (fun h=>h);have h67:=k7.heap h6 (fun h=>h);have l67:=aQ h67;refine hK w7 _ (fun k=>k=w2.heap.size\/k=w5.heap.size) ⟨⟨_,_,_,_,[dL],h7,⟨rfl,fun i nd hi=>?_⟩,HS.one h67,fun a ha=>by cases ha;exact .inr rfl,⟨rfl,fun i j m hi hj=>?_⟩⟩,fun e=>by omega,qZ.one root,jw.root root⟩ (fun k e=>by omega) (by omega) (((k2.trans k5 (fun _ _ h=>h)).trans k6 (fun _ _ h=>h)).trans k7 (fun _ _ h=>h))
 ·cases i with
  |zero=>
   simp at hi;subst hi;refine⟨_,none,0,0,rfl,aQ h57,.inl rfl,fun j u hj=>?_,HS.nil _ _,fun b hb=>by cases hb⟩;rw [Nat.zero_mul,add_zero,ba,Nat.zero_add,ax h57];exact hj
  |succ i=>simp at hi
 ·cases i with
  |zero=>simp at hi
  |succ i=>simp at hi
theorem KH.snoc{l:List HT}(h:KH D P l)(hs:qZ D P)(W:jw D){nd:DN}{j:Nat}{mj:DN}(hj:D[j]? =some mj):KH (D++ [nd]) (P++ [(j:Int)]) (l++ [mj.id]):=by
 have ri:=(List.getElem?_eq_some_iff.1 hj).1;refine⟨by simp [h.1],fun i k m hi hm=>?_⟩;by_cases dP:i<P.length
 ·rw [List.getElem?_append_left dP]at hi
  have aai:i<D.length:=by rw [<-hs.len];exact dP
  rw [List.getElem?_append_left (by rw [h.1];exact aai)];have jQ:=hs.par;have hk:k<D.length:=by
   rcases Nat.eq_zero_or_pos i with rfl|h0
   ·rw [jQ.root]at hi;simp only [Option.some.injEq]at hi;omega
   ·obtain⟨j',h1,h2⟩:=jQ.up i _ h0 hi
    omega
  rw [List.getElem?_append_left hk]at hm;exact h.2 i k m hi hm
 ·have aah:=(List.getElem?_eq_some_iff.1 hi).1
  have e:i=P.length:=by simp at aah;omega
  subst e;simp at hi;have:k=j:=by omega
  subst this;rw [List.getElem?_append_left ri,hj]at hm;cases hm;rw [hs.len,<-h.1];simp
theorem DO(H:nC w F r D P)(hF: ∀k,F k->k<w.heap.size)(hD:D.length<=5000){h s:HT}{lp:List HT}{A:Option Addr}{n c:Nat}(hl:HS w A n lp)(hn:n<=100000)
 (hK: ∀w',nC w' (fun k=>F k\/(w.heap.size<=k/\k<w'.heap.size)) r (mU D h s lp) (mT D P h s lp)->Kept (· =r) w w'->K (.int .i64 (gw D h s lp)) w'):
 bn prog fc.id #[.pointer (some ⟨r,0,none⟩),.agg h.1,.agg s.1,.slice A n c] w K:=by
 have Zh:=H.lt;have W:=H.W;have mN: ∀w',Kept Nil w w'-> ∀e,gw D h s lp=e->e≠0->K (.int .i64 e) w':=fun w' k e he fG=>by
  have:=hK w' ?_ (k.mono fun _ _ h=>h.elim)
  ·rw [he]at this;exact this
  ·unfold mU mT
   rw [if_neg (by rw [he];exact fG),if_neg (by rw [he];exact fG)];exact(H.same k).mono (fun _ h=>.inl h) (fun e=>e.elim H.gU (fun h=>by omega))
 refine fc.of ?_;unfold fc.W;intro w5 w6;have k5:Kept Nil w w5:=(Kept.refl _ _).alloc _;have JV:w5.heap[w.heap.size]? =some (.cells h.1 ag (0,0)):=aJ w _;have k6:Kept Nil w5 w6:=(Kept.refl _ _).alloc _;have JB:w6.heap[w5.heap.size]? =some (.cells s.1 ag (0,0)):=aJ w5 _;clear_value w6;have WB:=k6.heap JV (fun h=>h);have mL:=k5.trans k6 (fun _ _ h=>h);have s5:=k5.size;have s6:=k6.size;have l5:=aQ JV;have l6:=aQ JB;clear_value w5;obtain⟨A0,c0,B0,e0,sl,iM,rf,AS,hB0,abj⟩:=H.ex;have Sk:=mL.heap iM (fun h=>h);refine Is.mk rfl ⟨#[.slice A0 D.length c0],⟨rfl,fun j v hj=>?_⟩,?_⟩
 ·cases j with
  |zero=>
   rw [add_zero,add_zero,ax Sk];simpa using hj
  |succ j=>simp at hj
 intro w9;have h9:w9.heap[w6.heap.size]? =some (.cells #[.slice none 0 0] gX (0,0)):=aJ w6 _;have k9:Kept Nil w6 w9:=(Kept.refl _ _).alloc _;clear_value w9;obtain⟨g1,g2,g3⟩:=dT h9 (cs:= #[.slice A0 D.length c0]) rfl;refine⟨⟨rfl,fun u hu=>?_,fun j hj=>g1 j hj⟩,?_⟩
 ·simp at hu
  subst hu;rfl
 intro lU
 replace g2:lU.heap[w6.heap.size]? =some (.cells #[.slice A0 D.length c0] gX (0,0)):=g2
 replace g3:Kept (· =w6.heap.size) w9 lU:=g3
 clear_value lU;have AI:Kept Nil w6 lU:=k9.trans g3 (fun k hk e=>by omega);have rL:=mL.trans AI (fun _ _ h=>h);refine⟨h.1,⟨h.2.1,Cells.bC (AI.heap WB (fun h=>h))⟩,?_⟩;have hR:ti lU F w6.heap.size D:=⟨⟨A0,c0,_,_,g2,rfl,rf.same rL⟩,fun e=>by have:=hF _ e;omega⟩;have s12:=rL.size;refine Cn hR W (by omega) (hl.same rL) (by omega) fun lT U3 sC=>⟨_,rfl,?_⟩;have No:Kept Nil w lT:=rL.trans sC (fun k hk e=>by omega);by_cases hC:dp D h lp≠0
 ·refine Split.yes (by simpa using hC) ?_
  refine mN lT No _ ?_ hC;unfold gw;rw [if_neg hC]
 replace hC:=Classical.not_not.1 hC
 refine Split.no (by rw [hC];rfl) ?_;have St:lT.heap[w5.heap.size]? =some (.cells s.1 ag (0,0)):=sC.heap (AI.heap JB (fun h=>h)) (by omega);refine⟨s.1,⟨s.2.1,Cells.bC St⟩,rz s (hl.same No) (by omega) fun nQ sA=>⟨_,rfl,?_⟩⟩;have GD:=No.trans sA (fun _ _ h=>h);by_cases vd: ¬s∈lp
 ·refine Split.yes (by rw [decide_eq_false vd];rfl) ?_
  refine mN nQ GD 2 ?_ (by omega);unfold gw;rw [if_pos hC,if_neg vd]
 replace vd:=Classical.not_not.1 vd
 refine Split.no (by rw [decide_eq_true vd];rfl) ?_;have eX:gw D h s lp=0:=by unfold gw;rw [if_pos hC,if_pos vd]
 obtain⟨fN,fG,fw,cS⟩:=kc hC;obtain⟨mj,Og,Of⟩:=dB.1 (cS s (dm.2 vd));obtain⟨j,hj⟩:=List.mem_iff_getElem?.1 Og;have eP:mT D P h s lp=P++ [(j:Int)]:=by
  unfold mT;rw [if_pos eX,<-Of,W.pos_eq hj];rfl
 have eD:mU D h s lp=D++ [⟨h,df lp⟩]:=by unfold mU;rw [if_pos eX]
 rw [pa hC]at U3;obtain⟨A1,c1,cs1,t1,h1,Um,Tb⟩:=(U3.same sA).ex;rw [List.length_append,List.length_singleton]at Tb Um;have OI:nQ.cell? (⟨w6.heap.size,0,none⟩:Addr)=some (.slice A1 (D.length+1) c1):=by rw [ax h1];exact Um
 have sz1:=GD.size;have GP:=GD.heap iM (fun h=>h);refine⟨#[.slice A1 (D.length+1) c1],⟨rfl,fun i v hi=>?_⟩,Is.mk rfl ⟨⟨rfl,fun u hu=>?_,fun i hi=>?_⟩,?_⟩⟩
 ·cases i with
  |zero=>
   rw [add_zero,OI];simpa using hi
  |succ i=>simp at hi
 ·simp at hu
  subst hu;rfl
 ·have:i=0:=by omega
  subst this;rw [add_zero,add_zero];exact dM GP (by simp)
 intro IJ oe;have Y2:IJ.heap[r]? =some (.cells #[.slice A1 (D.length+1) c1,.slice B0 D.length e0] jg (0,0)):=by
  show(setCells nQ ((⟨r,0,none⟩:Addr).add 0) [.slice A1 (D.length+1) c1] 0).heap[r]? =_;rw [XG,cU GP];rfl
 have CC:Kept (· =r) nQ IJ:=by
  show Kept (· =r) nQ (setCells nQ ((⟨r,0,none⟩:Addr).add 0) [.slice A1 (D.length+1) c1] 0)
  rw [add_zero];exact fW _ _ _ _
 have yQ:Kept Nil IJ oe:=(Kept.refl _ _).drew;clear_value oe IJ;have NH:=yQ.heap Y2 (fun h=>h);have wk:Kept (· =r) nQ oe:=CC.trans yQ (fun _ _ h=>h.elim);have Lq:HS oe B0 D.length sl:=(AS.same GD).aC wk (fun a ha e=>H.gU (e▸hB0 a ha));have GX:oe.heap[w5.heap.size]? =some (.cells s.1 ag (0,0)):=wk.heap (sA.heap St (fun h=>h)) (fun e=>by omega);refine Is.mk rfl ⟨B0,D.length,e0,by rw [ba,ax NH];rfl,s.1,⟨s.2.1,Cells.bC GX⟩,?_⟩;have fin: ∀(v:World) (A2:Option Addr) (c2:Nat),Kept Nil oe v->bO v oe.heap.size A2 (D.length+1) c2 (sl++ [s])->
  Is (some (⟨r,0,none⟩:Addr)) fun a=>Wr v (a.add 1)/\K (.int .i64 0) (v.setCell (a.add 1) (.slice A2 (D.length+1) c2)):=fun v A2 c2 kv row=>by
  refine Is.mk rfl ?_;rw [ba];have hv:=kv.heap NH (fun h=>h);have kf:Kept (· =r) v (v.setCell ⟨r,0+1,none⟩ (.slice A2 (D.length+1) c2)):=Kept.setCell (S:=fun k=>k=r) (Kept.refl _ v) (p:=⟨r,0+1,none⟩) (fun _=>rfl) _;refine⟨dM hv (by simp),?_⟩;have kl:Kept (· =r) w (v.setCell ⟨r,0+1,none⟩ (.slice A2 (D.length+1) c2)):=(((GD.mono (S':=(· =r)) (fun _ _ h=>h.elim)).trans wk (fun _ _ h=>h)).trans kv (fun _ _ h=>h.elim)).trans kf (fun _ _ h=>h);have:=hK (v.setCell ⟨r,0+1,none⟩ (.slice A2 (D.length+1) c2)) ?_ kl
  ·rw [eX]at this
   exact this
  rw [eD,eP];have hbA: ∀b,bg A2=some b->oe.heap.size<=b/\b<v.heap.size:=fun b hb=>by
   obtain⟨q1,cur,q2⟩:=Row.bC row hb;exact⟨q1,aQ q2⟩
  have s26:=wk.size;have sv:=kv.size;have sf:=kf.size;have adA:Kept (· =r) lT oe:=(sA.mono (S':=(· =r)) (fun _ _ h=>h.elim)).trans wk (fun _ _ h=>h);refine⟨⟨A1,c1,A2,c2,sl++ [s],?_,?_,?_,fun a ha=>.inr ?_,?_⟩,fun e=>e.elim H.gU (fun e=>by omega),H.je.snoc hj (by rw [Of];exact dm.2 vd) (by have:=(List.getElem?_eq_some_iff.1 hj).1;omega),W.snoc fN cS (iD lp)⟩
  ·rw [List.length_append,List.length_singleton,cU hv]
   rfl
  ·rw [List.length_append,List.length_singleton]
   have mu:Kept (· =r) nQ (v.setCell ⟨r,0+1,none⟩ (.slice A2 (D.length+1) c2)):=(wk.trans kv (fun _ _ h=>h.elim)).trans kf (fun _ _ h=>h);refine(Tb.aC mu fun k hk e=>?_).mono fun k hk=>?_
   ·rcases hk with hk|hk
    ·exact H.gU (e▸hk)
    ·omega
   ·rcases hk with hk|hk
    ·exact .inl hk
    ·have:=sA.size
     exact .inr ⟨by omega,by omega⟩
  ·rw [List.length_append,List.length_singleton]
   exact(bO.hs row).aC kf (fun a ha e=>by have:=hbA a.block (by rw [ha];rfl);omega)
  ·have:=hbA a.block (by rw [ha];rfl)
   exact⟨by omega,by omega⟩
  ·rw [<-Of]
   exact abj.snoc H.je W hj
 have mE: ∀ {u:World},Kept Nil oe u-> ∃cs:Array Value,(.agg s.1:Value)=.agg cs/\cs.size=32/\Cells u (⟨w5.heap.size,0,none⟩:Addr) cs:=fun k=>⟨s.1,rfl,s.2.1,Cells.bC (k.heap GX (fun h=>h))⟩;refine⟨?_,?_⟩
 ·obtain⟨A3,c3,Fu,SC,Ck,aaw,UH⟩:=cD (cx:=e0) az (bO.nil oe oe.heap.size) Lq (by omega) (Nat.le_refl _)
  rw [Nat.zero_add]at SC Ck;rw [List.nil_append]at Ck;have K5:Kept Nil oe Fu:=Kept.eA (Kept.refl _ _) aaw (fun k hk=>by cases hk);refine⟨A3,_,c3,Fu,SC,mE K5,s.2.1,?_⟩;intro tk;have Fc:Kept Nil Fu tk:=(Kept.refl _ _).alloc _;have YP:HS tk (some ⟨Fu.heap.size,0,none⟩) 1 [s]:=jb Fu s;clear_value tk;have s32:=Fc.size;have s31:=K5.size;obtain⟨A4,c4,nh,JD,yl,OH,UG⟩:=cD (cx:=1) az (Row.aC Ck Fc (fun _ _ h=>h)) YP (by omega) (by omega);have zO:Kept Nil oe nh:=Kept.eA (K5.trans Fc (fun _ _ h=>h)) OH (fun k hk=>(Row.bC Ck hk).1);exact⟨A4,_,c4,nh,JD,fin nh A4 c4 zO yl⟩
 ·refine⟨s.2.1,?_⟩
  intro vO;have Ec:Kept Nil oe vO:=(Kept.refl _ _).alloc _;have YO:HS vO (some ⟨oe.heap.size,0,none⟩) 1 [s]:=jb oe s;clear_value vO;have s37:=Ec.size;refine⟨by rw [ba,ax (Ec.heap NH (fun h=>h))];rfl,?_⟩;obtain⟨A3,c3,E8,SB,Cj,aav,Kg⟩:=cD (cx:=e0) az (bO.nil vO vO.heap.size) (Lq.same Ec) (by omega) (Nat.le_refl _);rw [Nat.zero_add]at SB Cj;rw [List.nil_append]at Cj;have Gq:Kept Nil vO E8:=Kept.eA (Kept.refl _ _) aav (fun k hk=>by cases hk);have s39:=Gq.size;obtain⟨A4,c4,B7,Zp,KN,aau,UE⟩:=cD (cx:=1) az Cj (YO.same Gq) (by omega) (by omega);have M9:Kept Nil vO B7:=Kept.eA Gq aau (fun k hk=>(Row.bC Cj hk).1);exact⟨A3,_,c3,E8,SB,A4,_,c4,B7,Zp,fin B7 A4 c4 (Ec.trans M9 (fun _ _ h=>h)) (Row.base KN (fun k hk=>by have:=(Row.bC KN hk).1;omega))⟩
end
end Go.Proofs.YtnboahlopghcjaaGreatDoor
namespace Go.Proofs.YtnboahlopghcjaaGreatDoor
open Go.Proofs.Tryz
open Go Go.bV Go.RowKit
section
variable{w w' v:World}{F FP FR S S2 F2:Nat->Prop}{x r:Nat}{D D':DG}{P P':List Int}{K:Value->World->Prop}
theorem Au(h:BU w S F x D P)(hD:D.length<=5000)(hT:tg w)(IA: ¬S (Tryz.jn.g 1)){A:Option Addr}{n cx:Nat}{lp:List HT}(hl:HS w A n lp)(hn:n<=5000)(hid s:HT)
 (hK: ∀u S' F',BU u S' F' x (mU D hid s lp) (mT D P hid s lp)->Kept S w u->(∀k,S' k->S k\/w.heap.size<=k)->(∀k,F' k->F k\/w.heap.size<=k)->K (.int .i64 (gw D hid s lp)) u):
 bn prog aD.id #[.pointer (some ⟨x,0,none⟩),.agg hid.1,.agg s.1,.slice A n cx] w K:=by
 obtain⟨m,h1,h2⟩:=h;refine DP h1 hD hT (fun e=>IA (h2 _ (.inl e))) hl hn hid s (fun u k hc=>?_) (fun u S' F' hI k hS hF hc=>?_)
 ·refine hK u S F ?_ (k.mono fun _ _ h=>h.elim) (fun k h=>.inl h) (fun k h=>.inl h)
  unfold mU mT;rw [if_neg hc,if_neg hc];exact⟨m,h1.same k,h2⟩
 ·have:=hK u S' F' hI (k.mono fun k _ h=>h2 k h) (fun k h=>(hS k h).imp (h2 k) (fun h=>h)) hF
  rw [hc]at this;exact this
end
end Go.Proofs.YtnboahlopghcjaaGreatDoor
namespace Go.Proofs.YtnboahlopghcjaaGreatDoor
open Go.Proofs.Tryz
open Go Go.bV Go.RowKit
open Tr (jE)
theorem four(w:World)(r a b c:HT):
 let w1:=w.alloc (.cells dL.1 ag);let w2:=w1.alloc (.cells dL.1 ag);let w3:=w2.alloc (.cells dL.1 ag);let w4:=w3.alloc (.cells dL.1 ag)
 let w7:=setCells w4 (⟨w.heap.size,0,none⟩:Addr) r.1.toList 0;let w10:=setCells w7 (⟨w1.heap.size,0,none⟩:Addr) a.1.toList 0;let kN:=setCells w10 (⟨w2.heap.size,0,none⟩:Addr) b.1.toList 0;let iz:=setCells kN (⟨w3.heap.size,0,none⟩:Addr) c.1.toList 0
 ((∀j,j<32->Wr w4 ((⟨w.heap.size,0,none⟩:Addr).add j))/\(∀j,j<32->Wr w7 ((⟨w1.heap.size,0,none⟩:Addr).add j))/\(∀j,j<32->Wr w10 ((⟨w2.heap.size,0,none⟩:Addr).add j))/\(∀j,j<32->Wr kN ((⟨w3.heap.size,0,none⟩:Addr).add j)))/\
 iz.heap[w.heap.size]? =some (.cells r.1 ag (0,0))/\iz.heap[w1.heap.size]? =some (.cells a.1 ag (0,0))/\iz.heap[w2.heap.size]? =some (.cells b.1 ag (0,0))/\iz.heap[w3.heap.size]? =some (.cells c.1 ag (0,0))/\
 w.heap.size<w1.heap.size/\w1.heap.size<w2.heap.size/\w2.heap.size<w3.heap.size/\w3.heap.size<iz.heap.size/\Kept Nil w iz:=by
 intro w1 w2 w3 w4;have k1':Kept Nil w w1:=(Kept.refl _ _).alloc _;have AK:Kept Nil w1 w2:=(Kept.refl _ _).alloc _;have yP:Kept Nil w2 w3:=(Kept.refl _ _).alloc _;have Jp:Kept Nil w3 w4:=(Kept.refl _ _).alloc _;have kQ:w1.heap[w.heap.size]? =some (.cells dL.1 ag (0,0)):=aJ w _;have O2:w2.heap[w1.heap.size]? =some (.cells dL.1 ag (0,0)):=aJ w1 _;have oo:w3.heap[w2.heap.size]? =some (.cells dL.1 ag (0,0)):=aJ w2 _;have Iy:w4.heap[w3.heap.size]? =some (.cells dL.1 ag (0,0)):=aJ w3 _;clear_value w4;have qi:=Jp.heap oo (fun h=>h);have uD:=Jp.heap (yP.heap O2 (fun h=>h)) (fun h=>h);have xJ:=Jp.heap (yP.heap (AK.heap kQ (fun h=>h)) (fun h=>h)) (fun h=>h);have l1:=aQ kQ;have l2:=aQ O2;have l3:=aQ oo;have l4:=aQ Iy;clear_value w3 w2 w1;have Ge:Kept Nil w w4:=((k1'.trans AK (fun _ _ h=>h)).trans yP (fun _ _ h=>h)).trans Jp (fun _ _ h=>h);have sz: ∀h:HT,dL.1.size=h.1.size:=fun h=>by rw [h.2.1];rfl
 obtain⟨wr7,Lu,k7⟩:=dT xJ (cs:=r.1) (sz r);rw [r.2.1]at wr7;intro w7
 replace Lu:w7.heap[w.heap.size]? =some (.cells r.1 ag (0,0)):=Lu
 replace k7:Kept (· =w.heap.size) w4 w7:=k7
 clear_value w7;obtain⟨QE,O3,mC⟩:=dT (k7.heap uD (by omega)) (cs:=a.1) (sz a);rw [a.2.1]at QE;intro w10
 replace O3:w10.heap[w1.heap.size]? =some (.cells a.1 ag (0,0)):=O3
 replace mC:Kept (· =w1.heap.size) w7 w10:=mC
 clear_value w10;obtain⟨QD,xl,re⟩:=dT (mC.heap (k7.heap qi (by omega)) (by omega)) (cs:=b.1) (sz b);rw [b.2.1]at QD;intro kN
 replace xl:kN.heap[w2.heap.size]? =some (.cells b.1 ag (0,0)):=xl
 replace re:Kept (· =w2.heap.size) w10 kN:=re
 clear_value kN;obtain⟨QC,Ke,jS⟩:=dT (re.heap (mC.heap (k7.heap Iy (by omega)) (by omega)) (by omega)) (cs:=c.1) (sz c);rw [c.2.1]at QC;intro iz
 replace Ke:iz.heap[w3.heap.size]? =some (.cells c.1 ag (0,0)):=Ke
 replace jS:Kept (· =w3.heap.size) kN iz:=jS
 clear_value iz;have QQ:=aQ Ke;exact⟨⟨wr7,QE,QD,QC⟩,jS.heap (re.heap (mC.heap Lu (by omega)) (by omega)) (by omega),jS.heap (re.heap O3 (by omega)) (by omega),jS.heap xl (by omega),Ke,by omega,by omega,by omega,QQ,
  (((Ge.trans k7 (fun k hk e=>by omega)).trans mC (fun k hk e=>by omega)).trans re (fun k hk e=>by omega)).trans jS (fun k hk e=>by omega)⟩
section
variable{r a b c:HT}(Eo:r≠a)(yZ:r≠b)(Lt:r≠c)(lL:a≠b)(L6:a≠c)(Hp:b≠c)
end
section
variable{w w':World}{K:Value->World->Prop}
end
end Go.Proofs.YtnboahlopghcjaaGreatDoor
namespace Go.Proofs.YtnboahlopghcjaaGreatDoor
open Go.Proofs.Tryz
open Go Go.bV Go.RowKit
open Go.ChangeMaps (setBlock)
theorem rZ{x:HT}{v:Value}: ∀ {l:List (HT×Value)} {j:Nat},(l.map (·.1)).Nodup->l[j]? =some (x,v)->assoc x l=some v
 | [],_,_,h=>by simp at h
 |(y,u)::l,0,_,h=>by
  simp at h;obtain⟨rfl,rfl⟩:=h;unfold assoc;rw [if_pos rfl]
 |(y,u)::l,j+1,hn,h=>by
  simp only [List.map_cons,List.nodup_cons]at hn;have hm:x∈l.map (·.1):=List.mem_map.2 ⟨(x,v),List.mem_of_getElem? (i:=j) (by simpa using h),rfl⟩;unfold assoc;rw [if_neg (fun e:x=y=>hn.1 (by rw [<-e];exact hm))];exact rZ hn.2 (j:=j) (by simpa using h)
theorem wC{x:HT}{v:Value}: ∀ {l:List (HT×Value)},assoc x l=some v-> ∃j:Nat,l[j]? =some (x,v)
 | [],h=>by simp [assoc]at h
 |(y,u)::l,h=>by
  unfold assoc at h;split at h
  ·rename_i e
   subst e;cases h;exact⟨0,rfl⟩
  ·obtain⟨j,hj⟩:=wC h
   exact⟨j+1,by simpa using hj⟩
theorem mB.of{es:List MapEntry}{l:List (HT×Value)}(h:mB es l){j:Nat}{e:MapEntry}(he:es[j]? =some e): ∃p,l[j]? =some p/\e.key=.agg p.1.1/\e.val=p.2:=by
 have hlen:=h.len;have hj:=(List.getElem?_eq_some_iff.1 he).1;obtain⟨p,hp⟩: ∃p,l[j]? =some p:=⟨_,List.getElem?_eq_getElem (by omega)⟩;obtain⟨e',g1,g2,g3⟩:=h.get hp;rw [he]at g1;cases g1;exact⟨p,hp,g2,g3⟩
theorem xA{x y:HT}(h:(Value.agg x.1:Value)=.agg y.1):x=y:=by
 cases h':x;cases WY:y
 simp_all
structure nO(w:World)(m it:Nat)(f:HT->Option Value)(left:HT->Prop)(zY:Nat):Prop where
 ne:it≠m
 ex: ∃es clock l since seen c0,w.heap[m]? =some (.map es clock)/\mB es.toList l/\(∀x,assoc x l=f x)/\(es.toList.map (·.born)).Nodup/\(l.map (·.1)).Nodup/\
  w.heap[it]? =some (.mapIter (some m) since seen c0)/\(∀e∈es.toList,e.born<since)/\since<=c0/\since<=clock/\(leftOf es seen).size=zY/\ ∀x,left x↔ ∃e∈es.toList,e.key=.agg x.1/\seen.contains e.born=false
section
variable{w w':World}{m it:Nat}{f:HT->Option Value}{left:HT->Prop}{zY:Nat}
theorem nO.aC{S:Nat->Prop}(h:nO w m it f left zY)(hk:Kept S w w')(h1: ¬S m)(h2: ¬S it):nO w' m it f left zY:=by
 obtain⟨es,clock,l,since,seen,c0,g1,g2,g3,g4,g5,g6,g7⟩:=h.ex;exact⟨h.ne,es,clock,l,since,seen,c0,hk.heap g1 h1,g2,g3,g4,g5,hk.heap g6 h2,g7⟩
theorem nO.left_eq(h:nO w m it f left zY):w.rangeLeft m it=zY:=by
 obtain⟨es,clock,l,since,seen,c0,g1,g2,g3,g4,g5,g6,g7,_,_,g8,_⟩:=h.ex;simp only [World.rangeLeft,g1,g6];exact g8
theorem nO.lt(h:nO w m it f left zY):it<w.heap.size:=by
 obtain⟨es,clock,l,since,seen,c0,g1,g2,g3,g4,g5,g6,_⟩:=h.ex;exact aQ g6
theorem fk.range{mt te:TypeId}{z:Value}(T:vL mt te z)(h:fk w m f): ∃w' zY,(Instr.range mt (.map (some m))).run prog w=.ok (.pointer (some ⟨w.heap.size,0,none⟩)) w'/\nO w' m w.heap.size f (fun x=>f x≠none) zY/\Kept Nil w w':=by
 obtain⟨es,clock,l,g1,g2,g3,g4,g5,g6⟩:=h.ex;have cI:=h.lt;refine⟨w.alloc (.mapIter (some m) clock #[] clock),_,run_range_map w mt ag te m es clock T.og g1,⟨by omega,es,clock,l,clock,#[],clock,iX g1 _,g2,g3,g5,g6,aJ w _,g4,Nat.le_refl _,Nat.le_refl _,rfl,fun x=>?_⟩,(Kept.refl _ _).alloc _⟩;rw [<-g3];constructor
 ·intro hx
  cases ha:assoc x l with
  |none=>exact absurd ha hx
  |some v=>
   obtain⟨j,hj⟩:=wC ha;obtain⟨e,he,hk,_⟩:=g2.get hj;exact⟨e,List.mem_of_getElem? he,hk,by simp⟩
 ·rintro⟨e,he,hk,_⟩
  obtain⟨j,hj⟩:=List.mem_iff_getElem?.1 he;obtain⟨⟨y,v⟩,hp,mD,_⟩:=g2.of hj;have:y=x:=xA (mD.symm.trans hk);subst this;rw [rZ g6 hp];simp
theorem nO.next(h:nO w m it f left zY)(ty:TypeId):
 (zY=0/\(∀x,¬left x)/\(Instr.next (.pointer (some ⟨it,0,none⟩)) false ty).run prog w=.ok (.tuple #[.bool false]) w)\/
 ∃(x:HT) (v:Value) (w':World) (VA:Nat),left x/\f x=some v/\(Instr.next (.pointer (some ⟨it,0,none⟩)) false ty).run prog w=.ok (.tuple #[.bool true,.agg x.1,v]) w'/\
  (Instr.entry (.pointer (some ⟨it,0,none⟩))).run prog w'=.ok (.tuple #[.agg x.1,v]) w'/\nO w' m it f (fun y=>left y/\y≠x) VA/\VA<zY/\Kept (· =it) w w':=by
 have fG:=h.ne;obtain⟨es,clock,l,since,seen,c0,g1,g2,g3,g4,g5,g6,g7,g8,g8',rfl,g9⟩:=h.ex;rcases run_next_at (P:=prog) w ty it m since c0 seen es clock g6 g1 g7 g8 with⟨h0,hr⟩|⟨e,he,w1,Io,hr⟩
 ·refine .inl ⟨h0,fun x hx=>?_,hr⟩
  obtain⟨e,he,_,hs⟩:=(g9 x).1 hx;have hm:e∈leftOf es seen:=by
   unfold leftOf;rw [Array.mem_filter];exact⟨by simpa using he,by rw [hs];rfl⟩
  have:=Array.size_pos_of_mem hm;omega
 ·obtain⟨WC,hes⟩:=mem_left he
  obtain⟨j,hj⟩:=List.mem_iff_getElem?.1 WC;obtain⟨⟨x,v⟩,hp,hk,hv⟩:=g2.of hj;have hk:e.key=.agg x.1:=hk;have hv:e.val=v:=hv;rw [hk,hv]at hr;have aaf:w1.heap[it]? =some (.mapIter (some m) since seen c0):=by rcases Io with rfl|rfl<;>exact g6
  have JQ:w1.heap[m]? =some (.map es clock):=by rcases Io with rfl|rfl<;>exact g1
  have JA:(setBlock w1 it (.mapIter (some m) since (seen.push e.born) clock)).heap[it]? =some (.mapIter (some m) since (seen.push e.born) clock):=by
   have:=aQ aaf;simp [setBlock,this]
  have S5:(setBlock w1 it (.mapIter (some m) since (seen.push e.born) clock)).heap[m]? =some (.map es clock):=by
   simp [setBlock,fG,JQ]
  have TF:Kept (· =it) w (setBlock w1 it (.mapIter (some m) since (seen.push e.born) clock)):=by
   have hd:w.drew.heap=w.heap:=rfl;rcases Io with rfl|rfl
   ·exact⟨rfl,rfl,rfl,by simp [setBlock],fun k _ hk=>by simp [setBlock,Ne.symm hk]⟩
   ·exact⟨rfl,rfl,rfl,by simp [setBlock,hd],fun k _ hk=>by simp [setBlock,hd,Ne.symm hk]⟩
  refine .inr ⟨x,v,_,_,(g9 x).2 ⟨e,WC,hk,hes⟩,by rw [<-g3];exact rZ g5 hp,hr,?_,⟨fG,es,clock,l,since,seen.push e.born,clock,S5,g2,g3,g4,g5,JA,g7,g8',g8',rfl,fun y=>?_⟩,left_shrinks es seen e he,TF⟩
  ·have:=run_entry_at (P:=prog) _ it m since seen es clock e JA S5 WC g4
   rw [hk,hv]at this;exact this
  ·have KC: ∀ {e':MapEntry},e'∈es.toList->e'.born=e.born->e'=e:=fun {e'} Kb hb=>by
    obtain⟨j',uy⟩:=List.mem_iff_getElem?.1 Kb;have h1:(es.toList.map (·.born))[j']? =some e'.born:=by rw [List.getElem?_map,uy];rfl
    have h2:(es.toList.map (·.born))[j]? =some e.born:=by rw [List.getElem?_map,hj];rfl
    rw [hb]at h1;have g1:=List.getElem?_eq_some_iff.1 h1;have g2:=List.getElem?_eq_some_iff.1 h2;have:j'=j:=(List.getElem_inj g4).1 (g1.2.trans g2.2.symm);subst this;rw [hj]at uy;cases uy;rfl
   rw [g9];constructor
   ·rintro⟨⟨e',Kb,mu,mM⟩,ZS⟩
    refine⟨e',Kb,mu,?_⟩;rw [contains_push,mM,Bool.false_or,beq_eq_false_iff_ne];intro hb;have:=KC Kb hb;subst this;exact ZS (xA (mu.symm.trans hk))
   ·rintro⟨e',Kb,mu,mM⟩
    rw [contains_push,Bool.or_eq_false_iff]at mM;refine⟨⟨e',Kb,mu,mM.1⟩,fun CK=>?_⟩;subst CK;obtain⟨j',uy⟩:=List.mem_iff_getElem?.1 Kb;obtain⟨⟨y',v'⟩,JI,mD,_⟩:=g2.of uy;have e1:y'=y:=xA (mD.symm.trans mu);subst e1;have h1:(l.map (·.1))[j']? =some y':=by rw [List.getElem?_map,JI];rfl
    have h2:(l.map (·.1))[j]? =some y':=by rw [List.getElem?_map,hp];rfl
    have g1:=List.getElem?_eq_some_iff.1 h1;have g2:=List.getElem?_eq_some_iff.1 h2;have:j'=j:=(List.getElem_inj g5).1 (g1.2.trans g2.2.symm);subst this;rw [hj]at uy;cases uy;simp at mM
end
end Go.Proofs.YtnboahlopghcjaaGreatDoor
namespace Go.Proofs.YtnboahlopghcjaaGreatDoor
open Go.Proofs.Tryz
open Go Go.bV Go.RowKit
section
variable{w v v':World}{F:Nat->Prop}{D:DG}{P:List Int}{T:List Tr.Nd}{d:Int}{own:Nat->Nat}{G T' E:Option Nat}{I:Option (Option Addr×Nat)}{Z:Option Nat}{x:Nat}{m:XM}{K:Value->World->Prop}
end
end Go.Proofs.YtnboahlopghcjaaGreatDoor
