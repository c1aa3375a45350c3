import Derived.Test.YtnboahlopghcjaaGreatDoorMI
import Derived.Test.YtnboahlopghcjaaGreatDoorMG
import Derived.Test.YtnboahlopghcjaaGreatDoorMF
import Derived.Maps.Range
open Go.IntKind (i64 u64)
set_option linter.unusedVariables false
namespace Go.Proofs.YtnboahlopghcjaaGreatDoor
open Go.Proofs.Tryz
open Go Go.bT Go.RowKit
def M6(D:DG)(P:List Int)(l:List HT):Prop:=l.length=D.length/\∀(i j:Nat) (m:DN),P[i]? =some (j:Int)->D[j]? =some m->l[i]? =some m.id
structure pB(w:World)(F:Nat->Prop)(r:Nat)(D:DG)(P:List Int):Prop where
 ex:∃(A:Option Addr) (c:Nat) (B:Option Addr) (e:Nat) (l:List HT),w.heap[r]? =some (.cells #[.slice A D.length c,.slice B D.length e] jl (0,0))/\NS w F A D.length D/\HS w B D.length l/\(∀a,B=some a->F a.block)/\M6 D P l
 hU:¬F r
 jX:r7 D P
 W:jC D
section
variable{w w':World}{F F' S:Nat->Prop}{r:Nat}{D:DG}{P:List Int}{K:Value->World->Prop}
theorem pB.az(h:pB w F r D P)(hk:Kept S w w')(hr:¬S r)(hn:∀k,F k->¬S k):pB w' F r D P:=by
 obtain⟨A,c,B,e,l,h1,h2,h3,h4,h5⟩:=h.ex;exact⟨⟨A,c,B,e,l,hk.heap h1 hr,h2.az hk hn,h3.az hk (fun a ha=>hn _ (h4 a ha)),h4,h5⟩,h.hU,h.jX,h.W⟩
theorem pB.same(h:pB w F r D P)(hk:Kept Nil w w'):pB w' F r D P:=h.az hk (fun h=>h) (fun _ _ h=>h)
theorem pB.lt(h:pB w F r D P):r<w.heap.size:=by obtain⟨A,c,B,e,l,h1,_⟩:=h.ex;exact aO h1
theorem pB.mono(h:pB w F r D P)(hf:∀k,F k->F' k)(hr:¬F' r):pB w F' r D P:=by
 obtain⟨A,c,B,e,l,h1,h2,h3,h4,h5⟩:=h.ex;exact⟨⟨A,c,B,e,l,h1,h2.mono hf,h3,fun a ha=>hf _ (h4 a ha),h5⟩,hr,h.jX,h.W⟩
theorem pB.gr(h:pB w F r D P):tT w F r D:=by
 obtain⟨A,c,B,e,l,h1,h2,_⟩:=h.ex;exact⟨⟨A,c,_,_,h1,rfl,h2⟩,h.hU⟩
theorem R9(W:jC D){j:Nat}{nd:DN}(h:D[j]? =some nd):Ha D nd.id=(j:Int):=by unfold Ha;rw [W.pos_eq h]
end
theorem aaI(w:World)(r j:Nat)(v:Value):setCells w ((⟨r,0,none⟩:Addr).add j) [v] 0=w.setCell ⟨r,j,none⟩ v:=by
 simp only [setCells];rw [a8,a8,Nat.add_zero,Nat.zero_add]
theorem jq{v:World}{b:Nat}{z:Array Value}{t:TypeId}(s:HT)(h:v.heap[b]? =some (.cells z t (0,0)))(hz:z.size=32):
 (s.1.size=32/\(∀c∈s.1.toList,c.oneCell'=true)/\∀j,j<32->Wr v ((⟨b,0,none⟩:Addr).add j))/\(setCells v (⟨b,0,none⟩:Addr) s.1.toList 0).heap[b]? =some (.cells s.1 t (0,0))/\Kept (· =b) v (setCells v (⟨b,0,none⟩:Addr) s.1.toList 0):=by
 obtain⟨h1,h2,h3⟩:=dD h (cs:=s.1) (by rw [s.2.1];exact hz);exact⟨⟨s.2.1,s.2.one,fun j hj=>h1 j (by rw [s.2.1];exact hj)⟩,h2,h3⟩
theorem r7.one(r:HT):r7 [⟨r,[]⟩] [-1]:=⟨rfl,rfl,fun i p nd hi hp=>by
 cases i with
 |zero=>omega
 |succ i=>simp at hp⟩
section
variable{w w':World}{F F' S:Nat->Prop}{r:Nat}{D:DG}{P:List Int}{K:Value->World->Prop}
theorem xP(root:HT)(hK:∀v r F,pB v F r [⟨root,[]⟩] [-1]->(∀k,F k->w.heap.size<=k/\k<v.heap.size)->w.heap.size<=r->Kept Nil w v->K (.pointer (some ⟨r,0,none⟩)) v):
 bj prog jE.id #[.agg root.1] w K:=by
 refine jE.of ?_;unfold jE.W;intro w2;have k2:Kept Nil w w2:=(Kept.refl _ _).alloc _;have mu:w2.heap[w.heap.size]? =some (.cells root.1 aj (0,0)):=aH w _;clear_value w2;have la:(root.1.push (.slice none 0 0)).size=33:=by rw [Array.size_push,root.2.1]
 refine⟨root.1,⟨root.2.1,Cells.bz mu⟩,?_⟩;rw [JX];refine Is.mk rfl ⟨la,?_⟩;intro w5;have h5:w5.heap[w2.heap.size]? =some (.cells (root.1.push (.slice none 0 0)) bM (0,0)):=by
  have:=aH w2 (.cells (root.1.push (.slice none 0 0)) bM);show(w2.alloc (.cells ((root.1.push (.slice none 0 0)).toList++ []).toArray bM)).heap[w2.heap.size]? =_;rw [List.append_nil,Array.toArray_toList];exact this
 have k5:Kept Nil w2 w5:=(Kept.refl _ _).alloc _;clear_value w5;refine⟨rfl,?_⟩;intro w6;have h6:w6.heap[w5.heap.size]? =some (.cells dG.1 aj (0,0)):=aH w5 _;have k6:Kept Nil w5 w6:=(Kept.refl _ _).alloc _;clear_value w6;intro w7;have h7:w7.heap[w6.heap.size]? =some (.cells #[.slice (some ⟨w2.heap.size,0,none⟩) 1 1,.slice (some ⟨w5.heap.size,0,none⟩) 1 1] jl (0,0)):=aH w6 _;have k7:Kept Nil w6 w7:=(Kept.refl _ _).alloc _;clear_value w7;have s2:=k2.size;have s5:=k5.size;have s6:=k6.size;have l5:=aO h5;have l6:=aO h6;have h57:=k7.heap (k6.heap h5 (fun h=>h)) (fun h=>h);have h67:=k7.heap h6 (fun h=>h);have l67:=aO h67;refine hK w7 _ (fun k=>k=w2.heap.size\/k=w5.heap.size) ⟨⟨_,_,_,_,[dG],h7,⟨rfl,fun i nd hi=>?_⟩,HS.one h67,fun a ha=>by cases ha;exact .inr rfl,⟨rfl,fun i j m hi hj=>?_⟩⟩,fun e=>by omega,r7.one root,jC.root root⟩ (fun k e=>by omega) (by omega) (((k2.tt k5).tt k6).tt k7)
 ·cases i with
  |zero=>
   simp at hi;subst hi;refine⟨_,none,0,0,rfl,aO h57,.inl rfl,fun j u hj=>?_,HS.nil _ _,fun b hb=>by cases hb⟩;rw [Nat.zero_mul,add_zero,a8,Nat.zero_add,ay h57];exact hj
  |succ i=>simp at hi
 ·cases i with
  |zero=>simp at hi
  |succ i=>simp at hi
theorem M6.snoc{l:List HT}(h:M6 D P l)(hs:r7 D P)(W:jC D){nd:DN}{j:Nat}{mj:DN}(hj:D[j]? =some mj):M6 (D++ [nd]) (P++ [(j:Int)]) (l++ [mj.id]):=by
 have rW:=(lgeS hj).1;refine⟨by simp [h.1],fun i k m hi hm=>?_⟩;by_cases dQ:i<P.length
 ·rw [List.getElem?_append_left dQ]at hi
  have adb:i<D.length:=by rw [<-hs.len];exact dQ
  rw [List.getElem?_append_left (by rw [h.1];exact adb)];have lF:=hs.par;have hk:k<D.length:=by
   rcases Nat.eq_zero_or_pos i with rfl|h0
   ·rw [lF.root]at hi;simp only [Option.some.injEq]at hi;omega
   ·obtain⟨j',h1,h2⟩:=lF.up i _ h0 hi
    omega
  rw [List.getElem?_append_left hk]at hm;exact h.2 i k m hi hm
 ·have ada:=(lgeS hi).1
  have e:i=P.length:=by simp at ada;omega
  subst e;simp at hi;have:k=j:=by omega
  subst this;rw [List.getElem?_append_left rW,hj]at hm;cases hm;rw [hs.len,<-h.1];simp
theorem Ff(H:pB w F r D P)(hF:∀k,F k->k<w.heap.size)(hD:D.length<=5000){h s:HT}{lp:List HT}{A:Option Addr}{n c:Nat}(hl:HS w A n lp)(hn:n<=100000)
 (hK:∀w',pB w' (fun k=>F k\/(w.heap.size<=k/\k<w'.heap.size)) r (nu D h s lp) (nt D P h s lp)->Kept (· =r) w w'->K (.int .i64 (gF D h s lp)) w'):
 bj prog fy.id #[.pointer (some ⟨r,0,none⟩),.agg h.1,.agg s.1,.slice A n c] w K:=by
 have aca:=H.lt;have W:=H.W;have mZ:∀w',Kept Nil w w'->∀e,gF D h s lp=e->e≠0->K (.int .i64 e) w':=fun w' k e he fD=>by
  have:=hK w' ?_ (k.mono fun _ _ h=>h.elim)
  ·rw [he]at this;exact this
  ·unfold nu nt
   rw [if_neg (by rw [he];exact fD),if_neg (by rw [he];exact fD)];exact(H.same k).mono (fun _ h=>.inl h) (fun e=>e.elim H.hU (fun h=>by omega))
 refine fy.of ?_;unfold fy.W;intro w5 w6;have k5:Kept Nil w w5:=(Kept.refl _ _).alloc _;have Mr:w5.heap[w.heap.size]? =some (.cells h.1 aj (0,0)):=aH w _;have k6:Kept Nil w5 w6:=(Kept.refl _ _).alloc _;have L7:w6.heap[w5.heap.size]? =some (.cells s.1 aj (0,0)):=aH w5 _;clear_value w6;have ZG:=k6.heap Mr (fun h=>h);have nK:=k5.tt k6;have s5:=k5.size;have s6:=k6.size;have l5:=aO Mr;have l6:=aO L7;clear_value w5;obtain⟨A0,c0,B0,e0,sl,gJ,qS,DU,hB0,ael⟩:=H.ex;have Vj:=nK.heap gJ (fun h=>h);refine Is.mk rfl ⟨#[.slice A0 D.length c0],⟨rfl,fun j v hj=>?_⟩,?_⟩
 ·cases j with
  |zero=>
   rw [add_zero,add_zero,ay Vj];simpa using hj
  |succ j=>simp at hj
 intro w9;have h9:w9.heap[w6.heap.size]? =some (.cells #[.slice none 0 0] ie (0,0)):=aH w6 _;have k9:Kept Nil w6 w9:=(Kept.refl _ _).alloc _;clear_value w9;obtain⟨g1,g2,g3⟩:=dD h9 (cs:= #[.slice A0 D.length c0]) rfl;refine⟨⟨rfl,fun u hu=>?_,fun j hj=>g1 j hj⟩,?_⟩
 ·simp at hu
  subst hu;rfl
 intro mq
 replace g2:mq.heap[w6.heap.size]? =some (.cells #[.slice A0 D.length c0] ie (0,0)):=g2
 replace g3:Kept (· =w6.heap.size) w9 mq:=g3
 clear_value mq;have BV:Kept Nil w6 mq:=k9.trans g3 (fun k hk e=>by omega);have qD:=nK.tt BV;refine⟨h.1,⟨h.2.1,Cells.bz (BV.heap ZG (fun h=>h))⟩,?_⟩;have hR:tT mq F w6.heap.size D:=⟨⟨A0,c0,_,_,g2,rfl,qS.same qD⟩,fun e=>by have:=hF _ e;omega⟩;have s12:=qD.size;refine Dz hR W (by omega) (hl.same qD) (by omega) fun mQ X5 tq=>⟨_,rfl,?_⟩;have Qh:Kept Nil w mQ:=qD.trans tq (fun k hk e=>by omega);by_cases hC:du D h lp≠0
 ·refine Split.yes (by simpa using hC) ?_
  refine mZ mQ Qh _ ?_ hC;unfold gF;rw [if_neg hC]
 replace hC:=Classical.not_not.1 hC
 refine Split.no (by rw [hC];rfl) ?_;have Vs:mQ.heap[w5.heap.size]? =some (.cells s.1 aj (0,0)):=tq.heap (BV.heap L7 (fun h=>h)) (by omega);refine⟨s.1,⟨s.2.1,Cells.bz Vs⟩,xM s (hl.same Qh) (by omega) fun mP sF=>⟨_,rfl,?_⟩⟩;have IJ:=Qh.tt sF;by_cases vF:¬s∈lp
 ·refine Split.yes (by rw [decide_eq_false vF];rfl) ?_
  refine mZ mP IJ 2 ?_ (by omega);unfold gF;rw [if_pos hC,if_neg vF]
 replace vF:=Classical.not_not.1 vF
 refine Split.no (by rw [decide_eq_true vF];rfl) ?_;have eX:gF D h s lp=0:=by unfold gF;rw [if_pos hC,if_pos vF]
 obtain⟨fN,fD,dW,cZ⟩:=jV hC;obtain⟨mj,QY,QX⟩:=dI.1 (cZ s (dF.2 vF));obtain⟨j,hj⟩:=List.mem_iff_getElem?.1 QY;have eP:nt D P h s lp=P++ [(j:Int)]:=by
  unfold nt;rw [if_pos eX,<-QX,W.pos_eq hj];rfl
 have eD:nu D h s lp=D++ [⟨h,dv lp⟩]:=by unfold nu;rw [if_pos eX]
 rw [pw hC]at X5;obtain⟨A1,c1,cs1,t1,h1,Xk,V7⟩:=(X5.same sF).ex;rw [List.length_append,List.length_singleton]at V7 Xk;have Rn:mP.cell? (⟨w6.heap.size,0,none⟩:Addr)=some (.slice A1 (D.length+1) c1):=by rw [ay h1];exact Xk
 have sz1:=IJ.size;have uX:=IJ.heap gJ (fun h=>h);refine⟨#[.slice A1 (D.length+1) c1],⟨rfl,fun i v hi=>?_⟩,Is.mk rfl ⟨⟨rfl,fun u hu=>?_,fun i hi=>?_⟩,?_⟩⟩
 ·cases i with
  |zero=>
   rw [add_zero,Rn];simpa using hi
  |succ i=>simp at hi
 ·simp at hu
  subst hu;rfl
 ·have:i=0:=by omega
  subst this;rw [add_zero,add_zero];exact dJ uX (by simp)
 intro Dh qp;have abW:Dh.heap[r]? =some (.cells #[.slice A1 (D.length+1) c1,.slice B0 D.length e0] jl (0,0)):=by
  show(setCells mP ((⟨r,0,none⟩:Addr).add 0) [.slice A1 (D.length+1) c1] 0).heap[r]? =_;rw [aaI,cV uX];rfl
 have wU:Kept (· =r) mP Dh:=by
  show Kept (· =r) mP (setCells mP ((⟨r,0,none⟩:Addr).add 0) [.slice A1 (D.length+1) c1] 0)
  rw [add_zero];exact fe _ _ _ _
 have FK:Kept Nil Dh qp:=(Kept.refl _ _).drew;clear_value qp Dh;have QA:=FK.heap abW (fun h=>h);have wV:Kept (· =r) mP qp:=wU.trans FK (fun _ _ h=>h.elim);have Of:HS qp B0 D.length sl:=(DU.same IJ).az wV (fun a ha e=>H.hU (e▸hB0 a ha));have IZ:qp.heap[w5.heap.size]? =some (.cells s.1 aj (0,0)):=wV.heap (sF.heap Vs (fun h=>h)) (fun e=>by omega);refine Is.mk rfl ⟨B0,D.length,e0,by rw [a8,ay QA];rfl,s.1,⟨s.2.1,Cells.bz IZ⟩,?_⟩;have fin:∀(v:World) (A2:Option Addr) (c2:Nat),Kept Nil qp v->bL v qp.heap.size A2 (D.length+1) c2 (sl++ [s])->
  Is (some (⟨r,0,none⟩:Addr)) fun a=>Wr v (a.add 1)/\K (.int .i64 0) (v.setCell (a.add 1) (.slice A2 (D.length+1) c2)):=fun v A2 c2 kv row=>by
  refine Is.mk rfl ?_;rw [a8];have hv:=kv.heap QA (fun h=>h);have kf:Kept (· =r) v (v.setCell ⟨r,0+1,none⟩ (.slice A2 (D.length+1) c2)):=Kept.setCell (S:=fun k=>k=r) (Kept.refl _ v) (p:=⟨r,0+1,none⟩) (fun _=>rfl) _;refine⟨dJ hv (by simp),?_⟩;have ji:Kept (· =r) w (v.setCell ⟨r,0+1,none⟩ (.slice A2 (D.length+1) c2)):=(((IJ.mono (S':=(· =r)) (fun _ _ h=>h.elim)).tt wV).trans kv (fun _ _ h=>h.elim)).tt kf;have:=hK (v.setCell ⟨r,0+1,none⟩ (.slice A2 (D.length+1) c2)) ?_ ji
  ·rw [eX]at this
   exact this
  rw [eD,eP];have hbA:∀b,aW A2=some b->qp.heap.size<=b/\b<v.heap.size:=fun b hb=>by
   obtain⟨q1,cur,q2⟩:=Row.bz row hb;exact⟨q1,aO q2⟩
  have s26:=wV.size;have sv:=kv.size;have sf:=kf.size;have agE:Kept (· =r) mQ qp:=(sF.mono (S':=(· =r)) (fun _ _ h=>h.elim)).tt wV;refine⟨⟨A1,c1,A2,c2,sl++ [s],?_,?_,?_,fun a ha=>.inr ?_,?_⟩,fun e=>e.elim H.hU (fun e=>by omega),H.jX.snoc hj (by rw [QX];exact dF.2 vF) (by have:=(lgeS hj).1;omega),W.snoc fN cZ (iK lp)⟩
  ·rw [List.length_append,List.length_singleton,cV hv]
   rfl
  ·rw [List.length_append,List.length_singleton]
   have ml:Kept (· =r) mP (v.setCell ⟨r,0+1,none⟩ (.slice A2 (D.length+1) c2)):=(wV.trans kv (fun _ _ h=>h.elim)).tt kf;refine(V7.az ml fun k hk e=>?_).mono fun k hk=>?_
   ·rcases hk with hk|hk
    ·exact H.hU (e▸hk)
    ·omega
   ·rcases hk with hk|hk
    ·exact .inl hk
    ·have:=sF.size
     exact .inr ⟨by omega,by omega⟩
  ·rw [List.length_append,List.length_singleton]
   exact(bL.hs row).az kf (fun a ha e=>by have:=hbA a.block (by rw [ha];rfl);omega)
  ·have:=hbA a.block (by rw [ha];rfl)
   exact⟨by omega,by omega⟩
  ·rw [<-QX]
   exact ael.snoc H.jX W hj
 have mK:∀ {u:World},Kept Nil qp u->∃cs:Array Value,(.agg s.1:Value)=.agg cs/\cs.size=32/\Cells u (⟨w5.heap.size,0,none⟩:Addr) cs:=fun k=>⟨s.1,rfl,s.2.1,Cells.bz (k.heap IZ (fun h=>h))⟩;refine⟨?_,?_⟩
 ·obtain⟨A3,c3,ug,VF,Dw,adu,MB⟩:=cO (cx:=e0) aA (bL.nil qp qp.heap.size) Of (by omega) (Nat.le_refl _)
  rw [Nat.zero_add]at VF Dw;rw [List.nil_append]at Dw;have zO:Kept Nil qp ug:=Kept.eA (Kept.refl _ _) adu (fun k hk=>by cases hk);refine⟨A3,_,c3,ug,VF,mK zO,s.2.1,?_⟩;intro tV;have GP:Kept Nil ug tV:=(Kept.refl _ _).alloc _;have abO:HS tV (some ⟨ug.heap.size,0,none⟩) 1 [s]:=jA ug s;clear_value tV;have s32:=GP.size;have s31:=zO.size;obtain⟨A4,c4,nI,L9,zh,Rm,XC⟩:=cO (cx:=1) aA (Row.az Dw GP (fun _ _ h=>h)) abO (by omega) (by omega);have Bg:Kept Nil qp nI:=Kept.eA (zO.tt GP) Rm (fun k hk=>(Row.bz Dw hk).1);exact⟨A4,_,c4,nI,L9,fin nI A4 c4 Bg zh⟩
 ·refine⟨s.2.1,?_⟩
  intro wx;have FI:Kept Nil qp wx:=(Kept.refl _ _).alloc _;have abN:HS wx (some ⟨qp.heap.size,0,none⟩) 1 [s]:=jA qp s;clear_value wx;have s37:=FI.size;refine⟨by rw [a8,ay (FI.heap QA (fun h=>h))];rfl,?_⟩;obtain⟨A3,c3,GM,VE,Dt,ads,MA⟩:=cO (cx:=e0) aA (bL.nil wx wx.heap.size) (Of.same FI) (by omega) (Nat.le_refl _);rw [Nat.zero_add]at VE Dt;rw [List.nil_append]at Dt;have It:Kept Nil wx GM:=Kept.eA (Kept.refl _ _) ads (fun k hk=>by cases hk);have s39:=It.size;obtain⟨A4,c4,Df,acj,No,adr,Xz⟩:=cO (cx:=1) aA Dt (abN.same It) (by omega) (by omega);have P7:Kept Nil wx Df:=Kept.eA It adr (fun k hk=>(Row.bz Dt hk).1);exact⟨A3,_,c3,GM,VE,A4,_,c4,Df,acj,fin Df A4 c4 (FI.tt P7) (Row.base No (fun k hk=>by have:=(Row.bz No hk).1;omega))⟩
end
section
variable{w w' v:World}{F FP FR S S2 F2:Nat->Prop}{x r:Nat}{D D':DG}{P P':List Int}{K:Value->World->Prop}
theorem BL(h:Bc w S F x D P)(hD:D.length<=5000)(hT:rZ w)(KK:¬S (Tryz.jt.g 1)){A:Option Addr}{n cx:Nat}{lp:List HT}(hl:HS w A n lp)(hn:n<=5000)(hid s:HT)
 (hK:∀u S' F',Bc u S' F' x (nu D hid s lp) (nt D P hid s lp)->Kept S w u->(∀k,S' k->S k\/w.heap.size<=k)->(∀k,F' k->F k\/w.heap.size<=k)->K (.int .i64 (gF D hid s lp)) u):
 bj prog aC.id #[.pointer (some ⟨x,0,none⟩),.agg hid.1,.agg s.1,.slice A n cx] w K:=by
 obtain⟨m,h1,h2⟩:=h;refine Fg h1 hD hT (fun e=>KK (h2 _ (.inl e))) hl hn hid s (fun u k hc=>?_) (fun u S' F' hI k hS hF hc=>?_)
 ·refine hK u S F ?_ (k.mono fun _ _ h=>h.elim) (fun k h=>.inl h) (fun k h=>.inl h)
  unfold nu nt;rw [if_neg hc,if_neg hc];exact⟨m,h1.same k,h2⟩
 ·have:=hK u S' F' hI (k.mono fun k _ h=>h2 k h) (fun k h=>(hS k h).imp (h2 k) (fun h=>h)) hF
  rw [hc]at this;exact this
end
end Go.Proofs.YtnboahlopghcjaaGreatDoor
namespace Go.Proofs.YtnboahlopghcjaaGreatDoor
open Go.Proofs.Tryz
open Go Go.bT Go.RowKit
open Tr (jK)
theorem four(w:World)(r a b c:HT):
 let w1:=w.alloc (.cells dG.1 aj);let w2:=w1.alloc (.cells dG.1 aj);let w3:=w2.alloc (.cells dG.1 aj);let w4:=w3.alloc (.cells dG.1 aj)
 let w7:=setCells w4 (⟨w.heap.size,0,none⟩:Addr) r.1.toList 0;let w10:=setCells w7 (⟨w1.heap.size,0,none⟩:Addr) a.1.toList 0;let lh:=setCells w10 (⟨w2.heap.size,0,none⟩:Addr) b.1.toList 0;let jx:=setCells lh (⟨w3.heap.size,0,none⟩:Addr) c.1.toList 0
 ((∀j,j<32->Wr w4 ((⟨w.heap.size,0,none⟩:Addr).add j))/\(∀j,j<32->Wr w7 ((⟨w1.heap.size,0,none⟩:Addr).add j))/\(∀j,j<32->Wr w10 ((⟨w2.heap.size,0,none⟩:Addr).add j))/\(∀j,j<32->Wr lh ((⟨w3.heap.size,0,none⟩:Addr).add j)))/\
 jx.heap[w.heap.size]? =some (.cells r.1 aj (0,0))/\jx.heap[w1.heap.size]? =some (.cells a.1 aj (0,0))/\jx.heap[w2.heap.size]? =some (.cells b.1 aj (0,0))/\jx.heap[w3.heap.size]? =some (.cells c.1 aj (0,0))/\
 w.heap.size<w1.heap.size/\w1.heap.size<w2.heap.size/\w2.heap.size<w3.heap.size/\w3.heap.size<jx.heap.size/\Kept Nil w jx:=by
 intro w1 w2 w3 w4;have k1':Kept Nil w w1:=(Kept.refl _ _).alloc _;have BW:Kept Nil w1 w2:=(Kept.refl _ _).alloc _;have zP:Kept Nil w2 w3:=(Kept.refl _ _).alloc _;have LO:Kept Nil w3 w4:=(Kept.refl _ _).alloc _;have lf:w1.heap[w.heap.size]? =some (.cells dG.1 aj (0,0)):=aH w _;have XR:w2.heap[w1.heap.size]? =some (.cells dG.1 aj (0,0)):=aH w1 _;have pN:w3.heap[w2.heap.size]? =some (.cells dG.1 aj (0,0)):=aH w2 _;have Rv:w4.heap[w3.heap.size]? =some (.cells dG.1 aj (0,0)):=aH w3 _;clear_value w4;have rX:=LO.heap pN (fun h=>h);have yj:=LO.heap (zP.heap XR (fun h=>h)) (fun h=>h);have vG:=LO.heap (zP.heap (BW.heap lf (fun h=>h)) (fun h=>h)) (fun h=>h);have l1:=aO lf;have l2:=aO XR;have l3:=aO pN;have l4:=aO Rv;clear_value w3 w2 w1;have H8:Kept Nil w w4:=((k1'.tt BW).tt zP).tt LO;have sz:∀h:HT,dG.1.size=h.1.size:=fun h=>by rw [h.2.1];rfl
 obtain⟨wr7,Oj,k7⟩:=dD vG (cs:=r.1) (sz r);rw [r.2.1]at wr7;intro w7
 replace Oj:w7.heap[w.heap.size]? =some (.cells r.1 aj (0,0)):=Oj
 replace k7:Kept (· =w.heap.size) w4 w7:=k7
 clear_value w7;obtain⟨TD,RJ,me⟩:=dD (k7.heap yj (by omega)) (cs:=a.1) (sz a);rw [a.2.1]at TD;intro w10
 replace RJ:w10.heap[w1.heap.size]? =some (.cells a.1 aj (0,0)):=RJ
 replace me:Kept (· =w1.heap.size) w7 w10:=me
 clear_value w10;obtain⟨TC,yi,tI⟩:=dD (me.heap (k7.heap rX (by omega)) (by omega)) (cs:=b.1) (sz b);rw [b.2.1]at TC;intro lh
 replace yi:lh.heap[w2.heap.size]? =some (.cells b.1 aj (0,0)):=yi
 replace tI:Kept (· =w2.heap.size) w10 lh:=tI
 clear_value lh;obtain⟨TB,Mz,ow⟩:=dD (tI.heap (me.heap (k7.heap Rv (by omega)) (by omega)) (by omega)) (cs:=c.1) (sz c);rw [c.2.1]at TB;intro jx
 replace Mz:jx.heap[w3.heap.size]? =some (.cells c.1 aj (0,0)):=Mz
 replace ow:Kept (· =w3.heap.size) lh jx:=ow
 clear_value jx;have Y8:=aO Mz;exact⟨⟨wr7,TD,TC,TB⟩,ow.heap (tI.heap (me.heap Oj (by omega)) (by omega)) (by omega),ow.heap (tI.heap RJ (by omega)) (by omega),ow.heap yi (by omega),Mz,by omega,by omega,by omega,Y8,
  (((H8.trans k7 (fun k hk e=>by omega)).trans me (fun k hk e=>by omega)).trans tI (fun k hk e=>by omega)).trans ow (fun k hk e=>by omega)⟩
section
variable{r a b c:HT}(FZ:r≠a)(zY:r≠b)(Oi:r≠c)(lG:a≠b)(OY:a≠c)(JA:b≠c)
end
section
variable{w w':World}{K:Value->World->Prop}
end
end Go.Proofs.YtnboahlopghcjaaGreatDoor
namespace Go.Proofs.YtnboahlopghcjaaGreatDoor
open Go.Proofs.Tryz
open Go Go.bT Go.RowKit
open Go.ChangeMaps (setBlock)
theorem sU{x:HT}{v:Value}:∀ {l:List (HT×Value)} {j:Nat},(l.map (·.1)).Nodup->l[j]? =some (x,v)->assoc x l=some v
 | [],_,_,h=>by simp at h
 |(y,u)::l,0,_,h=>by
  simp at h;obtain⟨rfl,rfl⟩:=h;unfold assoc;rw [if_pos rfl]
 |(y,u)::l,j+1,hn,h=>by
  simp only [List.map_cons,List.nodup_cons]at hn;have hm:x∈l.map (·.1):=List.mem_map.2 ⟨(x,v),List.mem_of_getElem? (i:=j) (by simpa using h),rfl⟩;unfold assoc;rw [if_neg (fun e:x=y=>hn.1 (by rw [<-e];exact hm))];exact sU hn.2 (j:=j) (by simpa using h)
theorem xw{x:HT}{v:Value}:∀ {l:List (HT×Value)},assoc x l=some v->∃j:Nat,l[j]? =some (x,v)
 | [],h=>by simp [assoc]at h
 |(y,u)::l,h=>by
  unfold assoc at h;split at h
  ·rename_i e
   subst e;cases h;exact⟨0,rfl⟩
  ·obtain⟨j,hj⟩:=xw h
   exact⟨j+1,by simpa using hj⟩
theorem mO.of{es:List MapEntry}{l:List (HT×Value)}(h:mO es l){j:Nat}{e:MapEntry}(he:es[j]? =some e):∃p,l[j]? =some p/\e.key=.agg p.1.1/\e.val=p.2:=by
 have hlen:=h.len;have hj:=(lgeS he).1;obtain⟨p,hp⟩:∃p,l[j]? =some p:=⟨_,List.getElem?_eq_getElem (by omega)⟩;obtain⟨e',g1,g2,g3⟩:=h.get hp;rw [he]at g1;cases g1;exact⟨p,hp,g2,g3⟩
theorem yz{x y:HT}(h:(Value.agg x.1:Value)=.agg y.1):x=y:=by
 cases h':x;cases Z1:y
 simp_all
structure nC(w:World)(m it:Nat)(f:HT->Option Value)(left:HT->Prop)(xo:Nat):Prop where
 ne:it≠m
 ex:∃es clock l since seen c0,w.heap[m]? =some (.map es clock)/\mO es.toList l/\(∀x,assoc x l=f x)/\(es.toList.map (·.born)).Nodup/\(l.map (·.1)).Nodup/\
  w.heap[it]? =some (.mapIter (some m) since seen c0)/\(∀e∈es.toList,e.born<since)/\since<=c0/\since<=clock/\(leftOf es seen).size=xo/\∀x,left x↔∃e∈es.toList,e.key=.agg x.1/\seen.contains e.born=false
section
variable{w w':World}{m it:Nat}{f:HT->Option Value}{left:HT->Prop}{xo:Nat}
theorem nC.az{S:Nat->Prop}(h:nC w m it f left xo)(hk:Kept S w w')(h1:¬S m)(h2:¬S it):nC w' m it f left xo:=by
 obtain⟨es,clock,l,since,seen,c0,g1,g2,g3,g4,g5,g6,g7⟩:=h.ex;exact⟨h.ne,es,clock,l,since,seen,c0,hk.heap g1 h1,g2,g3,g4,g5,hk.heap g6 h2,g7⟩
theorem nC.left_eq(h:nC w m it f left xo):w.rangeLeft m it=xo:=by
 obtain⟨es,clock,l,since,seen,c0,g1,g2,g3,g4,g5,g6,g7,_,_,g8,_⟩:=h.ex;simp only [World.rangeLeft,g1,g6];exact g8
theorem nC.lt(h:nC w m it f left xo):it<w.heap.size:=by
 obtain⟨es,clock,l,since,seen,c0,g1,g2,g3,g4,g5,g6,_⟩:=h.ex;exact aO g6
theorem fp.range{mt te:TypeId}{z:Value}(T:wu mt te z)(h:fp w m f):∃w' xo,(Instr.range mt (.map (some m))).run prog w=.ok (.pointer (some ⟨w.heap.size,0,none⟩)) w'/\nC w' m w.heap.size f (fun x=>f x≠none) xo/\Kept Nil w w':=by
 obtain⟨es,clock,l,g1,g2,g3,g4,g5,g6⟩:=h.ex;have cH:=h.lt;refine⟨w.alloc (.mapIter (some m) clock #[] clock),_,run_range_map w mt aj te m es clock T.oD g1,⟨by omega,es,clock,l,clock,#[],clock,ju g1 _,g2,g3,g5,g6,aH w _,g4,Nat.le_refl _,Nat.le_refl _,rfl,fun x=>?_⟩,(Kept.refl _ _).alloc _⟩;rw [<-g3];constructor
 ·intro hx
  cases ha:assoc x l with
  |none=>exact absurd ha hx
  |some v=>
   obtain⟨j,hj⟩:=xw ha;obtain⟨e,he,hk,_⟩:=g2.get hj;exact⟨e,List.mem_of_getElem? he,hk,by simp⟩
 ·rintro⟨e,he,hk,_⟩
  obtain⟨j,hj⟩:=List.mem_iff_getElem?.1 he;obtain⟨⟨y,v⟩,hp,lg,_⟩:=g2.of hj;have:y=x:=yz (lg.symm.trans hk);subst this;rw [sU g6 hp];simp
theorem nC.next(h:nC w m it f left xo)(ty:TypeId):
 (xo=0/\(∀x,¬left x)/\(Instr.next (.pointer (some ⟨it,0,none⟩)) false ty).run prog w=.ok (.tuple #[.bool false]) w)\/
 ∃(x:HT) (v:Value) (w':World) (YC:Nat),left x/\f x=some v/\(Instr.next (.pointer (some ⟨it,0,none⟩)) false ty).run prog w=.ok (.tuple #[.bool true,.agg x.1,v]) w'/\
  (Instr.entry (.pointer (some ⟨it,0,none⟩))).run prog w'=.ok (.tuple #[.agg x.1,v]) w'/\nC w' m it f (fun y=>left y/\y≠x) YC/\YC<xo/\Kept (· =it) w w':=by
 have fD:=h.ne;obtain⟨es,clock,l,since,seen,c0,g1,g2,g3,g4,g5,g6,g7,g8,g8',rfl,g9⟩:=h.ex;rcases run_next_at (P:=prog) w ty it m since c0 seen es clock g6 g1 g7 g8 with⟨h0,hr⟩|⟨e,he,w1,KB,hr⟩
 ·refine .inl ⟨h0,fun x hx=>?_,hr⟩
  obtain⟨e,he,_,hs⟩:=(g9 x).1 hx;have hm:e∈leftOf es seen:=by
   unfold leftOf;rw [Array.mem_filter];exact⟨by simpa using he,by rw [hs];rfl⟩
  have:=Array.size_pos_of_mem hm;omega
 ·obtain⟨ZH,hes⟩:=mem_left he
  obtain⟨j,hj⟩:=List.mem_iff_getElem?.1 ZH;obtain⟨⟨x,v⟩,hp,hk,hv⟩:=g2.of hj;have hk:e.key=.agg x.1:=hk;have hv:e.val=v:=hv;rw [hk,hv]at hr;have ac8:w1.heap[it]? =some (.mapIter (some m) since seen c0):=by rcases KB with rfl|rfl<;>exact g6
  have GX:w1.heap[m]? =some (.map es clock):=by rcases KB with rfl|rfl<;>exact g1
  have L6:(setBlock w1 it (.mapIter (some m) since (seen.push e.born) clock)).heap[it]? =some (.mapIter (some m) since (seen.push e.born) clock):=by
   have:=aO ac8;simp [setBlock,this]
  have VX:(setBlock w1 it (.mapIter (some m) since (seen.push e.born) clock)).heap[m]? =some (.map es clock):=by
   simp [setBlock,fD,GX]
  have WG:Kept (· =it) w (setBlock w1 it (.mapIter (some m) since (seen.push e.born) clock)):=by
   have hd:w.drew.heap=w.heap:=rfl;rcases KB with rfl|rfl
   ·exact⟨rfl,rfl,rfl,by simp [setBlock],fun k _ hk=>by simp [setBlock,Ne.symm hk]⟩
   ·exact⟨rfl,rfl,rfl,by simp [setBlock,hd],fun k _ hk=>by simp [setBlock,hd,Ne.symm hk]⟩
  refine .inr ⟨x,v,_,_,(g9 x).2 ⟨e,ZH,hk,hes⟩,by rw [<-g3];exact sU g5 hp,hr,?_,⟨fD,es,clock,l,since,seen.push e.born,clock,VX,g2,g3,g4,g5,L6,g7,g8',g8',rfl,fun y=>?_⟩,left_shrinks es seen e he,WG⟩
  ·have:=run_entry_at (P:=prog) _ it m since seen es clock e L6 VX ZH g4
   rw [hk,hv]at this;exact this
  ·have MZ:∀ {e':MapEntry},e'∈es.toList->e'.born=e.born->e'=e:=fun {e'} My hb=>by
    obtain⟨j',tz⟩:=List.mem_iff_getElem?.1 My;have h1:(es.toList.map (·.born))[j']? =some e'.born:=by rw [List.getElem?_map,tz];rfl
    have h2:(es.toList.map (·.born))[j]? =some e.born:=by rw [List.getElem?_map,hj];rfl
    rw [hb]at h1;have g1:=lgeS h1;have g2:=lgeS h2;have:j'=j:=(List.getElem_inj g4).1 (g1.2.trans g2.2.symm);subst this;rw [hj]at tz;cases tz;rfl
   rw [g9];constructor
   ·rintro⟨⟨e',My,ml,mY⟩,acM⟩
    refine⟨e',My,ml,?_⟩;rw [contains_push,mY,Bool.false_or,beq_eq_false_iff_ne];intro hb;have:=MZ My hb;subst this;exact acM (yz (ml.symm.trans hk))
   ·rintro⟨e',My,ml,mY⟩
    rw [contains_push,Bool.or_eq_false_iff]at mY;refine⟨⟨e',My,ml,mY.1⟩,fun DT=>?_⟩;subst DT;obtain⟨j',tz⟩:=List.mem_iff_getElem?.1 My;obtain⟨⟨y',v'⟩,Mg,lg,_⟩:=g2.of tz;have e1:y'=y:=yz (lg.symm.trans ml);subst e1;have h1:(l.map (·.1))[j']? =some y':=by rw [List.getElem?_map,Mg];rfl
    have h2:(l.map (·.1))[j]? =some y':=by rw [List.getElem?_map,hp];rfl
    have g1:=lgeS h1;have g2:=lgeS h2;have:j'=j:=(List.getElem_inj g5).1 (g1.2.trans g2.2.symm);subst this;rw [hj]at tz;cases tz;simp at mY
end
end Go.Proofs.YtnboahlopghcjaaGreatDoor
namespace Go.Proofs.YtnboahlopghcjaaGreatDoor
open Go.Proofs.Tryz
open Go Go.bT Go.RowKit
structure CN(w v:World)(F:Nat->Prop)(D:DG)(T:List Tr.Nd)(d:Int)(own:Nat->Nat)(G T' E:Option Nat)(I:Option (Option Addr×Nat))(Z:Option Nat):Prop where
 kp:Kept Nil w v
 gr:∀g,G=some g->∃SG,yM v SG F g D/\∀k,SG k->w.heap.size<=k/\k<v.heap.size/\own k=1
 tr:∀t,T'=some t->∃ST,Tr.nE v ST t T d/\∀k,ST k->w.heap.size<=k/\k<v.heap.size/\own k=2
 mp:∀b,E=some b->w.heap.size<=b/\own b=3/\IsMap v b (ids D)
 il:∀A c,I=some (A,c)->bL v w.heap.size A D.length c (ids D)/\∀k,aW A=some k->own k=4
 cv:∀b,Z=some b->w.heap.size<=b/\own b=5/\fp v b (fun _=>none)
section
variable{w v v':World}{F:Nat->Prop}{D:DG}{P:List Int}{T:List Tr.Nd}{d:Int}{own:Nat->Nat}{G T' E:Option Nat}{I:Option (Option Addr×Nat)}{Z:Option Nat}{x:Nat}{m:XM}{K:Value->World->Prop}
theorem CN.grow(h:CN w v F D T d own G T' E I Z)(t:Nat)(k:Kept Nil v v'):CN w v' F D T d (tag v.heap.size t own) G T' E I Z:=by
 have hs:=k.size;refine⟨h.kp.tt k,fun g e=>?_,fun g e=>?_,fun b e=>?_,fun A c e=>?_,fun b e=>?_⟩
 ·obtain⟨SG,h1,h2⟩:=h.gr g e
  exact⟨SG,h1.same k,fun q hq=>⟨(h2 q hq).1,by have:=(h2 q hq).2.1;omega,by rw [kz (h2 q hq).2.1];exact(h2 q hq).2.2⟩⟩
 ·obtain⟨ST,h1,h2⟩:=h.tr g e
  exact⟨ST,h1.same k,fun q hq=>⟨(h2 q hq).1,by have:=(h2 q hq).2.1;omega,by rw [kz (h2 q hq).2.1];exact(h2 q hq).2.2⟩⟩
 ·obtain⟨h1,h2,h3⟩:=h.mp b e
  exact⟨h1,by rw [kz h3.lt];exact h2,h3.az k (fun h=>h)⟩
 ·obtain⟨h1,h2⟩:=h.il A c e
  refine⟨Row.az h1 k (fun _ _ h=>h),fun q hq=>?_⟩;obtain⟨_,cur,hc⟩:=Row.bz h1 hq;rw [kz (aO hc)];exact h2 q hq
 ·obtain⟨h1,h2,h3⟩:=h.cv b e
  exact⟨h1,by rw [kz h3.lt];exact h2,h3.az k (fun h=>h)⟩
theorem CN.cU(h:CN w v F D T d own none T' E I Z){gb:Nat}(hG:yM v' (fun k=>v.heap.size<=k/\k<v'.heap.size) F gb D)(k:Kept Nil v v'):CN w v' F D T d (tag v.heap.size 1 own) (some gb) T' E I Z:=by
 have g:=h.grow 1 k;refine⟨g.kp,?_,g.tr,g.mp,g.il,g.cv⟩;intro g' e;cases e;have:=h.kp.size;exact⟨_,hG,fun q hq=>⟨by omega,hq.2,kF hq.1⟩⟩
theorem CN.p9(h:CN w v F D T d own G none E I Z){t:Nat}(hT:Tr.nE v' (fun k=>v.heap.size<=k) t T d)(k:Kept Nil v v'):CN w v' F D T d (tag v.heap.size 2 own) G (some t) E I Z:=by
 have g:=h.grow 2 k;refine⟨g.kp,g.gr,?_,g.mp,g.il,g.cv⟩;intro t' e;cases e;have:=h.kp.size;exact⟨_,pS hT,fun q hq=>⟨by omega,hq.2,kF hq.1⟩⟩
theorem CN.pv(h:CN w v F D T d own G T' none I Z){es:Array MapEntry}{cl:Nat}(he:yE es.toList (ids D) 0):CN w (v.alloc (.map es cl)) F D T d (tag v.heap.size 3 own) G T' (some v.heap.size) I Z:=by
 have g:=h.grow 3 ((Kept.refl Nil v).alloc (.map es cl));refine⟨g.kp,g.gr,g.tr,?_,g.il,g.cv⟩;intro b e;cases e;exact⟨h.kp.size,kF (Nat.le_refl _),⟨es,cl,aH v _,he⟩⟩
theorem CN.lI(h:CN w v F D T d own G T' E none Z){A:Option Addr}{c:Nat}(hr:bL v' v.heap.size A D.length c (ids D))(k:Kept Nil v v'):CN w v' F D T d (tag v.heap.size 4 own) G T' E (some (A,c)) Z:=by
 have g:=h.grow 4 k;refine⟨g.kp,g.gr,g.tr,g.mp,?_,g.cv⟩;intro A' c' e;cases e;have:=h.kp.size;exact⟨Row.base hr (fun b hb=>Nat.le_trans this (Row.bz hr hb).1),fun k hk=>kF (Row.bz hr hk).1⟩
theorem CN.lH(h:CN w v F D T d own G T' E I none):CN w (v.alloc (.map #[] 0)) F D T d (tag v.heap.size 5 own) G T' E I (some v.heap.size):=by
 have g:=h.grow 5 ((Kept.refl Nil v).alloc (.map #[] 0));refine⟨g.kp,g.gr,g.tr,g.mp,g.il,?_⟩;intro b e;cases e;exact⟨h.kp.size,kF (Nat.le_refl _),fp.new v⟩
theorem CN.fin{u:World}{g t mb ib ic cb ob:Nat}(h:XV w F x D P m)(N:CN w v F D m.T m.d own (some g) (some t) (some mb) (some (some ⟨ib,0,none⟩,ic)) (some cb))(ho:ob=v.heap.size)
 (gJ:u.heap[ob]? =some (.cells #[.pointer (some ⟨g,0,none⟩),.pointer (some ⟨t,0,none⟩),.map (some mb),.slice (some ⟨ib,0,none⟩) D.length ic,.map (some cb)] cM (0,0)))
 (ku:Kept (· =cb) v u) (Rt:∃f,fp u cb f/\∀y,∃l,mC u (fun k=>ob<k/\k<u.heap.size) D.length (f y) l/\∀c,c∈l↔Na D P y c):
 Bc u (fun k=>w.heap.size<=k/\k<u.heap.size) F ob D P:=by
 obtain⟨SG,hG,gG⟩:=N.gr g rfl;obtain⟨ST,hT,gT⟩:=N.tr t rfl;obtain⟨m1,m2,m3⟩:=N.mp mb rfl;obtain⟨i1,i2⟩:=N.il _ ic rfl;obtain⟨c1,c2,c3⟩:=N.cv cb rfl;have Ad:=i2 ib rfl;obtain⟨hib,cur,lr⟩:=Row.bz i1 (k:=ib) rfl;have lib:=aO lr;have sw:=N.kp.size;have su:=ku.size;have lm:=m3.lt;have lc:=c3.lt;have lo:=aO gJ;have nF:∀k,F k->k<w.heap.size:=fun k e=>h.low k (.inr e);have e1:mb≠cb:=fun e=>by rw [e]at m2;omega
 have e2:ib≠cb:=fun e=>by rw [e]at Ad;omega
 have e3:mb≠ib:=fun e=>by rw [e]at m2;omega
 refine⟨⟨g,t,mb,ib,ic,cb,m.T,m.d,SG,ST,fun k=>ob<k/\k<u.heap.size⟩,⟨gJ,hG.az ku (fun k e e'=>by have:=(gG k e).2.2;rw [e',c2]at this;omega) (fun k e e'=>by have:=nF k e;omega),hT.az ku (fun k e e'=>by have:=(gT k e).2.2;rw [e',c2]at this;omega),h.Gk,h.bP,h.dl,m3.az ku e1,?_,Rt,h.jX,h.W,?_,?_,?_,?_,?_,?_⟩,?_⟩
 ·exact Row.base (Row.az i1 ku (fun k e e'=>by cases e;exact e2 e')) (fun _ _=>Nat.zero_le _)
 ·exact fun k e=>⟨fun e'=>by have:=(gG k e).2.2;have:=(gT k e').2.2;omega,fun e'=>by have:=(gG k e).2.1;omega⟩
 ·exact fun k e e'=>by have:=(gT k e).2.1;omega
 ·exact fun k e=>⟨fun e'=>by have:=nF k e;have:=(gT k e').1;omega,fun e'=>by have:=nF k e;omega⟩
 ·intro k e
  have key:k=ob\/(3<=own k/\k<ob/\w.heap.size<=k):=by
   rcases e with e|e|e|e
   ·exact .inl e
   ·exact .inr (by have e:k=mb:=e;rw [e];omega)
   ·exact .inr (by have e:k=ib:=e;rw [e];omega)
   ·exact .inr (by have e:k=cb:=e;rw [e];omega)
  refine⟨fun e'=>?_,fun e'=>?_,fun e'=>?_,fun e'=>?_⟩
  ·have h1:=gG k e';omega
  ·have h1:=gT k e';omega
  ·omega
  ·have:=nF k e';omega
 ·exact⟨by show ob≠mb;omega,by show ob≠ib;omega,by show ob≠cb;omega,e3,e1,e2⟩
 ·intro k e
  rcases e with e|e
  ·rcases e with e|e|e|e
   ·have:=(gG k e).2.1;omega
   ·have:=(gT k e).2.1;omega
   ·exact e.2
   ·rcases e with e|e|e|e
    ·have e:k=ob:=e;omega
    ·have e:k=mb:=e;omega
    ·have e:k=ib:=e;omega
    ·have e:k=cb:=e;omega
  ·have:=nF k e;omega
 ·intro k e
  rcases e with e|e|e|e
  ·have:=gG k e;exact⟨this.1,by omega⟩
  ·have:=gT k e;exact⟨this.1,by omega⟩
  ·have e:ob<k/\k<u.heap.size:=e;exact⟨by omega,e.2⟩
  ·rcases e with e|e|e|e
   ·have e:k=ob:=e;exact⟨by omega,by omega⟩
   ·have e:k=mb:=e;exact⟨by omega,by omega⟩
   ·have e:k=ib:=e;exact⟨by omega,by omega⟩
   ·have e:k=cb:=e;exact⟨by omega,by omega⟩
theorem vN(h:XV w F x D P m)(hD:D.length<=5000)(hK:∀v o,Bc v (fun k=>w.heap.size<=k/\k<v.heap.size) F o D P->Kept Nil w v->K (.pointer (some ⟨o,0,none⟩)) v):
 bj prog bf.id #[.pointer (some ⟨x,0,none⟩)] w K:=by
 have W:=h.W;have Zs:=h.K3;have iq:=W.pos;obtain⟨f0,Xe,Rx⟩:=h.YB;obtain⟨L,hL⟩:=Classical.axiomOfChoice Rx;obtain⟨es,cl,Zz,xg⟩:=h.at_;have yh:∀(i:Nat) nd,m.T[i]? =some nd->nd.ch.length<=1000000:=fun i nd dW=>by
  have e:nd.ch=Tr.kids P i:=by rw [h.Gk.ch i nd dW,h.bP]
  have:(Tr.kids P i).length<=P.length:=by
   unfold Tr.kids;exact Nat.le_trans (List.length_filter_le _ _) (by rw [List.length_range];exact Nat.le_refl _)
  rw [h.jX.len]at this;rw [e];omega
 refine bf.of ?_;unfold bf.W;refine oW h ⟨true,rfl,Split.no rfl ?_⟩;intro w5;have k5:Kept Nil w w5:=(Kept.refl _ _).drew;clear_value w5;have h5:=h.same k5;have N5:CN w w5 F D m.T m.d (fun _=>0) none none none none none:=⟨k5,(fun b e=>by cases e),(fun b e=>by cases e),(fun b e=>by cases e),(fun A c e=>by cases e),(fun b e=>by cases e)⟩;have fin:∀ {v:World} {own:Nat->Nat} {g t mb cb ic:Nat} {A:Option Addr},CN w v F D m.T m.d own (some g) (some t) (some mb) (some (A,ic)) (some cb)->
  Is (some (⟨x,0,none⟩:Addr)) fun a28:Addr=>∃cm:Option Nat,(v.alloc (.cells #[.pointer (some ⟨g,0,none⟩),.pointer (some ⟨t,0,none⟩),.map (some mb),.slice A D.length ic,.map (some cb)] cM)).cell? (a28.add 4)=some (.map cm)/\∃(U5:Option Addr) (TE:World),(Instr.range fk (.map cm)).run prog (v.alloc (.cells #[.pointer (some ⟨g,0,none⟩),.pointer (some ⟨t,0,none⟩),.map (some mb),.slice A D.length ic,.map (some cb)] cM))=.ok (.pointer U5) TE/\Holds none [] prog 50 (.loop (lB (bB (sR (sL (sR (sR (sR (body f58))))))))) (bf.q1 K) (bf.e1 none ⟨v.heap.size,0,none⟩ U5 ()) TE:=by
  intro v own g t mb cb ic A N;obtain⟨ib,rfl⟩:=Row.some (N.il _ _ rfl).1 iq;have hb:=aH v (.cells #[.pointer (some ⟨g,0,none⟩),.pointer (some ⟨t,0,none⟩),.map (some mb),.slice (some ⟨ib,0,none⟩) D.length ic,.map (some cb)] cM);have GQ:=(Kept.refl Nil v).alloc (.cells #[.pointer (some ⟨g,0,none⟩),.pointer (some ⟨t,0,none⟩),.map (some mb),.slice (some ⟨ib,0,none⟩) D.length ic,.map (some cb)] cM);generalize v.alloc (.cells #[.pointer (some ⟨g,0,none⟩),.pointer (some ⟨t,0,none⟩),.map (some mb),.slice (some ⟨ib,0,none⟩) D.length ic,.map (some cb)] cM)=v27 at hb GQ⊢;have kv:=N.kp;have Qe:=kv.tt GQ;have h27:=h.same Qe;obtain⟨z1,z2,z3⟩:=N.cv cb rfl;have sv:=kv.size;have lo:=aO hb;have lz:=z3.lt;have lcb:m.cb<w.heap.size:=Xe.lt;obtain⟨ug,xo,hr,hit,zO⟩:=(Xe.same Qe).range rl;have s31:=zO.size;refine Is.mk rfl ⟨_,h27.c4,_,ug,hr,?_⟩;refine bf.b6 (I:=fun _ u=>∃left xo f',nC u m.cb v27.heap.size f0 left xo/\fp u cb f'/\(∀y,(left y->f' y=none)/\(¬left y->mC u (fun k=>v27.heap.size<k/\k<u.heap.size) D.length (f' y) (L y)))/\Kept (fun k=>k=cb\/k=v27.heap.size) ug u) (μ:=fun _ u=>u.rangeLeft m.cb v27.heap.size) (s:=()) ⟨_,xo,_,hit,(z3.az GQ (fun h=>h)).az zO (fun h=>h),fun y=>⟨fun _=>rfl,fun hn=>?_⟩,Kept.refl _ _⟩ ?_
  ·have:=(hL y).1
   rw [Classical.not_not.1 hn]at this;rcases this with⟨_,e⟩|⟨A,n,c,e,_⟩
   ·exact .inl ⟨rfl,e⟩
   ·cases e
  rintro s u ⟨left,ae3,f',Cu,hf2,hinv,ku⟩;have su:=ku.size;have lit:=Cu.lt;have Ly:Kept Nil w u:=(Qe.tt zO).trans ku (fun k hk e=>by omega);have gJ:u.heap[v.heap.size]? =_:=ku.heap (zO.heap hb (fun h=>h)) (by omega);rcases Cu.next 0 with⟨h0,Jc,jj⟩|⟨y,val,u2,R1,hl,hfy,jj,Rr,Q7,cH,k2⟩
  ·refine .inl ⟨u,jj,?_⟩
   rw [aP,bf.cX];have Sy:Kept (· =cb) v u:=((GQ.tt zO).mono (S':=(· =cb)) (fun _ _ h=>h.elim)).trans ku (fun k hk e=>e.elim (fun e=>e) (fun e=>by omega));refine hK u _ (N.fin h rfl gJ Sy ⟨f',hf2,fun y=>⟨L y,?_,(hL y).2⟩⟩) Ly;rcases(hinv y).2 (Jc y)with e|⟨A,n,c,e1,e2,e3,e4,e5⟩
   ·exact .inl e
   ·exact .inr ⟨A,n,c,e1,e2,e3,e4,fun a ha=>⟨by have:=(e5 a ha).1;omega,(e5 a ha).2⟩⟩
  ·have ZJ:=(hL y).1
   rw [hfy]at ZJ;rcases ZJ with⟨e,_⟩|⟨Ay,ny,cy,e,Ct,QI,hny,hoy⟩
   ·cases e
   cases e;have s2:=k2.size;refine .inr ⟨_,_,u2,jj,y.1,Ay,ny,cy,Rr,?_⟩;intro Hf;obtain⟨sM,jg,jk⟩:=gP (w:=u2) (z:=dG.1) (cs:=y.1) (t:=aj) (by rw [y.2.1];rfl);refine⟨⟨y.2.1,y.2.one,fun j hj=>sM j (by rw [y.2.1];exact hj)⟩,?_⟩;intro KX GK
   replace jg:KX.heap[u2.heap.size]? =some (.cells y.1 aj (0,0)):=jg
   replace jk:Kept Nil u2 KX:=jk
   have P1:Kept Nil KX GK:=(Kept.refl _ _).drew;clear_value GK KX;have JC:=P1.heap jg (fun h=>h);have Iw:=jk.tt P1;have LB:Kept (· =v27.heap.size) u GK:=k2.trans Iw (fun _ _ h=>h.elim);have abc:Kept Nil w GK:=Ly.trans LB (fun k hk e=>by omega);have Vl:=LB.heap gJ (by omega);refine⟨some cb,by rw [a8,ay Vl];rfl,y.1,⟨y.2.1,Cells.bz JC⟩,?_⟩;refine iY (QI.same abc) (by omega) fun A3 c3 TJ mD IG=>⟨A3,ny,c3,rfl,⟨y.1,rfl,y.2.1,Cells.bz (IG.heap JC (fun h=>h))⟩,by rw [a8,ay (IG.heap Vl (fun h=>h))];rfl,?_⟩;have s99:=LB.size;have ai1:=IG.size;have aiP:=Iw.size;have NB:Kept (· =v27.heap.size) u TJ:=LB.trans IG (fun _ _ h=>h.elim);obtain⟨Po,VH,Xd,LV⟩:=(hf2.az NB (by omega)).put rl y (.slice A3 ny c3);have ai0:=LV.size;have Ib:Kept (fun k=>k=cb\/k=v27.heap.size) u Po:=(NB.mono (S':=fun k=>k=cb\/k=v27.heap.size) (fun _ _ h=>.inr h)).trans LV (fun _ _ h=>.inl h);have Jo:=((Q7.az Iw (fun h=>h) (fun h=>h)).az IG (fun h=>h) (fun h=>h)).az LV (by omega) (by omega);refine⟨Po,VH,(),rfl,⟨_,R1,_,Jo,Xd,fun z=>⟨fun hz=>?_,fun hz=>?_⟩,ku.tt Ib⟩,?_⟩
   ·rw [if_neg hz.2]
    exact(hinv z).1 hz.1
   ·by_cases hzy:z=y
    ·subst hzy
     rw [if_pos rfl];have hblk:∀a,A3=some a->GK.heap.size<=a.block/\a.block<TJ.heap.size:=fun a ha=>by
      obtain⟨q1,cur,q2⟩:=Row.bz mD (k:=a.block) (by rw [ha];rfl);exact⟨q1,aO q2⟩
     refine .inr ⟨A3,ny,c3,rfl,?_,(bL.hs mD).az LV (fun a ha e=>by have:=hblk a ha;omega),hny,fun a ha=>?_⟩
     ·rcases Row.own mD with⟨_,h1,h2,_⟩|⟨_,_,_,_,_,h1,_⟩<;>omega
     ·have:=hblk a ha
      have:=aO JC;exact⟨by omega,by omega⟩
    ·rw [if_neg hzy]
     have wZ:¬left z:=fun hl=>hz ⟨hl,hzy⟩;rcases((hinv z).2 wZ).az Ib (fun k hk e=>by omega)with e|⟨A,n,c,e1,e2,e3,e4,e5⟩
     ·exact .inl e
     ·exact .inr ⟨A,n,c,e1,e2,e3,e4,fun a ha=>⟨(e5 a ha).1,by have:=(e5 a ha).2;have:=Ib.size;omega⟩⟩
   ·show Po.rangeLeft m.cb v27.heap.size<u.rangeLeft m.cb v27.heap.size
    rw [Jo.left_eq,Cu.left_eq];exact cH
 refine Is.mk rfl ⟨_,h5.c0,Is.mk rfl ⟨_,h5.c1,Is.mk rfl ⟨_,h5.c2,Is.mk rfl ⟨_,_,_,h5.c3,?_⟩⟩⟩⟩;refine⟨?_,?_⟩
 ·obtain⟨am9,am3,ajn,M5a,G5a⟩:=(h.same k5).G
  refine AD G5a (by omega) iq fun w5a g5a aex q5a=>⟨_,rfl,?_⟩;have N5a:=N5.cU aex q5a;have Zk:=N5a.kp;refine⟨(h.same Zk).c3,(h.same Zk).c2,(h.same Zk).c1,?_⟩;refine⟨?_,?_⟩
  ·refine Tr.se (h.same Zk).T (by omega) (by omega) yh fun aaA aiH XU aaT=>⟨_,rfl,?_⟩
   have Sh:=N5a.p9 XU aaT;have P5:=Sh.kp;refine⟨(h.same P5).c3,(h.same P5).c2,?_⟩;refine⟨?_,?_⟩
   ·refine jQ (P5.heap Zz (fun h=>h)) ⟨_,rfl,?_⟩
    have Ew:=Sh.pv (es:=es) (cl:=cl) xg;generalize aaA.alloc (.map es cl)=afF at Ew⊢;have NI:=Ew.kp;refine⟨(h.same NI).c3,?_⟩;refine⟨?_,?_⟩
    ·refine iY (bL.hs (h.same NI).row) (by omega) fun Sn R7 aaz PI PJ=>⟨Sn,_,R7,rfl,?_⟩
     have Kt:=Ew.lI PI PJ;have abt:=Kt.kp;exact fin Kt.lH
    ·intro Hi
     have yC:=Ew.lH
     replace yC:CN w Hi F D m.T m.d _ _ _ _ _ _:=yC
     clear_value Hi;have Im:=yC.kp;refine⟨(h.same Im).c3,?_⟩;refine iY (bL.hs (h.same Im).row) (by omega) fun Ng MY Y6 Le Lj=>⟨Ng,_,MY,rfl,?_⟩;have Ev:=yC.lI Le Lj;have Zj:=Ev.kp;exact fin Ev
   ·intro Hh
    have Eu:=Sh.lH
    replace Eu:CN w Hh F D m.T m.d _ _ _ _ _ _:=Eu
    clear_value Hh;have Il:=Eu.kp;refine⟨(h.same Il).c3,(h.same Il).c2,?_⟩;refine jQ (Il.heap Zz (fun h=>h)) ⟨_,rfl,?_⟩;have Da:=Eu.pv (es:=es) (cl:=cl) xg;generalize Hh.alloc (.map es cl)=aay at Da⊢;have Ik:=Da.kp;refine⟨(h.same Ik).c3,?_⟩;refine iY (bL.hs (h.same Ik).row) (by omega) fun Nf MX Y5 Ld Li=>⟨Nf,_,MX,rfl,?_⟩;have Et:=Da.lI Ld Li;have Zi:=Et.kp;exact fin Et
  ·intro TH
   have M7:=N5a.lH
   replace M7:CN w TH F D m.T m.d _ _ _ _ _ _:=M7
   clear_value TH;have LN:=M7.kp;refine⟨(h.same LN).c3,(h.same LN).c2,(h.same LN).c1,?_⟩;refine Tr.se (h.same LN).T (by omega) (by omega) yh fun TG afN RM Ua=>⟨_,rfl,?_⟩;have Pb:=M7.p9 RM Ua;have Ij:=Pb.kp;refine⟨(h.same Ij).c3,(h.same Ij).c2,?_⟩;refine jQ (Ij.heap Zz (fun h=>h)) ⟨_,rfl,?_⟩;have C8:=Pb.pv (es:=es) (cl:=cl) xg;generalize TG.alloc (.map es cl)=aax at C8⊢;have Ii:=C8.kp;refine⟨(h.same Ii).c3,?_⟩;refine iY (bL.hs (h.same Ii).row) (by omega) fun Nc MW Y4 Lc Lh=>⟨Nc,_,MW,rfl,?_⟩;have Es:=C8.lI Lc Lh;have Zh:=Es.kp;exact fin Es
 ·intro w5z
  have N5z:=N5.lH
  replace N5z:CN w w5z F D m.T m.d _ _ _ _ _ _:=N5z
  clear_value w5z;have UL:=N5z.kp;refine⟨(h.same UL).c3,(h.same UL).c2,(h.same UL).c1,(h.same UL).c0,?_⟩;obtain⟨ail,aik,agi,ani,afo⟩:=(h.same UL).G;refine AD afo (by omega) iq fun aiD amH Yc aaS=>⟨_,rfl,?_⟩;have YP:=N5z.cU Yc aaS;have LM:=YP.kp;refine⟨(h.same LM).c3,(h.same LM).c2,(h.same LM).c1,?_⟩;refine Tr.se (h.same LM).T (by omega) (by omega) yh fun TF afM RL T9=>⟨_,rfl,?_⟩;have Pa:=YP.p9 RL T9;have Ih:=Pa.kp;refine⟨(h.same Ih).c3,(h.same Ih).c2,?_⟩;refine jQ (Ih.heap Zz (fun h=>h)) ⟨_,rfl,?_⟩;have C7:=Pa.pv (es:=es) (cl:=cl) xg;generalize TF.alloc (.map es cl)=aaw at C7⊢;have Ig:=C7.kp;refine⟨(h.same Ig).c3,?_⟩;refine iY (bL.hs (h.same Ig).row) (by omega) fun Nb MV Y3 Lb Lg=>⟨Nb,_,MV,rfl,?_⟩;have Er:=C7.lI Lb Lg;have Zg:=Er.kp;exact fin Er
end
end Go.Proofs.YtnboahlopghcjaaGreatDoor
