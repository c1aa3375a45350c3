import Derived.Test.YtnboahlopghcjaaGreatDoorMI
import Derived.Test.YtnboahlopghcjaaGreatDoorMG
import Derived.Test.YtnboahlopghcjaaGreatDoorMF
import Derived.Maps.Range
open Go.IntKind (i64 u64)
set_option linter.unusedVariables false
namespace Go.Proofs.YtnboahlopghcjaaGreatDoor
open Go.Proofs.Tryz
open Go Go.bP Go.RowKit
def KN(D:DG)(P:List Int)(l:List HT):Prop:=l.length=D.length/\∀(i j:Nat) (m:DN),P[i]? =some (j:Int)->D[j]? =some m->l[i]? =some m.id
structure oW(w:World)(F:Nat->Prop)(r:Nat)(D:DG)(P:List Int):Prop where
 ex:∃(A:Option Addr) (c:Nat) (B:Option Addr) (e:Nat) (l:List HT),w.heap[r]? =some (.cells #[.slice A D.length c,.slice B D.length e] iW (0,0))/\NS w F A D.length D/\HS w B D.length l/\(∀a,B=some a->F a.block)/\KN D P l
 gL:¬F r
 jt:qV D P
 W:iS D
section
variable{w w':World}{F F' S:Nat->Prop}{r:Nat}{D:DG}{P:List Int}{K:Value->World->Prop}
theorem oW.aD(h:oW w F r D P)(hk:Kept S w w')(hr:¬S r)(hn:∀k,F k->¬S k):oW w' F r D P:=by
 obtain⟨A,c,B,e,l,h1,h2,h3,h4,h5⟩:=h.ex;exact⟨⟨A,c,B,e,l,hk.heap h1 hr,h2.aD hk hn,h3.aD hk (fun a ha=>hn _ (h4 a ha)),h4,h5⟩,h.gL,h.jt,h.W⟩
theorem oW.same(h:oW w F r D P)(hk:Kept Nil w w'):oW w' F r D P:=h.aD hk (fun h=>h) (fun _ _ h=>h)
theorem oW.lt(h:oW w F r D P):r<w.heap.size:=by obtain⟨A,c,B,e,l,h1,_⟩:=h.ex;exact aS h1
theorem oW.mono(h:oW w F r D P)(hf:∀k,F k->F' k)(hr:¬F' r):oW w F' r D P:=by
 obtain⟨A,c,B,e,l,h1,h2,h3,h4,h5⟩:=h.ex;exact⟨⟨A,c,B,e,l,h1,h2.mono hf,h3,fun a ha=>hf _ (h4 a ha),h5⟩,hr,h.jt,h.W⟩
theorem oW.gr(h:oW w F r D P):sW w F r D:=by
 obtain⟨A,c,B,e,l,h1,h2,_⟩:=h.ex;exact⟨⟨A,c,_,_,h1,rfl,h2⟩,h.gL⟩
theorem Px(W:iS D){j:Nat}{nd:DN}(h:D[j]? =some nd):Fi D nd.id=(j:Int):=by unfold Fi;rw [W.pos_eq h]
end
theorem XA(w:World)(r j:Nat)(v:Value):setCells w ((⟨r,0,none⟩:Addr).add j) [v] 0=w.setCell ⟨r,j,none⟩ v:=by
 simp only [setCells];rw [a7,a7,Nat.add_zero,Nat.zero_add]
theorem jb{v:World}{b:Nat}{z:Array Value}{t:TypeId}(s:HT)(h:v.heap[b]? =some (.cells z t (0,0)))(hz:z.size=32):
 (s.1.size=32/\(∀c∈s.1.toList,c.oneCell'=true)/\∀j,j<32->Wr v ((⟨b,0,none⟩:Addr).add j))/\(setCells v (⟨b,0,none⟩:Addr) s.1.toList 0).heap[b]? =some (.cells s.1 t (0,0))/\Kept (· =b) v (setCells v (⟨b,0,none⟩:Addr) s.1.toList 0):=by
 obtain⟨h1,h2,h3⟩:=dN h (cs:=s.1) (by rw [s.2.1];exact hz);exact⟨⟨s.2.1,s.2.one,fun j hj=>h1 j (by rw [s.2.1];exact hj)⟩,h2,h3⟩
theorem qV.one(r:HT):qV [⟨r,[]⟩] [-1]:=⟨rfl,rfl,fun i p nd hi hp=>by
 cases i with
 |zero=>omega
 |succ i=>simp at hp⟩
section
variable{w w':World}{F F' S:Nat->Prop}{r:Nat}{D:DG}{P:List Int}{K:Value->World->Prop}
theorem wQ(root:HT)(hK:∀v r F,oW v F r [⟨root,[]⟩] [-1]->(∀k,F k->w.heap.size<=k/\k<v.heap.size)->w.heap.size<=r->Kept Nil w v->K (.pointer (some ⟨r,0,none⟩)) v):
 bj prog jv.id #[.agg root.1] w K:=by
 refine jv.of ?_;unfold jv.W;intro w2;have k2:Kept Nil w w2:=(Kept.refl _ _).alloc _;have lS:w2.heap[w.heap.size]? =some (.cells root.1 aj (0,0)):=aJ w _;clear_value w2;have kY:(root.1.push (.slice none 0 0)).size=33:=by rw [Array.size_push,root.2.1]
 refine⟨root.1,⟨root.2.1,Cells.bC lS⟩,?_⟩;rw [HZ];refine Is.mk rfl ⟨kY,?_⟩;intro w5;have h5:w5.heap[w2.heap.size]? =some (.cells (root.1.push (.slice none 0 0)) bK (0,0)):=by
  have:=aJ w2 (.cells (root.1.push (.slice none 0 0)) bK);show(w2.alloc (.cells ((root.1.push (.slice none 0 0)).toList++ []).toArray bK)).heap[w2.heap.size]? =_;rw [List.append_nil,Array.toArray_toList];exact this
 have k5:Kept Nil w2 w5:=(Kept.refl _ _).alloc _;clear_value w5;refine⟨rfl,?_⟩;intro w6;have h6:w6.heap[w5.heap.size]? =some (.cells dU.1 aj (0,0)):=aJ w5 _;have k6:Kept Nil w5 w6:=(Kept.refl _ _).alloc _;clear_value w6;intro w7;have h7:w7.heap[w6.heap.size]? =some (.cells #[.slice (some ⟨w2.heap.size,0,none⟩) 1 1,.slice (some ⟨w5.heap.size,0,none⟩) 1 1] iW (0,0)):=aJ w6 _;have k7:Kept Nil w6 w7:=(Kept.refl _ _).alloc _;clear_value w7;have s2:=k2.size;have s5:=k5.size;have s6:=k6.size;have l5:=aS h5;have l6:=aS h6;have h57:=k7.heap (k6.heap h5 (fun h=>h)) (fun h=>h);have h67:=k7.heap h6 (fun h=>h);have l67:=aS h67;refine hK w7 _ (fun k=>k=w2.heap.size\/k=w5.heap.size) ⟨⟨_,_,_,_,[dU],h7,⟨rfl,fun i nd hi=>?_⟩,HS.one h67,fun a ha=>by cases ha;exact .inr rfl,⟨rfl,fun i j m hi hj=>?_⟩⟩,fun e=>by omega,qV.one root,iS.root root⟩ (fun k e=>by omega) (by omega) (((k2.tt k5).tt k6).tt k7)
 ·cases i with
  |zero=>
   simp at hi;subst hi;refine⟨_,none,0,0,rfl,aS h57,.inl rfl,fun j u hj=>?_,HS.nil _ _,fun b hb=>by cases hb⟩;rw [Nat.zero_mul,add_zero,a7,Nat.zero_add,ay h57];exact hj
  |succ i=>simp at hi
 ·cases i with
  |zero=>simp at hi
  |succ i=>simp at hi
theorem KN.snoc{l:List HT}(h:KN D P l)(hs:qV D P)(W:iS D){nd:DN}{j:Nat}{mj:DN}(hj:D[j]? =some mj):KN (D++ [nd]) (P++ [(j:Int)]) (l++ [mj.id]):=by
 have ti:=(lgeS hj).1;refine⟨by simp [h.1],fun i k m hi hm=>?_⟩;by_cases dW:i<P.length
 ·rw [List.getElem?_append_left dW]at hi
  have Z1:i<D.length:=by rw [<-hs.len];exact dW
  rw [List.getElem?_append_left (by rw [h.1];exact Z1)];have kV:=hs.par;have hk:k<D.length:=by
   rcases Nat.eq_zero_or_pos i with rfl|h0
   ·rw [kV.root]at hi;simp only [Option.some.injEq]at hi;omega
   ·obtain⟨j',h1,h2⟩:=kV.up i _ h0 hi
    omega
  rw [List.getElem?_append_left hk]at hm;exact h.2 i k m hi hm
 ·have Z0:=(lgeS hi).1
  have e:i=P.length:=by simp at Z0;omega
  subst e;simp at hi;have:k=j:=by omega
  subst this;rw [List.getElem?_append_left ti,hj]at hm;cases hm;rw [hs.len,<-h.1];simp
theorem DI(H:oW w F r D P)(hF:∀k,F k->k<w.heap.size)(hD:D.length<=5000){h s:HT}{lp:List HT}{A:Option Addr}{n c:Nat}(hl:HS w A n lp)(hn:n<=100000)
 (hK:∀w',oW w' (fun k=>F k\/(w.heap.size<=k/\k<w'.heap.size)) r (mK D h s lp) (mJ D P h s lp)->Kept (· =r) w w'->K (.int .i64 (gh D h s lp)) w'):
 bj prog e8.id #[.pointer (some ⟨r,0,none⟩),.agg h.1,.agg s.1,.slice A n c] w K:=by
 have Y0:=H.lt;have W:=H.W;have lZ:∀w',Kept Nil w w'->∀e,gh D h s lp=e->e≠0->K (.int .i64 e) w':=fun w' k e he fg=>by
  have:=hK w' ?_ (k.mono fun _ _ h=>h.elim)
  ·rw [he]at this;exact this
  ·unfold mK mJ
   rw [if_neg (by rw [he];exact fg),if_neg (by rw [he];exact fg)];exact(H.same k).mono (fun _ h=>.inl h) (fun e=>e.elim H.gL (fun h=>by omega))
 refine e8.of ?_;unfold e8.W;intro w5 w6;have k5:Kept Nil w w5:=(Kept.refl _ _).alloc _;have Kf:w5.heap[w.heap.size]? =some (.cells h.1 aj (0,0)):=aJ w _;have k6:Kept Nil w5 w6:=(Kept.refl _ _).alloc _;have JO:w6.heap[w5.heap.size]? =some (.cells s.1 aj (0,0)):=aJ w5 _;clear_value w6;have WA:=k6.heap Kf (fun h=>h);have nx:=k5.tt k6;have s5:=k5.size;have s6:=k6.size;have l5:=aS Kf;have l6:=aS JO;clear_value w5;obtain⟨A0,c0,B0,e0,sl,iH,pY,CC,hB0,aa5⟩:=H.ex;have Sj:=nx.heap iH (fun h=>h);refine Is.mk rfl ⟨#[.slice A0 D.length c0],⟨rfl,fun j v hj=>?_⟩,?_⟩
 ·cases j with
  |zero=>
   rw [add_zero,add_zero,ay Sj];simpa using hj
  |succ j=>simp at hj
 intro w9;have h9:w9.heap[w6.heap.size]? =some (.cells #[.slice none 0 0] gP (0,0)):=aJ w6 _;have k9:Kept Nil w6 w9:=(Kept.refl _ _).alloc _;clear_value w9;obtain⟨g1,g2,g3⟩:=dN h9 (cs:= #[.slice A0 D.length c0]) rfl;refine⟨⟨rfl,fun u hu=>?_,fun j hj=>g1 j hj⟩,?_⟩
 ·simp at hu
  subst hu;rfl
 intro lQ
 replace g2:lQ.heap[w6.heap.size]? =some (.cells #[.slice A0 D.length c0] gP (0,0)):=g2
 replace g3:Kept (· =w6.heap.size) w9 lQ:=g3
 clear_value lQ;have An:Kept Nil w6 lQ:=k9.trans g3 (fun k hk e=>by omega);have ru:=nx.tt An;refine⟨h.1,⟨h.2.1,Cells.bC (An.heap WA (fun h=>h))⟩,?_⟩;have hR:sW lQ F w6.heap.size D:=⟨⟨A0,c0,_,_,g2,rfl,pY.same ru⟩,fun e=>by have:=hF _ e;omega⟩;have s12:=ru.size;refine Cd hR W (by omega) (hl.same ru) (by omega) fun mn U0 sg=>⟨_,rfl,?_⟩;have Nq:Kept Nil w mn:=ru.trans sg (fun k hk e=>by omega);by_cases hC:c9 D h lp≠0
 ·refine Split.yes (by simpa using hC) ?_
  refine lZ mn Nq _ ?_ hC;unfold gh;rw [if_neg hC]
 replace hC:=Classical.not_not.1 hC
 refine Split.no (by rw [hC];rfl) ?_;have St:mn.heap[w5.heap.size]? =some (.cells s.1 aj (0,0)):=sg.heap (An.heap JO (fun h=>h)) (by omega);refine⟨s.1,⟨s.2.1,Cells.bC St⟩,rh s (hl.same Nq) (by omega) fun nX wg=>⟨_,rfl,?_⟩⟩;have GM:=Nq.tt wg;by_cases uX:¬s∈lp
 ·refine Split.yes (by rw [decide_eq_false uX];rfl) ?_
  refine lZ nX GM 2 ?_ (by omega);unfold gh;rw [if_pos hC,if_neg uX]
 replace uX:=Classical.not_not.1 uX
 refine Split.no (by rw [decide_eq_true uX];rfl) ?_;have eX:gh D h s lp=0:=by unfold gh;rw [if_pos hC,if_pos uX]
 obtain⟨fz,fg,eF,cR⟩:=jN hC;obtain⟨mj,Oo,On⟩:=cU.1 (cR s (cZ.2 uX));obtain⟨j,hj⟩:=List.mem_iff_getElem?.1 Oo;have eP:mJ D P h s lp=P++ [(j:Int)]:=by
  unfold mJ;rw [if_pos eX,<-On,W.pos_eq hj];rfl
 have eD:mK D h s lp=D++ [⟨h,dd lp⟩]:=by unfold mK;rw [if_pos eX]
 rw [oU hC]at U0;obtain⟨A1,c1,cs1,t1,h1,Uk,S9⟩:=(U0.same wg).ex;rw [List.length_append,List.length_singleton]at S9 Uk;have OP:nX.cell? (⟨w6.heap.size,0,none⟩:Addr)=some (.slice A1 (D.length+1) c1):=by rw [ay h1];exact Uk
 have sz1:=GM.size;have G0:=GM.heap iH (fun h=>h);refine⟨#[.slice A1 (D.length+1) c1],⟨rfl,fun i v hi=>?_⟩,Is.mk rfl ⟨⟨rfl,fun u hu=>?_,fun i hi=>?_⟩,?_⟩⟩
 ·cases i with
  |zero=>
   rw [add_zero,OP];simpa using hi
  |succ i=>simp at hi
 ·simp at hu
  subst hu;rfl
 ·have:i=0:=by omega
  subst this;rw [add_zero,add_zero];exact dK G0 (by simp)
 intro VY pK;have YK:VY.heap[r]? =some (.cells #[.slice A1 (D.length+1) c1,.slice B0 D.length e0] iW (0,0)):=by
  show(setCells nX ((⟨r,0,none⟩:Addr).add 0) [.slice A1 (D.length+1) c1] 0).heap[r]? =_;rw [XA,cS G0];rfl
 have Cu:Kept (· =r) nX VY:=by
  show Kept (· =r) nX (setCells nX ((⟨r,0,none⟩:Addr).add 0) [.slice A1 (D.length+1) c1] 0)
  rw [add_zero];exact fO _ _ _ _
 have Ea:Kept Nil VY pK:=(Kept.refl _ _).drew;clear_value pK VY;have NL:=Ea.heap YK (fun h=>h);have we:Kept (· =r) nX pK:=Cu.trans Ea (fun _ _ h=>h.elim);have Lw:HS pK B0 D.length sl:=(CC.same GM).aD we (fun a ha e=>H.gL (e▸hB0 a ha));have G8:pK.heap[w5.heap.size]? =some (.cells s.1 aj (0,0)):=we.heap (wg.heap St (fun h=>h)) (fun e=>by omega);refine Is.mk rfl ⟨B0,D.length,e0,by rw [a7,ay NL];rfl,s.1,⟨s.2.1,Cells.bC G8⟩,?_⟩;have fin:∀(v:World) (A2:Option Addr) (c2:Nat),Kept Nil pK v->bQ v pK.heap.size A2 (D.length+1) c2 (sl++ [s])->
  Is (some (⟨r,0,none⟩:Addr)) fun a=>Wr v (a.add 1)/\K (.int .i64 0) (v.setCell (a.add 1) (.slice A2 (D.length+1) c2)):=fun v A2 c2 kv row=>by
  refine Is.mk rfl ?_;rw [a7];have hv:=kv.heap NL (fun h=>h);have kf:Kept (· =r) v (v.setCell ⟨r,0+1,none⟩ (.slice A2 (D.length+1) c2)):=Kept.setCell (S:=fun k=>k=r) (Kept.refl _ v) (p:=⟨r,0+1,none⟩) (fun _=>rfl) _;refine⟨dK hv (by simp),?_⟩;have ke:Kept (· =r) w (v.setCell ⟨r,0+1,none⟩ (.slice A2 (D.length+1) c2)):=(((GM.mono (S':=(· =r)) (fun _ _ h=>h.elim)).tt we).trans kv (fun _ _ h=>h.elim)).tt kf;have:=hK (v.setCell ⟨r,0+1,none⟩ (.slice A2 (D.length+1) c2)) ?_ ke
  ·rw [eX]at this
   exact this
  rw [eD,eP];have hbA:∀b,a8 A2=some b->pK.heap.size<=b/\b<v.heap.size:=fun b hb=>by
   obtain⟨q1,cur,q2⟩:=Row.bC row hb;exact⟨q1,aS q2⟩
  have s26:=we.size;have sv:=kv.size;have sf:=kf.size;have adi:Kept (· =r) mn pK:=(wg.mono (S':=(· =r)) (fun _ _ h=>h.elim)).tt we;refine⟨⟨A1,c1,A2,c2,sl++ [s],?_,?_,?_,fun a ha=>.inr ?_,?_⟩,fun e=>e.elim H.gL (fun e=>by omega),H.jt.snoc hj (by rw [On];exact cZ.2 uX) (by have:=(lgeS hj).1;omega),W.snoc fz cR (iz lp)⟩
  ·rw [List.length_append,List.length_singleton,cS hv]
   rfl
  ·rw [List.length_append,List.length_singleton]
   have nC:Kept (· =r) nX (v.setCell ⟨r,0+1,none⟩ (.slice A2 (D.length+1) c2)):=(we.trans kv (fun _ _ h=>h.elim)).tt kf;refine(S9.aD nC fun k hk e=>?_).mono fun k hk=>?_
   ·rcases hk with hk|hk
    ·exact H.gL (e▸hk)
    ·omega
   ·rcases hk with hk|hk
    ·exact .inl hk
    ·have:=wg.size
     exact .inr ⟨by omega,by omega⟩
  ·rw [List.length_append,List.length_singleton]
   exact(bQ.hs row).aD kf (fun a ha e=>by have:=hbA a.block (by rw [ha];rfl);omega)
  ·have:=hbA a.block (by rw [ha];rfl)
   exact⟨by omega,by omega⟩
  ·rw [<-On]
   exact aa5.snoc H.jt W hj
 have ml:∀ {u:World},Kept Nil pK u->∃cs:Array Value,(.agg s.1:Value)=.agg cs/\cs.size=32/\Cells u (⟨w5.heap.size,0,none⟩:Addr) cs:=fun k=>⟨s.1,rfl,s.2.1,Cells.bC (k.heap G8 (fun h=>h))⟩;refine⟨?_,?_⟩
 ·obtain⟨A3,c3,Fx,SB,B9,aaf,UE⟩:=cF (cx:=e0) az (bQ.nil pK pK.heap.size) Lw (by omega) (Nat.le_refl _)
  rw [Nat.zero_add]at SB B9;rw [List.nil_append]at B9;have Ld:Kept Nil pK Fx:=Kept.dF (Kept.refl _ _) aaf (fun k hk=>by cases hk);refine⟨A3,_,c3,Fx,SB,ml Ld,s.2.1,?_⟩;intro sY;have E7:Kept Nil Fx sY:=(Kept.refl _ _).alloc _;have YC:HS sY (some ⟨Fx.heap.size,0,none⟩) 1 [s]:=ja Fx s;clear_value sY;have s32:=E7.size;have s31:=Ld.size;obtain⟨A4,c4,mO,JQ,yj,OO,UD⟩:=cF (cx:=1) az (Row.aD B9 E7 (fun _ _ h=>h)) YC (by omega) (by omega);have zD:Kept Nil pK mO:=Kept.dF (Ld.tt E7) OO (fun k hk=>(Row.bC B9 hk).1);exact⟨A4,_,c4,mO,JQ,fin mO A4 c4 zD yj⟩
 ·refine⟨s.2.1,?_⟩
  intro vH;have D9:Kept Nil pK vH:=(Kept.refl _ _).alloc _;have YB:HS vH (some ⟨pK.heap.size,0,none⟩) 1 [s]:=ja pK s;clear_value vH;have s37:=D9.size;refine⟨by rw [a7,ay (D9.heap NL (fun h=>h))];rfl,?_⟩;obtain⟨A3,c3,EZ,SA,B8,aae,Ko⟩:=cF (cx:=e0) az (bQ.nil vH vH.heap.size) (Lw.same D9) (by omega) (Nat.le_refl _);rw [Nat.zero_add]at SA B8;rw [List.nil_append]at B8;have Gx:Kept Nil vH EZ:=Kept.dF (Kept.refl _ _) aae (fun k hk=>by cases hk);have s39:=Gx.size;obtain⟨A4,c4,BO,Y9,KW,aad,UB⟩:=cF (cx:=1) az B8 (YB.same Gx) (by omega) (by omega);have Nf:Kept Nil vH BO:=Kept.dF Gx aad (fun k hk=>(Row.bC B8 hk).1);exact⟨A3,_,c3,EZ,SA,A4,_,c4,BO,Y9,fin BO A4 c4 (D9.tt Nf) (Row.base KW (fun k hk=>by have:=(Row.bC KW hk).1;omega))⟩
end
section
variable{w w' v:World}{F FP FR S S2 F2:Nat->Prop}{x r:Nat}{D D':DG}{P P':List Int}{K:Value->World->Prop}
theorem Ac(h:BI w S F x D P)(hD:D.length<=5000)(hT:rQ w)(IL:¬S (Tryz.jf.g 1)){A:Option Addr}{n cx:Nat}{lp:List HT}(hl:HS w A n lp)(hn:n<=5000)(hid s:HT)
 (hK:∀u S' F',BI u S' F' x (mK D hid s lp) (mJ D P hid s lp)->Kept S w u->(∀k,S' k->S k\/w.heap.size<=k)->(∀k,F' k->F k\/w.heap.size<=k)->K (.int .i64 (gh D hid s lp)) u):
 bj prog aA.id #[.pointer (some ⟨x,0,none⟩),.agg hid.1,.agg s.1,.slice A n cx] w K:=by
 obtain⟨m,h1,h2⟩:=h;refine DJ h1 hD hT (fun e=>IL (h2 _ (.inl e))) hl hn hid s (fun u k hc=>?_) (fun u S' F' hI k hS hF hc=>?_)
 ·refine hK u S F ?_ (k.mono fun _ _ h=>h.elim) (fun k h=>.inl h) (fun k h=>.inl h)
  unfold mK mJ;rw [if_neg hc,if_neg hc];exact⟨m,h1.same k,h2⟩
 ·have:=hK u S' F' hI (k.mono fun k _ h=>h2 k h) (fun k h=>(hS k h).imp (h2 k) (fun h=>h)) hF
  rw [hc]at this;exact this
end
end Go.Proofs.YtnboahlopghcjaaGreatDoor
namespace Go.Proofs.YtnboahlopghcjaaGreatDoor
open Go.Proofs.Tryz
open Go Go.bP Go.RowKit
open Tr (jC)
theorem four(w:World)(r a b c:HT):
 let w1:=w.alloc (.cells dU.1 aj);let w2:=w1.alloc (.cells dU.1 aj);let w3:=w2.alloc (.cells dU.1 aj);let w4:=w3.alloc (.cells dU.1 aj)
 let w7:=setCells w4 (⟨w.heap.size,0,none⟩:Addr) r.1.toList 0;let w10:=setCells w7 (⟨w1.heap.size,0,none⟩:Addr) a.1.toList 0;let lN:=setCells w10 (⟨w2.heap.size,0,none⟩:Addr) b.1.toList 0;let jk:=setCells lN (⟨w3.heap.size,0,none⟩:Addr) c.1.toList 0
 ((∀j,j<32->Wr w4 ((⟨w.heap.size,0,none⟩:Addr).add j))/\(∀j,j<32->Wr w7 ((⟨w1.heap.size,0,none⟩:Addr).add j))/\(∀j,j<32->Wr w10 ((⟨w2.heap.size,0,none⟩:Addr).add j))/\(∀j,j<32->Wr lN ((⟨w3.heap.size,0,none⟩:Addr).add j)))/\
 jk.heap[w.heap.size]? =some (.cells r.1 aj (0,0))/\jk.heap[w1.heap.size]? =some (.cells a.1 aj (0,0))/\jk.heap[w2.heap.size]? =some (.cells b.1 aj (0,0))/\jk.heap[w3.heap.size]? =some (.cells c.1 aj (0,0))/\
 w.heap.size<w1.heap.size/\w1.heap.size<w2.heap.size/\w2.heap.size<w3.heap.size/\w3.heap.size<jk.heap.size/\Kept Nil w jk:=by
 intro w1 w2 w3 w4;have k1':Kept Nil w w1:=(Kept.refl _ _).alloc _;have Ap:Kept Nil w1 w2:=(Kept.refl _ _).alloc _;have yL:Kept Nil w2 w3:=(Kept.refl _ _).alloc _;have JB:Kept Nil w3 w4:=(Kept.refl _ _).alloc _;have ki:w1.heap[w.heap.size]? =some (.cells dU.1 aj (0,0)):=aJ w _;have UO:w2.heap[w1.heap.size]? =some (.cells dU.1 aj (0,0)):=aJ w1 _;have pe:w3.heap[w2.heap.size]? =some (.cells dU.1 aj (0,0)):=aJ w2 _;have OW:w4.heap[w3.heap.size]? =some (.cells dU.1 aj (0,0)):=aJ w3 _;clear_value w4;have qT:=JB.heap pe (fun h=>h);have xi:=JB.heap (yL.heap UO (fun h=>h)) (fun h=>h);have xG:=JB.heap (yL.heap (Ap.heap ki (fun h=>h)) (fun h=>h)) (fun h=>h);have l1:=aS ki;have l2:=aS UO;have l3:=aS pe;have l4:=aS OW;clear_value w3 w2 w1;have Gn:Kept Nil w w4:=((k1'.tt Ap).tt yL).tt JB;have sz:∀h:HT,dU.1.size=h.1.size:=fun h=>by rw [h.2.1];rfl
 obtain⟨wr7,Lz,k7⟩:=dN xG (cs:=r.1) (sz r);rw [r.2.1]at wr7;intro w7
 replace Lz:w7.heap[w.heap.size]? =some (.cells r.1 aj (0,0)):=Lz
 replace k7:Kept (· =w.heap.size) w4 w7:=k7
 clear_value w7;obtain⟨QR,Pd,nK⟩:=dN (k7.heap xi (by omega)) (cs:=a.1) (sz a);rw [a.2.1]at QR;intro w10
 replace Pd:w10.heap[w1.heap.size]? =some (.cells a.1 aj (0,0)):=Pd
 replace nK:Kept (· =w1.heap.size) w7 w10:=nK
 clear_value w10;obtain⟨QQ,xh,uW⟩:=dN (nK.heap (k7.heap qT (by omega)) (by omega)) (cs:=b.1) (sz b);rw [b.2.1]at QQ;intro lN
 replace xh:lN.heap[w2.heap.size]? =some (.cells b.1 aj (0,0)):=xh
 replace uW:Kept (· =w2.heap.size) w10 lN:=uW
 clear_value lN;obtain⟨QP,Kn,nv⟩:=dN (uW.heap (nK.heap (k7.heap OW (by omega)) (by omega)) (by omega)) (cs:=c.1) (sz c);rw [c.2.1]at QP;intro jk
 replace Kn:jk.heap[w3.heap.size]? =some (.cells c.1 aj (0,0)):=Kn
 replace nv:Kept (· =w3.heap.size) lN jk:=nv
 clear_value jk;have V0:=aS Kn;exact⟨⟨wr7,QR,QQ,QP⟩,nv.heap (uW.heap (nK.heap Lz (by omega)) (by omega)) (by omega),nv.heap (uW.heap Pd (by omega)) (by omega),nv.heap xh (by omega),Kn,by omega,by omega,by omega,V0,
  (((Gn.trans k7 (fun k hk e=>by omega)).trans nK (fun k hk e=>by omega)).trans uW (fun k hk e=>by omega)).trans nv (fun k hk e=>by omega)⟩
section
variable{r a b c:HT}(Ek:r≠a)(yT:r≠b)(Ly:r≠c)(lD:a≠b)(Mc:a≠c)(Hy:b≠c)
end
section
variable{w w':World}{K:Value->World->Prop}
end
end Go.Proofs.YtnboahlopghcjaaGreatDoor
namespace Go.Proofs.YtnboahlopghcjaaGreatDoor
open Go.Proofs.Tryz
open Go Go.bP Go.RowKit
open Go.ChangeMaps (setBlock)
theorem rN{x:HT}{v:Value}:∀ {l:List (HT×Value)} {j:Nat},(l.map (·.1)).Nodup->l[j]? =some (x,v)->assoc x l=some v
 | [],_,_,h=>by simp at h
 |(y,u)::l,0,_,h=>by
  simp at h;obtain⟨rfl,rfl⟩:=h;unfold assoc;rw [if_pos rfl]
 |(y,u)::l,j+1,hn,h=>by
  simp only [List.map_cons,List.nodup_cons]at hn;have hm:x∈l.map (·.1):=List.mem_map.2 ⟨(x,v),List.mem_of_getElem? (i:=j) (by simpa using h),rfl⟩;unfold assoc;rw [if_neg (fun e:x=y=>hn.1 (by rw [<-e];exact hm))];exact rN hn.2 (j:=j) (by simpa using h)
theorem wB{x:HT}{v:Value}:∀ {l:List (HT×Value)},assoc x l=some v->∃j:Nat,l[j]? =some (x,v)
 | [],h=>by simp [assoc]at h
 |(y,u)::l,h=>by
  unfold assoc at h;split at h
  ·rename_i e
   subst e;cases h;exact⟨0,rfl⟩
  ·obtain⟨j,hj⟩:=wB h
   exact⟨j+1,by simpa using hj⟩
theorem mh.of{es:List MapEntry}{l:List (HT×Value)}(h:mh es l){j:Nat}{e:MapEntry}(he:es[j]? =some e):∃p,l[j]? =some p/\e.key=.agg p.1.1/\e.val=p.2:=by
 have hlen:=h.len;have hj:=(lgeS he).1;obtain⟨p,hp⟩:∃p,l[j]? =some p:=⟨_,List.getElem?_eq_getElem (by omega)⟩;obtain⟨e',g1,g2,g3⟩:=h.get hp;rw [he]at g1;cases g1;exact⟨p,hp,g2,g3⟩
theorem xy{x y:HT}(h:(Value.agg x.1:Value)=.agg y.1):x=y:=by
 cases h':x;cases WV:y
 simp_all
structure nI(w:World)(m it:Nat)(f:HT->Option Value)(left:HT->Prop)(zL:Nat):Prop where
 ne:it≠m
 ex:∃es clock l since seen c0,w.heap[m]? =some (.map es clock)/\mh es.toList l/\(∀x,assoc x l=f x)/\(es.toList.map (·.born)).Nodup/\(l.map (·.1)).Nodup/\
  w.heap[it]? =some (.mapIter (some m) since seen c0)/\(∀e∈es.toList,e.born<since)/\since<=c0/\since<=clock/\(leftOf es seen).size=zL/\∀x,left x↔∃e∈es.toList,e.key=.agg x.1/\seen.contains e.born=false
section
variable{w w':World}{m it:Nat}{f:HT->Option Value}{left:HT->Prop}{zL:Nat}
theorem nI.aD{S:Nat->Prop}(h:nI w m it f left zL)(hk:Kept S w w')(h1:¬S m)(h2:¬S it):nI w' m it f left zL:=by
 obtain⟨es,clock,l,since,seen,c0,g1,g2,g3,g4,g5,g6,g7⟩:=h.ex;exact⟨h.ne,es,clock,l,since,seen,c0,hk.heap g1 h1,g2,g3,g4,g5,hk.heap g6 h2,g7⟩
theorem nI.left_eq(h:nI w m it f left zL):w.rangeLeft m it=zL:=by
 obtain⟨es,clock,l,since,seen,c0,g1,g2,g3,g4,g5,g6,g7,_,_,g8,_⟩:=h.ex;simp only [World.rangeLeft,g1,g6];exact g8
theorem nI.lt(h:nI w m it f left zL):it<w.heap.size:=by
 obtain⟨es,clock,l,since,seen,c0,g1,g2,g3,g4,g5,g6,_⟩:=h.ex;exact aS g6
theorem fj.range{mt te:TypeId}{z:Value}(T:vF mt te z)(h:fj w m f):∃w' zL,(Instr.range mt (.map (some m))).run prog w=.ok (.pointer (some ⟨w.heap.size,0,none⟩)) w'/\nI w' m w.heap.size f (fun x=>f x≠none) zL/\Kept Nil w w':=by
 obtain⟨es,clock,l,g1,g2,g3,g4,g5,g6⟩:=h.ex;have cy:=h.lt;refine⟨w.alloc (.mapIter (some m) clock #[] clock),_,run_range_map w mt aj te m es clock T.nY g1,⟨by omega,es,clock,l,clock,#[],clock,jK g1 _,g2,g3,g5,g6,aJ w _,g4,Nat.le_refl _,Nat.le_refl _,rfl,fun x=>?_⟩,(Kept.refl _ _).alloc _⟩;rw [<-g3];constructor
 ·intro hx
  cases ha:assoc x l with
  |none=>exact absurd ha hx
  |some v=>
   obtain⟨j,hj⟩:=wB ha;obtain⟨e,he,hk,_⟩:=g2.get hj;exact⟨e,List.mem_of_getElem? he,hk,by simp⟩
 ·rintro⟨e,he,hk,_⟩
  obtain⟨j,hj⟩:=List.mem_iff_getElem?.1 he;obtain⟨⟨y,v⟩,hp,nA,_⟩:=g2.of hj;have:y=x:=xy (nA.symm.trans hk);subst this;rw [rN g6 hp];simp
theorem nI.next(h:nI w m it f left zL)(ty:TypeId):
 (zL=0/\(∀x,¬left x)/\(Instr.next (.pointer (some ⟨it,0,none⟩)) false ty).run prog w=.ok (.tuple #[.bool false]) w)\/
 ∃(x:HT) (v:Value) (w':World) (Vw:Nat),left x/\f x=some v/\(Instr.next (.pointer (some ⟨it,0,none⟩)) false ty).run prog w=.ok (.tuple #[.bool true,.agg x.1,v]) w'/\
  (Instr.entry (.pointer (some ⟨it,0,none⟩))).run prog w'=.ok (.tuple #[.agg x.1,v]) w'/\nI w' m it f (fun y=>left y/\y≠x) Vw/\Vw<zL/\Kept (· =it) w w':=by
 have fg:=h.ne;obtain⟨es,clock,l,since,seen,c0,g1,g2,g3,g4,g5,g6,g7,g8,g8',rfl,g9⟩:=h.ex;rcases run_next_at (P:=prog) w ty it m since c0 seen es clock g6 g1 g7 g8 with⟨h0,hr⟩|⟨e,he,w1,IC,hr⟩
 ·refine .inl ⟨h0,fun x hx=>?_,hr⟩
  obtain⟨e,he,_,hs⟩:=(g9 x).1 hx;have hm:e∈leftOf es seen:=by
   unfold leftOf;rw [Array.mem_filter];exact⟨by simpa using he,by rw [hs];rfl⟩
  have:=Array.size_pos_of_mem hm;omega
 ·obtain⟨WB,hes⟩:=mem_left he
  obtain⟨j,hj⟩:=List.mem_iff_getElem?.1 WB;obtain⟨⟨x,v⟩,hp,hk,hv⟩:=g2.of hj;have hk:e.key=.agg x.1:=hk;have hv:e.val=v:=hv;rw [hk,hv]at hr;have ZY:w1.heap[it]? =some (.mapIter (some m) since seen c0):=by rcases IC with rfl|rfl<;>exact g6
  have LL:w1.heap[m]? =some (.map es clock):=by rcases IC with rfl|rfl<;>exact g1
  have JN:(setBlock w1 it (.mapIter (some m) since (seen.push e.born) clock)).heap[it]? =some (.mapIter (some m) since (seen.push e.born) clock):=by
   have:=aS ZY;simp [setBlock,this]
  have SY:(setBlock w1 it (.mapIter (some m) since (seen.push e.born) clock)).heap[m]? =some (.map es clock):=by
   simp [setBlock,fg,LL]
  have TF:Kept (· =it) w (setBlock w1 it (.mapIter (some m) since (seen.push e.born) clock)):=by
   have hd:w.drew.heap=w.heap:=rfl;rcases IC with rfl|rfl
   ·exact⟨rfl,rfl,rfl,by simp [setBlock],fun k _ hk=>by simp [setBlock,Ne.symm hk]⟩
   ·exact⟨rfl,rfl,rfl,by simp [setBlock,hd],fun k _ hk=>by simp [setBlock,hd,Ne.symm hk]⟩
  refine .inr ⟨x,v,_,_,(g9 x).2 ⟨e,WB,hk,hes⟩,by rw [<-g3];exact rN g5 hp,hr,?_,⟨fg,es,clock,l,since,seen.push e.born,clock,SY,g2,g3,g4,g5,JN,g7,g8',g8',rfl,fun y=>?_⟩,left_shrinks es seen e he,TF⟩
  ·have:=run_entry_at (P:=prog) _ it m since seen es clock e JN SY WB g4
   rw [hk,hv]at this;exact this
  ·have KI:∀ {e':MapEntry},e'∈es.toList->e'.born=e.born->e'=e:=fun {e'} Km hb=>by
    obtain⟨j',uk⟩:=List.mem_iff_getElem?.1 Km;have h1:(es.toList.map (·.born))[j']? =some e'.born:=by rw [List.getElem?_map,uk];rfl
    have h2:(es.toList.map (·.born))[j]? =some e.born:=by rw [List.getElem?_map,hj];rfl
    rw [hb]at h1;have g1:=lgeS h1;have g2:=lgeS h2;have:j'=j:=(List.getElem_inj g4).1 (g1.2.trans g2.2.symm);subst this;rw [hj]at uk;cases uk;rfl
   rw [g9];constructor
   ·rintro⟨⟨e',Km,nC,mG⟩,ZB⟩
    refine⟨e',Km,nC,?_⟩;rw [contains_push,mG,Bool.false_or,beq_eq_false_iff_ne];intro hb;have:=KI Km hb;subst this;exact ZB (xy (nC.symm.trans hk))
   ·rintro⟨e',Km,nC,mG⟩
    rw [contains_push,Bool.or_eq_false_iff]at mG;refine⟨⟨e',Km,nC,mG.1⟩,fun CB=>?_⟩;subst CB;obtain⟨j',uk⟩:=List.mem_iff_getElem?.1 Km;obtain⟨⟨y',v'⟩,E9,nA,_⟩:=g2.of uk;have e1:y'=y:=xy (nA.symm.trans nC);subst e1;have h1:(l.map (·.1))[j']? =some y':=by rw [List.getElem?_map,E9];rfl
    have h2:(l.map (·.1))[j]? =some y':=by rw [List.getElem?_map,hp];rfl
    have g1:=lgeS h1;have g2:=lgeS h2;have:j'=j:=(List.getElem_inj g5).1 (g1.2.trans g2.2.symm);subst this;rw [hj]at uk;cases uk;simp at mG
end
end Go.Proofs.YtnboahlopghcjaaGreatDoor
namespace Go.Proofs.YtnboahlopghcjaaGreatDoor
open Go.Proofs.Tryz
open Go Go.bP Go.RowKit
section
variable{w v v':World}{F:Nat->Prop}{D:DG}{P:List Int}{T:List Tr.Nd}{d:Int}{own:Nat->Nat}{G T' E:Option Nat}{I:Option (Option Addr×Nat)}{Z:Option Nat}{x:Nat}{m:XM}{K:Value->World->Prop}
end
end Go.Proofs.YtnboahlopghcjaaGreatDoor
