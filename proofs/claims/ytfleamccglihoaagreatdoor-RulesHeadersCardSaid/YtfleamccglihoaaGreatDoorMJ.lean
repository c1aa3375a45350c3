import Derived.Test.YtfleamccglihoaaGreatDoorMI
import Derived.Test.YtfleamccglihoaaGreatDoorMG
import Derived.Test.YtfleamccglihoaaGreatDoorMF
import Derived.Maps.Range
import Derived.Test.YtfleamccglihoaaGreatDoorMH
open Go.IntKind (i64 u64)
set_option linter.unusedVariables false
namespace Go.Proofs.YtfleamccglihoaaGreatDoor
open Go.Proofs.Tryz
open Go Go.b0 Go.RowKit
def Ms(D:DG)(P:List Int)(l:List HT):Prop:=l.length=D.length/\∀(i j:Nat) (m:DN),P[i]? =some (j:Int)->D[j]? =some m->l[i]? =some m.id
structure qq(w:World)(F:Nat->Prop)(r:Nat)(D:DG)(P:List Int):Prop where
 ex:∃(A:Option Addr) (c:Nat) (B:Option Addr) (e:Nat) (l:List HT),w.heap[r]? =some (.cells #[.slice A D.length c,.slice B D.length e] j0 (0,0))/\NS w F A D.length D/\HS w B D.length l/\(∀a,B=some a->F a.block)/\Ms D P l
 iV:¬F r
 ns:sV D P
 W:kr D
section
variable{w w':World}{F F' S:Nat->Prop}{r:Nat}{D:DG}{P:List Int}{K:Value->World->Prop}
theorem qq.aK(h:qq w F r D P)(hk:Kept S w w')(hr:¬S r)(hn:∀k,F k->¬S k):qq w' F r D P:=by
 obtain⟨A,c,B,e,l,h1,h2,h3,h4,h5⟩:=h.ex;exact⟨⟨A,c,B,e,l,hk.heap h1 hr,h2.aK hk hn,h3.aK hk (fun a ha=>hn _ (h4 a ha)),h4,h5⟩,h.iV,h.ns,h.W⟩
theorem qq.same(h:qq w F r D P)(hk:Kept Nil w w'):qq w' F r D P:=h.aK hk (fun h=>h) (fun _ _ h=>h)
theorem qq.lt(h:qq w F r D P):r<w.heap.size:=by obtain⟨A,c,B,e,l,h1,_⟩:=h.ex;exact bf h1
theorem qq.mono(h:qq w F r D P)(hf:∀k,F k->F' k)(hr:¬F' r):qq w F' r D P:=by
 obtain⟨A,c,B,e,l,h1,h2,h3,h4,h5⟩:=h.ex;exact⟨⟨A,c,B,e,l,h1,h2.mono hf,h3,fun a ha=>hf _ (h4 a ha),h5⟩,hr,h.ns,h.W⟩
theorem qq.gr(h:qq w F r D P):uO w F r D:=by
 obtain⟨A,c,B,e,l,h1,h2,_⟩:=h.ex;exact⟨⟨A,c,_,_,h1,rfl,h2⟩,h.iV⟩
theorem Q8(W:kr D){j:Nat}{nd:DN}(h:D[j]? =some nd):He D nd.id=(j:Int):=by unfold He;rw [W.pos_eq h]
end
theorem Zh(w:World)(r j:Nat)(v:Value):setCells w ((⟨r,0,none⟩:Addr).add j) [v] 0=w.setCell ⟨r,j,none⟩ v:=by
 simp only [setCells];rw [bD,bD,Nat.add_zero,Nat.zero_add]
theorem iZ{v:World}{b:Nat}{z:Array Value}{t:TypeId}(s:HT)(h:v.heap[b]? =some (.cells z t (0,0)))(hz:z.size=32):
 (s.1.size=32/\(∀c∈s.1.toList,c.oneCell'=true)/\∀j,j<32->Wr v ((⟨b,0,none⟩:Addr).add j))/\(setCells v (⟨b,0,none⟩:Addr) s.1.toList 0).heap[b]? =some (.cells s.1 t (0,0))/\Kept (· =b) v (setCells v (⟨b,0,none⟩:Addr) s.1.toList 0):=by
 obtain⟨h1,h2,h3⟩:=gu h (cs:=s.1) (by rw [s.2.1];exact hz);exact⟨⟨s.2.1,s.2.one,fun j hj=>h1 j (by rw [s.2.1];exact hj)⟩,h2,h3⟩
theorem sV.one(r:HT):sV [⟨r,[]⟩] [-1]:=⟨rfl,rfl,fun i p nd hi hp=>by
 cases i with
 |zero=>omega
 |succ i=>simp at hp⟩
section
variable{w w':World}{F F' S:Nat->Prop}{r:Nat}{D:DG}{P:List Int}{K:Value->World->Prop}
theorem yM(root:HT)(hK:∀v r F,qq v F r [⟨root,[]⟩] [-1]->(∀k,F k->w.heap.size<=k/\k<v.heap.size)->w.heap.size<=r->Kept Nil w v->K (.pointer (some ⟨r,0,none⟩)) v):
 bE prog kQ.id #[.agg root.1] w K:=by
 refine kQ.of ?_;unfold kQ.W;intro w2;have k2:Kept Nil w w2:=(Kept.refl _ _).alloc _;have nE:w2.heap[w.heap.size]? =some (.cells root.1 al (0,0)):=aM w _;clear_value w2;have mF:(root.1.push (.slice none 0 0)).size=33:=by rw [Array.size_push,root.2.1]
 refine⟨root.1,⟨root.2.1,Cells.bV nE⟩,?_⟩;rw [Ju];refine Is.mk rfl ⟨mF,?_⟩;intro w5;have h5:w5.heap[w2.heap.size]? =some (.cells (root.1.push (.slice none 0 0)) b6 (0,0)):=by
  have:=aM w2 (.cells (root.1.push (.slice none 0 0)) b6);show(w2.alloc (.cells ((root.1.push (.slice none 0 0)).toList++ []).toArray b6)).heap[w2.heap.size]? =_;rw [List.append_nil,Array.toArray_toList];exact this
 have k5:Kept Nil w2 w5:=(Kept.refl _ _).alloc _;clear_value w5;refine⟨rfl,?_⟩;intro w6;have h6:w6.heap[w5.heap.size]? =some (.cells fG.1 al (0,0)):=aM w5 _;have k6:Kept Nil w5 w6:=(Kept.refl _ _).alloc _;clear_value w6;intro w7;have h7:w7.heap[w6.heap.size]? =some (.cells #[.slice (some ⟨w2.heap.size,0,none⟩) 1 1,.slice (some ⟨w5.heap.size,0,none⟩) 1 1] j0 (0,0)):=aM w6 _;have k7:Kept Nil w6 w7:=(Kept.refl _ _).alloc _;clear_value w7;have s2:=k2.size;have s5:=k5.size;have s6:=k6.size;have l5:=bf h5;have l6:=bf h6;have h57:=k7.heap (k6.heap h5 (fun h=>h)) (fun h=>h);have h67:=k7.heap h6 (fun h=>h);have l67:=bf h67;refine hK w7 _ (fun k=>k=w2.heap.size\/k=w5.heap.size) ⟨⟨_,_,_,_,[fG],h7,⟨rfl,fun i nd hi=>?_⟩,HS.one h67,fun a ha=>by cases ha;exact .inr rfl,⟨rfl,fun i j m hi hj=>?_⟩⟩,fun e=>by omega,sV.one root,kr.root root⟩ (fun k e=>by omega) (by omega) (((k2.tt k5).tt k6).tt k7)
 ·cases i with
  |zero=>
   simp at hi;subst hi;refine⟨_,none,0,0,rfl,bf h57,.inl rfl,fun j u hj=>?_,HS.nil _ _,fun b hb=>by cases hb⟩;rw [Nat.zero_mul,add_zero,bD,Nat.zero_add,aE h57];exact hj
  |succ i=>simp at hi
 ·cases i with
  |zero=>simp at hi
  |succ i=>simp at hi
theorem Ms.snoc{l:List HT}(h:Ms D P l)(hs:sV D P)(W:kr D){nd:DN}{j:Nat}{mj:DN}(hj:D[j]? =some mj):Ms (D++ [nd]) (P++ [(j:Int)]) (l++ [mj.id]):=by
 have uV:=(lgeS hj).1;refine⟨by simp [h.1],fun i k m hi hm=>?_⟩;by_cases dW:i<P.length
 ·rw [List.getElem?_append_left dW]at hi
  have abv:i<D.length:=by rw [<-hs.len];exact dW
  rw [List.getElem?_append_left (by rw [h.1];exact abv)];have mz:=hs.par;have hk:k<D.length:=by
   rcases Nat.eq_zero_or_pos i with rfl|h0
   ·rw [mz.root]at hi;simp only [Option.some.injEq]at hi;omega
   ·obtain⟨j',h1,h2⟩:=mz.up i _ h0 hi
    omega
  rw [List.getElem?_append_left hk]at hm;exact h.2 i k m hi hm
 ·have Qj:=(lgeS hi).1
  have e:i=P.length:=by simp at Qj;omega
  subst e;simp at hi;have:k=j:=by omega
  subst this;rw [List.getElem?_append_left uV,hj]at hm;cases hm;rw [hs.len,<-h.1];simp
theorem FJ(H:qq w F r D P)(hF:∀k,F k->k<w.heap.size)(hD:D.length<=5000){h s:HT}{lp:List HT}{A:Option Addr}{n c:Nat}(hl:HS w A n lp)(hn:n<=100000)
 (hK:∀w',qq w' (fun k=>F k\/(w.heap.size<=k/\k<w'.heap.size)) r (oy D h s lp) (ox D P h s lp)->Kept (· =r) w w'->K (.int .i64 (iF D h s lp)) w'):
 bE prog fQ.id #[.pointer (some ⟨r,0,none⟩),.agg h.1,.agg s.1,.slice A n c] w K:=by
 have aay:=H.lt;have W:=H.W;have mG:∀w',Kept Nil w w'->∀e,iF D h s lp=e->e≠0->K (.int .i64 e) w':=fun w' k e he fW=>by
  have:=hK w' ?_ (k.mono fun _ _ h=>h.elim)
  ·rw [he]at this;exact this
  ·unfold oy ox
   rw [if_neg (by rw [he];exact fW),if_neg (by rw [he];exact fW)];exact(H.same k).mono (fun _ h=>.inl h) (fun e=>e.elim H.iV (fun h=>by omega))
 refine fQ.of ?_;unfold fQ.W;intro w5 w6;have k5:Kept Nil w w5:=(Kept.refl _ _).alloc _;have LF:w5.heap[w.heap.size]? =some (.cells h.1 al (0,0)):=aM w _;have k6:Kept Nil w5 w6:=(Kept.refl _ _).alloc _;have Ll:w6.heap[w5.heap.size]? =some (.cells s.1 al (0,0)):=aM w5 _;clear_value w6;have RT:=k6.heap LF (fun h=>h);have nn:=k5.tt k6;have s5:=k5.size;have s6:=k6.size;have l5:=bf LF;have l6:=bf Ll;clear_value w5;obtain⟨A0,c0,B0,e0,sl,jJ,uh,BT,hB0,acE⟩:=H.ex;have TZ:=nn.heap jJ (fun h=>h);refine Is.mk rfl ⟨#[.slice A0 D.length c0],⟨rfl,fun j v hj=>?_⟩,?_⟩
 ·cases j with
  |zero=>
   rw [add_zero,add_zero,aE TZ];simpa using hj
  |succ j=>simp at hj
 intro w9;have h9:w9.heap[w6.heap.size]? =some (.cells #[.slice none 0 0] iX (0,0)):=aM w6 _;have k9:Kept Nil w6 w9:=(Kept.refl _ _).alloc _;clear_value w9;obtain⟨g1,g2,g3⟩:=gu h9 (cs:= #[.slice A0 D.length c0]) rfl;refine⟨⟨rfl,fun u hu=>?_,fun j hj=>g1 j hj⟩,?_⟩
 ·simp at hu
  subst hu;rfl
 intro nx
 replace g2:nx.heap[w6.heap.size]? =some (.cells #[.slice A0 D.length c0] iX (0,0)):=g2
 replace g3:Kept (· =w6.heap.size) w9 nx:=g3
 clear_value nx;have CC:Kept Nil w6 nx:=k9.trans g3 (fun k hk e=>by omega);have tw:=nn.tt CC;refine⟨h.1,⟨h.2.1,Cells.bV (CC.heap RT (fun h=>h))⟩,?_⟩;have hR:uO nx F w6.heap.size D:=⟨⟨A0,c0,_,_,g2,rfl,uh.same tw⟩,fun e=>by have:=hF _ e;omega⟩;have s12:=tw.size;refine Ec hR W (by omega) (hl.same tw) (by omega) fun nW WA uc=>⟨_,rfl,?_⟩;have Pm:Kept Nil w nW:=tw.trans uc (fun k hk e=>by omega);by_cases hC:dT D h lp≠0
 ·refine Split.yes (by simpa using hC) ?_
  refine mG nW Pm _ ?_ hC;unfold iF;rw [if_neg hC]
 replace hC:=Classical.not_not.1 hC
 refine Split.no (by rw [hC];rfl) ?_;have T9:nW.heap[w5.heap.size]? =some (.cells s.1 al (0,0)):=uc.heap (CC.heap Ll (fun h=>h)) (by omega);refine⟨s.1,⟨s.2.1,Cells.bV T9⟩,yJ s (hl.same Pm) (by omega) fun pB yc=>⟨_,rfl,?_⟩⟩;have Ip:=Pm.tt yc;by_cases vR:¬s∈lp
 ·refine Split.yes (by rw [decide_eq_false vR];rfl) ?_
  refine mG pB Ip 2 ?_ (by omega);unfold iF;rw [if_pos hC,if_neg vR]
 replace vR:=Classical.not_not.1 vR
 refine Split.no (by rw [decide_eq_true vR];rfl) ?_;have eX:iF D h s lp=0:=by unfold iF;rw [if_pos hC,if_pos vR]
 obtain⟨gC,fW,gU,cY⟩:=lO hC;obtain⟨mj,P8,P7⟩:=eF.1 (cY s (dV.2 vR));obtain⟨j,hj⟩:=List.mem_iff_getElem?.1 P8;have eP:ox D P h s lp=P++ [(j:Int)]:=by
  unfold ox;rw [if_pos eX,<-P7,W.pos_eq hj];rfl
 have eD:oy D h s lp=D++ [⟨h,dB lp⟩]:=by unfold oy;rw [if_pos eX]
 rw [qo hC]at WA;obtain⟨A1,c1,cs1,t1,h1,VQ,UF⟩:=(WA.same yc).ex;rw [List.length_append,List.length_singleton]at UF VQ;have Qv:pB.cell? (aV w6.heap.size)=some (.slice A1 (D.length+1) c1):=by rw [aE h1];exact VQ
 have sz1:=Ip.size;have Iz:=Ip.heap jJ (fun h=>h);refine⟨#[.slice A1 (D.length+1) c1],⟨rfl,fun i v hi=>?_⟩,Is.mk rfl ⟨⟨rfl,fun u hu=>?_,fun i hi=>?_⟩,?_⟩⟩
 ·cases i with
  |zero=>
   rw [add_zero,Qv];simpa using hi
  |succ i=>simp at hi
 ·simp at hu
  subst hu;rfl
 ·have:i=0:=by omega
  subst this;rw [add_zero,add_zero];exact dP Iz (by simp)
 intro Xw rf;have aai:Xw.heap[r]? =some (.cells #[.slice A1 (D.length+1) c1,.slice B0 D.length e0] j0 (0,0)):=by
  show(setCells pB ((⟨r,0,none⟩:Addr).add 0) [.slice A1 (D.length+1) c1] 0).heap[r]? =_;rw [Zh,du Iz];rfl
 have Ib:Kept (· =r) pB Xw:=by
  show Kept (· =r) pB (setCells pB ((⟨r,0,none⟩:Addr).add 0) [.slice A1 (D.length+1) c1] 0)
  rw [add_zero];exact hU _ _ _ _
 have Ge:Kept Nil Xw rf:=(Kept.refl _ _).drew;clear_value rf Xw;have PE:=Ge.heap aai (fun h=>h);have x9:Kept (· =r) pB rf:=Ib.trans Ge (fun _ _ h=>h.elim);have Nc:HS rf B0 D.length sl:=(BT.same Ip).aK x9 (fun a ha e=>H.iV (e▸hB0 a ha));have IF:rf.heap[w5.heap.size]? =some (.cells s.1 al (0,0)):=x9.heap (yc.heap T9 (fun h=>h)) (fun e=>by omega);refine Is.mk rfl ⟨B0,D.length,e0,by rw [bD,aE PE];rfl,s.1,⟨s.2.1,Cells.bV IF⟩,?_⟩;have fin:∀(v:World) (A2:Option Addr) (c2:Nat),Kept Nil rf v->cr v rf.heap.size A2 (D.length+1) c2 (sl++ [s])->
  Is (some (⟨r,0,none⟩:Addr)) fun a=>Wr v (a.add 1)/\K (.int .i64 0) (v.setCell (a.add 1) (.slice A2 (D.length+1) c2)):=fun v A2 c2 kv row=>by
  refine Is.mk rfl ?_;rw [bD];have hv:=kv.heap PE (fun h=>h);have kf:Kept (· =r) v (v.setCell ⟨r,0+1,none⟩ (.slice A2 (D.length+1) c2)):=Kept.setCell (S:=fun k=>k=r) (Kept.refl _ v) (p:=⟨r,0+1,none⟩) (fun _=>rfl) _;refine⟨dP hv (by simp),?_⟩;have lS:Kept (· =r) w (v.setCell ⟨r,0+1,none⟩ (.slice A2 (D.length+1) c2)):=(((Ip.mono (S':=(· =r)) (fun _ _ h=>h.elim)).tt x9).trans kv (fun _ _ h=>h.elim)).tt kf;have:=hK (v.setCell ⟨r,0+1,none⟩ (.slice A2 (D.length+1) c2)) ?_ lS
  ·rw [eX]at this
   exact this
  rw [eD,eP];have hbA:∀b,bH A2=some b->rf.heap.size<=b/\b<v.heap.size:=fun b hb=>by
   obtain⟨q1,cur,q2⟩:=Row.bV row hb;exact⟨q1,bf q2⟩
  have s26:=x9.size;have sv:=kv.size;have sf:=kf.size;have aeL:Kept (· =r) nW rf:=(yc.mono (S':=(· =r)) (fun _ _ h=>h.elim)).tt x9;refine⟨⟨A1,c1,A2,c2,sl++ [s],?_,?_,?_,fun a ha=>.inr ?_,?_⟩,fun e=>e.elim H.iV (fun e=>by omega),H.ns.snoc hj (by rw [P7];exact dV.2 vR) (by have:=(lgeS hj).1;omega),W.snoc gC cY (jy lp)⟩
  ·rw [List.length_append,List.length_singleton,du hv]
   rfl
  ·rw [List.length_append,List.length_singleton]
   have o6:Kept (· =r) pB (v.setCell ⟨r,0+1,none⟩ (.slice A2 (D.length+1) c2)):=(x9.trans kv (fun _ _ h=>h.elim)).tt kf;refine(UF.aK o6 fun k hk e=>?_).mono fun k hk=>?_
   ·rcases hk with hk|hk
    ·exact H.iV (e▸hk)
    ·omega
   ·rcases hk with hk|hk
    ·exact .inl hk
    ·have:=yc.size
     exact .inr ⟨by omega,by omega⟩
  ·rw [List.length_append,List.length_singleton]
   exact(cr.hs row).aK kf (fun a ha e=>by have:=hbA a.block (by rw [ha];rfl);omega)
  ·have:=hbA a.block (by rw [ha];rfl)
   exact⟨by omega,by omega⟩
  ·rw [<-P7]
   exact acE.snoc H.ns W hj
 have nV:∀ {u:World},Kept Nil rf u->∃cs:Array Value,(.agg s.1:Value)=.agg cs/\cs.size=32/\Cells u (aV w5.heap.size) cs:=fun k=>⟨s.1,rfl,s.2.1,Cells.bV (k.heap IF (fun h=>h))⟩;refine⟨?_,?_⟩
 ·obtain⟨A3,c3,Hp,Ui,D8,abJ,Wf⟩:=dd (cx:=e0) aF (cr.nil rf rf.heap.size) Nc (by omega) (Nat.le_refl _)
  rw [Nat.zero_add]at Ui D8;rw [List.nil_append]at D8;have MS:Kept Nil rf Hp:=Kept.dX (Kept.refl _ _) abJ (fun k hk=>by cases hk);refine⟨A3,_,c3,Hp,Ui,nV MS,s.2.1,?_⟩;intro uR;have G6:Kept Nil Hp uR:=(Kept.refl _ _).alloc _;have aaa:HS uR (some ⟨Hp.heap.size,0,none⟩) 1 [s]:=jE Hp s;clear_value uR;have s32:=G6.size;have s31:=MS.size;obtain⟨A4,c4,mZ,Ln,Ag,Qu,I7⟩:=dd (cx:=1) aF (Row.aK D8 G6 (fun _ _ h=>h)) aaa (by omega) (by omega);have wM:Kept Nil rf mZ:=Kept.dX (MS.tt G6) Qu (fun k hk=>(Row.bV D8 hk).1);exact⟨A4,_,c4,mZ,Ln,fin mZ A4 c4 wM Ag⟩
 ·refine⟨s.2.1,?_⟩
  intro wL;have yS:Kept Nil rf wL:=(Kept.refl _ _).alloc _;have Z9:HS wL (some ⟨rf.heap.size,0,none⟩) 1 [s]:=jE rf s;clear_value wL;have s37:=yS.size;refine⟨by rw [bD,aE (yS.heap PE (fun h=>h))];rfl,?_⟩;obtain⟨A3,c3,Mw,Uh,D7,abI,We⟩:=dd (cx:=e0) aF (cr.nil wL wL.heap.size) (Nc.same yS) (by omega) (Nat.le_refl _);rw [Nat.zero_add]at Uh D7;rw [List.nil_append]at D7;have MR:Kept Nil wL Mw:=Kept.dX (Kept.refl _ _) abI (fun k hk=>by cases hk);have s39:=MR.size;obtain⟨A4,c4,Sl,aaG,MA,abH,Wc⟩:=dd (cx:=1) aF D7 (Z9.same MR) (by omega) (by omega);have Ty:Kept Nil wL Sl:=Kept.dX MR abH (fun k hk=>(Row.bV D7 hk).1);exact⟨A3,_,c3,Mw,Uh,A4,_,c4,Sl,aaG,fin Sl A4 c4 (yS.tt Ty) (Row.base MA (fun k hk=>by have:=(Row.bV MA hk).1;omega))⟩
end
section
variable{w w' v:World}{F FP FR S S2 F2:Nat->Prop}{x r:Nat}{D D':DG}{P P':List Int}{K:Value->World->Prop}
theorem Cp(h:DM w S F x D P)(hD:D.length<=5000)(hT:sS w)(Kk:¬S (Tryz.kF.g 1)){A:Option Addr}{n cx:Nat}{lp:List HT}(hl:HS w A n lp)(hn:n<=5000)(hid s:HT)
 (hK:∀u S' F',DM u S' F' x (oy D hid s lp) (ox D P hid s lp)->Kept S w u->(∀k,S' k->S k\/w.heap.size<=k)->(∀k,F' k->F k\/w.heap.size<=k)->K (.int .i64 (iF D hid s lp)) u):
 bE prog aH.id #[.pointer (some ⟨x,0,none⟩),.agg hid.1,.agg s.1,.slice A n cx] w K:=by
 obtain⟨m,h1,h2⟩:=h;refine FK h1 hD hT (fun e=>Kk (h2 _ (.inl e))) hl hn hid s (fun u k hc=>?_) (fun u S' F' hI k hS hF hc=>?_)
 ·refine hK u S F ?_ (k.mono fun _ _ h=>h.elim) (fun k h=>.inl h) (fun k h=>.inl h)
  unfold oy ox;rw [if_neg hc,if_neg hc];exact⟨m,h1.same k,h2⟩
 ·have:=hK u S' F' hI (k.mono fun k _ h=>h2 k h) (fun k h=>(hS k h).imp (h2 k) (fun h=>h)) hF
  rw [hc]at this;exact this
end
end Go.Proofs.YtfleamccglihoaaGreatDoor
namespace Go.Proofs.YtfleamccglihoaaGreatDoor
open Go.Proofs.Tryz
open Go Go.b0 Go.RowKit
open Tr (kY)
section
variable{r a b c:HT}(PV:r≠a)(Gm:r≠b)(X0:r≠c)(nv:a≠b)(Yu:a≠c)(QI:b≠c)
end
section
variable{w w':World}{K:Value->World->Prop}
end
end Go.Proofs.YtfleamccglihoaaGreatDoor
namespace Go.Proofs.YtfleamccglihoaaGreatDoor
open Go.Proofs.Tryz
open Go Go.b0 Go.RowKit
open Go.ChangeMaps (setBlock)
theorem tJ{x:HT}{v:Value}:∀ {l:List (HT×Value)} {j:Nat},(l.map (·.1)).Nodup->l[j]? =some (x,v)->assoc x l=some v
 | [],_,_,h=>by simp at h
 |(y,u)::l,0,_,h=>by
  simp at h;obtain⟨rfl,rfl⟩:=h;unfold assoc;rw [if_pos rfl]
 |(y,u)::l,j+1,hn,h=>by
  simp only [List.map_cons,List.nodup_cons]at hn;have hm:x∈l.map (·.1):=List.mem_map.2 ⟨(x,v),List.mem_of_getElem? (i:=j) (by simpa using h),rfl⟩;unfold assoc;rw [if_neg (fun e:x=y=>hn.1 (by rw [<-e];exact hm))];exact tJ hn.2 (j:=j) (by simpa using h)
theorem yx{x:HT}{v:Value}:∀ {l:List (HT×Value)},assoc x l=some v->∃j:Nat,l[j]? =some (x,v)
 | [],h=>by simp [assoc]at h
 |(y,u)::l,h=>by
  unfold assoc at h;split at h
  ·rename_i e
   subst e;cases h;exact⟨0,rfl⟩
  ·obtain⟨j,hj⟩:=yx h
   exact⟨j+1,by simpa using hj⟩
theorem nU.of{es:List MapEntry}{l:List (HT×Value)}(h:nU es l){j:Nat}{e:MapEntry}(he:es[j]? =some e):∃p,l[j]? =some p/\e.key=.agg p.1.1/\e.val=p.2:=by
 have hlen:=h.len;have hj:=(lgeS he).1;obtain⟨p,hp⟩:∃p,l[j]? =some p:=⟨_,List.getElem?_eq_getElem (by omega)⟩;obtain⟨e',g1,g2,g3⟩:=h.get hp;rw [he]at g1;cases g1;exact⟨p,hp,g2,g3⟩
theorem zt{x y:HT}(h:(Value.agg x.1:Value)=.agg y.1):x=y:=by
 cases h':x;cases YE:y
 simp_all
structure o9(w:World)(m it:Nat)(f:HT->Option Value)(left:HT->Prop)(BZ:Nat):Prop where
 ne:it≠m
 ex:∃es clock l since seen c0,w.heap[m]? =some (.map es clock)/\nU es.toList l/\(∀x,assoc x l=f x)/\(es.toList.map (·.born)).Nodup/\(l.map (·.1)).Nodup/\
  w.heap[it]? =some (.mapIter (some m) since seen c0)/\(∀e∈es.toList,e.born<since)/\since<=c0/\since<=clock/\(leftOf es seen).size=BZ/\∀x,left x↔∃e∈es.toList,e.key=.agg x.1/\seen.contains e.born=false
section
variable{w w':World}{m it:Nat}{f:HT->Option Value}{left:HT->Prop}{BZ:Nat}
theorem o9.aK{S:Nat->Prop}(h:o9 w m it f left BZ)(hk:Kept S w w')(h1:¬S m)(h2:¬S it):o9 w' m it f left BZ:=by
 obtain⟨es,clock,l,since,seen,c0,g1,g2,g3,g4,g5,g6,g7⟩:=h.ex;exact⟨h.ne,es,clock,l,since,seen,c0,hk.heap g1 h1,g2,g3,g4,g5,hk.heap g6 h2,g7⟩
theorem o9.left_eq(h:o9 w m it f left BZ):w.rangeLeft m it=BZ:=by
 obtain⟨es,clock,l,since,seen,c0,g1,g2,g3,g4,g5,g6,g7,_,_,g8,_⟩:=h.ex;simp only [World.rangeLeft,g1,g6];exact g8
theorem o9.lt(h:o9 w m it f left BZ):it<w.heap.size:=by
 obtain⟨es,clock,l,since,seen,c0,g1,g2,g3,g4,g5,g6,_⟩:=h.ex;exact bf g6
theorem gg.range{mt te:TypeId}{z:Value}(T:xC mt te z)(h:gg w m f):∃w' BZ,(Instr.range mt (.map (some m))).run prog w=.ok (.pointer (some ⟨w.heap.size,0,none⟩)) w'/\o9 w' m w.heap.size f (fun x=>f x≠none) BZ/\Kept Nil w w':=by
 obtain⟨es,clock,l,g1,g2,g3,g4,g5,g6⟩:=h.ex;have di:=h.lt;refine⟨w.alloc (.mapIter (some m) clock #[] clock),_,run_range_map w mt al te m es clock T.pD g1,⟨by omega,es,clock,l,clock,#[],clock,lu g1 _,g2,g3,g5,g6,aM w _,g4,Nat.le_refl _,Nat.le_refl _,rfl,fun x=>?_⟩,(Kept.refl _ _).alloc _⟩;rw [<-g3];constructor
 ·intro hx
  cases ha:assoc x l with
  |none=>exact absurd ha hx
  |some v=>
   obtain⟨j,hj⟩:=yx ha;obtain⟨e,he,hk,_⟩:=g2.get hj;exact⟨e,List.mem_of_getElem? he,hk,by simp⟩
 ·rintro⟨e,he,hk,_⟩
  obtain⟨j,hj⟩:=List.mem_iff_getElem?.1 he;obtain⟨⟨y,v⟩,hp,oZ,_⟩:=g2.of hj;have:y=x:=zt (oZ.symm.trans hk);subst this;rw [tJ g6 hp];simp
theorem o9.next(h:o9 w m it f left BZ)(ty:TypeId):
 (BZ=0/\(∀x,¬left x)/\(Instr.next (.pointer (some ⟨it,0,none⟩)) false ty).run prog w=.ok (.tuple #[.bool false]) w)\/
 ∃(x:HT) (v:Value) (w':World) (W6:Nat),left x/\f x=some v/\(Instr.next (.pointer (some ⟨it,0,none⟩)) false ty).run prog w=.ok (.tuple #[.bool true,.agg x.1,v]) w'/\
  (Instr.entry (.pointer (some ⟨it,0,none⟩))).run prog w'=.ok (.tuple #[.agg x.1,v]) w'/\o9 w' m it f (fun y=>left y/\y≠x) W6/\W6<BZ/\Kept (· =it) w w':=by
 have fW:=h.ne;obtain⟨es,clock,l,since,seen,c0,g1,g2,g3,g4,g5,g6,g7,g8,g8',rfl,g9⟩:=h.ex;rcases run_next_at (P:=prog) w ty it m since c0 seen es clock g6 g1 g7 g8 with⟨h0,hr⟩|⟨e,he,w1,J0,hr⟩
 ·refine .inl ⟨h0,fun x hx=>?_,hr⟩
  obtain⟨e,he,_,hs⟩:=(g9 x).1 hx;have hm:e∈leftOf es seen:=by
   unfold leftOf;rw [Array.mem_filter];exact⟨by simpa using he,by rw [hs];rfl⟩
  have:=Array.size_pos_of_mem hm;omega
 ·obtain⟨Ym,hes⟩:=mem_left he
  obtain⟨j,hj⟩:=List.mem_iff_getElem?.1 Ym;obtain⟨⟨x,v⟩,hp,hk,hv⟩:=g2.of hj;have hk:e.key=.agg x.1:=hk;have hv:e.val=v:=hv;rw [hk,hv]at hr;have abt:w1.heap[it]? =some (.mapIter (some m) since seen c0):=by rcases J0 with rfl|rfl<;>exact g6
  have Nu:w1.heap[m]? =some (.map es clock):=by rcases J0 with rfl|rfl<;>exact g1
  have Lk:(setBlock w1 it (.mapIter (some m) since (seen.push e.born) clock)).heap[it]? =some (.mapIter (some m) since (seen.push e.born) clock):=by
   have:=bf abt;simp [setBlock,this]
  have UA:(setBlock w1 it (.mapIter (some m) since (seen.push e.born) clock)).heap[m]? =some (.map es clock):=by
   simp [setBlock,fW,Nu]
  have U8:Kept (· =it) w (setBlock w1 it (.mapIter (some m) since (seen.push e.born) clock)):=by
   have hd:w.drew.heap=w.heap:=rfl;rcases J0 with rfl|rfl
   ·exact⟨rfl,rfl,rfl,by simp [setBlock],fun k _ hk=>by simp [setBlock,Ne.symm hk]⟩
   ·exact⟨rfl,rfl,rfl,by simp [setBlock,hd],fun k _ hk=>by simp [setBlock,hd,Ne.symm hk]⟩
  refine .inr ⟨x,v,_,_,(g9 x).2 ⟨e,Ym,hk,hes⟩,by rw [<-g3];exact tJ g5 hp,hr,?_,⟨fW,es,clock,l,since,seen.push e.born,clock,UA,g2,g3,g4,g5,Lk,g7,g8',g8',rfl,fun y=>?_⟩,left_shrinks es seen e he,U8⟩
  ·have:=run_entry_at (P:=prog) _ it m since seen es clock e Lk UA Ym g4
   rw [hk,hv]at this;exact this
  ·have Mn:∀ {e':MapEntry},e'∈es.toList->e'.born=e.born->e'=e:=fun {e'} LO hb=>by
    obtain⟨j',vU⟩:=List.mem_iff_getElem?.1 LO;have h1:(es.toList.map (·.born))[j']? =some e'.born:=by rw [List.getElem?_map,vU];rfl
    have h2:(es.toList.map (·.born))[j]? =some e.born:=by rw [List.getElem?_map,hj];rfl
    rw [hb]at h1;have g1:=lgeS h1;have g2:=lgeS h2;have:j'=j:=(List.getElem_inj g4).1 (g1.2.trans g2.2.symm);subst this;rw [hj]at vU;cases vU;rfl
   rw [g9];constructor
   ·rintro⟨⟨e',LO,o6,nN⟩,aa9⟩
    refine⟨e',LO,o6,?_⟩;rw [contains_push,nN,Bool.false_or,beq_eq_false_iff_ne];intro hb;have:=Mn LO hb;subst this;exact aa9 (zt (o6.symm.trans hk))
   ·rintro⟨e',LO,o6,nN⟩
    rw [contains_push,Bool.or_eq_false_iff]at nN;refine⟨⟨e',LO,o6,nN.1⟩,fun Ey=>?_⟩;subst Ey;obtain⟨j',vU⟩:=List.mem_iff_getElem?.1 LO;obtain⟨⟨y',v'⟩,Lu,oZ,_⟩:=g2.of vU;have e1:y'=y:=zt (oZ.symm.trans o6);subst e1;have h1:(l.map (·.1))[j']? =some y':=by rw [List.getElem?_map,Lu];rfl
    have h2:(l.map (·.1))[j]? =some y':=by rw [List.getElem?_map,hp];rfl
    have g1:=lgeS h1;have g2:=lgeS h2;have:j'=j:=(List.getElem_inj g5).1 (g1.2.trans g2.2.symm);subst this;rw [hj]at vU;cases vU;simp at nN
end
end Go.Proofs.YtfleamccglihoaaGreatDoor
