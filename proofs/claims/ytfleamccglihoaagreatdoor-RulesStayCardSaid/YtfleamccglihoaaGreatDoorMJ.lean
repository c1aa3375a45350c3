import Derived.Test.YtfleamccglihoaaGreatDoorMI
import Derived.Test.YtfleamccglihoaaGreatDoorMG
import Derived.Test.YtfleamccglihoaaGreatDoorMF
import Derived.Maps.Range
import Derived.Test.YtfleamccglihoaaGreatDoorMH
open Go.IntKind (i64 u64)
set_option linter.unusedVariables false
namespace Go.Proofs.YtfleamccglihoaaGreatDoor
open Go.Proofs.Tryz
open Go Go.b0 Go.RowKit
def Ms(D:DG)(P:List Int)(l:List HT):Prop:=l.length=D.length/\∀(i j:Nat) (m:DN),P[i]? =some (j:Int)->D[j]? =some m->l[i]? =some m.id
structure qv(w:World)(F:Nat->Prop)(r:Nat)(D:DG)(P:List Int):Prop where
 ex:∃(A:Option Addr) (c:Nat) (B:Option Addr) (e:Nat) (l:List HT),w.heap[r]? =some (.cells #[.slice A D.length c,.slice B D.length e] jY (0,0))/\NS w F A D.length D/\HS w B D.length l/\(∀a,B=some a->F a.block)/\Ms D P l
 iT:¬F r
 np:sS D P
 W:jX D
section
variable{w w':World}{F F' S:Nat->Prop}{r:Nat}{D:DG}{P:List Int}{K:Value->World->Prop}
theorem qv.aJ(h:qv w F r D P)(hk:Kept S w w')(hr:¬S r)(hn:∀k,F k->¬S k):qv w' F r D P:=by
 obtain⟨A,c,B,e,l,h1,h2,h3,h4,h5⟩:=h.ex;exact⟨⟨A,c,B,e,l,hk.heap h1 hr,h2.aJ hk hn,h3.aJ hk (fun a ha=>hn _ (h4 a ha)),h4,h5⟩,h.iT,h.np,h.W⟩
theorem qv.same(h:qv w F r D P)(hk:Kept Nil w w'):qv w' F r D P:=h.aJ hk (fun h=>h) (fun _ _ h=>h)
theorem qv.lt(h:qv w F r D P):r<w.heap.size:=by obtain⟨A,c,B,e,l,h1,_⟩:=h.ex;exact aY h1
theorem qv.mono(h:qv w F r D P)(hf:∀k,F k->F' k)(hr:¬F' r):qv w F' r D P:=by
 obtain⟨A,c,B,e,l,h1,h2,h3,h4,h5⟩:=h.ex;exact⟨⟨A,c,B,e,l,h1,h2.mono hf,h3,fun a ha=>hf _ (h4 a ha),h5⟩,hr,h.np,h.W⟩
theorem qv.gr(h:qv w F r D P):uG w F r D:=by
 obtain⟨A,c,B,e,l,h1,h2,_⟩:=h.ex;exact⟨⟨A,c,_,_,h1,rfl,h2⟩,h.iT⟩
theorem Q2(W:jX D){j:Nat}{nd:DN}(h:D[j]? =some nd):Hc D nd.id=(j:Int):=by unfold Hc;rw [W.pos_eq h]
end
theorem Zh(w:World)(r j:Nat)(v:Value):setCells w ((⟨r,0,none⟩:Addr).add j) [v] 0=w.setCell ⟨r,j,none⟩ v:=by
 simp only [setCells];rw [bC,bC,Nat.add_zero,Nat.zero_add]
theorem iW{v:World}{b:Nat}{z:Array Value}{t:TypeId}(s:HT)(h:v.heap[b]? =some (.cells z t (0,0)))(hz:z.size=32):
 (s.1.size=32/\(∀c∈s.1.toList,c.oneCell'=true)/\∀j,j<32->Wr v ((⟨b,0,none⟩:Addr).add j))/\(setCells v (⟨b,0,none⟩:Addr) s.1.toList 0).heap[b]? =some (.cells s.1 t (0,0))/\Kept (· =b) v (setCells v (⟨b,0,none⟩:Addr) s.1.toList 0):=by
 obtain⟨h1,h2,h3⟩:=fY h (cs:=s.1) (by rw [s.2.1];exact hz);exact⟨⟨s.2.1,s.2.one,fun j hj=>h1 j (by rw [s.2.1];exact hj)⟩,h2,h3⟩
theorem sS.one(r:HT):sS [⟨r,[]⟩] [-1]:=⟨rfl,rfl,fun i p nd hi hp=>by
 cases i with
 |zero=>omega
 |succ i=>simp at hp⟩
section
variable{w w':World}{F F' S:Nat->Prop}{r:Nat}{D:DG}{P:List Int}{K:Value->World->Prop}
theorem yH(root:HT)(hK:∀v r F,qv v F r [⟨root,[]⟩] [-1]->(∀k,F k->w.heap.size<=k/\k<v.heap.size)->w.heap.size<=r->Kept Nil w v->K (.pointer (some ⟨r,0,none⟩)) v):
 bD prog kP.id #[.agg root.1] w K:=by
 refine kP.of ?_;unfold kP.W;intro w2;have k2:Kept Nil w w2:=(Kept.refl _ _).alloc _;have nA:w2.heap[w.heap.size]? =some (.cells root.1 al (0,0)):=aM w _;clear_value w2;have mF:(root.1.push (.slice none 0 0)).size=33:=by rw [Array.size_push,root.2.1]
 refine⟨root.1,⟨root.2.1,Cells.bV nA⟩,?_⟩;rw [Js];refine Is.mk rfl ⟨mF,?_⟩;intro w5;have h5:w5.heap[w2.heap.size]? =some (.cells (root.1.push (.slice none 0 0)) b6 (0,0)):=by
  have:=aM w2 (.cells (root.1.push (.slice none 0 0)) b6);show(w2.alloc (.cells ((root.1.push (.slice none 0 0)).toList++ []).toArray b6)).heap[w2.heap.size]? =_;rw [List.append_nil,Array.toArray_toList];exact this
 have k5:Kept Nil w2 w5:=(Kept.refl _ _).alloc _;clear_value w5;refine⟨rfl,?_⟩;intro w6;have h6:w6.heap[w5.heap.size]? =some (.cells fz.1 al (0,0)):=aM w5 _;have k6:Kept Nil w5 w6:=(Kept.refl _ _).alloc _;clear_value w6;intro w7;have h7:w7.heap[w6.heap.size]? =some (.cells #[.slice (some ⟨w2.heap.size,0,none⟩) 1 1,.slice (some ⟨w5.heap.size,0,none⟩) 1 1] jY (0,0)):=aM w6 _;have k7:Kept Nil w6 w7:=(Kept.refl _ _).alloc _;clear_value w7;have s2:=k2.size;have s5:=k5.size;have s6:=k6.size;have l5:=aY h5;have l6:=aY h6;have h57:=k7.heap (k6.heap h5 (fun h=>h)) (fun h=>h);have h67:=k7.heap h6 (fun h=>h);have l67:=aY h67;refine hK w7 _ (fun k=>k=w2.heap.size\/k=w5.heap.size) ⟨⟨_,_,_,_,[fz],h7,⟨rfl,fun i nd hi=>?_⟩,HS.one h67,fun a ha=>by cases ha;exact .inr rfl,⟨rfl,fun i j m hi hj=>?_⟩⟩,fun e=>by omega,sS.one root,jX.root root⟩ (fun k e=>by omega) (by omega) (((k2.tt k5).tt k6).tt k7)
 ·cases i with
  |zero=>
   simp at hi;subst hi;refine⟨_,none,0,0,rfl,aY h57,.inl rfl,fun j u hj=>?_,HS.nil _ _,fun b hb=>by cases hb⟩;rw [Nat.zero_mul,add_zero,bC,Nat.zero_add,aE h57];exact hj
  |succ i=>simp at hi
 ·cases i with
  |zero=>simp at hi
  |succ i=>simp at hi
theorem Ms.snoc{l:List HT}(h:Ms D P l)(hs:sS D P)(W:jX D){nd:DN}{j:Nat}{mj:DN}(hj:D[j]? =some mj):Ms (D++ [nd]) (P++ [(j:Int)]) (l++ [mj.id]):=by
 have uN:=(lgeS hj).1;refine⟨by simp [h.1],fun i k m hi hm=>?_⟩;by_cases eh:i<P.length
 ·rw [List.getElem?_append_left eh]at hi
  have abx:i<D.length:=by rw [<-hs.len];exact eh
  rw [List.getElem?_append_left (by rw [h.1];exact abx)];have mz:=hs.par;have hk:k<D.length:=by
   rcases Nat.eq_zero_or_pos i with rfl|h0
   ·rw [mz.root]at hi;simp only [Option.some.injEq]at hi;omega
   ·obtain⟨j',h1,h2⟩:=mz.up i _ h0 hi
    omega
  rw [List.getElem?_append_left hk]at hm;exact h.2 i k m hi hm
 ·have abw:=(lgeS hi).1
  have e:i=P.length:=by simp at abw;omega
  subst e;simp at hi;have:k=j:=by omega
  subst this;rw [List.getElem?_append_left uN,hj]at hm;cases hm;rw [hs.len,<-h.1];simp
theorem FC(H:qv w F r D P)(hF:∀k,F k->k<w.heap.size)(hD:D.length<=5000){h s:HT}{lp:List HT}{A:Option Addr}{n c:Nat}(hl:HS w A n lp)(hn:n<=100000)
 (hK:∀w',qv w' (fun k=>F k\/(w.heap.size<=k/\k<w'.heap.size)) r (oy D h s lp) (ox D P h s lp)->Kept (· =r) w w'->K (.int .i64 (iB D h s lp)) w'):
 bD prog fM.id #[.pointer (some ⟨r,0,none⟩),.agg h.1,.agg s.1,.slice A n c] w K:=by
 have aaz:=H.lt;have W:=H.W;have mG:∀w',Kept Nil w w'->∀e,iB D h s lp=e->e≠0->K (.int .i64 e) w':=fun w' k e he fP=>by
  have:=hK w' ?_ (k.mono fun _ _ h=>h.elim)
  ·rw [he]at this;exact this
  ·unfold oy ox
   rw [if_neg (by rw [he];exact fP),if_neg (by rw [he];exact fP)];exact(H.same k).mono (fun _ h=>.inl h) (fun e=>e.elim H.iT (fun h=>by omega))
 refine fM.of ?_;unfold fM.W;intro w5 w6;have k5:Kept Nil w w5:=(Kept.refl _ _).alloc _;have LD:w5.heap[w.heap.size]? =some (.cells h.1 al (0,0)):=aM w _;have k6:Kept Nil w5 w6:=(Kept.refl _ _).alloc _;have Ln:w6.heap[w5.heap.size]? =some (.cells s.1 al (0,0)):=aM w5 _;clear_value w6;have RP:=k6.heap LD (fun h=>h);have p7:=k5.tt k6;have s5:=k5.size;have s6:=k6.size;have l5:=aY LD;have l6:=aY Ln;clear_value w5;obtain⟨A0,c0,B0,e0,sl,jE,uc,CH,hB0,acG⟩:=H.ex;have TW:=p7.heap jE (fun h=>h);refine Is.mk rfl ⟨#[.slice A0 D.length c0],⟨rfl,fun j v hj=>?_⟩,?_⟩
 ·cases j with
  |zero=>
   rw [add_zero,add_zero,aE TW];simpa using hj
  |succ j=>simp at hj
 intro w9;have h9:w9.heap[w6.heap.size]? =some (.cells #[.slice none 0 0] iV (0,0)):=aM w6 _;have k9:Kept Nil w6 w9:=(Kept.refl _ _).alloc _;clear_value w9;obtain⟨g1,g2,g3⟩:=fY h9 (cs:= #[.slice A0 D.length c0]) rfl;refine⟨⟨rfl,fun u hu=>?_,fun j hj=>g1 j hj⟩,?_⟩
 ·simp at hu
  subst hu;rfl
 intro nv
 replace g2:nv.heap[w6.heap.size]? =some (.cells #[.slice A0 D.length c0] iV (0,0)):=g2
 replace g3:Kept (· =w6.heap.size) w9 nv:=g3
 clear_value nv;have Cy:Kept Nil w6 nv:=k9.trans g3 (fun k hk e=>by omega);have tn:=p7.tt Cy;refine⟨h.1,⟨h.2.1,Cells.bV (Cy.heap RP (fun h=>h))⟩,?_⟩;have hR:uG nv F w6.heap.size D:=⟨⟨A0,c0,_,_,g2,rfl,uc.same tn⟩,fun e=>by have:=hF _ e;omega⟩;have s12:=tn.size;refine D9 hR W (by omega) (hl.same tn) (by omega) fun nS WC tX=>⟨_,rfl,?_⟩;have Pf:Kept Nil w nS:=tn.trans tX (fun k hk e=>by omega);by_cases hC:dR D h lp≠0
 ·refine Split.yes (by simpa using hC) ?_
  refine mG nS Pf _ ?_ hC;unfold iB;rw [if_neg hC]
 replace hC:=Classical.not_not.1 hC
 refine Split.no (by rw [hC];rfl) ?_;have T6:nS.heap[w5.heap.size]? =some (.cells s.1 al (0,0)):=tX.heap (Cy.heap Ln (fun h=>h)) (by omega);refine⟨s.1,⟨s.2.1,Cells.bV T6⟩,yE s (hl.same Pf) (by omega) fun pv x5=>⟨_,rfl,?_⟩⟩;have Io:=Pf.tt x5;by_cases wF:¬s∈lp
 ·refine Split.yes (by rw [decide_eq_false wF];rfl) ?_
  refine mG pv Io 2 ?_ (by omega);unfold iB;rw [if_pos hC,if_neg wF]
 replace wF:=Classical.not_not.1 wF
 refine Split.no (by rw [decide_eq_true wF];rfl) ?_;have eX:iB D h s lp=0:=by unfold iB;rw [if_pos hC,if_pos wF]
 obtain⟨gB,fP,gA,cZ⟩:=lO hC;obtain⟨mj,P4,P3⟩:=dI.1 (cZ s (dT.2 wF));obtain⟨j,hj⟩:=List.mem_iff_getElem?.1 P4;have eP:ox D P h s lp=P++ [(j:Int)]:=by
  unfold ox;rw [if_pos eX,<-P3,W.pos_eq hj];rfl
 have eD:oy D h s lp=D++ [⟨h,dB lp⟩]:=by unfold oy;rw [if_pos eX]
 rw [qt hC]at WC;obtain⟨A1,c1,cs1,t1,h1,VT,UC⟩:=(WC.same x5).ex;rw [List.length_append,List.length_singleton]at UC VT;have Qp:pv.cell? (aU w6.heap.size)=some (.slice A1 (D.length+1) c1):=by rw [aE h1];exact VT
 have sz1:=Io.size;have Iy:=Io.heap jE (fun h=>h);refine⟨#[.slice A1 (D.length+1) c1],⟨rfl,fun i v hi=>?_⟩,Is.mk rfl ⟨⟨rfl,fun u hu=>?_,fun i hi=>?_⟩,?_⟩⟩
 ·cases i with
  |zero=>
   rw [add_zero,Qp];simpa using hi
  |succ i=>simp at hi
 ·simp at hu
  subst hu;rfl
 ·have:i=0:=by omega
  subst this;rw [add_zero,add_zero];exact dN Iy (by simp)
 intro Xw q9;have aaj:Xw.heap[r]? =some (.cells #[.slice A1 (D.length+1) c1,.slice B0 D.length e0] jY (0,0)):=by
  show(setCells pv ((⟨r,0,none⟩:Addr).add 0) [.slice A1 (D.length+1) c1] 0).heap[r]? =_;rw [Zh,dp Iy];rfl
 have En:Kept (· =r) pv Xw:=by
  show Kept (· =r) pv (setCells pv ((⟨r,0,none⟩:Addr).add 0) [.slice A1 (D.length+1) c1] 0)
  rw [add_zero];exact gV _ _ _ _
 have AN:Kept Nil Xw q9:=(Kept.refl _ _).drew;clear_value q9 Xw;have Py:=AN.heap aaj (fun h=>h);have xZ:Kept (· =r) pv q9:=En.trans AN (fun _ _ h=>h.elim);have Na:HS q9 B0 D.length sl:=(CH.same Io).aJ xZ (fun a ha e=>H.iT (e▸hB0 a ha));have ID:q9.heap[w5.heap.size]? =some (.cells s.1 al (0,0)):=xZ.heap (x5.heap T6 (fun h=>h)) (fun e=>by omega);refine Is.mk rfl ⟨B0,D.length,e0,by rw [bC,aE Py];rfl,s.1,⟨s.2.1,Cells.bV ID⟩,?_⟩;have fin:∀(v:World) (A2:Option Addr) (c2:Nat),Kept Nil q9 v->cC v q9.heap.size A2 (D.length+1) c2 (sl++ [s])->
  Is (some (⟨r,0,none⟩:Addr)) fun a=>Wr v (a.add 1)/\K (.int .i64 0) (v.setCell (a.add 1) (.slice A2 (D.length+1) c2)):=fun v A2 c2 kv row=>by
  refine Is.mk rfl ?_;rw [bC];have hv:=kv.heap Py (fun h=>h);have kf:Kept (· =r) v (v.setCell ⟨r,0+1,none⟩ (.slice A2 (D.length+1) c2)):=Kept.setCell (S:=fun k=>k=r) (Kept.refl _ v) (p:=⟨r,0+1,none⟩) (fun _=>rfl) _;refine⟨dN hv (by simp),?_⟩;have lS:Kept (· =r) w (v.setCell ⟨r,0+1,none⟩ (.slice A2 (D.length+1) c2)):=(((Io.mono (S':=(· =r)) (fun _ _ h=>h.elim)).tt xZ).trans kv (fun _ _ h=>h.elim)).tt kf;have:=hK (v.setCell ⟨r,0+1,none⟩ (.slice A2 (D.length+1) c2)) ?_ lS
  ·rw [eX]at this
   exact this
  rw [eD,eP];have hbA:∀b,bG A2=some b->q9.heap.size<=b/\b<v.heap.size:=fun b hb=>by
   obtain⟨q1,cur,q2⟩:=Row.bV row hb;exact⟨q1,aY q2⟩
  have s26:=xZ.size;have sv:=kv.size;have sf:=kf.size;have aeL:Kept (· =r) nS q9:=(x5.mono (S':=(· =r)) (fun _ _ h=>h.elim)).tt xZ;refine⟨⟨A1,c1,A2,c2,sl++ [s],?_,?_,?_,fun a ha=>.inr ?_,?_⟩,fun e=>e.elim H.iT (fun e=>by omega),H.np.snoc hj (by rw [P3];exact dT.2 wF) (by have:=(lgeS hj).1;omega),W.snoc gB cZ (ju lp)⟩
  ·rw [List.length_append,List.length_singleton,dp hv]
   rfl
  ·rw [List.length_append,List.length_singleton]
   have oW:Kept (· =r) pv (v.setCell ⟨r,0+1,none⟩ (.slice A2 (D.length+1) c2)):=(xZ.trans kv (fun _ _ h=>h.elim)).tt kf;refine(UC.aJ oW fun k hk e=>?_).mono fun k hk=>?_
   ·rcases hk with hk|hk
    ·exact H.iT (e▸hk)
    ·omega
   ·rcases hk with hk|hk
    ·exact .inl hk
    ·have:=x5.size
     exact .inr ⟨by omega,by omega⟩
  ·rw [List.length_append,List.length_singleton]
   exact(cC.hs row).aJ kf (fun a ha e=>by have:=hbA a.block (by rw [ha];rfl);omega)
  ·have:=hbA a.block (by rw [ha];rfl)
   exact⟨by omega,by omega⟩
  ·rw [<-P3]
   exact acG.snoc H.np W hj
 have nR:∀ {u:World},Kept Nil q9 u->∃cs:Array Value,(.agg s.1:Value)=.agg cs/\cs.size=32/\Cells u (aU w5.heap.size) cs:=fun k=>⟨s.1,rfl,s.2.1,Cells.bV (k.heap ID (fun h=>h))⟩;refine⟨?_,?_⟩
 ·obtain⟨A3,c3,Hn,Uf,D5,abK,Wh⟩:=dc (cx:=e0) aF (cC.nil q9 q9.heap.size) Na (by omega) (Nat.le_refl _)
  rw [Nat.zero_add]at Uf D5;rw [List.nil_append]at D5;have MR:Kept Nil q9 Hn:=Kept.eA (Kept.refl _ _) abK (fun k hk=>by cases hk);refine⟨A3,_,c3,Hn,Uf,nR MR,s.2.1,?_⟩;intro uJ;have G0:Kept Nil Hn uJ:=(Kept.refl _ _).alloc _;have aab:HS uJ (some ⟨Hn.heap.size,0,none⟩) 1 [s]:=jF Hn s;clear_value uJ;have s32:=G0.size;have s31:=MR.size;obtain⟨A4,c4,nh,Lp,Ad,Qn,I7⟩:=dc (cx:=1) aF (Row.aJ D5 G0 (fun _ _ h=>h)) aab (by omega) (by omega);have wE:Kept Nil q9 nh:=Kept.eA (MR.tt G0) Qn (fun k hk=>(Row.bV D5 hk).1);exact⟨A4,_,c4,nh,Lp,fin nh A4 c4 wE Ad⟩
 ·refine⟨s.2.1,?_⟩
  intro wD;have yN:Kept Nil q9 wD:=(Kept.refl _ _).alloc _;have aaa:HS wD (some ⟨q9.heap.size,0,none⟩) 1 [s]:=jF q9 s;clear_value wD;have s37:=yN.size;refine⟨by rw [bC,aE (yN.heap Py (fun h=>h))];rfl,?_⟩;obtain⟨A3,c3,Mw,Ue,D4,abJ,Wg⟩:=dc (cx:=e0) aF (cC.nil wD wD.heap.size) (Na.same yN) (by omega) (Nat.le_refl _);rw [Nat.zero_add]at Ue D4;rw [List.nil_append]at D4;have MQ:Kept Nil wD Mw:=Kept.eA (Kept.refl _ _) abJ (fun k hk=>by cases hk);have s39:=MQ.size;obtain⟨A4,c4,Si,aaH,MA,abI,Wf⟩:=dc (cx:=1) aF D4 (aaa.same MQ) (by omega) (by omega);have Tv:Kept Nil wD Si:=Kept.eA MQ abI (fun k hk=>(Row.bV D4 hk).1);exact⟨A3,_,c3,Mw,Ue,A4,_,c4,Si,aaH,fin Si A4 c4 (yN.tt Tv) (Row.base MA (fun k hk=>by have:=(Row.bV MA hk).1;omega))⟩
end
section
variable{w w' v:World}{F FP FR S S2 F2:Nat->Prop}{x r:Nat}{D D':DG}{P P':List Int}{K:Value->World->Prop}
theorem Cl(h:DJ w S F x D P)(hD:D.length<=5000)(hT:sP w)(Kk:¬S (Tryz.ko.g 1)){A:Option Addr}{n cx:Nat}{lp:List HT}(hl:HS w A n lp)(hn:n<=5000)(hid s:HT)
 (hK:∀u S' F',DJ u S' F' x (oy D hid s lp) (ox D P hid s lp)->Kept S w u->(∀k,S' k->S k\/w.heap.size<=k)->(∀k,F' k->F k\/w.heap.size<=k)->K (.int .i64 (iB D hid s lp)) u):
 bD prog aG.id #[.pointer (some ⟨x,0,none⟩),.agg hid.1,.agg s.1,.slice A n cx] w K:=by
 obtain⟨m,h1,h2⟩:=h;refine FD h1 hD hT (fun e=>Kk (h2 _ (.inl e))) hl hn hid s (fun u k hc=>?_) (fun u S' F' hI k hS hF hc=>?_)
 ·refine hK u S F ?_ (k.mono fun _ _ h=>h.elim) (fun k h=>.inl h) (fun k h=>.inl h)
  unfold oy ox;rw [if_neg hc,if_neg hc];exact⟨m,h1.same k,h2⟩
 ·have:=hK u S' F' hI (k.mono fun k _ h=>h2 k h) (fun k h=>(hS k h).imp (h2 k) (fun h=>h)) hF
  rw [hc]at this;exact this
end
end Go.Proofs.YtfleamccglihoaaGreatDoor
namespace Go.Proofs.YtfleamccglihoaaGreatDoor
open Go.Proofs.Tryz
open Go Go.b0 Go.RowKit
open Tr (kY)
section
variable{r a b c:HT}(PQ:r≠a)(Gh:r≠b)(X0:r≠c)(mB:a≠b)(Yt:a≠c)(QC:b≠c)
end
section
variable{w w':World}{K:Value->World->Prop}
end
end Go.Proofs.YtfleamccglihoaaGreatDoor
namespace Go.Proofs.YtfleamccglihoaaGreatDoor
open Go.Proofs.Tryz
open Go Go.b0 Go.RowKit
open Go.ChangeMaps (setBlock)
theorem tG{x:HT}{v:Value}:∀ {l:List (HT×Value)} {j:Nat},(l.map (·.1)).Nodup->l[j]? =some (x,v)->assoc x l=some v
 | [],_,_,h=>by simp at h
 |(y,u)::l,0,_,h=>by
  simp at h;obtain⟨rfl,rfl⟩:=h;unfold assoc;rw [if_pos rfl]
 |(y,u)::l,j+1,hn,h=>by
  simp only [List.map_cons,List.nodup_cons]at hn;have hm:x∈l.map (·.1):=List.mem_map.2 ⟨(x,v),List.mem_of_getElem? (i:=j) (by simpa using h),rfl⟩;unfold assoc;rw [if_neg (fun e:x=y=>hn.1 (by rw [<-e];exact hm))];exact tG hn.2 (j:=j) (by simpa using h)
theorem yq{x:HT}{v:Value}:∀ {l:List (HT×Value)},assoc x l=some v->∃j:Nat,l[j]? =some (x,v)
 | [],h=>by simp [assoc]at h
 |(y,u)::l,h=>by
  unfold assoc at h;split at h
  ·rename_i e
   subst e;cases h;exact⟨0,rfl⟩
  ·obtain⟨j,hj⟩:=yq h
   exact⟨j+1,by simpa using hj⟩
theorem nQ.of{es:List MapEntry}{l:List (HT×Value)}(h:nQ es l){j:Nat}{e:MapEntry}(he:es[j]? =some e):∃p,l[j]? =some p/\e.key=.agg p.1.1/\e.val=p.2:=by
 have hlen:=h.len;have hj:=(lgeS he).1;obtain⟨p,hp⟩:∃p,l[j]? =some p:=⟨_,List.getElem?_eq_getElem (by omega)⟩;obtain⟨e',g1,g2,g3⟩:=h.get hp;rw [he]at g1;cases g1;exact⟨p,hp,g2,g3⟩
theorem zn{x y:HT}(h:(Value.agg x.1:Value)=.agg y.1):x=y:=by
 cases h':x;cases YE:y
 simp_all
structure oZ(w:World)(m it:Nat)(f:HT->Option Value)(left:HT->Prop)(BT:Nat):Prop where
 ne:it≠m
 ex:∃es clock l since seen c0,w.heap[m]? =some (.map es clock)/\nQ es.toList l/\(∀x,assoc x l=f x)/\(es.toList.map (·.born)).Nodup/\(l.map (·.1)).Nodup/\
  w.heap[it]? =some (.mapIter (some m) since seen c0)/\(∀e∈es.toList,e.born<since)/\since<=c0/\since<=clock/\(leftOf es seen).size=BT/\∀x,left x↔∃e∈es.toList,e.key=.agg x.1/\seen.contains e.born=false
section
variable{w w':World}{m it:Nat}{f:HT->Option Value}{left:HT->Prop}{BT:Nat}
theorem oZ.aJ{S:Nat->Prop}(h:oZ w m it f left BT)(hk:Kept S w w')(h1:¬S m)(h2:¬S it):oZ w' m it f left BT:=by
 obtain⟨es,clock,l,since,seen,c0,g1,g2,g3,g4,g5,g6,g7⟩:=h.ex;exact⟨h.ne,es,clock,l,since,seen,c0,hk.heap g1 h1,g2,g3,g4,g5,hk.heap g6 h2,g7⟩
theorem oZ.left_eq(h:oZ w m it f left BT):w.rangeLeft m it=BT:=by
 obtain⟨es,clock,l,since,seen,c0,g1,g2,g3,g4,g5,g6,g7,_,_,g8,_⟩:=h.ex;simp only [World.rangeLeft,g1,g6];exact g8
theorem oZ.lt(h:oZ w m it f left BT):it<w.heap.size:=by
 obtain⟨es,clock,l,since,seen,c0,g1,g2,g3,g4,g5,g6,_⟩:=h.ex;exact aY g6
theorem fU.range{mt te:TypeId}{z:Value}(T:xx mt te z)(h:fU w m f):∃w' BT,(Instr.range mt (.map (some m))).run prog w=.ok (.pointer (some ⟨w.heap.size,0,none⟩)) w'/\oZ w' m w.heap.size f (fun x=>f x≠none) BT/\Kept Nil w w':=by
 obtain⟨es,clock,l,g1,g2,g3,g4,g5,g6⟩:=h.ex;have dg:=h.lt;refine⟨w.alloc (.mapIter (some m) clock #[] clock),_,run_range_map w mt al te m es clock T.pz g1,⟨by omega,es,clock,l,clock,#[],clock,lu g1 _,g2,g3,g5,g6,aM w _,g4,Nat.le_refl _,Nat.le_refl _,rfl,fun x=>?_⟩,(Kept.refl _ _).alloc _⟩;rw [<-g3];constructor
 ·intro hx
  cases ha:assoc x l with
  |none=>exact absurd ha hx
  |some v=>
   obtain⟨j,hj⟩:=yq ha;obtain⟨e,he,hk,_⟩:=g2.get hj;exact⟨e,List.mem_of_getElem? he,hk,by simp⟩
 ·rintro⟨e,he,hk,_⟩
  obtain⟨j,hj⟩:=List.mem_iff_getElem?.1 he;obtain⟨⟨y,v⟩,hp,oV,_⟩:=g2.of hj;have:y=x:=zn (oV.symm.trans hk);subst this;rw [tG g6 hp];simp
theorem oZ.next(h:oZ w m it f left BT)(ty:TypeId):
 (BT=0/\(∀x,¬left x)/\(Instr.next (.pointer (some ⟨it,0,none⟩)) false ty).run prog w=.ok (.tuple #[.bool false]) w)\/
 ∃(x:HT) (v:Value) (w':World) (W8:Nat),left x/\f x=some v/\(Instr.next (.pointer (some ⟨it,0,none⟩)) false ty).run prog w=.ok (.tuple #[.bool true,.agg x.1,v]) w'/\
  (Instr.entry (.pointer (some ⟨it,0,none⟩))).run prog w'=.ok (.tuple #[.agg x.1,v]) w'/\oZ w' m it f (fun y=>left y/\y≠x) W8/\W8<BT/\Kept (· =it) w w':=by
 have fP:=h.ne;obtain⟨es,clock,l,since,seen,c0,g1,g2,g3,g4,g5,g6,g7,g8,g8',rfl,g9⟩:=h.ex;rcases run_next_at (P:=prog) w ty it m since c0 seen es clock g6 g1 g7 g8 with⟨h0,hr⟩|⟨e,he,w1,JZ,hr⟩
 ·refine .inl ⟨h0,fun x hx=>?_,hr⟩
  obtain⟨e,he,_,hs⟩:=(g9 x).1 hx;have hm:e∈leftOf es seen:=by
   unfold leftOf;rw [Array.mem_filter];exact⟨by simpa using he,by rw [hs];rfl⟩
  have:=Array.size_pos_of_mem hm;omega
 ·obtain⟨Yl,hes⟩:=mem_left he
  obtain⟨j,hj⟩:=List.mem_iff_getElem?.1 Yl;obtain⟨⟨x,v⟩,hp,hk,hv⟩:=g2.of hj;have hk:e.key=.agg x.1:=hk;have hv:e.val=v:=hv;rw [hk,hv]at hr;have abu:w1.heap[it]? =some (.mapIter (some m) since seen c0):=by rcases JZ with rfl|rfl<;>exact g6
  have Nt:w1.heap[m]? =some (.map es clock):=by rcases JZ with rfl|rfl<;>exact g1
  have Lm:(setBlock w1 it (.mapIter (some m) since (seen.push e.born) clock)).heap[it]? =some (.mapIter (some m) since (seen.push e.born) clock):=by
   have:=aY abu;simp [setBlock,this]
  have Ux:(setBlock w1 it (.mapIter (some m) since (seen.push e.born) clock)).heap[m]? =some (.map es clock):=by
   simp [setBlock,fP,Nt]
  have U9:Kept (· =it) w (setBlock w1 it (.mapIter (some m) since (seen.push e.born) clock)):=by
   have hd:w.drew.heap=w.heap:=rfl;rcases JZ with rfl|rfl
   ·exact⟨rfl,rfl,rfl,by simp [setBlock],fun k _ hk=>by simp [setBlock,Ne.symm hk]⟩
   ·exact⟨rfl,rfl,rfl,by simp [setBlock,hd],fun k _ hk=>by simp [setBlock,hd,Ne.symm hk]⟩
  refine .inr ⟨x,v,_,_,(g9 x).2 ⟨e,Yl,hk,hes⟩,by rw [<-g3];exact tG g5 hp,hr,?_,⟨fP,es,clock,l,since,seen.push e.born,clock,Ux,g2,g3,g4,g5,Lm,g7,g8',g8',rfl,fun y=>?_⟩,left_shrinks es seen e he,U9⟩
  ·have:=run_entry_at (P:=prog) _ it m since seen es clock e Lm Ux Yl g4
   rw [hk,hv]at this;exact this
  ·have Mn:∀ {e':MapEntry},e'∈es.toList->e'.born=e.born->e'=e:=fun {e'} LM hb=>by
    obtain⟨j',vN⟩:=List.mem_iff_getElem?.1 LM;have h1:(es.toList.map (·.born))[j']? =some e'.born:=by rw [List.getElem?_map,vN];rfl
    have h2:(es.toList.map (·.born))[j]? =some e.born:=by rw [List.getElem?_map,hj];rfl
    rw [hb]at h1;have g1:=lgeS h1;have g2:=lgeS h2;have:j'=j:=(List.getElem_inj g4).1 (g1.2.trans g2.2.symm);subst this;rw [hj]at vN;cases vN;rfl
   rw [g9];constructor
   ·rintro⟨⟨e',LM,oW,ot⟩,aba⟩
    refine⟨e',LM,oW,?_⟩;rw [contains_push,ot,Bool.false_or,beq_eq_false_iff_ne];intro hb;have:=Mn LM hb;subst this;exact aba (zn (oW.symm.trans hk))
   ·rintro⟨e',LM,oW,ot⟩
    rw [contains_push,Bool.or_eq_false_iff]at ot;refine⟨⟨e',LM,oW,ot.1⟩,fun Ev=>?_⟩;subst Ev;obtain⟨j',vN⟩:=List.mem_iff_getElem?.1 LM;obtain⟨⟨y',v'⟩,G5,oV,_⟩:=g2.of vN;have e1:y'=y:=zn (oV.symm.trans oW);subst e1;have h1:(l.map (·.1))[j']? =some y':=by rw [List.getElem?_map,G5];rfl
    have h2:(l.map (·.1))[j]? =some y':=by rw [List.getElem?_map,hp];rfl
    have g1:=lgeS h1;have g2:=lgeS h2;have:j'=j:=(List.getElem_inj g5).1 (g1.2.trans g2.2.symm);subst this;rw [hj]at vN;cases vN;simp at ot
end
end Go.Proofs.YtfleamccglihoaaGreatDoor
