import Derived.Test.YtnboahlopghcjaaGreatDoorMI
import Derived.Test.YtnboahlopghcjaaGreatDoorMG
import Derived.Test.YtnboahlopghcjaaGreatDoorMF
import Derived.Maps.Range
set_option linter.unusedVariables false
namespace Go.Proofs.YtnboahlopghcjaaGreatDoor
open Go.Proofs.Tryz
open Go Go.bS Go.RowKit
def JS(D:DG)(P:List Int)(l:List HT):Prop:=l.length=D.length/\ ∀(i j:Nat) (m:DN),P[i]? =some (j:Int)->D[j]? =some m->l[i]? =some m.id
structure oK(w:World)(F:Nat->Prop)(r:Nat)(D:DG)(P:List Int):Prop where
 ex: ∃(A:Option Addr) (c:Nat) (B:Option Addr) (e:Nat) (l:List HT),w.heap[r]? =some (.cells #[.slice A D.length c,.slice B D.length e] iQ (0,0))/\NS w F A D.length D/\HS w B D.length l/\(∀a,B=some a->F a.block)/\JS D P l
 gD: ¬F r
 jJ:qP D P
 W:jj D
section
variable{w w':World}{F F' S:Nat->Prop}{r:Nat}{D:DG}{P:List Int}{K:Value->World->Prop}
theorem oK.aD(h:oK w F r D P)(hk:Kept S w w')(hr: ¬S r)(hn: ∀k,F k-> ¬S k):oK w' F r D P:=by
 obtain⟨A,c,B,e,l,h1,h2,h3,h4,h5⟩:=h.ex;exact⟨⟨A,c,B,e,l,hk.heap h1 hr,h2.aD hk hn,h3.aD hk (fun a ha=>hn _ (h4 a ha)),h4,h5⟩,h.gD,h.jJ,h.W⟩
theorem oK.same(h:oK w F r D P)(hk:Kept Nil w w'):oK w' F r D P:=h.aD hk (fun h=>h) (fun _ _ h=>h)
theorem oK.lt(h:oK w F r D P):r<w.heap.size:=by obtain⟨A,c,B,e,l,h1,_⟩:=h.ex;exact aT h1
theorem oK.mono(h:oK w F r D P)(hf: ∀k,F k->F' k)(hr: ¬F' r):oK w F' r D P:=by
 obtain⟨A,c,B,e,l,h1,h2,h3,h4,h5⟩:=h.ex;exact⟨⟨A,c,B,e,l,h1,h2.mono hf,h3,fun a ha=>hf _ (h4 a ha),h5⟩,hr,h.jJ,h.W⟩
theorem oK.gr(h:oK w F r D P):sN w F r D:=by
 obtain⟨A,c,B,e,l,h1,h2,_⟩:=h.ex;exact⟨⟨A,c,_,_,h1,rfl,h2⟩,h.gD⟩
theorem OC(W:jj D){j:Nat}{nd:DN}(h:D[j]? =some nd):EM D nd.id=(j:Int):=by unfold EM;rw [W.pos_eq h]
end
end Go.Proofs.YtnboahlopghcjaaGreatDoor
namespace Go.Proofs.YtnboahlopghcjaaGreatDoor
open Go.Proofs.Tryz
open Go Go.bS Go.RowKit
theorem Wq(w:World)(r j:Nat)(v:Value):setCells w ((⟨r,0,none⟩:Addr).add j) [v] 0=w.setCell ⟨r,j,none⟩ v:=by
 simp only [setCells];rw [a8,a8,Nat.add_zero,Nat.zero_add]
theorem gY{v:World}{b:Nat}{z:Array Value}{t:TypeId}(s:HT)(h:v.heap[b]? =some (.cells z t (0,0)))(hz:z.size=32):
 (s.1.size=32/\(∀c∈s.1.toList,c.oneCell'=true)/\ ∀j,j<32->Wr v ((⟨b,0,none⟩:Addr).add j))/\(setCells v (⟨b,0,none⟩:Addr) s.1.toList 0).heap[b]? =some (.cells s.1 t (0,0))/\Kept (· =b) v (setCells v (⟨b,0,none⟩:Addr) s.1.toList 0):=by
 obtain⟨h1,h2,h3⟩:=dH h (cs:=s.1) (by rw [s.2.1];exact hz);exact⟨⟨s.2.1,s.2.one,fun j hj=>h1 j (by rw [s.2.1];exact hj)⟩,h2,h3⟩
theorem qP.one(r:HT):qP [⟨r,[]⟩] [-1]:=⟨rfl,rfl,fun i p nd hi hp=>by
 cases i with
 |zero=>omega
 |succ i=>simp at hp⟩
section
variable{w w':World}{F F' S:Nat->Prop}{r:Nat}{D:DG}{P:List Int}{K:Value->World->Prop}
theorem wI(root:HT)(hK: ∀v r F,oK v F r [⟨root,[]⟩] [-1]->(∀k,F k->w.heap.size<=k/\k<v.heap.size)->w.heap.size<=r->Kept Nil w v->K (.pointer (some ⟨r,0,none⟩)) v):
 bk prog jl.id #[.agg root.1] w K:=by
 refine jl.of ?_;unfold jl.W;intro w2;have k2:Kept Nil w w2:=(Kept.refl _ _).alloc _;have lK:w2.heap[w.heap.size]? =some (.cells root.1 ai (0,0)):=aH w _;clear_value w2;have kR:(root.1.push (.slice none 0 0)).size=33:=by rw [Array.size_push,root.2.1]
 refine⟨root.1,⟨root.2.1,Cells.bA lK⟩,?_⟩;rw [Hi];refine Is.mk rfl ⟨kR,?_⟩;intro w5;have h5:w5.heap[w2.heap.size]? =some (.cells (root.1.push (.slice none 0 0)) bI (0,0)):=by
  have:=aH w2 (.cells (root.1.push (.slice none 0 0)) bI);show(w2.alloc (.cells ((root.1.push (.slice none 0 0)).toList++ []).toArray bI)).heap[w2.heap.size]? =_;rw [List.append_nil,Array.toArray_toList];exact this
 have k5:Kept Nil w2 w5:=(Kept.refl _ _).alloc _;clear_value w5;refine⟨rfl,?_⟩;intro w6;have h6:w6.heap[w5.heap.size]? =some (.cells de.1 ai (0,0)):=aH w5 _;have k6:Kept Nil w5 w6:=(Kept.refl _ _).alloc _;clear_value w6;intro w7;have h7:w7.heap[w6.heap.size]? =some (.cells #[.slice (some ⟨w2.heap.size,0,none⟩) 1 1,.slice (some ⟨w5.heap.size,0,none⟩) 1 1] iQ (0,0)):=aH w6 _;have k7:Kept Nil w6 w7:=(Kept.refl _ _).alloc _;clear_value w7;have s2:=k2.size;have s5:=k5.size;have s6:=k6.size;have l5:=aT h5;have l6:=aT h6;have h57:=k7.heap (k6.heap h5 (fun h=>h)) (fun h=>h);have h67:=k7.heap h6 (fun h=>h);have l67:=aT h67;refine hK w7 _ (fun k=>k=w2.heap.size\/k=w5.heap.size) ⟨⟨_,_,_,_,[de],h7,⟨rfl,fun i nd hi=>?_⟩,HS.one h67,fun a ha=>by cases ha;exact .inr rfl,⟨rfl,fun i j m hi hj=>?_⟩⟩,fun e=>by omega,qP.one root,jj.root root⟩ (fun k e=>by omega) (by omega) (((k2.trans k5 (fun _ _ h=>h)).trans k6 (fun _ _ h=>h)).trans k7 (fun _ _ h=>h))
 ·cases i with
  |zero=>
   simp at hi;subst hi;refine⟨_,none,0,0,rfl,aT h57,.inl rfl,fun j u hj=>?_,HS.nil _ _,fun b hb=>by cases hb⟩;rw [Nat.zero_mul,add_zero,a8,Nat.zero_add,ax h57];exact hj
  |succ i=>simp at hi
 ·cases i with
  |zero=>simp at hi
  |succ i=>simp at hi
theorem JS.snoc{l:List HT}(h:JS D P l)(hs:qP D P)(W:jj D){nd:DN}{j:Nat}{mj:DN}(hj:D[j]? =some mj):JS (D++ [nd]) (P++ [(j:Int)]) (l++ [mj.id]):=by
 have sY:=(List.getElem?_eq_some_iff.1 hj).1;refine⟨by simp [h.1],fun i k m hi hm=>?_⟩;by_cases dN:i<P.length
 ·rw [List.getElem?_append_left dN]at hi
  have YX:i<D.length:=by rw [<-hs.len];exact dN
  rw [List.getElem?_append_left (by rw [h.1];exact YX)];have kO:=hs.par;have hk:k<D.length:=by
   rcases Nat.eq_zero_or_pos i with rfl|h0
   ·rw [kO.root]at hi;simp only [Option.some.injEq]at hi;omega
   ·obtain⟨j',h1,h2⟩:=kO.up i _ h0 hi
    omega
  rw [List.getElem?_append_left hk]at hm;exact h.2 i k m hi hm
 ·have YW:=(List.getElem?_eq_some_iff.1 hi).1
  have e:i=P.length:=by simp at YW;omega
  subst e;simp at hi;have:k=j:=by omega
  subst this;rw [List.getElem?_append_left sY,hj]at hm;cases hm;rw [hs.len,<-h.1];simp
theorem Dm(H:oK w F r D P)(hF: ∀k,F k->k<w.heap.size)(hD:D.length<=5000){h s:HT}{lp:List HT}{A:Option Addr}{n c:Nat}(hl:HS w A n lp)(hn:n<=100000)
 (hK: ∀w',oK w' (fun k=>F k\/(w.heap.size<=k/\k<w'.heap.size)) r (mz D h s lp) (mw D P h s lp)->Kept (· =r) w w'->K (.int .i64 (fZ D h s lp)) w'):
 bk prog eQ.id #[.pointer (some ⟨r,0,none⟩),.agg h.1,.agg s.1,.slice A n c] w K:=by
 have XT:=H.lt;have W:=H.W;have mo: ∀w',Kept Nil w w'-> ∀e,fZ D h s lp=e->e≠0->K (.int .i64 e) w':=fun w' k e he fE=>by
  have:=hK w' ?_ (k.mono fun _ _ h=>h.elim)
  ·rw [he]at this;exact this
  ·unfold mz mw
   rw [if_neg (by rw [he];exact fE),if_neg (by rw [he];exact fE)];exact(H.same k).mono (fun _ h=>.inl h) (fun e=>e.elim H.gD (fun h=>by omega))
 refine eQ.of ?_;unfold eQ.W;intro w5 w6;have k5:Kept Nil w w5:=(Kept.refl _ _).alloc _;have Ji:w5.heap[w.heap.size]? =some (.cells h.1 ai (0,0)):=aH w _;have k6:Kept Nil w5 w6:=(Kept.refl _ _).alloc _;have IZ:w6.heap[w5.heap.size]? =some (.cells s.1 ai (0,0)):=aH w5 _;clear_value w6;have Vk:=k6.heap Ji (fun h=>h);have oV:=k5.trans k6 (fun _ _ h=>h);have s5:=k5.size;have s6:=k6.size;have l5:=aT Ji;have l6:=aT IZ;clear_value w5;obtain⟨A0,c0,B0,e0,sl,iB,r8,Cl,hB0,Z2⟩:=H.ex;have Rl:=oV.heap iB (fun h=>h);refine Is.mk rfl ⟨#[.slice A0 D.length c0],⟨rfl,fun j v hj=>?_⟩,?_⟩
 ·cases j with
  |zero=>
   rw [add_zero,add_zero,ax Rl];simpa using hj
  |succ j=>simp at hj
 intro w9;have h9:w9.heap[w6.heap.size]? =some (.cells #[.slice none 0 0] gF (0,0)):=aH w6 _;have k9:Kept Nil w6 w9:=(Kept.refl _ _).alloc _;clear_value w9;obtain⟨g1,g2,g3⟩:=dH h9 (cs:= #[.slice A0 D.length c0]) rfl;refine⟨⟨rfl,fun u hu=>?_,fun j hj=>g1 j hj⟩,?_⟩
 ·simp at hu
  subst hu;rfl
 intro lF
 replace g2:lF.heap[w6.heap.size]? =some (.cells #[.slice A0 D.length c0] gF (0,0)):=g2
 replace g3:Kept (· =w6.heap.size) w9 lF:=g3
 clear_value lF;have Ac:Kept Nil w6 lF:=k9.trans g3 (fun k hk e=>by omega);have rh:=oV.trans Ac (fun _ _ h=>h);refine⟨h.1,⟨h.2.1,Cells.bA (Ac.heap Vk (fun h=>h))⟩,?_⟩;have hR:sN lF F w6.heap.size D:=⟨⟨A0,c0,_,_,g2,rfl,r8.same rh⟩,fun e=>by have:=hF _ e;omega⟩;have s12:=rh.size;refine BQ hR W (by omega) (hl.same rh) (by omega) fun lZ TS rX=>⟨_,rfl,?_⟩;have MB:Kept Nil w lZ:=rh.trans rX (fun k hk e=>by omega);by_cases hC:dg D h lp≠0
 ·refine Split.yes (by simpa using hC) ?_
  refine mo lZ MB _ ?_ hC;unfold fZ;rw [if_neg hC]
 replace hC:=Classical.not_not.1 hC
 refine Split.no (by rw [hC];rfl) ?_;have Rs:lZ.heap[w5.heap.size]? =some (.cells s.1 ai (0,0)):=rX.heap (Ac.heap IZ (fun h=>h)) (by omega);refine⟨s.1,⟨s.2.1,Cells.bA Rs⟩,wF s (hl.same MB) (by omega) fun nI vW=>⟨_,rfl,?_⟩⟩;have Gc:=MB.trans vW (fun _ _ h=>h);by_cases uO: ¬s∈lp
 ·refine Split.yes (by rw [decide_eq_false uO];rfl) ?_
  refine mo nI Gc 2 ?_ (by omega);unfold fZ;rw [if_pos hC,if_neg uO]
 replace uO:=Classical.not_not.1 uO
 refine Split.no (by rw [decide_eq_true uO];rfl) ?_;have eX:fZ D h s lp=0:=by unfold fZ;rw [if_pos hC,if_pos uO]
 obtain⟨fh,fE,fy,cP⟩:=jQ hC;obtain⟨mj,Nj,K0⟩:=dI.1 (cP s (dv.2 uO));obtain⟨j,hj⟩:=List.mem_iff_getElem?.1 Nj;have eP:mw D P h s lp=P++ [(j:Int)]:=by
  unfold mw;rw [if_pos eX,<-K0,W.pos_eq hj];rfl
 have eD:mz D h s lp=D++ [⟨h,df lp⟩]:=by unfold mz;rw [if_pos eX]
 rw [oI hC]at TS;obtain⟨A1,c1,cs1,t1,h1,Tf,RV⟩:=(TS.same vW).ex;rw [List.length_append,List.length_singleton]at RV Tf;have NH:nI.cell? (⟨w6.heap.size,0,none⟩:Addr)=some (.slice A1 (D.length+1) c1):=by rw [ax h1];exact Tf
 have sz1:=Gc.size;have Gl:=Gc.heap iB (fun h=>h);refine⟨#[.slice A1 (D.length+1) c1],⟨rfl,fun i v hi=>?_⟩,Is.mk rfl ⟨⟨rfl,fun u hu=>?_,fun i hi=>?_⟩,?_⟩⟩
 ·cases i with
  |zero=>
   rw [add_zero,NH];simpa using hi
  |succ i=>simp at hi
 ·simp at hu
  subst hu;rfl
 ·have:i=0:=by omega
  subst this;rw [add_zero,add_zero];exact dO Gl (by simp)
 intro UL pr;have XA:UL.heap[r]? =some (.cells #[.slice A1 (D.length+1) c1,.slice B0 D.length e0] iQ (0,0)):=by
  show(setCells nI ((⟨r,0,none⟩:Addr).add 0) [.slice A1 (D.length+1) c1] 0).heap[r]? =_;rw [Wq,cR Gl];rfl
 have FW:Kept (· =r) nI UL:=by
  show Kept (· =r) nI (setCells nI ((⟨r,0,none⟩:Addr).add 0) [.slice A1 (D.length+1) c1] 0)
  rw [add_zero];exact fL _ _ _ _
 have DK:Kept Nil UL pr:=(Kept.refl _ _).drew;clear_value pr UL;have MV:=DK.heap XA (fun h=>h);have vV:Kept (· =r) nI pr:=FW.trans DK (fun _ _ h=>h.elim);have KJ:HS pr B0 D.length sl:=(Cl.same Gc).aD vV (fun a ha e=>H.gD (e▸hB0 a ha));have Gq:pr.heap[w5.heap.size]? =some (.cells s.1 ai (0,0)):=vV.heap (vW.heap Rs (fun h=>h)) (fun e=>by omega);refine Is.mk rfl ⟨B0,D.length,e0,by rw [a8,ax MV];rfl,s.1,⟨s.2.1,Cells.bA Gq⟩,?_⟩;have fin: ∀(v:World) (A2:Option Addr) (c2:Nat),Kept Nil pr v->bQ v pr.heap.size A2 (D.length+1) c2 (sl++ [s])->
  Is (some (⟨r,0,none⟩:Addr)) fun a=>Wr v (a.add 1)/\K (.int .i64 0) (v.setCell (a.add 1) (.slice A2 (D.length+1) c2)):=fun v A2 c2 kv row=>by
  refine Is.mk rfl ?_;rw [a8];have hv:=kv.heap MV (fun h=>h);have kf:Kept (· =r) v (v.setCell ⟨r,0+1,none⟩ (.slice A2 (D.length+1) c2)):=Kept.setCell (S:=fun k=>k=r) (Kept.refl _ v) (p:=⟨r,0+1,none⟩) (fun _=>rfl) _;refine⟨dO hv (by simp),?_⟩;have jW:Kept (· =r) w (v.setCell ⟨r,0+1,none⟩ (.slice A2 (D.length+1) c2)):=(((Gc.mono (S':=(· =r)) (fun _ _ h=>h.elim)).trans vV (fun _ _ h=>h)).trans kv (fun _ _ h=>h.elim)).trans kf (fun _ _ h=>h);have:=hK (v.setCell ⟨r,0+1,none⟩ (.slice A2 (D.length+1) c2)) ?_ jW
  ·rw [eX]at this
   exact this
  rw [eD,eP];have hbA: ∀b,bg A2=some b->pr.heap.size<=b/\b<v.heap.size:=fun b hb=>by
   obtain⟨q1,cur,q2⟩:=Row.bA row hb;exact⟨q1,aT q2⟩
  have s26:=vV.size;have sv:=kv.size;have sf:=kf.size;have ab4:Kept (· =r) lZ pr:=(vW.mono (S':=(· =r)) (fun _ _ h=>h.elim)).trans vV (fun _ _ h=>h);refine⟨⟨A1,c1,A2,c2,sl++ [s],?_,?_,?_,fun a ha=>.inr ?_,?_⟩,fun e=>e.elim H.gD (fun e=>by omega),H.jJ.snoc hj (by rw [K0];exact dv.2 uO) (by have:=(List.getElem?_eq_some_iff.1 hj).1;omega),W.snoc fh cP (ig lp)⟩
  ·rw [List.length_append,List.length_singleton,cR hv]
   rfl
  ·rw [List.length_append,List.length_singleton]
   have nh:Kept (· =r) nI (v.setCell ⟨r,0+1,none⟩ (.slice A2 (D.length+1) c2)):=(vV.trans kv (fun _ _ h=>h.elim)).trans kf (fun _ _ h=>h);refine(RV.aD nh fun k hk e=>?_).mono fun k hk=>?_
   ·rcases hk with hk|hk
    ·exact H.gD (e▸hk)
    ·omega
   ·rcases hk with hk|hk
    ·exact .inl hk
    ·have:=vW.size
     exact .inr ⟨by omega,by omega⟩
  ·rw [List.length_append,List.length_singleton]
   exact(bQ.hs row).aD kf (fun a ha e=>by have:=hbA a.block (by rw [ha];rfl);omega)
  ·have:=hbA a.block (by rw [ha];rfl)
   exact⟨by omega,by omega⟩
  ·rw [<-K0]
   exact Z2.snoc H.jJ W hj
 have lY: ∀ {u:World},Kept Nil pr u-> ∃cs:Array Value,(.agg s.1:Value)=.agg cs/\cs.size=32/\Cells u (⟨w5.heap.size,0,none⟩:Addr) cs:=fun k=>⟨s.1,rfl,s.2.1,Cells.bA (k.heap Gq (fun h=>h))⟩;refine⟨?_,?_⟩
 ·obtain⟨A3,c3,EZ,RB,BM,Zc,Tz⟩:=cD (cx:=e0) ay (bQ.nil pr pr.heap.size) KJ (by omega) (Nat.le_refl _)
  rw [Nat.zero_add]at RB BM;rw [List.nil_append]at BM;have Ko:Kept Nil pr EZ:=Kept.dw (Kept.refl _ _) Zc (fun k hk=>by cases hk);refine⟨A3,_,c3,EZ,RB,lY Ko,s.2.1,?_⟩;intro sP;have EA:Kept Nil EZ sP:=(Kept.refl _ _).alloc _;have Xs:HS sP (some ⟨EZ.heap.size,0,none⟩) 1 [s]:=iW EZ s;clear_value sP;have s32:=EA.size;have s31:=Ko.size;obtain⟨A4,c4,mG,I1,xU,NF,Ty⟩:=cD (cx:=1) ay (Row.aD BM EA (fun _ _ h=>h)) Xs (by omega) (by omega);have yr:Kept Nil pr mG:=Kept.dw (Ko.trans EA (fun _ _ h=>h)) NF (fun k hk=>(Row.bA BM hk).1);exact⟨A4,_,c4,mG,I1,fin mG A4 c4 yr xU⟩
 ·refine⟨s.2.1,?_⟩
  intro vB;have DJ:Kept Nil pr vB:=(Kept.refl _ _).alloc _;have Xr:HS vB (some ⟨pr.heap.size,0,none⟩) 1 [s]:=iW pr s;clear_value vB;have s37:=DJ.size;refine⟨by rw [a8,ax (DJ.heap MV (fun h=>h))];rfl,?_⟩;obtain⟨A3,c3,Ex,RA,BL,Zb,Jr⟩:=cD (cx:=e0) ay (bQ.nil vB vB.heap.size) (KJ.same DJ) (by omega) (Nat.le_refl _);rw [Nat.zero_add]at RA BL;rw [List.nil_append]at BL;have FU:Kept Nil vB Ex:=Kept.dw (Kept.refl _ _) Zb (fun k hk=>by cases hk);have s39:=FU.size;obtain⟨A4,c4,Bz,X3,JZ,Za,Tw⟩:=cD (cx:=1) ay BL (Xr.same FU) (by omega) (by omega);have Mq:Kept Nil vB Bz:=Kept.dw FU Za (fun k hk=>(Row.bA BL hk).1);exact⟨A3,_,c3,Ex,RA,A4,_,c4,Bz,X3,fin Bz A4 c4 (DJ.trans Mq (fun _ _ h=>h)) (Row.base JZ (fun k hk=>by have:=(Row.bA JZ hk).1;omega))⟩
end
end Go.Proofs.YtnboahlopghcjaaGreatDoor
namespace Go.Proofs.YtnboahlopghcjaaGreatDoor
open Go.Proofs.Tryz
open Go Go.bS Go.RowKit
section
variable{w w' v:World}{F FP FR S S2 F2:Nat->Prop}{x r:Nat}{D D':DG}{P P':List Int}{K:Value->World->Prop}
theorem zT(h:Br w S F x D P)(hD:D.length<=5000)(hT:rI w)(HW: ¬S (Tryz.iZ.g 1)){A:Option Addr}{n cx:Nat}{lp:List HT}(hl:HS w A n lp)(hn:n<=5000)(hid s:HT)
 (hK: ∀u S' F',Br u S' F' x (mz D hid s lp) (mw D P hid s lp)->Kept S w u->(∀k,S' k->S k\/w.heap.size<=k)->(∀k,F' k->F k\/w.heap.size<=k)->K (.int .i64 (fZ D hid s lp)) u):
 bk prog az.id #[.pointer (some ⟨x,0,none⟩),.agg hid.1,.agg s.1,.slice A n cx] w K:=by
 obtain⟨m,h1,h2⟩:=h;refine Dn h1 hD hT (fun e=>HW (h2 _ (.inl e))) hl hn hid s (fun u k hc=>?_) (fun u S' F' hI k hS hF hc=>?_)
 ·refine hK u S F ?_ (k.mono fun _ _ h=>h.elim) (fun k h=>.inl h) (fun k h=>.inl h)
  unfold mz mw;rw [if_neg hc,if_neg hc];exact⟨m,h1.same k,h2⟩
 ·have:=hK u S' F' hI (k.mono fun k _ h=>h2 k h) (fun k h=>(hS k h).imp (h2 k) (fun h=>h)) hF
  rw [hc]at this;exact this
end
end Go.Proofs.YtnboahlopghcjaaGreatDoor
namespace Go.Proofs.YtnboahlopghcjaaGreatDoor
open Go.Proofs.Tryz
open Go Go.bS Go.RowKit
open Tr (js)
theorem four(w:World)(r a b c:HT):
 let w1:=w.alloc (.cells de.1 ai);let w2:=w1.alloc (.cells de.1 ai);let w3:=w2.alloc (.cells de.1 ai);let w4:=w3.alloc (.cells de.1 ai)
 let w7:=setCells w4 (⟨w.heap.size,0,none⟩:Addr) r.1.toList 0;let w10:=setCells w7 (⟨w1.heap.size,0,none⟩:Addr) a.1.toList 0;let kr:=setCells w10 (⟨w2.heap.size,0,none⟩:Addr) b.1.toList 0;let je:=setCells kr (⟨w3.heap.size,0,none⟩:Addr) c.1.toList 0
 ((∀j,j<32->Wr w4 ((⟨w.heap.size,0,none⟩:Addr).add j))/\(∀j,j<32->Wr w7 ((⟨w1.heap.size,0,none⟩:Addr).add j))/\(∀j,j<32->Wr w10 ((⟨w2.heap.size,0,none⟩:Addr).add j))/\(∀j,j<32->Wr kr ((⟨w3.heap.size,0,none⟩:Addr).add j)))/\
 je.heap[w.heap.size]? =some (.cells r.1 ai (0,0))/\je.heap[w1.heap.size]? =some (.cells a.1 ai (0,0))/\je.heap[w2.heap.size]? =some (.cells b.1 ai (0,0))/\je.heap[w3.heap.size]? =some (.cells c.1 ai (0,0))/\
 w.heap.size<w1.heap.size/\w1.heap.size<w2.heap.size/\w2.heap.size<w3.heap.size/\w3.heap.size<je.heap.size/\Kept Nil w je:=by
 intro w1 w2 w3 w4;have U0:Kept Nil w w1:=(Kept.refl _ _).alloc _;have Ae:Kept Nil w1 w2:=(Kept.refl _ _).alloc _;have yu:Kept Nil w2 w3:=(Kept.refl _ _).alloc _;have IL:Kept Nil w3 w4:=(Kept.refl _ _).alloc _;have kF:w1.heap[w.heap.size]? =some (.cells de.1 ai (0,0)):=aH w _;have ha2:w2.heap[w1.heap.size]? =some (.cells de.1 ai (0,0)):=aH w1 _;have oZ:w3.heap[w2.heap.size]? =some (.cells de.1 ai (0,0)):=aH w2 _;have NO:w4.heap[w3.heap.size]? =some (.cells de.1 ai (0,0)):=aH w3 _;clear_value w4;have qN:=IL.heap oZ (fun h=>h);have vn:=IL.heap (yu.heap ha2 (fun h=>h)) (fun h=>h);have uP:=IL.heap (yu.heap (Ae.heap kF (fun h=>h)) (fun h=>h)) (fun h=>h);have l1:=aT kF;have l2:=aT ha2;have l3:=aT oZ;have l4:=aT NO;clear_value w3 w2 w1;have FJ:Kept Nil w w4:=((U0.trans Ae (fun _ _ h=>h)).trans yu (fun _ _ h=>h)).trans IL (fun _ _ h=>h);have sz: ∀h:HT,de.1.size=h.1.size:=fun h=>by rw [h.2.1];rfl
 obtain⟨wr7,ED,k7⟩:=dH uP (cs:=r.1) (sz r);rw [r.2.1]at wr7;intro w7
 replace ED:w7.heap[w.heap.size]? =some (.cells r.1 ai (0,0)):=ED
 replace k7:Kept (· =w.heap.size) w4 w7:=k7
 clear_value w7;obtain⟨PS,Oe,nv⟩:=dH (k7.heap vn (by omega)) (cs:=a.1) (sz a);rw [a.2.1]at PS;intro w10
 replace Oe:w10.heap[w1.heap.size]? =some (.cells a.1 ai (0,0)):=Oe
 replace nv:Kept (· =w1.heap.size) w7 w10:=nv
 clear_value w10;obtain⟨PR,sD,sV⟩:=dH (nv.heap (k7.heap qN (by omega)) (by omega)) (cs:=b.1) (sz b);rw [b.2.1]at PR;intro kr
 replace sD:kr.heap[w2.heap.size]? =some (.cells b.1 ai (0,0)):=sD
 replace sV:Kept (· =w2.heap.size) w10 kr:=sV
 clear_value kr;obtain⟨PQ,Jq,mX⟩:=dH (sV.heap (nv.heap (k7.heap NO (by omega)) (by omega)) (by omega)) (cs:=c.1) (sz c);rw [c.2.1]at PQ;intro je
 replace Jq:je.heap[w3.heap.size]? =some (.cells c.1 ai (0,0)):=Jq
 replace mX:Kept (· =w3.heap.size) kr je:=mX
 clear_value je;have UM:=aT Jq;exact⟨⟨wr7,PS,PR,PQ⟩,mX.heap (sV.heap (nv.heap ED (by omega)) (by omega)) (by omega),mX.heap (sV.heap Oe (by omega)) (by omega),mX.heap sD (by omega),Jq,by omega,by omega,by omega,UM,
  (((FJ.trans k7 (fun k hk e=>by omega)).trans nv (fun k hk e=>by omega)).trans sV (fun k hk e=>by omega)).trans mX (fun k hk e=>by omega)⟩
section
variable{r a b c:HT}(DV:r≠a)(yD:r≠b)(KO:r≠c)(lr:a≠b)(Ln:a≠c)(GR:b≠c)
end
section
variable{w w':World}{K:Value->World->Prop}
end
end Go.Proofs.YtnboahlopghcjaaGreatDoor
namespace Go.Proofs.YtnboahlopghcjaaGreatDoor
open Go.Proofs.Tryz
open Go Go.bS Go.RowKit
open Go.ChangeMaps (setBlock)
theorem rD{x:HT}{v:Value}: ∀ {l:List (HT×Value)} {j:Nat},(l.map (·.1)).Nodup->l[j]? =some (x,v)->assoc x l=some v
 | [],_,_,h=>by simp at h
 |(y,u)::l,0,_,h=>by
  simp at h;obtain⟨rfl,rfl⟩:=h;unfold assoc;rw [if_pos rfl]
 |(y,u)::l,j+1,hn,h=>by
  simp only [List.map_cons,List.nodup_cons]at hn;have hm:x∈l.map (·.1):=List.mem_map.2 ⟨(x,v),List.mem_of_getElem? (i:=j) (by simpa using h),rfl⟩;unfold assoc;rw [if_neg (fun e:x=y=>hn.1 (by rw [<-e];exact hm))];exact rD hn.2 (j:=j) (by simpa using h)
theorem wq{x:HT}{v:Value}: ∀ {l:List (HT×Value)},assoc x l=some v-> ∃j:Nat,l[j]? =some (x,v)
 | [],h=>by simp [assoc]at h
 |(y,u)::l,h=>by
  unfold assoc at h;split at h
  ·rename_i e
   subst e;cases h;exact⟨0,rfl⟩
  ·obtain⟨j,hj⟩:=wq h
   exact⟨j+1,by simpa using hj⟩
theorem lX.of{es:List MapEntry}{l:List (HT×Value)}(h:lX es l){j:Nat}{e:MapEntry}(he:es[j]? =some e): ∃p,l[j]? =some p/\e.key=.agg p.1.1/\e.val=p.2:=by
 have hlen:=h.len;have hj:=(List.getElem?_eq_some_iff.1 he).1;obtain⟨p,hp⟩: ∃p,l[j]? =some p:=⟨_,List.getElem?_eq_getElem (by omega)⟩;obtain⟨e',g1,g2,g3⟩:=h.get hp;rw [he]at g1;cases g1;exact⟨p,hp,g2,g3⟩
theorem xi{x y:HT}(h:(Value.agg x.1:Value)=.agg y.1):x=y:=by
 cases h':x;cases VH:y
 simp_all
structure nt(w:World)(m it:Nat)(f:HT->Option Value)(left:HT->Prop)(zx:Nat):Prop where
 ne:it≠m
 ex: ∃es clock l since seen c0,w.heap[m]? =some (.map es clock)/\lX es.toList l/\(∀x,assoc x l=f x)/\(es.toList.map (·.born)).Nodup/\(l.map (·.1)).Nodup/\
  w.heap[it]? =some (.mapIter (some m) since seen c0)/\(∀e∈es.toList,e.born<since)/\since<=c0/\since<=clock/\(leftOf es seen).size=zx/\ ∀x,left x↔ ∃e∈es.toList,e.key=.agg x.1/\seen.contains e.born=false
section
variable{w w':World}{m it:Nat}{f:HT->Option Value}{left:HT->Prop}{zx:Nat}
theorem nt.aD{S:Nat->Prop}(h:nt w m it f left zx)(hk:Kept S w w')(h1: ¬S m)(h2: ¬S it):nt w' m it f left zx:=by
 obtain⟨es,clock,l,since,seen,c0,g1,g2,g3,g4,g5,g6,g7⟩:=h.ex;exact⟨h.ne,es,clock,l,since,seen,c0,hk.heap g1 h1,g2,g3,g4,g5,hk.heap g6 h2,g7⟩
theorem nt.left_eq(h:nt w m it f left zx):w.rangeLeft m it=zx:=by
 obtain⟨es,clock,l,since,seen,c0,g1,g2,g3,g4,g5,g6,g7,_,_,g8,_⟩:=h.ex;simp only [World.rangeLeft,g1,g6];exact g8
theorem nt.lt(h:nt w m it f left zx):it<w.heap.size:=by
 obtain⟨es,clock,l,since,seen,c0,g1,g2,g3,g4,g5,g6,_⟩:=h.ex;exact aT g6
theorem fc.range{mt te:TypeId}{z:Value}(T:vz mt te z)(h:fc w m f): ∃w' zx,(Instr.range mt (.map (some m))).run prog w=.ok (.pointer (some ⟨w.heap.size,0,none⟩)) w'/\nt w' m w.heap.size f (fun x=>f x≠none) zx/\Kept Nil w w':=by
 obtain⟨es,clock,l,g1,g2,g3,g4,g5,g6⟩:=h.ex;have cH:=h.lt;refine⟨w.alloc (.mapIter (some m) clock #[] clock),_,run_range_map w mt ai te m es clock T.nJ g1,⟨by omega,es,clock,l,clock,#[],clock,jA g1 _,g2,g3,g5,g6,aH w _,g4,Nat.le_refl _,Nat.le_refl _,rfl,fun x=>?_⟩,(Kept.refl _ _).alloc _⟩;rw [<-g3];constructor
 ·intro hx
  cases ha:assoc x l with
  |none=>exact absurd ha hx
  |some v=>
   obtain⟨j,hj⟩:=wq ha;obtain⟨e,he,hk,_⟩:=g2.get hj;exact⟨e,List.mem_of_getElem? he,hk,by simp⟩
 ·rintro⟨e,he,hk,_⟩
  obtain⟨j,hj⟩:=List.mem_iff_getElem?.1 he;obtain⟨⟨y,v⟩,hp,mZ,_⟩:=g2.of hj;have:y=x:=xi (mZ.symm.trans hk);subst this;rw [rD g6 hp];simp
theorem nt.next(h:nt w m it f left zx)(ty:TypeId):
 (zx=0/\(∀x,¬left x)/\(Instr.next (.pointer (some ⟨it,0,none⟩)) false ty).run prog w=.ok (.tuple #[.bool false]) w)\/
 ∃(x:HT) (v:Value) (w':World) (Ul:Nat),left x/\f x=some v/\(Instr.next (.pointer (some ⟨it,0,none⟩)) false ty).run prog w=.ok (.tuple #[.bool true,.agg x.1,v]) w'/\
  (Instr.entry (.pointer (some ⟨it,0,none⟩))).run prog w'=.ok (.tuple #[.agg x.1,v]) w'/\nt w' m it f (fun y=>left y/\y≠x) Ul/\Ul<zx/\Kept (· =it) w w':=by
 have fE:=h.ne;obtain⟨es,clock,l,since,seen,c0,g1,g2,g3,g4,g5,g6,g7,g8,g8',rfl,g9⟩:=h.ex;rcases run_next_at (P:=prog) w ty it m since c0 seen es clock g6 g1 g7 g8 with⟨h0,hr⟩|⟨e,he,w1,HL,hr⟩
 ·refine .inl ⟨h0,fun x hx=>?_,hr⟩
  obtain⟨e,he,_,hs⟩:=(g9 x).1 hx;have hm:e∈leftOf es seen:=by
   unfold leftOf;rw [Array.mem_filter];exact⟨by simpa using he,by rw [hs];rfl⟩
  have:=Array.size_pos_of_mem hm;omega
 ·obtain⟨Vl,Zk⟩:=mem_left he
  obtain⟨j,hj⟩:=List.mem_iff_getElem?.1 Vl;obtain⟨⟨x,v⟩,hp,hk,hv⟩:=g2.of hj;have hk:e.key=.agg x.1:=hk;have hv:e.val=v:=hv;rw [hk,hv]at hr;have YU:w1.heap[it]? =some (.mapIter (some m) since seen c0):=by rcases HL with rfl|rfl<;>exact g6
  have K1:w1.heap[m]? =some (.map es clock):=by rcases HL with rfl|rfl<;>exact g1
  have IY:(setBlock w1 it (.mapIter (some m) since (seen.push e.born) clock)).heap[it]? =some (.mapIter (some m) since (seen.push e.born) clock):=by
   have:=aT YU;simp [setBlock,this]
  have RQ:(setBlock w1 it (.mapIter (some m) since (seen.push e.born) clock)).heap[m]? =some (.map es clock):=by
   simp [setBlock,fE,K1]
  have Ss:Kept (· =it) w (setBlock w1 it (.mapIter (some m) since (seen.push e.born) clock)):=by
   have hd:w.drew.heap=w.heap:=rfl;rcases HL with rfl|rfl
   ·exact⟨rfl,rfl,rfl,by simp [setBlock],fun k _ hk=>by simp [setBlock,Ne.symm hk]⟩
   ·exact⟨rfl,rfl,rfl,by simp [setBlock,hd],fun k _ hk=>by simp [setBlock,hd,Ne.symm hk]⟩
  refine .inr ⟨x,v,_,_,(g9 x).2 ⟨e,Vl,hk,Zk⟩,by rw [<-g3];exact rD g5 hp,hr,?_,⟨fE,es,clock,l,since,seen.push e.born,clock,RQ,g2,g3,g4,g5,IY,g7,g8',g8',rfl,fun y=>?_⟩,left_shrinks es seen e he,Ss⟩
  ·have:=run_entry_at (P:=prog) _ it m since seen es clock e IY RQ Vl g4
   rw [hk,hv]at this;exact this
  ·have JN: ∀ {e':MapEntry},e'∈es.toList->e'.born=e.born->e'=e:=fun {e'} Jp hb=>by
    obtain⟨j',ud⟩:=List.mem_iff_getElem?.1 Jp;have h1:(es.toList.map (·.born))[j']? =some e'.born:=by rw [List.getElem?_map,ud];rfl
    have h2:(es.toList.map (·.born))[j]? =some e.born:=by rw [List.getElem?_map,hj];rfl
    rw [hb]at h1;have g1:=List.getElem?_eq_some_iff.1 h1;have g2:=List.getElem?_eq_some_iff.1 h2;have:j'=j:=(List.getElem_inj g4).1 (g1.2.trans g2.2.symm);subst this;rw [hj]at ud;cases ud;rfl
   rw [g9];constructor
   ·rintro⟨⟨e',Jp,nh,mn⟩,Yy⟩
    refine⟨e',Jp,nh,?_⟩;rw [contains_push,mn,Bool.false_or,beq_eq_false_iff_ne];intro hb;have:=JN Jp hb;subst this;exact Yy (xi (nh.symm.trans hk))
   ·rintro⟨e',Jp,nh,mn⟩
    rw [contains_push,Bool.or_eq_false_iff]at mn;refine⟨⟨e',Jp,nh,mn.1⟩,fun Ck=>?_⟩;subst Ck;obtain⟨j',ud⟩:=List.mem_iff_getElem?.1 Jp;obtain⟨⟨y',v'⟩,I8,mZ,_⟩:=g2.of ud;have e1:y'=y:=xi (mZ.symm.trans nh);subst e1;have h1:(l.map (·.1))[j']? =some y':=by rw [List.getElem?_map,I8];rfl
    have h2:(l.map (·.1))[j]? =some y':=by rw [List.getElem?_map,hp];rfl
    have g1:=List.getElem?_eq_some_iff.1 h1;have g2:=List.getElem?_eq_some_iff.1 h2;have:j'=j:=(List.getElem_inj g5).1 (g1.2.trans g2.2.symm);subst this;rw [hj]at ud;cases ud;simp at mn
end
end Go.Proofs.YtnboahlopghcjaaGreatDoor
namespace Go.Proofs.YtnboahlopghcjaaGreatDoor
open Go.Proofs.Tryz
open Go Go.bS Go.RowKit
section
variable{w v v':World}{F:Nat->Prop}{D:DG}{P:List Int}{T:List Tr.Nd}{d:Int}{own:Nat->Nat}{G T' E:Option Nat}{I:Option (Option Addr×Nat)}{Z:Option Nat}{x:Nat}{m:XM}{K:Value->World->Prop}
end
end Go.Proofs.YtnboahlopghcjaaGreatDoor
