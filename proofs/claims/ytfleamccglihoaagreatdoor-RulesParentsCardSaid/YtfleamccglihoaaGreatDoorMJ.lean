import Derived.Test.YtfleamccglihoaaGreatDoorMI
import Derived.Test.YtfleamccglihoaaGreatDoorMG
import Derived.Test.YtfleamccglihoaaGreatDoorMF
import Derived.Maps.Range
import Derived.Test.YtfleamccglihoaaGreatDoorMH
open Go.IntKind (i64 u64)
set_option linter.unusedVariables false
namespace Go.Proofs.YtfleamccglihoaaGreatDoor
open Go.Proofs.Tryz
open Go Go.cF Go.RowKit
def OZ(D:DG)(P:List Int)(l:List HT):Prop:=l.length=D.length/\∀(i j:Nat) (m:DN),P[i]? =some (j:Int)->D[j]? =some m->l[i]? =some m.id
structure rN(w:World)(F:Nat->Prop)(r:Nat)(D:DG)(P:List Int):Prop where
 ex:∃(A:Option Addr) (c:Nat) (B:Option Addr) (e:Nat) (l:List HT),w.heap[r]? =some (.cells #[.slice A D.length c,.slice B D.length e] lu (0,0))/\NS w F A D.length D/\HS w B D.length l/\(∀a,B=some a->F a.block)/\OZ D P l
 jD:¬F r
 jv:uw D P
 W:lr D
section
variable{w w':World}{F F' S:Nat->Prop}{r:Nat}{D:DG}{P:List Int}{K:Value->World->Prop}
theorem rN.aN(h:rN w F r D P)(hk:Kept S w w')(hr:¬S r)(hn:∀k,F k->¬S k):rN w' F r D P:=by
 obtain⟨A,c,B,e,l,h1,h2,h3,h4,h5⟩:=h.ex;exact⟨⟨A,c,B,e,l,hk.heap h1 hr,h2.aN hk hn,h3.aN hk (λa ha=>hn _ (h4 a ha)),h4,h5⟩,h.jD,h.jv,h.W⟩
theorem rN.same(h:rN w F r D P)(hk:Kept Nil w w'):rN w' F r D P:=h.aN hk (λh=>h) (λ_ _ h=>h)
theorem rN.lt(h:rN w F r D P):r<w.heap.size:=by obtain⟨A,c,B,e,l,h1,_⟩:=h.ex;exact bt h1
theorem rN.mono(h:rN w F r D P)(hf:∀k,F k->F' k)(hr:¬F' r):rN w F' r D P:=by
 obtain⟨A,c,B,e,l,h1,h2,h3,h4,h5⟩:=h.ex;exact⟨⟨A,c,B,e,l,h1,h2.mono hf,h3,λa ha=>hf _ (h4 a ha),h5⟩,hr,h.jv,h.W⟩
theorem rN.gr(h:rN w F r D P):vK w F r D:=by
 obtain⟨A,c,B,e,l,h1,h2,_⟩:=h.ex;exact⟨⟨A,c,_,_,h1,rfl,h2⟩,h.jD⟩
theorem T4(W:lr D){j:Nat}{nd:DN}(h:D[j]? =some nd):IS D nd.id=(j:Int):=by unfold IS;rw [W.pos_eq h]
end
theorem acd(w:World)(r j:Nat)(v:Value):setCells w ((⟨r,0,none⟩:Addr).add j) [v] 0=w.setCell ⟨r,j,none⟩ v:=by
 simp only [setCells];rw [bO,bO,Nat.add_zero,Nat.zero_add]
theorem iZ{v:World}{b:Nat}{z:Array Value}{t:TypeId}(s:HT)(h:v.heap[b]? =some (.cells z t (0,0)))(hz:z.size=32):
 (s.1.size=32/\(∀c∈s.1.toList,c.oneCell'=true)/\∀j,j<32->Wr v ((⟨b,0,none⟩:Addr).add j))/\(setCells v (⟨b,0,none⟩:Addr) s.1.toList 0).heap[b]? =some (.cells s.1 t (0,0))/\Kept (· =b) v (setCells v (⟨b,0,none⟩:Addr) s.1.toList 0):=by
 obtain⟨h1,h2,h3⟩:=hU h (cs:=s.1) (by rw [s.2.1];exact hz);exact⟨⟨s.2.1,s.2.one,λj hj=>h1 j (by rw [s.2.1];exact hj)⟩,h2,h3⟩
theorem uw.one(r:HT):uw [⟨r,[]⟩] [-1]:=⟨rfl,rfl,λi p nd hi hp=>by
 cases i with
 |zero=>omega
 |succ i=>simp at hp⟩
section
variable{w w':World}{F F' S:Nat->Prop}{r:Nat}{D:DG}{P:List Int}{K:Value->World->Prop}
theorem Ak(root:HT)(hK:∀v r F,rN v F r [⟨root,[]⟩] [-1]->(∀k,F k->w.heap.size<=k/\k<v.heap.size)->w.heap.size<=r->Kept Nil w v->K (.pointer (some ⟨r,0,none⟩)) v):
 bJ prog lP.id #[.agg root.1] w K:=by
 refine lP.of ?_;unfold lP.W;intro w2;have k2:Kept Nil w w2:=(Kept.refl _ _).alloc _;have oN:w2.heap[w.heap.size]? =some (.cells root.1 ai (0,0)):=aO w _;clear_value w2;have nS:(root.1.push (.slice none 0 0)).size=33:=by rw [Array.size_push,root.2.1]
 refine⟨root.1,⟨root.2.1,Cells.bX oN⟩,?_⟩;rw [LF];refine Is.mk rfl ⟨nS,?_⟩;intro w5;have h5:w5.heap[w2.heap.size]? =some (.cells (root.1.push (.slice none 0 0)) cI (0,0)):=by
  have:=aO w2 (.cells (root.1.push (.slice none 0 0)) cI);show(w2.alloc (.cells ((root.1.push (.slice none 0 0)).toList++ []).toArray cI)).heap[w2.heap.size]? =_;rw [List.append_nil,Array.toArray_toList];exact this
 have k5:Kept Nil w2 w5:=(Kept.refl _ _).alloc _;clear_value w5;refine⟨rfl,?_⟩;intro w6;have h6:w6.heap[w5.heap.size]? =some (.cells gu.1 ai (0,0)):=aO w5 _;have k6:Kept Nil w5 w6:=(Kept.refl _ _).alloc _;clear_value w6;intro w7;have h7:w7.heap[w6.heap.size]? =some (.cells #[.slice (some ⟨w2.heap.size,0,none⟩) 1 1,.slice (some ⟨w5.heap.size,0,none⟩) 1 1] lu (0,0)):=aO w6 _;have k7:Kept Nil w6 w7:=(Kept.refl _ _).alloc _;clear_value w7;have s2:=k2.size;have s5:=k5.size;have s6:=k6.size;have l5:=bt h5;have l6:=bt h6;have h57:=k7.heap (k6.heap h5 (λh=>h)) (λh=>h);have h67:=k7.heap h6 (λh=>h);have l67:=bt h67;refine hK w7 _ (λk=>k=w2.heap.size\/k=w5.heap.size) ⟨⟨_,_,_,_,[gu],h7,⟨rfl,λi nd hi=>?_⟩,HS.one h67,λa ha=>by cases ha;exact .inr rfl,⟨rfl,λi j m hi hj=>?_⟩⟩,λe=>by omega,uw.one root,lr.root root⟩ (λk e=>by omega) (by omega) (((k2.tt k5).tt k6).tt k7)
 ·cases i with
  |zero=>
   simp at hi;subst hi;refine⟨_,none,0,0,rfl,bt h57,.inl rfl,λj u hj=>?_,HS.nil _ _,λb hb=>by cases hb⟩;rw [Nat.zero_mul,add_zero,bO,Nat.zero_add,aI h57];exact hj
  |succ i=>simp at hi
 ·cases i with
  |zero=>simp at hi
  |succ i=>simp at hi
theorem OZ.snoc{l:List HT}(h:OZ D P l)(hs:uw D P)(W:lr D){nd:DN}{j:Nat}{mj:DN}(hj:D[j]? =some mj):OZ (D++ [nd]) (P++ [(j:Int)]) (l++ [mj.id]):=by
 have vA:=(lgeS hj).1;refine⟨by simp [h.1],λi k m hi hm=>?_⟩;by_cases eA:i<P.length
 ·rw [List.getElem?_append_left eA]at hi
  have aeG:i<D.length:=by rw [<-hs.len];exact eA
  rw [List.getElem?_append_left (by rw [h.1];exact aeG)];have mu:=hs.par;have hk:k<D.length:=by
   rcases Nat.eq_zero_or_pos i with rfl|h0
   ·rw [mu.root]at hi;simp only [Option.some.injEq]at hi;omega
   ·obtain⟨j',h1,h2⟩:=mu.up i _ h0 hi
    omega
  rw [List.getElem?_append_left hk]at hm;exact h.2 i k m hi hm
 ·have aeF:=(lgeS hi).1
  have e:i=P.length:=by simp at aeF;omega
  subst e;simp at hi;have:k=j:=by omega
  subst this;rw [List.getElem?_append_left vA,hj]at hm;cases hm;rw [hs.len,<-h.1];simp
theorem HE(H:rN w F r D P)(hF:∀k,F k->k<w.heap.size)(hD:D.length<=5000){h s:HT}{lp:List HT}{A:Option Addr}{n c:Nat}(hl:HS w A n lp)(hn:n<=100000)
 (hK:∀w',rN w' (λk=>F k\/(w.heap.size<=k/\k<w'.heap.size)) r (pE D h s lp) (pD D P h s lp)->Kept (· =r) w w'->K (.int .i64 (ji D h s lp)) w'):
 bJ prog gN.id #[.pointer (some ⟨r,0,none⟩),.agg h.1,.agg s.1,.slice A n c] w K:=by
 have adF:=H.lt;have W:=H.W;have ns:∀w',Kept Nil w w'->∀e,ji D h s lp=e->e≠0->K (.int .i64 e) w':=λw' k e he gQ=>by
  have:=hK w' ?_ (k.mono λ_ _ h=>h.elim)
  ·rw [he]at this;exact this
  ·unfold pE pD
   rw [if_neg (by rw [he];exact gQ),if_neg (by rw [he];exact gQ)];exact(H.same k).mono (λ_ h=>.inl h) (λe=>e.elim H.jD (λh=>by omega))
 refine gN.of ?_;unfold gN.W;intro w5 w6;have k5:Kept Nil w w5:=(Kept.refl _ _).alloc _;have Ob:w5.heap[w.heap.size]? =some (.cells h.1 ai (0,0)):=aO w _;have k6:Kept Nil w5 w6:=(Kept.refl _ _).alloc _;have NI:w6.heap[w5.heap.size]? =some (.cells s.1 ai (0,0)):=aO w5 _;clear_value w6;have UU:=k6.heap Ob (λh=>h);have rl:=k5.tt k6;have s5:=k5.size;have s6:=k6.size;have l5:=bt Ob;have l6:=bt NI;clear_value w5;obtain⟨A0,c0,B0,e0,sl,kI,uu,Ew,hB0,afO⟩:=H.ex;have W8:=rl.heap kI (λh=>h);refine Is.mk rfl ⟨#[.slice A0 D.length c0],⟨rfl,λj v hj=>?_⟩,?_⟩
 ·cases j with
  |zero=>
   rw [add_zero,add_zero,aI W8];simpa using hj
  |succ j=>simp at hj
 intro w9;have h9:w9.heap[w6.heap.size]? =some (.cells #[.slice none 0 0] jF (0,0)):=aO w6 _;have k9:Kept Nil w6 w9:=(Kept.refl _ _).alloc _;clear_value w9;obtain⟨g1,g2,g3⟩:=hU h9 (cs:= #[.slice A0 D.length c0]) rfl;refine⟨⟨rfl,λu hu=>?_,λj hj=>g1 j hj⟩,?_⟩
 ·simp at hu
  subst hu;rfl
 intro nM
 replace g2:nM.heap[w6.heap.size]? =some (.cells #[.slice A0 D.length c0] jF (0,0)):=g2
 replace g3:Kept (· =w6.heap.size) w9 nM:=g3
 clear_value nM;have Ek:Kept Nil w6 nM:=k9.trans g3 (λk hk e=>by omega);have uN:=rl.tt Ek;refine⟨h.1,⟨h.2.1,Cells.bX (Ek.heap UU (λh=>h))⟩,?_⟩;have hR:vK nM F w6.heap.size D:=⟨⟨A0,c0,_,_,g2,rfl,uu.same uN⟩,λe=>by have:=hF _ e;omega⟩;have s12:=uN.size;refine Ga hR W (by omega) (hl.same uN) (by omega) λmM ZJ qI=>⟨_,rfl,?_⟩;have RM:Kept Nil w mM:=uN.trans qI (λk hk e=>by omega);by_cases hC:fg D h lp≠0
 ·refine Split.yes (by simpa using hC) ?_
  refine ns mM RM _ ?_ hC;unfold ji;rw [if_neg hC]
 replace hC:=Classical.not_not.1 hC
 refine Split.no (by rw [hC];rfl) ?_;have Xh:mM.heap[w5.heap.size]? =some (.cells s.1 ai (0,0)):=qI.heap (Ek.heap NI (λh=>h)) (by omega);refine⟨s.1,⟨s.2.1,Cells.bX Xh⟩,uG s (hl.same RM) (by omega) λpI yi=>⟨_,rfl,?_⟩⟩;have KA:=RM.tt yi;by_cases ym:¬s∈lp
 ·refine Split.yes (by rw [decide_eq_false ym];rfl) ?_
  refine ns pI KA 2 ?_ (by omega);unfold ji;rw [if_pos hC,if_neg ym]
 replace ym:=Classical.not_not.1 ym
 refine Split.no (by rw [decide_eq_true ym];rfl) ?_;have eX:ji D h s lp=0:=by unfold ji;rw [if_pos hC,if_pos ym]
 obtain⟨gD,gQ,fE,dr⟩:=mo hC;obtain⟨mj,SI,NW⟩:=eV.1 (dr s (dU.2 ym));obtain⟨j,hj⟩:=List.mem_iff_getElem?.1 SI;have eP:pD D P h s lp=P++ [(j:Int)]:=by
  unfold pD;rw [if_pos eX,<-NW,W.pos_eq hj];rfl
 have eD:pE D h s lp=D++ [⟨h,dP lp⟩]:=by unfold pE;rw [if_pos eX]
 rw [rL hC]at ZJ;obtain⟨A1,c1,cs1,t1,h1,Y6,XX⟩:=(ZJ.same yi).ex;rw [List.length_append,List.length_singleton]at XX Y6;have Th:pI.cell? (aU w6.heap.size)=some (.slice A1 (D.length+1) c1):=by rw [aI h1];exact Y6
 have sz1:=KA.size;have KI:=KA.heap kI (λh=>h);refine⟨#[.slice A1 (D.length+1) c1],⟨rfl,λi v hi=>?_⟩,Is.mk rfl ⟨⟨rfl,λu hu=>?_,λi hi=>?_⟩,?_⟩⟩
 ·cases i with
  |zero=>
   rw [add_zero,Th];simpa using hi
  |succ i=>simp at hi
 ·simp at hu
  subst hu;rfl
 ·have:i=0:=by omega
  subst this;rw [add_zero,add_zero];exact eI KI (by simp)
 intro w25 sK;have ado:w25.heap[r]? =some (.cells #[.slice A1 (D.length+1) c1,.slice B0 D.length e0] lu (0,0)):=by
  show(setCells pI ((⟨r,0,none⟩:Addr).add 0) [.slice A1 (D.length+1) c1] 0).heap[r]? =_;rw [acd,dL KI];rfl
 have Kn:Kept (· =r) pI w25:=by
  show Kept (· =r) pI (setCells pI ((⟨r,0,none⟩:Addr).add 0) [.slice A1 (D.length+1) c1] 0)
  rw [add_zero];exact hZ _ _ _ _
 have H6:Kept Nil w25 sK:=(Kept.refl _ _).drew;clear_value sK w25;have R6:=H6.heap ado (λh=>h);have zA:Kept (· =r) pI sK:=Kn.trans H6 (λ_ _ h=>h.elim);have PK:HS sK B0 D.length sl:=(Ew.same KA).aN zA (λa ha e=>H.jD (e▸hB0 a ha));have KM:sK.heap[w5.heap.size]? =some (.cells s.1 ai (0,0)):=zA.heap (yi.heap Xh (λh=>h)) (λe=>by omega);refine Is.mk rfl ⟨B0,D.length,e0,by rw [bO,aI R6];rfl,s.1,⟨s.2.1,Cells.bX KM⟩,?_⟩;have fin:∀(v:World) (A2:Option Addr) (c2:Nat),Kept Nil sK v->bY v sK.heap.size A2 (D.length+1) c2 (sl++ [s])->
  Is (some (⟨r,0,none⟩:Addr)) λa=>Wr v (a.add 1)/\K (.int .i64 0) (v.setCell (a.add 1) (.slice A2 (D.length+1) c2)):=λv A2 c2 kv row=>by
  refine Is.mk rfl ?_;rw [bO];have hv:=kv.heap R6 (λh=>h);have kf:Kept (· =r) v (v.setCell ⟨r,0+1,none⟩ (.slice A2 (D.length+1) c2)):=Kept.setCell (S:=λk=>k=r) (Kept.refl _ v) (p:=⟨r,0+1,none⟩) (λ_=>rfl) _;refine⟨eI hv (by simp),?_⟩;have mS:Kept (· =r) w (v.setCell ⟨r,0+1,none⟩ (.slice A2 (D.length+1) c2)):=(((KA.mono (S':=(· =r)) (λ_ _ h=>h.elim)).tt zA).trans kv (λ_ _ h=>h.elim)).tt kf;have:=hK (v.setCell ⟨r,0+1,none⟩ (.slice A2 (D.length+1) c2)) ?_ mS
  ·rw [eX]at this
   exact this
  rw [eD,eP];have hbA:∀b,bL A2=some b->sK.heap.size<=b/\b<v.heap.size:=λb hb=>by
   obtain⟨q1,cur,q2⟩:=Row.bX row hb;exact⟨q1,bt q2⟩
  have s26:=zA.size;have sv:=kv.size;have sf:=kf.size;have ahY:Kept (· =r) mM sK:=(yi.mono (S':=(· =r)) (λ_ _ h=>h.elim)).tt zA;refine⟨⟨A1,c1,A2,c2,sl++ [s],?_,?_,?_,λa ha=>.inr ?_,?_⟩,λe=>e.elim H.jD (λe=>by omega),H.jv.snoc hj (by rw [NW];exact dU.2 ym) (by have:=(lgeS hj).1;omega),W.snoc gD dr (jL lp)⟩
  ·rw [List.length_append,List.length_singleton,dL hv]
   rfl
  ·rw [List.length_append,List.length_singleton]
   have qm:Kept (· =r) pI (v.setCell ⟨r,0+1,none⟩ (.slice A2 (D.length+1) c2)):=(zA.trans kv (λ_ _ h=>h.elim)).tt kf;refine(XX.aN qm λk hk e=>?_).mono λk hk=>?_
   ·rcases hk with hk|hk
    ·exact H.jD (e▸hk)
    ·omega
   ·rcases hk with hk|hk
    ·exact .inl hk
    ·have:=yi.size
     exact .inr ⟨by omega,by omega⟩
  ·rw [List.length_append,List.length_singleton]
   exact(bY.hs row).aN kf (λa ha e=>by have:=hbA a.block (by rw [ha];rfl);omega)
  ·have:=hbA a.block (by rw [ha];rfl)
   exact⟨by omega,by omega⟩
  ·rw [<-NW]
   exact afO.snoc H.jv W hj
 have oM:∀ {u:World},Kept Nil sK u->∃cs:Array Value,(.agg s.1:Value)=.agg cs/\cs.size=32/\Cells u (aU w5.heap.size) cs:=λk=>⟨s.1,rfl,s.2.1,Cells.bX (k.heap KM (λh=>h))⟩;refine⟨?_,?_⟩
 ·obtain⟨A3,c3,Js,Xr,F7,aeS,Zp⟩:=dp (cx:=e0) aH (bY.nil sK sK.heap.size) PK (by omega) (Nat.le_refl _)
  rw [Nat.zero_add]at Xr F7;rw [List.nil_append]at F7;have Pq:Kept Nil sK Js:=Kept.dY (Kept.refl _ _) aeS (λk hk=>by cases hk);refine⟨A3,_,c3,Js,Xr,oM Pq,s.2.1,?_⟩;intro vZ;have I7:Kept Nil Js vZ:=(Kept.refl _ _).alloc _;have adg:HS vZ (some ⟨Js.heap.size,0,none⟩) 1 [s]:=jy Js s;clear_value vZ;have s32:=I7.size;have s31:=Pq.size;obtain⟨A4,c4,oC,NL,BV,Te,Lf⟩:=dp (cx:=1) aH (Row.aN F7 I7 (λ_ _ h=>h)) adg (by omega) (by omega);have yh:Kept Nil sK oC:=Kept.dY (Pq.tt I7) Te (λk hk=>(Row.bX F7 hk).1);exact⟨A4,_,c4,oC,NL,fin oC A4 c4 yh BV⟩
 ·refine⟨s.2.1,?_⟩
  intro yf;have sE:Kept Nil sK yf:=(Kept.refl _ _).alloc _;have adf:HS yf (some ⟨sK.heap.size,0,none⟩) 1 [s]:=jy sK s;clear_value yf;have s37:=sE.size;refine⟨by rw [bO,aI (sE.heap R6 (λh=>h))];rfl,?_⟩;obtain⟨A3,c3,O3,Xq,F6,aeR,Zo⟩:=dp (cx:=e0) aH (bY.nil yf yf.heap.size) (PK.same sE) (by omega) (Nat.le_refl _);rw [Nat.zero_add]at Xq F6;rw [List.nil_append]at F6;have Pp:Kept Nil yf O3:=Kept.dY (Kept.refl _ _) aeR (λk hk=>by cases hk);have s39:=Pp.size;obtain⟨A4,c4,Vn,adN,O8,aeQ,Zn⟩:=dp (cx:=1) aH F6 (adf.same Pp) (by omega) (by omega);have WI:Kept Nil yf Vn:=Kept.dY Pp aeQ (λk hk=>(Row.bX F6 hk).1);exact⟨A3,_,c3,O3,Xq,A4,_,c4,Vn,adN,fin Vn A4 c4 (sE.tt WI) (Row.base O8 (λk hk=>by have:=(Row.bX O8 hk).1;omega))⟩
end
section
variable{w w' v:World}{F FP FR S S2 F2:Nat->Prop}{x r:Nat}{D D':DG}{P P':List Int}{K:Value->World->Prop}
theorem D3(h:FF w S F x D P)(hD:D.length<=5000)(hT:tm w)(Mx:¬S (Tryz.lG.g 1)){A:Option Addr}{n cx:Nat}{lp:List HT}(hl:HS w A n lp)(hn:n<=5000)(hid s:HT)
 (hK:∀u S' F',FF u S' F' x (pE D hid s lp) (pD D P hid s lp)->Kept S w u->(∀k,S' k->S k\/w.heap.size<=k)->(∀k,F' k->F k\/w.heap.size<=k)->K (.int .i64 (ji D hid s lp)) u):
 bJ prog aP.id #[.pointer (some ⟨x,0,none⟩),.agg hid.1,.agg s.1,.slice A n cx] w K:=by
 obtain⟨m,h1,h2⟩:=h;refine HF h1 hD hT (λe=>Mx (h2 _ (.inl e))) hl hn hid s (λu k hc=>?_) (λu S' F' hI k hS hF hc=>?_)
 ·refine hK u S F ?_ (k.mono λ_ _ h=>h.elim) (λk h=>.inl h) (λk h=>.inl h)
  unfold pE pD;rw [if_neg hc,if_neg hc];exact⟨m,h1.same k,h2⟩
 ·have:=hK u S' F' hI (k.mono λk _ h=>h2 k h) (λk h=>(hS k h).imp (h2 k) (λh=>h)) hF
  rw [hc]at this;exact this
end
end Go.Proofs.YtfleamccglihoaaGreatDoor
namespace Go.Proofs.YtfleamccglihoaaGreatDoor
open Go.Proofs.Tryz
open Go Go.cF Go.RowKit
open Tr (lV)
section
variable{r a b c:HT}(Sn:r≠a)(Ii:r≠b)(hrc:r≠c)(mK:a≠b)(hac:a≠c)(Ty:b≠c)
end
section
variable{w w':World}{K:Value->World->Prop}
end
end Go.Proofs.YtfleamccglihoaaGreatDoor
namespace Go.Proofs.YtfleamccglihoaaGreatDoor
open Go.Proofs.Tryz
open Go Go.cF Go.RowKit
open Go.ChangeMaps (setBlock)
theorem u7{x:HT}{v:Value}:∀ {l:List (HT×Value)} {j:Nat},(l.map (·.1)).Nodup->l[j]? =some (x,v)->assoc x l=some v
 | [],_,_,h=>by simp at h
 |(y,u)::l,0,_,h=>by
  simp at h;obtain⟨rfl,rfl⟩:=h;unfold assoc;rw [if_pos rfl]
 |(y,u)::l,j+1,hn,h=>by
  simp only [List.map_cons,List.nodup_cons]at hn;have hm:x∈l.map (·.1):=List.mem_map.2 ⟨(x,v),List.mem_of_getElem? (i:=j) (by simpa using h),rfl⟩;unfold assoc;rw [if_neg (λe:x=y=>hn.1 (by rw [<-e];exact hm))];exact u7 hn.2 (j:=j) (by simpa using h)
theorem zU{x:HT}{v:Value}:∀ {l:List (HT×Value)},assoc x l=some v->∃j:Nat,l[j]? =some (x,v)
 | [],h=>by simp [assoc]at h
 |(y,u)::l,h=>by
  unfold assoc at h;split at h
  ·rename_i e
   subst e;cases h;exact⟨0,rfl⟩
  ·obtain⟨j,hj⟩:=zU h
   exact⟨j+1,by simpa using hj⟩
theorem o8.of{es:List MapEntry}{l:List (HT×Value)}(h:o8 es l){j:Nat}{e:MapEntry}(he:es[j]? =some e):∃p,l[j]? =some p/\e.key=.agg p.1.1/\e.val=p.2:=by
 have hlen:=h.len;have hj:=(lgeS he).1;obtain⟨p,hp⟩:∃p,l[j]? =some p:=⟨_,List.getElem?_eq_getElem (by omega)⟩;obtain⟨e',g1,g2,g3⟩:=h.get hp;rw [he]at g1;cases g1;exact⟨p,hp,g2,g3⟩
theorem Bf{x y:HT}(h:(Value.agg x.1:Value)=.agg y.1):x=y:=by
 cases h':x;cases h'':y
 simp_all
structure qq(w:World)(m it:Nat)(f:HT->Option Value)(left:HT->Prop)(DC:Nat):Prop where
 ne:it≠m
 ex:∃es clock l since seen c0,w.heap[m]? =some (.map es clock)/\o8 es.toList l/\(∀x,assoc x l=f x)/\(es.toList.map (·.born)).Nodup/\(l.map (·.1)).Nodup/\
  w.heap[it]? =some (.mapIter (some m) since seen c0)/\(∀e∈es.toList,e.born<since)/\since<=c0/\since<=clock/\(leftOf es seen).size=DC/\∀x,left x↔∃e∈es.toList,e.key=.agg x.1/\seen.contains e.born=false
section
variable{w w':World}{m it:Nat}{f:HT->Option Value}{left:HT->Prop}{DC:Nat}
theorem qq.aN{S:Nat->Prop}(h:qq w m it f left DC)(hk:Kept S w w')(h1:¬S m)(h2:¬S it):qq w' m it f left DC:=by
 obtain⟨es,clock,l,since,seen,c0,g1,g2,g3,g4,g5,g6,g7⟩:=h.ex;exact⟨h.ne,es,clock,l,since,seen,c0,hk.heap g1 h1,g2,g3,g4,g5,hk.heap g6 h2,g7⟩
theorem qq.left_eq(h:qq w m it f left DC):w.rangeLeft m it=DC:=by
 obtain⟨es,clock,l,since,seen,c0,g1,g2,g3,g4,g5,g6,g7,_,_,g8,_⟩:=h.ex;simp only [World.rangeLeft,g1,g6];exact g8
theorem qq.lt(h:qq w m it f left DC):it<w.heap.size:=by
 obtain⟨es,clock,l,since,seen,c0,g1,g2,g3,g4,g5,g6,_⟩:=h.ex;exact bt g6
theorem gX.range{mt te:TypeId}{z:Value}(T:yX mt te z)(h:gX w m f):∃w' DC,(Instr.range mt (.map (some m))).run prog w=.ok (.pointer (some ⟨w.heap.size,0,none⟩)) w'/\qq w' m w.heap.size f (λx=>f x≠none) DC/\Kept Nil w w':=by
 obtain⟨es,clock,l,g1,g2,g3,g4,g5,g6⟩:=h.ex;have dD:=h.lt;refine⟨w.alloc (.mapIter (some m) clock #[] clock),_,run_range_map w mt ai te m es clock T.qG g1,⟨by omega,es,clock,l,clock,#[],clock,mh g1 _,g2,g3,g5,g6,aO w _,g4,Nat.le_refl _,Nat.le_refl _,rfl,λx=>?_⟩,(Kept.refl _ _).alloc _⟩;rw [<-g3];constructor
 ·intro hx
  cases ha:assoc x l with
  |none=>exact absurd ha hx
  |some v=>
   obtain⟨j,hj⟩:=zU ha;obtain⟨e,he,hk,_⟩:=g2.get hj;exact⟨e,List.mem_of_getElem? he,hk,by simp⟩
 ·rintro⟨e,he,hk,_⟩
  obtain⟨j,hj⟩:=List.mem_iff_getElem?.1 he;obtain⟨⟨y,v⟩,hp,ql,_⟩:=g2.of hj;have:y=x:=Bf (ql.symm.trans hk);subst this;rw [u7 g6 hp];simp
theorem qq.next(h:qq w m it f left DC)(ty:TypeId):
 (DC=0/\(∀x,¬left x)/\(Instr.next (.pointer (some ⟨it,0,none⟩)) false ty).run prog w=.ok (.tuple #[.bool false]) w)\/
 ∃(x:HT) (v:Value) (w':World) (aae:Nat),left x/\f x=some v/\(Instr.next (.pointer (some ⟨it,0,none⟩)) false ty).run prog w=.ok (.tuple #[.bool true,.agg x.1,v]) w'/\
  (Instr.entry (.pointer (some ⟨it,0,none⟩))).run prog w'=.ok (.tuple #[.agg x.1,v]) w'/\qq w' m it f (λy=>left y/\y≠x) aae/\aae<DC/\Kept (· =it) w w':=by
 have gQ:=h.ne;obtain⟨es,clock,l,since,seen,c0,g1,g2,g3,g4,g5,g6,g7,g8,g8',rfl,g9⟩:=h.ex;rcases run_next_at (P:=prog) w ty it m since c0 seen es clock g6 g1 g7 g8 with⟨h0,hr⟩|⟨e,he,w1,Mh,hr⟩
 ·refine .inl ⟨h0,λx hx=>?_,hr⟩
  obtain⟨e,he,_,hs⟩:=(g9 x).1 hx;have hm:e∈leftOf es seen:=by
   unfold leftOf;rw [Array.mem_filter];exact⟨by simpa using he,by rw [hs];rfl⟩
  have:=Array.size_pos_of_mem hm;omega
 ·obtain⟨hem,hes⟩:=mem_left he
  obtain⟨j,hj⟩:=List.mem_iff_getElem?.1 hem;obtain⟨⟨x,v⟩,hp,hk,hv⟩:=g2.of hj;have hk:e.key=.agg x.1:=hk;have hv:e.val=v:=hv;rw [hk,hv]at hr;have aeC:w1.heap[it]? =some (.mapIter (some m) since seen c0):=by rcases Mh with rfl|rfl<;>exact g6
  have P3:w1.heap[m]? =some (.map es clock):=by rcases Mh with rfl|rfl<;>exact g1
  have NH:(setBlock w1 it (.mapIter (some m) since (seen.push e.born) clock)).heap[it]? =some (.mapIter (some m) since (seen.push e.born) clock):=by
   have:=bt aeC;simp [setBlock,this]
  have XQ:(setBlock w1 it (.mapIter (some m) since (seen.push e.born) clock)).heap[m]? =some (.map es clock):=by
   simp [setBlock,gQ,P3]
  have Yw:Kept (· =it) w (setBlock w1 it (.mapIter (some m) since (seen.push e.born) clock)):=by
   have hd:w.drew.heap=w.heap:=rfl;rcases Mh with rfl|rfl
   ·exact⟨rfl,rfl,rfl,by simp [setBlock],λk _ hk=>by simp [setBlock,Ne.symm hk]⟩
   ·exact⟨rfl,rfl,rfl,by simp [setBlock,hd],λk _ hk=>by simp [setBlock,hd,Ne.symm hk]⟩
  refine .inr ⟨x,v,_,_,(g9 x).2 ⟨e,hem,hk,hes⟩,by rw [<-g3];exact u7 g5 hp,hr,?_,⟨gQ,es,clock,l,since,seen.push e.born,clock,XQ,g2,g3,g4,g5,NH,g7,g8',g8',rfl,λy=>?_⟩,left_shrinks es seen e he,Yw⟩
  ·have:=run_entry_at (P:=prog) _ it m since seen es clock e NH XQ hem g4
   rw [hk,hv]at this;exact this
  ·have OT:∀ {e':MapEntry},e'∈es.toList->e'.born=e.born->e'=e:=λ{e'} Oi hb=>by
    obtain⟨j',xt⟩:=List.mem_iff_getElem?.1 Oi;have h1:(es.toList.map (·.born))[j']? =some e'.born:=by rw [List.getElem?_map,xt];rfl
    have h2:(es.toList.map (·.born))[j]? =some e.born:=by rw [List.getElem?_map,hj];rfl
    rw [hb]at h1;have g1:=lgeS h1;have g2:=lgeS h2;have:j'=j:=(List.getElem_inj g4).1 (g1.2.trans g2.2.symm);subst this;rw [hj]at xt;cases xt;rfl
   rw [g9];constructor
   ·rintro⟨⟨e',Oi,qm,pv⟩,aei⟩
    refine⟨e',Oi,qm,?_⟩;rw [contains_push,pv,Bool.false_or,beq_eq_false_iff_ne];intro hb;have:=OT Oi hb;subst this;exact aei (Bf (qm.symm.trans hk))
   ·rintro⟨e',Oi,qm,pv⟩
    rw [contains_push,Bool.or_eq_false_iff]at pv;refine⟨⟨e',Oi,qm,pv.1⟩,λGt=>?_⟩;subst Gt;obtain⟨j',xt⟩:=List.mem_iff_getElem?.1 Oi;obtain⟨⟨y',v'⟩,Je,ql,_⟩:=g2.of xt;have e1:y'=y:=Bf (ql.symm.trans qm);subst e1;have h1:(l.map (·.1))[j']? =some y':=by rw [List.getElem?_map,Je];rfl
    have h2:(l.map (·.1))[j]? =some y':=by rw [List.getElem?_map,hp];rfl
    have g1:=lgeS h1;have g2:=lgeS h2;have:j'=j:=(List.getElem_inj g5).1 (g1.2.trans g2.2.symm);subst this;rw [hj]at xt;cases xt;simp at pv
end
end Go.Proofs.YtfleamccglihoaaGreatDoor
