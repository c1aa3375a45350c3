import Derived.Test.YtnboahlopghcjaaGreatDoorMI
import Derived.Test.YtnboahlopghcjaaGreatDoorMG
import Derived.Test.YtnboahlopghcjaaGreatDoorMF
import Derived.Maps.Range
open Go.IntKind (i64 u64)
set_option linter.unusedVariables false
namespace Go.Proofs.YtnboahlopghcjaaGreatDoor
open Go.Proofs.Tryz
open Go Go.bU Go.RowKit
def KU(D:DG)(P:List Int)(l:List HT):Prop:=l.length=D.length/\∀(i j:Nat) (m:DN),P[i]? =some (j:Int)->D[j]? =some m->l[i]? =some m.id
structure o9(w:World)(F:Nat->Prop)(r:Nat)(D:DG)(P:List Int):Prop where
 ex:∃(A:Option Addr) (c:Nat) (B:Option Addr) (e:Nat) (l:List HT),w.heap[r]? =some (.cells #[.slice A D.length c,.slice B D.length e] jc (0,0))/\NS w F A D.length D/\HS w B D.length l/\(∀a,B=some a->F a.block)/\KU D P l
 gR:¬F r
 gV:ra D P
 W:jv D
section
variable{w w':World}{F F' S:Nat->Prop}{r:Nat}{D:DG}{P:List Int}{K:Value->World->Prop}
theorem o9.aC(h:o9 w F r D P)(hk:Kept S w w')(hr:¬S r)(hn:∀k,F k->¬S k):o9 w' F r D P:=by
 obtain⟨A,c,B,e,l,h1,h2,h3,h4,h5⟩:=h.ex;exact⟨⟨A,c,B,e,l,hk.heap h1 hr,h2.aC hk hn,h3.aC hk (fun a ha=>hn _ (h4 a ha)),h4,h5⟩,h.gR,h.gV,h.W⟩
theorem o9.same(h:o9 w F r D P)(hk:Kept Nil w w'):o9 w' F r D P:=h.aC hk (fun h=>h) (fun _ _ h=>h)
theorem o9.lt(h:o9 w F r D P):r<w.heap.size:=by obtain⟨A,c,B,e,l,h1,_⟩:=h.ex;exact aQ h1
theorem o9.mono(h:o9 w F r D P)(hf:∀k,F k->F' k)(hr:¬F' r):o9 w F' r D P:=by
 obtain⟨A,c,B,e,l,h1,h2,h3,h4,h5⟩:=h.ex;exact⟨⟨A,c,B,e,l,h1,h2.mono hf,h3,fun a ha=>hf _ (h4 a ha),h5⟩,hr,h.gV,h.W⟩
theorem o9.gr(h:o9 w F r D P):tg w F r D:=by
 obtain⟨A,c,B,e,l,h1,h2,_⟩:=h.ex;exact⟨⟨A,c,_,_,h1,rfl,h2⟩,h.gR⟩
theorem PA(W:jv D){j:Nat}{nd:DN}(h:D[j]? =some nd):Fy D nd.id=(j:Int):=by unfold Fy;rw [W.pos_eq h]
end
theorem XH(w:World)(r j:Nat)(v:Value):setCells w ((⟨r,0,none⟩:Addr).add j) [v] 0=w.setCell ⟨r,j,none⟩ v:=by
 simp only [setCells];rw [a8,a8,Nat.add_zero,Nat.zero_add]
theorem jg{v:World}{b:Nat}{z:Array Value}{t:TypeId}(s:HT)(h:v.heap[b]? =some (.cells z t (0,0)))(hz:z.size=32):
 (s.1.size=32/\(∀c∈s.1.toList,c.oneCell'=true)/\∀j,j<32->Wr v ((⟨b,0,none⟩:Addr).add j))/\(setCells v (⟨b,0,none⟩:Addr) s.1.toList 0).heap[b]? =some (.cells s.1 t (0,0))/\Kept (· =b) v (setCells v (⟨b,0,none⟩:Addr) s.1.toList 0):=by
 obtain⟨h1,h2,h3⟩:=dT h (cs:=s.1) (by rw [s.2.1];exact hz);exact⟨⟨s.2.1,s.2.one,fun j hj=>h1 j (by rw [s.2.1];exact hj)⟩,h2,h3⟩
theorem ra.one(r:HT):ra [⟨r,[]⟩] [-1]:=⟨rfl,rfl,fun i p nd hi hp=>by
 cases i with
 |zero=>omega
 |succ i=>simp at hp⟩
section
variable{w w':World}{F F' S:Nat->Prop}{r:Nat}{D:DG}{P:List Int}{K:Value->World->Prop}
theorem xc(root:HT)(hK:∀v r F,o9 v F r [⟨root,[]⟩] [-1]->(∀k,F k->w.heap.size<=k/\k<v.heap.size)->w.heap.size<=r->Kept Nil w v->K (.pointer (some ⟨r,0,none⟩)) v):
 bk prog jx.id #[.agg root.1] w K:=by
 refine jx.of ?_;unfold jx.W;intro w2;have k2:Kept Nil w w2:=(Kept.refl _ _).alloc _;have kZ:w2.heap[w.heap.size]? =some (.cells root.1 aj (0,0)):=aJ w _;clear_value w2;have kY:(root.1.push (.slice none 0 0)).size=33:=by rw [Array.size_push,root.2.1]
 refine⟨root.1,⟨root.2.1,Cells.bC kZ⟩,?_⟩;rw [HY];refine Is.mk rfl ⟨kY,?_⟩;intro w5;have h5:w5.heap[w2.heap.size]? =some (.cells (root.1.push (.slice none 0 0)) bM (0,0)):=by
  have:=aJ w2 (.cells (root.1.push (.slice none 0 0)) bM);show(w2.alloc (.cells ((root.1.push (.slice none 0 0)).toList++ []).toArray bM)).heap[w2.heap.size]? =_;rw [List.append_nil,Array.toArray_toList];exact this
 have k5:Kept Nil w2 w5:=(Kept.refl _ _).alloc _;clear_value w5;refine⟨rfl,?_⟩;intro w6;have h6:w6.heap[w5.heap.size]? =some (.cells dO.1 aj (0,0)):=aJ w5 _;have k6:Kept Nil w5 w6:=(Kept.refl _ _).alloc _;clear_value w6;intro w7;have h7:w7.heap[w6.heap.size]? =some (.cells #[.slice (some ⟨w2.heap.size,0,none⟩) 1 1,.slice (some ⟨w5.heap.size,0,none⟩) 1 1] jc (0,0)):=aJ w6 _;have k7:Kept Nil w6 w7:=(Kept.refl _ _).alloc _;clear_value w7;have s2:=k2.size;have s5:=k5.size;have s6:=k6.size;have l5:=aQ h5;have l6:=aQ h6;have h57:=k7.heap (k6.heap h5 (fun h=>h)) (fun h=>h);have h67:=k7.heap h6 (fun h=>h);have l67:=aQ h67;refine hK w7 _ (fun k=>k=w2.heap.size\/k=w5.heap.size) ⟨⟨_,_,_,_,[dO],h7,⟨rfl,fun i nd hi=>?_⟩,HS.one h67,fun a ha=>by cases ha;exact .inr rfl,⟨rfl,fun i j m hi hj=>?_⟩⟩,fun e=>by omega,ra.one root,jv.root root⟩ (fun k e=>by omega) (by omega) (((k2.tt k5).tt k6).tt k7)
 ·cases i with
  |zero=>
   simp at hi;subst hi;refine⟨_,none,0,0,rfl,aQ h57,.inl rfl,fun j u hj=>?_,HS.nil _ _,fun b hb=>by cases hb⟩;rw [Nat.zero_mul,add_zero,a8,Nat.zero_add,ay h57];exact hj
  |succ i=>simp at hi
 ·cases i with
  |zero=>simp at hi
  |succ i=>simp at hi
theorem KU.snoc{l:List HT}(h:KU D P l)(hs:ra D P)(W:jv D){nd:DN}{j:Nat}{mj:DN}(hj:D[j]? =some mj):KU (D++ [nd]) (P++ [(j:Int)]) (l++ [mj.id]):=by
 have sV:=(lgeS hj).1;refine⟨by simp [h.1],fun i k m hi hm=>?_⟩;by_cases dQ:i<P.length
 ·rw [List.getElem?_append_left dQ]at hi
  have aad:i<D.length:=by rw [<-hs.len];exact dQ
  rw [List.getElem?_append_left (by rw [h.1];exact aad)];have jT:=hs.par;have hk:k<D.length:=by
   rcases Nat.eq_zero_or_pos i with rfl|h0
   ·rw [jT.root]at hi;simp only [Option.some.injEq]at hi;omega
   ·obtain⟨j',h1,h2⟩:=jT.up i _ h0 hi
    omega
  rw [List.getElem?_append_left hk]at hm;exact h.2 i k m hi hm
 ·have aac:=(lgeS hi).1
  have e:i=P.length:=by simp at aac;omega
  subst e;simp at hi;have:k=j:=by omega
  subst this;rw [List.getElem?_append_left sV,hj]at hm;cases hm;rw [hs.len,<-h.1];simp
theorem DV(H:o9 w F r D P)(hF:∀k,F k->k<w.heap.size)(hD:D.length<=5000){h s:HT}{lp:List HT}{A:Option Addr}{n c:Nat}(hl:HS w A n lp)(hn:n<=100000)
 (hK:∀w',o9 w' (fun k=>F k\/(w.heap.size<=k/\k<w'.heap.size)) r (mX D h s lp) (mW D P h s lp)->Kept (· =r) w w'->K (.int .i64 (gm D h s lp)) w'):
 bk prog fc.id #[.pointer (some ⟨r,0,none⟩),.agg h.1,.agg s.1,.slice A n c] w K:=by
 have Zf:=H.lt;have W:=H.W;have mP:∀w',Kept Nil w w'->∀e,gm D h s lp=e->e≠0->K (.int .i64 e) w':=fun w' k e he fC=>by
  have:=hK w' ?_ (k.mono fun _ _ h=>h.elim)
  ·rw [he]at this;exact this
  ·unfold mX mW
   rw [if_neg (by rw [he];exact fC),if_neg (by rw [he];exact fC)];exact(H.same k).mono (fun _ h=>.inl h) (fun e=>e.elim H.gR (fun h=>by omega))
 refine fc.of ?_;unfold fc.W;intro w5 w6;have k5:Kept Nil w w5:=(Kept.refl _ _).alloc _;have Kf:w5.heap[w.heap.size]? =some (.cells h.1 aj (0,0)):=aJ w _;have k6:Kept Nil w5 w6:=(Kept.refl _ _).alloc _;have JO:w6.heap[w5.heap.size]? =some (.cells s.1 aj (0,0)):=aJ w5 _;clear_value w6;have Wy:=k6.heap Kf (fun h=>h);have mM:=k5.tt k6;have s5:=k5.size;have s6:=k6.size;have l5:=aQ Kf;have l6:=aQ JO;clear_value w5;obtain⟨A0,c0,B0,e0,sl,iK,rh,z6,hB0,abe⟩:=H.ex;have Sl:=mM.heap iK (fun h=>h);refine Is.mk rfl ⟨#[.slice A0 D.length c0],⟨rfl,fun j v hj=>?_⟩,?_⟩
 ·cases j with
  |zero=>
   rw [add_zero,add_zero,ay Sl];simpa using hj
  |succ j=>simp at hj
 intro w9;have h9:w9.heap[w6.heap.size]? =some (.cells #[.slice none 0 0] gS (0,0)):=aJ w6 _;have k9:Kept Nil w6 w9:=(Kept.refl _ _).alloc _;clear_value w9;obtain⟨g1,g2,g3⟩:=dT h9 (cs:= #[.slice A0 D.length c0]) rfl;refine⟨⟨rfl,fun u hu=>?_,fun j hj=>g1 j hj⟩,?_⟩
 ·simp at hu
  subst hu;rfl
 intro mc
 replace g2:mc.heap[w6.heap.size]? =some (.cells #[.slice A0 D.length c0] gS (0,0)):=g2
 replace g3:Kept (· =w6.heap.size) w9 mc:=g3
 clear_value mc;have AR:Kept Nil w6 mc:=k9.trans g3 (fun k hk e=>by omega);have rM:=mM.tt AR;refine⟨h.1,⟨h.2.1,Cells.bC (AR.heap Wy (fun h=>h))⟩,?_⟩;have hR:tg mc F w6.heap.size D:=⟨⟨A0,c0,_,_,g2,rfl,rh.same rM⟩,fun e=>by have:=hF _ e;omega⟩;have s12:=rM.size;refine Cp hR W (by omega) (hl.same rM) (by omega) fun mF U1 sE=>⟨_,rfl,?_⟩;have Ny:Kept Nil w mF:=rM.trans sE (fun k hk e=>by omega);by_cases hC:dr D h lp≠0
 ·refine Split.yes (by simpa using hC) ?_
  refine mP mF Ny _ ?_ hC;unfold gm;rw [if_neg hC]
 replace hC:=Classical.not_not.1 hC
 refine Split.no (by rw [hC];rfl) ?_;have St:mF.heap[w5.heap.size]? =some (.cells s.1 aj (0,0)):=sE.heap (AR.heap JO (fun h=>h)) (by omega);refine⟨s.1,⟨s.2.1,Cells.bC St⟩,wY s (hl.same Ny) (by omega) fun oa wx=>⟨_,rfl,?_⟩⟩;have GO:=Ny.tt wx;by_cases vf:¬s∈lp
 ·refine Split.yes (by rw [decide_eq_false vf];rfl) ?_
  refine mP oa GO 2 ?_ (by omega);unfold gm;rw [if_pos hC,if_neg vf]
 replace vf:=Classical.not_not.1 vf
 refine Split.no (by rw [decide_eq_true vf];rfl) ?_;have eX:gm D h s lp=0:=by unfold gm;rw [if_pos hC,if_pos vf]
 obtain⟨fF,fC,eQ,cY⟩:=jP hC;obtain⟨mj,Ou,Ot⟩:=dt.1 (cY s (df.2 vf));obtain⟨j,hj⟩:=List.mem_iff_getElem?.1 Ou;have eP:mW D P h s lp=P++ [(j:Int)]:=by
  unfold mW;rw [if_pos eX,<-Ot,W.pos_eq hj];rfl
 have eD:mX D h s lp=D++ [⟨h,de lp⟩]:=by unfold mX;rw [if_pos eX]
 rw [o7 hC]at U1;obtain⟨A1,c1,cs1,t1,h1,Ul,Te⟩:=(U1.same wx).ex;rw [List.length_append,List.length_singleton]at Te Ul;have OQ:oa.cell? (⟨w6.heap.size,0,none⟩:Addr)=some (.slice A1 (D.length+1) c1):=by rw [ay h1];exact Ul
 have sz1:=GO.size;have G0:=GO.heap iK (fun h=>h);refine⟨#[.slice A1 (D.length+1) c1],⟨rfl,fun i v hi=>?_⟩,Is.mk rfl ⟨⟨rfl,fun u hu=>?_,fun i hi=>?_⟩,?_⟩⟩
 ·cases i with
  |zero=>
   rw [add_zero,OQ];simpa using hi
  |succ i=>simp at hi
 ·simp at hu
  subst hu;rfl
 ·have:i=0:=by omega
  subst this;rw [add_zero,add_zero];exact dL G0 (by simp)
 intro VX pW;have YY:VX.heap[r]? =some (.cells #[.slice A1 (D.length+1) c1,.slice B0 D.length e0] jc (0,0)):=by
  show(setCells oa ((⟨r,0,none⟩:Addr).add 0) [.slice A1 (D.length+1) c1] 0).heap[r]? =_;rw [XH,cV G0];rfl
 have CF:Kept (· =r) oa VX:=by
  show Kept (· =r) oa (setCells oa ((⟨r,0,none⟩:Addr).add 0) [.slice A1 (D.length+1) c1] 0)
  rw [add_zero];exact fQ _ _ _ _
 have Ek:Kept Nil VX pW:=(Kept.refl _ _).drew;clear_value pW VX;have NV:=Ek.heap YY (fun h=>h);have wv:Kept (· =r) oa pW:=CF.trans Ek (fun _ _ h=>h.elim);have LD:HS pW B0 D.length sl:=(z6.same GO).aC wv (fun a ha e=>H.gR (e▸hB0 a ha));have G8:pW.heap[w5.heap.size]? =some (.cells s.1 aj (0,0)):=wv.heap (wx.heap St (fun h=>h)) (fun e=>by omega);refine Is.mk rfl ⟨B0,D.length,e0,by rw [a8,ay NV];rfl,s.1,⟨s.2.1,Cells.bC G8⟩,?_⟩;have fin:∀(v:World) (A2:Option Addr) (c2:Nat),Kept Nil pW v->bQ v pW.heap.size A2 (D.length+1) c2 (sl++ [s])->
  Is (some (⟨r,0,none⟩:Addr)) fun a=>Wr v (a.add 1)/\K (.int .i64 0) (v.setCell (a.add 1) (.slice A2 (D.length+1) c2)):=fun v A2 c2 kv row=>by
  refine Is.mk rfl ?_;rw [a8];have hv:=kv.heap NV (fun h=>h);have kf:Kept (· =r) v (v.setCell ⟨r,0+1,none⟩ (.slice A2 (D.length+1) c2)):=Kept.setCell (S:=fun k=>k=r) (Kept.refl _ v) (p:=⟨r,0+1,none⟩) (fun _=>rfl) _;refine⟨dL hv (by simp),?_⟩;have ko:Kept (· =r) w (v.setCell ⟨r,0+1,none⟩ (.slice A2 (D.length+1) c2)):=(((GO.mono (S':=(· =r)) (fun _ _ h=>h.elim)).tt wv).trans kv (fun _ _ h=>h.elim)).tt kf;have:=hK (v.setCell ⟨r,0+1,none⟩ (.slice A2 (D.length+1) c2)) ?_ ko
  ·rw [eX]at this
   exact this
  rw [eD,eP];have hbA:∀b,bg A2=some b->pW.heap.size<=b/\b<v.heap.size:=fun b hb=>by
   obtain⟨q1,cur,q2⟩:=Row.bC row hb;exact⟨q1,aQ q2⟩
  have s26:=wv.size;have sv:=kv.size;have sf:=kf.size;have adr:Kept (· =r) mF pW:=(wx.mono (S':=(· =r)) (fun _ _ h=>h.elim)).tt wv;refine⟨⟨A1,c1,A2,c2,sl++ [s],?_,?_,?_,fun a ha=>.inr ?_,?_⟩,fun e=>e.elim H.gR (fun e=>by omega),H.gV.snoc hj (by rw [Ot];exact df.2 vf) (by have:=(lgeS hj).1;omega),W.snoc fF cY (gN lp)⟩
  ·rw [List.length_append,List.length_singleton,cV hv]
   rfl
  ·rw [List.length_append,List.length_singleton]
   have mw:Kept (· =r) oa (v.setCell ⟨r,0+1,none⟩ (.slice A2 (D.length+1) c2)):=(wv.trans kv (fun _ _ h=>h.elim)).tt kf;refine(Te.aC mw fun k hk e=>?_).mono fun k hk=>?_
   ·rcases hk with hk|hk
    ·exact H.gR (e▸hk)
    ·omega
   ·rcases hk with hk|hk
    ·exact .inl hk
    ·have:=wx.size
     exact .inr ⟨by omega,by omega⟩
  ·rw [List.length_append,List.length_singleton]
   exact(bQ.hs row).aC kf (fun a ha e=>by have:=hbA a.block (by rw [ha];rfl);omega)
  ·have:=hbA a.block (by rw [ha];rfl)
   exact⟨by omega,by omega⟩
  ·rw [<-Ot]
   exact abe.snoc H.gV W hj
 have mi:∀ {u:World},Kept Nil pW u->∃cs:Array Value,(.agg s.1:Value)=.agg cs/\cs.size=32/\Cells u (⟨w5.heap.size,0,none⟩:Addr) cs:=fun k=>⟨s.1,rfl,s.2.1,Cells.bC (k.heap G8 (fun h=>h))⟩;refine⟨?_,?_⟩
 ·obtain⟨A3,c3,FF,SC,Ck,aar,UG⟩:=cD (cx:=e0) az (bQ.nil pW pW.heap.size) LD (by omega) (Nat.le_refl _)
  rw [Nat.zero_add]at SC Ck;rw [List.nil_append]at Ck;have Lg:Kept Nil pW FF:=Kept.dM (Kept.refl _ _) aar (fun k hk=>by cases hk);refine⟨A3,_,c3,FF,SC,mi Lg,s.2.1,?_⟩;intro ti;have Fm:Kept Nil FF ti:=(Kept.refl _ _).alloc _;have YP:HS ti (some ⟨FF.heap.size,0,none⟩) 1 [s]:=iq FF s;clear_value ti;have s32:=Fm.size;have s31:=Lg.size;obtain⟨A4,c4,nh,JQ,yy,OP,UF⟩:=cD (cx:=1) az (Row.aC Ck Fm (fun _ _ h=>h)) YP (by omega) (by omega);have zX:Kept Nil pW nh:=Kept.dM (Lg.tt Fm) OP (fun k hk=>(Row.bC Ck hk).1);exact⟨A4,_,c4,nh,JQ,fin nh A4 c4 zX yy⟩
 ·refine⟨s.2.1,?_⟩
  intro vP;have Ej:Kept Nil pW vP:=(Kept.refl _ _).alloc _;have YO:HS vP (some ⟨pW.heap.size,0,none⟩) 1 [s]:=iq pW s;clear_value vP;have s37:=Ej.size;refine⟨by rw [a8,ay (Ej.heap NV (fun h=>h))];rfl,?_⟩;obtain⟨A3,c3,Fi,SB,Cj,aaq,Kq⟩:=cD (cx:=e0) az (bQ.nil vP vP.heap.size) (LD.same Ej) (by omega) (Nat.le_refl _);rw [Nat.zero_add]at SB Cj;rw [List.nil_append]at Cj;have Gz:Kept Nil vP Fi:=Kept.dM (Kept.refl _ _) aaq (fun k hk=>by cases hk);have s39:=Gz.size;obtain⟨A4,c4,Ca,Zn,K0,aap,UD⟩:=cD (cx:=1) az Cj (YO.same Gz) (by omega) (by omega);have Nn:Kept Nil vP Ca:=Kept.dM Gz aap (fun k hk=>(Row.bC Cj hk).1);exact⟨A3,_,c3,Fi,SB,A4,_,c4,Ca,Zn,fin Ca A4 c4 (Ej.tt Nn) (Row.base K0 (fun k hk=>by have:=(Row.bC K0 hk).1;omega))⟩
end
section
variable{w w' v:World}{F FP FR S S2 F2:Nat->Prop}{x r:Nat}{D D':DG}{P P':List Int}{K:Value->World->Prop}
theorem AG(h:BX w S F x D P)(hD:D.length<=5000)(hT:tc w)(IK:¬S (Tryz.jl.g 1)){A:Option Addr}{n cx:Nat}{lp:List HT}(hl:HS w A n lp)(hn:n<=5000)(hid s:HT)
 (hK:∀u S' F',BX u S' F' x (mX D hid s lp) (mW D P hid s lp)->Kept S w u->(∀k,S' k->S k\/w.heap.size<=k)->(∀k,F' k->F k\/w.heap.size<=k)->K (.int .i64 (gm D hid s lp)) u):
 bk prog aD.id #[.pointer (some ⟨x,0,none⟩),.agg hid.1,.agg s.1,.slice A n cx] w K:=by
 obtain⟨m,h1,h2⟩:=h;refine DW h1 hD hT (fun e=>IK (h2 _ (.inl e))) hl hn hid s (fun u k hc=>?_) (fun u S' F' hI k hS hF hc=>?_)
 ·refine hK u S F ?_ (k.mono fun _ _ h=>h.elim) (fun k h=>.inl h) (fun k h=>.inl h)
  unfold mX mW;rw [if_neg hc,if_neg hc];exact⟨m,h1.same k,h2⟩
 ·have:=hK u S' F' hI (k.mono fun k _ h=>h2 k h) (fun k h=>(hS k h).imp (h2 k) (fun h=>h)) hF
  rw [hc]at this;exact this
end
end Go.Proofs.YtnboahlopghcjaaGreatDoor
namespace Go.Proofs.YtnboahlopghcjaaGreatDoor
open Go.Proofs.Tryz
open Go Go.bU Go.RowKit
open Tr (jD)
theorem four(w:World)(r a b c:HT):
 let w1:=w.alloc (.cells dO.1 aj);let w2:=w1.alloc (.cells dO.1 aj);let w3:=w2.alloc (.cells dO.1 aj);let w4:=w3.alloc (.cells dO.1 aj)
 let w7:=setCells w4 (⟨w.heap.size,0,none⟩:Addr) r.1.toList 0;let w10:=setCells w7 (⟨w1.heap.size,0,none⟩:Addr) a.1.toList 0;let lV:=setCells w10 (⟨w2.heap.size,0,none⟩:Addr) b.1.toList 0;let iZ:=setCells lV (⟨w3.heap.size,0,none⟩:Addr) c.1.toList 0
 ((∀j,j<32->Wr w4 ((⟨w.heap.size,0,none⟩:Addr).add j))/\(∀j,j<32->Wr w7 ((⟨w1.heap.size,0,none⟩:Addr).add j))/\(∀j,j<32->Wr w10 ((⟨w2.heap.size,0,none⟩:Addr).add j))/\(∀j,j<32->Wr lV ((⟨w3.heap.size,0,none⟩:Addr).add j)))/\
 iZ.heap[w.heap.size]? =some (.cells r.1 aj (0,0))/\iZ.heap[w1.heap.size]? =some (.cells a.1 aj (0,0))/\iZ.heap[w2.heap.size]? =some (.cells b.1 aj (0,0))/\iZ.heap[w3.heap.size]? =some (.cells c.1 aj (0,0))/\
 w.heap.size<w1.heap.size/\w1.heap.size<w2.heap.size/\w2.heap.size<w3.heap.size/\w3.heap.size<iZ.heap.size/\Kept Nil w iZ:=by
 intro w1 w2 w3 w4;have k1':Kept Nil w w1:=(Kept.refl _ _).alloc _;have y0:Kept Nil w1 w2:=(Kept.refl _ _).alloc _;have yZ:Kept Nil w2 w3:=(Kept.refl _ _).alloc _;have JB:Kept Nil w3 w4:=(Kept.refl _ _).alloc _;have kQ:w1.heap[w.heap.size]? =some (.cells dO.1 aj (0,0)):=aJ w _;have Pc:w2.heap[w1.heap.size]? =some (.cells dO.1 aj (0,0)):=aJ w1 _;have pB:w3.heap[w2.heap.size]? =some (.cells dO.1 aj (0,0)):=aJ w2 _;have II:w4.heap[w3.heap.size]? =some (.cells dO.1 aj (0,0)):=aJ w3 _;clear_value w4;have rj:=JB.heap pB (fun h=>h);have xv:=JB.heap (yZ.heap Pc (fun h=>h)) (fun h=>h);have xR:=JB.heap (yZ.heap (y0.heap kQ (fun h=>h)) (fun h=>h)) (fun h=>h);have l1:=aQ kQ;have l2:=aQ Pc;have l3:=aQ pB;have l4:=aQ II;clear_value w3 w2 w1;have Gp:Kept Nil w w4:=((k1'.tt y0).tt yZ).tt JB;have sz:∀h:HT,dO.1.size=h.1.size:=fun h=>by rw [h.2.1];rfl
 obtain⟨wr7,LH,k7⟩:=dT xR (cs:=r.1) (sz r);rw [r.2.1]at wr7;intro w7
 replace LH:w7.heap[w.heap.size]? =some (.cells r.1 aj (0,0)):=LH
 replace k7:Kept (· =w.heap.size) w4 w7:=k7
 clear_value w7;obtain⟨QQ,Pd,ny⟩:=dT (k7.heap xv (by omega)) (cs:=a.1) (sz a);rw [a.2.1]at QQ;intro w10
 replace Pd:w10.heap[w1.heap.size]? =some (.cells a.1 aj (0,0)):=Pd
 replace ny:Kept (· =w1.heap.size) w7 w10:=ny
 clear_value w10;obtain⟨QP,xu,ve⟩:=dT (ny.heap (k7.heap rj (by omega)) (by omega)) (cs:=b.1) (sz b);rw [b.2.1]at QP;intro lV
 replace xu:lV.heap[w2.heap.size]? =some (.cells b.1 aj (0,0)):=xu
 replace ve:Kept (· =w2.heap.size) w10 lV:=ve
 clear_value lV;obtain⟨QO,Ko,lj⟩:=dT (ve.heap (ny.heap (k7.heap II (by omega)) (by omega)) (by omega)) (cs:=c.1) (sz c);rw [c.2.1]at QO;intro iZ
 replace Ko:iZ.heap[w3.heap.size]? =some (.cells c.1 aj (0,0)):=Ko
 replace lj:Kept (· =w3.heap.size) lV iZ:=lj
 clear_value iZ;have V0:=aQ Ko;exact⟨⟨wr7,QQ,QP,QO⟩,lj.heap (ve.heap (ny.heap LH (by omega)) (by omega)) (by omega),lj.heap (ve.heap Pd (by omega)) (by omega),lj.heap xu (by omega),Ko,by omega,by omega,by omega,V0,
  (((Gp.trans k7 (fun k hk e=>by omega)).trans ny (fun k hk e=>by omega)).trans ve (fun k hk e=>by omega)).trans lj (fun k hk e=>by omega)⟩
section
variable{r a b c:HT}(Ey:r≠a)(zf:r≠b)(LG:r≠c)(lM:a≠b)(Mj:a≠c)(Hw:b≠c)
end
section
variable{w w':World}{K:Value->World->Prop}
end
end Go.Proofs.YtnboahlopghcjaaGreatDoor
namespace Go.Proofs.YtnboahlopghcjaaGreatDoor
open Go.Proofs.Tryz
open Go Go.bU Go.RowKit
open Go.ChangeMaps (setBlock)
theorem r7{x:HT}{v:Value}:∀ {l:List (HT×Value)} {j:Nat},(l.map (·.1)).Nodup->l[j]? =some (x,v)->assoc x l=some v
 | [],_,_,h=>by simp at h
 |(y,u)::l,0,_,h=>by
  simp at h;obtain⟨rfl,rfl⟩:=h;unfold assoc;rw [if_pos rfl]
 |(y,u)::l,j+1,hn,h=>by
  simp only [List.map_cons,List.nodup_cons]at hn;have hm:x∈l.map (·.1):=List.mem_map.2 ⟨(x,v),List.mem_of_getElem? (i:=j) (by simpa using h),rfl⟩;unfold assoc;rw [if_neg (fun e:x=y=>hn.1 (by rw [<-e];exact hm))];exact r7 hn.2 (j:=j) (by simpa using h)
theorem wK{x:HT}{v:Value}:∀ {l:List (HT×Value)},assoc x l=some v->∃j:Nat,l[j]? =some (x,v)
 | [],h=>by simp [assoc]at h
 |(y,u)::l,h=>by
  unfold assoc at h;split at h
  ·rename_i e
   subst e;cases h;exact⟨0,rfl⟩
  ·obtain⟨j,hj⟩:=wK h
   exact⟨j+1,by simpa using hj⟩
theorem mD.of{es:List MapEntry}{l:List (HT×Value)}(h:mD es l){j:Nat}{e:MapEntry}(he:es[j]? =some e):∃p,l[j]? =some p/\e.key=.agg p.1.1/\e.val=p.2:=by
 have hlen:=h.len;have hj:=(lgeS he).1;obtain⟨p,hp⟩:∃p,l[j]? =some p:=⟨_,List.getElem?_eq_getElem (by omega)⟩;obtain⟨e',g1,g2,g3⟩:=h.get hp;rw [he]at g1;cases g1;exact⟨p,hp,g2,g3⟩
theorem xK{x y:HT}(h:(Value.agg x.1:Value)=.agg y.1):x=y:=by
 cases h':x;cases WW:y
 simp_all
structure nP(w:World)(m it:Nat)(f:HT->Option Value)(left:HT->Prop)(Af:Nat):Prop where
 ne:it≠m
 ex:∃es clock l since seen c0,w.heap[m]? =some (.map es clock)/\mD es.toList l/\(∀x,assoc x l=f x)/\(es.toList.map (·.born)).Nodup/\(l.map (·.1)).Nodup/\
  w.heap[it]? =some (.mapIter (some m) since seen c0)/\(∀e∈es.toList,e.born<since)/\since<=c0/\since<=clock/\(leftOf es seen).size=Af/\∀x,left x↔∃e∈es.toList,e.key=.agg x.1/\seen.contains e.born=false
section
variable{w w':World}{m it:Nat}{f:HT->Option Value}{left:HT->Prop}{Af:Nat}
theorem nP.aC{S:Nat->Prop}(h:nP w m it f left Af)(hk:Kept S w w')(h1:¬S m)(h2:¬S it):nP w' m it f left Af:=by
 obtain⟨es,clock,l,since,seen,c0,g1,g2,g3,g4,g5,g6,g7⟩:=h.ex;exact⟨h.ne,es,clock,l,since,seen,c0,hk.heap g1 h1,g2,g3,g4,g5,hk.heap g6 h2,g7⟩
theorem nP.left_eq(h:nP w m it f left Af):w.rangeLeft m it=Af:=by
 obtain⟨es,clock,l,since,seen,c0,g1,g2,g3,g4,g5,g6,g7,_,_,g8,_⟩:=h.ex;simp only [World.rangeLeft,g1,g6];exact g8
theorem nP.lt(h:nP w m it f left Af):it<w.heap.size:=by
 obtain⟨es,clock,l,since,seen,c0,g1,g2,g3,g4,g5,g6,_⟩:=h.ex;exact aQ g6
theorem fk.range{mt te:TypeId}{z:Value}(T:vM mt te z)(h:fk w m f):∃w' Af,(Instr.range mt (.map (some m))).run prog w=.ok (.pointer (some ⟨w.heap.size,0,none⟩)) w'/\nP w' m w.heap.size f (fun x=>f x≠none) Af/\Kept Nil w w':=by
 obtain⟨es,clock,l,g1,g2,g3,g4,g5,g6⟩:=h.ex;have cH:=h.lt;refine⟨w.alloc (.mapIter (some m) clock #[] clock),_,run_range_map w mt aj te m es clock T.oc g1,⟨by omega,es,clock,l,clock,#[],clock,iU g1 _,g2,g3,g5,g6,aJ w _,g4,Nat.le_refl _,Nat.le_refl _,rfl,fun x=>?_⟩,(Kept.refl _ _).alloc _⟩;rw [<-g3];constructor
 ·intro hx
  cases ha:assoc x l with
  |none=>exact absurd ha hx
  |some v=>
   obtain⟨j,hj⟩:=wK ha;obtain⟨e,he,hk,_⟩:=g2.get hj;exact⟨e,List.mem_of_getElem? he,hk,by simp⟩
 ·rintro⟨e,he,hk,_⟩
  obtain⟨j,hj⟩:=List.mem_iff_getElem?.1 he;obtain⟨⟨y,v⟩,hp,mE,_⟩:=g2.of hj;have:y=x:=xK (mE.symm.trans hk);subst this;rw [r7 g6 hp];simp
theorem nP.next(h:nP w m it f left Af)(ty:TypeId):
 (Af=0/\(∀x,¬left x)/\(Instr.next (.pointer (some ⟨it,0,none⟩)) false ty).run prog w=.ok (.tuple #[.bool false]) w)\/
 ∃(x:HT) (v:Value) (w':World) (Vx:Nat),left x/\f x=some v/\(Instr.next (.pointer (some ⟨it,0,none⟩)) false ty).run prog w=.ok (.tuple #[.bool true,.agg x.1,v]) w'/\
  (Instr.entry (.pointer (some ⟨it,0,none⟩))).run prog w'=.ok (.tuple #[.agg x.1,v]) w'/\nP w' m it f (fun y=>left y/\y≠x) Vx/\Vx<Af/\Kept (· =it) w w':=by
 have fC:=h.ne;obtain⟨es,clock,l,since,seen,c0,g1,g2,g3,g4,g5,g6,g7,g8,g8',rfl,g9⟩:=h.ex;rcases run_next_at (P:=prog) w ty it m since c0 seen es clock g6 g1 g7 g8 with⟨h0,hr⟩|⟨e,he,w1,IA,hr⟩
 ·refine .inl ⟨h0,fun x hx=>?_,hr⟩
  obtain⟨e,he,_,hs⟩:=(g9 x).1 hx;have hm:e∈leftOf es seen:=by
   unfold leftOf;rw [Array.mem_filter];exact⟨by simpa using he,by rw [hs];rfl⟩
  have:=Array.size_pos_of_mem hm;omega
 ·obtain⟨WA,hes⟩:=mem_left he
  obtain⟨j,hj⟩:=List.mem_iff_getElem?.1 WA;obtain⟨⟨x,v⟩,hp,hk,hv⟩:=g2.of hj;have hk:e.key=.agg x.1:=hk;have hv:e.val=v:=hv;rw [hk,hv]at hr;have aaa:w1.heap[it]? =some (.mapIter (some m) since seen c0):=by rcases IA with rfl|rfl<;>exact g6
  have J0:w1.heap[m]? =some (.map es clock):=by rcases IA with rfl|rfl<;>exact g1
  have JN:(setBlock w1 it (.mapIter (some m) since (seen.push e.born) clock)).heap[it]? =some (.mapIter (some m) since (seen.push e.born) clock):=by
   have:=aQ aaa;simp [setBlock,this]
  have S8:(setBlock w1 it (.mapIter (some m) since (seen.push e.born) clock)).heap[m]? =some (.map es clock):=by
   simp [setBlock,fC,J0]
  have TG:Kept (· =it) w (setBlock w1 it (.mapIter (some m) since (seen.push e.born) clock)):=by
   have hd:w.drew.heap=w.heap:=rfl;rcases IA with rfl|rfl
   ·exact⟨rfl,rfl,rfl,by simp [setBlock],fun k _ hk=>by simp [setBlock,Ne.symm hk]⟩
   ·exact⟨rfl,rfl,rfl,by simp [setBlock,hd],fun k _ hk=>by simp [setBlock,hd,Ne.symm hk]⟩
  refine .inr ⟨x,v,_,_,(g9 x).2 ⟨e,WA,hk,hes⟩,by rw [<-g3];exact r7 g5 hp,hr,?_,⟨fC,es,clock,l,since,seen.push e.born,clock,S8,g2,g3,g4,g5,JN,g7,g8',g8',rfl,fun y=>?_⟩,left_shrinks es seen e he,TG⟩
  ·have:=run_entry_at (P:=prog) _ it m since seen es clock e JN S8 WA g4
   rw [hk,hv]at this;exact this
  ·have KO:∀ {e':MapEntry},e'∈es.toList->e'.born=e.born->e'=e:=fun {e'} Kn hb=>by
    obtain⟨j',uy⟩:=List.mem_iff_getElem?.1 Kn;have h1:(es.toList.map (·.born))[j']? =some e'.born:=by rw [List.getElem?_map,uy];rfl
    have h2:(es.toList.map (·.born))[j]? =some e.born:=by rw [List.getElem?_map,hj];rfl
    rw [hb]at h1;have g1:=lgeS h1;have g2:=lgeS h2;have:j'=j:=(List.getElem_inj g4).1 (g1.2.trans g2.2.symm);subst this;rw [hj]at uy;cases uy;rfl
   rw [g9];constructor
   ·rintro⟨⟨e',Kn,mw,mO⟩,ZN⟩
    refine⟨e',Kn,mw,?_⟩;rw [contains_push,mO,Bool.false_or,beq_eq_false_iff_ne];intro hb;have:=KO Kn hb;subst this;exact ZN (xK (mw.symm.trans hk))
   ·rintro⟨e',Kn,mw,mO⟩
    rw [contains_push,Bool.or_eq_false_iff]at mO;refine⟨⟨e',Kn,mw,mO.1⟩,fun CN=>?_⟩;subst CN;obtain⟨j',uy⟩:=List.mem_iff_getElem?.1 Kn;obtain⟨⟨y',v'⟩,Fp,mE,_⟩:=g2.of uy;have e1:y'=y:=xK (mE.symm.trans mw);subst e1;have h1:(l.map (·.1))[j']? =some y':=by rw [List.getElem?_map,Fp];rfl
    have h2:(l.map (·.1))[j]? =some y':=by rw [List.getElem?_map,hp];rfl
    have g1:=lgeS h1;have g2:=lgeS h2;have:j'=j:=(List.getElem_inj g5).1 (g1.2.trans g2.2.symm);subst this;rw [hj]at uy;cases uy;simp at mO
end
end Go.Proofs.YtnboahlopghcjaaGreatDoor
namespace Go.Proofs.YtnboahlopghcjaaGreatDoor
open Go.Proofs.Tryz
open Go Go.bU Go.RowKit
section
variable{w v v':World}{F:Nat->Prop}{D:DG}{P:List Int}{T:List Tr.Nd}{d:Int}{own:Nat->Nat}{G T' E:Option Nat}{I:Option (Option Addr×Nat)}{Z:Option Nat}{x:Nat}{m:XM}{K:Value->World->Prop}
end
end Go.Proofs.YtnboahlopghcjaaGreatDoor
