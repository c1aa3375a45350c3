import Derived.Test.YtfleamccglihoaaGreatDoorMI
import Derived.Test.YtfleamccglihoaaGreatDoorMG
import Derived.Test.YtfleamccglihoaaGreatDoorMF
import Derived.Maps.Range
import Derived.Test.YtfleamccglihoaaGreatDoorMH
open Go.IntKind (i64 u64)
set_option linter.unusedVariables false
namespace Go.Proofs.YtfleamccglihoaaGreatDoor
open Go.Proofs.Tryz
open Go Go.bW Go.RowKit
def MH(D:DG)(P:List Int)(l:List HT):Prop:=l.length=D.length/\∀(i j:Nat) (m:DN),P[i]? =some (j:Int)->D[j]? =some m->l[i]? =some m.id
structure o8(w:World)(F:Nat->Prop)(r:Nat)(D:DG)(P:List Int):Prop where
 ex:∃(A:Option Addr) (c:Nat) (B:Option Addr) (e:Nat) (l:List HT),w.heap[r]? =some (.cells #[.slice A D.length c,.slice B D.length e] jL (0,0))/\NS w F A D.length D/\HS w B D.length l/\(∀a,B=some a->F a.block)/\MH D P l
 iG:¬F r
 iA:rF D P
 W:jY D
section
variable{w w':World}{F F' S:Nat->Prop}{r:Nat}{D:DG}{P:List Int}{K:Value->World->Prop}
theorem o8.aF(h:o8 w F r D P)(hk:Kept S w w')(hr:¬S r)(hn:∀k,F k->¬S k):o8 w' F r D P:=by
 obtain⟨A,c,B,e,l,h1,h2,h3,h4,h5⟩:=h.ex;exact⟨⟨A,c,B,e,l,hk.heap h1 hr,h2.aF hk hn,h3.aF hk (fun a ha=>hn _ (h4 a ha)),h4,h5⟩,h.iG,h.iA,h.W⟩
theorem o8.same(h:o8 w F r D P)(hk:Kept Nil w w'):o8 w' F r D P:=h.aF hk (fun h=>h) (fun _ _ h=>h)
theorem o8.lt(h:o8 w F r D P):r<w.heap.size:=by obtain⟨A,c,B,e,l,h1,_⟩:=h.ex;exact aU h1
theorem o8.mono(h:o8 w F r D P)(hf:∀k,F k->F' k)(hr:¬F' r):o8 w F' r D P:=by
 obtain⟨A,c,B,e,l,h1,h2,h3,h4,h5⟩:=h.ex;exact⟨⟨A,c,B,e,l,h1,h2.mono hf,h3,fun a ha=>hf _ (h4 a ha),h5⟩,hr,h.iA,h.W⟩
theorem o8.gr(h:o8 w F r D P):uR w F r D:=by
 obtain⟨A,c,B,e,l,h1,h2,_⟩:=h.ex;exact⟨⟨A,c,_,_,h1,rfl,h2⟩,h.iG⟩
theorem Dv(W:jY D){j:Nat}{nd:DN}(h:D[j]? =some nd):sE D nd.id=(j:Int):=by unfold sE;rw [W.pos_eq h]
theorem vo(H:o8 w F r D P)(hD:D.length<=10000)(h:HT)(hK:∀A c w' l,cI D P h l->bI w' w.heap.size A l.length c l->Kept Nil w w'->K (.slice A l.length c) w'):
 bC prog bG.id #[.pointer (some ⟨r,0,none⟩),.agg h.1] w K:=by
 have W:=H.W;have ln:=H.iA.par;refine bG.of ?_;unfold bG.W;intro w3 w4;have k3:Kept Nil w w3:=(Kept.refl _ _).alloc _;have mK:w3.heap[w.heap.size]? =some (.cells h.1 ag (0,0)):=aH w _;have k4:Kept Nil w3 w4:=(Kept.refl _ _).drew;clear_value w4;have ph:=k4.heap mK (fun h=>h);have mE:=k3.tt k4;refine⟨h.1,⟨h.2.1,Cells.bL ph⟩,?_⟩;rw [add_zero];refine jI (H.gr.same mE) (by omega) h fun w8 k8=>⟨_,rfl,?_⟩;have uL:=mE.tt k8;have Ju:=k8.heap ph (fun h=>h);have s08:=uL.size;have l08:=aU Ju;by_cases hm:¬h∈ids D
 ·have yY:=oM.2 hm
  refine bG.cC (I:=fun s v=>s=(none,0,0,sE D h)/\v=w8) (μ:=fun _ _=>0) (s:=(none,0,0,sE D h)) ⟨rfl,rfl⟩ ?_;rintro s v ⟨rfl,rfl⟩;refine Split.no (decide_eq_false (by simp only;omega)) ?_;simp only;rw [aR,bG.df];exact hK none 0 v [] (.inl ⟨hm,rfl⟩) (bI.nil _ _) uL
 replace hm:=Classical.not_not.1 hm
 obtain⟨nd,gu,hid⟩:=dr.1 hm;obtain⟨i,hi⟩:=List.mem_iff_getElem?.1 gu;have dS:=(lgeS hi).1;obtain⟨ks,Qx⟩:=Up.ex ln i (by rw [H.iA.len];exact dS);have BW:=Qx.len ln;refine bG.cC (I:=fun s v=>∃(k:Nat) (nk:DN) (dn rs:List Nat) (A:Option Addr) (c:Nat),s=(A,dn.length,c,(k:Int))/\ks=dn++rs/\Up P k rs/\D[k]? =some nk/\v.heap[w.heap.size]? =some (.cells nk.id.1 ag (0,0))/\bI v w8.heap.size A dn.length c (dn.map (mH D))/\Kept (· =w.heap.size) w8 v)
  (μ:=fun s _=>s.2.2.2.toNat) (s:=(none,0,0,sE D h)) ⟨i,nd,[],ks,none,0,by rw [<-hid,Dv W hi];rfl,rfl,Qx,hi,by rw [hid];exact Ju,bI.nil _ _,Kept.refl _ _⟩ ?_
 rintro s v ⟨k,nk,dn,rs,A,c,rfl,AZ,Yv,LS,EF,row,kv⟩;have ajP:=(lgeS LS).1;have El:Kept Nil w v:=uL.trans kv (fun q hq e=>by omega);have sv:=kv.size;refine Split.yes (decide_eq_true (by simp only;omega)) ⟨nk.id.1,⟨nk.id.2.1,Cells.bL EF⟩,nk.id.2.1,?_⟩;intro jH;have nt:Kept Nil v jH:=(Kept.refl _ _).alloc _;have ac7:HS jH (some ⟨v.heap.size,0,none⟩) 1 [nk.id]:=jf v nk.id;clear_value jH;have YM:dn.length<=ks.length:=by rw [AZ];simp
 have Tc:=nt.size;obtain⟨A2,c2,sy,abk,la,Wg,_⟩:=cK (cx:=1) ay (Row.aF row nt (fun _ _ h=>h)) ac7 (by omega) (by omega);have Gb:Kept (· =w.heap.size) w8 sy:=(kv.trans nt (fun _ _ h=>h.elim)).grown Wg (fun q hq cY=>by have:=(Row.bL row hq).1;omega);have Uq:Kept Nil w sy:=uL.trans Gb (fun q hq e=>by omega);have Qb:dn.map (mH D)++ [nk.id]=(dn++ [k]).map (mH D):=by simp [mG LS]
 rw [Qb]at la;have ac6:sy.heap[w.heap.size]? =some (.cells nk.id.1 ag (0,0)):=by
  have hkg:Kept (fun q=>bn A=some q) jH sy:=Kept.grown (Kept.refl _ _) Wg (fun q hq _=>hq);exact hkg.heap (nt.heap EF (fun h=>h)) (fun e=>by have:=(Row.bL row e).1;omega)
 refine⟨A2,_,c2,sy,abk,?_⟩;cases Yv with
 |root=>
  refine Split.yes rfl ?_;simp only;rw [aR,bG.df];have e:(ks.map (mH D)).length=dn.length+1:=by rw [AZ];simp
  have:=hK A2 c2 sy (ks.map (mH D)) (.inr ⟨i,nd,ks,hi,hid,Qx,rfl⟩) (by rw [e,AZ];exact Row.base la (fun b hb=>Nat.le_trans s08 (Row.bL la hb).1)) Uq
  rwa [e]at this
 | @step _ j ZQ hj IP=>
   have V0:=(Tr.iJ ln (Tr.eE.2 hj)).1;refine Split.no (by simp only [beq_eq_false_iff_ne,ne_eq];omega) ?_;obtain⟨A0,c0,B,e,l,h1,h2,h3,h4,h5⟩:=(H.same Uq).ex;obtain⟨nj,G8⟩:∃nj,D[j]? =some nj:=⟨_,List.getElem?_eq_getElem (by omega)⟩;refine⟨B,D.length,e,by rw [bt,aD h1];rfl,?_⟩;refine h3.load (i:=(k:Int)) (by omega) (by rw [Int.toNat_natCast];exact h5.2 k j nj hj G8) ?_;obtain⟨g1,g2,g3⟩:=dU ac6 (cs:=nj.id.1) (by rw [nj.id.2.1,nk.id.2.1]);refine⟨⟨nj.id.2.1,nj.id.2.one,fun q hq=>g1 q (by rw [nj.id.2.1];exact hq)⟩,?_⟩;intro KO o9
   replace g2:KO.heap[w.heap.size]? =some (.cells nj.id.1 ag (0,0)):=g2
   replace g3:Kept (· =w.heap.size) sy KO:=g3
   have AR:Kept Nil KO o9:=(Kept.refl _ _).drew;clear_value o9 KO;have Y7:=AR.heap g2 (fun h=>h);have Ub:Kept (· =w.heap.size) w8 o9:=(Gb.tt g3).trans AR (fun _ _ h=>h.elim);have aaw:Kept Nil w o9:=uL.trans Ub (fun q hq e=>by omega);refine⟨nj.id.1,⟨nj.id.2.1,Cells.bL Y7⟩,?_⟩;rw [add_zero];refine jI (H.gr.same aaw) (by omega) nj.id fun OL Pv=>⟨_,rfl,?_⟩;rw [Dv W G8];refine⟨(A2,dn.length+1,c2,(j:Int)),rfl,⟨j,nj,dn++ [k],ZQ,A2,c2,by simp,by rw [AZ];simp,IP,G8,Pv.heap Y7 (fun h=>h),?_,Ub.trans Pv (fun _ _ h=>h.elim)⟩,by simp only;omega⟩;rw [List.length_append];exact Row.aF (Row.aF (Row.aF la g3 (fun q hq e=>by have:=(Row.bL la hq).1;omega)) AR (fun _ _ h=>h)) Pv (fun _ _ h=>h)
end
theorem ZK(w:World)(r j:Nat)(v:Value):setCells w ((⟨r,0,none⟩:Addr).add j) [v] 0=w.setCell ⟨r,j,none⟩ v:=by
 simp only [setCells];rw [bt,bt,Nat.add_zero,Nat.zero_add]
theorem jS{v:World}{b:Nat}{z:Array Value}{t:TypeId}(s:HT)(h:v.heap[b]? =some (.cells z t (0,0)))(hz:z.size=32):
 (s.1.size=32/\(∀c∈s.1.toList,c.oneCell'=true)/\∀j,j<32->Wr v ((⟨b,0,none⟩:Addr).add j))/\(setCells v (⟨b,0,none⟩:Addr) s.1.toList 0).heap[b]? =some (.cells s.1 t (0,0))/\Kept (· =b) v (setCells v (⟨b,0,none⟩:Addr) s.1.toList 0):=by
 obtain⟨h1,h2,h3⟩:=dU h (cs:=s.1) (by rw [s.2.1];exact hz);exact⟨⟨s.2.1,s.2.one,fun j hj=>h1 j (by rw [s.2.1];exact hj)⟩,h2,h3⟩
theorem rF.one(r:HT):rF [⟨r,[]⟩] [-1]:=⟨rfl,rfl,fun i p nd hi hp=>by
 cases i with
 |zero=>omega
 |succ i=>simp at hp⟩
section
variable{w w':World}{F F' S:Nat->Prop}{r:Nat}{D:DG}{P:List Int}{K:Value->World->Prop}
theorem yD(root:HT)(hK:∀v r F,o8 v F r [⟨root,[]⟩] [-1]->(∀k,F k->w.heap.size<=k/\k<v.heap.size)->w.heap.size<=r->Kept Nil w v->K (.pointer (some ⟨r,0,none⟩)) v):
 bC prog kK.id #[.agg root.1] w K:=by
 refine kK.of ?_;unfold kK.W;intro w2;have k2:Kept Nil w w2:=(Kept.refl _ _).alloc _;have lE:w2.heap[w.heap.size]? =some (.cells root.1 ag (0,0)):=aH w _;clear_value w2;have ml:(root.1.push (.slice none 0 0)).size=33:=by rw [Array.size_push,root.2.1]
 refine⟨root.1,⟨root.2.1,Cells.bL lE⟩,?_⟩;rw [JS];refine Is.mk rfl ⟨ml,?_⟩;intro w5;have h5:w5.heap[w2.heap.size]? =some (.cells (root.1.push (.slice none 0 0)) bX (0,0)):=by
  have:=aH w2 (.cells (root.1.push (.slice none 0 0)) bX);show(w2.alloc (.cells ((root.1.push (.slice none 0 0)).toList++ []).toArray bX)).heap[w2.heap.size]? =_;rw [List.append_nil,Array.toArray_toList];exact this
 have k5:Kept Nil w2 w5:=(Kept.refl _ _).alloc _;clear_value w5;refine⟨rfl,?_⟩;intro w6;have h6:w6.heap[w5.heap.size]? =some (.cells eN.1 ag (0,0)):=aH w5 _;have k6:Kept Nil w5 w6:=(Kept.refl _ _).alloc _;clear_value w6;intro w7;have h7:w7.heap[w6.heap.size]? =some (.cells #[.slice (some ⟨w2.heap.size,0,none⟩) 1 1,.slice (some ⟨w5.heap.size,0,none⟩) 1 1] jL (0,0)):=aH w6 _;have k7:Kept Nil w6 w7:=(Kept.refl _ _).alloc _;clear_value w7;have s2:=k2.size;have s5:=k5.size;have s6:=k6.size;have l5:=aU h5;have l6:=aU h6;have h57:=k7.heap (k6.heap h5 (fun h=>h)) (fun h=>h);have h67:=k7.heap h6 (fun h=>h);have l67:=aU h67;refine hK w7 _ (fun k=>k=w2.heap.size\/k=w5.heap.size) ⟨⟨_,_,_,_,[eN],h7,⟨rfl,fun i nd hi=>?_⟩,HS.one h67,fun a ha=>by cases ha;exact .inr rfl,⟨rfl,fun i j m hi hj=>?_⟩⟩,fun e=>by omega,rF.one root,jY.root root⟩ (fun k e=>by omega) (by omega) (((k2.tt k5).tt k6).tt k7)
 ·cases i with
  |zero=>
   simp at hi;subst hi;refine⟨_,none,0,0,rfl,aU h57,.inl rfl,fun j u hj=>?_,HS.nil _ _,fun b hb=>by cases hb⟩;rw [Nat.zero_mul,add_zero,bt,Nat.zero_add,aD h57];exact hj
  |succ i=>simp at hi
 ·cases i with
  |zero=>simp at hi
  |succ i=>simp at hi
theorem MH.snoc{l:List HT}(h:MH D P l)(hs:rF D P)(W:jY D){nd:DN}{j:Nat}{mj:DN}(hj:D[j]? =some mj):MH (D++ [nd]) (P++ [(j:Int)]) (l++ [mj.id]):=by
 have tU:=(lgeS hj).1;refine⟨by simp [h.1],fun i k m hi hm=>?_⟩;by_cases dS:i<P.length
 ·rw [List.getElem?_append_left dS]at hi
  have QC:i<D.length:=by rw [<-hs.len];exact dS
  rw [List.getElem?_append_left (by rw [h.1];exact QC)];have ln:=hs.par;have hk:k<D.length:=by
   rcases Nat.eq_zero_or_pos i with rfl|h0
   ·rw [ln.root]at hi;simp only [Option.some.injEq]at hi;omega
   ·obtain⟨j',h1,h2⟩:=ln.up i _ h0 hi
    omega
  rw [List.getElem?_append_left hk]at hm;exact h.2 i k m hi hm
 ·have aca:=(lgeS hi).1
  have e:i=P.length:=by simp at aca;omega
  subst e;simp at hi;have:k=j:=by omega
  subst this;rw [List.getElem?_append_left tU,hj]at hm;cases hm;rw [hs.len,<-h.1];simp
theorem FD(H:o8 w F r D P)(hF:∀k,F k->k<w.heap.size)(hD:D.length<=5000){h s:HT}{lp:List HT}{A:Option Addr}{n c:Nat}(hl:HS w A n lp)(hn:n<=100000)
 (hK:∀w',o8 w' (fun k=>F k\/(w.heap.size<=k/\k<w'.heap.size)) r (nY D h s lp) (nX D P h s lp)->Kept (· =r) w w'->K (.int .i64 (ik D h s lp)) w'):
 bC prog fH.id #[.pointer (some ⟨r,0,none⟩),.agg h.1,.agg s.1,.slice A n c] w K:=by
 have aa8:=H.lt;have W:=H.W;have lH:∀w',Kept Nil w w'->∀e,ik D h s lp=e->e≠0->K (.int .i64 e) w':=fun w' k e he fM=>by
  have:=hK w' ?_ (k.mono fun _ _ h=>h.elim)
  ·rw [he]at this;exact this
  ·unfold nY nX
   rw [if_neg (by rw [he];exact fM),if_neg (by rw [he];exact fM)];exact(H.same k).mono (fun _ h=>.inl h) (fun e=>e.elim H.iG (fun h=>by omega))
 refine fH.of ?_;unfold fH.W;intro w5 w6;have k5:Kept Nil w w5:=(Kept.refl _ _).alloc _;have L7:w5.heap[w.heap.size]? =some (.cells h.1 ag (0,0)):=aH w _;have k6:Kept Nil w5 w6:=(Kept.refl _ _).alloc _;have LG:w6.heap[w5.heap.size]? =some (.cells s.1 ag (0,0)):=aH w5 _;clear_value w6;have YK:=k6.heap L7 (fun h=>h);have qZ:=k5.tt k6;have s5:=k5.size;have s6:=k6.size;have l5:=aU L7;have l6:=aU LG;clear_value w5;obtain⟨A0,c0,B0,e0,sl,jv,sA,BU,hB0,adj⟩:=H.ex;have UE:=qZ.heap jv (fun h=>h);refine Is.mk rfl ⟨#[.slice A0 D.length c0],⟨rfl,fun j v hj=>?_⟩,?_⟩
 ·cases j with
  |zero=>
   rw [add_zero,add_zero,aD UE];simpa using hj
  |succ j=>simp at hj
 intro w9;have h9:w9.heap[w6.heap.size]? =some (.cells #[.slice none 0 0] iK (0,0)):=aH w6 _;have k9:Kept Nil w6 w9:=(Kept.refl _ _).alloc _;clear_value w9;obtain⟨g1,g2,g3⟩:=dU h9 (cs:= #[.slice A0 D.length c0]) rfl;refine⟨⟨rfl,fun u hu=>?_,fun j hj=>g1 j hj⟩,?_⟩
 ·simp at hu
  subst hu;rfl
 intro lK
 replace g2:lK.heap[w6.heap.size]? =some (.cells #[.slice A0 D.length c0] iK (0,0)):=g2
 replace g3:Kept (· =w6.heap.size) w9 lK:=g3
 clear_value lK;have Cx:Kept Nil w6 lK:=k9.trans g3 (fun k hk e=>by omega);have sX:=qZ.tt Cx;refine⟨h.1,⟨h.2.1,Cells.bL (Cx.heap YK (fun h=>h))⟩,?_⟩;have hR:uR lK F w6.heap.size D:=⟨⟨A0,c0,_,_,g2,rfl,sA.same sX⟩,fun e=>by have:=hF _ e;omega⟩;have s12:=sX.size;refine DX hR W (by omega) (hl.same sX) (by omega) fun nM Xh tP=>⟨_,rfl,?_⟩;have PI:Kept Nil w nM:=sX.trans tP (fun k hk e=>by omega);by_cases hC:dL D h lp≠0
 ·refine Split.yes (by simpa using hC) ?_
  refine lH nM PI _ ?_ hC;unfold ik;rw [if_neg hC]
 replace hC:=Classical.not_not.1 hC
 refine Split.no (by rw [hC];rfl) ?_;have UM:nM.heap[w5.heap.size]? =some (.cells s.1 ag (0,0)):=tP.heap (Cx.heap LG (fun h=>h)) (by omega);refine⟨s.1,⟨s.2.1,Cells.bL UM⟩,yA s (hl.same PI) (by omega) fun pf xV=>⟨_,rfl,?_⟩⟩;have IG:=PI.tt xV;by_cases vU:¬s∈lp
 ·refine Split.yes (by rw [decide_eq_false vU];rfl) ?_
  refine lH pf IG 2 ?_ (by omega);unfold ik;rw [if_pos hC,if_neg vU]
 replace vU:=Classical.not_not.1 vU
 refine Split.no (by rw [decide_eq_true vU];rfl) ?_;have eX:ik D h s lp=0:=by unfold ik;rw [if_pos hC,if_pos vU]
 obtain⟨gK,fM,gu,dt⟩:=lI hC;obtain⟨mj,Qr,Qq⟩:=dr.1 (dt s (dV.2 vU));obtain⟨j,hj⟩:=List.mem_iff_getElem?.1 Qr;have eP:nX D P h s lp=P++ [(j:Int)]:=by
  unfold nX;rw [if_pos eX,<-Qq,W.pos_eq hj];rfl
 have eD:nY D h s lp=D++ [⟨h,dD lp⟩]:=by unfold nY;rw [if_pos eX]
 rw [p9 hC]at Xh;obtain⟨A1,c1,cs1,t1,h1,WB,Vm⟩:=(Xh.same xV).ex;rw [List.length_append,List.length_singleton]at Vm WB;have QN:pf.cell? (aP w6.heap.size)=some (.slice A1 (D.length+1) c1):=by rw [aD h1];exact WB
 have sz1:=IG.size;have IU:=IG.heap jv (fun h=>h);refine⟨#[.slice A1 (D.length+1) c1],⟨rfl,fun i v hi=>?_⟩,Is.mk rfl ⟨⟨rfl,fun u hu=>?_,fun i hi=>?_⟩,?_⟩⟩
 ·cases i with
  |zero=>
   rw [add_zero,QN];simpa using hi
  |succ i=>simp at hi
 ·simp at hu
  subst hu;rfl
 ·have:i=0:=by omega
  subst this;rw [add_zero,add_zero];exact dm IU (by simp)
 intro KO o9;have aaS:KO.heap[r]? =some (.cells #[.slice A1 (D.length+1) c1,.slice B0 D.length e0] jL (0,0)):=by
  show(setCells pf ((⟨r,0,none⟩:Addr).add 0) [.slice A1 (D.length+1) c1] 0).heap[r]? =_;rw [ZK,cV IU];rfl
 have Eh:Kept (· =r) pf KO:=by
  show Kept (· =r) pf (setCells pf ((⟨r,0,none⟩:Addr).add 0) [.slice A1 (D.length+1) c1] 0)
  rw [add_zero];exact fp _ _ _ _
 have AR:Kept Nil KO o9:=(Kept.refl _ _).drew;clear_value o9 KO;have P2:=AR.heap aaS (fun h=>h);have xU:Kept (· =r) pf o9:=Eh.trans AR (fun _ _ h=>h.elim);have Nu:HS o9 B0 D.length sl:=(BU.same IG).aF xU (fun a ha e=>H.iG (e▸hB0 a ha));have I0:o9.heap[w5.heap.size]? =some (.cells s.1 ag (0,0)):=xU.heap (xV.heap UM (fun h=>h)) (fun e=>by omega);refine Is.mk rfl ⟨B0,D.length,e0,by rw [bt,aD P2];rfl,s.1,⟨s.2.1,Cells.bL I0⟩,?_⟩;have fin:∀(v:World) (A2:Option Addr) (c2:Nat),Kept Nil o9 v->bI v o9.heap.size A2 (D.length+1) c2 (sl++ [s])->
  Is (some (⟨r,0,none⟩:Addr)) fun a=>Wr v (a.add 1)/\K (.int .i64 0) (v.setCell (a.add 1) (.slice A2 (D.length+1) c2)):=fun v A2 c2 kv row=>by
  refine Is.mk rfl ?_;rw [bt];have hv:=kv.heap P2 (fun h=>h);have kf:Kept (· =r) v (v.setCell ⟨r,0+1,none⟩ (.slice A2 (D.length+1) c2)):=Kept.setCell (S:=fun k=>k=r) (Kept.refl _ v) (p:=⟨r,0+1,none⟩) (fun _=>rfl) _;refine⟨dm hv (by simp),?_⟩;have lP:Kept (· =r) w (v.setCell ⟨r,0+1,none⟩ (.slice A2 (D.length+1) c2)):=(((IG.mono (S':=(· =r)) (fun _ _ h=>h.elim)).tt xU).trans kv (fun _ _ h=>h.elim)).tt kf;have:=hK (v.setCell ⟨r,0+1,none⟩ (.slice A2 (D.length+1) c2)) ?_ lP
  ·rw [eX]at this
   exact this
  rw [eD,eP];have hbA:∀b,bn A2=some b->o9.heap.size<=b/\b<v.heap.size:=fun b hb=>by
   obtain⟨q1,cur,q2⟩:=Row.bL row hb;exact⟨q1,aU q2⟩
  have s26:=xU.size;have sv:=kv.size;have sf:=kf.size;have afj:Kept (· =r) nM o9:=(xV.mono (S':=(· =r)) (fun _ _ h=>h.elim)).tt xU;refine⟨⟨A1,c1,A2,c2,sl++ [s],?_,?_,?_,fun a ha=>.inr ?_,?_⟩,fun e=>e.elim H.iG (fun e=>by omega),H.iA.snoc hj (by rw [Qq];exact dV.2 vU) (by have:=(lgeS hj).1;omega),W.snoc gK dt (jl lp)⟩
  ·rw [List.length_append,List.length_singleton,cV hv]
   rfl
  ·rw [List.length_append,List.length_singleton]
   have oR:Kept (· =r) pf (v.setCell ⟨r,0+1,none⟩ (.slice A2 (D.length+1) c2)):=(xU.trans kv (fun _ _ h=>h.elim)).tt kf;refine(Vm.aF oR fun k hk e=>?_).mono fun k hk=>?_
   ·rcases hk with hk|hk
    ·exact H.iG (e▸hk)
    ·omega
   ·rcases hk with hk|hk
    ·exact .inl hk
    ·have:=xV.size
     exact .inr ⟨by omega,by omega⟩
  ·rw [List.length_append,List.length_singleton]
   exact(bI.hs row).aF kf (fun a ha e=>by have:=hbA a.block (by rw [ha];rfl);omega)
  ·have:=hbA a.block (by rw [ha];rfl)
   exact⟨by omega,by omega⟩
  ·rw [<-Qq]
   exact adj.snoc H.iA W hj
 have nf:∀ {u:World},Kept Nil o9 u->∃cs:Array Value,(.agg s.1:Value)=.agg cs/\cs.size=32/\Cells u (aP w5.heap.size) cs:=fun k=>⟨s.1,rfl,s.2.1,Cells.bL (k.heap I0 (fun h=>h))⟩;refine⟨?_,?_⟩
 ·obtain⟨A3,c3,Hq,UX,DU,acq,WV⟩:=cK (cx:=e0) ay (bI.nil o9 o9.heap.size) Nu (by omega) (Nat.le_refl _)
  rw [Nat.zero_add]at UX DU;rw [List.nil_append]at DU;have M5:Kept Nil o9 Hq:=Kept.dO (Kept.refl _ _) acq (fun k hk=>by cases hk);refine⟨A3,_,c3,Hq,UX,nf M5,s.2.1,?_⟩;intro uE;have G6:Kept Nil Hq uE:=(Kept.refl _ _).alloc _;have aaK:HS uE (some ⟨Hq.heap.size,0,none⟩) 1 [s]:=jf Hq s;clear_value uE;have s32:=G6.size;have s31:=M5.size;obtain⟨A4,c4,ot,LI,Ac,QM,WU⟩:=cK (cx:=1) ay (Row.aF DU G6 (fun _ _ h=>h)) aaK (by omega) (by omega);have BR:Kept Nil o9 ot:=Kept.dO (M5.tt G6) QM (fun k hk=>(Row.bL DU hk).1);exact⟨A4,_,c4,ot,LI,fin ot A4 c4 BR Ac⟩
 ·refine⟨s.2.1,?_⟩
  intro xz;have Ga:Kept Nil o9 xz:=(Kept.refl _ _).alloc _;have aaJ:HS xz (some ⟨o9.heap.size,0,none⟩) 1 [s]:=jf o9 s;clear_value xz;have s37:=Ga.size;refine⟨by rw [bt,aD (Ga.heap P2 (fun h=>h))];rfl,?_⟩;obtain⟨A3,c3,G4,UW,DT,acp,Mg⟩:=cK (cx:=e0) ay (bI.nil xz xz.heap.size) (Nu.same Ga) (by omega) (Nat.le_refl _);rw [Nat.zero_add]at UW DT;rw [List.nil_append]at DT;have Iq:Kept Nil xz G4:=Kept.dO (Kept.refl _ _) acp (fun k hk=>by cases hk);have s39:=Iq.size;obtain⟨A4,c4,OK,abg,MQ,aco,WS⟩:=cK (cx:=1) ay DT (aaJ.same Iq) (by omega) (by omega);have Pu:Kept Nil xz OK:=Kept.dO Iq aco (fun k hk=>(Row.bL DT hk).1);exact⟨A3,_,c3,G4,UW,A4,_,c4,OK,abg,fin OK A4 c4 (Ga.tt Pu) (Row.base MQ (fun k hk=>by have:=(Row.bL MQ hk).1;omega))⟩
end
section
variable{w w' v:World}{F FP FR S S2 F2:Nat->Prop}{x r:Nat}{D D':DG}{P P':List Int}{K:Value->World->Prop}
theorem Cr(h:DD w S F x D P)(hD:D.length<=5000)(hT:uA w)(KF:¬S (Tryz.jV.g 1)){A:Option Addr}{n cx:Nat}{lp:List HT}(hl:HS w A n lp)(hn:n<=5000)(hid s:HT)
 (hK:∀u S' F',DD u S' F' x (nY D hid s lp) (nX D P hid s lp)->Kept S w u->(∀k,S' k->S k\/w.heap.size<=k)->(∀k,F' k->F k\/w.heap.size<=k)->K (.int .i64 (ik D hid s lp)) u):
 bC prog aE.id #[.pointer (some ⟨x,0,none⟩),.agg hid.1,.agg s.1,.slice A n cx] w K:=by
 obtain⟨m,h1,h2⟩:=h;refine FE h1 hD hT (fun e=>KF (h2 _ (.inl e))) hl hn hid s (fun u k hc=>?_) (fun u S' F' hI k hS hF hc=>?_)
 ·refine hK u S F ?_ (k.mono fun _ _ h=>h.elim) (fun k h=>.inl h) (fun k h=>.inl h)
  unfold nY nX;rw [if_neg hc,if_neg hc];exact⟨m,h1.same k,h2⟩
 ·have:=hK u S' F' hI (k.mono fun k _ h=>h2 k h) (fun k h=>(hS k h).imp (h2 k) (fun h=>h)) hF
  rw [hc]at this;exact this
end
end Go.Proofs.YtfleamccglihoaaGreatDoor
namespace Go.Proofs.YtfleamccglihoaaGreatDoor
open Go.Proofs.Tryz
open Go Go.bW Go.RowKit
open Tr (kR)
theorem four(w:World)(r a b c:HT):
 let w1:=w.alloc (.cells eN.1 ag);let w2:=w1.alloc (.cells eN.1 ag);let w3:=w2.alloc (.cells eN.1 ag);let w4:=w3.alloc (.cells eN.1 ag)
 let w7:=setCells w4 (aP w.heap.size) r.1.toList 0;let w10:=setCells w7 (aP w1.heap.size) a.1.toList 0;let mT:=setCells w10 (aP w2.heap.size) b.1.toList 0;let jH:=setCells mT (aP w3.heap.size) c.1.toList 0
 ((∀j,j<32->Wr w4 ((aP w.heap.size).add j))/\(∀j,j<32->Wr w7 ((aP w1.heap.size).add j))/\(∀j,j<32->Wr w10 ((aP w2.heap.size).add j))/\(∀j,j<32->Wr mT ((aP w3.heap.size).add j)))/\
 jH.heap[w.heap.size]? =some (.cells r.1 ag (0,0))/\jH.heap[w1.heap.size]? =some (.cells a.1 ag (0,0))/\jH.heap[w2.heap.size]? =some (.cells b.1 ag (0,0))/\jH.heap[w3.heap.size]? =some (.cells c.1 ag (0,0))/\
 w.heap.size<w1.heap.size/\w1.heap.size<w2.heap.size/\w2.heap.size<w3.heap.size/\w3.heap.size<jH.heap.size/\Kept Nil w jH:=by
 intro w1 w2 w3 w4;have k1':Kept Nil w w1:=(Kept.refl _ _).alloc _;have Cz:Kept Nil w1 w2:=(Kept.refl _ _).alloc _;have AQ:Kept Nil w2 w3:=(Kept.refl _ _).alloc _;have Ls:Kept Nil w3 w4:=(Kept.refl _ _).alloc _;have mU:w1.heap[w.heap.size]? =some (.cells eN.1 ag (0,0)):=aH w _;have Hb:w2.heap[w1.heap.size]? =some (.cells eN.1 ag (0,0)):=aH w1 _;have mK:w3.heap[w2.heap.size]? =some (.cells eN.1 ag (0,0)):=aH w2 _;have QU:w4.heap[w3.heap.size]? =some (.cells eN.1 ag (0,0)):=aH w3 _;clear_value w4;have ph:=Ls.heap mK (fun h=>h);have Bj:=Ls.heap (AQ.heap Hb (fun h=>h)) (fun h=>h);have wJ:=Ls.heap (AQ.heap (Cz.heap mU (fun h=>h)) (fun h=>h)) (fun h=>h);have l1:=aU mU;have l2:=aU Hb;have l3:=aU mK;have l4:=aU QU;clear_value w3 w2 w1;have Ig:Kept Nil w w4:=((k1'.tt Cz).tt AQ).tt Ls;have sz:∀h:HT,eN.1.size=h.1.size:=fun h=>by rw [h.2.1];rfl
 obtain⟨wr7,Nw,k7⟩:=dU wJ (cs:=r.1) (sz r);rw [r.2.1]at wr7;intro w7
 replace Nw:w7.heap[w.heap.size]? =some (.cells r.1 ag (0,0)):=Nw
 replace k7:Kept (· =w.heap.size) w4 w7:=k7
 clear_value w7;obtain⟨SN,Q8,lX⟩:=dU (k7.heap Bj (by omega)) (cs:=a.1) (sz a);rw [a.2.1]at SN;intro w10
 replace Q8:w10.heap[w1.heap.size]? =some (.cells a.1 ag (0,0)):=Q8
 replace lX:Kept (· =w1.heap.size) w7 w10:=lX
 clear_value w10;obtain⟨SM,y5,tQ⟩:=dU (lX.heap (k7.heap ph (by omega)) (by omega)) (cs:=b.1) (sz b);rw [b.2.1]at SM;intro mT
 replace y5:mT.heap[w2.heap.size]? =some (.cells b.1 ag (0,0)):=y5
 replace tQ:Kept (· =w2.heap.size) w10 mT:=tQ
 clear_value mT;obtain⟨SL,Mf,nt⟩:=dU (tQ.heap (lX.heap (k7.heap QU (by omega)) (by omega)) (by omega)) (cs:=c.1) (sz c);rw [c.2.1]at SL;intro jH
 replace Mf:jH.heap[w3.heap.size]? =some (.cells c.1 ag (0,0)):=Mf
 replace nt:Kept (· =w3.heap.size) mT jH:=nt
 clear_value jH;have Tc:=aU Mf;exact⟨⟨wr7,SN,SM,SL⟩,nt.heap (tQ.heap (lX.heap Nw (by omega)) (by omega)) (by omega),nt.heap (tQ.heap Q8 (by omega)) (by omega),nt.heap y5 (by omega),Mf,by omega,by omega,by omega,Tc,
  (((Ig.trans k7 (fun k hk e=>by omega)).trans lX (fun k hk e=>by omega)).trans tQ (fun k hk e=>by omega)).trans nt (fun k hk e=>by omega)⟩
section
variable{r a b c:HT}(yU:r≠a)(wY:r≠b)(Et:r≠c)(jT:a≠b)(EG:a≠c)(BX:b≠c)
end
section
variable{w w':World}{K:Value->World->Prop}
end
end Go.Proofs.YtfleamccglihoaaGreatDoor
namespace Go.Proofs.YtfleamccglihoaaGreatDoor
open Go.Proofs.Tryz
open Go Go.bW Go.RowKit
open Go.ChangeMaps (setBlock)
theorem tu{x:HT}{v:Value}:∀ {l:List (HT×Value)} {j:Nat},(l.map (·.1)).Nodup->l[j]? =some (x,v)->assoc x l=some v
 | [],_,_,h=>by simp at h
 |(y,u)::l,0,_,h=>by
  simp at h;obtain⟨rfl,rfl⟩:=h;unfold assoc;rw [if_pos rfl]
 |(y,u)::l,j+1,hn,h=>by
  simp only [List.map_cons,List.nodup_cons]at hn;have hm:x∈l.map (·.1):=List.mem_map.2 ⟨(x,v),List.mem_of_getElem? (i:=j) (by simpa using h),rfl⟩;unfold assoc;rw [if_neg (fun e:x=y=>hn.1 (by rw [<-e];exact hm))];exact tu hn.2 (j:=j) (by simpa using h)
theorem yl{x:HT}{v:Value}:∀ {l:List (HT×Value)},assoc x l=some v->∃j:Nat,l[j]? =some (x,v)
 | [],h=>by simp [assoc]at h
 |(y,u)::l,h=>by
  unfold assoc at h;split at h
  ·rename_i e
   subst e;cases h;exact⟨0,rfl⟩
  ·obtain⟨j,hj⟩:=yl h
   exact⟨j+1,by simpa using hj⟩
theorem nI.of{es:List MapEntry}{l:List (HT×Value)}(h:nI es l){j:Nat}{e:MapEntry}(he:es[j]? =some e):∃p,l[j]? =some p/\e.key=.agg p.1.1/\e.val=p.2:=by
 have hlen:=h.len;have hj:=(lgeS he).1;obtain⟨p,hp⟩:∃p,l[j]? =some p:=⟨_,List.getElem?_eq_getElem (by omega)⟩;obtain⟨e',g1,g2,g3⟩:=h.get hp;rw [he]at g1;cases g1;exact⟨p,hp,g2,g3⟩
theorem zq{x y:HT}(h:(Value.agg x.1:Value)=.agg y.1):x=y:=by
 cases h':x;cases Y5:y
 simp_all
structure oW(w:World)(m it:Nat)(f:HT->Option Value)(left:HT->Prop)(B7:Nat):Prop where
 ne:it≠m
 ex:∃es clock l since seen c0,w.heap[m]? =some (.map es clock)/\nI es.toList l/\(∀x,assoc x l=f x)/\(es.toList.map (·.born)).Nodup/\(l.map (·.1)).Nodup/\
  w.heap[it]? =some (.mapIter (some m) since seen c0)/\(∀e∈es.toList,e.born<since)/\since<=c0/\since<=clock/\(leftOf es seen).size=B7/\∀x,left x↔∃e∈es.toList,e.key=.agg x.1/\seen.contains e.born=false
section
variable{w w':World}{m it:Nat}{f:HT->Option Value}{left:HT->Prop}{B7:Nat}
theorem oW.aF{S:Nat->Prop}(h:oW w m it f left B7)(hk:Kept S w w')(h1:¬S m)(h2:¬S it):oW w' m it f left B7:=by
 obtain⟨es,clock,l,since,seen,c0,g1,g2,g3,g4,g5,g6,g7⟩:=h.ex;exact⟨h.ne,es,clock,l,since,seen,c0,hk.heap g1 h1,g2,g3,g4,g5,hk.heap g6 h2,g7⟩
theorem oW.left_eq(h:oW w m it f left B7):w.rangeLeft m it=B7:=by
 obtain⟨es,clock,l,since,seen,c0,g1,g2,g3,g4,g5,g6,g7,_,_,g8,_⟩:=h.ex;simp only [World.rangeLeft,g1,g6];exact g8
theorem oW.lt(h:oW w m it f left B7):it<w.heap.size:=by
 obtain⟨es,clock,l,since,seen,c0,g1,g2,g3,g4,g5,g6,_⟩:=h.ex;exact aU g6
theorem fR.range{mt te:TypeId}{z:Value}(T:xx mt te z)(h:fR w m f):∃w' B7,(Instr.range mt (.map (some m))).run prog w=.ok (.pointer (some ⟨w.heap.size,0,none⟩)) w'/\oW w' m w.heap.size f (fun x=>f x≠none) B7/\Kept Nil w w':=by
 obtain⟨es,clock,l,g1,g2,g3,g4,g5,g6⟩:=h.ex;have cY:=h.lt;refine⟨w.alloc (.mapIter (some m) clock #[] clock),_,run_range_map w mt ag te m es clock T.pg g1,⟨by omega,es,clock,l,clock,#[],clock,iI g1 _,g2,g3,g5,g6,aH w _,g4,Nat.le_refl _,Nat.le_refl _,rfl,fun x=>?_⟩,(Kept.refl _ _).alloc _⟩;rw [<-g3];constructor
 ·intro hx
  cases ha:assoc x l with
  |none=>exact absurd ha hx
  |some v=>
   obtain⟨j,hj⟩:=yl ha;obtain⟨e,he,hk,_⟩:=g2.get hj;exact⟨e,List.mem_of_getElem? he,hk,by simp⟩
 ·rintro⟨e,he,hk,_⟩
  obtain⟨j,hj⟩:=List.mem_iff_getElem?.1 he;obtain⟨⟨y,v⟩,hp,l9,_⟩:=g2.of hj;have:y=x:=zq (l9.symm.trans hk);subst this;rw [tu g6 hp];simp
theorem oW.next(h:oW w m it f left B7)(ty:TypeId):
 (B7=0/\(∀x,¬left x)/\(Instr.next (.pointer (some ⟨it,0,none⟩)) false ty).run prog w=.ok (.tuple #[.bool false]) w)\/
 ∃(x:HT) (v:Value) (w':World) (XF:Nat),left x/\f x=some v/\(Instr.next (.pointer (some ⟨it,0,none⟩)) false ty).run prog w=.ok (.tuple #[.bool true,.agg x.1,v]) w'/\
  (Instr.entry (.pointer (some ⟨it,0,none⟩))).run prog w'=.ok (.tuple #[.agg x.1,v]) w'/\oW w' m it f (fun y=>left y/\y≠x) XF/\XF<B7/\Kept (· =it) w w':=by
 have fM:=h.ne;obtain⟨es,clock,l,since,seen,c0,g1,g2,g3,g4,g5,g6,g7,g8,g8',rfl,g9⟩:=h.ex;rcases run_next_at (P:=prog) w ty it m since c0 seen es clock g6 g1 g7 g8 with⟨h0,hr⟩|⟨e,he,w1,Kw,hr⟩
 ·refine .inl ⟨h0,fun x hx=>?_,hr⟩
  obtain⟨e,he,_,hs⟩:=(g9 x).1 hx;have hm:e∈leftOf es seen:=by
   unfold leftOf;rw [Array.mem_filter];exact⟨by simpa using he,by rw [hs];rfl⟩
  have:=Array.size_pos_of_mem hm;omega
 ·obtain⟨YL,hes⟩:=mem_left he
  obtain⟨j,hj⟩:=List.mem_iff_getElem?.1 YL;obtain⟨⟨x,v⟩,hp,hk,hv⟩:=g2.of hj;have hk:e.key=.agg x.1:=hk;have hv:e.val=v:=hv;rw [hk,hv]at hr;have ab8:w1.heap[it]? =some (.mapIter (some m) since seen c0):=by rcases Kw with rfl|rfl<;>exact g6
  have NJ:w1.heap[m]? =some (.map es clock):=by rcases Kw with rfl|rfl<;>exact g1
  have LF:(setBlock w1 it (.mapIter (some m) since (seen.push e.born) clock)).heap[it]? =some (.mapIter (some m) since (seen.push e.born) clock):=by
   have:=aU ab8;simp [setBlock,this]
  have Ve:(setBlock w1 it (.mapIter (some m) since (seen.push e.born) clock)).heap[m]? =some (.map es clock):=by
   simp [setBlock,fM,NJ]
  have VV:Kept (· =it) w (setBlock w1 it (.mapIter (some m) since (seen.push e.born) clock)):=by
   have hd:w.drew.heap=w.heap:=rfl;rcases Kw with rfl|rfl
   ·exact⟨rfl,rfl,rfl,by simp [setBlock],fun k _ hk=>by simp [setBlock,Ne.symm hk]⟩
   ·exact⟨rfl,rfl,rfl,by simp [setBlock,hd],fun k _ hk=>by simp [setBlock,hd,Ne.symm hk]⟩
  refine .inr ⟨x,v,_,_,(g9 x).2 ⟨e,YL,hk,hes⟩,by rw [<-g3];exact tu g5 hp,hr,?_,⟨fM,es,clock,l,since,seen.push e.born,clock,Ve,g2,g3,g4,g5,LF,g7,g8',g8',rfl,fun y=>?_⟩,left_shrinks es seen e he,VV⟩
  ·have:=run_entry_at (P:=prog) _ it m since seen es clock e LF Ve YL g4
   rw [hk,hv]at this;exact this
  ·have MD:∀ {e':MapEntry},e'∈es.toList->e'.born=e.born->e'=e:=fun {e'} Me hb=>by
    obtain⟨j',vW⟩:=List.mem_iff_getElem?.1 Me;have h1:(es.toList.map (·.born))[j']? =some e'.born:=by rw [List.getElem?_map,vW];rfl
    have h2:(es.toList.map (·.born))[j]? =some e.born:=by rw [List.getElem?_map,hj];rfl
    rw [hb]at h1;have g1:=lgeS h1;have g2:=lgeS h2;have:j'=j:=(List.getElem_inj g4).1 (g1.2.trans g2.2.symm);subst this;rw [hj]at vW;cases vW;rfl
   rw [g9];constructor
   ·rintro⟨⟨e',Me,oR,nR⟩,abJ⟩
    refine⟨e',Me,oR,?_⟩;rw [contains_push,nR,Bool.false_or,beq_eq_false_iff_ne];intro hb;have:=MD Me hb;subst this;exact abJ (zq (oR.symm.trans hk))
   ·rintro⟨e',Me,oR,nR⟩
    rw [contains_push,Bool.or_eq_false_iff]at nR;refine⟨⟨e',Me,oR,nR.1⟩,fun Ep=>?_⟩;subst Ep;obtain⟨j',vW⟩:=List.mem_iff_getElem?.1 Me;obtain⟨⟨y',v'⟩,Ja,l9,_⟩:=g2.of vW;have e1:y'=y:=zq (l9.symm.trans oR);subst e1;have h1:(l.map (·.1))[j']? =some y':=by rw [List.getElem?_map,Ja];rfl
    have h2:(l.map (·.1))[j]? =some y':=by rw [List.getElem?_map,hp];rfl
    have g1:=lgeS h1;have g2:=lgeS h2;have:j'=j:=(List.getElem_inj g5).1 (g1.2.trans g2.2.symm);subst this;rw [hj]at vW;cases vW;simp at nR
end
end Go.Proofs.YtfleamccglihoaaGreatDoor
