import Derived.Test.YtfleamccglihoaaGreatDoorMI
import Derived.Test.YtfleamccglihoaaGreatDoorMG
import Derived.Test.YtfleamccglihoaaGreatDoorMF
import Derived.Maps.Range
import Derived.Test.YtfleamccglihoaaGreatDoorMH
open Go.IntKind (i64 u64)
set_option linter.unusedVariables false
namespace Go.Proofs.YtfleamccglihoaaGreatDoor
open Go.Proofs.Tryz
open Go Go.bT Go.RowKit
def Mu(D:DG)(P:List Int)(l:List HT):Prop:=l.length=D.length/\∀(i j:Nat) (m:DN),P[i]? =some (j:Int)->D[j]? =some m->l[i]? =some m.id
structure o8(w:World)(F:Nat->Prop)(r:Nat)(D:DG)(P:List Int):Prop where
 ex:∃(A:Option Addr) (c:Nat) (B:Option Addr) (e:Nat) (l:List HT),w.heap[r]? =some (.cells #[.slice A D.length c,.slice B D.length e] jO (0,0))/\NS w F A D.length D/\HS w B D.length l/\(∀a,B=some a->F a.block)/\Mu D P l
 iC:¬F r
 iY:rO D P
 W:j0 D
section
variable{w w':World}{F F' S:Nat->Prop}{r:Nat}{D:DG}{P:List Int}{K:Value->World->Prop}
theorem o8.aF(h:o8 w F r D P)(hk:Kept S w w')(hr:¬S r)(hn:∀k,F k->¬S k):o8 w' F r D P:=by
 obtain⟨A,c,B,e,l,h1,h2,h3,h4,h5⟩:=h.ex;exact⟨⟨A,c,B,e,l,hk.heap h1 hr,h2.aF hk hn,h3.aF hk (fun a ha=>hn _ (h4 a ha)),h4,h5⟩,h.iC,h.iY,h.W⟩
theorem o8.same(h:o8 w F r D P)(hk:Kept Nil w w'):o8 w' F r D P:=h.aF hk (fun h=>h) (fun _ _ h=>h)
theorem o8.lt(h:o8 w F r D P):r<w.heap.size:=by obtain⟨A,c,B,e,l,h1,_⟩:=h.ex;exact aQ h1
theorem o8.mono(h:o8 w F r D P)(hf:∀k,F k->F' k)(hr:¬F' r):o8 w F' r D P:=by
 obtain⟨A,c,B,e,l,h1,h2,h3,h4,h5⟩:=h.ex;exact⟨⟨A,c,B,e,l,h1,h2.mono hf,h3,fun a ha=>hf _ (h4 a ha),h5⟩,hr,h.iY,h.W⟩
theorem o8.gr(h:o8 w F r D P):uJ w F r D:=by
 obtain⟨A,c,B,e,l,h1,h2,_⟩:=h.ex;exact⟨⟨A,c,_,_,h1,rfl,h2⟩,h.iC⟩
theorem DA(W:j0 D){j:Nat}{nd:DN}(h:D[j]? =some nd):yn D nd.id=(j:Int):=by unfold yn;rw [W.pos_eq h]
theorem HX(H:o8 w F r D P)(hD:D.length<=10000)(h:HT)(hK:∀A c w' l,cI D P h l->bK w' w.heap.size A l.length c l->Kept Nil w w'->K (.slice A l.length c) w'):
 bu prog bE.id #[.pointer (some ⟨r,0,none⟩),.agg h.1] w K:=by
 have W:=H.W;have lj:=H.iY.par;refine bE.of ?_;unfold bE.W;intro w3 w4;have k3:Kept Nil w w3:=(Kept.refl _ _).alloc _;have nI:w3.heap[w.heap.size]? =some (.cells h.1 ah (0,0)):=aI w _;have k4:Kept Nil w3 w4:=(Kept.refl _ _).drew;clear_value w4;have rD:=k4.heap nI (fun h=>h);have mW:=k3.tt k4;refine⟨h.1,⟨h.2.1,Cells.bI rD⟩,?_⟩;rw [add_zero];refine mc (H.gr.same mW) (by omega) h fun w8 k8=>⟨_,rfl,?_⟩;have uQ:=mW.tt k8;have L4:=k8.heap rD (fun h=>h);have s08:=uQ.size;have l08:=aQ L4;by_cases hm:¬h∈ids D
 ·have yV:=qz.2 hm
  refine bE.cy (I:=fun s v=>s=(none,0,0,yn D h)/\v=w8) (μ:=fun _ _=>0) (s:=(none,0,0,yn D h)) ⟨rfl,rfl⟩ ?_;rintro s v ⟨rfl,rfl⟩;refine Split.no (decide_eq_false (by simp only;omega)) ?_;simp only;rw [aR,bE.df];exact hK none 0 v [] (.inl ⟨hm,rfl⟩) (bK.nil _ _) uQ
 replace hm:=Classical.not_not.1 hm
 obtain⟨nd,gB,hid⟩:=dp.1 hm;obtain⟨i,hi⟩:=List.mem_iff_getElem?.1 gB;have dV:=(lgeS hi).1;obtain⟨ks,Qi⟩:=Up.ex lj i (by rw [H.iY.len];exact dV);have B8:=Qi.len lj;refine bE.cy (I:=fun s v=>∃(k:Nat) (nk:DN) (dn rs:List Nat) (A:Option Addr) (c:Nat),s=(A,dn.length,c,(k:Int))/\ks=dn++rs/\Up P k rs/\D[k]? =some nk/\v.heap[w.heap.size]? =some (.cells nk.id.1 ah (0,0))/\bK v w8.heap.size A dn.length c (dn.map (mJ D))/\Kept (· =w.heap.size) w8 v)
  (μ:=fun s _=>s.2.2.2.toNat) (s:=(none,0,0,yn D h)) ⟨i,nd,[],ks,none,0,by rw [<-hid,DA W hi];rfl,rfl,Qi,hi,by rw [hid];exact L4,bK.nil _ _,Kept.refl _ _⟩ ?_
 rintro s v ⟨k,nk,dn,rs,A,c,rfl,Bb,XZ,LI,EI,row,kv⟩;have ajv:=(lgeS LI).1;have AY:Kept Nil w v:=uQ.trans kv (fun q hq e=>by omega);have sv:=kv.size;refine Split.yes (decide_eq_true (by simp only;omega)) ⟨nk.id.1,⟨nk.id.2.1,Cells.bI EI⟩,nk.id.2.1,?_⟩;intro jM;have ns:Kept Nil v jM:=(Kept.refl _ _).alloc _;have acK:HS jM (some ⟨v.heap.size,0,none⟩) 1 [nk.id]:=iL v nk.id;clear_value jM;have Yk:dn.length<=ks.length:=by rw [Bb];simp
 have Sx:=ns.size;obtain⟨A2,c2,sN,aaV,kV,VA,_⟩:=ct (cx:=1) ay (Row.aF row ns (fun _ _ h=>h)) acK (by omega) (by omega);have Ge:Kept (· =w.heap.size) w8 sN:=(kv.trans ns (fun _ _ h=>h.elim)).grown VA (fun q hq cU=>by have:=(Row.bI row hq).1;omega);have TP:Kept Nil w sN:=uQ.trans Ge (fun q hq e=>by omega);have PW:dn.map (mJ D)++ [nk.id]=(dn++ [k]).map (mJ D):=by simp [mI LI]
 rw [PW]at kV;have acJ:sN.heap[w.heap.size]? =some (.cells nk.id.1 ah (0,0)):=by
  have hkg:Kept (fun q=>a8 A=some q) jM sN:=Kept.grown (Kept.refl _ _) VA (fun q hq _=>hq);exact hkg.heap (ns.heap EI (fun h=>h)) (fun e=>by have:=(Row.bI row e).1;omega)
 refine⟨A2,_,c2,sN,aaV,?_⟩;cases XZ with
 |root=>
  refine Split.yes rfl ?_;simp only;rw [aR,bE.df];have e:(ks.map (mJ D)).length=dn.length+1:=by rw [Bb];simp
  have:=hK A2 c2 sN (ks.map (mJ D)) (.inr ⟨i,nd,ks,hi,hid,Qi,rfl⟩) (by rw [e,Bb];exact Row.base kV (fun b hb=>Nat.le_trans s08 (Row.bI kV hb).1)) TP
  rwa [e]at this
 | @step _ j Zq hj IS=>
   have Vl:=(Tr.iE lj (Tr.eA.2 hj)).1;refine Split.no (by simp only [beq_eq_false_iff_ne,ne_eq];omega) ?_;obtain⟨A0,c0,B,e,l,h1,h2,h3,h4,h5⟩:=(H.same TP).ex;obtain⟨nj,Hc⟩:∃nj,D[j]? =some nj:=⟨_,List.getElem?_eq_getElem (by omega)⟩;refine⟨B,D.length,e,by rw [br,aD h1];rfl,?_⟩;refine h3.load (i:=(k:Int)) (by omega) (by rw [Int.toNat_natCast];exact h5.2 k j nj hj Hc) ?_;obtain⟨g1,g2,g3⟩:=dG acJ (cs:=nj.id.1) (by rw [nj.id.2.1,nk.id.2.1]);refine⟨⟨nj.id.2.1,nj.id.2.one,fun q hq=>g1 q (by rw [nj.id.2.1];exact hq)⟩,?_⟩;intro KN o9
   replace g2:KN.heap[w.heap.size]? =some (.cells nj.id.1 ah (0,0)):=g2
   replace g3:Kept (· =w.heap.size) sN KN:=g3
   have AT:Kept Nil KN o9:=(Kept.refl _ _).drew;clear_value o9 KN;have YD:=AT.heap g2 (fun h=>h);have TA:Kept (· =w.heap.size) w8 o9:=(Ge.tt g3).trans AT (fun _ _ h=>h.elim);have Z7:Kept Nil w o9:=uQ.trans TA (fun q hq e=>by omega);refine⟨nj.id.1,⟨nj.id.2.1,Cells.bI YD⟩,?_⟩;rw [add_zero];refine mc (H.gr.same Z7) (by omega) nj.id fun Ow Pe=>⟨_,rfl,?_⟩;rw [DA W Hc];refine⟨(A2,dn.length+1,c2,(j:Int)),rfl,⟨j,nj,dn++ [k],Zq,A2,c2,by simp,by rw [Bb];simp,IS,Hc,Pe.heap YD (fun h=>h),?_,TA.trans Pe (fun _ _ h=>h.elim)⟩,by simp only;omega⟩;rw [List.length_append];exact Row.aF (Row.aF (Row.aF kV g3 (fun q hq e=>by have:=(Row.bI kV hq).1;omega)) AT (fun _ _ h=>h)) Pe (fun _ _ h=>h)
end
theorem Zi(w:World)(r j:Nat)(v:Value):setCells w ((⟨r,0,none⟩:Addr).add j) [v] 0=w.setCell ⟨r,j,none⟩ v:=by
 simp only [setCells];rw [br,br,Nat.add_zero,Nat.zero_add]
theorem jU{v:World}{b:Nat}{z:Array Value}{t:TypeId}(s:HT)(h:v.heap[b]? =some (.cells z t (0,0)))(hz:z.size=32):
 (s.1.size=32/\(∀c∈s.1.toList,c.oneCell'=true)/\∀j,j<32->Wr v ((⟨b,0,none⟩:Addr).add j))/\(setCells v (⟨b,0,none⟩:Addr) s.1.toList 0).heap[b]? =some (.cells s.1 t (0,0))/\Kept (· =b) v (setCells v (⟨b,0,none⟩:Addr) s.1.toList 0):=by
 obtain⟨h1,h2,h3⟩:=dG h (cs:=s.1) (by rw [s.2.1];exact hz);exact⟨⟨s.2.1,s.2.one,fun j hj=>h1 j (by rw [s.2.1];exact hj)⟩,h2,h3⟩
theorem rO.one(r:HT):rO [⟨r,[]⟩] [-1]:=⟨rfl,rfl,fun i p nd hi hp=>by
 cases i with
 |zero=>omega
 |succ i=>simp at hp⟩
section
variable{w w':World}{F F' S:Nat->Prop}{r:Nat}{D:DG}{P:List Int}{K:Value->World->Prop}
theorem yF(root:HT)(hK:∀v r F,o8 v F r [⟨root,[]⟩] [-1]->(∀k,F k->w.heap.size<=k/\k<v.heap.size)->w.heap.size<=r->Kept Nil w v->K (.pointer (some ⟨r,0,none⟩)) v):
 bu prog kz.id #[.agg root.1] w K:=by
 refine kz.of ?_;unfold kz.W;intro w2;have k2:Kept Nil w w2:=(Kept.refl _ _).alloc _;have lT:w2.heap[w.heap.size]? =some (.cells root.1 ah (0,0)):=aI w _;clear_value w2;have mq:(root.1.push (.slice none 0 0)).size=33:=by rw [Array.size_push,root.2.1]
 refine⟨root.1,⟨root.2.1,Cells.bI lT⟩,?_⟩;rw [JP];refine Is.mk rfl ⟨mq,?_⟩;intro w5;have h5:w5.heap[w2.heap.size]? =some (.cells (root.1.push (.slice none 0 0)) bS (0,0)):=by
  have:=aI w2 (.cells (root.1.push (.slice none 0 0)) bS);show(w2.alloc (.cells ((root.1.push (.slice none 0 0)).toList++ []).toArray bS)).heap[w2.heap.size]? =_;rw [List.append_nil,Array.toArray_toList];exact this
 have k5:Kept Nil w2 w5:=(Kept.refl _ _).alloc _;clear_value w5;refine⟨rfl,?_⟩;intro w6;have h6:w6.heap[w5.heap.size]? =some (.cells dX.1 ah (0,0)):=aI w5 _;have k6:Kept Nil w5 w6:=(Kept.refl _ _).alloc _;clear_value w6;intro w7;have h7:w7.heap[w6.heap.size]? =some (.cells #[.slice (some ⟨w2.heap.size,0,none⟩) 1 1,.slice (some ⟨w5.heap.size,0,none⟩) 1 1] jO (0,0)):=aI w6 _;have k7:Kept Nil w6 w7:=(Kept.refl _ _).alloc _;clear_value w7;have s2:=k2.size;have s5:=k5.size;have s6:=k6.size;have l5:=aQ h5;have l6:=aQ h6;have h57:=k7.heap (k6.heap h5 (fun h=>h)) (fun h=>h);have h67:=k7.heap h6 (fun h=>h);have l67:=aQ h67;refine hK w7 _ (fun k=>k=w2.heap.size\/k=w5.heap.size) ⟨⟨_,_,_,_,[dX],h7,⟨rfl,fun i nd hi=>?_⟩,HS.one h67,fun a ha=>by cases ha;exact .inr rfl,⟨rfl,fun i j m hi hj=>?_⟩⟩,fun e=>by omega,rO.one root,j0.root root⟩ (fun k e=>by omega) (by omega) (((k2.tt k5).tt k6).tt k7)
 ·cases i with
  |zero=>
   simp at hi;subst hi;refine⟨_,none,0,0,rfl,aQ h57,.inl rfl,fun j u hj=>?_,HS.nil _ _,fun b hb=>by cases hb⟩;rw [Nat.zero_mul,add_zero,br,Nat.zero_add,aD h57];exact hj
  |succ i=>simp at hi
 ·cases i with
  |zero=>simp at hi
  |succ i=>simp at hi
theorem Mu.snoc{l:List HT}(h:Mu D P l)(hs:rO D P)(W:j0 D){nd:DN}{j:Nat}{mj:DN}(hj:D[j]? =some mj):Mu (D++ [nd]) (P++ [(j:Int)]) (l++ [mj.id]):=by
 have uT:=(lgeS hj).1;refine⟨by simp [h.1],fun i k m hi hm=>?_⟩;by_cases dV:i<P.length
 ·rw [List.getElem?_append_left dV]at hi
  have Qn:i<D.length:=by rw [<-hs.len];exact dV
  rw [List.getElem?_append_left (by rw [h.1];exact Qn)];have lj:=hs.par;have hk:k<D.length:=by
   rcases Nat.eq_zero_or_pos i with rfl|h0
   ·rw [lj.root]at hi;simp only [Option.some.injEq]at hi;omega
   ·obtain⟨j',h1,h2⟩:=lj.up i _ h0 hi
    omega
  rw [List.getElem?_append_left hk]at hm;exact h.2 i k m hi hm
 ·have abL:=(lgeS hi).1
  have e:i=P.length:=by simp at abL;omega
  subst e;simp at hi;have:k=j:=by omega
  subst this;rw [List.getElem?_append_left uT,hj]at hm;cases hm;rw [hs.len,<-h.1];simp
theorem FG(H:o8 w F r D P)(hF:∀k,F k->k<w.heap.size)(hD:D.length<=5000){h s:HT}{lp:List HT}{A:Option Addr}{n c:Nat}(hl:HS w A n lp)(hn:n<=100000)
 (hK:∀w',o8 w' (fun k=>F k\/(w.heap.size<=k/\k<w'.heap.size)) r (nX D h s lp) (nW D P h s lp)->Kept (· =r) w w'->K (.int .i64 (gZ D h s lp)) w'):
 bu prog fG.id #[.pointer (some ⟨r,0,none⟩),.agg h.1,.agg s.1,.slice A n c] w K:=by
 have aaI:=H.lt;have W:=H.W;have lH:∀w',Kept Nil w w'->∀e,gZ D h s lp=e->e≠0->K (.int .i64 e) w':=fun w' k e he fL=>by
  have:=hK w' ?_ (k.mono fun _ _ h=>h.elim)
  ·rw [he]at this;exact this
  ·unfold nX nW
   rw [if_neg (by rw [he];exact fL),if_neg (by rw [he];exact fL)];exact(H.same k).mono (fun _ h=>.inl h) (fun e=>e.elim H.iC (fun h=>by omega))
 refine fG.of ?_;unfold fG.W;intro w5 w6;have k5:Kept Nil w w5:=(Kept.refl _ _).alloc _;have LR:w5.heap[w.heap.size]? =some (.cells h.1 ah (0,0)):=aI w _;have k6:Kept Nil w5 w6:=(Kept.refl _ _).alloc _;have Lv:w6.heap[w5.heap.size]? =some (.cells s.1 ah (0,0)):=aI w5 _;clear_value w6;have Yi:=k6.heap LR (fun h=>h);have qS:=k5.tt k6;have s5:=k5.size;have s6:=k6.size;have l5:=aQ LR;have l6:=aQ Lv;clear_value w5;obtain⟨A0,c0,B0,e0,sl,jx,ug,CQ,hB0,acV⟩:=H.ex;have T9:=qS.heap jx (fun h=>h);refine Is.mk rfl ⟨#[.slice A0 D.length c0],⟨rfl,fun j v hj=>?_⟩,?_⟩
 ·cases j with
  |zero=>
   rw [add_zero,add_zero,aD T9];simpa using hj
  |succ j=>simp at hj
 intro w9;have h9:w9.heap[w6.heap.size]? =some (.cells #[.slice none 0 0] iF (0,0)):=aI w6 _;have k9:Kept Nil w6 w9:=(Kept.refl _ _).alloc _;clear_value w9;obtain⟨g1,g2,g3⟩:=dG h9 (cs:= #[.slice A0 D.length c0]) rfl;refine⟨⟨rfl,fun u hu=>?_,fun j hj=>g1 j hj⟩,?_⟩
 ·simp at hu
  subst hu;rfl
 intro lL
 replace g2:lL.heap[w6.heap.size]? =some (.cells #[.slice A0 D.length c0] iF (0,0)):=g2
 replace g3:Kept (· =w6.heap.size) w9 lL:=g3
 clear_value lL;have CG:Kept Nil w6 lL:=k9.trans g3 (fun k hk e=>by omega);have tn:=qS.tt CG;refine⟨h.1,⟨h.2.1,Cells.bI (CG.heap Yi (fun h=>h))⟩,?_⟩;have hR:uJ lL F w6.heap.size D:=⟨⟨A0,c0,_,_,g2,rfl,ug.same tn⟩,fun e=>by have:=hF _ e;omega⟩;have s12:=tn.size;refine D8 hR W (by omega) (hl.same tn) (by omega) fun nK WG uc=>⟨_,rfl,?_⟩;have Pp:Kept Nil w nK:=tn.trans uc (fun k hk e=>by omega);by_cases hC:dF D h lp≠0
 ·refine Split.yes (by simpa using hC) ?_
  refine lH nK Pp _ ?_ hC;unfold gZ;rw [if_neg hC]
 replace hC:=Classical.not_not.1 hC
 refine Split.no (by rw [hC];rfl) ?_;have Ug:nK.heap[w5.heap.size]? =some (.cells s.1 ah (0,0)):=uc.heap (CG.heap Lv (fun h=>h)) (by omega);refine⟨s.1,⟨s.2.1,Cells.bI Ug⟩,yC s (hl.same Pp) (by omega) fun pf xW=>⟨_,rfl,?_⟩⟩;have IJ:=Pp.tt xW;by_cases vT:¬s∈lp
 ·refine Split.yes (by rw [decide_eq_false vT];rfl) ?_
  refine lH pf IJ 2 ?_ (by omega);unfold gZ;rw [if_pos hC,if_neg vT]
 replace vT:=Classical.not_not.1 vT
 refine Split.no (by rw [decide_eq_true vT];rfl) ?_;have eX:gZ D h s lp=0:=by unfold gZ;rw [if_pos hC,if_pos vT]
 obtain⟨fJ,fL,gB,di⟩:=lJ hC;obtain⟨mj,Qc,Qb⟩:=dp.1 (di s (dM.2 vT));obtain⟨j,hj⟩:=List.mem_iff_getElem?.1 Qc;have eP:nW D P h s lp=P++ [(j:Int)]:=by
  unfold nW;rw [if_pos eX,<-Qb,W.pos_eq hj];rfl
 have eD:nX D h s lp=D++ [⟨h,dw lp⟩]:=by unfold nX;rw [if_pos eX]
 rw [qd hC]at WG;obtain⟨A1,c1,cs1,t1,h1,VY,UI⟩:=(WG.same xW).ex;rw [List.length_append,List.length_singleton]at UI VY;have Qz:pf.cell? (⟨w6.heap.size,0,none⟩:Addr)=some (.slice A1 (D.length+1) c1):=by rw [aD h1];exact VY
 have sz1:=IJ.size;have IW:=IJ.heap jx (fun h=>h);refine⟨#[.slice A1 (D.length+1) c1],⟨rfl,fun i v hi=>?_⟩,Is.mk rfl ⟨⟨rfl,fun u hu=>?_,fun i hi=>?_⟩,?_⟩⟩
 ·cases i with
  |zero=>
   rw [add_zero,Qz];simpa using hi
  |succ i=>simp at hi
 ·simp at hu
  subst hu;rfl
 ·have:i=0:=by omega
  subst this;rw [add_zero,add_zero];exact dY IW (by simp)
 intro KN o9;have aas:KN.heap[r]? =some (.cells #[.slice A1 (D.length+1) c1,.slice B0 D.length e0] jO (0,0)):=by
  show(setCells pf ((⟨r,0,none⟩:Addr).add 0) [.slice A1 (D.length+1) c1] 0).heap[r]? =_;rw [Zi,dh IW];rfl
 have zr:Kept (· =r) pf KN:=by
  show Kept (· =r) pf (setCells pf ((⟨r,0,none⟩:Addr).add 0) [.slice A1 (D.length+1) c1] 0)
  rw [add_zero];exact fi _ _ _ _
 have AT:Kept Nil KN o9:=(Kept.refl _ _).drew;clear_value o9 KN;have PM:=AT.heap aas (fun h=>h);have xV:Kept (· =r) pf o9:=zr.trans AT (fun _ _ h=>h.elim);have Nh:HS o9 B0 D.length sl:=(CQ.same IJ).aF xV (fun a ha e=>H.iC (e▸hB0 a ha));have I2:o9.heap[w5.heap.size]? =some (.cells s.1 ah (0,0)):=xV.heap (xW.heap Ug (fun h=>h)) (fun e=>by omega);refine Is.mk rfl ⟨B0,D.length,e0,by rw [br,aD PM];rfl,s.1,⟨s.2.1,Cells.bI I2⟩,?_⟩;have fin:∀(v:World) (A2:Option Addr) (c2:Nat),Kept Nil o9 v->bK v o9.heap.size A2 (D.length+1) c2 (sl++ [s])->
  Is (some (⟨r,0,none⟩:Addr)) fun a=>Wr v (a.add 1)/\K (.int .i64 0) (v.setCell (a.add 1) (.slice A2 (D.length+1) c2)):=fun v A2 c2 kv row=>by
  refine Is.mk rfl ?_;rw [br];have hv:=kv.heap PM (fun h=>h);have kf:Kept (· =r) v (v.setCell ⟨r,0+1,none⟩ (.slice A2 (D.length+1) c2)):=Kept.setCell (S:=fun k=>k=r) (Kept.refl _ v) (p:=⟨r,0+1,none⟩) (fun _=>rfl) _;refine⟨dY hv (by simp),?_⟩;have lQ:Kept (· =r) w (v.setCell ⟨r,0+1,none⟩ (.slice A2 (D.length+1) c2)):=(((IJ.mono (S':=(· =r)) (fun _ _ h=>h.elim)).tt xV).trans kv (fun _ _ h=>h.elim)).tt kf;have:=hK (v.setCell ⟨r,0+1,none⟩ (.slice A2 (D.length+1) c2)) ?_ lQ
  ·rw [eX]at this
   exact this
  rw [eD,eP];have hbA:∀b,a8 A2=some b->o9.heap.size<=b/\b<v.heap.size:=fun b hb=>by
   obtain⟨q1,cur,q2⟩:=Row.bI row hb;exact⟨q1,aQ q2⟩
  have s26:=xV.size;have sv:=kv.size;have sf:=kf.size;have aeZ:Kept (· =r) nK o9:=(xW.mono (S':=(· =r)) (fun _ _ h=>h.elim)).tt xV;refine⟨⟨A1,c1,A2,c2,sl++ [s],?_,?_,?_,fun a ha=>.inr ?_,?_⟩,fun e=>e.elim H.iC (fun e=>by omega),H.iY.snoc hj (by rw [Qb];exact dM.2 vT) (by have:=(lgeS hj).1;omega),W.snoc fJ di (jh lp)⟩
  ·rw [List.length_append,List.length_singleton,dh hv]
   rfl
  ·rw [List.length_append,List.length_singleton]
   have oR:Kept (· =r) pf (v.setCell ⟨r,0+1,none⟩ (.slice A2 (D.length+1) c2)):=(xV.trans kv (fun _ _ h=>h.elim)).tt kf;refine(UI.aF oR fun k hk e=>?_).mono fun k hk=>?_
   ·rcases hk with hk|hk
    ·exact H.iC (e▸hk)
    ·omega
   ·rcases hk with hk|hk
    ·exact .inl hk
    ·have:=xW.size
     exact .inr ⟨by omega,by omega⟩
  ·rw [List.length_append,List.length_singleton]
   exact(bK.hs row).aF kf (fun a ha e=>by have:=hbA a.block (by rw [ha];rfl);omega)
  ·have:=hbA a.block (by rw [ha];rfl)
   exact⟨by omega,by omega⟩
  ·rw [<-Qb]
   exact acV.snoc H.iY W hj
 have ny:∀ {u:World},Kept Nil o9 u->∃cs:Array Value,(.agg s.1:Value)=.agg cs/\cs.size=32/\Cells u (⟨w5.heap.size,0,none⟩:Addr) cs:=fun k=>⟨s.1,rfl,s.2.1,Cells.bI (k.heap I2 (fun h=>h))⟩;refine⟨?_,?_⟩
 ·obtain⟨A3,c3,Hw,Uq,D5,abZ,Wm⟩:=ct (cx:=e0) ay (bK.nil o9 o9.heap.size) Nh (by omega) (Nat.le_refl _)
  rw [Nat.zero_add]at Uq D5;rw [List.nil_append]at D5;have MT:Kept Nil o9 Hw:=Kept.dA (Kept.refl _ _) abZ (fun k hk=>by cases hk);refine⟨A3,_,c3,Hw,Uq,ny MT,s.2.1,?_⟩;intro uL;have G6:Kept Nil Hw uL:=(Kept.refl _ _).alloc _;have aak:HS uL (some ⟨Hw.heap.size,0,none⟩) 1 [s]:=iL Hw s;clear_value uL;have s32:=G6.size;have s31:=MT.size;obtain⟨A4,c4,oq,Lx,Ae,Qy,Wl⟩:=ct (cx:=1) ay (Row.aF D5 G6 (fun _ _ h=>h)) aak (by omega) (by omega);have AR:Kept Nil o9 oq:=Kept.dA (MT.tt G6) Qy (fun k hk=>(Row.bI D5 hk).1);exact⟨A4,_,c4,oq,Lx,fin oq A4 c4 AR Ae⟩
 ·refine⟨s.2.1,?_⟩
  intro xA;have Gd:Kept Nil o9 xA:=(Kept.refl _ _).alloc _;have aaj:HS xA (some ⟨o9.heap.size,0,none⟩) 1 [s]:=iL o9 s;clear_value xA;have s37:=Gd.size;refine⟨by rw [br,aD (Gd.heap PM (fun h=>h))];rfl,?_⟩;obtain⟨A3,c3,G4,Uo,D4,abY,L5⟩:=ct (cx:=e0) ay (bK.nil xA xA.heap.size) (Nh.same Gd) (by omega) (Nat.le_refl _);rw [Nat.zero_add]at Uo D4;rw [List.nil_append]at D4;have Iu:Kept Nil xA G4:=Kept.dA (Kept.refl _ _) abY (fun k hk=>by cases hk);have s39:=Iu.size;obtain⟨A4,c4,Ov,aaQ,ME,abX,Wj⟩:=ct (cx:=1) ay D4 (aaj.same Iu) (by omega) (by omega);have Pd:Kept Nil xA Ov:=Kept.dA Iu abX (fun k hk=>(Row.bI D4 hk).1);exact⟨A3,_,c3,G4,Uo,A4,_,c4,Ov,aaQ,fin Ov A4 c4 (Gd.tt Pd) (Row.base ME (fun k hk=>by have:=(Row.bI ME hk).1;omega))⟩
end
section
variable{w w' v:World}{F FP FR S S2 F2:Nat->Prop}{x r:Nat}{D D':DG}{P P':List Int}{K:Value->World->Prop}
theorem Cz(h:DK w S F x D P)(hD:D.length<=5000)(hT:tJ w)(KE:¬S (Tryz.jX.g 1)){A:Option Addr}{n cx:Nat}{lp:List HT}(hl:HS w A n lp)(hn:n<=5000)(hid s:HT)
 (hK:∀u S' F',DK u S' F' x (nX D hid s lp) (nW D P hid s lp)->Kept S w u->(∀k,S' k->S k\/w.heap.size<=k)->(∀k,F' k->F k\/w.heap.size<=k)->K (.int .i64 (gZ D hid s lp)) u):
 bu prog aE.id #[.pointer (some ⟨x,0,none⟩),.agg hid.1,.agg s.1,.slice A n cx] w K:=by
 obtain⟨m,h1,h2⟩:=h;refine FH h1 hD hT (fun e=>KE (h2 _ (.inl e))) hl hn hid s (fun u k hc=>?_) (fun u S' F' hI k hS hF hc=>?_)
 ·refine hK u S F ?_ (k.mono fun _ _ h=>h.elim) (fun k h=>.inl h) (fun k h=>.inl h)
  unfold nX nW;rw [if_neg hc,if_neg hc];exact⟨m,h1.same k,h2⟩
 ·have:=hK u S' F' hI (k.mono fun k _ h=>h2 k h) (fun k h=>(hS k h).imp (h2 k) (fun h=>h)) hF
  rw [hc]at this;exact this
end
end Go.Proofs.YtfleamccglihoaaGreatDoor
namespace Go.Proofs.YtfleamccglihoaaGreatDoor
open Go.Proofs.Tryz
open Go Go.bT Go.RowKit
open Tr (kM)
theorem four(w:World)(r a b c:HT):
 let w1:=w.alloc (.cells dX.1 ah);let w2:=w1.alloc (.cells dX.1 ah);let w3:=w2.alloc (.cells dX.1 ah);let w4:=w3.alloc (.cells dX.1 ah)
 let w7:=setCells w4 (⟨w.heap.size,0,none⟩:Addr) r.1.toList 0;let w10:=setCells w7 (⟨w1.heap.size,0,none⟩:Addr) a.1.toList 0;let mz:=setCells w10 (⟨w2.heap.size,0,none⟩:Addr) b.1.toList 0;let jM:=setCells mz (⟨w3.heap.size,0,none⟩:Addr) c.1.toList 0
 ((∀j,j<32->Wr w4 ((⟨w.heap.size,0,none⟩:Addr).add j))/\(∀j,j<32->Wr w7 ((⟨w1.heap.size,0,none⟩:Addr).add j))/\(∀j,j<32->Wr w10 ((⟨w2.heap.size,0,none⟩:Addr).add j))/\(∀j,j<32->Wr mz ((⟨w3.heap.size,0,none⟩:Addr).add j)))/\
 jM.heap[w.heap.size]? =some (.cells r.1 ah (0,0))/\jM.heap[w1.heap.size]? =some (.cells a.1 ah (0,0))/\jM.heap[w2.heap.size]? =some (.cells b.1 ah (0,0))/\jM.heap[w3.heap.size]? =some (.cells c.1 ah (0,0))/\
 w.heap.size<w1.heap.size/\w1.heap.size<w2.heap.size/\w2.heap.size<w3.heap.size/\w3.heap.size<jM.heap.size/\Kept Nil w jM:=by
 intro w1 w2 w3 w4;have XR:Kept Nil w w1:=(Kept.refl _ _).alloc _;have yM:Kept Nil w1 w2:=(Kept.refl _ _).alloc _;have AS:Kept Nil w2 w3:=(Kept.refl _ _).alloc _;have Ll:Kept Nil w3 w4:=(Kept.refl _ _).alloc _;have mU:w1.heap[w.heap.size]? =some (.cells dX.1 ah (0,0)):=aI w _;have Hg:w2.heap[w1.heap.size]? =some (.cells dX.1 ah (0,0)):=aI w1 _;have nI:w3.heap[w2.heap.size]? =some (.cells dX.1 ah (0,0)):=aI w2 _;have QG:w4.heap[w3.heap.size]? =some (.cells dX.1 ah (0,0)):=aI w3 _;clear_value w4;have rD:=Ll.heap nI (fun h=>h);have Bm:=Ll.heap (AS.heap Hg (fun h=>h)) (fun h=>h);have wJ:=Ll.heap (AS.heap (yM.heap mU (fun h=>h)) (fun h=>h)) (fun h=>h);have l1:=aQ mU;have l2:=aQ Hg;have l3:=aQ nI;have l4:=aQ QG;clear_value w3 w2 w1;have Ik:Kept Nil w w4:=((XR.tt yM).tt AS).tt Ll;have sz:∀h:HT,dX.1.size=h.1.size:=fun h=>by rw [h.2.1];rfl
 obtain⟨wr7,Kv,k7⟩:=dG wJ (cs:=r.1) (sz r);rw [r.2.1]at wr7;intro w7
 replace Kv:w7.heap[w.heap.size]? =some (.cells r.1 ah (0,0)):=Kv
 replace k7:Kept (· =w.heap.size) w4 w7:=k7
 clear_value w7;obtain⟨Sj,QU,lh⟩:=dG (k7.heap Bm (by omega)) (cs:=a.1) (sz a);rw [a.2.1]at Sj;intro w10
 replace QU:w10.heap[w1.heap.size]? =some (.cells a.1 ah (0,0)):=QU
 replace lh:Kept (· =w1.heap.size) w7 w10:=lh
 clear_value w10;obtain⟨Si,yX,ru⟩:=dG (lh.heap (k7.heap rD (by omega)) (by omega)) (cs:=b.1) (sz b);rw [b.2.1]at Si;intro mz
 replace yX:mz.heap[w2.heap.size]? =some (.cells b.1 ah (0,0)):=yX
 replace ru:Kept (· =w2.heap.size) w10 mz:=ru
 clear_value mz;obtain⟨Sh,LZ,ns⟩:=dG (ru.heap (lh.heap (k7.heap QG (by omega)) (by omega)) (by omega)) (cs:=c.1) (sz c);rw [c.2.1]at Sh;intro jM
 replace LZ:jM.heap[w3.heap.size]? =some (.cells c.1 ah (0,0)):=LZ
 replace ns:Kept (· =w3.heap.size) mz jM:=ns
 clear_value jM;have Sx:=aQ LZ;exact⟨⟨wr7,Sj,Si,Sh⟩,ns.heap (ru.heap (lh.heap Kv (by omega)) (by omega)) (by omega),ns.heap (ru.heap QU (by omega)) (by omega),ns.heap yX (by omega),LZ,by omega,by omega,by omega,Sx,
  (((Ik.trans k7 (fun k hk e=>by omega)).trans lh (fun k hk e=>by omega)).trans ru (fun k hk e=>by omega)).trans ns (fun k hk e=>by omega)⟩
section
variable{r a b c:HT}(yS:r≠a)(wY:r≠b)(Ex:r≠c)(lI:a≠b)(EJ:a≠c)(Ca:b≠c)
end
section
variable{w w':World}{K:Value->World->Prop}
end
end Go.Proofs.YtfleamccglihoaaGreatDoor
namespace Go.Proofs.YtfleamccglihoaaGreatDoor
open Go.Proofs.Tryz
open Go Go.bT Go.RowKit
open Go.ChangeMaps (setBlock)
theorem tH{x:HT}{v:Value}:∀ {l:List (HT×Value)} {j:Nat},(l.map (·.1)).Nodup->l[j]? =some (x,v)->assoc x l=some v
 | [],_,_,h=>by simp at h
 |(y,u)::l,0,_,h=>by
  simp at h;obtain⟨rfl,rfl⟩:=h;unfold assoc;rw [if_pos rfl]
 |(y,u)::l,j+1,hn,h=>by
  simp only [List.map_cons,List.nodup_cons]at hn;have hm:x∈l.map (·.1):=List.mem_map.2 ⟨(x,v),List.mem_of_getElem? (i:=j) (by simpa using h),rfl⟩;unfold assoc;rw [if_neg (fun e:x=y=>hn.1 (by rw [<-e];exact hm))];exact tH hn.2 (j:=j) (by simpa using h)
theorem yo{x:HT}{v:Value}:∀ {l:List (HT×Value)},assoc x l=some v->∃j:Nat,l[j]? =some (x,v)
 | [],h=>by simp [assoc]at h
 |(y,u)::l,h=>by
  unfold assoc at h;split at h
  ·rename_i e
   subst e;cases h;exact⟨0,rfl⟩
  ·obtain⟨j,hj⟩:=yo h
   exact⟨j+1,by simpa using hj⟩
theorem nD.of{es:List MapEntry}{l:List (HT×Value)}(h:nD es l){j:Nat}{e:MapEntry}(he:es[j]? =some e):∃p,l[j]? =some p/\e.key=.agg p.1.1/\e.val=p.2:=by
 have hlen:=h.len;have hj:=(lgeS he).1;obtain⟨p,hp⟩:∃p,l[j]? =some p:=⟨_,List.getElem?_eq_getElem (by omega)⟩;obtain⟨e',g1,g2,g3⟩:=h.get hp;rw [he]at g1;cases g1;exact⟨p,hp,g2,g3⟩
theorem zn{x y:HT}(h:(Value.agg x.1:Value)=.agg y.1):x=y:=by
 cases h':x;cases YB:y
 simp_all
structure oW(w:World)(m it:Nat)(f:HT->Option Value)(left:HT->Prop)(Cd:Nat):Prop where
 ne:it≠m
 ex:∃es clock l since seen c0,w.heap[m]? =some (.map es clock)/\nD es.toList l/\(∀x,assoc x l=f x)/\(es.toList.map (·.born)).Nodup/\(l.map (·.1)).Nodup/\
  w.heap[it]? =some (.mapIter (some m) since seen c0)/\(∀e∈es.toList,e.born<since)/\since<=c0/\since<=clock/\(leftOf es seen).size=Cd/\∀x,left x↔∃e∈es.toList,e.key=.agg x.1/\seen.contains e.born=false
section
variable{w w':World}{m it:Nat}{f:HT->Option Value}{left:HT->Prop}{Cd:Nat}
theorem oW.aF{S:Nat->Prop}(h:oW w m it f left Cd)(hk:Kept S w w')(h1:¬S m)(h2:¬S it):oW w' m it f left Cd:=by
 obtain⟨es,clock,l,since,seen,c0,g1,g2,g3,g4,g5,g6,g7⟩:=h.ex;exact⟨h.ne,es,clock,l,since,seen,c0,hk.heap g1 h1,g2,g3,g4,g5,hk.heap g6 h2,g7⟩
theorem oW.left_eq(h:oW w m it f left Cd):w.rangeLeft m it=Cd:=by
 obtain⟨es,clock,l,since,seen,c0,g1,g2,g3,g4,g5,g6,g7,_,_,g8,_⟩:=h.ex;simp only [World.rangeLeft,g1,g6];exact g8
theorem oW.lt(h:oW w m it f left Cd):it<w.heap.size:=by
 obtain⟨es,clock,l,since,seen,c0,g1,g2,g3,g4,g5,g6,_⟩:=h.ex;exact aQ g6
theorem fR.range{mt te:TypeId}{z:Value}(T:xy mt te z)(h:fR w m f):∃w' Cd,(Instr.range mt (.map (some m))).run prog w=.ok (.pointer (some ⟨w.heap.size,0,none⟩)) w'/\oW w' m w.heap.size f (fun x=>f x≠none) Cd/\Kept Nil w w':=by
 obtain⟨es,clock,l,g1,g2,g3,g4,g5,g6⟩:=h.ex;have cU:=h.lt;refine⟨w.alloc (.mapIter (some m) clock #[] clock),_,run_range_map w mt ah te m es clock T.pg g1,⟨by omega,es,clock,l,clock,#[],clock,jl g1 _,g2,g3,g5,g6,aI w _,g4,Nat.le_refl _,Nat.le_refl _,rfl,fun x=>?_⟩,(Kept.refl _ _).alloc _⟩;rw [<-g3];constructor
 ·intro hx
  cases ha:assoc x l with
  |none=>exact absurd ha hx
  |some v=>
   obtain⟨j,hj⟩:=yo ha;obtain⟨e,he,hk,_⟩:=g2.get hj;exact⟨e,List.mem_of_getElem? he,hk,by simp⟩
 ·rintro⟨e,he,hk,_⟩
  obtain⟨j,hj⟩:=List.mem_iff_getElem?.1 he;obtain⟨⟨y,v⟩,hp,mX,_⟩:=g2.of hj;have:y=x:=zn (mX.symm.trans hk);subst this;rw [tH g6 hp];simp
theorem oW.next(h:oW w m it f left Cd)(ty:TypeId):
 (Cd=0/\(∀x,¬left x)/\(Instr.next (.pointer (some ⟨it,0,none⟩)) false ty).run prog w=.ok (.tuple #[.bool false]) w)\/
 ∃(x:HT) (v:Value) (w':World) (Xa:Nat),left x/\f x=some v/\(Instr.next (.pointer (some ⟨it,0,none⟩)) false ty).run prog w=.ok (.tuple #[.bool true,.agg x.1,v]) w'/\
  (Instr.entry (.pointer (some ⟨it,0,none⟩))).run prog w'=.ok (.tuple #[.agg x.1,v]) w'/\oW w' m it f (fun y=>left y/\y≠x) Xa/\Xa<Cd/\Kept (· =it) w w':=by
 have fL:=h.ne;obtain⟨es,clock,l,since,seen,c0,g1,g2,g3,g4,g5,g6,g7,g8,g8',rfl,g9⟩:=h.ex;rcases run_next_at (P:=prog) w ty it m since c0 seen es clock g6 g1 g7 g8 with⟨h0,hr⟩|⟨e,he,w1,Ks,hr⟩
 ·refine .inl ⟨h0,fun x hx=>?_,hr⟩
  obtain⟨e,he,_,hs⟩:=(g9 x).1 hx;have hm:e∈leftOf es seen:=by
   unfold leftOf;rw [Array.mem_filter];exact⟨by simpa using he,by rw [hs];rfl⟩
  have:=Array.size_pos_of_mem hm;omega
 ·obtain⟨Yj,hes⟩:=mem_left he
  obtain⟨j,hj⟩:=List.mem_iff_getElem?.1 Yj;obtain⟨⟨x,v⟩,hp,hk,hv⟩:=g2.of hj;have hk:e.key=.agg x.1:=hk;have hv:e.val=v:=hv;rw [hk,hv]at hr;have abJ:w1.heap[it]? =some (.mapIter (some m) since seen c0):=by rcases Ks with rfl|rfl<;>exact g6
  have Nv:w1.heap[m]? =some (.map es clock):=by rcases Ks with rfl|rfl<;>exact g1
  have Lu:(setBlock w1 it (.mapIter (some m) since (seen.push e.born) clock)).heap[it]? =some (.mapIter (some m) since (seen.push e.born) clock):=by
   have:=aQ abJ;simp [setBlock,this]
  have UD:(setBlock w1 it (.mapIter (some m) since (seen.push e.born) clock)).heap[m]? =some (.map es clock):=by
   simp [setBlock,fL,Nv]
  have Vg:Kept (· =it) w (setBlock w1 it (.mapIter (some m) since (seen.push e.born) clock)):=by
   have hd:w.drew.heap=w.heap:=rfl;rcases Ks with rfl|rfl
   ·exact⟨rfl,rfl,rfl,by simp [setBlock],fun k _ hk=>by simp [setBlock,Ne.symm hk]⟩
   ·exact⟨rfl,rfl,rfl,by simp [setBlock,hd],fun k _ hk=>by simp [setBlock,hd,Ne.symm hk]⟩
  refine .inr ⟨x,v,_,_,(g9 x).2 ⟨e,Yj,hk,hes⟩,by rw [<-g3];exact tH g5 hp,hr,?_,⟨fL,es,clock,l,since,seen.push e.born,clock,UD,g2,g3,g4,g5,Lu,g7,g8',g8',rfl,fun y=>?_⟩,left_shrinks es seen e he,Vg⟩
  ·have:=run_entry_at (P:=prog) _ it m since seen es clock e Lu UD Yj g4
   rw [hk,hv]at this;exact this
  ·have Mq:∀ {e':MapEntry},e'∈es.toList->e'.born=e.born->e'=e:=fun {e'} LY hb=>by
    obtain⟨j',vW⟩:=List.mem_iff_getElem?.1 LY;have h1:(es.toList.map (·.born))[j']? =some e'.born:=by rw [List.getElem?_map,vW];rfl
    have h2:(es.toList.map (·.born))[j]? =some e.born:=by rw [List.getElem?_map,hj];rfl
    rw [hb]at h1;have g1:=lgeS h1;have g2:=lgeS h2;have:j'=j:=(List.getElem_inj g4).1 (g1.2.trans g2.2.symm);subst this;rw [hj]at vW;cases vW;rfl
   rw [g9];constructor
   ·rintro⟨⟨e',LY,oR,nR⟩,abm⟩
    refine⟨e',LY,oR,?_⟩;rw [contains_push,nR,Bool.false_or,beq_eq_false_iff_ne];intro hb;have:=Mq LY hb;subst this;exact abm (zn (oR.symm.trans hk))
   ·rintro⟨e',LY,oR,nR⟩
    rw [contains_push,Bool.or_eq_false_iff]at nR;refine⟨⟨e',LY,oR,nR.1⟩,fun Ev=>?_⟩;subst Ev;obtain⟨j',vW⟩:=List.mem_iff_getElem?.1 LY;obtain⟨⟨y',v'⟩,LG,mX,_⟩:=g2.of vW;have e1:y'=y:=zn (mX.symm.trans oR);subst e1;have h1:(l.map (·.1))[j']? =some y':=by rw [List.getElem?_map,LG];rfl
    have h2:(l.map (·.1))[j]? =some y':=by rw [List.getElem?_map,hp];rfl
    have g1:=lgeS h1;have g2:=lgeS h2;have:j'=j:=(List.getElem_inj g5).1 (g1.2.trans g2.2.symm);subst this;rw [hj]at vW;cases vW;simp at nR
end
end Go.Proofs.YtfleamccglihoaaGreatDoor
