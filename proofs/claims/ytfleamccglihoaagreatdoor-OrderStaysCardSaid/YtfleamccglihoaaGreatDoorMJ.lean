import Derived.Test.YtfleamccglihoaaGreatDoorMI
import Derived.Test.YtfleamccglihoaaGreatDoorMG
import Derived.Test.YtfleamccglihoaaGreatDoorMF
import Derived.Maps.Range
import Derived.Test.YtfleamccglihoaaGreatDoorMH
open Go.IntKind (i64 u64)
set_option linter.unusedVariables false
namespace Go.Proofs.YtfleamccglihoaaGreatDoor
open Go.Proofs.Tryz
open Go Go.bR Go.RowKit
def LV(D:DG)(P:List Int)(l:List HT):Prop:=l.length=D.length/\∀(i j:Nat) (m:DN),P[i]? =some (j:Int)->D[j]? =some m->l[i]? =some m.id
structure oP(w:World)(F:Nat->Prop)(r:Nat)(D:DG)(P:List Int):Prop where
 ex:∃(A:Option Addr) (c:Nat) (B:Option Addr) (e:Nat) (l:List HT),w.heap[r]? =some (.cells #[.slice A D.length c,.slice B D.length e] jy (0,0))/\NS w F A D.length D/\HS w B D.length l/\(∀a,B=some a->F a.block)/\LV D P l
 gZ:¬F r
 iw:qT D P
 W:jn D
section
variable{w w':World}{F F' S:Nat->Prop}{r:Nat}{D:DG}{P:List Int}{K:Value->World->Prop}
theorem oP.aG(h:oP w F r D P)(hk:Kept S w w')(hr:¬S r)(hn:∀k,F k->¬S k):oP w' F r D P:=by
 obtain⟨A,c,B,e,l,h1,h2,h3,h4,h5⟩:=h.ex;exact⟨⟨A,c,B,e,l,hk.heap h1 hr,h2.aG hk hn,h3.aG hk (fun a ha=>hn _ (h4 a ha)),h4,h5⟩,h.gZ,h.iw,h.W⟩
theorem oP.same(h:oP w F r D P)(hk:Kept Nil w w'):oP w' F r D P:=h.aG hk (fun h=>h) (fun _ _ h=>h)
theorem oP.lt(h:oP w F r D P):r<w.heap.size:=by obtain⟨A,c,B,e,l,h1,_⟩:=h.ex;exact aT h1
theorem oP.mono(h:oP w F r D P)(hf:∀k,F k->F' k)(hr:¬F' r):oP w F' r D P:=by
 obtain⟨A,c,B,e,l,h1,h2,h3,h4,h5⟩:=h.ex;exact⟨⟨A,c,B,e,l,h1,h2.mono hf,h3,fun a ha=>hf _ (h4 a ha),h5⟩,hr,h.iw,h.W⟩
theorem oP.gr(h:oP w F r D P):tV w F r D:=by
 obtain⟨A,c,B,e,l,h1,h2,_⟩:=h.ex;exact⟨⟨A,c,_,_,h1,rfl,h2⟩,h.gZ⟩
theorem CS(W:jn D){j:Nat}{nd:DN}(h:D[j]? =some nd):CT D nd.id=(j:Int):=by unfold CT;rw [W.pos_eq h]
theorem He(H:oP w F r D P)(hD:D.length<=10000)(h:HT)(hK:∀A c w' l,cr D P h l->bI w' w.heap.size A l.length c l->Kept Nil w w'->K (.slice A l.length c) w'):
 bk prog bu.id #[.pointer (some ⟨r,0,none⟩),.agg h.1] w K:=by
 have W:=H.W;have jE:=H.iw.par;refine bu.of ?_;unfold bu.W;intro w3 w4;have k3:Kept Nil w w3:=(Kept.refl _ _).alloc _;have nh:w3.heap[w.heap.size]? =some (.cells h.1 ai (0,0)):=aI w _;have k4:Kept Nil w3 w4:=(Kept.refl _ _).drew;clear_value w4;have qJ:=k4.heap nh (fun h=>h);have pE:=k3.tt k4;refine⟨h.1,⟨h.2.1,Cells.bE qJ⟩,?_⟩;rw [add_zero];refine mR (H.gr.same pE) (by omega) h fun w8 k8=>⟨_,rfl,?_⟩;have ud:=pE.tt k8;have Lq:=k8.heap qJ (fun h=>h);have s08:=ud.size;have l08:=aT Lq;by_cases hm:¬h∈ids D
 ·have ym:=pZ.2 hm
  refine bu.b9 (I:=fun s v=>s=(none,0,0,CT D h)/\v=w8) (μ:=fun _ _=>0) (s:=(none,0,0,CT D h)) ⟨rfl,rfl⟩ ?_;rintro s v ⟨rfl,rfl⟩;refine Split.no (decide_eq_false (by simp only;omega)) ?_;simp only;rw [aO,bu.df];exact hK none 0 v [] (.inl ⟨hm,rfl⟩) (bI.nil _ _) ud
 replace hm:=Classical.not_not.1 hm
 obtain⟨nd,eW,hid⟩:=cP.1 hm;obtain⟨i,hi⟩:=List.mem_iff_getElem?.1 eW;have dP:=(lgeS hi).1;obtain⟨ks,PM⟩:=Up.ex jE i (by rw [H.iw.len];exact dP);have Bj:=PM.len jE;refine bu.b9 (I:=fun s v=>∃(k:Nat) (nk:DN) (dn rs:List Nat) (A:Option Addr) (c:Nat),s=(A,dn.length,c,(k:Int))/\ks=dn++rs/\Up P k rs/\D[k]? =some nk/\v.heap[w.heap.size]? =some (.cells nk.id.1 ai (0,0))/\bI v w8.heap.size A dn.length c (dn.map (mi D))/\Kept (· =w.heap.size) w8 v)
  (μ:=fun s _=>s.2.2.2.toNat) (s:=(none,0,0,CT D h)) ⟨i,nd,[],ks,none,0,by rw [<-hid,CS W hi];rfl,rfl,PM,hi,by rw [hid];exact Lq,bI.nil _ _,Kept.refl _ _⟩ ?_
 rintro s v ⟨k,nk,dn,rs,A,c,rfl,yP,Xt,K6,D4,row,kv⟩;have aiL:=(lgeS K6).1;have HP:Kept Nil w v:=ud.trans kv (fun q hq e=>by omega);have sv:=kv.size;refine Split.yes (decide_eq_true (by simp only;omega)) ⟨nk.id.1,⟨nk.id.2.1,Cells.bE D4⟩,nk.id.2.1,?_⟩;intro jw;have mT:Kept Nil v jw:=(Kept.refl _ _).alloc _;have ab4:HS jw (some ⟨v.heap.size,0,none⟩) 1 [nk.id]:=iV v nk.id;clear_value jw;have XK:dn.length<=ks.length:=by rw [yP];simp
 have Sd:=mT.size;obtain⟨A2,c2,rV,aam,kl,U8,_⟩:=cD (cx:=1) aC (Row.aG row mT (fun _ _ h=>h)) ab4 (by omega) (by omega);have Fs:Kept (· =w.heap.size) w8 rV:=(kv.trans mT (fun _ _ h=>h.elim)).grown U8 (fun q hq cJ=>by have:=(Row.bE row hq).1;omega);have Tp:Kept Nil w rV:=ud.trans Fs (fun q hq e=>by omega);have Pm:dn.map (mi D)++ [nk.id]=(dn++ [k]).map (mi D):=by simp [mh K6]
 rw [Pm]at kl;have ab3:rV.heap[w.heap.size]? =some (.cells nk.id.1 ai (0,0)):=by
  have hkg:Kept (fun q=>a8 A=some q) jw rV:=Kept.grown (Kept.refl _ _) U8 (fun q hq _=>hq);exact hkg.heap (mT.heap D4 (fun h=>h)) (fun e=>by have:=(Row.bE row e).1;omega)
 refine⟨A2,_,c2,rV,aam,?_⟩;cases Xt with
 |root=>
  refine Split.yes rfl ?_;simp only;rw [aO,bu.df];have e:(ks.map (mi D)).length=dn.length+1:=by rw [yP];simp
  have:=hK A2 c2 rV (ks.map (mi D)) (.inr ⟨i,nd,ks,hi,hid,PM,rfl⟩) (by rw [e,yP];exact Row.base kl (fun b hb=>Nat.le_trans s08 (Row.bE kl hb).1)) Tp
  rwa [e]at this
 | @step _ j YQ hj H4=>
   have UW:=(Tr.hU jE (Tr.dS.2 hj)).1;refine Split.no (by simp only [beq_eq_false_iff_ne,ne_eq];omega) ?_;obtain⟨A0,c0,B,e,l,h1,h2,h3,h4,h5⟩:=(H.same Tp).ex;obtain⟨nj,Gq⟩:∃nj,D[j]? =some nj:=⟨_,List.getElem?_eq_getElem (by omega)⟩;refine⟨B,D.length,e,by rw [bg,aA h1];rfl,?_⟩;refine h3.load (i:=(k:Int)) (by omega) (by rw [Int.toNat_natCast];exact h5.2 k j nj hj Gq) ?_;obtain⟨g1,g2,g3⟩:=dW ab3 (cs:=nj.id.1) (by rw [nj.id.2.1,nk.id.2.1]);refine⟨⟨nj.id.2.1,nj.id.2.one,fun q hq=>g1 q (by rw [nj.id.2.1];exact hq)⟩,?_⟩;intro JT oQ
   replace g2:JT.heap[w.heap.size]? =some (.cells nj.id.1 ai (0,0)):=g2
   replace g3:Kept (· =w.heap.size) rV JT:=g3
   have zY:Kept Nil JT oQ:=(Kept.refl _ _).drew;clear_value oQ JT;have Ya:=zY.heap g2 (fun h=>h);have Tb:Kept (· =w.heap.size) w8 oQ:=(Fs.tt g3).trans zY (fun _ _ h=>h.elim);have Zz:Kept Nil w oQ:=ud.trans Tb (fun q hq e=>by omega);refine⟨nj.id.1,⟨nj.id.2.1,Cells.bE Ya⟩,?_⟩;rw [add_zero];refine mR (H.gr.same Zz) (by omega) nj.id fun NK OI=>⟨_,rfl,?_⟩;rw [CS W Gq];refine⟨(A2,dn.length+1,c2,(j:Int)),rfl,⟨j,nj,dn++ [k],YQ,A2,c2,by simp,by rw [yP];simp,H4,Gq,OI.heap Ya (fun h=>h),?_,Tb.trans OI (fun _ _ h=>h.elim)⟩,by simp only;omega⟩;rw [List.length_append];exact Row.aG (Row.aG (Row.aG kl g3 (fun q hq e=>by have:=(Row.bE kl hq).1;omega)) zY (fun _ _ h=>h)) OI (fun _ _ h=>h)
end
theorem YL(w:World)(r j:Nat)(v:Value):setCells w ((⟨r,0,none⟩:Addr).add j) [v] 0=w.setCell ⟨r,j,none⟩ v:=by
 simp only [setCells];rw [bg,bg,Nat.add_zero,Nat.zero_add]
theorem jG{v:World}{b:Nat}{z:Array Value}{t:TypeId}(s:HT)(h:v.heap[b]? =some (.cells z t (0,0)))(hz:z.size=32):
 (s.1.size=32/\(∀c∈s.1.toList,c.oneCell'=true)/\∀j,j<32->Wr v ((⟨b,0,none⟩:Addr).add j))/\(setCells v (⟨b,0,none⟩:Addr) s.1.toList 0).heap[b]? =some (.cells s.1 t (0,0))/\Kept (· =b) v (setCells v (⟨b,0,none⟩:Addr) s.1.toList 0):=by
 obtain⟨h1,h2,h3⟩:=dW h (cs:=s.1) (by rw [s.2.1];exact hz);exact⟨⟨s.2.1,s.2.one,fun j hj=>h1 j (by rw [s.2.1];exact hj)⟩,h2,h3⟩
theorem qT.one(r:HT):qT [⟨r,[]⟩] [-1]:=⟨rfl,rfl,fun i p nd hi hp=>by
 cases i with
 |zero=>omega
 |succ i=>simp at hp⟩
section
variable{w w':World}{F F' S:Nat->Prop}{r:Nat}{D:DG}{P:List Int}{K:Value->World->Prop}
theorem xY(root:HT)(hK:∀v r F,oP v F r [⟨root,[]⟩] [-1]->(∀k,F k->w.heap.size<=k/\k<v.heap.size)->w.heap.size<=r->Kept Nil w v->K (.pointer (some ⟨r,0,none⟩)) v):
 bk prog jU.id #[.agg root.1] w K:=by
 refine jU.of ?_;unfold jU.W;intro w2;have k2:Kept Nil w w2:=(Kept.refl _ _).alloc _;have lh:w2.heap[w.heap.size]? =some (.cells root.1 ai (0,0)):=aI w _;clear_value w2;have lO:(root.1.push (.slice none 0 0)).size=33:=by rw [Array.size_push,root.2.1]
 refine⟨root.1,⟨root.2.1,Cells.bE lh⟩,?_⟩;rw [I4];refine Is.mk rfl ⟨lO,?_⟩;intro w5;have h5:w5.heap[w2.heap.size]? =some (.cells (root.1.push (.slice none 0 0)) bP (0,0)):=by
  have:=aI w2 (.cells (root.1.push (.slice none 0 0)) bP);show(w2.alloc (.cells ((root.1.push (.slice none 0 0)).toList++ []).toArray bP)).heap[w2.heap.size]? =_;rw [List.append_nil,Array.toArray_toList];exact this
 have k5:Kept Nil w2 w5:=(Kept.refl _ _).alloc _;clear_value w5;refine⟨rfl,?_⟩;intro w6;have h6:w6.heap[w5.heap.size]? =some (.cells dZ.1 ai (0,0)):=aI w5 _;have k6:Kept Nil w5 w6:=(Kept.refl _ _).alloc _;clear_value w6;intro w7;have h7:w7.heap[w6.heap.size]? =some (.cells #[.slice (some ⟨w2.heap.size,0,none⟩) 1 1,.slice (some ⟨w5.heap.size,0,none⟩) 1 1] jy (0,0)):=aI w6 _;have k7:Kept Nil w6 w7:=(Kept.refl _ _).alloc _;clear_value w7;have s2:=k2.size;have s5:=k5.size;have s6:=k6.size;have l5:=aT h5;have l6:=aT h6;have h57:=k7.heap (k6.heap h5 (fun h=>h)) (fun h=>h);have h67:=k7.heap h6 (fun h=>h);have l67:=aT h67;refine hK w7 _ (fun k=>k=w2.heap.size\/k=w5.heap.size) ⟨⟨_,_,_,_,[dZ],h7,⟨rfl,fun i nd hi=>?_⟩,HS.one h67,fun a ha=>by cases ha;exact .inr rfl,⟨rfl,fun i j m hi hj=>?_⟩⟩,fun e=>by omega,qT.one root,jn.root root⟩ (fun k e=>by omega) (by omega) (((k2.tt k5).tt k6).tt k7)
 ·cases i with
  |zero=>
   simp at hi;subst hi;refine⟨_,none,0,0,rfl,aT h57,.inl rfl,fun j u hj=>?_,HS.nil _ _,fun b hb=>by cases hb⟩;rw [Nat.zero_mul,add_zero,bg,Nat.zero_add,aA h57];exact hj
  |succ i=>simp at hi
 ·cases i with
  |zero=>simp at hi
  |succ i=>simp at hi
theorem LV.snoc{l:List HT}(h:LV D P l)(hs:qT D P)(W:jn D){nd:DN}{j:Nat}{mj:DN}(hj:D[j]? =some mj):LV (D++ [nd]) (P++ [(j:Int)]) (l++ [mj.id]):=by
 have tn:=(lgeS hj).1;refine⟨by simp [h.1],fun i k m hi hm=>?_⟩;by_cases dP:i<P.length
 ·rw [List.getElem?_append_left dP]at hi
  have PT:i<D.length:=by rw [<-hs.len];exact dP
  rw [List.getElem?_append_left (by rw [h.1];exact PT)];have jE:=hs.par;have hk:k<D.length:=by
   rcases Nat.eq_zero_or_pos i with rfl|h0
   ·rw [jE.root]at hi;simp only [Option.some.injEq]at hi;omega
   ·obtain⟨j',h1,h2⟩:=jE.up i _ h0 hi
    omega
  rw [List.getElem?_append_left hk]at hm;exact h.2 i k m hi hm
 ·have abb:=(lgeS hi).1
  have e:i=P.length:=by simp at abb;omega
  subst e;simp at hi;have:k=j:=by omega
  subst this;rw [List.getElem?_append_left tn,hj]at hm;cases hm;rw [hs.len,<-h.1];simp
theorem ET(H:oP w F r D P)(hF:∀k,F k->k<w.heap.size)(hD:D.length<=5000){h s:HT}{lp:List HT}{A:Option Addr}{n c:Nat}(hl:HS w A n lp)(hn:n<=100000)
 (hK:∀w',oP w' (fun k=>F k\/(w.heap.size<=k/\k<w'.heap.size)) r (nE D h s lp) (nD D P h s lp)->Kept (· =r) w w'->K (.int .i64 (gJ D h s lp)) w'):
 bk prog ft.id #[.pointer (some ⟨r,0,none⟩),.agg h.1,.agg s.1,.slice A n c] w K:=by
 have aaa:=H.lt;have W:=H.W;have lE:∀w',Kept Nil w w'->∀e,gJ D h s lp=e->e≠0->K (.int .i64 e) w':=fun w' k e he e9=>by
  have:=hK w' ?_ (k.mono fun _ _ h=>h.elim)
  ·rw [he]at this;exact this
  ·unfold nE nD
   rw [if_neg (by rw [he];exact e9),if_neg (by rw [he];exact e9)];exact(H.same k).mono (fun _ h=>.inl h) (fun e=>e.elim H.gZ (fun h=>by omega))
 refine ft.of ?_;unfold ft.W;intro w5 w6;have k5:Kept Nil w w5:=(Kept.refl _ _).alloc _;have Li:w5.heap[w.heap.size]? =some (.cells h.1 ai (0,0)):=aI w _;have k6:Kept Nil w5 w6:=(Kept.refl _ _).alloc _;have KW:w6.heap[w5.heap.size]? =some (.cells s.1 ai (0,0)):=aI w5 _;clear_value w6;have XH:=k6.heap Li (fun h=>h);have qE:=k5.tt k6;have s5:=k5.size;have s6:=k6.size;have l5:=aT Li;have l6:=aT KW;clear_value w5;obtain⟨A0,c0,B0,e0,sl,jc,rW,Bh,hB0,acf⟩:=H.ex;have TG:=qE.heap jc (fun h=>h);refine Is.mk rfl ⟨#[.slice A0 D.length c0],⟨rfl,fun j v hj=>?_⟩,?_⟩
 ·cases j with
  |zero=>
   rw [add_zero,add_zero,aA TG];simpa using hj
  |succ j=>simp at hj
 intro w9;have h9:w9.heap[w6.heap.size]? =some (.cells #[.slice none 0 0] hZ (0,0)):=aI w6 _;have k9:Kept Nil w6 w9:=(Kept.refl _ _).alloc _;clear_value w9;obtain⟨g1,g2,g3⟩:=dW h9 (cs:= #[.slice A0 D.length c0]) rfl;refine⟨⟨rfl,fun u hu=>?_,fun j hj=>g1 j hj⟩,?_⟩
 ·simp at hu
  subst hu;rfl
 intro lR
 replace g2:lR.heap[w6.heap.size]? =some (.cells #[.slice A0 D.length c0] hZ (0,0)):=g2
 replace g3:Kept (· =w6.heap.size) w9 lR:=g3
 clear_value lR;have BX:Kept Nil w6 lR:=k9.trans g3 (fun k hk e=>by omega);have sy:=qE.tt BX;refine⟨h.1,⟨h.2.1,Cells.bE (BX.heap XH (fun h=>h))⟩,?_⟩;have hR:tV lR F w6.heap.size D:=⟨⟨A0,c0,_,_,g2,rfl,rW.same sy⟩,fun e=>by have:=hF _ e;omega⟩;have s12:=sy.size;refine Dk hR W (by omega) (hl.same sy) (by omega) fun nn Wg tj=>⟨_,rfl,?_⟩;have OS:Kept Nil w nn:=sy.trans tj (fun k hk e=>by omega);by_cases hC:dr D h lp≠0
 ·refine Split.yes (by simpa using hC) ?_
  refine lE nn OS _ ?_ hC;unfold gJ;rw [if_neg hC]
 replace hC:=Classical.not_not.1 hC
 refine Split.no (by rw [hC];rfl) ?_;have TO:nn.heap[w5.heap.size]? =some (.cells s.1 ai (0,0)):=tj.heap (BX.heap KW (fun h=>h)) (by omega);refine⟨s.1,⟨s.2.1,Cells.bE TO⟩,xV s (hl.same OS) (by omega) fun oR xk=>⟨_,rfl,?_⟩⟩;have HR:=OS.tt xk;by_cases vi:¬s∈lp
 ·refine Split.yes (by rw [decide_eq_false vi];rfl) ?_
  refine lE oR HR 2 ?_ (by omega);unfold gJ;rw [if_pos hC,if_neg vi]
 replace vi:=Classical.not_not.1 vi
 refine Split.no (by rw [decide_eq_true vi];rfl) ?_;have eX:gJ D h s lp=0:=by unfold gJ;rw [if_pos hC,if_pos vi]
 obtain⟨fC,e9,eW,cU⟩:=jM hC;obtain⟨mj,PE,PD⟩:=cP.1 (cU s (dd.2 vi));obtain⟨j,hj⟩:=List.mem_iff_getElem?.1 PE;have eP:nD D P h s lp=P++ [(j:Int)]:=by
  unfold nD;rw [if_pos eX,<-PD,W.pos_eq hj];rfl
 have eD:nE D h s lp=D++ [⟨h,di lp⟩]:=by unfold nE;rw [if_pos eX]
 rw [pM hC]at Wg;obtain⟨A1,c1,cs1,t1,h1,Vw,Ul⟩:=(Wg.same xk).ex;rw [List.length_append,List.length_singleton]at Ul Vw;have P5:oR.cell? (⟨w6.heap.size,0,none⟩:Addr)=some (.slice A1 (D.length+1) c1):=by rw [aA h1];exact Vw
 have sz1:=HR.size;have H8:=HR.heap jc (fun h=>h);refine⟨#[.slice A1 (D.length+1) c1],⟨rfl,fun i v hi=>?_⟩,Is.mk rfl ⟨⟨rfl,fun u hu=>?_,fun i hi=>?_⟩,?_⟩⟩
 ·cases i with
  |zero=>
   rw [add_zero,P5];simpa using hi
  |succ i=>simp at hi
 ·simp at hu
  subst hu;rfl
 ·have:i=0:=by omega
  subst this;rw [add_zero,add_zero];exact dO H8 (by simp)
 intro JT oQ;have ZT:JT.heap[r]? =some (.cells #[.slice A1 (D.length+1) c1,.slice B0 D.length e0] jy (0,0)):=by
  show(setCells oR ((⟨r,0,none⟩:Addr).add 0) [.slice A1 (D.length+1) c1] 0).heap[r]? =_;rw [YL,dc H8];rfl
 have DB:Kept (· =r) oR JT:=by
  show Kept (· =r) oR (setCells oR ((⟨r,0,none⟩:Addr).add 0) [.slice A1 (D.length+1) c1] 0)
  rw [add_zero];exact eZ _ _ _ _
 have zY:Kept Nil JT oQ:=(Kept.refl _ _).drew;clear_value oQ JT;have Pb:=zY.heap ZT (fun h=>h);have xj:Kept (· =r) oR oQ:=DB.trans zY (fun _ _ h=>h.elim);have MJ:HS oQ B0 D.length sl:=(Bh.same HR).aG xj (fun a ha e=>H.gZ (e▸hB0 a ha));have Ic:oQ.heap[w5.heap.size]? =some (.cells s.1 ai (0,0)):=xj.heap (xk.heap TO (fun h=>h)) (fun e=>by omega);refine Is.mk rfl ⟨B0,D.length,e0,by rw [bg,aA Pb];rfl,s.1,⟨s.2.1,Cells.bE Ic⟩,?_⟩;have fin:∀(v:World) (A2:Option Addr) (c2:Nat),Kept Nil oQ v->bI v oQ.heap.size A2 (D.length+1) c2 (sl++ [s])->
  Is (some (⟨r,0,none⟩:Addr)) fun a=>Wr v (a.add 1)/\K (.int .i64 0) (v.setCell (a.add 1) (.slice A2 (D.length+1) c2)):=fun v A2 c2 kv row=>by
  refine Is.mk rfl ?_;rw [bg];have hv:=kv.heap Pb (fun h=>h);have kf:Kept (· =r) v (v.setCell ⟨r,0+1,none⟩ (.slice A2 (D.length+1) c2)):=Kept.setCell (S:=fun k=>k=r) (Kept.refl _ v) (p:=⟨r,0+1,none⟩) (fun _=>rfl) _;refine⟨dO hv (by simp),?_⟩;have la:Kept (· =r) w (v.setCell ⟨r,0+1,none⟩ (.slice A2 (D.length+1) c2)):=(((HR.mono (S':=(· =r)) (fun _ _ h=>h.elim)).tt xj).trans kv (fun _ _ h=>h.elim)).tt kf;have:=hK (v.setCell ⟨r,0+1,none⟩ (.slice A2 (D.length+1) c2)) ?_ la
  ·rw [eX]at this
   exact this
  rw [eD,eP];have hbA:∀b,a8 A2=some b->oQ.heap.size<=b/\b<v.heap.size:=fun b hb=>by
   obtain⟨q1,cur,q2⟩:=Row.bE row hb;exact⟨q1,aT q2⟩
  have s26:=xj.size;have sv:=kv.size;have sf:=kf.size;have aej:Kept (· =r) nn oQ:=(xk.mono (S':=(· =r)) (fun _ _ h=>h.elim)).tt xj;refine⟨⟨A1,c1,A2,c2,sl++ [s],?_,?_,?_,fun a ha=>.inr ?_,?_⟩,fun e=>e.elim H.gZ (fun e=>by omega),H.iw.snoc hj (by rw [PD];exact dd.2 vi) (by have:=(lgeS hj).1;omega),W.snoc fC cU (ir lp)⟩
  ·rw [List.length_append,List.length_singleton,dc hv]
   rfl
  ·rw [List.length_append,List.length_singleton]
   have oD:Kept (· =r) oR (v.setCell ⟨r,0+1,none⟩ (.slice A2 (D.length+1) c2)):=(xj.trans kv (fun _ _ h=>h.elim)).tt kf;refine(Ul.aG oD fun k hk e=>?_).mono fun k hk=>?_
   ·rcases hk with hk|hk
    ·exact H.gZ (e▸hk)
    ·omega
   ·rcases hk with hk|hk
    ·exact .inl hk
    ·have:=xk.size
     exact .inr ⟨by omega,by omega⟩
  ·rw [List.length_append,List.length_singleton]
   exact(bI.hs row).aG kf (fun a ha e=>by have:=hbA a.block (by rw [ha];rfl);omega)
  ·have:=hbA a.block (by rw [ha];rfl)
   exact⟨by omega,by omega⟩
  ·rw [<-PD]
   exact acf.snoc H.iw W hj
 have mM:∀ {u:World},Kept Nil oQ u->∃cs:Array Value,(.agg s.1:Value)=.agg cs/\cs.size=32/\Cells u (⟨w5.heap.size,0,none⟩:Addr) cs:=fun k=>⟨s.1,rfl,s.2.1,Cells.bE (k.heap Ic (fun h=>h))⟩;refine⟨?_,?_⟩
 ·obtain⟨A3,c3,GI,TZ,Di,abo,VR⟩:=cD (cx:=e0) aC (bI.nil oQ oQ.heap.size) MJ (by omega) (Nat.le_refl _)
  rw [Nat.zero_add]at TZ Di;rw [List.nil_append]at Di;have Mq:Kept Nil oQ GI:=Kept.eh (Kept.refl _ _) abo (fun k hk=>by cases hk);refine⟨A3,_,c3,GI,TZ,mM Mq,s.2.1,?_⟩;intro tX;have Gn:Kept Nil GI tX:=(Kept.refl _ _).alloc _;have ZL:HS tX (some ⟨GI.heap.size,0,none⟩) 1 [s]:=iV GI s;clear_value tX;have s32:=Gn.size;have s31:=Mq.size;obtain⟨A4,c4,nK,KY,zt,P4,VQ⟩:=cD (cx:=1) aC (Row.aG Di Gn (fun _ _ h=>h)) ZL (by omega) (by omega);have Be:Kept Nil oQ nK:=Kept.eh (Mq.tt Gn) P4 (fun k hk=>(Row.bE Di hk).1);exact⟨A4,_,c4,nK,KY,fin nK A4 c4 Be zt⟩
 ·refine⟨s.2.1,?_⟩
  intro wJ;have Fq:Kept Nil oQ wJ:=(Kept.refl _ _).alloc _;have ZK:HS wJ (some ⟨oQ.heap.size,0,none⟩) 1 [s]:=iV oQ s;clear_value wJ;have s37:=Fq.size;refine⟨by rw [bg,aA (Fq.heap Pb (fun h=>h))];rfl,?_⟩;obtain⟨A3,c3,Gl,TY,Dh,abn,Lr⟩:=cD (cx:=e0) aC (bI.nil wJ wJ.heap.size) (MJ.same Fq) (by omega) (Nat.le_refl _);rw [Nat.zero_add]at TY Dh;rw [List.nil_append]at Dh;have HC:Kept Nil wJ Gl:=Kept.eh (Kept.refl _ _) abn (fun k hk=>by cases hk);have s39:=HC.size;obtain⟨A4,c4,NJ,aai,L8,abm,VO⟩:=cD (cx:=1) aC Dh (ZK.same HC) (by omega) (by omega);have OH:Kept Nil wJ NJ:=Kept.eh HC abm (fun k hk=>(Row.bE Dh hk).1);exact⟨A3,_,c3,Gl,TY,A4,_,c4,NJ,aai,fin NJ A4 c4 (Fq.tt OH) (Row.base L8 (fun k hk=>by have:=(Row.bE L8 hk).1;omega))⟩
end
section
variable{w w' v:World}{F FP FR S S2 F2:Nat->Prop}{x r:Nat}{D D':DG}{P P':List Int}{K:Value->World->Prop}
theorem BM(h:C1 w S F x D P)(hD:D.length<=5000)(hT:tT w)(JK:¬S (Tryz.jK.g 1)){A:Option Addr}{n cx:Nat}{lp:List HT}(hl:HS w A n lp)(hn:n<=5000)(hid s:HT)
 (hK:∀u S' F',C1 u S' F' x (nE D hid s lp) (nD D P hid s lp)->Kept S w u->(∀k,S' k->S k\/w.heap.size<=k)->(∀k,F' k->F k\/w.heap.size<=k)->K (.int .i64 (gJ D hid s lp)) u):
 bk prog aD.id #[.pointer (some ⟨x,0,none⟩),.agg hid.1,.agg s.1,.slice A n cx] w K:=by
 obtain⟨m,h1,h2⟩:=h;refine EU h1 hD hT (fun e=>JK (h2 _ (.inl e))) hl hn hid s (fun u k hc=>?_) (fun u S' F' hI k hS hF hc=>?_)
 ·refine hK u S F ?_ (k.mono fun _ _ h=>h.elim) (fun k h=>.inl h) (fun k h=>.inl h)
  unfold nE nD;rw [if_neg hc,if_neg hc];exact⟨m,h1.same k,h2⟩
 ·have:=hK u S' F' hI (k.mono fun k _ h=>h2 k h) (fun k h=>(hS k h).imp (h2 k) (fun h=>h)) hF
  rw [hc]at this;exact this
end
end Go.Proofs.YtfleamccglihoaaGreatDoor
namespace Go.Proofs.YtfleamccglihoaaGreatDoor
open Go.Proofs.Tryz
open Go Go.bR Go.RowKit
open Tr (jZ)
theorem four(w:World)(r a b c:HT):
 let w1:=w.alloc (.cells dZ.1 ai);let w2:=w1.alloc (.cells dZ.1 ai);let w3:=w2.alloc (.cells dZ.1 ai);let w4:=w3.alloc (.cells dZ.1 ai)
 let w7:=setCells w4 (⟨w.heap.size,0,none⟩:Addr) r.1.toList 0;let w10:=setCells w7 (⟨w1.heap.size,0,none⟩:Addr) a.1.toList 0;let lV:=setCells w10 (⟨w2.heap.size,0,none⟩:Addr) b.1.toList 0;let jw:=setCells lV (⟨w3.heap.size,0,none⟩:Addr) c.1.toList 0
 ((∀j,j<32->Wr w4 ((⟨w.heap.size,0,none⟩:Addr).add j))/\(∀j,j<32->Wr w7 ((⟨w1.heap.size,0,none⟩:Addr).add j))/\(∀j,j<32->Wr w10 ((⟨w2.heap.size,0,none⟩:Addr).add j))/\(∀j,j<32->Wr lV ((⟨w3.heap.size,0,none⟩:Addr).add j)))/\
 jw.heap[w.heap.size]? =some (.cells r.1 ai (0,0))/\jw.heap[w1.heap.size]? =some (.cells a.1 ai (0,0))/\jw.heap[w2.heap.size]? =some (.cells b.1 ai (0,0))/\jw.heap[w3.heap.size]? =some (.cells c.1 ai (0,0))/\
 w.heap.size<w1.heap.size/\w1.heap.size<w2.heap.size/\w2.heap.size<w3.heap.size/\w3.heap.size<jw.heap.size/\Kept Nil w jw:=by
 intro w1 w2 w3 w4;have k1':Kept Nil w w1:=(Kept.refl _ _).alloc _;have BZ:Kept Nil w1 w2:=(Kept.refl _ _).alloc _;have zX:Kept Nil w2 w3:=(Kept.refl _ _).alloc _;have KK:Kept Nil w3 w4:=(Kept.refl _ _).alloc _;have mE:w1.heap[w.heap.size]? =some (.cells dZ.1 ai (0,0)):=aI w _;have JJ:w2.heap[w1.heap.size]? =some (.cells dZ.1 ai (0,0)):=aI w1 _;have nh:w3.heap[w2.heap.size]? =some (.cells dZ.1 ai (0,0)):=aI w2 _;have Qe:w4.heap[w3.heap.size]? =some (.cells dZ.1 ai (0,0)):=aI w3 _;clear_value w4;have qJ:=KK.heap nh (fun h=>h);have Ar:=KK.heap (zX.heap JJ (fun h=>h)) (fun h=>h);have xn:=KK.heap (zX.heap (BZ.heap mE (fun h=>h)) (fun h=>h)) (fun h=>h);have l1:=aT mE;have l2:=aT JJ;have l3:=aT nh;have l4:=aT Qe;clear_value w3 w2 w1;have Hv:Kept Nil w w4:=((k1'.tt BZ).tt zX).tt KK;have sz:∀h:HT,dZ.1.size=h.1.size:=fun h=>by rw [h.2.1];rfl
 obtain⟨wr7,ML,k7⟩:=dW xn (cs:=r.1) (sz r);rw [r.2.1]at wr7;intro w7
 replace ML:w7.heap[w.heap.size]? =some (.cells r.1 ai (0,0)):=ML
 replace k7:Kept (· =w.heap.size) w4 w7:=k7
 clear_value w7;obtain⟨RY,Qu,mG⟩:=dW (k7.heap Ar (by omega)) (cs:=a.1) (sz a);rw [a.2.1]at RY;intro w10
 replace Qu:w10.heap[w1.heap.size]? =some (.cells a.1 ai (0,0)):=Qu
 replace mG:Kept (· =w1.heap.size) w7 w10:=mG
 clear_value w10;obtain⟨RX,yp,rI⟩:=dW (mG.heap (k7.heap qJ (by omega)) (by omega)) (cs:=b.1) (sz b);rw [b.2.1]at RX;intro lV
 replace yp:lV.heap[w2.heap.size]? =some (.cells b.1 ai (0,0)):=yp
 replace rI:Kept (· =w2.heap.size) w10 lV:=rI
 clear_value lV;obtain⟨RW,Lp,mT⟩:=dW (rI.heap (mG.heap (k7.heap Qe (by omega)) (by omega)) (by omega)) (cs:=c.1) (sz c);rw [c.2.1]at RW;intro jw
 replace Lp:jw.heap[w3.heap.size]? =some (.cells c.1 ai (0,0)):=Lp
 replace mT:Kept (· =w3.heap.size) lV jw:=mT
 clear_value jw;have Sd:=aT Lp;exact⟨⟨wr7,RY,RX,RW⟩,mT.heap (rI.heap (mG.heap ML (by omega)) (by omega)) (by omega),mT.heap (rI.heap Qu (by omega)) (by omega),mT.heap yp (by omega),Lp,by omega,by omega,by omega,Sd,
  (((Hv.trans k7 (fun k hk e=>by omega)).trans mG (fun k hk e=>by omega)).trans rI (fun k hk e=>by omega)).trans mT (fun k hk e=>by omega)⟩
section
variable{r a b c:HT}(yj:r≠a)(wh:r≠b)(DM:r≠c)(kM:a≠b)(D5:a≠c)(Bk:b≠c)
end
section
variable{w w':World}{K:Value->World->Prop}
end
end Go.Proofs.YtfleamccglihoaaGreatDoor
namespace Go.Proofs.YtfleamccglihoaaGreatDoor
open Go.Proofs.Tryz
open Go Go.bR Go.RowKit
open Go.ChangeMaps (setBlock)
theorem sN{x:HT}{v:Value}:∀ {l:List (HT×Value)} {j:Nat},(l.map (·.1)).Nodup->l[j]? =some (x,v)->assoc x l=some v
 | [],_,_,h=>by simp at h
 |(y,u)::l,0,_,h=>by
  simp at h;obtain⟨rfl,rfl⟩:=h;unfold assoc;rw [if_pos rfl]
 |(y,u)::l,j+1,hn,h=>by
  simp only [List.map_cons,List.nodup_cons]at hn;have hm:x∈l.map (·.1):=List.mem_map.2 ⟨(x,v),List.mem_of_getElem? (i:=j) (by simpa using h),rfl⟩;unfold assoc;rw [if_neg (fun e:x=y=>hn.1 (by rw [<-e];exact hm))];exact sN hn.2 (j:=j) (by simpa using h)
theorem xG{x:HT}{v:Value}:∀ {l:List (HT×Value)},assoc x l=some v->∃j:Nat,l[j]? =some (x,v)
 | [],h=>by simp [assoc]at h
 |(y,u)::l,h=>by
  unfold assoc at h;split at h
  ·rename_i e
   subst e;cases h;exact⟨0,rfl⟩
  ·obtain⟨j,hj⟩:=xG h
   exact⟨j+1,by simpa using hj⟩
theorem mZ.of{es:List MapEntry}{l:List (HT×Value)}(h:mZ es l){j:Nat}{e:MapEntry}(he:es[j]? =some e):∃p,l[j]? =some p/\e.key=.agg p.1.1/\e.val=p.2:=by
 have hlen:=h.len;have hj:=(lgeS he).1;obtain⟨p,hp⟩:∃p,l[j]? =some p:=⟨_,List.getElem?_eq_getElem (by omega)⟩;obtain⟨e',g1,g2,g3⟩:=h.get hp;rw [he]at g1;cases g1;exact⟨p,hp,g2,g3⟩
theorem yH{x y:HT}(h:(Value.agg x.1:Value)=.agg y.1):x=y:=by
 cases h':x;cases X5:y
 simp_all
structure oH(w:World)(m it:Nat)(f:HT->Option Value)(left:HT->Prop)(Bn:Nat):Prop where
 ne:it≠m
 ex:∃es clock l since seen c0,w.heap[m]? =some (.map es clock)/\mZ es.toList l/\(∀x,assoc x l=f x)/\(es.toList.map (·.born)).Nodup/\(l.map (·.1)).Nodup/\
  w.heap[it]? =some (.mapIter (some m) since seen c0)/\(∀e∈es.toList,e.born<since)/\since<=c0/\since<=clock/\(leftOf es seen).size=Bn/\∀x,left x↔∃e∈es.toList,e.key=.agg x.1/\seen.contains e.born=false
section
variable{w w':World}{m it:Nat}{f:HT->Option Value}{left:HT->Prop}{Bn:Nat}
theorem oH.aG{S:Nat->Prop}(h:oH w m it f left Bn)(hk:Kept S w w')(h1:¬S m)(h2:¬S it):oH w' m it f left Bn:=by
 obtain⟨es,clock,l,since,seen,c0,g1,g2,g3,g4,g5,g6,g7⟩:=h.ex;exact⟨h.ne,es,clock,l,since,seen,c0,hk.heap g1 h1,g2,g3,g4,g5,hk.heap g6 h2,g7⟩
theorem oH.left_eq(h:oH w m it f left Bn):w.rangeLeft m it=Bn:=by
 obtain⟨es,clock,l,since,seen,c0,g1,g2,g3,g4,g5,g6,g7,_,_,g8,_⟩:=h.ex;simp only [World.rangeLeft,g1,g6];exact g8
theorem oH.lt(h:oH w m it f left Bn):it<w.heap.size:=by
 obtain⟨es,clock,l,since,seen,c0,g1,g2,g3,g4,g5,g6,_⟩:=h.ex;exact aT g6
theorem fG.range{mt te:TypeId}{z:Value}(T:wH mt te z)(h:fG w m f):∃w' Bn,(Instr.range mt (.map (some m))).run prog w=.ok (.pointer (some ⟨w.heap.size,0,none⟩)) w'/\oH w' m w.heap.size f (fun x=>f x≠none) Bn/\Kept Nil w w':=by
 obtain⟨es,clock,l,g1,g2,g3,g4,g5,g6⟩:=h.ex;have cJ:=h.lt;refine⟨w.alloc (.mapIter (some m) clock #[] clock),_,run_range_map w mt ai te m es clock T.oS g1,⟨by omega,es,clock,l,clock,#[],clock,iQ g1 _,g2,g3,g5,g6,aI w _,g4,Nat.le_refl _,Nat.le_refl _,rfl,fun x=>?_⟩,(Kept.refl _ _).alloc _⟩;rw [<-g3];constructor
 ·intro hx
  cases ha:assoc x l with
  |none=>exact absurd ha hx
  |some v=>
   obtain⟨j,hj⟩:=xG ha;obtain⟨e,he,hk,_⟩:=g2.get hj;exact⟨e,List.mem_of_getElem? he,hk,by simp⟩
 ·rintro⟨e,he,hk,_⟩
  obtain⟨j,hj⟩:=List.mem_iff_getElem?.1 he;obtain⟨⟨y,v⟩,hp,mJ,_⟩:=g2.of hj;have:y=x:=yH (mJ.symm.trans hk);subst this;rw [sN g6 hp];simp
theorem oH.next(h:oH w m it f left Bn)(ty:TypeId):
 (Bn=0/\(∀x,¬left x)/\(Instr.next (.pointer (some ⟨it,0,none⟩)) false ty).run prog w=.ok (.tuple #[.bool false]) w)\/
 ∃(x:HT) (v:Value) (w':World) (WH:Nat),left x/\f x=some v/\(Instr.next (.pointer (some ⟨it,0,none⟩)) false ty).run prog w=.ok (.tuple #[.bool true,.agg x.1,v]) w'/\
  (Instr.entry (.pointer (some ⟨it,0,none⟩))).run prog w'=.ok (.tuple #[.agg x.1,v]) w'/\oH w' m it f (fun y=>left y/\y≠x) WH/\WH<Bn/\Kept (· =it) w w':=by
 have e9:=h.ne;obtain⟨es,clock,l,since,seen,c0,g1,g2,g3,g4,g5,g6,g7,g8,g8',rfl,g9⟩:=h.ex;rcases run_next_at (P:=prog) w ty it m since c0 seen es clock g6 g1 g7 g8 with⟨h0,hr⟩|⟨e,he,w1,Jz,hr⟩
 ·refine .inl ⟨h0,fun x hx=>?_,hr⟩
  obtain⟨e,he,_,hs⟩:=(g9 x).1 hx;have hm:e∈leftOf es seen:=by
   unfold leftOf;rw [Array.mem_filter];exact⟨by simpa using he,by rw [hs];rfl⟩
  have:=Array.size_pos_of_mem hm;omega
 ·obtain⟨XI,hes⟩:=mem_left he
  obtain⟨j,hj⟩:=List.mem_iff_getElem?.1 XI;obtain⟨⟨x,v⟩,hp,hk,hv⟩:=g2.of hj;have hk:e.key=.agg x.1:=hk;have hv:e.val=v:=hv;rw [hk,hv]at hr;have aa8:w1.heap[it]? =some (.mapIter (some m) since seen c0):=by rcases Jz with rfl|rfl<;>exact g6
  have MV:w1.heap[m]? =some (.map es clock):=by rcases Jz with rfl|rfl<;>exact g1
  have KV:(setBlock w1 it (.mapIter (some m) since (seen.push e.born) clock)).heap[it]? =some (.mapIter (some m) since (seen.push e.born) clock):=by
   have:=aT aa8;simp [setBlock,this]
  have Uf:(setBlock w1 it (.mapIter (some m) since (seen.push e.born) clock)).heap[m]? =some (.map es clock):=by
   simp [setBlock,e9,MV]
  have UP:Kept (· =it) w (setBlock w1 it (.mapIter (some m) since (seen.push e.born) clock)):=by
   have hd:w.drew.heap=w.heap:=rfl;rcases Jz with rfl|rfl
   ·exact⟨rfl,rfl,rfl,by simp [setBlock],fun k _ hk=>by simp [setBlock,Ne.symm hk]⟩
   ·exact⟨rfl,rfl,rfl,by simp [setBlock,hd],fun k _ hk=>by simp [setBlock,hd,Ne.symm hk]⟩
  refine .inr ⟨x,v,_,_,(g9 x).2 ⟨e,XI,hk,hes⟩,by rw [<-g3];exact sN g5 hp,hr,?_,⟨e9,es,clock,l,since,seen.push e.born,clock,Uf,g2,g3,g4,g5,KV,g7,g8',g8',rfl,fun y=>?_⟩,left_shrinks es seen e he,UP⟩
  ·have:=run_entry_at (P:=prog) _ it m since seen es clock e KV Uf XI g4
   rw [hk,hv]at this;exact this
  ·have LP:∀ {e':MapEntry},e'∈es.toList->e'.born=e.born->e'=e:=fun {e'} Lo hb=>by
    obtain⟨j',vm⟩:=List.mem_iff_getElem?.1 Lo;have h1:(es.toList.map (·.born))[j']? =some e'.born:=by rw [List.getElem?_map,vm];rfl
    have h2:(es.toList.map (·.born))[j]? =some e.born:=by rw [List.getElem?_map,hj];rfl
    rw [hb]at h1;have g1:=lgeS h1;have g2:=lgeS h2;have:j'=j:=(List.getElem_inj g4).1 (g1.2.trans g2.2.symm);subst this;rw [hj]at vm;cases vm;rfl
   rw [g9];constructor
   ·rintro⟨⟨e',Lo,oD,ny⟩,aaO⟩
    refine⟨e',Lo,oD,?_⟩;rw [contains_push,ny,Bool.false_or,beq_eq_false_iff_ne];intro hb;have:=LP Lo hb;subst this;exact aaO (yH (oD.symm.trans hk))
   ·rintro⟨e',Lo,oD,ny⟩
    rw [contains_push,Bool.or_eq_false_iff]at ny;refine⟨⟨e',Lo,oD,ny.1⟩,fun DK=>?_⟩;subst DK;obtain⟨j',vm⟩:=List.mem_iff_getElem?.1 Lo;obtain⟨⟨y',v'⟩,Cp,mJ,_⟩:=g2.of vm;have e1:y'=y:=yH (mJ.symm.trans oD);subst e1;have h1:(l.map (·.1))[j']? =some y':=by rw [List.getElem?_map,Cp];rfl
    have h2:(l.map (·.1))[j]? =some y':=by rw [List.getElem?_map,hp];rfl
    have g1:=lgeS h1;have g2:=lgeS h2;have:j'=j:=(List.getElem_inj g5).1 (g1.2.trans g2.2.symm);subst this;rw [hj]at vm;cases vm;simp at ny
end
end Go.Proofs.YtfleamccglihoaaGreatDoor
