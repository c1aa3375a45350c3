import Derived.Test.YtfleamccglihoaaGreatDoorMI
import Derived.Test.YtfleamccglihoaaGreatDoorMG
import Derived.Test.YtfleamccglihoaaGreatDoorMF
import Derived.Maps.Range
import Derived.Test.YtfleamccglihoaaGreatDoorMH
open Go.IntKind (i64 u64)
set_option linter.unusedVariables false
namespace Go.Proofs.YtfleamccglihoaaGreatDoor
open Go.Proofs.Tryz
open Go Go.bV Go.RowKit
def MM(D:DG)(P:List Int)(l:List HT):Prop:=l.length=D.length/\∀(i j:Nat) (m:DN),P[i]? =some (j:Int)->D[j]? =some m->l[i]? =some m.id
structure pr(w:World)(F:Nat->Prop)(r:Nat)(D:DG)(P:List Int):Prop where
 ex:∃(A:Option Addr) (c:Nat) (B:Option Addr) (e:Nat) (l:List HT),w.heap[r]? =some (.cells #[.slice A D.length c,.slice B D.length e] jR (0,0))/\NS w F A D.length D/\HS w B D.length l/\(∀a,B=some a->F a.block)/\MM D P l
 iC:¬F r
 gQ:rR D P
 W:jG D
section
variable{w w':World}{F F' S:Nat->Prop}{r:Nat}{D:DG}{P:List Int}{K:Value->World->Prop}
theorem pr.aF(h:pr w F r D P)(hk:Kept S w w')(hr:¬S r)(hn:∀k,F k->¬S k):pr w' F r D P:=by
 obtain⟨A,c,B,e,l,h1,h2,h3,h4,h5⟩:=h.ex;exact⟨⟨A,c,B,e,l,hk.heap h1 hr,h2.aF hk hn,h3.aF hk (fun a ha=>hn _ (h4 a ha)),h4,h5⟩,h.iC,h.gQ,h.W⟩
theorem pr.same(h:pr w F r D P)(hk:Kept Nil w w'):pr w' F r D P:=h.aF hk (fun h=>h) (fun _ _ h=>h)
theorem pr.lt(h:pr w F r D P):r<w.heap.size:=by obtain⟨A,c,B,e,l,h1,_⟩:=h.ex;exact aV h1
theorem pr.mono(h:pr w F r D P)(hf:∀k,F k->F' k)(hr:¬F' r):pr w F' r D P:=by
 obtain⟨A,c,B,e,l,h1,h2,h3,h4,h5⟩:=h.ex;exact⟨⟨A,c,B,e,l,h1,h2.mono hf,h3,fun a ha=>hf _ (h4 a ha),h5⟩,hr,h.gQ,h.W⟩
theorem pr.gr(h:pr w F r D P):uM w F r D:=by
 obtain⟨A,c,B,e,l,h1,h2,_⟩:=h.ex;exact⟨⟨A,c,_,_,h1,rfl,h2⟩,h.iC⟩
theorem DB(W:jG D){j:Nat}{nd:DN}(h:D[j]? =some nd):xz D nd.id=(j:Int):=by unfold xz;rw [W.pos_eq h]
theorem Ao(H:pr w F r D P)(hD:D.length<=10000)(h:HT)(hK:∀A c w' l,cF D P h l->bM w' w.heap.size A l.length c l->Kept Nil w w'->K (.slice A l.length c) w'):
 bz prog bG.id #[.pointer (some ⟨r,0,none⟩),.agg h.1] w K:=by
 have W:=H.W;have jX:=H.gQ.par;refine bG.of ?_;unfold bG.W;intro w3 w4;have k3:Kept Nil w w3:=(Kept.refl _ _).alloc _;have nC:w3.heap[w.heap.size]? =some (.cells h.1 ag (0,0)):=aI w _;have k4:Kept Nil w3 w4:=(Kept.refl _ _).drew;clear_value w4;have pg:=k4.heap nC (fun h=>h);have mE:=k3.tt k4;refine⟨h.1,⟨h.2.1,Cells.bJ pg⟩,?_⟩;rw [add_zero];refine ln (H.gr.same mE) (by omega) h fun w8 k8=>⟨_,rfl,?_⟩;have uS:=mE.tt k8;have Ml:=k8.heap pg (fun h=>h);have s08:=uS.size;have l08:=aV Ml;by_cases hm:¬h∈ids D
 ·have y7:=qH.2 hm
  refine bG.cy (I:=fun s v=>s=(none,0,0,xz D h)/\v=w8) (μ:=fun _ _=>0) (s:=(none,0,0,xz D h)) ⟨rfl,rfl⟩ ?_;rintro s v ⟨rfl,rfl⟩;refine Split.no (decide_eq_false (by simp only;omega)) ?_;simp only;rw [aS,bG.dq];exact hK none 0 v [] (.inl ⟨hm,rfl⟩) (bM.nil _ _) uS
 replace hm:=Classical.not_not.1 hm
 obtain⟨nd,ft,hid⟩:=cS.1 hm;obtain⟨i,hi⟩:=List.mem_iff_getElem?.1 ft;have dY:=(lgeS hi).1;obtain⟨ks,QA⟩:=Up.ex jX i (by rw [H.gQ.len];exact dY);have B8:=QA.len jX;refine bG.cy (I:=fun s v=>∃(k:Nat) (nk:DN) (dn rs:List Nat) (A:Option Addr) (c:Nat),s=(A,dn.length,c,(k:Int))/\ks=dn++rs/\Up P k rs/\D[k]? =some nk/\v.heap[w.heap.size]? =some (.cells nk.id.1 ag (0,0))/\bM v w8.heap.size A dn.length c (dn.map (mO D))/\Kept (· =w.heap.size) w8 v)
  (μ:=fun s _=>s.2.2.2.toNat) (s:=(none,0,0,xz D h)) ⟨i,nd,[],ks,none,0,by rw [<-hid,DB W hi];rfl,rfl,QA,hi,by rw [hid];exact Ml,bM.nil _ _,Kept.refl _ _⟩ ?_
 rintro s v ⟨k,nk,dn,rs,A,c,rfl,zA,Ym,LV,EG,row,kv⟩;have ajI:=(lgeS LV).1;have Eo:Kept Nil w v:=uS.trans kv (fun q hq e=>by omega);have sv:=kv.size;refine Split.yes (decide_eq_true (by simp only;omega)) ⟨nk.id.1,⟨nk.id.2.1,Cells.bJ EG⟩,nk.id.2.1,?_⟩;intro jO;have nM:Kept Nil v jO:=(Kept.refl _ _).alloc _;have acY:HS jO (some ⟨v.heap.size,0,none⟩) 1 [nk.id]:=jq v nk.id;clear_value jO;have YC:dn.length<=ks.length:=by rw [zA];simp
 have S7:=nM.size;obtain⟨A2,c2,sN,aa7,lj,V8,_⟩:=cK (cx:=1) ay (Row.aF row nM (fun _ _ h=>h)) acY (by omega) (by omega);have Ge:Kept (· =w.heap.size) w8 sN:=(kv.trans nM (fun _ _ h=>h.elim)).grown V8 (fun q hq cU=>by have:=(Row.bJ row hq).1;omega);have Ue:Kept Nil w sN:=uS.trans Ge (fun q hq e=>by omega);have Qf:dn.map (mO D)++ [nk.id]=(dn++ [k]).map (mO D):=by simp [mN LV]
 rw [Qf]at lj;have acX:sN.heap[w.heap.size]? =some (.cells nk.id.1 ag (0,0)):=by
  have hkg:Kept (fun q=>bn A=some q) jO sN:=Kept.grown (Kept.refl _ _) V8 (fun q hq _=>hq);exact hkg.heap (nM.heap EG (fun h=>h)) (fun e=>by have:=(Row.bJ row e).1;omega)
 refine⟨A2,_,c2,sN,aa7,?_⟩;cases Ym with
 |root=>
  refine Split.yes rfl ?_;simp only;rw [aS,bG.dq];have e:(ks.map (mO D)).length=dn.length+1:=by rw [zA];simp
  have:=hK A2 c2 sN (ks.map (mO D)) (.inr ⟨i,nd,ks,hi,hid,QA,rfl⟩) (by rw [e,zA];exact Row.base lj (fun b hb=>Nat.le_trans s08 (Row.bJ lj hb).1)) Ue
  rwa [e]at this
 | @step _ j ZF hj IQ=>
   have VR:=(Tr.iD jX (Tr.eE.2 hj)).1;refine Split.no (by simp only [beq_eq_false_iff_ne,ne_eq];omega) ?_;obtain⟨A0,c0,B,e,l,h1,h2,h3,h4,h5⟩:=(H.same Ue).ex;obtain⟨nj,Hd⟩:∃nj,D[j]? =some nj:=⟨_,List.getElem?_eq_getElem (by omega)⟩;refine⟨B,D.length,e,by rw [bt,aD h1];rfl,?_⟩;refine h3.load (i:=(k:Int)) (by omega) (by rw [Int.toNat_natCast];exact h5.2 k j nj hj Hd) ?_;obtain⟨g1,g2,g3⟩:=dR acX (cs:=nj.id.1) (by rw [nj.id.2.1,nk.id.2.1]);refine⟨⟨nj.id.2.1,nj.id.2.one,fun q hq=>g1 q (by rw [nj.id.2.1];exact hq)⟩,?_⟩;intro KP pv
   replace g2:KP.heap[w.heap.size]? =some (.cells nj.id.1 ag (0,0)):=g2
   replace g3:Kept (· =w.heap.size) sN KP:=g3
   have AZ:Kept Nil KP pv:=(Kept.refl _ _).drew;clear_value pv KP;have YX:=AZ.heap g2 (fun h=>h);have TX:Kept (· =w.heap.size) w8 pv:=(Ge.tt g3).trans AZ (fun _ _ h=>h.elim);have aaj:Kept Nil w pv:=uS.trans TX (fun q hq e=>by omega);refine⟨nj.id.1,⟨nj.id.2.1,Cells.bJ YX⟩,?_⟩;rw [add_zero];refine ln (H.gr.same aaj) (by omega) nj.id fun OP PC=>⟨_,rfl,?_⟩;rw [DB W Hd];refine⟨(A2,dn.length+1,c2,(j:Int)),rfl,⟨j,nj,dn++ [k],ZF,A2,c2,by simp,by rw [zA];simp,IQ,Hd,PC.heap YX (fun h=>h),?_,TX.trans PC (fun _ _ h=>h.elim)⟩,by simp only;omega⟩;rw [List.length_append];exact Row.aF (Row.aF (Row.aF lj g3 (fun q hq e=>by have:=(Row.bJ lj hq).1;omega)) AZ (fun _ _ h=>h)) PC (fun _ _ h=>h)
end
theorem Zz(w:World)(r j:Nat)(v:Value):setCells w ((⟨r,0,none⟩:Addr).add j) [v] 0=w.setCell ⟨r,j,none⟩ v:=by
 simp only [setCells];rw [bt,bt,Nat.add_zero,Nat.zero_add]
theorem jy{v:World}{b:Nat}{z:Array Value}{t:TypeId}(s:HT)(h:v.heap[b]? =some (.cells z t (0,0)))(hz:z.size=32):
 (s.1.size=32/\(∀c∈s.1.toList,c.oneCell'=true)/\∀j,j<32->Wr v ((⟨b,0,none⟩:Addr).add j))/\(setCells v (⟨b,0,none⟩:Addr) s.1.toList 0).heap[b]? =some (.cells s.1 t (0,0))/\Kept (· =b) v (setCells v (⟨b,0,none⟩:Addr) s.1.toList 0):=by
 obtain⟨h1,h2,h3⟩:=dR h (cs:=s.1) (by rw [s.2.1];exact hz);exact⟨⟨s.2.1,s.2.one,fun j hj=>h1 j (by rw [s.2.1];exact hj)⟩,h2,h3⟩
theorem rR.one(r:HT):rR [⟨r,[]⟩] [-1]:=⟨rfl,rfl,fun i p nd hi hp=>by
 cases i with
 |zero=>omega
 |succ i=>simp at hp⟩
section
variable{w w':World}{F F' S:Nat->Prop}{r:Nat}{D:DG}{P:List Int}{K:Value->World->Prop}
theorem yL(root:HT)(hK:∀v r F,pr v F r [⟨root,[]⟩] [-1]->(∀k,F k->w.heap.size<=k/\k<v.heap.size)->w.heap.size<=r->Kept Nil w v->K (.pointer (some ⟨r,0,none⟩)) v):
 bz prog kO.id #[.agg root.1] w K:=by
 refine kO.of ?_;unfold kO.W;intro w2;have k2:Kept Nil w w2:=(Kept.refl _ _).alloc _;have kX:w2.heap[w.heap.size]? =some (.cells root.1 ag (0,0)):=aI w _;clear_value w2;have mu:(root.1.push (.slice none 0 0)).size=33:=by rw [Array.size_push,root.2.1]
 refine⟨root.1,⟨root.2.1,Cells.bJ kX⟩,?_⟩;rw [JO];refine Is.mk rfl ⟨mu,?_⟩;intro w5;have h5:w5.heap[w2.heap.size]? =some (.cells (root.1.push (.slice none 0 0)) bW (0,0)):=by
  have:=aI w2 (.cells (root.1.push (.slice none 0 0)) bW);show(w2.alloc (.cells ((root.1.push (.slice none 0 0)).toList++ []).toArray bW)).heap[w2.heap.size]? =_;rw [List.append_nil,Array.toArray_toList];exact this
 have k5:Kept Nil w2 w5:=(Kept.refl _ _).alloc _;clear_value w5;refine⟨rfl,?_⟩;intro w6;have h6:w6.heap[w5.heap.size]? =some (.cells dz.1 ag (0,0)):=aI w5 _;have k6:Kept Nil w5 w6:=(Kept.refl _ _).alloc _;clear_value w6;intro w7;have h7:w7.heap[w6.heap.size]? =some (.cells #[.slice (some ⟨w2.heap.size,0,none⟩) 1 1,.slice (some ⟨w5.heap.size,0,none⟩) 1 1] jR (0,0)):=aI w6 _;have k7:Kept Nil w6 w7:=(Kept.refl _ _).alloc _;clear_value w7;have s2:=k2.size;have s5:=k5.size;have s6:=k6.size;have l5:=aV h5;have l6:=aV h6;have h57:=k7.heap (k6.heap h5 (fun h=>h)) (fun h=>h);have h67:=k7.heap h6 (fun h=>h);have l67:=aV h67;refine hK w7 _ (fun k=>k=w2.heap.size\/k=w5.heap.size) ⟨⟨_,_,_,_,[dz],h7,⟨rfl,fun i nd hi=>?_⟩,HS.one h67,fun a ha=>by cases ha;exact .inr rfl,⟨rfl,fun i j m hi hj=>?_⟩⟩,fun e=>by omega,rR.one root,jG.root root⟩ (fun k e=>by omega) (by omega) (((k2.tt k5).tt k6).tt k7)
 ·cases i with
  |zero=>
   simp at hi;subst hi;refine⟨_,none,0,0,rfl,aV h57,.inl rfl,fun j u hj=>?_,HS.nil _ _,fun b hb=>by cases hb⟩;rw [Nat.zero_mul,add_zero,bt,Nat.zero_add,aD h57];exact hj
  |succ i=>simp at hi
 ·cases i with
  |zero=>simp at hi
  |succ i=>simp at hi
theorem MM.snoc{l:List HT}(h:MM D P l)(hs:rR D P)(W:jG D){nd:DN}{j:Nat}{mj:DN}(hj:D[j]? =some mj):MM (D++ [nd]) (P++ [(j:Int)]) (l++ [mj.id]):=by
 have tF:=(lgeS hj).1;refine⟨by simp [h.1],fun i k m hi hm=>?_⟩;by_cases dY:i<P.length
 ·rw [List.getElem?_append_left dY]at hi
  have QF:i<D.length:=by rw [<-hs.len];exact dY
  rw [List.getElem?_append_left (by rw [h.1];exact QF)];have jX:=hs.par;have hk:k<D.length:=by
   rcases Nat.eq_zero_or_pos i with rfl|h0
   ·rw [jX.root]at hi;simp only [Option.some.injEq]at hi;omega
   ·obtain⟨j',h1,h2⟩:=jX.up i _ h0 hi
    omega
  rw [List.getElem?_append_left hk]at hm;exact h.2 i k m hi hm
 ·have ab0:=(lgeS hi).1
  have e:i=P.length:=by simp at ab0;omega
  subst e;simp at hi;have:k=j:=by omega
  subst this;rw [List.getElem?_append_left tF,hj]at hm;cases hm;rw [hs.len,<-h.1];simp
theorem FG(H:pr w F r D P)(hF:∀k,F k->k<w.heap.size)(hD:D.length<=5000){h s:HT}{lp:List HT}{A:Option Addr}{n c:Nat}(hl:HS w A n lp)(hn:n<=100000)
 (hK:∀w',pr w' (fun k=>F k\/(w.heap.size<=k/\k<w'.heap.size)) r (ox D h s lp) (ow D P h s lp)->Kept (· =r) w w'->K (.int .i64 (hU D h s lp)) w'):
 bz prog fI.id #[.pointer (some ⟨r,0,none⟩),.agg h.1,.agg s.1,.slice A n c] w K:=by
 have aaV:=H.lt;have W:=H.W;have kW:∀w',Kept Nil w w'->∀e,hU D h s lp=e->e≠0->K (.int .i64 e) w':=fun w' k e he fD=>by
  have:=hK w' ?_ (k.mono fun _ _ h=>h.elim)
  ·rw [he]at this;exact this
  ·unfold ox ow
   rw [if_neg (by rw [he];exact fD),if_neg (by rw [he];exact fD)];exact(H.same k).mono (fun _ h=>.inl h) (fun e=>e.elim H.iC (fun h=>by omega))
 refine fI.of ?_;unfold fI.W;intro w5 w6;have k5:Kept Nil w w5:=(Kept.refl _ _).alloc _;have Mb:w5.heap[w.heap.size]? =some (.cells h.1 ag (0,0)):=aI w _;have k6:Kept Nil w5 w6:=(Kept.refl _ _).alloc _;have LJ:w6.heap[w5.heap.size]? =some (.cells s.1 ag (0,0)):=aI w5 _;clear_value w6;have Yz:=k6.heap Mb (fun h=>h);have o8:=k5.tt k6;have s5:=k5.size;have s6:=k6.size;have l5:=aV Mb;have l6:=aV LJ;clear_value w5;obtain⟨A0,c0,B0,e0,sl,jx,sO,BY,hB0,ac9⟩:=H.ex;have Uw:=o8.heap jx (fun h=>h);refine Is.mk rfl ⟨#[.slice A0 D.length c0],⟨rfl,fun j v hj=>?_⟩,?_⟩
 ·cases j with
  |zero=>
   rw [add_zero,add_zero,aD Uw];simpa using hj
  |succ j=>simp at hj
 intro w9;have h9:w9.heap[w6.heap.size]? =some (.cells #[.slice none 0 0] iE (0,0)):=aI w6 _;have k9:Kept Nil w6 w9:=(Kept.refl _ _).alloc _;clear_value w9;obtain⟨g1,g2,g3⟩:=dR h9 (cs:= #[.slice A0 D.length c0]) rfl;refine⟨⟨rfl,fun u hu=>?_,fun j hj=>g1 j hj⟩,?_⟩
 ·simp at hu
  subst hu;rfl
 intro lY
 replace g2:lY.heap[w6.heap.size]? =some (.cells #[.slice A0 D.length c0] iE (0,0)):=g2
 replace g3:Kept (· =w6.heap.size) w9 lY:=g3
 clear_value lY;have CE:Kept Nil w6 lY:=k9.trans g3 (fun k hk e=>by omega);have tq:=o8.tt CE;refine⟨h.1,⟨h.2.1,Cells.bJ (CE.heap Yz (fun h=>h))⟩,?_⟩;have hR:uM lY F w6.heap.size D:=⟨⟨A0,c0,_,_,g2,rfl,sO.same tq⟩,fun e=>by have:=hF _ e;omega⟩;have s12:=tq.size;refine D6 hR W (by omega) (hl.same tq) (by omega) fun nS W9 uh=>⟨_,rfl,?_⟩;have PO:Kept Nil w nS:=tq.trans uh (fun k hk e=>by omega);by_cases hC:dF D h lp≠0
 ·refine Split.yes (by simpa using hC) ?_
  refine kW nS PO _ ?_ hC;unfold hU;rw [if_neg hC]
 replace hC:=Classical.not_not.1 hC
 refine Split.no (by rw [hC];rfl) ?_;have UE:nS.heap[w5.heap.size]? =some (.cells s.1 ag (0,0)):=uh.heap (CE.heap LJ (fun h=>h)) (by omega);refine⟨s.1,⟨s.2.1,Cells.bJ UE⟩,tg s (hl.same PO) (by omega) fun pw yc=>⟨_,rfl,?_⟩⟩;have II:=PO.tt yc;by_cases vY:¬s∈lp
 ·refine Split.yes (by rw [decide_eq_false vY];rfl) ?_
  refine kW pw II 2 ?_ (by omega);unfold hU;rw [if_pos hC,if_neg vY]
 replace vY:=Classical.not_not.1 vY
 refine Split.no (by rw [decide_eq_true vY];rfl) ?_;have eX:hU D h s lp=0:=by unfold hU;rw [if_pos hC,if_pos vY]
 obtain⟨fQ,fD,ft,dm⟩:=km hC;obtain⟨mj,Qu,Qt⟩:=cS.1 (dm s (dt.2 vY));obtain⟨j,hj⟩:=List.mem_iff_getElem?.1 Qu;have eP:ow D P h s lp=P++ [(j:Int)]:=by
  unfold ow;rw [if_pos eX,<-Qt,W.pos_eq hj];rfl
 have eD:ox D h s lp=D++ [⟨h,dA lp⟩]:=by unfold ox;rw [if_pos eX]
 rw [ql hC]at W9;obtain⟨A1,c1,cs1,t1,h1,Wu,U8⟩:=(W9.same yc).ex;rw [List.length_append,List.length_singleton]at U8 Wu;have QR:pw.cell? (aR w6.heap.size)=some (.slice A1 (D.length+1) c1):=by rw [aD h1];exact Wu
 have sz1:=II.size;have IV:=II.heap jx (fun h=>h);refine⟨#[.slice A1 (D.length+1) c1],⟨rfl,fun i v hi=>?_⟩,Is.mk rfl ⟨⟨rfl,fun u hu=>?_,fun i hi=>?_⟩,?_⟩⟩
 ·cases i with
  |zero=>
   rw [add_zero,QR];simpa using hi
  |succ i=>simp at hi
 ·simp at hu
  subst hu;rfl
 ·have:i=0:=by omega
  subst this;rw [add_zero,add_zero];exact dS IV (by simp)
 intro KP pv;have aaD:KP.heap[r]? =some (.cells #[.slice A1 (D.length+1) c1,.slice B0 D.length e0] jR (0,0)):=by
  show(setCells pw ((⟨r,0,none⟩:Addr).add 0) [.slice A1 (D.length+1) c1] 0).heap[r]? =_;rw [Zz,di IV];rfl
 have Ek:Kept (· =r) pw KP:=by
  show Kept (· =r) pw (setCells pw ((⟨r,0,none⟩:Addr).add 0) [.slice A1 (D.length+1) c1] 0)
  rw [add_zero];exact fu _ _ _ _
 have AZ:Kept Nil KP pv:=(Kept.refl _ _).drew;clear_value pv KP;have P7:=AZ.heap aaD (fun h=>h);have x9:Kept (· =r) pw pv:=Ek.trans AZ (fun _ _ h=>h.elim);have NC:HS pv B0 D.length sl:=(BY.same II).aF x9 (fun a ha e=>H.iC (e▸hB0 a ha));have I1:pv.heap[w5.heap.size]? =some (.cells s.1 ag (0,0)):=x9.heap (yc.heap UE (fun h=>h)) (fun e=>by omega);refine Is.mk rfl ⟨B0,D.length,e0,by rw [bt,aD P7];rfl,s.1,⟨s.2.1,Cells.bJ I1⟩,?_⟩;have fin:∀(v:World) (A2:Option Addr) (c2:Nat),Kept Nil pv v->bM v pv.heap.size A2 (D.length+1) c2 (sl++ [s])->
  Is (some (⟨r,0,none⟩:Addr)) fun a=>Wr v (a.add 1)/\K (.int .i64 0) (v.setCell (a.add 1) (.slice A2 (D.length+1) c2)):=fun v A2 c2 kv row=>by
  refine Is.mk rfl ?_;rw [bt];have hv:=kv.heap P7 (fun h=>h);have kf:Kept (· =r) v (v.setCell ⟨r,0+1,none⟩ (.slice A2 (D.length+1) c2)):=Kept.setCell (S:=fun k=>k=r) (Kept.refl _ v) (p:=⟨r,0+1,none⟩) (fun _=>rfl) _;refine⟨dS hv (by simp),?_⟩;have lP:Kept (· =r) w (v.setCell ⟨r,0+1,none⟩ (.slice A2 (D.length+1) c2)):=(((II.mono (S':=(· =r)) (fun _ _ h=>h.elim)).tt x9).trans kv (fun _ _ h=>h.elim)).tt kf;have:=hK (v.setCell ⟨r,0+1,none⟩ (.slice A2 (D.length+1) c2)) ?_ lP
  ·rw [eX]at this
   exact this
  rw [eD,eP];have hbA:∀b,bn A2=some b->pv.heap.size<=b/\b<v.heap.size:=fun b hb=>by
   obtain⟨q1,cur,q2⟩:=Row.bJ row hb;exact⟨q1,aV q2⟩
  have s26:=x9.size;have sv:=kv.size;have sf:=kf.size;have afg:Kept (· =r) nS pv:=(yc.mono (S':=(· =r)) (fun _ _ h=>h.elim)).tt x9;refine⟨⟨A1,c1,A2,c2,sl++ [s],?_,?_,?_,fun a ha=>.inr ?_,?_⟩,fun e=>e.elim H.iC (fun e=>by omega),H.gQ.snoc hj (by rw [Qt];exact dt.2 vY) (by have:=(lgeS hj).1;omega),W.snoc fQ dm (iL lp)⟩
  ·rw [List.length_append,List.length_singleton,di hv]
   rfl
  ·rw [List.length_append,List.length_singleton]
   have oZ:Kept (· =r) pw (v.setCell ⟨r,0+1,none⟩ (.slice A2 (D.length+1) c2)):=(x9.trans kv (fun _ _ h=>h.elim)).tt kf;refine(U8.aF oZ fun k hk e=>?_).mono fun k hk=>?_
   ·rcases hk with hk|hk
    ·exact H.iC (e▸hk)
    ·omega
   ·rcases hk with hk|hk
    ·exact .inl hk
    ·have:=yc.size
     exact .inr ⟨by omega,by omega⟩
  ·rw [List.length_append,List.length_singleton]
   exact(bM.hs row).aF kf (fun a ha e=>by have:=hbA a.block (by rw [ha];rfl);omega)
  ·have:=hbA a.block (by rw [ha];rfl)
   exact⟨by omega,by omega⟩
  ·rw [<-Qt]
   exact ac9.snoc H.gQ W hj
 have nv:∀ {u:World},Kept Nil pv u->∃cs:Array Value,(.agg s.1:Value)=.agg cs/\cs.size=32/\Cells u (aR w5.heap.size) cs:=fun k=>⟨s.1,rfl,s.2.1,Cells.bJ (k.heap I1 (fun h=>h))⟩;refine⟨?_,?_⟩
 ·obtain⟨A3,c3,Hv,UN,D0,acg,WN⟩:=cK (cx:=e0) ay (bM.nil pv pv.heap.size) NC (by omega) (Nat.le_refl _)
  rw [Nat.zero_add]at UN D0;rw [List.nil_append]at D0;have Nf:Kept Nil pv Hv:=Kept.eQ (Kept.refl _ _) acg (fun k hk=>by cases hk);refine⟨A3,_,c3,Hv,UN,nv Nf,s.2.1,?_⟩;intro uO;have Ha:Kept Nil Hv uO:=(Kept.refl _ _).alloc _;have aav:HS uO (some ⟨Hv.heap.size,0,none⟩) 1 [s]:=jq Hv s;clear_value uO;have s32:=Ha.size;have s31:=Nf.size;obtain⟨A4,c4,oB,LL,Aj,QQ,WM⟩:=cK (cx:=1) ay (Row.aF D0 Ha (fun _ _ h=>h)) aav (by omega) (by omega);have BU:Kept Nil pv oB:=Kept.eQ (Nf.tt Ha) QQ (fun k hk=>(Row.bJ D0 hk).1);exact⟨A4,_,c4,oB,LL,fin oB A4 c4 BU Aj⟩
 ·refine⟨s.2.1,?_⟩
  intro xH;have Gd:Kept Nil pv xH:=(Kept.refl _ _).alloc _;have aau:HS xH (some ⟨pv.heap.size,0,none⟩) 1 [s]:=jq pv s;clear_value xH;have s37:=Gd.size;refine⟨by rw [bt,aD (Gd.heap P7 (fun h=>h))];rfl,?_⟩;obtain⟨A3,c3,G8,UM,DZ,acf,Mm⟩:=cK (cx:=e0) ay (bM.nil xH xH.heap.size) (NC.same Gd) (by omega) (Nat.le_refl _);rw [Nat.zero_add]at UM DZ;rw [List.nil_append]at DZ;have It:Kept Nil xH G8:=Kept.eQ (Kept.refl _ _) acf (fun k hk=>by cases hk);have s39:=It.size;obtain⟨A4,c4,OO,aa3,MV,ace,WK⟩:=cK (cx:=1) ay DZ (aau.same It) (by omega) (by omega);have PA:Kept Nil xH OO:=Kept.eQ It ace (fun k hk=>(Row.bJ DZ hk).1);exact⟨A3,_,c3,G8,UM,A4,_,c4,OO,aa3,fin OO A4 c4 (Gd.tt PA) (Row.base MV (fun k hk=>by have:=(Row.bJ MV hk).1;omega))⟩
end
section
variable{w w' v:World}{F FP FR S S2 F2:Nat->Prop}{x r:Nat}{D D':DG}{P P':List Int}{K:Value->World->Prop}
theorem Cv(h:DK w S F x D P)(hD:D.length<=5000)(hT:uK w)(KF:¬S (Tryz.kh.g 1)){A:Option Addr}{n cx:Nat}{lp:List HT}(hl:HS w A n lp)(hn:n<=5000)(hid s:HT)
 (hK:∀u S' F',DK u S' F' x (ox D hid s lp) (ow D P hid s lp)->Kept S w u->(∀k,S' k->S k\/w.heap.size<=k)->(∀k,F' k->F k\/w.heap.size<=k)->K (.int .i64 (hU D hid s lp)) u):
 bz prog aE.id #[.pointer (some ⟨x,0,none⟩),.agg hid.1,.agg s.1,.slice A n cx] w K:=by
 obtain⟨m,h1,h2⟩:=h;refine FH h1 hD hT (fun e=>KF (h2 _ (.inl e))) hl hn hid s (fun u k hc=>?_) (fun u S' F' hI k hS hF hc=>?_)
 ·refine hK u S F ?_ (k.mono fun _ _ h=>h.elim) (fun k h=>.inl h) (fun k h=>.inl h)
  unfold ox ow;rw [if_neg hc,if_neg hc];exact⟨m,h1.same k,h2⟩
 ·have:=hK u S' F' hI (k.mono fun k _ h=>h2 k h) (fun k h=>(hS k h).imp (h2 k) (fun h=>h)) hF
  rw [hc]at this;exact this
end
end Go.Proofs.YtfleamccglihoaaGreatDoor
namespace Go.Proofs.YtfleamccglihoaaGreatDoor
open Go.Proofs.Tryz
open Go Go.bV Go.RowKit
open Tr (kY)
theorem four(w:World)(r a b c:HT):
 let w1:=w.alloc (.cells dz.1 ag);let w2:=w1.alloc (.cells dz.1 ag);let w3:=w2.alloc (.cells dz.1 ag);let w4:=w3.alloc (.cells dz.1 ag)
 let w7:=setCells w4 (aR w.heap.size) r.1.toList 0;let w10:=setCells w7 (aR w1.heap.size) a.1.toList 0;let nn:=setCells w10 (aR w2.heap.size) b.1.toList 0;let jO:=setCells nn (aR w3.heap.size) c.1.toList 0
 ((∀j,j<32->Wr w4 ((aR w.heap.size).add j))/\(∀j,j<32->Wr w7 ((aR w1.heap.size).add j))/\(∀j,j<32->Wr w10 ((aR w2.heap.size).add j))/\(∀j,j<32->Wr nn ((aR w3.heap.size).add j)))/\
 jO.heap[w.heap.size]? =some (.cells r.1 ag (0,0))/\jO.heap[w1.heap.size]? =some (.cells a.1 ag (0,0))/\jO.heap[w2.heap.size]? =some (.cells b.1 ag (0,0))/\jO.heap[w3.heap.size]? =some (.cells c.1 ag (0,0))/\
 w.heap.size<w1.heap.size/\w1.heap.size<w2.heap.size/\w2.heap.size<w3.heap.size/\w3.heap.size<jO.heap.size/\Kept Nil w jO:=by
 intro w1 w2 w3 w4;have k1':Kept Nil w w1:=(Kept.refl _ _).alloc _;have CG:Kept Nil w1 w2:=(Kept.refl _ _).alloc _;have AY:Kept Nil w2 w3:=(Kept.refl _ _).alloc _;have Lx:Kept Nil w3 w4:=(Kept.refl _ _).alloc _;have ns:w1.heap[w.heap.size]? =some (.cells dz.1 ag (0,0)):=aI w _;have Df:w2.heap[w1.heap.size]? =some (.cells dz.1 ag (0,0)):=aI w1 _;have nC:w3.heap[w2.heap.size]? =some (.cells dz.1 ag (0,0)):=aI w2 _;have QY:w4.heap[w3.heap.size]? =some (.cells dz.1 ag (0,0)):=aI w3 _;clear_value w4;have pg:=Lx.heap nC (fun h=>h);have xq:=Lx.heap (AY.heap Df (fun h=>h)) (fun h=>h);have uU:=Lx.heap (AY.heap (CG.heap ns (fun h=>h)) (fun h=>h)) (fun h=>h);have l1:=aV ns;have l2:=aV Df;have l3:=aV nC;have l4:=aV QY;clear_value w3 w2 w1;have Ii:Kept Nil w w4:=((k1'.tt CG).tt AY).tt Lx;have sz:∀h:HT,dz.1.size=h.1.size:=fun h=>by rw [h.2.1];rfl
 obtain⟨wr7,I7,k7⟩:=dR uU (cs:=r.1) (sz r);rw [r.2.1]at wr7;intro w7
 replace I7:w7.heap[w.heap.size]? =some (.cells r.1 ag (0,0)):=I7
 replace k7:Kept (· =w.heap.size) w4 w7:=k7
 clear_value w7;obtain⟨SI,Rb,mD⟩:=dR (k7.heap xq (by omega)) (cs:=a.1) (sz a);rw [a.2.1]at SI;intro w10
 replace Rb:w10.heap[w1.heap.size]? =some (.cells a.1 ag (0,0)):=Rb
 replace mD:Kept (· =w1.heap.size) w7 w10:=mD
 clear_value w10;obtain⟨SH,y9,ui⟩:=dR (mD.heap (k7.heap pg (by omega)) (by omega)) (cs:=b.1) (sz b);rw [b.2.1]at SH;intro nn
 replace y9:nn.heap[w2.heap.size]? =some (.cells b.1 ag (0,0)):=y9
 replace ui:Kept (· =w2.heap.size) w10 nn:=ui
 clear_value nn;obtain⟨SF,Mk,nM⟩:=dR (ui.heap (mD.heap (k7.heap QY (by omega)) (by omega)) (by omega)) (cs:=c.1) (sz c);rw [c.2.1]at SF;intro jO
 replace Mk:jO.heap[w3.heap.size]? =some (.cells c.1 ag (0,0)):=Mk
 replace nM:Kept (· =w3.heap.size) nn jO:=nM
 clear_value jO;have S7:=aV Mk;exact⟨⟨wr7,SI,SH,SF⟩,nM.heap (ui.heap (mD.heap I7 (by omega)) (by omega)) (by omega),nM.heap (ui.heap Rb (by omega)) (by omega),nM.heap y9 (by omega),Mk,by omega,by omega,by omega,S7,
  (((Ii.trans k7 (fun k hk e=>by omega)).trans mD (fun k hk e=>by omega)).trans ui (fun k hk e=>by omega)).trans nM (fun k hk e=>by omega)⟩
section
variable{r a b c:HT}(yZ:r≠a)(wQ:r≠b)(Ev:r≠c)(lE:a≠b)(EH:a≠c)(B9:b≠c)
end
section
variable{w w':World}{K:Value->World->Prop}
end
end Go.Proofs.YtfleamccglihoaaGreatDoor
namespace Go.Proofs.YtfleamccglihoaaGreatDoor
open Go.Proofs.Tryz
open Go Go.bV Go.RowKit
open Go.ChangeMaps (setBlock)
theorem tK{x:HT}{v:Value}:∀ {l:List (HT×Value)} {j:Nat},(l.map (·.1)).Nodup->l[j]? =some (x,v)->assoc x l=some v
 | [],_,_,h=>by simp at h
 |(y,u)::l,0,_,h=>by
  simp at h;obtain⟨rfl,rfl⟩:=h;unfold assoc;rw [if_pos rfl]
 |(y,u)::l,j+1,hn,h=>by
  simp only [List.map_cons,List.nodup_cons]at hn;have hm:x∈l.map (·.1):=List.mem_map.2 ⟨(x,v),List.mem_of_getElem? (i:=j) (by simpa using h),rfl⟩;unfold assoc;rw [if_neg (fun e:x=y=>hn.1 (by rw [<-e];exact hm))];exact tK hn.2 (j:=j) (by simpa using h)
theorem yv{x:HT}{v:Value}:∀ {l:List (HT×Value)},assoc x l=some v->∃j:Nat,l[j]? =some (x,v)
 | [],h=>by simp [assoc]at h
 |(y,u)::l,h=>by
  unfold assoc at h;split at h
  ·rename_i e
   subst e;cases h;exact⟨0,rfl⟩
  ·obtain⟨j,hj⟩:=yv h
   exact⟨j+1,by simpa using hj⟩
theorem nR.of{es:List MapEntry}{l:List (HT×Value)}(h:nR es l){j:Nat}{e:MapEntry}(he:es[j]? =some e):∃p,l[j]? =some p/\e.key=.agg p.1.1/\e.val=p.2:=by
 have hlen:=h.len;have hj:=(lgeS he).1;obtain⟨p,hp⟩:∃p,l[j]? =some p:=⟨_,List.getElem?_eq_getElem (by omega)⟩;obtain⟨e',g1,g2,g3⟩:=h.get hp;rw [he]at g1;cases g1;exact⟨p,hp,g2,g3⟩
theorem zu{x y:HT}(h:(Value.agg x.1:Value)=.agg y.1):x=y:=by
 cases h':x;cases YV:y
 simp_all
structure o6(w:World)(m it:Nat)(f:HT->Option Value)(left:HT->Prop)(Cc:Nat):Prop where
 ne:it≠m
 ex:∃es clock l since seen c0,w.heap[m]? =some (.map es clock)/\nR es.toList l/\(∀x,assoc x l=f x)/\(es.toList.map (·.born)).Nodup/\(l.map (·.1)).Nodup/\
  w.heap[it]? =some (.mapIter (some m) since seen c0)/\(∀e∈es.toList,e.born<since)/\since<=c0/\since<=clock/\(leftOf es seen).size=Cc/\∀x,left x↔∃e∈es.toList,e.key=.agg x.1/\seen.contains e.born=false
section
variable{w w':World}{m it:Nat}{f:HT->Option Value}{left:HT->Prop}{Cc:Nat}
theorem o6.aF{S:Nat->Prop}(h:o6 w m it f left Cc)(hk:Kept S w w')(h1:¬S m)(h2:¬S it):o6 w' m it f left Cc:=by
 obtain⟨es,clock,l,since,seen,c0,g1,g2,g3,g4,g5,g6,g7⟩:=h.ex;exact⟨h.ne,es,clock,l,since,seen,c0,hk.heap g1 h1,g2,g3,g4,g5,hk.heap g6 h2,g7⟩
theorem o6.left_eq(h:o6 w m it f left Cc):w.rangeLeft m it=Cc:=by
 obtain⟨es,clock,l,since,seen,c0,g1,g2,g3,g4,g5,g6,g7,_,_,g8,_⟩:=h.ex;simp only [World.rangeLeft,g1,g6];exact g8
theorem o6.lt(h:o6 w m it f left Cc):it<w.heap.size:=by
 obtain⟨es,clock,l,since,seen,c0,g1,g2,g3,g4,g5,g6,_⟩:=h.ex;exact aV g6
theorem fV.range{mt te:TypeId}{z:Value}(T:xF mt te z)(h:fV w m f):∃w' Cc,(Instr.range mt (.map (some m))).run prog w=.ok (.pointer (some ⟨w.heap.size,0,none⟩)) w'/\o6 w' m w.heap.size f (fun x=>f x≠none) Cc/\Kept Nil w w':=by
 obtain⟨es,clock,l,g1,g2,g3,g4,g5,g6⟩:=h.ex;have cU:=h.lt;refine⟨w.alloc (.mapIter (some m) clock #[] clock),_,run_range_map w mt ag te m es clock T.pB g1,⟨by omega,es,clock,l,clock,#[],clock,jk g1 _,g2,g3,g5,g6,aI w _,g4,Nat.le_refl _,Nat.le_refl _,rfl,fun x=>?_⟩,(Kept.refl _ _).alloc _⟩;rw [<-g3];constructor
 ·intro hx
  cases ha:assoc x l with
  |none=>exact absurd ha hx
  |some v=>
   obtain⟨j,hj⟩:=yv ha;obtain⟨e,he,hk,_⟩:=g2.get hj;exact⟨e,List.mem_of_getElem? he,hk,by simp⟩
 ·rintro⟨e,he,hk,_⟩
  obtain⟨j,hj⟩:=List.mem_iff_getElem?.1 he;obtain⟨⟨y,v⟩,hp,mw,_⟩:=g2.of hj;have:y=x:=zu (mw.symm.trans hk);subst this;rw [tK g6 hp];simp
theorem o6.next(h:o6 w m it f left Cc)(ty:TypeId):
 (Cc=0/\(∀x,¬left x)/\(Instr.next (.pointer (some ⟨it,0,none⟩)) false ty).run prog w=.ok (.tuple #[.bool false]) w)\/
 ∃(x:HT) (v:Value) (w':World) (Xx:Nat),left x/\f x=some v/\(Instr.next (.pointer (some ⟨it,0,none⟩)) false ty).run prog w=.ok (.tuple #[.bool true,.agg x.1,v]) w'/\
  (Instr.entry (.pointer (some ⟨it,0,none⟩))).run prog w'=.ok (.tuple #[.agg x.1,v]) w'/\o6 w' m it f (fun y=>left y/\y≠x) Xx/\Xx<Cc/\Kept (· =it) w w':=by
 have fD:=h.ne;obtain⟨es,clock,l,since,seen,c0,g1,g2,g3,g4,g5,g6,g7,g8,g8',rfl,g9⟩:=h.ex;rcases run_next_at (P:=prog) w ty it m since c0 seen es clock g6 g1 g7 g8 with⟨h0,hr⟩|⟨e,he,w1,Ku,hr⟩
 ·refine .inl ⟨h0,fun x hx=>?_,hr⟩
  obtain⟨e,he,_,hs⟩:=(g9 x).1 hx;have hm:e∈leftOf es seen:=by
   unfold leftOf;rw [Array.mem_filter];exact⟨by simpa using he,by rw [hs];rfl⟩
  have:=Array.size_pos_of_mem hm;omega
 ·obtain⟨YA,hes⟩:=mem_left he
  obtain⟨j,hj⟩:=List.mem_iff_getElem?.1 YA;obtain⟨⟨x,v⟩,hp,hk,hv⟩:=g2.of hj;have hk:e.key=.agg x.1:=hk;have hv:e.val=v:=hv;rw [hk,hv]at hr;have abX:w1.heap[it]? =some (.mapIter (some m) since seen c0):=by rcases Ku with rfl|rfl<;>exact g6
  have NR:w1.heap[m]? =some (.map es clock):=by rcases Ku with rfl|rfl<;>exact g1
  have LI:(setBlock w1 it (.mapIter (some m) since (seen.push e.born) clock)).heap[it]? =some (.mapIter (some m) since (seen.push e.born) clock):=by
   have:=aV abX;simp [setBlock,this]
  have U2:(setBlock w1 it (.mapIter (some m) since (seen.push e.born) clock)).heap[m]? =some (.map es clock):=by
   simp [setBlock,fD,NR]
  have VM:Kept (· =it) w (setBlock w1 it (.mapIter (some m) since (seen.push e.born) clock)):=by
   have hd:w.drew.heap=w.heap:=rfl;rcases Ku with rfl|rfl
   ·exact⟨rfl,rfl,rfl,by simp [setBlock],fun k _ hk=>by simp [setBlock,Ne.symm hk]⟩
   ·exact⟨rfl,rfl,rfl,by simp [setBlock,hd],fun k _ hk=>by simp [setBlock,hd,Ne.symm hk]⟩
  refine .inr ⟨x,v,_,_,(g9 x).2 ⟨e,YA,hk,hes⟩,by rw [<-g3];exact tK g5 hp,hr,?_,⟨fD,es,clock,l,since,seen.push e.born,clock,U2,g2,g3,g4,g5,LI,g7,g8',g8',rfl,fun y=>?_⟩,left_shrinks es seen e he,VM⟩
  ·have:=run_entry_at (P:=prog) _ it m since seen es clock e LI U2 YA g4
   rw [hk,hv]at this;exact this
  ·have MI:∀ {e':MapEntry},e'∈es.toList->e'.born=e.born->e'=e:=fun {e'} Mh hb=>by
    obtain⟨j',wc⟩:=List.mem_iff_getElem?.1 Mh;have h1:(es.toList.map (·.born))[j']? =some e'.born:=by rw [List.getElem?_map,wc];rfl
    have h2:(es.toList.map (·.born))[j]? =some e.born:=by rw [List.getElem?_map,hj];rfl
    rw [hb]at h1;have g1:=lgeS h1;have g2:=lgeS h2;have:j'=j:=(List.getElem_inj g4).1 (g1.2.trans g2.2.symm);subst this;rw [hj]at wc;cases wc;rfl
   rw [g9];constructor
   ·rintro⟨⟨e',Mh,oZ,oh⟩,abz⟩
    refine⟨e',Mh,oZ,?_⟩;rw [contains_push,oh,Bool.false_or,beq_eq_false_iff_ne];intro hb;have:=MI Mh hb;subst this;exact abz (zu (oZ.symm.trans hk))
   ·rintro⟨e',Mh,oZ,oh⟩
    rw [contains_push,Bool.or_eq_false_iff]at oh;refine⟨⟨e',Mh,oZ,oh.1⟩,fun Et=>?_⟩;subst Et;obtain⟨j',wc⟩:=List.mem_iff_getElem?.1 Mh;obtain⟨⟨y',v'⟩,C0,mw,_⟩:=g2.of wc;have e1:y'=y:=zu (mw.symm.trans oZ);subst e1;have h1:(l.map (·.1))[j']? =some y':=by rw [List.getElem?_map,C0];rfl
    have h2:(l.map (·.1))[j]? =some y':=by rw [List.getElem?_map,hp];rfl
    have g1:=lgeS h1;have g2:=lgeS h2;have:j'=j:=(List.getElem_inj g5).1 (g1.2.trans g2.2.symm);subst this;rw [hj]at wc;cases wc;simp at oh
end
end Go.Proofs.YtfleamccglihoaaGreatDoor
