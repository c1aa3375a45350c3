import Derived.Test.YtfleamccglihoaaGreatDoorMS
import Derived.Test.YtfleamccglihoaaGreatDoorMQ
import Derived.Test.YtfleamccglihoaaGreatDoorMJ
import Derived.Test.YtfleamccglihoaaGreatDoorMP
open Go.IntKind (i64 u64)
set_option linter.unusedVariables false
namespace Go.Proofs.YtfleamccglihoaaGreatDoor
open Go.Proofs.Tryz
open Go Go.bE Go.RowKit
theorem wK(D:DG)(s:HT){l:List HT}(hl:∀x∈l,x∈ids D):(rh D s l).length<=D.length:=by
 have:=eo (m:=ids D) (oO D s l) (fun x hx=>by
  rcases(wM.1 hx).1 with h|h
  ·exact h.1
  ·exact hl x h)
 rwa [jF]at this
theorem uC{D:DG}{l:List HT}(h:ki D l=0):l≠ []/\∀x∈l,x∈ids D:=by
 unfold ki at h;split at h
 ·cases h
 ·rename_i h0
  split at h
  ·cases h
  ·rename_i h1
   exact⟨h0,fun x hx=>Classical.byContradiction fun e=>h1 ⟨x,hx,e⟩⟩
section
variable{w w':World}{F:Nat->Prop}{c k:Nat}{G:GS}{m:CM}{K:Value->World->Prop}{A:Option Addr}{n cx:Nat}{l:List HT}{s:HT}
theorem kY.iY{q B sm bb cp e ce:Nat}{x:q7}{ov:HT->Option Nat}{E:Option Addr}(h:kY w B q sm bb x ov A n cp E e ce):Cells w ((⟨q,0,none⟩:Addr).add 0) (dS x A n cp E e ce):=by
 intro j u hj;rw [add_zero,bt,aA h.top,Array.getElem?_append_left (by rw [bX];have:=(Array.getElem?_eq_some_iff.1 hj).1;rw [bX]at this;omega)];rw [Nat.zero_add];exact hj
theorem zh(h:CV w F c k G m)(hT:p0 w)(hD:G.D.length<=49)(rH:k<=1000)(yX:HS w A n l)(hn:n<=5000)
 (h0:ki G.D (s::l)≠0->∀w',Kept Nil w w'->K (.tuple #[.agg (dS ⟨fy,0,[],[]⟩ none 0 0 none 0 0),.int .i64 (ki G.D (s::l))]) w')
 (h1:ki G.D (s::l)=0->∀w' A n cp E e ce,HS w' A n (fK k G s l).merge->Bo w' E e (fK k G s l).iH->Kept Nil w w'->(∀a,A=some a->w.heap.size<=a.block)->K (.tuple #[.agg (dS (fK k G s l) A n cp E e ce),.int .i64 0]) w'):
 bf prog dd.id #[.pointer (some ⟨c,0,none⟩),.agg s.1,.slice A n cx] w K:=by
 refine dd.of ?_;unfold dd.W;intro w1 w2;have k1:Kept Nil w w1:=(Kept.refl _ _).alloc _;have CU:w1.heap[w.heap.size]? =some (.cells s.1 ax (0,0)):=aR w _;have k2:Kept Nil w1 w2:=(Kept.refl _ _).alloc _;have la:w2.heap[w1.heap.size]? =some (.cells zC cB (0,0)):=aR w1 _;clear_value w2;have yP:=k2.heap CU (fun h=>h);have oA:=k1.tt k2;have s1:=k1.size;have l1:=a7 CU;have l2:=a7 la;clear_value w1;refine⟨s.1,⟨s.2.1,Cells.bW yP⟩,s.2.1,?_⟩;intro w3;have k3:Kept Nil w2 w3:=(Kept.refl _ _).alloc _;have Oo:HS w3 (some ⟨w2.heap.size,0,none⟩) 1 [s]:=lj w2 s;have rf:cm w3 w.heap.size (some ⟨w2.heap.size,0,none⟩) 1 1 [s]:=by
  have e:cF [s]=(s.1.toList++ []).toArray.toList:=by simp [cF]
  show Row _ _ _ _ _ _ _ (cF [s])
  rw [e];exact Row.made (aR w2 _) (by have:=oA.size;omega) (by simp [s.2.1]) (by unfold maxLen;omega)
 clear_value w3;have jS:=oA.tt k3;have s2:=oA.size;have s3:=jS.size;obtain⟨A2,c2,w4,Un,wv,g4,Sa⟩:=gu aV rf (cx:=cx) (yX.same jS) (by omega) s3;have xU:Kept (fun j=>w.heap.size<=j) w3 w4:=(Kept.refl _ _).grown g4 fun j hj _=>(Row.bW rf hj).1;have lh:Kept Nil w w4:=Kept.pO jS g4 (fun j hj=>(Row.bW rf hj).1);have pZ:Kept Nil w2 w4:=Kept.pO k3 g4 (fun j hj=>by cases hj;exact Nat.le_refl _);have RK:=pZ.heap yP (fun h=>h);have Um:=pZ.heap la (fun h=>h);refine⟨A2,_,c2,w4,Un,?_⟩;refine uT (h.same lh) (show HS w4 A2 (1+n) (s::l)from wv.hs) (by omega) fun w5 k5=>⟨_,rfl,?_⟩;have o5:=lh.tt k5;have YG:=k5.heap RK (fun h=>h);have CW:=k5.heap Um (fun h=>h);have zs:(zC:Array Value)=dS ⟨fy,0,[],[]⟩ none 0 0 none 0 0:=rfl;by_cases hm:ki G.D (s::l)=0
 ·refine Split.no (by simp [hm]) ⟨s.1,⟨s.2.1,Cells.bW YG⟩,?_⟩
  obtain⟨_,gK⟩:=uC hm;have h5:=h.same o5;have Pw:∀x∈l,x∈ids G.D:=fun x hx=>gK x (List.mem_cons_of_mem _ hx);obtain⟨ch,mP⟩:=cN.ex h.iM.mf s;refine sJ zX (Nat.le_trans (wK G.D s Pw) hD) h5 (hT.same o5) (by omega) rH (gK s List.mem_cons_self) mP Pw (yX.same o5) hn fun v q B sm bb ov A n cp E e ce g1 _ g3 _ g5 g6 g7=>?_;refine⟨some ⟨q,0,none⟩,rfl,Is.mk rfl ?_⟩;have Iz:=g7.heap CW (fun h=>h);obtain⟨t1,t2,t3⟩:=lr Iz (cs:=dS (fK k G s l) A n cp E e ce) (by rw [bX];rfl);refine⟨_,⟨bX ..,g1.iY⟩,⟨bX ..,kR _ _ _ _ _ _ _,fun j hj=>t1 j (by rw [bX];exact hj)⟩,?_⟩;intro w8
  replace t2:w8.heap[w1.heap.size]? =_:=t2
  replace t3:Kept (· =w1.heap.size) v w8:=t3
  clear_value w8;refine⟨_,⟨bX ..,Cells.bW t2⟩,?_⟩;have s5:=o5.size;have cI:w1.heap.size<w5.heap.size:=a7 CW;refine h1 hm w8 A n cp E e ce (g1.mg.aK t3 (fun a ha e=>?_)) ((Row.bo g1.bl).aK t3 (fun a ha e=>?_)) ((o5.tt g7).trans t3 (fun j hj e=>by omega)) (fun a ha=>by have:=g5 a ha;omega)
  ·have:=g5 a ha
   omega
  ·subst ha
   have:=(Row.bW g1.bl (k:=a.block) rfl).1;have:=g6.1;omega
 ·refine Split.yes (by simpa using hm) ?_
  obtain⟨t1,t2,t3⟩:=lr CW (cs:=zC) rfl;refine⟨⟨rfl,by rw [zs];exact kR _ _ _ _ _ _ _,fun j hj=>t1 j hj⟩,?_⟩;exact⟨_,⟨rfl,Cells.bW t2⟩,h0 hm _ (o5.trans t3 (fun j hj e=>by omega))⟩
end
theorem XV.off{w:World}{D:DG}{P:List Int}{m:XM}{x:Nat}{F:Nat->Prop}(h:XV w F x D P m):∀k,m.jb x k->¬F k:=fun k e=>by
 obtain⟨bl,c,mb,M,G⟩:=h.G;rcases e with e|e|e|e
 ·exact G.C8 k e
 ·exact fun f=>(h.fd k f).1 e
 ·exact fun f=>(h.fd k f).2 e
 ·exact(h.od k e).2.2.2
section
variable{w w':World}{F F':Nat->Prop}{c k q:Nat}{G:GS}{m:CM}{K:Value->World->Prop}{A B:Option Addr}{n cx cp e ce:Nat}{l:List HT}{x:q7}{sz:HT->Option Nat}{sm:Option Nat}
theorem Seen.mono(h:Seen w F q x sz)(hF:∀j,F j->F' j):Seen w F' q x sz:=by
 obtain⟨A,n,cp,B,e,ce,sm,h⟩:=h;refine⟨A,n,cp,B,e,ce,sm,h.top,h.mg,h.bl,fun a ha=>hF _ (h.fA a ha),fun a ha=>hF _ (h.fB a ha),?_,hF _ h.fq⟩;rcases h.sz with g|⟨s,g1,g2,g3⟩
 ·exact .inl g
 ·exact .inr ⟨s,g1,hF _ g2,g3⟩
abbrev Q1:Array Value:=dS ⟨fy,0,[],[]⟩ none 0 0 none 0 0
theorem zI(D:DG)(h:HT)(l:List HT):eB D h l=if h∈ids D then 7 else if l.length=0 then 9 else if(di l).length≠l.length then 9 else ki D l:=by
 unfold eB ki;by_cases h1:h∈ids D
 ·rw [if_pos h1,if_pos h1]
 ·rw [if_neg h1,if_neg h1]
  by_cases h2:l.length=0
  ·rw [if_pos h2,if_pos (.inl (by have:=nW l;omega))]
  ·have hl:l≠ []:=fun e=>h2 (by rw [e];rfl)
   rw [if_neg h2];by_cases h3:(di l).length≠l.length
   ·rw [if_pos h3,if_pos (.inr h3)]
   ·have a:¬((di l).length=0\/(di l).length≠l.length):=by omega
    have hc:(∃p∈di l,p∉ids D)↔∃p∈l,p∉ids D:=⟨fun⟨p,hp,hq⟩=>⟨p,dJ.1 hp,hq⟩,fun⟨p,hp,hq⟩=>⟨p,dJ.2 hp,hq⟩⟩;rw [if_neg h3,if_neg a,if_neg hl];by_cases h4:∃p∈l,p∉ids D
    ·rw [if_pos h4,if_pos (hc.2 h4)]
    ·rw [if_neg h4,if_neg (fun e=>h4 (hc.1 e))]
set_option maxHeartbeats 2000000 in
theorem Cq(h:CV w F c k G m)(hT:p0 w)(Lm:¬m.SX (Tryz.jg.g 1))(hD:G.D.length<=49)(rH:k<=1000)(yX:HS w A n l)(hn:n<=5000)(id:HT)
 (hE:eB G.D id l≠0->∀w',Kept Nil w w'->K (.tuple #[.agg Q1,.int .i64 (eB G.D id l)]) w')
 (hO:eB G.D id l=0->∀w' F' m' A n c1 B e c2,CV w' F' c k (fD k G id l) m'->m'.x=m.x->Kept (m.own c) w w'->(∀j,m'.own c j->m.own c j\/w.heap.size<=j)->(∀j,F' j->F j\/w.heap.size<=j)->
   cm w' w.heap.size A n c1 (fK k G (bK G l) l).merge->Row w' w.heap.size iV 1 B e c2 (uZ (fK k G (bK G l) l).iH)->(∀j,bm A=some j->bm B≠some j)->(∀j,bm A=some j\/bm B=some j->¬m'.own c j/\¬F' j)->
   K (.tuple #[.agg (dS (fK k G (bK G l) l) A n c1 B e c2),.int .i64 0]) w'):
 bf prog cZ.id #[.pointer (some ⟨c,0,none⟩),.agg id.1,.slice A n cx] w K:=by
 have hlen:=yX.len;refine cZ.of ?_;unfold cZ.W;intro w1 w2;have k1:Kept Nil w w1:=(Kept.refl _ _).alloc _;have CU:w1.heap[w.heap.size]? =some (.cells id.1 ax (0,0)):=aR w _;have k2:Kept Nil w1 w2:=(Kept.refl _ _).alloc _;have la:w2.heap[w1.heap.size]? =some (.cells zC cB (0,0)):=aR w1 _;clear_value w2;have yP:=k2.heap CU (fun h=>h);have oA:=k1.tt k2;have s1:=k1.size;have l1:=a7 CU;have l2:=a7 la;clear_value w1;have zs:(zC:Array Value)=Q1:=rfl;have bad:∀ {u:World} {r:Int},Kept Nil w2 u->eB G.D id l=r->r≠0->(zC.size=35/\(∀n∈zC.toList,n.oneCell'=true)/\∀o,o<35->Wr u ((aU w1.heap.size).add o))/\
  let p:=setCells u (aU w1.heap.size) zC.toList 0;∃q:Array Value,(q.size=35/\Cells p (aU w1.heap.size) q)/\K (.tuple #[.agg q,.int .i64 r]) p:=fun {u r} ku hr h0=>by
  obtain⟨t1,t2,t3⟩:=lr (ku.heap la (fun h=>h)) (cs:=zC) rfl;refine⟨⟨rfl,by rw [zs];exact kR _ _ _ _ _ _ _,fun j hj=>t1 j hj⟩,?_⟩;refine⟨_,⟨rfl,Cells.bW t2⟩,?_⟩;have:=hE (by rw [hr];exact h0) _ ((oA.tt ku).trans t3 (fun j hj e=>by omega));rw [hr]at this;exact this
 have iL:=zI G.D id l;refine qP (h.same oA) ⟨true,rfl,Split.no rfl ?_⟩;intro w3;have k3:Kept Nil w2 w3:=(Kept.refl _ _).drew;clear_value w3;have jS:=oA.tt k3;have h3:=h.same jS;refine⟨_,h3.c2,id.1,⟨id.2.1,Cells.bW (k3.heap yP (fun h=>h))⟩,_,h3.look id,?_⟩;by_cases hid:id∈ids G.D
 ·rw [if_pos hid]at iL
  exact Split.yes (by rw [if_pos hid];rfl) (bad k3 iL (by decide))
 rw [if_neg hid]at iL;refine Split.no (by rw [if_neg hid];rfl) ?_;by_cases Aw:n=0
 ·rw [if_pos (by omega)]at iL
  exact Split.yes (by subst Aw;rfl) (bad k3 iL (by decide))
 rw [if_neg (by omega)]at iL;refine Split.no (by simpa using (by omega:¬(n:Int)=0)) ?_;refine fV (yX.same jS) (by omega) fun A4 c4 w4 wv k4=>⟨A4,_,c4,rfl,?_⟩;have pZ:=k3.tt k4;have lh:=jS.tt k4;by_cases RH:(di l).length≠l.length
 ·rw [if_pos RH]at iL
  exact Split.yes (by simp only [bne_iff_ne,ne_eq];omega) (bad pZ iL (by decide))
 rw [if_neg RH]at iL;refine Split.no (by simp only [bne_eq_false_iff_eq];omega) ?_;refine pQ (h.same lh) (yX.same lh) (by omega) fun w5 k5=>⟨_,_,rfl,?_⟩;have TD:=pZ.tt k5;have o5:=lh.tt k5;generalize pI:(if ki G.D l=0 then bK G l else fy)=s;intro w6;have k6:Kept Nil w5 w6:=(Kept.refl _ _).alloc _;have pN:w6.heap[w5.heap.size]? =some (.cells fy.1 ax (0,0)):=aR w5 _;clear_value w6;obtain⟨t1,t2,t3⟩:=jr s pN rfl;refine⟨t1,?_⟩;intro w7
 replace t2:w7.heap[w5.heap.size]? =some (.cells s.1 ax (0,0)):=t2
 replace t3:Kept (· =w5.heap.size) w6 w7:=t3
 clear_value w7;have GL:Kept Nil w5 w7:=k6.trans t3 (fun j hj e=>by omega);have Mf:=TD.tt GL;have tB:=o5.tt GL;by_cases hm:ki G.D l≠0
 ·exact Split.yes (by simpa using hm) (bad Mf iL hm)
 have hm:ki G.D l=0:=by omega
 rw [if_pos hm]at pI;rw [hm]at iL⊢;refine Split.no rfl ⟨s.1,⟨s.2.1,Cells.bW t2⟩,?_⟩;obtain⟨fG,gK⟩:=uC hm;have FL:s∈l:=by rw [<-pI];exact jH fG
 obtain⟨ch,mP⟩:=cN.ex h.iM.mf s;have h7:=h.same tB;refine sJ zX (Nat.le_trans (wK G.D s gK) hD) h7 (hT.same tB) (by omega) rH (gK s FL) mP gK (yX.same tB) hn fun v q B sm bb ov Am nm cp E e ce g1 gO g3 g4 g5 g6 g7=>⟨some ⟨q,0,none⟩,rfl,?_⟩;have vn:=tB.tt g7;have D4:=Mf.tt g7;have k5v:=GL.tt g7;have s07:=tB.size;have s0v:=vn.size;intro w8;have k8:Kept Nil v w8:=(Kept.refl _ _).drew;clear_value w8;have Ef:=vn.tt k8;have h8:=h.same Ef;have g18:=g1.same k8;have s8:=k8.size;refine⟨_,h8.c1,id.1,⟨id.2.1,Cells.bW ((D4.tt k8).heap yP (fun h=>h))⟩,s.1,⟨s.2.1,Cells.bW (((g7.tt k8)).heap t2 (fun h=>h))⟩,?_⟩;refine yu h8.X (by omega) (hT.same Ef) Lm (yX.same Ef) hn id s fun u S' Z7 Zy k9 hS9 MD=>⟨_,rfl,?_⟩;have eX:qZ G.D id s l=(fD k G id l).D/\qY G.D G.P id s l=(fD k G id l).P:=by rw [<-pI];exact⟨LJ.symm,LK.symm⟩
 rw [eX.1,eX.2]at Zy;obtain⟨mx,X9,YU⟩:=Zy;have tN:∀j,m.own c j\/F j->j<w.heap.size:=h.low;have g1q:q<v.heap.size:=a7 g1.top;have g1s:sm<v.heap.size:=g1.ov.lt;have sN:∀j,w.heap.size<=j->¬m.SX j:=fun j hj e=>by have:=tN j (.inl (.inl e));omega
 have g19:=g18.aK k9 (sN q (by omega)) (sN sm (by omega)) (fun j hj _=>sN j (by have:=g6.1;omega)) (fun a ha=>sN _ (by have:=g5 a ha;omega));have s9:=k9.size;have Me:Kept m.SX w2 u:=((D4.tt k8).mono fun _ _ h=>h.elim).tt k9;have XQ:¬m.SX c/\¬m.SX m.mb:=⟨fun e=>(h.so _ e).1 rfl,fun e=>(h.so _ e).2 rfl⟩;have MZ:u.heap[c]? =_:=k9.heap h8.top XQ.1;have W1:=h8.all.aK k9 XQ.2;intro w10;have tR:Kept Nil u w10:=(Kept.refl _ _).drew;clear_value w10;have M1:=tR.heap MZ (fun h=>h);have G4:=(Me.trans tR (fun _ _ h=>h.elim)).heap yP (fun e=>sN _ (Nat.le_refl _) e);have Q8:=W1.aK tR (fun h=>h);obtain⟨Bf,UA,Q7,NZ⟩:=Q8.put DO id (.pointer (some ⟨q,0,none⟩));refine⟨some m.mb,by rw [bt,aA M1];rfl,id.1,⟨id.2.1,Cells.bW G4⟩,Bf,UA,Is.mk rfl ?_⟩;have s10:=tR.size;have s11:=NZ.size;have lmb:m.mb<w.heap.size:=tN _ (.inl (.inr (.inr rfl)));have lc:c<w.heap.size:=tN _ (.inl (.inr (.inl rfl)));have GF:Kept (· =m.mb) u Bf:=(tR.mono fun _ _ h=>h.elim).tt NZ;have HG:=g19.aK GF (by omega) (by omega) (fun j hj _ e=>by have:=g6.1;omega) (fun a ha e=>by have:=g5 a ha;omega);have WX:=Row.bo HG.bl;have Oa:Kept (m.own c) w Bf:=((Ef.mono (S':=m.own c) fun _ _ h=>h.elim).trans k9 (fun _ _ h=>.inl h)).trans GF (fun _ _ h=>.inr (.inr h));refine⟨_,⟨bX ..,HG.iY⟩,?_⟩;have I5:=g1.mg.len;have YP:nm<=49:=by
  have FI:(fK k G s l).merge=cu G s l:=rfl;have vR:(cu G s l).length<=49:=by
   have:=eo (m:=ids G.D) (lT G s l).nodup (fun y hy=>by
    rcases(iU.1 hy).1 with h|h
    ·exact h.1
    ·exact gK y h)
   rw [jF]at this;omega
  rw [FI]at I5;omega
 have RZ:e<=49:=by
  have h1:=(rM k G s l).1;have h2:=(Row.bo g1.bl).len;have FI:(fK k G s l).merge=cu G s l:=rfl;have TY:(fK k G s l).iH=(gI k G s l).bl:=rfl;rw [TY]at h2;rw [FI]at I5;omega
 refine rr (fK k G s l) HG.mg WX (by omega) (by omega) fun A' c1 B' c2 o7 rY Dx Pa FE=>⟨_,rfl,?_⟩;have NU:Kept (m.own c) w2 o7:=((Me.mono (S':=m.own c) fun _ _ h=>.inl h).trans GF (fun _ _ h=>.inr (.inr h))).trans FE (fun _ _ h=>h.elim);have fr2:∀j,w.heap.size<=j->¬m.own c j:=fun j hj e=>by have:=tN j (.inl e);omega
 have Us:=NU.heap la (fr2 _ (by omega));obtain⟨f1,f2,f3⟩:=lr Us (cs:=dS (fK k G s l) A' nm c1 B' e c2) (by rw [bX];rfl);refine⟨⟨bX ..,kR _ _ _ _ _ _ _,fun j hj=>f1 j (by rw [bX];exact hj)⟩,?_⟩;intro pY
 replace f2:pY.heap[w1.heap.size]? =_:=f2
 replace f3:Kept (· =w1.heap.size) o7 pY:=f3
 clear_value pY;refine⟨_,⟨bX ..,Cells.bW f2⟩,?_⟩;have sx:Kept (· =w1.heap.size) Bf pY:=(FE.mono fun _ _ h=>h.elim).tt f3;have s13:=sx.size;have lw1:w1.heap.size<w7.heap.size:=Nat.lt_of_lt_of_le l2 Mf.size;rw [pI]at hO;have Ek:=lS (k:=k) (G:=G) (h:=id) (ps:=l) iL;have PD:ids (fD k G id l).D=ids G.D++ [id]:=by rw [Ek];simp [ids]
 let F':Nat->Prop:=fun j=>F j\/(w7.heap.size<=j/\j<v.heap.size)\/Z7 j
 let m':CM:=⟨m.x,m.mb,mx.jb m.x,Z7,fun y=>if y=id then q else m.q y,fun y=>if y=id then ov else m.sz y⟩
 have Mu:∀j,mx.jb m.x j->m.SX j\/w8.heap.size<=j:=fun j e=>hS9 j (YU j e);have S9:∀j,m'.own c j->m.own c j\/w8.heap.size<=j:=fun j e=>by
  rcases e with e|e|e
  ·exact(Mu j e).imp (fun e=>.inl e) (fun e=>e)
  ·exact .inl (.inr (.inl e))
  ·exact .inl (.inr (.inr e))
 have sk:∀j,F' j->F j\/(w7.heap.size<=j/\j<u.heap.size):=fun j e=>by
  rcases e with e|e|e
  ·exact .inl e
  ·exact .inr ⟨e.1,by omega⟩
  ·rcases MD j e with e'|e'
   ·exact .inl (h.fx j e')
   ·exact .inr ⟨by omega,X9.low j (.inr e)⟩
 have Ib:∀j,mx.jb m.x j->j<u.heap.size:=fun j e=>X9.low j (.inl e);have Tp:Kept (fun j=>j=m.mb\/j=w1.heap.size) u pY:=(GF.mono fun _ _ h=>.inl h).trans sx (fun _ _ h=>.inr h);have n1:∀j,F' j->¬(j=m.mb\/j=w1.heap.size):=fun j e e'=>by
  rcases e' with e'|e'
  ·rcases sk j e with e|e
   ·exact h.fo j e (.inr (.inr e'))
   ·omega
  ·rcases sk j e with e|e
   ·have:=tN j (.inr e);omega
   ·omega
 have n2:∀j,mx.jb m.x j->¬(j=m.mb\/j=w1.heap.size):=fun j e e'=>by
  rcases e' with e'|e'
  ·rcases Mu j e with e|e
   ·exact(h.so j e).2 e'
   ·omega
  ·rcases Mu j e with e|e
   ·have:=tN j (.inl (.inl e));omega
   ·have:=k8.size;have:=g7.size;omega
 have HF:kY pY B q sm bb (fK k G s l) ov Am nm cp E e ce:=HG.aK sx (by omega) (by omega) (fun j hj _ e=>by have:=g6.1;omega) (fun a ha e=>by have:=g5 a ha;omega);have C':CV pY F' c k (fD k G id l) m':=by
  refine⟨?_,?_,?_,?_,h.iM.add id l,?_,fun j e=>.inr (.inr e),?_,?_,h.ne,?_⟩
  ·exact Tp.heap MZ (fun e=>by rcases e with e|e;exact h.ne e;omega)
  ·exact⟨mx,X9.aK Tp n2 (fun j e=>n1 j (.inr (.inr e))),fun _ e=>e⟩
  ·have:=Q7.aK sx (by show ¬m.mb=_;omega)
   have ef:(fun h=>if h∈ids (fD k G id l).D then some (Value.pointer (some ⟨m'.q h,0,none⟩))else none)=fun x=>if x=id then some (Value.pointer (some ⟨q,0,none⟩))else if x∈ids G.D then some (.pointer (some ⟨m.q x,0,none⟩))else none:=by
    funext y
    rw [PD];by_cases hy:y=id
    ·simp [hy,m']
    ·by_cases On:y∈ids G.D
     ·simp [hy,On,m']
     ·simp [hy,On]
   rw [ef];exact this
  ·intro y hy
   rw [PD,List.mem_append,List.mem_singleton]at hy;by_cases he:y=id
   ·subst he
    rw [(tq h.iM iL).1,pI];have e1:m'.q y=q:=if_pos rfl;have e2:m'.sz y=ov:=if_pos rfl;rw [e1,e2];refine⟨Am,nm,cp,E,e,ce,some sm,HF.top,HF.mg,Row.bo HF.bl,fun a ha=>.inr (.inl ⟨g5 a ha,?_⟩),fun a ha=>.inr (.inl ?_),.inr ⟨sm,rfl,.inr (.inl ⟨g4,g1s⟩),HF.ov⟩,.inr (.inl ⟨g3,g1q⟩)⟩
    ·have:=(g1.mA a ha).1
     have:=g6.2;omega
    ·subst ha
     obtain⟨q1,cur,q2⟩:=Row.bW g1.bl (k:=a.block) rfl;have:=a7 q2;have:=g6.1;exact⟨by omega,this |>fun _=>a7 q2⟩
   ·have hy:y∈ids G.D:=hy.elim (fun e=>e) (fun e=>absurd e he)
    rw [(tp h.iM hy).1];have e1:m'.q y=m.q y:=if_neg he;have e2:m'.sz y=m.sz y:=if_neg he;rw [e1,e2];exact(((h8.seen y hy).aK k9 (fun j e e'=>h.fo j e (.inl e'))).aK Tp (fun j e=>n1 j (.inl e))).mono (fun j e=>.inl e)
  ·have VG:cN G.D G.P (bK G l) ch:=by rw [pI];exact mP
   rw [<-pI]at gO;exact SZ.add h.Z h.iM iL VG gO
  ·intro j e e'
   rcases e' with e'|e'|e'
   ·rcases e with e|e|e
    ·rcases Mu j e' with e'|e'
     ·exact h.fo j e (.inl e')
     ·have:=tN j (.inr e);omega
    ·rcases Mu j e' with e'|e'
     ·have:=tN j (.inl (.inl e'));omega
     ·omega
    ·exact XV.off X9 j e' e
   ·rcases sk j e with e|e
    ·exact h.fo j e (.inr (.inl e'))
    ·have e':j=c:=e';omega
   ·rcases sk j e with e|e
    ·exact h.fo j e (.inr (.inr e'))
    ·have e':j=m.mb:=e';omega
  ·intro j e
   rcases Mu j e with e'|e'
   ·exact h.so j e'
   ·exact⟨by omega,by show j≠m.mb;omega⟩
  ·rintro j (e|e)
   ·rcases e with e|e|e
    ·have:=Ib j e;omega
    ·have e:j=c:=e;omega
    ·have e:j=m.mb:=e;omega
   ·rcases sk j e with e|e
    ·have:=tN j (.inr e);omega
    ·omega
 have Cm:∀j,bm A'=some j->Bf.heap.size<=j:=fun j hj=>(Row.bW rY hj).1;have Lr:∀j,bm B'=some j->Bf.heap.size<=j:=fun j hj=>(Row.bW Dx hj).1;have QW:∀j,Bf.heap.size<=j->¬m'.own c j/\¬F' j:=fun j hj=>⟨fun e=>by
  rcases e with e|e|e
  ·have:=Ib j e;omega
  ·have e:j=c:=e;omega
  ·have e:j=m.mb:=e;omega,fun e=>by
  rcases sk j e with e|e
  ·have:=tN j (.inr e);omega
  ·omega⟩
 exact hO iL pY F' m' A' nm c1 B' e c2 C' rfl ((Oa.trans sx (fun j hj e=>by omega))) (fun j e=>(S9 j e).imp (fun h=>h) (fun h=>by omega)) (fun j e=>(sk j e).imp (fun h=>h) (fun h=>by omega))
  (Row.base (Row.aK rY f3 (fun j hj e=>by have:=Cm j hj;omega)) (fun j hj=>by have:=Cm j hj;omega)) (Row.base (Row.aK Dx f3 (fun j hj e=>by have:=Lr j hj;omega)) (fun j hj=>by have:=Lr j hj;omega)) Pa
  (fun j hj=>QW j (hj.elim (Cm j) (Lr j)))
end
section
variable{k:Nat}{G:GS}
end
section
variable{w w' ln:World}{B ob bx:Nat}{av av':Nat->Prop}{acc:List HT}
end
section
variable{w w' v:World}{F:Nat->Prop}{c k:Nat}{G:GS}{m:CM}{K:Value->World->Prop}
end
section
variable{w w':World}{F:Nat->Prop}{c k:Nat}{G:GS}{m:CM}{K:Value->World->Prop}
end
structure GN(w v:World)(id:HT)(X M Q:Option Nat)(pt:Bool):Prop where
 kp:Kept Nil w v
 x:∀x,X=some x->∃S,zL v S (fun _=>False) x [⟨id,[]⟩] [-1]/\∀j,S j->w.heap.size<=j/\j<v.heap.size/\M≠some j/\Q≠some j
 m:∀m,M=some m->w.heap.size<=m/\dY v m (fun y=>if pt=true/\y=id then Q.map fun q=>.pointer (some ⟨q,0,none⟩)else none)
 q:∀q,Q=some q->w.heap.size<=q/\v.heap[q]? =some (.cells zS dh (0,0))
 ne:∀m q,M=some m->Q=some q->m≠q
section
variable{w w' v u:World}{F:Nat->Prop}{c k:Nat}{G:GS}{m:CM}{K:Value->World->Prop}{id:HT}{X M Q:Option Nat}{pt:Bool}
theorem GN.Ft(h:GN w v id X none Q false):GN w (v.alloc (.map #[] 0)) id X (some v.heap.size) Q false:=by
 have k1:Kept Nil v (v.alloc (.map #[] 0)):=(Kept.refl _ _).alloc _;have hs:=k1.size;have hm:dY (v.alloc (.map #[] 0)) v.heap.size (fun _=>none):=dY.new v;refine⟨h.kp.tt k1,fun x hx=>?_,fun m oC=>?_,fun q hq=>?_,fun m q oC hq=>?_⟩
 ·obtain⟨S,h1,h2⟩:=h.x x hx
  exact⟨S,h1.same k1,fun j e=>by have:=h2 j e;exact⟨this.1,by omega,fun e=>by cases e;omega,this.2.2.2⟩⟩
 ·cases oC
  exact⟨h.kp.size,by simpa using hm⟩
 ·exact⟨(h.q q hq).1,k1.heap (h.q q hq).2 (fun h=>h)⟩
 ·cases oC
  have:=a7 (h.q q hq).2;omega
theorem GN.Fs(h:GN w v id X M none false):GN w (v.alloc (.cells zS dh)) id X M (some v.heap.size) false:=by
 have k1:Kept Nil v (v.alloc (.cells zS dh)):=(Kept.refl _ _).alloc _;have hs:=k1.size;refine⟨h.kp.tt k1,fun x hx=>?_,fun m oC=>?_,fun q hq=>?_,fun m q oC hq=>?_⟩
 ·obtain⟨S,h1,h2⟩:=h.x x hx
  exact⟨S,h1.same k1,fun j e=>by have:=h2 j e;exact⟨this.1,by omega,this.2.2.1,fun e=>by cases e;omega⟩⟩
 ·have:=h.m m oC
  refine⟨this.1,?_⟩;have h2:=this.2.same k1;simpa using h2
 ·cases hq
  exact⟨h.kp.size,aR v _⟩
 ·cases hq
  have:=(h.m m oC).2.lt;omega
theorem GN.zF(h:GN w v id none M Q pt){x:Nat}{S:Nat->Prop}(hX:zL u S (fun _=>False) x [⟨id,[]⟩] [-1])(hS:∀j,S j->v.heap.size<=j/\j<u.heap.size)(k1:Kept Nil v u):GN w u id (some x) M Q pt:=by
 have hs:=h.kp.size;refine⟨h.kp.tt k1,fun x' hx=>?_,fun m oC=>⟨(h.m m oC).1,(h.m m oC).2.same k1⟩,fun q hq=>⟨(h.q q hq).1,k1.heap (h.q q hq).2 (fun h=>h)⟩,h.ne⟩;cases hx;refine⟨S,hX,fun j e=>by
  have:=hS j e;exact⟨by omega,this.2,fun e=>by have:=(h.m j e).2.lt;omega,fun e=>by have:=a7 (h.q j e).2;omega⟩⟩
theorem GN.put{mm q:Nat}(h:GN w v id X (some mm) (some q) false):∃u,(Instr.mapUpdate dK (.map (some mm)) (.agg id.1) (.pointer (some ⟨q,0,none⟩))).run prog v=.ok () u/\GN w u id X (some mm) (some q) true:=by
 obtain⟨h1,h2⟩:=h.m mm rfl;obtain⟨u,g1,g2,g3⟩:=h2.put DO id (.pointer (some ⟨q,0,none⟩));have hs:=g3.size;refine⟨u,g1,h.kp.trans g3 (fun j hj e=>by omega),fun x hx=>?_,fun m oC=>?_,fun q' hq=>?_,h.ne⟩
 ·obtain⟨S,q1,q2⟩:=h.x x hx
  exact⟨S,q1.aK g3 (fun j e e'=>(q2 j e).2.2.1 (by rw [e'])) (fun _ h=>h.elim),fun j e=>by have:=q2 j e;exact⟨this.1,by omega,this.2.2⟩⟩
 ·cases oC
  refine⟨h1,?_⟩;have ef:(fun y=>if true=true/\y=id then(some q).map (fun q=>Value.pointer (some ⟨q,0,none⟩))else none)=fun x=>if x=id then some (.pointer (some ⟨q,0,none⟩))else if false=true/\x=id then(some q).map (fun q=>Value.pointer (some ⟨q,0,none⟩))else none:=by
   funext y
   by_cases hy:y=id<;>simp [hy]
  rw [ef];exact g2
 ·have:=h.q q' hq
  exact⟨this.1,g3.heap this.2 (fun e=>h.ne mm q' rfl hq e.symm)⟩
theorem GN.fin{x mm q:Nat}(h:GN w v id (some x) (some mm) (some q) true)(k:Nat):∃m,CV (v.alloc (.cells #[.int .i64 (k:Int),.pointer (some ⟨x,0,none⟩),.map (some mm)] dV)) (· =q) v.heap.size k (gm id) m/\m.x=x/\(∀j,m.own v.heap.size j->w.heap.size<=j)/\w.heap.size<=q:=by
 have k1:Kept Nil v (v.alloc (.cells #[.int .i64 (k:Int),.pointer (some ⟨x,0,none⟩),.map (some mm)] dV)):=(Kept.refl _ _).alloc _;have ht:=aR v (.cells #[.int .i64 (k:Int),.pointer (some ⟨x,0,none⟩),.map (some mm)] dV);generalize v.alloc (.cells #[.int .i64 (k:Int),.pointer (some ⟨x,0,none⟩),.map (some mm)] dV)=u at k1 ht⊢;obtain⟨S,h1,h2⟩:=h.x x rfl;obtain⟨h3,h4⟩:=h.m mm rfl;obtain⟨h5,h6⟩:=h.q q rfl;have fG:=h.ne mm q rfl rfl;have lm:=h4.lt;have lq:=a7 h6;have lt:=a7 ht;have hs:=k1.size;have hw:=h.kp.size;refine⟨⟨x,mm,S,fun _=>False,fun _=>q,fun _ _=>none⟩,⟨ht,h1.same k1,?_,?_,mi k id,SZ.root id,fun _ h=>h.elim,?_,?_,?_,?_⟩,rfl,?_,h5⟩
 ·have:=h4.same k1
  have ef:(fun h=>if h∈ids (gm id).D then some (Value.pointer (some ⟨q,0,none⟩))else none)=fun y=>if true=true/\y=id then(some q).map (fun q=>Value.pointer (some ⟨q,0,none⟩))else none:=by
   funext y
   by_cases hy:y=id
   ·simp [hy,gm,ids]
   ·simp [hy,gm,ids]
  show dY u mm (fun h=>if h∈ids (gm id).D then some (Value.pointer (some ⟨q,0,none⟩))else none)
  rw [ef];exact this
 ·intro y hy
  have:y=id:=by simpa [gm,ids]using hy
  subst this;obtain⟨q1,_⟩:=(mi k y).root ⟨y,[]⟩ rfl
  replace q1:(gm y).iY y=_:=q1
  rw [q1];exact⟨none,0,0,none,0,0,none,k1.heap h6 (fun h=>h),HS.nil _ _,⟨rfl,fun i b hi=>by simp at hi⟩,fun a ha=>(by cases ha),fun a ha=>(by cases ha),.inl ⟨rfl,fun _=>rfl⟩,rfl⟩
 ·rintro j rfl e
  rcases e with e|e|e
  ·exact(h2 _ e).2.2.2 rfl
  ·have e:j=v.heap.size:=e;omega
  ·exact fG e.symm
 ·intro j e
  have:=h2 j e;exact⟨by omega,fun e=>this.2.2.1 (by rw [e])⟩
 ·show v.heap.size≠mm;omega
 ·rintro j (e|e)
  ·rcases e with e|e|e
   ·have:=h2 j e;omega
   ·have e:j=v.heap.size:=e;omega
   ·have e:j=mm:=e;omega
  ·have e:j=q:=e;omega
 ·intro j e
  rcases e with e|e|e
  ·have:=h2 j e;omega
  ·have e:j=v.heap.size:=e;omega
  ·have e:j=mm:=e;omega
theorem gN(id:HT){k:Nat}(hk:k<=100)(hK:∀w' c q m,CV w' (· =q) c k (gm id) m->(∀j,m.own c j->w.heap.size<=j)->w.heap.size<=q->Kept Nil w w'->K (.tuple #[.pointer (some ⟨c,0,none⟩),.int .i64 0]) w'):
 bf prog gN.id #[.int .i64 (k:Int),.agg id.1] w K:=by
 refine gN.of ?_;unfold gN.W;intro w1;have k1:Kept Nil w w1:=(Kept.refl _ _).alloc _;have I5:w1.heap[w.heap.size]? =some (.cells id.1 ax (0,0)):=aR w _;clear_value w1;refine Split.no (decide_eq_false (by omega)) (Split.no (decide_eq_false (by omega)) ?_);intro w2;have k2:Kept Nil w1 w2:=(Kept.refl _ _).drew;clear_value w2;have o6:=k2.heap I5 (fun h=>h);have oA:=k1.tt k2;have s02:=oA.size;have N0:GN w2 w2 id none none none false:=⟨Kept.refl _ _,fun _ h=>(by cases h),fun _ h=>(by cases h),fun _ h=>(by cases h),fun _ _ h=>(by cases h)⟩;have bx:∀ {v:World},Kept Nil w2 v->∃cs:Array Value,(.agg id.1:Value)=.agg cs/\cs.size=32/\Cells v ⟨w.heap.size,0,none⟩ cs:=fun kv=>⟨id.1,rfl,id.2.1,Cells.bW (kv.heap o6 (fun h=>h))⟩;have fin:∀ {v:World} {x mm q:Nat},GN w2 v id (some x) (some mm) (some q) true->let p:=v.alloc (.cells #[.int .i64 (k:Int),.pointer (some ⟨x,0,none⟩),.map (some mm)] dV);K (.tuple #[.pointer (some (aU v.heap.size)),.int .i64 0]) p:=fun {v x mm q} N=>by
  obtain⟨m,h1,_,h2,h3⟩:=N.fin k;exact hK _ _ q m h1 (fun j e=>by have:=h2 j e;omega) (by omega) ((oA.tt N.kp).alloc _)
 refine⟨id.1,⟨id.2.1,Cells.bW o6⟩,id.1,⟨id.2.1,Cells.bW o6⟩,?_,?_,?_⟩
 ·refine gD id fun v x hX kv=>⟨_,rfl,?_⟩
  have N1:=N0.zF hX (fun j e=>e) kv;refine⟨bx N1.kp,⟨?_,?_⟩⟩
  ·have N2:=N1.Ft
   have N3:=N2.Fs;obtain⟨u,hu,N4⟩:=N3.put;exact⟨bx N2.kp,bx N3.kp,u,hu,fin N4⟩
  ·have N2:=N1.Fs
   have N3:=N2.Ft;obtain⟨u,hu,N4⟩:=N3.put;exact⟨bx N2.kp,bx N3.kp,u,hu,fin N4⟩
 ·have N1:=N0.Ft
  refine⟨bx N1.kp,bx N1.kp,?_,?_⟩
  ·refine gD id fun v x hX kv=>⟨_,rfl,?_⟩
   have N2:=N1.zF hX (fun j e=>e) kv;have N3:=N2.Fs;obtain⟨u,hu,N4⟩:=N3.put;exact⟨bx N2.kp,bx N3.kp,u,hu,fin N4⟩
  ·have N2:=N1.Fs
   refine⟨bx N2.kp,bx N2.kp,?_,?_⟩
   ·refine gD id fun v x hX kv=>⟨_,rfl,?_⟩
    have N3:=N2.zF hX (fun j e=>e) kv;obtain⟨u,hu,N4⟩:=N3.put;exact⟨bx N3.kp,u,hu,fin N4⟩
   ·obtain⟨u,hu,N3⟩:=N2.put
    refine⟨u,hu,bx N3.kp,?_⟩;refine gD id fun v x hX kv=>⟨_,rfl,?_⟩;exact fin (N3.zF hX (fun j e=>e) kv)
 ·have N1:=N0.Fs
  refine⟨bx N1.kp,bx N1.kp,?_,?_⟩
  ·refine gD id fun v x hX kv=>⟨_,rfl,?_⟩
   have N2:=N1.zF hX (fun j e=>e) kv;have N3:=N2.Ft;obtain⟨u,hu,N4⟩:=N3.put;exact⟨bx N2.kp,bx N3.kp,u,hu,fin N4⟩
  ·have N2:=N1.Ft
   refine⟨bx N2.kp,bx N2.kp,?_,?_⟩
   ·refine gD id fun v x hX kv=>⟨_,rfl,?_⟩
    have N3:=N2.zF hX (fun j e=>e) kv;obtain⟨u,hu,N4⟩:=N3.put;exact⟨bx N3.kp,u,hu,fin N4⟩
   ·obtain⟨u,hu,N3⟩:=N2.put
    refine⟨u,hu,bx N3.kp,?_⟩;refine gD id fun v x hX kv=>⟨_,rfl,?_⟩;exact fin (N3.zF hX (fun j e=>e) kv)
end
end Go.Proofs.YtfleamccglihoaaGreatDoor
