import Derived.Test.YtnboahlopghcjaaGreatDoorMS
import Derived.Test.YtnboahlopghcjaaGreatDoorMQ
import Derived.Test.YtnboahlopghcjaaGreatDoorMJ
import Derived.Test.YtnboahlopghcjaaGreatDoorMP
set_option linter.unusedVariables false
namespace Go.Proofs.YtnboahlopghcjaaGreatDoor
open Go.Proofs.Tryz
open Go Go.bp Go.RowKit
theorem Bl(D:DG)(s:HT){l:List HT}(hl: ∀x∈l,x∈ids D):(pG D s l).length<=D.length:=by
 have:=dC (m:=ids D) (nf D s l) (fun x hx=>by
  rcases(qD.1 hx).1 with h|h
  ·exact h.1
  ·exact hl x h)
 rwa [iF]at this
theorem zg{D:DG}{l:List HT}(h:mC D l=0):l≠ []/\ ∀x∈l,x∈ids D:=by
 unfold mC at h;split at h
 ·cases h
 ·rename_i h0
  split at h
  ·cases h
  ·rename_i h1
   exact⟨h0,fun x hx=>Classical.byContradiction fun e=>h1 ⟨x,hx,e⟩⟩
section
variable{w w':World}{F:Nat->Prop}{c k:Nat}{G:GS}{m:CM}{K:Value->World->Prop}{A:Option Addr}{n cx:Nat}{l:List HT}{s:HT}
theorem jt.gF{q B sm bb cp e ce:Nat}{x:p8}{ov:HT->Option Nat}{E:Option Addr}(h:jt w B q sm bb x ov A n cp E e ce):Cells w ((⟨q,0,none⟩:Addr).add 0) (dT x A n cp E e ce):=by
 intro j u hj;rw [add_zero,a7,az h.top,Array.getElem?_append_left (by rw [bM];have:=(Array.getElem?_eq_some_iff.1 hj).1;rw [bM]at this;omega)];rw [Nat.zero_add];exact hj
end
end Go.Proofs.YtnboahlopghcjaaGreatDoor
namespace Go.Proofs.YtnboahlopghcjaaGreatDoor
open Go.Proofs.Tryz
open Go Go.bp Go.RowKit
theorem XV.off{w:World}{D:DG}{P:List Int}{m:XM}{x:Nat}{F:Nat->Prop}(h:XV w F x D P m): ∀k,m.hU x k-> ¬F k:=fun k e=>by
 obtain⟨bl,c,mb,M,G⟩:=h.G;rcases e with e|e|e|e
 ·exact G.Au k e
 ·exact fun f=>(h.fd k f).1 e
 ·exact fun f=>(h.fd k f).2 e
 ·exact(h.od k e).2.2.2
section
variable{w w':World}{F F':Nat->Prop}{c k q:Nat}{G:GS}{m:CM}{K:Value->World->Prop}{A B:Option Addr}{n cx cp e ce:Nat}{l:List HT}{x:p8}{sz:HT->Option Nat}{sm:Option Nat}
theorem Seen.mono(h:Seen w F q x sz)(hF: ∀j,F j->F' j):Seen w F' q x sz:=by
 obtain⟨A,n,cp,B,e,ce,sm,h⟩:=h;refine⟨A,n,cp,B,e,ce,sm,h.top,h.mg,h.bl,fun a ha=>hF _ (h.fA a ha),fun a ha=>hF _ (h.fB a ha),?_,hF _ h.fq⟩;rcases h.sz with g|⟨s,g1,g2,g3⟩
 ·exact .inl g
 ·exact .inr ⟨s,g1,hF _ g2,g3⟩
abbrev Oi:Array Value:=dT ⟨bI,0,[],[]⟩ none 0 0 none 0 0
theorem xy(D:DG)(h:HT)(l:List HT):dt D h l=if h∈ids D then 7 else if l.length=0 then 9 else if(cX l).length≠l.length then 9 else mC D l:=by
 unfold dt mC;by_cases h1:h∈ids D
 ·rw [if_pos h1,if_pos h1]
 ·rw [if_neg h1,if_neg h1]
  by_cases h2:l.length=0
  ·rw [if_pos h2,if_pos (.inl (by have:=nI l;omega))]
  ·have hl:l≠ []:=fun e=>h2 (by rw [e];rfl)
   rw [if_neg h2];by_cases h3:(cX l).length≠l.length
   ·rw [if_pos h3,if_pos (.inr h3)]
   ·have a: ¬((cX l).length=0\/(cX l).length≠l.length):=by omega
    have hc:(∃p∈cX l,p∉ids D)↔ ∃p∈l,p∉ids D:=⟨fun⟨p,hp,hq⟩=>⟨p,c9.1 hp,hq⟩,fun⟨p,hp,hq⟩=>⟨p,c9.2 hp,hq⟩⟩;rw [if_neg h3,if_neg a,if_neg hl];by_cases h4: ∃p∈l,p∉ids D
    ·rw [if_pos h4,if_pos (hc.2 h4)]
    ·rw [if_neg h4,if_neg (fun e=>h4 (hc.1 e))]
set_option maxHeartbeats 2000000 in
theorem zN(h:CV w F c k G m)(hT:p6 w)(IT: ¬m.SX (Tryz.gV.g 1))(hD:G.D.length<=49)(ue:k<=1000)(Ak:HS w A n l)(hn:n<=5000)(id:HT)
 (hE:dt G.D id l≠0-> ∀w',Kept Nil w w'->K (.tuple #[.agg Oi,.int .i64 (dt G.D id l)]) w')
 (hO:dt G.D id l=0-> ∀w' F' m' A n c1 B e c2,CV w' F' c k (dz k G id l) m'->m'.x=m.x->Kept (m.own c) w w'->(∀j,m'.own c j->m.own c j\/w.heap.size<=j)->(∀j,F' j->F j\/w.heap.size<=j)->
   bQ w' w.heap.size A n c1 (fg k G (bH G l) l).merge->Row w' w.heap.size gP 1 B e c2 (th (fg k G (bH G l) l).gB)->(∀j,aX A=some j->aX B≠some j)->(∀j,aX A=some j\/aX B=some j-> ¬m'.own c j/\ ¬F' j)->
   K (.tuple #[.agg (dT (fg k G (bH G l) l) A n c1 B e c2),.int .i64 0]) w'):
 aY prog bP.id #[.pointer (some ⟨c,0,none⟩),.agg id.1,.slice A n cx] w K:=by
 have hlen:=Ak.len;refine bP.of ?_;unfold bP.W;intro w1 w2;have k1:Kept Nil w w1:=(Kept.refl _ _).alloc _;have Ai:w1.heap[w.heap.size]? =some (.cells id.1 ao (0,0)):=aN w _;have k2:Kept Nil w1 w2:=(Kept.refl _ _).alloc _;have jw:w2.heap[w1.heap.size]? =some (.cells zC bX (0,0)):=aN w1 _;clear_value w2;have x8:=k2.heap Ai (fun h=>h);have mr:=k1.trans k2 (fun _ _ h=>h);have s1:=k1.size;have l1:=aQ Ai;have l2:=aQ jw;clear_value w1;have zs:(zC:Array Value)=Oi:=rfl;have bad: ∀ {u:World} {r:Int},Kept Nil w2 u->dt G.D id l=r->r≠0->(zC.size=35/\(∀n∈zC.toList,n.oneCell'=true)/\ ∀o,o<35->Wr u ((⟨w1.heap.size,0,none⟩:Addr).add o))/\
  let p:=setCells u (⟨w1.heap.size,0,none⟩:Addr) zC.toList 0;∃q:Array Value,(q.size=35/\Cells p (⟨w1.heap.size,0,none⟩:Addr) q)/\K (.tuple #[.agg q,.int .i64 r]) p:=fun {u r} ku hr h0=>by
  obtain⟨t1,t2,t3⟩:=ga (ku.heap jw (fun h=>h)) (cs:=zC) rfl;refine⟨⟨rfl,by rw [zs];exact jT _ _ _ _ _ _ _,fun j hj=>t1 j hj⟩,?_⟩;refine⟨_,⟨rfl,Cells.bC t2⟩,?_⟩;have:=hE (by rw [hr];exact h0) _ ((mr.trans ku (fun _ _ h=>h)).trans t3 (fun j hj e=>by omega));rw [hr]at this;exact this
 have gA:=xy G.D id l;refine pq (h.same mr) ⟨true,rfl,Split.no rfl ?_⟩;intro w3;have k3:Kept Nil w2 w3:=(Kept.refl _ _).drew;clear_value w3;have ph:=mr.trans k3 (fun _ _ h=>h);have h3:=h.same ph;refine⟨_,h3.c2,id.1,⟨id.2.1,Cells.bC (k3.heap x8 (fun h=>h))⟩,_,h3.look id,?_⟩;by_cases hid:id∈ids G.D
 ·rw [if_pos hid]at gA
  exact Split.yes (by rw [if_pos hid];rfl) (bad k3 gA (by decide))
 rw [if_neg hid]at gA;refine Split.no (by rw [if_neg hid];rfl) ?_;by_cases zA:n=0
 ·rw [if_pos (by omega)]at gA
  exact Split.yes (by subst zA;rfl) (bad k3 gA (by decide))
 rw [if_neg (by omega)]at gA;refine Split.no (by simpa using (by omega: ¬(n:Int)=0)) ?_;refine fD (Ak.same ph) (by omega) fun A4 c4 w4 wq k4=>⟨A4,_,c4,rfl,?_⟩;have pH:=k3.trans k4 (fun _ _ h=>h);have pV:=ph.trans k4 (fun _ _ h=>h);by_cases O4:(cX l).length≠l.length
 ·rw [if_pos O4]at gA
  exact Split.yes (by simp only [bne_iff_ne,ne_eq];omega) (bad pH gA (by decide))
 rw [if_neg O4]at gA;refine Split.no (by simp only [bne_eq_false_iff_eq];omega) ?_;refine tK (h.same pV) (Ak.same pV) (by omega) fun w5 k5=>⟨_,_,rfl,?_⟩;have Yn:=pH.trans k5 (fun _ _ h=>h);have rY:=pV.trans k5 (fun _ _ h=>h);generalize mF:(if mC G.D l=0 then bH G l else bI)=s;intro w6;have k6:Kept Nil w5 w6:=(Kept.refl _ _).alloc _;have oV:w6.heap[w5.heap.size]? =some (.cells bI.1 ao (0,0)):=aN w5 _;clear_value w6;obtain⟨t1,t2,t3⟩:=jQ s oV rfl;refine⟨t1,?_⟩;intro w7
 replace t2:w7.heap[w5.heap.size]? =some (.cells s.1 ao (0,0)):=t2
 replace t3:Kept (· =w5.heap.size) w6 w7:=t3
 clear_value w7;have D8:Kept Nil w5 w7:=k6.trans t3 (fun j hj e=>by omega);have QM:=Yn.trans D8 (fun _ _ h=>h);have wH:=rY.trans D8 (fun _ _ h=>h);by_cases hm:mC G.D l≠0
 ·exact Split.yes (by simpa using hm) (bad QM gA hm)
 have hm:mC G.D l=0:=by omega
 rw [if_pos hm]at mF;rw [hm]at gA⊢;refine Split.no rfl ⟨s.1,⟨s.2.1,Cells.bC t2⟩,?_⟩;obtain⟨fc,fY⟩:=zg hm;have Ei:s∈l:=by rw [<-mF];exact jv fc
 obtain⟨ch,lR⟩:=cj.ex h.gN.kO s;have h7:=h.same wH;refine xa DD (Nat.le_trans (Bl G.D s fY) hD) h7 (hT.same wH) (by omega) ue (fY s Ei) lR fY (Ak.same wH) hn fun v q B sm bb ov Am nm cp E e ce g1 gO g3 g4 g5 g6 g7=>⟨some ⟨q,0,none⟩,rfl,?_⟩;have Fx:=wH.trans g7 (fun _ _ h=>h);have BE:=QM.trans g7 (fun _ _ h=>h);have k5v:=D8.trans g7 (fun _ _ h=>h);have s07:=wH.size;have s0v:=Fx.size;intro w8;have k8:Kept Nil v w8:=(Kept.refl _ _).drew;clear_value w8;have BN:=Fx.trans k8 (fun _ _ h=>h);have h8:=h.same BN;have g18:=g1.same k8;have s8:=k8.size;refine⟨_,h8.c1,id.1,⟨id.2.1,Cells.bC ((BE.trans k8 (fun _ _ h=>h)).heap x8 (fun h=>h))⟩,s.1,⟨s.2.1,Cells.bC (((g7.trans k8 (fun _ _ h=>h))).heap t2 (fun h=>h))⟩,?_⟩;refine wx h8.X (by omega) (hT.same BN) IT (Ak.same BN) hn id s fun u S' Xp WN k9 hS9 JZ=>⟨_,rfl,?_⟩;have eX:pE G.D id s l=(dz k G id l).D/\pD G.D G.P id s l=(dz k G id l).P:=by rw [<-mF];exact⟨I9.symm,Ja.symm⟩
 rw [eX.1,eX.2]at WN;obtain⟨mx,X9,Wa⟩:=WN;have rV: ∀j,m.own c j\/F j->j<w.heap.size:=h.low;have g1q:q<v.heap.size:=aQ g1.top;have g1s:sm<v.heap.size:=g1.ov.lt;have qY: ∀j,w.heap.size<=j-> ¬m.SX j:=fun j hj e=>by have:=rV j (.inl (.inl e));omega
 have g19:=g18.aG k9 (qY q (by omega)) (qY sm (by omega)) (fun j hj _=>qY j (by have:=g6.1;omega)) (fun a ha=>qY _ (by have:=g5 a ha;omega));have s9:=k9.size;have JC:Kept m.SX w2 u:=((BE.trans k8 (fun _ _ h=>h)).mono fun _ _ h=>h.elim).trans k9 (fun _ _ h=>h);have U6: ¬m.SX c/\ ¬m.SX m.mb:=⟨fun e=>(h.so _ e).1 rfl,fun e=>(h.so _ e).2 rfl⟩;have Ky:u.heap[c]? =_:=k9.heap h8.top U6.1;have Uh:=h8.all.aG k9 U6.2;intro w10;have oA:Kept Nil u w10:=(Kept.refl _ _).drew;clear_value w10;have KA:=oA.heap Ky (fun h=>h);have El:=(JC.trans oA (fun _ _ h=>h.elim)).heap x8 (fun e=>qY _ (Nat.le_refl _) e);have Ot:=Uh.aG oA (fun h=>h);obtain⟨ur,RD,Oq,Fw⟩:=Ot.put Bk id (.pointer (some ⟨q,0,none⟩));refine⟨some m.mb,by rw [a7,az KA];rfl,id.1,⟨id.2.1,Cells.bC El⟩,ur,RD,Is.mk rfl ?_⟩;have s10:=oA.size;have s11:=Fw.size;have lmb:m.mb<w.heap.size:=rV _ (.inl (.inr (.inr rfl)));have lc:c<w.heap.size:=rV _ (.inl (.inr (.inl rfl)));have D3:Kept (· =m.mb) u ur:=(oA.mono fun _ _ h=>h.elim).trans Fw (fun _ _ h=>h);have ER:=g19.aG D3 (by omega) (by omega) (fun j hj _ e=>by have:=g6.1;omega) (fun a ha e=>by have:=g5 a ha;omega);have Ud:=Row.bo ER.bl;have Ls:Kept (m.own c) w ur:=((BN.mono (S':=m.own c) fun _ _ h=>h.elim).trans k9 (fun _ _ h=>.inl h)).trans D3 (fun _ _ h=>.inr (.inr h));refine⟨_,⟨bM ..,ER.gF⟩,?_⟩;have JX:=g1.mg.len;have V7:nm<=49:=by
  have De:(fg k G s l).merge=b7 G s l:=rfl;have ud:(b7 G s l).length<=49:=by
   have:=dC (m:=ids G.D) (jW G s l).nodup (fun y hy=>by
    rcases(gM.1 hy).1 with h|h
    ·exact h.1
    ·exact fY y h)
   rw [iF]at this;omega
  rw [De]at JX;omega
 have Pg:e<=49:=by
  have h1:=(p9 k G s l).1;have h2:=(Row.bo g1.bl).len;have De:(fg k G s l).merge=b7 G s l:=rfl;have Q4:(fg k G s l).gB=(eE k G s l).bl:=rfl;rw [Q4]at h2;rw [De]at JX;omega
 refine pL (fg k G s l) ER.mg Ud (by omega) (by omega) fun A' c1 B' c2 mJ qm AW Mm zr=>⟨_,rfl,?_⟩;have Ln:Kept (m.own c) w2 mJ:=((JC.mono (S':=m.own c) fun _ _ h=>.inl h).trans D3 (fun _ _ h=>.inr (.inr h))).trans zr (fun _ _ h=>h.elim);have fr2: ∀j,w.heap.size<=j-> ¬m.own c j:=fun j hj e=>by have:=rV j (.inl e);omega
 have Ru:=Ln.heap jw (fr2 _ (by omega));obtain⟨f1,f2,f3⟩:=ga Ru (cs:=dT (fg k G s l) A' nm c1 B' e c2) (by rw [bM];rfl);refine⟨⟨bM ..,jT _ _ _ _ _ _ _,fun j hj=>f1 j (by rw [bM];exact hj)⟩,?_⟩;intro jJ
 replace f2:jJ.heap[w1.heap.size]? =_:=f2
 replace f3:Kept (· =w1.heap.size) mJ jJ:=f3
 clear_value jJ;refine⟨_,⟨bM ..,Cells.bC f2⟩,?_⟩;have qM:Kept (· =w1.heap.size) ur jJ:=(zr.mono fun _ _ h=>h.elim).trans f3 (fun _ _ h=>h);have s13:=qM.size;have lw1:w1.heap.size<w7.heap.size:=Nat.lt_of_lt_of_le l2 QM.size;rw [mF]at hO;have HJ:=jU (k:=k) (G:=G) (h:=id) (ps:=l) gA;have MQ:ids (dz k G id l).D=ids G.D++ [id]:=by rw [HJ];simp [ids]
 let F':Nat->Prop:=fun j=>F j\/(w7.heap.size<=j/\j<v.heap.size)\/Xp j
 let m':CM:=⟨m.x,m.mb,mx.hU m.x,Xp,fun y=>if y=id then q else m.q y,fun y=>if y=id then ov else m.sz y⟩
 have JQ: ∀j,mx.hU m.x j->m.SX j\/w8.heap.size<=j:=fun j e=>hS9 j (Wa j e);have Qf: ∀j,m'.own c j->m.own c j\/w8.heap.size<=j:=fun j e=>by
  rcases e with e|e|e
  ·exact(JQ j e).imp (fun e=>.inl e) (fun e=>e)
  ·exact .inl (.inr (.inl e))
  ·exact .inl (.inr (.inr e))
 have qH: ∀j,F' j->F j\/(w7.heap.size<=j/\j<u.heap.size):=fun j e=>by
  rcases e with e|e|e
  ·exact .inl e
  ·exact .inr ⟨e.1,by omega⟩
  ·rcases JZ j e with e'|e'
   ·exact .inl (h.fx j e')
   ·exact .inr ⟨by omega,X9.low j (.inr e)⟩
 have Fj: ∀j,mx.hU m.x j->j<u.heap.size:=fun j e=>X9.low j (.inl e);have Qy:Kept (fun j=>j=m.mb\/j=w1.heap.size) u jJ:=(D3.mono fun _ _ h=>.inl h).trans qM (fun _ _ h=>.inr h);have n1: ∀j,F' j-> ¬(j=m.mb\/j=w1.heap.size):=fun j e e'=>by
  rcases e' with e'|e'
  ·rcases qH j e with e|e
   ·exact h.fo j e (.inr (.inr e'))
   ·omega
  ·rcases qH j e with e|e
   ·have:=rV j (.inr e);omega
   ·omega
 have n2: ∀j,mx.hU m.x j-> ¬(j=m.mb\/j=w1.heap.size):=fun j e e'=>by
  rcases e' with e'|e'
  ·rcases JQ j e with e|e
   ·exact(h.so j e).2 e'
   ·omega
  ·rcases JQ j e with e|e
   ·have:=rV j (.inl (.inl e));omega
   ·have:=k8.size;have:=g7.size;omega
 have EP:jt jJ B q sm bb (fg k G s l) ov Am nm cp E e ce:=ER.aG qM (by omega) (by omega) (fun j hj _ e=>by have:=g6.1;omega) (fun a ha e=>by have:=g5 a ha;omega);have C':CV jJ F' c k (dz k G id l) m':=by
  refine⟨?_,?_,?_,?_,h.gN.add id l,?_,fun j e=>.inr (.inr e),?_,?_,h.ne,?_⟩
  ·exact Qy.heap Ky (fun e=>by rcases e with e|e;exact h.ne e;omega)
  ·exact⟨mx,X9.aG Qy n2 (fun j e=>n1 j (.inr (.inr e))),fun _ e=>e⟩
  ·have:=Oq.aG qM (by show ¬m.mb=_;omega)
   have ef:(fun h=>if h∈ids (dz k G id l).D then some (Value.pointer (some ⟨m'.q h,0,none⟩))else none)=fun x=>if x=id then some (Value.pointer (some ⟨q,0,none⟩))else if x∈ids G.D then some (.pointer (some ⟨m.q x,0,none⟩))else none:=by
    funext y
    rw [MQ];by_cases hy:y=id
    ·simp [hy,m']
    ·by_cases VA:y∈ids G.D
     ·simp [hy,VA,m']
     ·simp [hy,VA]
   rw [ef];exact this
  ·intro y hy
   rw [MQ,List.mem_append,List.mem_singleton]at hy;by_cases he:y=id
   ·subst he
    rw [(l9 h.gN gA).1,mF];have e1:m'.q y=q:=if_pos rfl;have e2:m'.sz y=ov:=if_pos rfl;rw [e1,e2];refine⟨Am,nm,cp,E,e,ce,some sm,EP.top,EP.mg,Row.bo EP.bl,fun a ha=>.inr (.inl ⟨g5 a ha,?_⟩),fun a ha=>.inr (.inl ?_),.inr ⟨sm,rfl,.inr (.inl ⟨g4,g1s⟩),EP.ov⟩,.inr (.inl ⟨g3,g1q⟩)⟩
    ·have:=(g1.mA a ha).1
     have:=g6.2;omega
    ·subst ha
     obtain⟨q1,cur,q2⟩:=Row.bC g1.bl (k:=a.block) rfl;have:=aQ q2;have:=g6.1;exact⟨by omega,this |>fun _=>aQ q2⟩
   ·have hy:y∈ids G.D:=hy.elim (fun e=>e) (fun e=>absurd e he)
    rw [(jV h.gN hy).1];have e1:m'.q y=m.q y:=if_neg he;have e2:m'.sz y=m.sz y:=if_neg he;rw [e1,e2];exact(((h8.seen y hy).aG k9 (fun j e e'=>h.fo j e (.inl e'))).aG Qy (fun j e=>n1 j (.inl e))).mono (fun j e=>.inl e)
  ·have SN:cj G.D G.P (bH G l) ch:=by rw [mF];exact lR
   rw [<-mF]at gO;exact SZ.add h.Z h.gN gA SN gO
  ·intro j e e'
   rcases e' with e'|e'|e'
   ·rcases e with e|e|e
    ·rcases JQ j e' with e'|e'
     ·exact h.fo j e (.inl e')
     ·have:=rV j (.inr e);omega
    ·rcases JQ j e' with e'|e'
     ·have:=rV j (.inl (.inl e'));omega
     ·omega
    ·exact XV.off X9 j e' e
   ·rcases qH j e with e|e
    ·exact h.fo j e (.inr (.inl e'))
    ·have e':j=c:=e';omega
   ·rcases qH j e with e|e
    ·exact h.fo j e (.inr (.inr e'))
    ·have e':j=m.mb:=e';omega
  ·intro j e
   rcases JQ j e with e'|e'
   ·exact h.so j e'
   ·exact⟨by omega,by show j≠m.mb;omega⟩
  ·rintro j (e|e)
   ·rcases e with e|e|e
    ·have:=Fj j e;omega
    ·have e:j=c:=e;omega
    ·have e:j=m.mb:=e;omega
   ·rcases qH j e with e|e
    ·have:=rV j (.inr e);omega
    ·omega
 have zJ: ∀j,aX A'=some j->ur.heap.size<=j:=fun j hj=>(Row.bC qm hj).1;have IY: ∀j,aX B'=some j->ur.heap.size<=j:=fun j hj=>(Row.bC AW hj).1;have Od: ∀j,ur.heap.size<=j-> ¬m'.own c j/\ ¬F' j:=fun j hj=>⟨fun e=>by
  rcases e with e|e|e
  ·have:=Fj j e;omega
  ·have e:j=c:=e;omega
  ·have e:j=m.mb:=e;omega,fun e=>by
  rcases qH j e with e|e
  ·have:=rV j (.inr e);omega
  ·omega⟩
 exact hO gA jJ F' m' A' nm c1 B' e c2 C' rfl ((Ls.trans qM (fun j hj e=>by omega))) (fun j e=>(Qf j e).imp (fun h=>h) (fun h=>by omega)) (fun j e=>(qH j e).imp (fun h=>h) (fun h=>by omega))
  (Row.base (Row.aG qm f3 (fun j hj e=>by have:=zJ j hj;omega)) (fun j hj=>by have:=zJ j hj;omega)) (Row.base (Row.aG AW f3 (fun j hj e=>by have:=IY j hj;omega)) (fun j hj=>by have:=IY j hj;omega)) Mm
  (fun j hj=>Od j (hj.elim (zJ j) (IY j)))
end
end Go.Proofs.YtnboahlopghcjaaGreatDoor
namespace Go.Proofs.YtnboahlopghcjaaGreatDoor
open Go.Proofs.Tryz
open Go Go.bp Go.RowKit
section
variable{k:Nat}{G:GS}
end
section
variable{w w' gD:World}{B ob bx:Nat}{av av':Nat->Prop}{acc:List HT}
end
end Go.Proofs.YtnboahlopghcjaaGreatDoor
namespace Go.Proofs.YtnboahlopghcjaaGreatDoor
open Go.Proofs.Tryz
open Go Go.bp Go.RowKit
section
variable{w w' v:World}{F:Nat->Prop}{c k:Nat}{G:GS}{m:CM}{K:Value->World->Prop}
end
end Go.Proofs.YtnboahlopghcjaaGreatDoor
namespace Go.Proofs.YtnboahlopghcjaaGreatDoor
open Go.Proofs.Tryz
open Go Go.bp Go.RowKit
section
variable{w w':World}{F:Nat->Prop}{c k:Nat}{G:GS}{m:CM}{K:Value->World->Prop}
end
end Go.Proofs.YtnboahlopghcjaaGreatDoor
namespace Go.Proofs.YtnboahlopghcjaaGreatDoor
open Go.Proofs.Tryz
open Go Go.bp Go.RowKit
structure GN(w v:World)(id:HT)(X M Q:Option Nat)(pt:Bool):Prop where
 kp:Kept Nil w v
 x: ∀x,X=some x-> ∃S,xA v S (fun _=>False) x [⟨id,[]⟩] [-1]/\ ∀j,S j->w.heap.size<=j/\j<v.heap.size/\M≠some j/\Q≠some j
 m: ∀m,M=some m->w.heap.size<=m/\dA v m (fun y=>if pt=true/\y=id then Q.map fun q=>.pointer (some ⟨q,0,none⟩)else none)
 q: ∀q,Q=some q->w.heap.size<=q/\v.heap[q]? =some (.cells zS cI (0,0))
 ne: ∀m q,M=some m->Q=some q->m≠q
section
variable{w w' v u:World}{F:Nat->Prop}{c k:Nat}{G:GS}{m:CM}{K:Value->World->Prop}{id:HT}{X M Q:Option Nat}{pt:Bool}
theorem GN.C0(h:GN w v id X none Q false):GN w (v.alloc (.map #[] 0)) id X (some v.heap.size) Q false:=by
 have k1:Kept Nil v (v.alloc (.map #[] 0)):=(Kept.refl _ _).alloc _;have hs:=k1.size;have hm:dA (v.alloc (.map #[] 0)) v.heap.size (fun _=>none):=dA.new v;refine⟨h.kp.trans k1 (fun _ _ h=>h),fun x hx=>?_,fun m mH=>?_,fun q hq=>?_,fun m q mH hq=>?_⟩
 ·obtain⟨S,h1,h2⟩:=h.x x hx
  exact⟨S,h1.same k1,fun j e=>by have:=h2 j e;exact⟨this.1,by omega,fun e=>by cases e;omega,this.2.2.2⟩⟩
 ·cases mH
  exact⟨h.kp.size,by simpa using hm⟩
 ·exact⟨(h.q q hq).1,k1.heap (h.q q hq).2 (fun h=>h)⟩
 ·cases mH
  have:=aQ (h.q q hq).2;omega
theorem GN.CZ(h:GN w v id X M none false):GN w (v.alloc (.cells zS cI)) id X M (some v.heap.size) false:=by
 have k1:Kept Nil v (v.alloc (.cells zS cI)):=(Kept.refl _ _).alloc _;have hs:=k1.size;refine⟨h.kp.trans k1 (fun _ _ h=>h),fun x hx=>?_,fun m mH=>?_,fun q hq=>?_,fun m q mH hq=>?_⟩
 ·obtain⟨S,h1,h2⟩:=h.x x hx
  exact⟨S,h1.same k1,fun j e=>by have:=h2 j e;exact⟨this.1,by omega,this.2.2.1,fun e=>by cases e;omega⟩⟩
 ·have:=h.m m mH
  refine⟨this.1,?_⟩;have h2:=this.2.same k1;simpa using h2
 ·cases hq
  exact⟨h.kp.size,aN v _⟩
 ·cases hq
  have:=(h.m m mH).2.lt;omega
theorem GN.xv(h:GN w v id none M Q pt){x:Nat}{S:Nat->Prop}(hX:xA u S (fun _=>False) x [⟨id,[]⟩] [-1])(hS: ∀j,S j->v.heap.size<=j/\j<u.heap.size)(k1:Kept Nil v u):GN w u id (some x) M Q pt:=by
 have hs:=h.kp.size;refine⟨h.kp.trans k1 (fun _ _ h=>h),fun x' hx=>?_,fun m mH=>⟨(h.m m mH).1,(h.m m mH).2.same k1⟩,fun q hq=>⟨(h.q q hq).1,k1.heap (h.q q hq).2 (fun h=>h)⟩,h.ne⟩;cases hx;refine⟨S,hX,fun j e=>by
  have:=hS j e;exact⟨by omega,this.2,fun e=>by have:=(h.m j e).2.lt;omega,fun e=>by have:=aQ (h.q j e).2;omega⟩⟩
theorem GN.put{mm q:Nat}(h:GN w v id X (some mm) (some q) false): ∃u,(Instr.mapUpdate da (.map (some mm)) (.agg id.1) (.pointer (some ⟨q,0,none⟩))).run prog v=.ok () u/\GN w u id X (some mm) (some q) true:=by
 obtain⟨h1,h2⟩:=h.m mm rfl;obtain⟨u,g1,g2,g3⟩:=h2.put Bk id (.pointer (some ⟨q,0,none⟩));have hs:=g3.size;refine⟨u,g1,h.kp.trans g3 (fun j hj e=>by omega),fun x hx=>?_,fun m mH=>?_,fun q' hq=>?_,h.ne⟩
 ·obtain⟨S,q1,q2⟩:=h.x x hx
  exact⟨S,q1.aG g3 (fun j e e'=>(q2 j e).2.2.1 (by rw [e'])) (fun _ h=>h.elim),fun j e=>by have:=q2 j e;exact⟨this.1,by omega,this.2.2⟩⟩
 ·cases mH
  refine⟨h1,?_⟩;have ef:(fun y=>if true=true/\y=id then(some q).map (fun q=>Value.pointer (some ⟨q,0,none⟩))else none)=fun x=>if x=id then some (.pointer (some ⟨q,0,none⟩))else if false=true/\x=id then(some q).map (fun q=>Value.pointer (some ⟨q,0,none⟩))else none:=by
   funext y
   by_cases hy:y=id<;>simp [hy]
  rw [ef];exact g2
 ·have:=h.q q' hq
  exact⟨this.1,g3.heap this.2 (fun e=>h.ne mm q' rfl hq e.symm)⟩
theorem GN.fin{x mm q:Nat}(h:GN w v id (some x) (some mm) (some q) true)(k:Nat): ∃m,CV (v.alloc (.cells #[.int .i64 (k:Int),.pointer (some ⟨x,0,none⟩),.map (some mm)] dr)) (· =q) v.heap.size k (dc id) m/\m.x=x/\(∀j,m.own v.heap.size j->w.heap.size<=j)/\w.heap.size<=q:=by
 have k1:Kept Nil v (v.alloc (.cells #[.int .i64 (k:Int),.pointer (some ⟨x,0,none⟩),.map (some mm)] dr)):=(Kept.refl _ _).alloc _;have ht:=aN v (.cells #[.int .i64 (k:Int),.pointer (some ⟨x,0,none⟩),.map (some mm)] dr);generalize v.alloc (.cells #[.int .i64 (k:Int),.pointer (some ⟨x,0,none⟩),.map (some mm)] dr)=u at k1 ht⊢;obtain⟨S,h1,h2⟩:=h.x x rfl;obtain⟨h3,h4⟩:=h.m mm rfl;obtain⟨h5,h6⟩:=h.q q rfl;have fc:=h.ne mm q rfl rfl;have lm:=h4.lt;have lq:=aQ h6;have lt:=aQ ht;have hs:=k1.size;have hw:=h.kp.size;refine⟨⟨x,mm,S,fun _=>False,fun _=>q,fun _ _=>none⟩,⟨ht,h1.same k1,?_,?_,ki k id,SZ.root id,fun _ h=>h.elim,?_,?_,?_,?_⟩,rfl,?_,h5⟩
 ·have:=h4.same k1
  have ef:(fun h=>if h∈ids (dc id).D then some (Value.pointer (some ⟨q,0,none⟩))else none)=fun y=>if true=true/\y=id then(some q).map (fun q=>Value.pointer (some ⟨q,0,none⟩))else none:=by
   funext y
   by_cases hy:y=id
   ·simp [hy,dc,ids]
   ·simp [hy,dc,ids]
  show dA u mm (fun h=>if h∈ids (dc id).D then some (Value.pointer (some ⟨q,0,none⟩))else none)
  rw [ef];exact this
 ·intro y hy
  have:y=id:=by simpa [dc,ids]using hy
  subst this;obtain⟨q1,_⟩:=(ki k y).root ⟨y,[]⟩ rfl
  replace q1:(dc y).gF y=_:=q1
  rw [q1];exact⟨none,0,0,none,0,0,none,k1.heap h6 (fun h=>h),HS.nil _ _,⟨rfl,fun i b hi=>by simp at hi⟩,fun a ha=>(by cases ha),fun a ha=>(by cases ha),.inl ⟨rfl,fun _=>rfl⟩,rfl⟩
 ·rintro j rfl e
  rcases e with e|e|e
  ·exact(h2 _ e).2.2.2 rfl
  ·have e:j=v.heap.size:=e;omega
  ·exact fc e.symm
 ·intro j e
  have:=h2 j e;exact⟨by omega,fun e=>this.2.2.1 (by rw [e])⟩
 ·show v.heap.size≠mm;omega
 ·rintro j (e|e)
  ·rcases e with e|e|e
   ·have:=h2 j e;omega
   ·have e:j=v.heap.size:=e;omega
   ·have e:j=mm:=e;omega
  ·have e:j=q:=e;omega
 ·intro j e
  rcases e with e|e|e
  ·have:=h2 j e;omega
  ·have e:j=v.heap.size:=e;omega
  ·have e:j=mm:=e;omega
theorem dK(id:HT){k:Nat}(hk:k<=100)(hK: ∀w' c q m,CV w' (· =q) c k (dc id) m->(∀j,m.own c j->w.heap.size<=j)->w.heap.size<=q->Kept Nil w w'->K (.tuple #[.pointer (some ⟨c,0,none⟩),.int .i64 0]) w'):
 aY prog dK.id #[.int .i64 (k:Int),.agg id.1] w K:=by
 refine dK.of ?_;unfold dK.W;intro w1;have k1:Kept Nil w w1:=(Kept.refl _ _).alloc _;have JX:w1.heap[w.heap.size]? =some (.cells id.1 ao (0,0)):=aN w _;clear_value w1;refine Split.no (decide_eq_false (by omega)) (Split.no (decide_eq_false (by omega)) ?_);intro w2;have k2:Kept Nil w1 w2:=(Kept.refl _ _).drew;clear_value w2;have oB:=k2.heap JX (fun h=>h);have mr:=k1.trans k2 (fun _ _ h=>h);have XW:=mr.size;have N0:GN w2 w2 id none none none false:=⟨Kept.refl _ _,fun _ h=>(by cases h),fun _ h=>(by cases h),fun _ h=>(by cases h),fun _ _ h=>(by cases h)⟩;have bx: ∀ {v:World},Kept Nil w2 v-> ∃cs:Array Value,(.agg id.1:Value)=.agg cs/\cs.size=32/\Cells v ⟨w.heap.size,0,none⟩ cs:=fun kv=>⟨id.1,rfl,id.2.1,Cells.bC (kv.heap oB (fun h=>h))⟩;have fin: ∀ {v:World} {x mm q:Nat},GN w2 v id (some x) (some mm) (some q) true->let p:=v.alloc (.cells #[.int .i64 (k:Int),.pointer (some ⟨x,0,none⟩),.map (some mm)] dr);K (.tuple #[.pointer (some (⟨v.heap.size,0,none⟩:Addr)),.int .i64 0]) p:=fun {v x mm q} N=>by
  obtain⟨m,h1,_,h2,h3⟩:=N.fin k;exact hK _ _ q m h1 (fun j e=>by have:=h2 j e;omega) (by omega) ((mr.trans N.kp (fun _ _ h=>h)).alloc _)
 refine⟨id.1,⟨id.2.1,Cells.bC oB⟩,id.1,⟨id.2.1,Cells.bC oB⟩,?_,?_,?_⟩
 ·refine fu id fun v x hX kv=>⟨_,rfl,?_⟩
  have N1:=N0.xv hX (fun j e=>e) kv;refine⟨bx N1.kp,⟨?_,?_⟩⟩
  ·have N2:=N1.C0
   have N3:=N2.CZ;obtain⟨u,hu,N4⟩:=N3.put;exact⟨bx N2.kp,bx N3.kp,u,hu,fin N4⟩
  ·have N2:=N1.CZ
   have N3:=N2.C0;obtain⟨u,hu,N4⟩:=N3.put;exact⟨bx N2.kp,bx N3.kp,u,hu,fin N4⟩
 ·have N1:=N0.C0
  refine⟨bx N1.kp,bx N1.kp,?_,?_⟩
  ·refine fu id fun v x hX kv=>⟨_,rfl,?_⟩
   have N2:=N1.xv hX (fun j e=>e) kv;have N3:=N2.CZ;obtain⟨u,hu,N4⟩:=N3.put;exact⟨bx N2.kp,bx N3.kp,u,hu,fin N4⟩
  ·have N2:=N1.CZ
   refine⟨bx N2.kp,bx N2.kp,?_,?_⟩
   ·refine fu id fun v x hX kv=>⟨_,rfl,?_⟩
    have N3:=N2.xv hX (fun j e=>e) kv;obtain⟨u,hu,N4⟩:=N3.put;exact⟨bx N3.kp,u,hu,fin N4⟩
   ·obtain⟨u,hu,N3⟩:=N2.put
    refine⟨u,hu,bx N3.kp,?_⟩;refine fu id fun v x hX kv=>⟨_,rfl,?_⟩;exact fin (N3.xv hX (fun j e=>e) kv)
 ·have N1:=N0.CZ
  refine⟨bx N1.kp,bx N1.kp,?_,?_⟩
  ·refine fu id fun v x hX kv=>⟨_,rfl,?_⟩
   have N2:=N1.xv hX (fun j e=>e) kv;have N3:=N2.C0;obtain⟨u,hu,N4⟩:=N3.put;exact⟨bx N2.kp,bx N3.kp,u,hu,fin N4⟩
  ·have N2:=N1.C0
   refine⟨bx N2.kp,bx N2.kp,?_,?_⟩
   ·refine fu id fun v x hX kv=>⟨_,rfl,?_⟩
    have N3:=N2.xv hX (fun j e=>e) kv;obtain⟨u,hu,N4⟩:=N3.put;exact⟨bx N3.kp,u,hu,fin N4⟩
   ·obtain⟨u,hu,N3⟩:=N2.put
    refine⟨u,hu,bx N3.kp,?_⟩;refine fu id fun v x hX kv=>⟨_,rfl,?_⟩;exact fin (N3.xv hX (fun j e=>e) kv)
theorem mR(id:HT){k:Int}(hk:k<0\/k>100)(hK: ∀w',Kept Nil w w'->K (.tuple #[.pointer none,.int .i64 2]) w'):
 aY prog dK.id #[.int .i64 k,.agg id.1] w K:=by
 refine dK.of ?_;unfold dK.W;intro w1;have k1:Kept Nil w w1:=(Kept.refl _ _).alloc _;clear_value w1;refine Split.dec (fun _=>hK w1 k1) (fun h0=>Split.dec (fun _=>hK w1 k1) (fun h1=>?_));omega
end
end Go.Proofs.YtnboahlopghcjaaGreatDoor
