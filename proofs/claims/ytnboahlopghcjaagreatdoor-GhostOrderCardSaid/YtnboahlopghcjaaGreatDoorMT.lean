import Derived.Test.YtnboahlopghcjaaGreatDoorMS
import Derived.Test.YtnboahlopghcjaaGreatDoorMQ
import Derived.Test.YtnboahlopghcjaaGreatDoorMJ
import Derived.Test.YtnboahlopghcjaaGreatDoorMP
open Go.IntKind (i64 u64)
set_option linter.unusedVariables false
namespace Go.Proofs.YtnboahlopghcjaaGreatDoor
open Go.Proofs.Tryz
open Go Go.bP Go.RowKit
theorem Gi(D:DG)(s:HT){l:List HT}(hl:∀x∈l,x∈ids D):(oH D s l).length<=D.length:=by
 have:=cI (m:=ids D) (pR D s l) (fun x hx=>by
  rcases(mB.1 hx).1 with h|h
  ·exact h.1
  ·exact hl x h)
 rwa [fc]at this
theorem DU{D:DG}{l:List HT}(h:mD D l=0):l≠ []/\∀x∈l,x∈ids D:=by
 unfold mD at h;split at h
 ·cases h
 ·rename_i h0
  split at h
  ·cases h
  ·rename_i h1
   exact⟨h0,fun x hx=>Classical.byContradiction fun e=>h1 ⟨x,hx,e⟩⟩
section
variable{w w':World}{F:Nat->Prop}{c k:Nat}{G:GS}{m:CM}{K:Value->World->Prop}{A:Option Addr}{n cx:Nat}{l:List HT}{s:HT}
theorem lM.gm{q B sm bb cp e ce:Nat}{x:nW}{ov:HT->Option Nat}{E:Option Addr}(h:lM w B q sm bb x ov A n cp E e ce):Cells w ((⟨q,0,none⟩:Addr).add 0) (cD x A n cp E e ce):=by
 intro j u hj;rw [add_zero,a7,ay h.top,Array.getElem?_append_left (by rw [aW];have:=(Array.getElem?_eq_some_iff.1 hj).1;rw [aW]at this;omega)];rw [Nat.zero_add];exact hj
end
theorem XV.off{w:World}{D:DG}{P:List Int}{m:XM}{x:Nat}{F:Nat->Prop}(h:XV w F x D P m):∀k,m.jL x k->¬F k:=fun k e=>by
 obtain⟨bl,c,mb,M,G⟩:=h.G;rcases e with e|e|e|e
 ·exact G.tk k e
 ·exact fun f=>(h.fd k f).1 e
 ·exact fun f=>(h.fd k f).2 e
 ·exact(h.od k e).2.2.2
section
variable{w w':World}{F F':Nat->Prop}{c k q:Nat}{G:GS}{m:CM}{K:Value->World->Prop}{A B:Option Addr}{n cx cp e ce:Nat}{l:List HT}{x:nW}{sz:HT->Option Nat}{sm:Option Nat}
theorem Seen.mono(h:Seen w F q x sz)(hF:∀j,F j->F' j):Seen w F' q x sz:=by
 obtain⟨A,n,cp,B,e,ce,sm,h⟩:=h;refine⟨A,n,cp,B,e,ce,sm,h.top,h.mg,h.bl,fun a ha=>hF _ (h.fA a ha),fun a ha=>hF _ (h.fB a ha),?_,hF _ h.fq⟩;rcases h.sz with g|⟨s,g1,g2,g3⟩
 ·exact .inl g
 ·exact .inr ⟨s,g1,hF _ g2,g3⟩
abbrev KF:Array Value:=cD ⟨dU,0,[],[]⟩ none 0 0 none 0 0
theorem BG(D:DG)(h:HT)(l:List HT):c9 D h l=if h∈ids D then 7 else if l.length=0 then 9 else if(dd l).length≠l.length then 9 else mD D l:=by
 unfold c9 mD;by_cases h1:h∈ids D
 ·rw [if_pos h1,if_pos h1]
 ·rw [if_neg h1,if_neg h1]
  by_cases h2:l.length=0
  ·rw [if_pos h2,if_pos (.inl (by have:=oZ l;omega))]
  ·have hl:l≠ []:=fun e=>h2 (by rw [e];rfl)
   rw [if_neg h2];by_cases h3:(dd l).length≠l.length
   ·rw [if_pos h3,if_pos (.inr h3)]
   ·have a:¬((dd l).length=0\/(dd l).length≠l.length):=by omega
    have hc:(∃p∈dd l,p∉ids D)↔∃p∈l,p∉ids D:=⟨fun⟨p,hp,hq⟩=>⟨p,cZ.1 hp,hq⟩,fun⟨p,hp,hq⟩=>⟨p,cZ.2 hp,hq⟩⟩;rw [if_neg h3,if_neg a,if_neg hl];by_cases h4:∃p∈l,p∉ids D
    ·rw [if_pos h4,if_pos (hc.2 h4)]
    ·rw [if_neg h4,if_neg (fun e=>h4 (hc.1 e))]
set_option maxHeartbeats 2000000 in
theorem EA(h:CV w F c k G m)(hT:rQ w)(IL:¬m.SX (Tryz.jf.g 1))(hD:G.D.length<=49)(nP:k<=1000)(Fc:HS w A n l)(hn:n<=5000)(id:HT)
 (hE:c9 G.D id l≠0->∀w',Kept Nil w w'->K (.tuple #[.agg KF,.int .i64 (c9 G.D id l)]) w')
 (hO:c9 G.D id l=0->∀w' F' m' A n c1 B e c2,CV w' F' c k (cO k G id l) m'->m'.x=m.x->Kept (m.own c) w w'->(∀j,m'.own c j->m.own c j\/w.heap.size<=j)->(∀j,F' j->F j\/w.heap.size<=j)->
   bQ w' w.heap.size A n c1 (cG k G (bR G l) l).merge->Row w' w.heap.size gJ 1 B e c2 (qM (cG k G (bR G l) l).dJ)->(∀j,a8 A=some j->a8 B≠some j)->(∀j,a8 A=some j\/a8 B=some j->¬m'.own c j/\¬F' j)->
   K (.tuple #[.agg (cD (cG k G (bR G l) l) A n c1 B e c2),.int .i64 0]) w'):
 bj prog dt.id #[.pointer (some ⟨c,0,none⟩),.agg id.1,.slice A n cx] w K:=by
 have hlen:=Fc.len;refine dt.of ?_;unfold dt.W;intro w1 w2;have k1:Kept Nil w w1:=(Kept.refl _ _).alloc _;have xc:w1.heap[w.heap.size]? =some (.cells id.1 aj (0,0)):=aJ w _;have k2:Kept Nil w1 w2:=(Kept.refl _ _).alloc _;have iT:w2.heap[w1.heap.size]? =some (.cells zC bg (0,0)):=aJ w1 _;clear_value w2;have AH:=k2.heap xc (fun h=>h);have mY:=k1.tt k2;have s1:=k1.size;have l1:=aS xc;have l2:=aS iT;clear_value w1;have zs:(zC:Array Value)=KF:=rfl;have bad:∀ {u:World} {r:Int},Kept Nil w2 u->c9 G.D id l=r->r≠0->(zC.size=35/\(∀n∈zC.toList,n.oneCell'=true)/\∀o,o<35->Wr u ((⟨w1.heap.size,0,none⟩:Addr).add o))/\
  let p:=setCells u (⟨w1.heap.size,0,none⟩:Addr) zC.toList 0;∃q:Array Value,(q.size=35/\Cells p (⟨w1.heap.size,0,none⟩:Addr) q)/\K (.tuple #[.agg q,.int .i64 r]) p:=fun {u r} ku hr h0=>by
  obtain⟨t1,t2,t3⟩:=dN (ku.heap iT (fun h=>h)) (cs:=zC) rfl;refine⟨⟨rfl,by rw [zs];exact dI _ _ _ _ _ _ _,fun j hj=>t1 j hj⟩,?_⟩;refine⟨_,⟨rfl,Cells.bC t2⟩,?_⟩;have:=hE (by rw [hr];exact h0) _ ((mY.tt ku).trans t3 (fun j hj e=>by omega));rw [hr]at this;exact this
 have iZ:=BG G.D id l;refine oN (h.same mY) ⟨true,rfl,Split.no rfl ?_⟩;intro w3;have k3:Kept Nil w2 w3:=(Kept.refl _ _).drew;clear_value w3;have nM:=mY.tt k3;have h3:=h.same nM;refine⟨_,h3.c2,id.1,⟨id.2.1,Cells.bC (k3.heap AH (fun h=>h))⟩,_,h3.look id,?_⟩;by_cases hid:id∈ids G.D
 ·rw [if_pos hid]at iZ
  exact Split.yes (by rw [if_pos hid];rfl) (bad k3 iZ (by decide))
 rw [if_neg hid]at iZ;refine Split.no (by rw [if_neg hid];rfl) ?_;by_cases Em:n=0
 ·rw [if_pos (by omega)]at iZ
  exact Split.yes (by subst Em;rfl) (bad k3 iZ (by decide))
 rw [if_neg (by omega)]at iZ;refine Split.no (by simpa using (by omega:¬(n:Int)=0)) ?_;refine iw (Fc.same nM) (by omega) fun A4 c4 w4 jn k4=>⟨A4,_,c4,rfl,?_⟩;have pF:=k3.tt k4;have qS:=nM.tt k4;by_cases Eh:(dd l).length≠l.length
 ·rw [if_pos Eh]at iZ
  exact Split.yes (by simp only [bne_iff_ne,ne_eq];omega) (bad pF iZ (by decide))
 rw [if_neg Eh]at iZ;refine Split.no (by simp only [bne_eq_false_iff_eq];omega) ?_;refine xj (h.same qS) (Fc.same qS) (by omega) fun w5 k5=>⟨_,_,rfl,?_⟩;have Cu:=pF.tt k5;have sG:=qS.tt k5;generalize lY:(if mD G.D l=0 then bR G l else dU)=s;intro w6;have k6:Kept Nil w5 w6:=(Kept.refl _ _).alloc _;have pv:w6.heap[w5.heap.size]? =some (.cells dU.1 aj (0,0)):=aJ w5 _;clear_value w6;obtain⟨t1,t2,t3⟩:=jb s pv rfl;refine⟨t1,?_⟩;intro w7
 replace t2:w7.heap[w5.heap.size]? =some (.cells s.1 aj (0,0)):=t2
 replace t3:Kept (· =w5.heap.size) w6 w7:=t3
 clear_value w7;have D7:Kept Nil w5 w7:=k6.trans t3 (fun j hj e=>by omega);have Ng:=Cu.tt D7;have rr:=sG.tt D7;by_cases hm:mD G.D l≠0
 ·exact Split.yes (by simpa using hm) (bad Ng iZ hm)
 have hm:mD G.D l=0:=by omega
 rw [if_pos hm]at lY;rw [hm]at iZ⊢;refine Split.no rfl ⟨s.1,⟨s.2.1,Cells.bC t2⟩,?_⟩;obtain⟨fg,fz⟩:=DU hm;have CC:s∈l:=by rw [<-lY];exact fw fg
 obtain⟨ch,oL⟩:=cY.ex h.eM.jt s;have h7:=h.same rr;refine Ba I5 (Nat.le_trans (Gi G.D s fz) hD) h7 (hT.same rr) (by omega) nP (fz s CC) oL fz (Fc.same rr) hn fun v q B sm bb ov Am nm cp E e ce g1 gO g3 g4 g5 g6 g7=>⟨some ⟨q,0,none⟩,rfl,?_⟩;have Au:=rr.tt g7;have Gy:=Ng.tt g7;have k5v:=D7.tt g7;have s07:=rr.size;have s0v:=Au.size;intro w8;have k8:Kept Nil v w8:=(Kept.refl _ _).drew;clear_value w8;have wh:=Au.tt k8;have h8:=h.same wh;have g18:=g1.same k8;have s8:=k8.size;refine⟨_,h8.c1,id.1,⟨id.2.1,Cells.bC ((Gy.tt k8).heap AH (fun h=>h))⟩,s.1,⟨s.2.1,Cells.bC (((g7.tt k8)).heap t2 (fun h=>h))⟩,?_⟩;refine Ac h8.X (by omega) (hT.same wh) IL (Fc.same wh) hn id s fun u S' FX' hX9 k9 hS9 Qx=>⟨_,rfl,?_⟩;have eX:mK G.D id s l=(cO k G id l).D/\mJ G.D G.P id s l=(cO k G id l).P:=by rw [<-lY];exact⟨Ii.symm,Ij.symm⟩
 rw [eX.1,eX.2]at hX9;obtain⟨mx,X9,hmx⟩:=hX9;have vh:∀j,m.own c j\/F j->j<w.heap.size:=h.low;have g1q:q<v.heap.size:=aS g1.top;have g1s:sm<v.heap.size:=g1.ov.lt;have uA:∀j,w.heap.size<=j->¬m.SX j:=fun j hj e=>by have:=vh j (.inl (.inl e));omega
 have g19:=g18.aD k9 (uA q (by omega)) (uA sm (by omega)) (fun j hj _=>uA j (by have:=g6.1;omega)) (fun a ha=>uA _ (by have:=g5 a ha;omega));have s9:=k9.size;have JD:Kept m.SX w2 u:=((Gy.tt k8).mono fun _ _ h=>h.elim).tt k9;have ncm:¬m.SX c/\¬m.SX m.mb:=⟨fun e=>(h.so _ e).1 rfl,fun e=>(h.so _ e).2 rfl⟩;have QV:u.heap[c]? =_:=k9.heap h8.top ncm.1;have abV:=h8.all.aD k9 ncm.2;intro w10;have nK:Kept Nil u w10:=(Kept.refl _ _).drew;clear_value w10;have QX:=nK.heap QV (fun h=>h);have JP:=(JD.trans nK (fun _ _ h=>h.elim)).heap AH (fun e=>uA _ (Nat.le_refl _) e);have VD:=abV.aD nK (fun h=>h);obtain⟨vK,Zo,VC,IA⟩:=VD.put Gh id (.pointer (some ⟨q,0,none⟩));refine⟨some m.mb,by rw [a7,ay QX];rfl,id.1,⟨id.2.1,Cells.bC JP⟩,vK,Zo,Is.mk rfl ?_⟩;have s10:=nK.size;have s11:=IA.size;have lmb:m.mb<w.heap.size:=vh _ (.inl (.inr (.inr rfl)));have lc:c<w.heap.size:=vh _ (.inl (.inr (.inl rfl)));have Jw:Kept (· =m.mb) u vK:=(nK.mono fun _ _ h=>h.elim).tt IA;have Kz:=g19.aD Jw (by omega) (by omega) (fun j hj _ e=>by have:=g6.1;omega) (fun a ha e=>by have:=g5 a ha;omega);have abR:=Row.bo Kz.bl;have R1:Kept (m.own c) w vK:=((wh.mono (S':=m.own c) fun _ _ h=>h.elim).trans k9 (fun _ _ h=>.inl h)).trans Jw (fun _ _ h=>.inr (.inr h));refine⟨_,⟨aW ..,Kz.gm⟩,?_⟩;have xK:=g1.mg.len;have hnm:nm<=49:=by
  have ID:(cG k G s l).merge=cf G s l:=rfl;have xI:(cf G s l).length<=49:=by
   have:=cI (m:=ids G.D) (jz G s l).nodup (fun y hy=>by
    rcases(ig.1 hy).1 with h|h
    ·exact h.1
    ·exact fz y h)
   rw [fc]at this;omega
  rw [ID]at xK;omega
 have WB:e<=49:=by
  have h1:=(tq k G s l).1;have h2:=(Row.bo g1.bl).len;have ID:(cG k G s l).merge=cf G s l:=rfl;have YM:(cG k G s l).dJ=(dv k G s l).bl:=rfl;rw [YM]at h2;rw [ID]at xK;omega
 refine nE (cG k G s l) Kz.mg abR (by omega) (by omega) fun A' c1 B' c2 lQ tJ FO Tf xD=>⟨_,rfl,?_⟩;have RW:Kept (m.own c) w2 lQ:=((JD.mono (S':=m.own c) fun _ _ h=>.inl h).trans Jw (fun _ _ h=>.inr (.inr h))).trans xD (fun _ _ h=>h.elim);have fr2:∀j,w.heap.size<=j->¬m.own c j:=fun j hj e=>by have:=vh j (.inl e);omega
 have Ze:=RW.heap iT (fr2 _ (by omega));obtain⟨f1,f2,f3⟩:=dN Ze (cs:=cD (cG k G s l) A' nm c1 B' e c2) (by rw [aW];rfl);refine⟨⟨aW ..,dI _ _ _ _ _ _ _,fun j hj=>f1 j (by rw [aW];exact hj)⟩,?_⟩;intro lN
 replace f2:lN.heap[w1.heap.size]? =_:=f2
 replace f3:Kept (· =w1.heap.size) lQ lN:=f3
 clear_value lN;refine⟨_,⟨aW ..,Cells.bC f2⟩,?_⟩;have ui:Kept (· =w1.heap.size) vK lN:=(xD.mono fun _ _ h=>h.elim).tt f3;have s13:=ui.size;have lw1:w1.heap.size<w7.heap.size:=Nat.lt_of_lt_of_le l2 Ng.size;rw [lY]at hO;have yR:=iL (k:=k) (G:=G) (h:=id) (ps:=l) iZ;have TL:ids (cO k G id l).D=ids G.D++ [id]:=by rw [yR];simp [ids]
 let F':Nat->Prop:=fun j=>F j\/(w7.heap.size<=j/\j<v.heap.size)\/FX' j
 let m':CM:=⟨m.x,m.mb,mx.jL m.x,FX',fun y=>if y=id then q else m.q y,fun y=>if y=id then ov else m.sz y⟩
 have Qm:∀j,mx.jL m.x j->m.SX j\/w8.heap.size<=j:=fun j e=>hS9 j (hmx j e);have XL:∀j,m'.own c j->m.own c j\/w8.heap.size<=j:=fun j e=>by
  rcases e with e|e|e
  ·exact(Qm j e).imp (fun e=>.inl e) (fun e=>e)
  ·exact .inl (.inr (.inl e))
  ·exact .inl (.inr (.inr e))
 have ud:∀j,F' j->F j\/(w7.heap.size<=j/\j<u.heap.size):=fun j e=>by
  rcases e with e|e|e
  ·exact .inl e
  ·exact .inr ⟨e.1,by omega⟩
  ·rcases Qx j e with e'|e'
   ·exact .inl (h.fx j e')
   ·exact .inr ⟨by omega,X9.low j (.inr e)⟩
 have K5:∀j,mx.jL m.x j->j<u.heap.size:=fun j e=>X9.low j (.inl e);have Yc:Kept (fun j=>j=m.mb\/j=w1.heap.size) u lN:=(Jw.mono fun _ _ h=>.inl h).trans ui (fun _ _ h=>.inr h);have n1:∀j,F' j->¬(j=m.mb\/j=w1.heap.size):=fun j e e'=>by
  rcases e' with e'|e'
  ·rcases ud j e with e|e
   ·exact h.fo j e (.inr (.inr e'))
   ·omega
  ·rcases ud j e with e|e
   ·have:=vh j (.inr e);omega
   ·omega
 have n2:∀j,mx.jL m.x j->¬(j=m.mb\/j=w1.heap.size):=fun j e e'=>by
  rcases e' with e'|e'
  ·rcases Qm j e with e|e
   ·exact(h.so j e).2 e'
   ·omega
  ·rcases Qm j e with e|e
   ·have:=vh j (.inl (.inl e));omega
   ·have:=k8.size;have:=g7.size;omega
 have Ky:lM lN B q sm bb (cG k G s l) ov Am nm cp E e ce:=Kz.aD ui (by omega) (by omega) (fun j hj _ e=>by have:=g6.1;omega) (fun a ha e=>by have:=g5 a ha;omega);have C':CV lN F' c k (cO k G id l) m':=by
  refine⟨?_,?_,?_,?_,h.eM.add id l,?_,fun j e=>.inr (.inr e),?_,?_,h.ne,?_⟩
  ·exact Yc.heap QV (fun e=>by rcases e with e|e;exact h.ne e;omega)
  ·exact⟨mx,X9.aD Yc n2 (fun j e=>n1 j (.inr (.inr e))),fun _ e=>e⟩
  ·have:=VC.aD ui (by show ¬m.mb=_;omega)
   have ef:(fun h=>if h∈ids (cO k G id l).D then some (Value.pointer (some ⟨m'.q h,0,none⟩))else none)=fun x=>if x=id then some (Value.pointer (some ⟨q,0,none⟩))else if x∈ids G.D then some (.pointer (some ⟨m.q x,0,none⟩))else none:=by
    funext y
    rw [TL];by_cases hy:y=id
    ·simp [hy,m']
    ·by_cases hy2:y∈ids G.D
     ·simp [hy,hy2,m']
     ·simp [hy,hy2]
   rw [ef];exact this
  ·intro y hy
   rw [TL,List.mem_append,List.mem_singleton]at hy;by_cases he:y=id
   ·subst he
    rw [(kr h.eM iZ).1,lY];have e1:m'.q y=q:=if_pos rfl;have e2:m'.sz y=ov:=if_pos rfl;rw [e1,e2];refine⟨Am,nm,cp,E,e,ce,some sm,Ky.top,Ky.mg,Row.bo Ky.bl,fun a ha=>.inr (.inl ⟨g5 a ha,?_⟩),fun a ha=>.inr (.inl ?_),.inr ⟨sm,rfl,.inr (.inl ⟨g4,g1s⟩),Ky.ov⟩,.inr (.inl ⟨g3,g1q⟩)⟩
    ·have:=(g1.mA a ha).1
     have:=g6.2;omega
    ·subst ha
     obtain⟨q1,cur,q2⟩:=Row.bC g1.bl (k:=a.block) rfl;have:=aS q2;have:=g6.1;exact⟨by omega,this |>fun _=>aS q2⟩
   ·have hy:y∈ids G.D:=hy.elim (fun e=>e) (fun e=>absurd e he)
    rw [(iq h.eM hy).1];have e1:m'.q y=m.q y:=if_neg he;have e2:m'.sz y=m.sz y:=if_neg he;rw [e1,e2];exact(((h8.seen y hy).aD k9 (fun j e e'=>h.fo j e (.inl e'))).aD Yc (fun j e=>n1 j (.inl e))).mono (fun j e=>.inl e)
  ·have aav:cY G.D G.P (bR G l) ch:=by rw [lY];exact oL
   rw [<-lY]at gO;exact SZ.add h.Z h.eM iZ aav gO
  ·intro j e e'
   rcases e' with e'|e'|e'
   ·rcases e with e|e|e
    ·rcases Qm j e' with e'|e'
     ·exact h.fo j e (.inl e')
     ·have:=vh j (.inr e);omega
    ·rcases Qm j e' with e'|e'
     ·have:=vh j (.inl (.inl e'));omega
     ·omega
    ·exact XV.off X9 j e' e
   ·rcases ud j e with e|e
    ·exact h.fo j e (.inr (.inl e'))
    ·have e':j=c:=e';omega
   ·rcases ud j e with e|e
    ·exact h.fo j e (.inr (.inr e'))
    ·have e':j=m.mb:=e';omega
  ·intro j e
   rcases Qm j e with e'|e'
   ·exact h.so j e'
   ·exact⟨by omega,by show j≠m.mb;omega⟩
  ·rintro j (e|e)
   ·rcases e with e|e|e
    ·have:=K5 j e;omega
    ·have e:j=c:=e;omega
    ·have e:j=m.mb:=e;omega
   ·rcases ud j e with e|e
    ·have:=vh j (.inr e);omega
    ·omega
 have Ev:∀j,a8 A'=some j->vK.heap.size<=j:=fun j hj=>(Row.bC tJ hj).1;have Pm:∀j,a8 B'=some j->vK.heap.size<=j:=fun j hj=>(Row.bC FO hj).1;have Vm:∀j,vK.heap.size<=j->¬m'.own c j/\¬F' j:=fun j hj=>⟨fun e=>by
  rcases e with e|e|e
  ·have:=K5 j e;omega
  ·have e:j=c:=e;omega
  ·have e:j=m.mb:=e;omega,fun e=>by
  rcases ud j e with e|e
  ·have:=vh j (.inr e);omega
  ·omega⟩
 exact hO iZ lN F' m' A' nm c1 B' e c2 C' rfl ((R1.trans ui (fun j hj e=>by omega))) (fun j e=>(XL j e).imp (fun h=>h) (fun h=>by omega)) (fun j e=>(ud j e).imp (fun h=>h) (fun h=>by omega))
  (Row.base (Row.aD tJ f3 (fun j hj e=>by have:=Ev j hj;omega)) (fun j hj=>by have:=Ev j hj;omega)) (Row.base (Row.aD FO f3 (fun j hj e=>by have:=Pm j hj;omega)) (fun j hj=>by have:=Pm j hj;omega)) Tf
  (fun j hj=>Vm j (hj.elim (Ev j) (Pm j)))
end
section
variable{k:Nat}{G:GS}
theorem wx(H:gV k G){h:HT}(hm:h∈ids G.D):(G.gm h).merge.length<=G.D.length/\(G.gm h).dJ.length=(G.gm h).merge.length:=by
 obtain⟨l,c⟩:=cY.ex H.jt h;rcases c.inv H.W H.jt hm with⟨_,nd,h0,rfl⟩|⟨t,r',_,pq,_,_⟩
 ·obtain⟨q1,_⟩:=H.root nd h0
  rw [q1];simp
 ·obtain⟨_,_,q3,q4,q5⟩:=H.up t h pq
  refine⟨?_,q3⟩;have:=cI (m:=ids G.D) q4 (fun y hy=>(((q5 y).1 hy).1.mem H.W).1)
  rwa [fc]at this
theorem wA:∀(m:List HT) (b:List Bool),(dG m b).length<=m.length
 | [],_=>by simp [dG]
 |_::_,[]=>by simp [dG]
 |h::l,b::m=>by
  have:=wA l m;unfold dG;split
  ·simp only [List.length_cons];omega
  ·simp only [List.length_cons];omega
end
section
variable{w w' jk:World}{B ob bx:Nat}{av av':Nat->Prop}{acc:List HT}
end
section
variable{w w' v:World}{F:Nat->Prop}{c k:Nat}{G:GS}{m:CM}{K:Value->World->Prop}
end
section
variable{w w':World}{F:Nat->Prop}{c k:Nat}{G:GS}{m:CM}{K:Value->World->Prop}
theorem qW(h:gV k G){a:HT}(ha:a∈ids G.D):(G.world a).length<=G.D.length:=by
 have:=cI (m:=ids G.D) (h.wd a ha).1 (fun b hb=>(((h.wd a ha).2.1 b hb).mem h.W).1)
 rwa [fc]at this
end
structure GN(w v:World)(id:HT)(X M Q:Option Nat)(pt:Bool):Prop where
 kp:Kept Nil w v
 x:∀x,X=some x->∃S,BI v S (fun _=>False) x [⟨id,[]⟩] [-1]/\∀j,S j->w.heap.size<=j/\j<v.heap.size/\M≠some j/\Q≠some j
 m:∀m,M=some m->w.heap.size<=m/\fj v m (fun y=>if pt=true/\y=id then Q.map fun q=>.pointer (some ⟨q,0,none⟩)else none)
 q:∀q,Q=some q->w.heap.size<=q/\v.heap[q]? =some (.cells zS dH (0,0))
 ne:∀m q,M=some m->Q=some q->m≠q
section
variable{w w' v u:World}{F:Nat->Prop}{c k:Nat}{G:GS}{m:CM}{K:Value->World->Prop}{id:HT}{X M Q:Option Nat}{pt:Bool}
theorem GN.Ih(h:GN w v id X none Q false):GN w (v.alloc (.map #[] 0)) id X (some v.heap.size) Q false:=by
 have k1:Kept Nil v (v.alloc (.map #[] 0)):=(Kept.refl _ _).alloc _;have hs:=k1.size;have hm:fj (v.alloc (.map #[] 0)) v.heap.size (fun _=>none):=fj.new v;refine⟨h.kp.tt k1,fun x hx=>?_,fun m mc=>?_,fun q hq=>?_,fun m q mc hq=>?_⟩
 ·obtain⟨S,h1,h2⟩:=h.x x hx
  exact⟨S,h1.same k1,fun j e=>by have:=h2 j e;exact⟨this.1,by omega,fun e=>by cases e;omega,this.2.2.2⟩⟩
 ·cases mc
  exact⟨h.kp.size,by simpa using hm⟩
 ·exact⟨(h.q q hq).1,k1.heap (h.q q hq).2 (fun h=>h)⟩
 ·cases mc
  have:=aS (h.q q hq).2;omega
theorem GN.Ig(h:GN w v id X M none false):GN w (v.alloc (.cells zS dH)) id X M (some v.heap.size) false:=by
 have k1:Kept Nil v (v.alloc (.cells zS dH)):=(Kept.refl _ _).alloc _;have hs:=k1.size;refine⟨h.kp.tt k1,fun x hx=>?_,fun m mc=>?_,fun q hq=>?_,fun m q mc hq=>?_⟩
 ·obtain⟨S,h1,h2⟩:=h.x x hx
  exact⟨S,h1.same k1,fun j e=>by have:=h2 j e;exact⟨this.1,by omega,this.2.2.1,fun e=>by cases e;omega⟩⟩
 ·have:=h.m m mc
  refine⟨this.1,?_⟩;have h2:=this.2.same k1;simpa using h2
 ·cases hq
  exact⟨h.kp.size,aJ v _⟩
 ·cases hq
  have:=(h.m m mc).2.lt;omega
theorem GN.BE(h:GN w v id none M Q pt){x:Nat}{S:Nat->Prop}(hX:BI u S (fun _=>False) x [⟨id,[]⟩] [-1])(hS:∀j,S j->v.heap.size<=j/\j<u.heap.size)(k1:Kept Nil v u):GN w u id (some x) M Q pt:=by
 have hs:=h.kp.size;refine⟨h.kp.tt k1,fun x' hx=>?_,fun m mc=>⟨(h.m m mc).1,(h.m m mc).2.same k1⟩,fun q hq=>⟨(h.q q hq).1,k1.heap (h.q q hq).2 (fun h=>h)⟩,h.ne⟩;cases hx;refine⟨S,hX,fun j e=>by
  have:=hS j e;exact⟨by omega,this.2,fun e=>by have:=(h.m j e).2.lt;omega,fun e=>by have:=aS (h.q j e).2;omega⟩⟩
theorem GN.put{mm q:Nat}(h:GN w v id X (some mm) (some q) false):∃u,(Instr.mapUpdate eB (.map (some mm)) (.agg id.1) (.pointer (some ⟨q,0,none⟩))).run prog v=.ok () u/\GN w u id X (some mm) (some q) true:=by
 obtain⟨h1,h2⟩:=h.m mm rfl;obtain⟨u,g1,g2,g3⟩:=h2.put Gh id (.pointer (some ⟨q,0,none⟩));have hs:=g3.size;refine⟨u,g1,h.kp.trans g3 (fun j hj e=>by omega),fun x hx=>?_,fun m mc=>?_,fun q' hq=>?_,h.ne⟩
 ·obtain⟨S,q1,q2⟩:=h.x x hx
  exact⟨S,q1.aD g3 (fun j e e'=>(q2 j e).2.2.1 (by rw [e'])) (fun _ h=>h.elim),fun j e=>by have:=q2 j e;exact⟨this.1,by omega,this.2.2⟩⟩
 ·cases mc
  refine⟨h1,?_⟩;have ef:(fun y=>if true=true/\y=id then(some q).map (fun q=>Value.pointer (some ⟨q,0,none⟩))else none)=fun x=>if x=id then some (.pointer (some ⟨q,0,none⟩))else if false=true/\x=id then(some q).map (fun q=>Value.pointer (some ⟨q,0,none⟩))else none:=by
   funext y
   by_cases hy:y=id<;>simp [hy]
  rw [ef];exact g2
 ·have:=h.q q' hq
  exact⟨this.1,g3.heap this.2 (fun e=>h.ne mm q' rfl hq e.symm)⟩
theorem GN.fin{x mm q:Nat}(h:GN w v id (some x) (some mm) (some q) true)(k:Nat):∃m,CV (v.alloc (.cells #[.int .i64 (k:Int),.pointer (some ⟨x,0,none⟩),.map (some mm)] gu)) (· =q) v.heap.size k (cM id) m/\m.x=x/\(∀j,m.own v.heap.size j->w.heap.size<=j)/\w.heap.size<=q:=by
 have k1:Kept Nil v (v.alloc (.cells #[.int .i64 (k:Int),.pointer (some ⟨x,0,none⟩),.map (some mm)] gu)):=(Kept.refl _ _).alloc _;have ht:=aJ v (.cells #[.int .i64 (k:Int),.pointer (some ⟨x,0,none⟩),.map (some mm)] gu);generalize v.alloc (.cells #[.int .i64 (k:Int),.pointer (some ⟨x,0,none⟩),.map (some mm)] gu)=u at k1 ht⊢;obtain⟨S,h1,h2⟩:=h.x x rfl;obtain⟨h3,h4⟩:=h.m mm rfl;obtain⟨h5,h6⟩:=h.q q rfl;have fg:=h.ne mm q rfl rfl;have lm:=h4.lt;have lq:=aS h6;have lt:=aS ht;have hs:=k1.size;have hw:=h.kp.size;refine⟨⟨x,mm,S,fun _=>False,fun _=>q,fun _ _=>none⟩,⟨ht,h1.same k1,?_,?_,jo k id,SZ.root id,fun _ h=>h.elim,?_,?_,?_,?_⟩,rfl,?_,h5⟩
 ·have:=h4.same k1
  have ef:(fun h=>if h∈ids (cM id).D then some (Value.pointer (some ⟨q,0,none⟩))else none)=fun y=>if true=true/\y=id then(some q).map (fun q=>Value.pointer (some ⟨q,0,none⟩))else none:=by
   funext y
   by_cases hy:y=id
   ·simp [hy,cM,ids]
   ·simp [hy,cM,ids]
  show fj u mm (fun h=>if h∈ids (cM id).D then some (Value.pointer (some ⟨q,0,none⟩))else none)
  rw [ef];exact this
 ·intro y hy
  have:y=id:=by simpa [cM,ids]using hy
  subst this;obtain⟨q1,_⟩:=(jo k y).root ⟨y,[]⟩ rfl
  replace q1:(cM y).gm y=_:=q1
  rw [q1];exact⟨none,0,0,none,0,0,none,k1.heap h6 (fun h=>h),HS.nil _ _,⟨rfl,fun i b hi=>by simp at hi⟩,fun a ha=>(by cases ha),fun a ha=>(by cases ha),.inl ⟨rfl,fun _=>rfl⟩,rfl⟩
 ·rintro j rfl e
  rcases e with e|e|e
  ·exact(h2 _ e).2.2.2 rfl
  ·have e:j=v.heap.size:=e;omega
  ·exact fg e.symm
 ·intro j e
  have:=h2 j e;exact⟨by omega,fun e=>this.2.2.1 (by rw [e])⟩
 ·show v.heap.size≠mm;omega
 ·rintro j (e|e)
  ·rcases e with e|e|e
   ·have:=h2 j e;omega
   ·have e:j=v.heap.size:=e;omega
   ·have e:j=mm:=e;omega
  ·have e:j=q:=e;omega
 ·intro j e
  rcases e with e|e|e
  ·have:=h2 j e;omega
  ·have e:j=v.heap.size:=e;omega
  ·have e:j=mm:=e;omega
theorem gq(id:HT){k:Nat}(hk:k<=100)(hK:∀w' c q m,CV w' (· =q) c k (cM id) m->(∀j,m.own c j->w.heap.size<=j)->w.heap.size<=q->Kept Nil w w'->K (.tuple #[.pointer (some ⟨c,0,none⟩),.int .i64 0]) w'):
 bj prog gq.id #[.int .i64 (k:Int),.agg id.1] w K:=by
 refine gq.of ?_;unfold gq.W;intro w1;have k1:Kept Nil w w1:=(Kept.refl _ _).alloc _;have xK:w1.heap[w.heap.size]? =some (.cells id.1 aj (0,0)):=aJ w _;clear_value w1;refine Split.no (decide_eq_false (by omega)) (Split.no (decide_eq_false (by omega)) ?_);intro w2;have k2:Kept Nil w1 w2:=(Kept.refl _ _).drew;clear_value w2;have lS:=k2.heap xK (fun h=>h);have mY:=k1.tt k2;have s02:=mY.size;have N0:GN w2 w2 id none none none false:=⟨Kept.refl _ _,fun _ h=>(by cases h),fun _ h=>(by cases h),fun _ h=>(by cases h),fun _ _ h=>(by cases h)⟩;have bx:∀ {v:World},Kept Nil w2 v->∃cs:Array Value,(.agg id.1:Value)=.agg cs/\cs.size=32/\Cells v ⟨w.heap.size,0,none⟩ cs:=fun kv=>⟨id.1,rfl,id.2.1,Cells.bC (kv.heap lS (fun h=>h))⟩;have fin:∀ {v:World} {x mm q:Nat},GN w2 v id (some x) (some mm) (some q) true->let p:=v.alloc (.cells #[.int .i64 (k:Int),.pointer (some ⟨x,0,none⟩),.map (some mm)] gu);K (.tuple #[.pointer (some (⟨v.heap.size,0,none⟩:Addr)),.int .i64 0]) p:=fun {v x mm q} N=>by
  obtain⟨m,h1,_,h2,h3⟩:=N.fin k;exact hK _ _ q m h1 (fun j e=>by have:=h2 j e;omega) (by omega) ((mY.tt N.kp).alloc _)
 refine⟨id.1,⟨id.2.1,Cells.bC lS⟩,id.1,⟨id.2.1,Cells.bC lS⟩,?_,?_,?_⟩
 ·refine ie id fun v x hX kv=>⟨_,rfl,?_⟩
  have N1:=N0.BE hX (fun j e=>e) kv;refine⟨bx N1.kp,⟨?_,?_⟩⟩
  ·have N2:=N1.Ih
   have N3:=N2.Ig;obtain⟨u,hu,N4⟩:=N3.put;exact⟨bx N2.kp,bx N3.kp,u,hu,fin N4⟩
  ·have N2:=N1.Ig
   have N3:=N2.Ih;obtain⟨u,hu,N4⟩:=N3.put;exact⟨bx N2.kp,bx N3.kp,u,hu,fin N4⟩
 ·have N1:=N0.Ih
  refine⟨bx N1.kp,bx N1.kp,?_,?_⟩
  ·refine ie id fun v x hX kv=>⟨_,rfl,?_⟩
   have N2:=N1.BE hX (fun j e=>e) kv;have N3:=N2.Ig;obtain⟨u,hu,N4⟩:=N3.put;exact⟨bx N2.kp,bx N3.kp,u,hu,fin N4⟩
  ·have N2:=N1.Ig
   refine⟨bx N2.kp,bx N2.kp,?_,?_⟩
   ·refine ie id fun v x hX kv=>⟨_,rfl,?_⟩
    have N3:=N2.BE hX (fun j e=>e) kv;obtain⟨u,hu,N4⟩:=N3.put;exact⟨bx N3.kp,u,hu,fin N4⟩
   ·obtain⟨u,hu,N3⟩:=N2.put
    refine⟨u,hu,bx N3.kp,?_⟩;refine ie id fun v x hX kv=>⟨_,rfl,?_⟩;exact fin (N3.BE hX (fun j e=>e) kv)
 ·have N1:=N0.Ig
  refine⟨bx N1.kp,bx N1.kp,?_,?_⟩
  ·refine ie id fun v x hX kv=>⟨_,rfl,?_⟩
   have N2:=N1.BE hX (fun j e=>e) kv;have N3:=N2.Ih;obtain⟨u,hu,N4⟩:=N3.put;exact⟨bx N2.kp,bx N3.kp,u,hu,fin N4⟩
  ·have N2:=N1.Ih
   refine⟨bx N2.kp,bx N2.kp,?_,?_⟩
   ·refine ie id fun v x hX kv=>⟨_,rfl,?_⟩
    have N3:=N2.BE hX (fun j e=>e) kv;obtain⟨u,hu,N4⟩:=N3.put;exact⟨bx N3.kp,u,hu,fin N4⟩
   ·obtain⟨u,hu,N3⟩:=N2.put
    refine⟨u,hu,bx N3.kp,?_⟩;refine ie id fun v x hX kv=>⟨_,rfl,?_⟩;exact fin (N3.BE hX (fun j e=>e) kv)
end
end Go.Proofs.YtnboahlopghcjaaGreatDoor
