import Derived.Test.YtnboahlopghcjaaGreatDoorMS
import Derived.Test.YtnboahlopghcjaaGreatDoorMQ
import Derived.Test.YtnboahlopghcjaaGreatDoorMJ
import Derived.Test.YtnboahlopghcjaaGreatDoorMP
open Go.IntKind (i64 u64)
set_option linter.unusedVariables false
namespace Go.Proofs.YtnboahlopghcjaaGreatDoor
open Go.Proofs.Tryz
open Go Go.bT Go.RowKit
theorem H3(D:DG)(s:HT){l:List HT}(hl:∀x∈l,x∈ids D):(sA D s l).length<=D.length:=by
 have:=cQ (m:=ids D) (qx D s l) (fun x hx=>by
  rcases(uL.1 hx).1 with h|h
  ·exact h.1
  ·exact hl x h)
 rwa [fX]at this
theorem Ft{D:DG}{l:List HT}(h:mV D l=0):l≠ []/\∀x∈l,x∈ids D:=by
 unfold mV at h;split at h
 ·cases h
 ·rename_i h0
  split at h
  ·cases h
  ·rename_i h1
   exact⟨h0,fun x hx=>Classical.byContradiction fun e=>h1 ⟨x,hx,e⟩⟩
section
variable{w w':World}{F:Nat->Prop}{c k:Nat}{G:GS}{m:CM}{K:Value->World->Prop}{A:Option Addr}{n cx:Nat}{l:List HT}{s:HT}
theorem mc.gR{q B sm bb cp e ce:Nat}{x:oC}{ov:HT->Option Nat}{E:Option Addr}(h:mc w B q sm bb x ov A n cp E e ce):Cells w ((⟨q,0,none⟩:Addr).add 0) (cF x A n cp E e ce):=by
 intro j u hj;rw [add_zero,a8,ay h.top,Array.getElem?_append_left (by rw [aS];have:=(Array.getElem?_eq_some_iff.1 hj).1;rw [aS]at this;omega)];rw [Nat.zero_add];exact hj
end
theorem XV.off{w:World}{D:DG}{P:List Int}{m:XM}{x:Nat}{F:Nat->Prop}(h:XV w F x D P m):∀k,m.jB x k->¬F k:=fun k e=>by
 obtain⟨bl,c,mb,M,G⟩:=h.G;rcases e with e|e|e|e
 ·exact G.G6 k e
 ·exact fun f=>(h.fd k f).1 e
 ·exact fun f=>(h.fd k f).2 e
 ·exact(h.od k e).2.2.2
section
variable{w w':World}{F F':Nat->Prop}{c k q:Nat}{G:GS}{m:CM}{K:Value->World->Prop}{A B:Option Addr}{n cx cp e ce:Nat}{l:List HT}{x:oC}{sz:HT->Option Nat}{sm:Option Nat}
theorem Seen.mono(h:Seen w F q x sz)(hF:∀j,F j->F' j):Seen w F' q x sz:=by
 obtain⟨A,n,cp,B,e,ce,sm,h⟩:=h;refine⟨A,n,cp,B,e,ce,sm,h.top,h.mg,h.bl,fun a ha=>hF _ (h.fA a ha),fun a ha=>hF _ (h.fB a ha),?_,hF _ h.fq⟩;rcases h.sz with g|⟨s,g1,g2,g3⟩
 ·exact .inl g
 ·exact .inr ⟨s,g1,hF _ g2,g3⟩
abbrev MS:Array Value:=cF ⟨dG,0,[],[]⟩ none 0 0 none 0 0
theorem C6(D:DG)(h:HT)(l:List HT):du D h l=if h∈ids D then 7 else if l.length=0 then 9 else if(dv l).length≠l.length then 9 else mV D l:=by
 unfold du mV;by_cases h1:h∈ids D
 ·rw [if_pos h1,if_pos h1]
 ·rw [if_neg h1,if_neg h1]
  by_cases h2:l.length=0
  ·rw [if_pos h2,if_pos (.inl (by have:=pE l;omega))]
  ·have hl:l≠ []:=fun e=>h2 (by rw [e];rfl)
   rw [if_neg h2];by_cases h3:(dv l).length≠l.length
   ·rw [if_pos h3,if_pos (.inr h3)]
   ·have a:¬((dv l).length=0\/(dv l).length≠l.length):=by omega
    have hc:(∃p∈dv l,p∉ids D)↔∃p∈l,p∉ids D:=⟨fun⟨p,hp,hq⟩=>⟨p,dF.1 hp,hq⟩,fun⟨p,hp,hq⟩=>⟨p,dF.2 hp,hq⟩⟩;rw [if_neg h3,if_neg a,if_neg hl];by_cases h4:∃p∈l,p∉ids D
    ·rw [if_pos h4,if_pos (hc.2 h4)]
    ·rw [if_neg h4,if_neg (fun e=>h4 (hc.1 e))]
set_option maxHeartbeats 2000000 in
theorem Gj(h:CV w F c k G m)(hT:rZ w)(KK:¬m.SX (Tryz.jt.g 1))(hD:G.D.length<=49)(nW:k<=1000)(DZ:HS w A n l)(hn:n<=5000)(id:HT)
 (hE:du G.D id l≠0->∀w',Kept Nil w w'->K (.tuple #[.agg MS,.int .i64 (du G.D id l)]) w')
 (hO:du G.D id l=0->∀w' F' m' A n c1 B e c2,CV w' F' c k (cU k G id l) m'->m'.x=m.x->Kept (m.own c) w w'->(∀j,m'.own c j->m.own c j\/w.heap.size<=j)->(∀j,F' j->F j\/w.heap.size<=j)->
   bL w' w.heap.size A n c1 (cR k G (b9 G l) l).merge->Row w' w.heap.size gh 1 B e c2 (oB (cR k G (b9 G l) l).dR)->(∀j,aW A=some j->aW B≠some j)->(∀j,aW A=some j\/aW B=some j->¬m'.own c j/\¬F' j)->
   K (.tuple #[.agg (cF (cR k G (b9 G l) l) A n c1 B e c2),.int .i64 0]) w'):
 bj prog di.id #[.pointer (some ⟨c,0,none⟩),.agg id.1,.slice A n cx] w K:=by
 have hlen:=DZ.len;refine di.of ?_;unfold di.W;intro w1 w2;have k1:Kept Nil w w1:=(Kept.refl _ _).alloc _;have yc:w1.heap[w.heap.size]? =some (.cells id.1 aj (0,0)):=aH w _;have k2:Kept Nil w1 w2:=(Kept.refl _ _).alloc _;have jj:w2.heap[w1.heap.size]? =some (.cells zC bg (0,0)):=aH w1 _;clear_value w2;have Ci:=k2.heap yc (fun h=>h);have oI:=k1.tt k2;have s1:=k1.size;have l1:=aO yc;have l2:=aO jj;clear_value w1;have zs:(zC:Array Value)=MS:=rfl;have bad:∀ {u:World} {r:Int},Kept Nil w2 u->du G.D id l=r->r≠0->(zC.size=35/\(∀n∈zC.toList,n.oneCell'=true)/\∀o,o<35->Wr u ((⟨w1.heap.size,0,none⟩:Addr).add o))/\
  let p:=setCells u (⟨w1.heap.size,0,none⟩:Addr) zC.toList 0;∃q:Array Value,(q.size=35/\Cells p (⟨w1.heap.size,0,none⟩:Addr) q)/\K (.tuple #[.agg q,.int .i64 r]) p:=fun {u r} ku hr h0=>by
  obtain⟨t1,t2,t3⟩:=dD (ku.heap jj (fun h=>h)) (cs:=zC) rfl;refine⟨⟨rfl,by rw [zs];exact dt _ _ _ _ _ _ _,fun j hj=>t1 j hj⟩,?_⟩;refine⟨_,⟨rfl,Cells.bz t2⟩,?_⟩;have:=hE (by rw [hr];exact h0) _ ((oI.tt ku).trans t3 (fun j hj e=>by omega));rw [hr]at this;exact this
 have jo:=C6 G.D id l;refine mv (h.same oI) ⟨true,rfl,Split.no rfl ?_⟩;intro w3;have k3:Kept Nil w2 w3:=(Kept.refl _ _).drew;clear_value w3;have nV:=oI.tt k3;have h3:=h.same nV;refine⟨_,h3.c2,id.1,⟨id.2.1,Cells.bz (k3.heap Ci (fun h=>h))⟩,_,h3.look id,?_⟩;by_cases hid:id∈ids G.D
 ·rw [if_pos hid]at jo
  exact Split.yes (by rw [if_pos hid];rfl) (bad k3 jo (by decide))
 rw [if_neg hid]at jo;refine Split.no (by rw [if_neg hid];rfl) ?_;by_cases F5:n=0
 ·rw [if_pos (by omega)]at jo
  exact Split.yes (by subst F5;rfl) (bad k3 jo (by decide))
 rw [if_neg (by omega)]at jo;refine Split.no (by simpa using (by omega:¬(n:Int)=0)) ?_;refine iI (DZ.same nV) (by omega) fun A4 c4 w4 jR k4=>⟨A4,_,c4,rfl,?_⟩;have qh:=k3.tt k4;have qi:=nV.tt k4;by_cases FV:(dv l).length≠l.length
 ·rw [if_pos FV]at jo
  exact Split.yes (by simp only [bne_iff_ne,ne_eq];omega) (bad qh jo (by decide))
 rw [if_neg FV]at jo;refine Split.no (by simp only [bne_eq_false_iff_eq];omega) ?_;refine yk (h.same qi) (DZ.same qi) (by omega) fun w5 k5=>⟨_,_,rfl,?_⟩;have wU:=qh.tt k5;have sH:=qi.tt k5;generalize mG:(if mV G.D l=0 then b9 G l else dG)=s;intro w6;have k6:Kept Nil w5 w6:=(Kept.refl _ _).alloc _;have p7:w6.heap[w5.heap.size]? =some (.cells dG.1 aj (0,0)):=aH w5 _;clear_value w6;obtain⟨t1,t2,t3⟩:=jq s p7 rfl;refine⟨t1,?_⟩;intro w7
 replace t2:w7.heap[w5.heap.size]? =some (.cells s.1 aj (0,0)):=t2
 replace t3:Kept (· =w5.heap.size) w6 w7:=t3
 clear_value w7;have zL:Kept Nil w5 w7:=k6.trans t3 (fun j hj e=>by omega);have GQ:=wU.tt zL;have sG:=sH.tt zL;by_cases hm:mV G.D l≠0
 ·exact Split.yes (by simpa using hm) (bad GQ jo hm)
 have hm:mV G.D l=0:=by omega
 rw [if_pos hm]at mG;rw [hm]at jo⊢;refine Split.no rfl ⟨s.1,⟨s.2.1,Cells.bz t2⟩,?_⟩;obtain⟨fD,fN⟩:=Ft hm;have DU:s∈l:=by rw [<-mG];exact kM fD
 obtain⟨ch,oH⟩:=dh.ex h.fG.jX s;have h7:=h.same sG;refine CB K7 (Nat.le_trans (H3 G.D s fN) hD) h7 (hT.same sG) (by omega) nW (fN s DU) oH fN (DZ.same sG) hn fun v q B sm bb ov Am nm cp E e ce g1 gO g3 g4 g5 g6 g7=>⟨some ⟨q,0,none⟩,rfl,?_⟩;have BY:=sG.tt g7;have Iu:=GQ.tt g7;have k5v:=zL.tt g7;have s07:=sG.size;have s0v:=BY.size;intro w8;have k8:Kept Nil v w8:=(Kept.refl _ _).drew;clear_value w8;have wX:=BY.tt k8;have h8:=h.same wX;have g18:=g1.same k8;have s8:=k8.size;refine⟨_,h8.c1,id.1,⟨id.2.1,Cells.bz ((Iu.tt k8).heap Ci (fun h=>h))⟩,s.1,⟨s.2.1,Cells.bz (((g7.tt k8)).heap t2 (fun h=>h))⟩,?_⟩;refine BL h8.X (by omega) (hT.same wX) KK (DZ.same wX) hn id s fun u S' FX' hX9 k9 hS9 O0=>⟨_,rfl,?_⟩;have eX:nu G.D id s l=(cU k G id l).D/\nt G.D G.P id s l=(cU k G id l).P:=by rw [<-mG];exact⟨Km.symm,Kn.symm⟩
 rw [eX.1,eX.2]at hX9;obtain⟨mx,X9,hmx⟩:=hX9;have vQ:∀j,m.own c j\/F j->j<w.heap.size:=h.low;have g1q:q<v.heap.size:=aO g1.top;have g1s:sm<v.heap.size:=g1.ov.lt;have vh:∀j,w.heap.size<=j->¬m.SX j:=fun j hj e=>by have:=vQ j (.inl (.inl e));omega
 have g19:=g18.az k9 (vh q (by omega)) (vh sm (by omega)) (fun j hj _=>vh j (by have:=g6.1;omega)) (fun a ha=>vh _ (by have:=g5 a ha;omega));have s9:=k9.size;have FJ:Kept m.SX w2 u:=((Iu.tt k8).mono fun _ _ h=>h.elim).tt k9;have ncm:¬m.SX c/\¬m.SX m.mb:=⟨fun e=>(h.so _ e).1 rfl,fun e=>(h.so _ e).2 rfl⟩;have TM:u.heap[c]? =_:=k9.heap h8.top ncm.1;have ae9:=h8.all.az k9 ncm.2;intro w10;have me:Kept Nil u w10:=(Kept.refl _ _).drew;clear_value w10;have TO:=me.heap TM (fun h=>h);have L8:=(FJ.trans me (fun _ _ h=>h.elim)).heap Ci (fun e=>vh _ (Nat.le_refl _) e);have YJ:=ae9.az me (fun h=>h);obtain⟨qR,acz,YI,vE⟩:=YJ.put HZ id (.pointer (some ⟨q,0,none⟩));refine⟨some m.mb,by rw [a8,ay TO];rfl,id.1,⟨id.2.1,Cells.bz L8⟩,qR,acz,Is.mk rfl ?_⟩;have s10:=me.size;have s11:=vE.size;have lmb:m.mb<w.heap.size:=vQ _ (.inl (.inr (.inr rfl)));have lc:c<w.heap.size:=vQ _ (.inl (.inr (.inl rfl)));have LH:Kept (· =m.mb) u qR:=(me.mono fun _ _ h=>h.elim).tt vE;have MN:=g19.az LH (by omega) (by omega) (fun j hj _ e=>by have:=g6.1;omega) (fun a ha e=>by have:=g5 a ha;omega);have ae5:=Row.bo MN.bl;have UZ:Kept (m.own c) w qR:=((wX.mono (S':=m.own c) fun _ _ h=>h.elim).trans k9 (fun _ _ h=>.inl h)).trans LH (fun _ _ h=>.inr (.inr h));refine⟨_,⟨aS ..,MN.gR⟩,?_⟩;have yI:=g1.mg.len;have hnm:nm<=49:=by
  have KC:(cR k G s l).merge=cD G s l:=rfl;have yH:(cD G s l).length<=49:=by
   have:=cQ (m:=ids G.D) (kr G s l).nodup (fun y hy=>by
    rcases(iV.1 hy).1 with h|h
    ·exact h.1
    ·exact fN y h)
   rw [fX]at this;omega
  rw [KC]at yI;omega
 have ZH:e<=49:=by
  have h1:=(oJ k G s l).1;have h2:=(Row.bo g1.bl).len;have KC:(cR k G s l).merge=cD G s l:=rfl;have hv2:(cR k G s l).dR=(fF k G s l).bl:=rfl;rw [hv2]at h2;rw [KC]at yI;omega
 refine oy (cR k G s l) MN.mg ae5 (by omega) (by omega) fun A' c1 B' c2 mq uy HD Wc wW=>⟨_,rfl,?_⟩;have UR:Kept (m.own c) w2 mq:=((FJ.mono (S':=m.own c) fun _ _ h=>.inl h).trans LH (fun _ _ h=>.inr (.inr h))).trans wW (fun _ _ h=>h.elim);have fr2:∀j,w.heap.size<=j->¬m.own c j:=fun j hj e=>by have:=vQ j (.inl e);omega
 have acp:=UR.heap jj (fr2 _ (by omega));obtain⟨f1,f2,f3⟩:=dD acp (cs:=cF (cR k G s l) A' nm c1 B' e c2) (by rw [aS];rfl);refine⟨⟨aS ..,dt _ _ _ _ _ _ _,fun j hj=>f1 j (by rw [aS];exact hj)⟩,?_⟩;intro lh
 replace f2:lh.heap[w1.heap.size]? =_:=f2
 replace f3:Kept (· =w1.heap.size) mq lh:=f3
 clear_value lh;refine⟨_,⟨aS ..,Cells.bz f2⟩,?_⟩;have uV:Kept (· =w1.heap.size) qR lh:=(wW.mono fun _ _ h=>h.elim).tt f3;have s13:=uV.size;have lw1:w1.heap.size<w7.heap.size:=Nat.lt_of_lt_of_le l2 GQ.size;rw [mG]at hO;have zW:=kW (k:=k) (G:=G) (h:=id) (ps:=l) jo;have WL:ids (cU k G id l).D=ids G.D++ [id]:=by rw [zW];simp [ids]
 let F':Nat->Prop:=fun j=>F j\/(w7.heap.size<=j/\j<v.heap.size)\/FX' j
 let m':CM:=⟨m.x,m.mb,mx.jB m.x,FX',fun y=>if y=id then q else m.q y,fun y=>if y=id then ov else m.sz y⟩
 have Ta:∀j,mx.jB m.x j->m.SX j\/w8.heap.size<=j:=fun j e=>hS9 j (hmx j e);have aaW:∀j,m'.own c j->m.own c j\/w8.heap.size<=j:=fun j e=>by
  rcases e with e|e|e
  ·exact(Ta j e).imp (fun e=>.inl e) (fun e=>e)
  ·exact .inl (.inr (.inl e))
  ·exact .inl (.inr (.inr e))
 have uQ:∀j,F' j->F j\/(w7.heap.size<=j/\j<u.heap.size):=fun j e=>by
  rcases e with e|e|e
  ·exact .inl e
  ·exact .inr ⟨e.1,by omega⟩
  ·rcases O0 j e with e'|e'
   ·exact .inl (h.fx j e')
   ·exact .inr ⟨by omega,X9.low j (.inr e)⟩
 have Nw:∀j,mx.jB m.x j->j<u.heap.size:=fun j e=>X9.low j (.inl e);have kuW:Kept (fun j=>j=m.mb\/j=w1.heap.size) u lh:=(LH.mono fun _ _ h=>.inl h).trans uV (fun _ _ h=>.inr h);have n1:∀j,F' j->¬(j=m.mb\/j=w1.heap.size):=fun j e e'=>by
  rcases e' with e'|e'
  ·rcases uQ j e with e|e
   ·exact h.fo j e (.inr (.inr e'))
   ·omega
  ·rcases uQ j e with e|e
   ·have:=vQ j (.inr e);omega
   ·omega
 have n2:∀j,mx.jB m.x j->¬(j=m.mb\/j=w1.heap.size):=fun j e e'=>by
  rcases e' with e'|e'
  ·rcases Ta j e with e|e
   ·exact(h.so j e).2 e'
   ·omega
  ·rcases Ta j e with e|e
   ·have:=vQ j (.inl (.inl e));omega
   ·have:=k8.size;have:=g7.size;omega
 have MM:mc lh B q sm bb (cR k G s l) ov Am nm cp E e ce:=MN.az uV (by omega) (by omega) (fun j hj _ e=>by have:=g6.1;omega) (fun a ha e=>by have:=g5 a ha;omega);have C':CV lh F' c k (cU k G id l) m':=by
  refine⟨?_,?_,?_,?_,h.fG.add id l,?_,fun j e=>.inr (.inr e),?_,?_,h.ne,?_⟩
  ·exact kuW.heap TM (fun e=>by rcases e with e|e;exact h.ne e;omega)
  ·exact⟨mx,X9.az kuW n2 (fun j e=>n1 j (.inr (.inr e))),fun _ e=>e⟩
  ·have:=YI.az uV (by show ¬m.mb=_;omega)
   have ef:(fun h=>if h∈ids (cU k G id l).D then some (Value.pointer (some ⟨m'.q h,0,none⟩))else none)=fun x=>if x=id then some (Value.pointer (some ⟨q,0,none⟩))else if x∈ids G.D then some (.pointer (some ⟨m.q x,0,none⟩))else none:=by
    funext y
    rw [WL];by_cases hy:y=id
    ·simp [hy,m']
    ·by_cases hy2:y∈ids G.D
     ·simp [hy,hy2,m']
     ·simp [hy,hy2]
   rw [ef];exact this
  ·intro y hy
   rw [WL,List.mem_append,List.mem_singleton]at hy;by_cases he:y=id
   ·subst he
    rw [(nx h.fG jo).1,mG];have e1:m'.q y=q:=if_pos rfl;have e2:m'.sz y=ov:=if_pos rfl;rw [e1,e2];refine⟨Am,nm,cp,E,e,ce,some sm,MM.top,MM.mg,Row.bo MM.bl,fun a ha=>.inr (.inl ⟨g5 a ha,?_⟩),fun a ha=>.inr (.inl ?_),.inr ⟨sm,rfl,.inr (.inl ⟨g4,g1s⟩),MM.ov⟩,.inr (.inl ⟨g3,g1q⟩)⟩
    ·have:=(g1.mA a ha).1
     have:=g6.2;omega
    ·subst ha
     obtain⟨q1,cur,q2⟩:=Row.bz g1.bl (k:=a.block) rfl;have:=aO q2;have:=g6.1;exact⟨by omega,this |>fun _=>aO q2⟩
   ·have hy:y∈ids G.D:=hy.elim (fun e=>e) (fun e=>absurd e he)
    rw [(nv h.fG hy).1];have e1:m'.q y=m.q y:=if_neg he;have e2:m'.sz y=m.sz y:=if_neg he;rw [e1,e2];exact(((h8.seen y hy).az k9 (fun j e e'=>h.fo j e (.inl e'))).az kuW (fun j e=>n1 j (.inl e))).mono (fun j e=>.inl e)
  ·have adM:dh G.D G.P (b9 G l) ch:=by rw [mG];exact oH
   rw [<-mG]at gO;exact SZ.add h.Z h.fG jo adM gO
  ·intro j e e'
   rcases e' with e'|e'|e'
   ·rcases e with e|e|e
    ·rcases Ta j e' with e'|e'
     ·exact h.fo j e (.inl e')
     ·have:=vQ j (.inr e);omega
    ·rcases Ta j e' with e'|e'
     ·have:=vQ j (.inl (.inl e'));omega
     ·omega
    ·exact XV.off X9 j e' e
   ·rcases uQ j e with e|e
    ·exact h.fo j e (.inr (.inl e'))
    ·have e':j=c:=e';omega
   ·rcases uQ j e with e|e
    ·exact h.fo j e (.inr (.inr e'))
    ·have e':j=m.mb:=e';omega
  ·intro j e
   rcases Ta j e with e'|e'
   ·exact h.so j e'
   ·exact⟨by omega,by show j≠m.mb;omega⟩
  ·rintro j (e|e)
   ·rcases e with e|e|e
    ·have:=Nw j e;omega
    ·have e:j=c:=e;omega
    ·have e:j=m.mb:=e;omega
   ·rcases uQ j e with e|e
    ·have:=vQ j (.inr e);omega
    ·omega
 have Gf:∀j,aW A'=some j->qR.heap.size<=j:=fun j hj=>(Row.bz uy hj).1;have RT:∀j,aW B'=some j->qR.heap.size<=j:=fun j hj=>(Row.bz HD hj).1;have Yu:∀j,qR.heap.size<=j->¬m'.own c j/\¬F' j:=fun j hj=>⟨fun e=>by
  rcases e with e|e|e
  ·have:=Nw j e;omega
  ·have e:j=c:=e;omega
  ·have e:j=m.mb:=e;omega,fun e=>by
  rcases uQ j e with e|e
  ·have:=vQ j (.inr e);omega
  ·omega⟩
 exact hO jo lh F' m' A' nm c1 B' e c2 C' rfl ((UZ.trans uV (fun j hj e=>by omega))) (fun j e=>(aaW j e).imp (fun h=>h) (fun h=>by omega)) (fun j e=>(uQ j e).imp (fun h=>h) (fun h=>by omega))
  (Row.base (Row.az uy f3 (fun j hj e=>by have:=Gf j hj;omega)) (fun j hj=>by have:=Gf j hj;omega)) (Row.base (Row.az HD f3 (fun j hj e=>by have:=RT j hj;omega)) (fun j hj=>by have:=RT j hj;omega)) Wc
  (fun j hj=>Yu j (hj.elim (Gf j) (RT j)))
end
section
variable{k:Nat}{G:GS}
theorem xn(H:jr k G){h:HT}(hm:h∈ids G.D):(G.gR h).merge.length<=G.D.length/\(G.gR h).dR.length=(G.gR h).merge.length:=by
 obtain⟨l,c⟩:=dh.ex H.jX h;rcases c.inv H.W H.jX hm with⟨_,nd,h0,rfl⟩|⟨t,r',_,pX,_,_⟩
 ·obtain⟨q1,_⟩:=H.root nd h0
  rw [q1];simp
 ·obtain⟨_,_,q3,q4,q5⟩:=H.up t h pX
  refine⟨?_,q3⟩;have:=cQ (m:=ids G.D) q4 (fun y hy=>(((q5 y).1 hy).1.mem H.W).1)
  rwa [fX]at this
theorem xu:∀(m:List HT) (b:List Bool),(dU m b).length<=m.length
 | [],_=>by simp [dU]
 |_::_,[]=>by simp [dU]
 |h::l,b::m=>by
  have:=xu l m;unfold dU;split
  ·simp only [List.length_cons];omega
  ·simp only [List.length_cons];omega
end
section
variable{w w' jx:World}{B ob bx:Nat}{av av':Nat->Prop}{acc:List HT}
end
section
variable{w w' v:World}{F:Nat->Prop}{c k:Nat}{G:GS}{m:CM}{K:Value->World->Prop}
end
theorem vL{w:World}{b:Nat}{es:Array MapEntry}{clock:Nat}(hb:w.heap[b]? =some (.map es clock)){K:Value->World->Prop}(hK:K (.map (some w.heap.size)) (w.alloc (.map es clock))):
 bj prog mf.id #[.map (some b)] w K:=by
 refine Calls.mono (AnyW.maps_Clone Tryz.R4 b es clock w hb) ?_;rintro e w' ⟨rfl,rfl⟩;exact⟨_,rfl,hK⟩
section
variable{w w':World}{F:Nat->Prop}{c k:Nat}{G:GS}{m:CM}{K:Value->World->Prop}
theorem r9(h:jr k G){a:HT}(ha:a∈ids G.D):(G.world a).length<=G.D.length:=by
 have:=cQ (m:=ids G.D) (h.wd a ha).1 (fun b hb=>(((h.wd a ha).2.1 b hb).mem h.W).1)
 rwa [fX]at this
theorem CD(h:CV w F c k G m)(hD:G.D.length<=5000)(hK:∀w' c' m',CV w' F c' k G m'->(∀j,m'.own c' j->w.heap.size<=j)->Kept Nil w w'->K (.pointer (some ⟨c',0,none⟩)) w'):
 bj prog eQ.id #[.pointer (some ⟨c,0,none⟩)] w K:=by
 refine eQ.of (mv h ⟨true,rfl,Split.no rfl ?_⟩);intro w3;have k3:Kept Nil w w3:=(Kept.refl _ _).drew;clear_value w3;have h3:=h.same k3;obtain⟨mx,X3,hmx⟩:=h3.X;refine⟨_,h3.c0,Is.mk rfl ⟨_,h3.c1,Is.mk rfl ⟨_,h3.c2,?_⟩⟩⟩;refine vN X3 hD fun w4 o hO k4=>⟨_,rfl,?_⟩;have h4:=h3.same k4;refine⟨h4.c2,h4.c0,?_⟩;obtain⟨es,cl,l,g1,g2,g3,g4⟩:=h4.all.ex;refine vL g1 ⟨_,rfl,?_⟩;have k5:Kept Nil w4 (w4.alloc (.map es cl)):=(Kept.refl _ _).alloc _;have Tb:(w4.alloc (.map es cl)).heap[w4.heap.size]? =some (.map es cl):=aH w4 _;generalize w4.alloc (.map es cl)=w5 at k5 Tb⊢;refine⟨(h4.same k5).c0,?_⟩;intro w6;have k6:Kept Nil w5 w6:=(Kept.refl _ _).alloc _;have ht6:w6.heap[w5.heap.size]? =some (.cells #[.int .i64 (k:Int),.pointer (some ⟨o,0,none⟩),.map (some w4.heap.size)] gg (0,0)):=aH w5 _;clear_value w6;have Ip:=k5.tt k6;have nK:=(k3.tt k4).tt Ip;have s3:=k3.size;have s4:=k4.size;have l5:=aO Tb;have l6:=aO ht6;have h6:=h4.same Ip;have mi:=h.low;obtain⟨mo,XO,Mm⟩:=hO;refine hK w6 w5.heap.size ⟨o,w4.heap.size,mo.jB o,m.FX,m.q,m.sz⟩ ⟨ht6,⟨mo,XO.same Ip,fun _ e=>e⟩,?_,h6.seen,h.fG,h.Z,h.fx,?_,?_,?_,?_⟩ ?_ nK
 ·exact⟨es,cl,l,k6.heap Tb (fun h=>h),g2,g3,g4⟩
 ·intro j hj e
  have:=mi j (.inr hj);rcases e with e|e|e
  ·have:=(Mm j e).1;omega
  ·have e:j=w5.heap.size:=e;omega
  ·have e:j=w4.heap.size:=e;omega
 ·intro j e
  have:=(Mm j e).2;exact⟨by omega,by show j≠w4.heap.size;omega⟩
 ·show w5.heap.size≠w4.heap.size
  omega
 ·rintro j (e|e)
  ·rcases e with e|e|e
   ·have:=(Mm j e).2;omega
   ·have e:j=w5.heap.size:=e;omega
   ·have e:j=w4.heap.size:=e;omega
  ·exact h6.low j (.inr e)
 ·intro j e
  rcases e with e|e|e
  ·have:=(Mm j e).1;omega
  ·have e:j=w5.heap.size:=e;omega
  ·have e:j=w4.heap.size:=e;omega
end
structure GN(w v:World)(id:HT)(X M Q:Option Nat)(pt:Bool):Prop where
 kp:Kept Nil w v
 x:∀x,X=some x->∃S,Bc v S (fun _=>False) x [⟨id,[]⟩] [-1]/\∀j,S j->w.heap.size<=j/\j<v.heap.size/\M≠some j/\Q≠some j
 m:∀m,M=some m->w.heap.size<=m/\fp v m (fun y=>if pt=true/\y=id then Q.map fun q=>.pointer (some ⟨q,0,none⟩)else none)
 q:∀q,Q=some q->w.heap.size<=q/\v.heap[q]? =some (.cells zS dV (0,0))
 ne:∀m q,M=some m->Q=some q->m≠q
section
variable{w w' v u:World}{F:Nat->Prop}{c k:Nat}{G:GS}{m:CM}{K:Value->World->Prop}{id:HT}{X M Q:Option Nat}{pt:Bool}
theorem GN.Kl(h:GN w v id X none Q false):GN w (v.alloc (.map #[] 0)) id X (some v.heap.size) Q false:=by
 have k1:Kept Nil v (v.alloc (.map #[] 0)):=(Kept.refl _ _).alloc _;have hs:=k1.size;have hm:fp (v.alloc (.map #[] 0)) v.heap.size (fun _=>none):=fp.new v;refine⟨h.kp.tt k1,fun x hx=>?_,fun m lM=>?_,fun q hq=>?_,fun m q lM hq=>?_⟩
 ·obtain⟨S,h1,h2⟩:=h.x x hx
  exact⟨S,h1.same k1,fun j e=>by have:=h2 j e;exact⟨this.1,by omega,fun e=>by cases e;omega,this.2.2.2⟩⟩
 ·cases lM
  exact⟨h.kp.size,by simpa using hm⟩
 ·exact⟨(h.q q hq).1,k1.heap (h.q q hq).2 (fun h=>h)⟩
 ·cases lM
  have:=aO (h.q q hq).2;omega
theorem GN.Kk(h:GN w v id X M none false):GN w (v.alloc (.cells zS dV)) id X M (some v.heap.size) false:=by
 have k1:Kept Nil v (v.alloc (.cells zS dV)):=(Kept.refl _ _).alloc _;have hs:=k1.size;refine⟨h.kp.tt k1,fun x hx=>?_,fun m lM=>?_,fun q hq=>?_,fun m q lM hq=>?_⟩
 ·obtain⟨S,h1,h2⟩:=h.x x hx
  exact⟨S,h1.same k1,fun j e=>by have:=h2 j e;exact⟨this.1,by omega,this.2.2.1,fun e=>by cases e;omega⟩⟩
 ·have:=h.m m lM
  refine⟨this.1,?_⟩;have h2:=this.2.same k1;simpa using h2
 ·cases hq
  exact⟨h.kp.size,aH v _⟩
 ·cases hq
  have:=(h.m m lM).2.lt;omega
theorem GN.C1(h:GN w v id none M Q pt){x:Nat}{S:Nat->Prop}(hX:Bc u S (fun _=>False) x [⟨id,[]⟩] [-1])(hS:∀j,S j->v.heap.size<=j/\j<u.heap.size)(k1:Kept Nil v u):GN w u id (some x) M Q pt:=by
 have hs:=h.kp.size;refine⟨h.kp.tt k1,fun x' hx=>?_,fun m lM=>⟨(h.m m lM).1,(h.m m lM).2.same k1⟩,fun q hq=>⟨(h.q q hq).1,k1.heap (h.q q hq).2 (fun h=>h)⟩,h.ne⟩;cases hx;refine⟨S,hX,fun j e=>by
  have:=hS j e;exact⟨by omega,this.2,fun e=>by have:=(h.m j e).2.lt;omega,fun e=>by have:=aO (h.q j e).2;omega⟩⟩
theorem GN.put{mm q:Nat}(h:GN w v id X (some mm) (some q) false):∃u,(Instr.mapUpdate e9 (.map (some mm)) (.agg id.1) (.pointer (some ⟨q,0,none⟩))).run prog v=.ok () u/\GN w u id X (some mm) (some q) true:=by
 obtain⟨h1,h2⟩:=h.m mm rfl;obtain⟨u,g1,g2,g3⟩:=h2.put HZ id (.pointer (some ⟨q,0,none⟩));have hs:=g3.size;refine⟨u,g1,h.kp.trans g3 (fun j hj e=>by omega),fun x hx=>?_,fun m lM=>?_,fun q' hq=>?_,h.ne⟩
 ·obtain⟨S,q1,q2⟩:=h.x x hx
  exact⟨S,q1.az g3 (fun j e e'=>(q2 j e).2.2.1 (by rw [e'])) (fun _ h=>h.elim),fun j e=>by have:=q2 j e;exact⟨this.1,by omega,this.2.2⟩⟩
 ·cases lM
  refine⟨h1,?_⟩;have ef:(fun y=>if true=true/\y=id then(some q).map (fun q=>Value.pointer (some ⟨q,0,none⟩))else none)=fun x=>if x=id then some (.pointer (some ⟨q,0,none⟩))else if false=true/\x=id then(some q).map (fun q=>Value.pointer (some ⟨q,0,none⟩))else none:=by
   funext y
   by_cases hy:y=id<;>simp [hy]
  rw [ef];exact g2
 ·have:=h.q q' hq
  exact⟨this.1,g3.heap this.2 (fun e=>h.ne mm q' rfl hq e.symm)⟩
theorem GN.fin{x mm q:Nat}(h:GN w v id (some x) (some mm) (some q) true)(k:Nat):∃m,CV (v.alloc (.cells #[.int .i64 (k:Int),.pointer (some ⟨x,0,none⟩),.map (some mm)] gg)) (· =q) v.heap.size k (de id) m/\m.x=x/\(∀j,m.own v.heap.size j->w.heap.size<=j)/\w.heap.size<=q:=by
 have k1:Kept Nil v (v.alloc (.cells #[.int .i64 (k:Int),.pointer (some ⟨x,0,none⟩),.map (some mm)] gg)):=(Kept.refl _ _).alloc _;have ht:=aH v (.cells #[.int .i64 (k:Int),.pointer (some ⟨x,0,none⟩),.map (some mm)] gg);generalize v.alloc (.cells #[.int .i64 (k:Int),.pointer (some ⟨x,0,none⟩),.map (some mm)] gg)=u at k1 ht⊢;obtain⟨S,h1,h2⟩:=h.x x rfl;obtain⟨h3,h4⟩:=h.m mm rfl;obtain⟨h5,h6⟩:=h.q q rfl;have fD:=h.ne mm q rfl rfl;have lm:=h4.lt;have lq:=aO h6;have lt:=aO ht;have hs:=k1.size;have hw:=h.kp.size;refine⟨⟨x,mm,S,fun _=>False,fun _=>q,fun _ _=>none⟩,⟨ht,h1.same k1,?_,?_,lS k id,SZ.root id,fun _ h=>h.elim,?_,?_,?_,?_⟩,rfl,?_,h5⟩
 ·have:=h4.same k1
  have ef:(fun h=>if h∈ids (de id).D then some (Value.pointer (some ⟨q,0,none⟩))else none)=fun y=>if true=true/\y=id then(some q).map (fun q=>Value.pointer (some ⟨q,0,none⟩))else none:=by
   funext y
   by_cases hy:y=id
   ·simp [hy,de,ids]
   ·simp [hy,de,ids]
  show fp u mm (fun h=>if h∈ids (de id).D then some (Value.pointer (some ⟨q,0,none⟩))else none)
  rw [ef];exact this
 ·intro y hy
  have:y=id:=by simpa [de,ids]using hy
  subst this;obtain⟨q1,_⟩:=(lS k y).root ⟨y,[]⟩ rfl
  replace q1:(de y).gR y=_:=q1
  rw [q1];exact⟨none,0,0,none,0,0,none,k1.heap h6 (fun h=>h),HS.nil _ _,⟨rfl,fun i b hi=>by simp at hi⟩,fun a ha=>(by cases ha),fun a ha=>(by cases ha),.inl ⟨rfl,fun _=>rfl⟩,rfl⟩
 ·rintro j rfl e
  rcases e with e|e|e
  ·exact(h2 _ e).2.2.2 rfl
  ·have e:j=v.heap.size:=e;omega
  ·exact fD e.symm
 ·intro j e
  have:=h2 j e;exact⟨by omega,fun e=>this.2.2.1 (by rw [e])⟩
 ·show v.heap.size≠mm;omega
 ·rintro j (e|e)
  ·rcases e with e|e|e
   ·have:=h2 j e;omega
   ·have e:j=v.heap.size:=e;omega
   ·have e:j=mm:=e;omega
  ·have e:j=q:=e;omega
 ·intro j e
  rcases e with e|e|e
  ·have:=h2 j e;omega
  ·have e:j=v.heap.size:=e;omega
  ·have e:j=mm:=e;omega
theorem ij(id:HT){k:Nat}(hk:k<=100)(hK:∀w' c q m,CV w' (· =q) c k (de id) m->(∀j,m.own c j->w.heap.size<=j)->w.heap.size<=q->Kept Nil w w'->K (.tuple #[.pointer (some ⟨c,0,none⟩),.int .i64 0]) w'):
 bj prog ij.id #[.int .i64 (k:Int),.agg id.1] w K:=by
 refine ij.of ?_;unfold ij.W;intro w1;have k1:Kept Nil w w1:=(Kept.refl _ _).alloc _;have yI:w1.heap[w.heap.size]? =some (.cells id.1 aj (0,0)):=aH w _;clear_value w1;refine Split.no (decide_eq_false (by omega)) (Split.no (decide_eq_false (by omega)) ?_);intro w2;have k2:Kept Nil w1 w2:=(Kept.refl _ _).drew;clear_value w2;have mu:=k2.heap yI (fun h=>h);have oI:=k1.tt k2;have s02:=oI.size;have N0:GN w2 w2 id none none none false:=⟨Kept.refl _ _,fun _ h=>(by cases h),fun _ h=>(by cases h),fun _ h=>(by cases h),fun _ _ h=>(by cases h)⟩;have bx:∀ {v:World},Kept Nil w2 v->∃cs:Array Value,(.agg id.1:Value)=.agg cs/\cs.size=32/\Cells v ⟨w.heap.size,0,none⟩ cs:=fun kv=>⟨id.1,rfl,id.2.1,Cells.bz (kv.heap mu (fun h=>h))⟩;have fin:∀ {v:World} {x mm q:Nat},GN w2 v id (some x) (some mm) (some q) true->let p:=v.alloc (.cells #[.int .i64 (k:Int),.pointer (some ⟨x,0,none⟩),.map (some mm)] gg);K (.tuple #[.pointer (some (⟨v.heap.size,0,none⟩:Addr)),.int .i64 0]) p:=fun {v x mm q} N=>by
  obtain⟨m,h1,_,h2,h3⟩:=N.fin k;exact hK _ _ q m h1 (fun j e=>by have:=h2 j e;omega) (by omega) ((oI.tt N.kp).alloc _)
 refine⟨id.1,⟨id.2.1,Cells.bz mu⟩,id.1,⟨id.2.1,Cells.bz mu⟩,?_,?_,?_⟩
 ·refine iA id fun v x hX kv=>⟨_,rfl,?_⟩
  have N1:=N0.C1 hX (fun j e=>e) kv;refine⟨bx N1.kp,⟨?_,?_⟩⟩
  ·have N2:=N1.Kl
   have N3:=N2.Kk;obtain⟨u,hu,N4⟩:=N3.put;exact⟨bx N2.kp,bx N3.kp,u,hu,fin N4⟩
  ·have N2:=N1.Kk
   have N3:=N2.Kl;obtain⟨u,hu,N4⟩:=N3.put;exact⟨bx N2.kp,bx N3.kp,u,hu,fin N4⟩
 ·have N1:=N0.Kl
  refine⟨bx N1.kp,bx N1.kp,?_,?_⟩
  ·refine iA id fun v x hX kv=>⟨_,rfl,?_⟩
   have N2:=N1.C1 hX (fun j e=>e) kv;have N3:=N2.Kk;obtain⟨u,hu,N4⟩:=N3.put;exact⟨bx N2.kp,bx N3.kp,u,hu,fin N4⟩
  ·have N2:=N1.Kk
   refine⟨bx N2.kp,bx N2.kp,?_,?_⟩
   ·refine iA id fun v x hX kv=>⟨_,rfl,?_⟩
    have N3:=N2.C1 hX (fun j e=>e) kv;obtain⟨u,hu,N4⟩:=N3.put;exact⟨bx N3.kp,u,hu,fin N4⟩
   ·obtain⟨u,hu,N3⟩:=N2.put
    refine⟨u,hu,bx N3.kp,?_⟩;refine iA id fun v x hX kv=>⟨_,rfl,?_⟩;exact fin (N3.C1 hX (fun j e=>e) kv)
 ·have N1:=N0.Kk
  refine⟨bx N1.kp,bx N1.kp,?_,?_⟩
  ·refine iA id fun v x hX kv=>⟨_,rfl,?_⟩
   have N2:=N1.C1 hX (fun j e=>e) kv;have N3:=N2.Kl;obtain⟨u,hu,N4⟩:=N3.put;exact⟨bx N2.kp,bx N3.kp,u,hu,fin N4⟩
  ·have N2:=N1.Kl
   refine⟨bx N2.kp,bx N2.kp,?_,?_⟩
   ·refine iA id fun v x hX kv=>⟨_,rfl,?_⟩
    have N3:=N2.C1 hX (fun j e=>e) kv;obtain⟨u,hu,N4⟩:=N3.put;exact⟨bx N3.kp,u,hu,fin N4⟩
   ·obtain⟨u,hu,N3⟩:=N2.put
    refine⟨u,hu,bx N3.kp,?_⟩;refine iA id fun v x hX kv=>⟨_,rfl,?_⟩;exact fin (N3.C1 hX (fun j e=>e) kv)
end
end Go.Proofs.YtnboahlopghcjaaGreatDoor
