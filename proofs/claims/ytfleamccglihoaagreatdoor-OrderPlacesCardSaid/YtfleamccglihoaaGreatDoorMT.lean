import Derived.Test.YtfleamccglihoaaGreatDoorMS
import Derived.Test.YtfleamccglihoaaGreatDoorMQ
import Derived.Test.YtfleamccglihoaaGreatDoorMJ
import Derived.Test.YtfleamccglihoaaGreatDoorMP
open Go.IntKind (i64 u64)
set_option linter.unusedVariables false
namespace Go.Proofs.YtfleamccglihoaaGreatDoor
open Go.Proofs.Tryz
open Go Go.bV Go.RowKit
theorem Ia(D:DG)(s:HT){l:List HT}(hl:∀x∈l,x∈ids D):(pZ D s l).length<=D.length:=by
 have:=cZ (m:=ids D) (ry D s l) (fun x hx=>by
  rcases(nX.1 hx).1 with h|h
  ·exact h.1
  ·exact hl x h)
 rwa [gF]at this
theorem FV{D:DG}{l:List HT}(h:og D l=0):l≠ []/\∀x∈l,x∈ids D:=by
 unfold og at h;split at h
 ·cases h
 ·rename_i h0
  split at h
  ·cases h
  ·rename_i h1
   exact⟨h0,fun x hx=>Classical.byContradiction fun e=>h1 ⟨x,hx,e⟩⟩
section
variable{w w':World}{F:Nat->Prop}{c k:Nat}{G:GS}{m:CM}{K:Value->World->Prop}{A:Option Addr}{n cx:Nat}{l:List HT}{s:HT}
theorem nh.fM{q B sm bb cp e ce:Nat}{x:oE}{ov:HT->Option Nat}{E:Option Addr}(h:nh w B q sm bb x ov A n cp E e ce):Cells w ((⟨q,0,none⟩:Addr).add 0) (cQ x A n cp E e ce):=by
 intro j u hj;rw [add_zero,bt,aD h.top,Array.getElem?_append_left (by rw [a8];have:=(Array.getElem?_eq_some_iff.1 hj).1;rw [a8]at this;omega)];rw [Nat.zero_add];exact hj
end
theorem XV.off{w:World}{D:DG}{P:List Int}{m:XM}{x:Nat}{F:Nat->Prop}(h:XV w F x D P m):∀k,m.ly x k->¬F k:=fun k e=>by
 obtain⟨bl,c,mb,M,G⟩:=h.G;rcases e with e|e|e|e
 ·exact G.Hj k e
 ·exact fun f=>(h.fd k f).1 e
 ·exact fun f=>(h.fd k f).2 e
 ·exact(h.od k e).2.2.2
section
variable{w w':World}{F F':Nat->Prop}{c k q:Nat}{G:GS}{m:CM}{K:Value->World->Prop}{A B:Option Addr}{n cx cp e ce:Nat}{l:List HT}{x:oE}{sz:HT->Option Nat}{sm:Option Nat}
theorem Seen.mono(h:Seen w F q x sz)(hF:∀j,F j->F' j):Seen w F' q x sz:=by
 obtain⟨A,n,cp,B,e,ce,sm,h⟩:=h;refine⟨A,n,cp,B,e,ce,sm,h.top,h.mg,h.bl,fun a ha=>hF _ (h.fA a ha),fun a ha=>hF _ (h.fB a ha),?_,hF _ h.fq⟩;rcases h.sz with g|⟨s,g1,g2,g3⟩
 ·exact .inl g
 ·exact .inr ⟨s,g1,hF _ g2,g3⟩
abbrev MF:Array Value:=cQ ⟨dz,0,[],[]⟩ none 0 0 none 0 0
theorem DH(D:DG)(h:HT)(l:List HT):dF D h l=if h∈ids D then 7 else if l.length=0 then 9 else if(dA l).length≠l.length then 9 else og D l:=by
 unfold dF og;by_cases h1:h∈ids D
 ·rw [if_pos h1,if_pos h1]
 ·rw [if_neg h1,if_neg h1]
  by_cases h2:l.length=0
  ·rw [if_pos h2,if_pos (.inl (by have:=qu l;omega))]
  ·have hl:l≠ []:=fun e=>h2 (by rw [e];rfl)
   rw [if_neg h2];by_cases h3:(dA l).length≠l.length
   ·rw [if_pos h3,if_pos (.inr h3)]
   ·have a:¬((dA l).length=0\/(dA l).length≠l.length):=by omega
    have hc:(∃p∈dA l,p∉ids D)↔∃p∈l,p∉ids D:=⟨fun⟨p,hp,hq⟩=>⟨p,dt.1 hp,hq⟩,fun⟨p,hp,hq⟩=>⟨p,dt.2 hp,hq⟩⟩;rw [if_neg h3,if_neg a,if_neg hl];by_cases h4:∃p∈l,p∉ids D
    ·rw [if_pos h4,if_pos (hc.2 h4)]
    ·rw [if_neg h4,if_neg (fun e=>h4 (hc.1 e))]
set_option maxHeartbeats 2000000 in
theorem GC(h:CV w F c k G m)(hT:uK w)(KF:¬m.SX (Tryz.kh.g 1))(hD:G.D.length<=49)(rP:k<=1000)(He:HS w A n l)(hn:n<=5000)(id:HT)
 (hE:dF G.D id l≠0->∀w',Kept Nil w w'->K (.tuple #[.agg MF,.int .i64 (dF G.D id l)]) w')
 (hO:dF G.D id l=0->∀w' F' m' A n c1 B e c2,CV w' F' c k (dh k G id l) m'->m'.x=m.x->Kept (m.own c) w w'->(∀j,m'.own c j->m.own c j\/w.heap.size<=j)->(∀j,F' j->F j\/w.heap.size<=j)->
   bM w' w.heap.size A n c1 (cX k G (bU G l) l).merge->Row w' w.heap.size iK 1 B e c2 (sS (cX k G (bU G l) l).fL)->(∀j,bn A=some j->bn B≠some j)->(∀j,bn A=some j\/bn B=some j->¬m'.own c j/\¬F' j)->
   K (.tuple #[.agg (cQ (cX k G (bU G l) l) A n c1 B e c2),.int .i64 0]) w'):
 bz prog dN.id #[.pointer (some ⟨c,0,none⟩),.agg id.1,.slice A n cx] w K:=by
 have hlen:=He.len;refine dN.of ?_;unfold dN.W;intro w1 w2;have k1:Kept Nil w w1:=(Kept.refl _ _).alloc _;have yY:w1.heap[w.heap.size]? =some (.cells id.1 ag (0,0)):=aI w _;have k2:Kept Nil w1 w2:=(Kept.refl _ _).alloc _;have jP:w2.heap[w1.heap.size]? =some (.cells zC br (0,0)):=aI w1 _;clear_value w2;have yX:=k2.heap yY (fun h=>h);have jS:=k1.tt k2;have s1:=k1.size;have l1:=aV yY;have l2:=aV jP;clear_value w1;have zs:(zC:Array Value)=MF:=rfl;have bad:∀ {u:World} {r:Int},Kept Nil w2 u->dF G.D id l=r->r≠0->(zC.size=35/\(∀n∈zC.toList,n.oneCell'=true)/\∀o,o<35->Wr u ((aR w1.heap.size).add o))/\
  let p:=setCells u (aR w1.heap.size) zC.toList 0;∃q:Array Value,(q.size=35/\Cells p (aR w1.heap.size) q)/\K (.tuple #[.agg q,.int .i64 r]) p:=fun {u r} ku hr h0=>by
  obtain⟨t1,t2,t3⟩:=dR (ku.heap jP (fun h=>h)) (cs:=zC) rfl;refine⟨⟨rfl,by rw [zs];exact dZ _ _ _ _ _ _ _,fun j hj=>t1 j hj⟩,?_⟩;refine⟨_,⟨rfl,Cells.bJ t2⟩,?_⟩;have:=hE (by rw [hr];exact h0) _ ((jS.tt ku).trans t3 (fun j hj e=>by omega));rw [hr]at this;exact this
 have jY:=DH G.D id l;refine nD (h.same jS) ⟨true,rfl,Split.no rfl ?_⟩;intro w3;have k3:Kept Nil w2 w3:=(Kept.refl _ _).drew;clear_value w3;have lD:=jS.tt k3;have h3:=h.same lD;refine⟨_,h3.c2,id.1,⟨id.2.1,Cells.bJ (k3.heap yX (fun h=>h))⟩,_,h3.look id,?_⟩;by_cases hid:id∈ids G.D
 ·rw [if_pos hid]at jY
  exact Split.yes (by rw [if_pos hid];rfl) (bad k3 jY (by decide))
 rw [if_neg hid]at jY;refine Split.no (by rw [if_neg hid];rfl) ?_;by_cases Gs:n=0
 ·rw [if_pos (by omega)]at jY
  exact Split.yes (by subst Gs;rfl) (bad k3 jY (by decide))
 rw [if_neg (by omega)]at jY;refine Split.no (by simpa using (by omega:¬(n:Int)=0)) ?_;refine jg (He.same lD) (by omega) fun A4 c4 w4 iU k4=>⟨A4,_,c4,rfl,?_⟩;have p9:=k3.tt k4;have mE:=lD.tt k4;by_cases CQ:(dA l).length≠l.length
 ·rw [if_pos CQ]at jY
  exact Split.yes (by simp only [bne_iff_ne,ne_eq];omega) (bad p9 jY (by decide))
 rw [if_neg CQ]at jY;refine Split.no (by simp only [bne_eq_false_iff_eq];omega) ?_;refine zf (h.same mE) (He.same mE) (by omega) fun w5 k5=>⟨_,_,rfl,?_⟩;have Ek:=p9.tt k5;have qM:=mE.tt k5;generalize mP:(if og G.D l=0 then bU G l else dz)=s;intro w6;have k6:Kept Nil w5 w6:=(Kept.refl _ _).alloc _;have qR:w6.heap[w5.heap.size]? =some (.cells dz.1 ag (0,0)):=aI w5 _;clear_value w6;obtain⟨t1,t2,t3⟩:=jy s qR rfl;refine⟨t1,?_⟩;intro w7
 replace t2:w7.heap[w5.heap.size]? =some (.cells s.1 ag (0,0)):=t2
 replace t3:Kept (· =w5.heap.size) w6 w7:=t3
 clear_value w7;have Lw:Kept Nil w5 w7:=k6.trans t3 (fun j hj e=>by omega);have PD:=Ek.tt Lw;have xi:=qM.tt Lw;by_cases hm:og G.D l≠0
 ·exact Split.yes (by simpa using hm) (bad PD jY hm)
 have hm:og G.D l=0:=by omega
 rw [if_pos hm]at mP;rw [hm]at jY⊢;refine Split.no rfl ⟨s.1,⟨s.2.1,Cells.bJ t2⟩,?_⟩;obtain⟨fD,fQ⟩:=FV hm;have BY:s∈l:=by rw [<-mP];exact gK fD
 obtain⟨ch,mz⟩:=cF.ex h.fk.gQ s;have h7:=h.same xi;refine Dh KY (Nat.le_trans (Ia G.D s fQ) hD) h7 (hT.same xi) (by omega) rP (fQ s BY) mz fQ (He.same xi) hn fun v q B sm bb ov Am nm cp E e ce g1 gO g3 g4 g5 g6 g7=>⟨some ⟨q,0,none⟩,rfl,?_⟩;have Eo:=xi.tt g7;have Iu:=PD.tt g7;have k5v:=Lw.tt g7;have s07:=xi.size;have s0v:=Eo.size;intro w8;have k8:Kept Nil v w8:=(Kept.refl _ _).drew;clear_value w8;have uS:=Eo.tt k8;have h8:=h.same uS;have g18:=g1.same k8;have s8:=k8.size;refine⟨_,h8.c1,id.1,⟨id.2.1,Cells.bJ ((Iu.tt k8).heap yX (fun h=>h))⟩,s.1,⟨s.2.1,Cells.bJ (((g7.tt k8)).heap t2 (fun h=>h))⟩,?_⟩;refine Cv h8.X (by omega) (hT.same uS) KF (He.same uS) hn id s fun u S' FX' hX9 k9 hS9 Sl=>⟨_,rfl,?_⟩;have eX:ox G.D id s l=(dh k G id l).D/\ow G.D G.P id s l=(dh k G id l).P:=by rw [<-mP];exact⟨Kb.symm,Kc.symm⟩
 rw [eX.1,eX.2]at hX9;obtain⟨mx,X9,hmx⟩:=hX9;have xc:∀j,m.own c j\/F j->j<w.heap.size:=h.low;have g1q:q<v.heap.size:=aV g1.top;have g1s:sm<v.heap.size:=g1.ov.lt;have wo:∀j,w.heap.size<=j->¬m.SX j:=fun j hj e=>by have:=xc j (.inl (.inl e));omega
 have g19:=g18.aF k9 (wo q (by omega)) (wo sm (by omega)) (fun j hj _=>wo j (by have:=g6.1;omega)) (fun a ha=>wo _ (by have:=g5 a ha;omega));have s9:=k9.size;have Lz:Kept m.SX w2 u:=((Iu.tt k8).mono fun _ _ h=>h.elim).tt k9;have ncm:¬m.SX c/\¬m.SX m.mb:=⟨fun e=>(h.so _ e).1 rfl,fun e=>(h.so _ e).2 rfl⟩;have SN:u.heap[c]? =_:=k9.heap h8.top ncm.1;have adW:=h8.all.aF k9 ncm.2;intro w10;have mD:Kept Nil u w10:=(Kept.refl _ _).drew;clear_value w10;have SQ:=mD.heap SN (fun h=>h);have LK:=(Lz.trans mD (fun _ _ h=>h.elim)).heap yX (fun e=>wo _ (Nat.le_refl _) e);have XF:=adW.aF mD (fun h=>h);obtain⟨qU,abj,XE,Hb⟩:=XF.put H9 id (.pointer (some ⟨q,0,none⟩));refine⟨some m.mb,by rw [bt,aD SQ];rfl,id.1,⟨id.2.1,Cells.bJ LK⟩,qU,abj,Is.mk rfl ?_⟩;have s10:=mD.size;have s11:=Hb.size;have lmb:m.mb<w.heap.size:=xc _ (.inl (.inr (.inr rfl)));have lc:c<w.heap.size:=xc _ (.inl (.inr (.inl rfl)));have AU:Kept (· =m.mb) u qU:=(mD.mono fun _ _ h=>h.elim).tt Hb;have My:=g19.aF AU (by omega) (by omega) (fun j hj _ e=>by have:=g6.1;omega) (fun a ha e=>by have:=g5 a ha;omega);have adR:=Row.bo My.bl;have Ud:Kept (m.own c) w qU:=((uS.mono (S':=m.own c) fun _ _ h=>h.elim).trans k9 (fun _ _ h=>.inl h)).trans AU (fun _ _ h=>.inr (.inr h));refine⟨_,⟨a8 ..,My.fM⟩,?_⟩;have zc:=g1.mg.len;have hnm:nm<=49:=by
  have Kv:(cX k G s l).merge=cG G s l:=rfl;have v8:(cG G s l).length<=49:=by
   have:=cZ (m:=ids G.D) (jM G s l).nodup (fun y hy=>by
    rcases(iX.1 hy).1 with h|h
    ·exact h.1
    ·exact fQ y h)
   rw [gF]at this;omega
  rw [Kv]at zc;omega
 have YA:e<=49:=by
  have h1:=(u9 k G s l).1;have h2:=(Row.bo g1.bl).len;have Kv:(cX k G s l).merge=cG G s l:=rfl;have hv2:(cX k G s l).fL=(dP k G s l).bl:=rfl;rw [hv2]at h2;rw [Kv]at zc;omega
 refine o0 (cX k G s l) My.mg adR (by omega) (by omega) fun A' c1 B' c2 lY vt HL Vd xg=>⟨_,rfl,?_⟩;have T8:Kept (m.own c) w2 lY:=((Lz.mono (S':=m.own c) fun _ _ h=>.inl h).trans AU (fun _ _ h=>.inr (.inr h))).trans xg (fun _ _ h=>h.elim);have fr2:∀j,w.heap.size<=j->¬m.own c j:=fun j hj e=>by have:=xc j (.inl e);omega
 have aa9:=T8.heap jP (fr2 _ (by omega));obtain⟨f1,f2,f3⟩:=dR aa9 (cs:=cQ (cX k G s l) A' nm c1 B' e c2) (by rw [a8];rfl);refine⟨⟨a8 ..,dZ _ _ _ _ _ _ _,fun j hj=>f1 j (by rw [a8];exact hj)⟩,?_⟩;intro nn
 replace f2:nn.heap[w1.heap.size]? =_:=f2
 replace f3:Kept (· =w1.heap.size) lY nn:=f3
 clear_value nn;refine⟨_,⟨a8 ..,Cells.bJ f2⟩,?_⟩;have vW:Kept (· =w1.heap.size) qU nn:=(xg.mono fun _ _ h=>h.elim).tt f3;have s13:=vW.size;have lw1:w1.heap.size<w7.heap.size:=Nat.lt_of_lt_of_le l2 PD.size;rw [mP]at hO;have Bd:=jZ (k:=k) (G:=G) (h:=id) (ps:=l) jY;have VT:ids (dh k G id l).D=ids G.D++ [id]:=by rw [Bd];simp [ids]
 let F':Nat->Prop:=fun j=>F j\/(w7.heap.size<=j/\j<v.heap.size)\/FX' j
 let m':CM:=⟨m.x,m.mb,mx.ly m.x,FX',fun y=>if y=id then q else m.q y,fun y=>if y=id then ov else m.sz y⟩
 have Sb:∀j,mx.ly m.x j->m.SX j\/w8.heap.size<=j:=fun j e=>hS9 j (hmx j e);have ZM:∀j,m'.own c j->m.own c j\/w8.heap.size<=j:=fun j e=>by
  rcases e with e|e|e
  ·exact(Sb j e).imp (fun e=>.inl e) (fun e=>e)
  ·exact .inl (.inr (.inl e))
  ·exact .inl (.inr (.inr e))
 have vR:∀j,F' j->F j\/(w7.heap.size<=j/\j<u.heap.size):=fun j e=>by
  rcases e with e|e|e
  ·exact .inl e
  ·exact .inr ⟨e.1,by omega⟩
  ·rcases Sl j e with e'|e'
   ·exact .inl (h.fx j e')
   ·exact .inr ⟨by omega,X9.low j (.inr e)⟩
 have M4:∀j,mx.ly m.x j->j<u.heap.size:=fun j e=>X9.low j (.inl e);have Z6:Kept (fun j=>j=m.mb\/j=w1.heap.size) u nn:=(AU.mono fun _ _ h=>.inl h).trans vW (fun _ _ h=>.inr h);have n1:∀j,F' j->¬(j=m.mb\/j=w1.heap.size):=fun j e e'=>by
  rcases e' with e'|e'
  ·rcases vR j e with e|e
   ·exact h.fo j e (.inr (.inr e'))
   ·omega
  ·rcases vR j e with e|e
   ·have:=xc j (.inr e);omega
   ·omega
 have n2:∀j,mx.ly m.x j->¬(j=m.mb\/j=w1.heap.size):=fun j e e'=>by
  rcases e' with e'|e'
  ·rcases Sb j e with e|e
   ·exact(h.so j e).2 e'
   ·omega
  ·rcases Sb j e with e|e
   ·have:=xc j (.inl (.inl e));omega
   ·have:=k8.size;have:=g7.size;omega
 have Mx:nh nn B q sm bb (cX k G s l) ov Am nm cp E e ce:=My.aF vW (by omega) (by omega) (fun j hj _ e=>by have:=g6.1;omega) (fun a ha e=>by have:=g5 a ha;omega);have C':CV nn F' c k (dh k G id l) m':=by
  refine⟨?_,?_,?_,?_,h.fk.add id l,?_,fun j e=>.inr (.inr e),?_,?_,h.ne,?_⟩
  ·exact Z6.heap SN (fun e=>by rcases e with e|e;exact h.ne e;omega)
  ·exact⟨mx,X9.aF Z6 n2 (fun j e=>n1 j (.inr (.inr e))),fun _ e=>e⟩
  ·have:=XE.aF vW (by show ¬m.mb=_;omega)
   have ef:(fun h=>if h∈ids (dh k G id l).D then some (Value.pointer (some ⟨m'.q h,0,none⟩))else none)=fun x=>if x=id then some (Value.pointer (some ⟨q,0,none⟩))else if x∈ids G.D then some (.pointer (some ⟨m.q x,0,none⟩))else none:=by
    funext y
    rw [VT];by_cases hy:y=id
    ·simp [hy,m']
    ·by_cases hy2:y∈ids G.D
     ·simp [hy,hy2,m']
     ·simp [hy,hy2]
   rw [ef];exact this
  ·intro y hy
   rw [VT,List.mem_append,List.mem_singleton]at hy;by_cases he:y=id
   ·subst he
    rw [(lV h.fk jY).1,mP];have e1:m'.q y=q:=if_pos rfl;have e2:m'.sz y=ov:=if_pos rfl;rw [e1,e2];refine⟨Am,nm,cp,E,e,ce,some sm,Mx.top,Mx.mg,Row.bo Mx.bl,fun a ha=>.inr (.inl ⟨g5 a ha,?_⟩),fun a ha=>.inr (.inl ?_),.inr ⟨sm,rfl,.inr (.inl ⟨g4,g1s⟩),Mx.ov⟩,.inr (.inl ⟨g3,g1q⟩)⟩
    ·have:=(g1.mA a ha).1
     have:=g6.2;omega
    ·subst ha
     obtain⟨q1,cur,q2⟩:=Row.bJ g1.bl (k:=a.block) rfl;have:=aV q2;have:=g6.1;exact⟨by omega,this |>fun _=>aV q2⟩
   ·have hy:y∈ids G.D:=hy.elim (fun e=>e) (fun e=>absurd e he)
    rw [(iH h.fk hy).1];have e1:m'.q y=m.q y:=if_neg he;have e2:m'.sz y=m.sz y:=if_neg he;rw [e1,e2];exact(((h8.seen y hy).aF k9 (fun j e e'=>h.fo j e (.inl e'))).aF Z6 (fun j e=>n1 j (.inl e))).mono (fun j e=>.inl e)
  ·have Mj:cF G.D G.P (bU G l) ch:=by rw [mP];exact mz
   rw [<-mP]at gO;exact SZ.add h.Z h.fk jY Mj gO
  ·intro j e e'
   rcases e' with e'|e'|e'
   ·rcases e with e|e|e
    ·rcases Sb j e' with e'|e'
     ·exact h.fo j e (.inl e')
     ·have:=xc j (.inr e);omega
    ·rcases Sb j e' with e'|e'
     ·have:=xc j (.inl (.inl e'));omega
     ·omega
    ·exact XV.off X9 j e' e
   ·rcases vR j e with e|e
    ·exact h.fo j e (.inr (.inl e'))
    ·have e':j=c:=e';omega
   ·rcases vR j e with e|e
    ·exact h.fo j e (.inr (.inr e'))
    ·have e':j=m.mb:=e';omega
  ·intro j e
   rcases Sb j e with e'|e'
   ·exact h.so j e'
   ·exact⟨by omega,by show j≠m.mb;omega⟩
  ·rintro j (e|e)
   ·rcases e with e|e|e
    ·have:=M4 j e;omega
    ·have e:j=c:=e;omega
    ·have e:j=m.mb:=e;omega
   ·rcases vR j e with e|e
    ·have:=xc j (.inr e);omega
    ·omega
 have EI:∀j,bn A'=some j->qU.heap.size<=j:=fun j hj=>(Row.bJ vt hj).1;have Rj:∀j,bn B'=some j->qU.heap.size<=j:=fun j hj=>(Row.bJ HL hj).1;have Xq:∀j,qU.heap.size<=j->¬m'.own c j/\¬F' j:=fun j hj=>⟨fun e=>by
  rcases e with e|e|e
  ·have:=M4 j e;omega
  ·have e:j=c:=e;omega
  ·have e:j=m.mb:=e;omega,fun e=>by
  rcases vR j e with e|e
  ·have:=xc j (.inr e);omega
  ·omega⟩
 exact hO jY nn F' m' A' nm c1 B' e c2 C' rfl ((Ud.trans vW (fun j hj e=>by omega))) (fun j e=>(ZM j e).imp (fun h=>h) (fun h=>by omega)) (fun j e=>(vR j e).imp (fun h=>h) (fun h=>by omega))
  (Row.base (Row.aF vt f3 (fun j hj e=>by have:=EI j hj;omega)) (fun j hj=>by have:=EI j hj;omega)) (Row.base (Row.aF HL f3 (fun j hj e=>by have:=Rj j hj;omega)) (fun j hj=>by have:=Rj j hj;omega)) Vd
  (fun j hj=>Xq j (hj.elim (EI j) (Rj j)))
end
theorem cF.CB{D:DG}{P:List Int}{h:HT}{l:List HT}(hc:cF D P h l)(H:rR D P):l.length<=D.length:=by
 rcases hc with⟨_,rfl⟩|⟨i,nd,ks,h1,_,h3,rfl⟩
 ·exact Nat.zero_le _
 ·have:=h3.len H.par
  rw [List.length_map];have:=(lgeS h1).1;omega
section
variable{k:Nat}{G:GS}
theorem ot(H:fp k G){h:HT}(hm:h∈ids G.D):(G.fM h).merge.length<=G.D.length/\(G.fM h).fL.length=(G.fM h).merge.length:=by
 obtain⟨l,c⟩:=cF.ex H.gQ h;rcases c.inv H.W H.gQ hm with⟨_,nd,h0,rfl⟩|⟨t,r',_,qN,_,_⟩
 ·obtain⟨q1,_⟩:=H.root nd h0
  rw [q1];simp
 ·obtain⟨_,_,q3,q4,q5⟩:=H.up t h qN
  refine⟨?_,q3⟩;have:=cZ (m:=ids G.D) q4 (fun y hy=>(((q5 y).1 hy).1.mem H.W).1)
  rwa [gF]at this
theorem yu:∀(m:List HT) (b:List Bool),(ek m b).length<=m.length
 | [],_=>by simp [ek]
 |_::_,[]=>by simp [ek]
 |h::l,b::m=>by
  have:=yu l m;unfold ek;split
  ·simp only [List.length_cons];omega
  ·simp only [List.length_cons];omega
end
section
variable{w w' jO:World}{B ob bx:Nat}{av av':Nat->Prop}{acc:List HT}
end
section
variable{w w' v:World}{F:Nat->Prop}{c k:Nat}{G:GS}{m:CM}{K:Value->World->Prop}
end
section
variable{w w':World}{F:Nat->Prop}{c k:Nat}{G:GS}{m:CM}{K:Value->World->Prop}
theorem sT(h:fp k G){a:HT}(ha:a∈ids G.D):(G.world a).length<=G.D.length:=by
 have:=cZ (m:=ids G.D) (h.wd a ha).1 (fun b hb=>(((h.wd a ha).2.1 b hb).mem h.W).1)
 rwa [gF]at this
end
structure GN(w v:World)(id:HT)(X M Q:Option Nat)(pt:Bool):Prop where
 kp:Kept Nil w v
 x:∀x,X=some x->∃S,DK v S (fun _=>False) x [⟨id,[]⟩] [-1]/\∀j,S j->w.heap.size<=j/\j<v.heap.size/\M≠some j/\Q≠some j
 m:∀m,M=some m->w.heap.size<=m/\fV v m (fun y=>if pt=true/\y=id then Q.map fun q=>.pointer (some ⟨q,0,none⟩)else none)
 q:∀q,Q=some q->w.heap.size<=q/\v.heap[q]? =some (.cells zS eA (0,0))
 ne:∀m q,M=some m->Q=some q->m≠q
section
variable{w w' v u:World}{F:Nat->Prop}{c k:Nat}{G:GS}{m:CM}{K:Value->World->Prop}{id:HT}{X M Q:Option Nat}{pt:Bool}
theorem GN.J0(h:GN w v id X none Q false):GN w (v.alloc (.map #[] 0)) id X (some v.heap.size) Q false:=by
 have k1:Kept Nil v (v.alloc (.map #[] 0)):=(Kept.refl _ _).alloc _;have hs:=k1.size;have hm:fV (v.alloc (.map #[] 0)) v.heap.size (fun _=>none):=fV.new v;refine⟨h.kp.tt k1,fun x hx=>?_,fun m ny=>?_,fun q hq=>?_,fun m q ny hq=>?_⟩
 ·obtain⟨S,h1,h2⟩:=h.x x hx
  exact⟨S,h1.same k1,fun j e=>by have:=h2 j e;exact⟨this.1,by omega,fun e=>by cases e;omega,this.2.2.2⟩⟩
 ·cases ny
  exact⟨h.kp.size,by simpa using hm⟩
 ·exact⟨(h.q q hq).1,k1.heap (h.q q hq).2 (fun h=>h)⟩
 ·cases ny
  have:=aV (h.q q hq).2;omega
theorem GN.JZ(h:GN w v id X M none false):GN w (v.alloc (.cells zS eA)) id X M (some v.heap.size) false:=by
 have k1:Kept Nil v (v.alloc (.cells zS eA)):=(Kept.refl _ _).alloc _;have hs:=k1.size;refine⟨h.kp.tt k1,fun x hx=>?_,fun m ny=>?_,fun q hq=>?_,fun m q ny hq=>?_⟩
 ·obtain⟨S,h1,h2⟩:=h.x x hx
  exact⟨S,h1.same k1,fun j e=>by have:=h2 j e;exact⟨this.1,by omega,this.2.2.1,fun e=>by cases e;omega⟩⟩
 ·have:=h.m m ny
  refine⟨this.1,?_⟩;have h2:=this.2.same k1;simpa using h2
 ·cases hq
  exact⟨h.kp.size,aI v _⟩
 ·cases hq
  have:=(h.m m ny).2.lt;omega
theorem GN.DE(h:GN w v id none M Q pt){x:Nat}{S:Nat->Prop}(hX:DK u S (fun _=>False) x [⟨id,[]⟩] [-1])(hS:∀j,S j->v.heap.size<=j/\j<u.heap.size)(k1:Kept Nil v u):GN w u id (some x) M Q pt:=by
 have hs:=h.kp.size;refine⟨h.kp.tt k1,fun x' hx=>?_,fun m ny=>⟨(h.m m ny).1,(h.m m ny).2.same k1⟩,fun q hq=>⟨(h.q q hq).1,k1.heap (h.q q hq).2 (fun h=>h)⟩,h.ne⟩;cases hx;refine⟨S,hX,fun j e=>by
  have:=hS j e;exact⟨by omega,this.2,fun e=>by have:=(h.m j e).2.lt;omega,fun e=>by have:=aV (h.q j e).2;omega⟩⟩
theorem GN.put{mm q:Nat}(h:GN w v id X (some mm) (some q) false):∃u,(Instr.mapUpdate dO (.map (some mm)) (.agg id.1) (.pointer (some ⟨q,0,none⟩))).run prog v=.ok () u/\GN w u id X (some mm) (some q) true:=by
 obtain⟨h1,h2⟩:=h.m mm rfl;obtain⟨u,g1,g2,g3⟩:=h2.put H9 id (.pointer (some ⟨q,0,none⟩));have hs:=g3.size;refine⟨u,g1,h.kp.trans g3 (fun j hj e=>by omega),fun x hx=>?_,fun m ny=>?_,fun q' hq=>?_,h.ne⟩
 ·obtain⟨S,q1,q2⟩:=h.x x hx
  exact⟨S,q1.aF g3 (fun j e e'=>(q2 j e).2.2.1 (by rw [e'])) (fun _ h=>h.elim),fun j e=>by have:=q2 j e;exact⟨this.1,by omega,this.2.2⟩⟩
 ·cases ny
  refine⟨h1,?_⟩;have ef:(fun y=>if true=true/\y=id then(some q).map (fun q=>Value.pointer (some ⟨q,0,none⟩))else none)=fun x=>if x=id then some (.pointer (some ⟨q,0,none⟩))else if false=true/\x=id then(some q).map (fun q=>Value.pointer (some ⟨q,0,none⟩))else none:=by
   funext y
   by_cases hy:y=id<;>simp [hy]
  rw [ef];exact g2
 ·have:=h.q q' hq
  exact⟨this.1,g3.heap this.2 (fun e=>h.ne mm q' rfl hq e.symm)⟩
theorem GN.fin{x mm q:Nat}(h:GN w v id (some x) (some mm) (some q) true)(k:Nat):∃m,CV (v.alloc (.cells #[.int .i64 (k:Int),.pointer (some ⟨x,0,none⟩),.map (some mm)] ik)) (· =q) v.heap.size k (dg id) m/\m.x=x/\(∀j,m.own v.heap.size j->w.heap.size<=j)/\w.heap.size<=q:=by
 have k1:Kept Nil v (v.alloc (.cells #[.int .i64 (k:Int),.pointer (some ⟨x,0,none⟩),.map (some mm)] ik)):=(Kept.refl _ _).alloc _;have ht:=aI v (.cells #[.int .i64 (k:Int),.pointer (some ⟨x,0,none⟩),.map (some mm)] ik);generalize v.alloc (.cells #[.int .i64 (k:Int),.pointer (some ⟨x,0,none⟩),.map (some mm)] ik)=u at k1 ht⊢;obtain⟨S,h1,h2⟩:=h.x x rfl;obtain⟨h3,h4⟩:=h.m mm rfl;obtain⟨h5,h6⟩:=h.q q rfl;have fD:=h.ne mm q rfl rfl;have lm:=h4.lt;have lq:=aV h6;have lt:=aV ht;have hs:=k1.size;have hw:=h.kp.size;refine⟨⟨x,mm,S,fun _=>False,fun _=>q,fun _ _=>none⟩,⟨ht,h1.same k1,?_,?_,ju k id,SZ.root id,fun _ h=>h.elim,?_,?_,?_,?_⟩,rfl,?_,h5⟩
 ·have:=h4.same k1
  have ef:(fun h=>if h∈ids (dg id).D then some (Value.pointer (some ⟨q,0,none⟩))else none)=fun y=>if true=true/\y=id then(some q).map (fun q=>Value.pointer (some ⟨q,0,none⟩))else none:=by
   funext y
   by_cases hy:y=id
   ·simp [hy,dg,ids]
   ·simp [hy,dg,ids]
  show fV u mm (fun h=>if h∈ids (dg id).D then some (Value.pointer (some ⟨q,0,none⟩))else none)
  rw [ef];exact this
 ·intro y hy
  have:y=id:=by simpa [dg,ids]using hy
  subst this;obtain⟨q1,_⟩:=(ju k y).root ⟨y,[]⟩ rfl
  replace q1:(dg y).fM y=_:=q1
  rw [q1];exact⟨none,0,0,none,0,0,none,k1.heap h6 (fun h=>h),HS.nil _ _,⟨rfl,fun i b hi=>by simp at hi⟩,fun a ha=>(by cases ha),fun a ha=>(by cases ha),.inl ⟨rfl,fun _=>rfl⟩,rfl⟩
 ·rintro j rfl e
  rcases e with e|e|e
  ·exact(h2 _ e).2.2.2 rfl
  ·have e:j=v.heap.size:=e;omega
  ·exact fD e.symm
 ·intro j e
  have:=h2 j e;exact⟨by omega,fun e=>this.2.2.1 (by rw [e])⟩
 ·show v.heap.size≠mm;omega
 ·rintro j (e|e)
  ·rcases e with e|e|e
   ·have:=h2 j e;omega
   ·have e:j=v.heap.size:=e;omega
   ·have e:j=mm:=e;omega
  ·have e:j=q:=e;omega
 ·intro j e
  rcases e with e|e|e
  ·have:=h2 j e;omega
  ·have e:j=v.heap.size:=e;omega
  ·have e:j=mm:=e;omega
theorem iG(id:HT){k:Nat}(hk:k<=100)(hK:∀w' c q m,CV w' (· =q) c k (dg id) m->(∀j,m.own c j->w.heap.size<=j)->w.heap.size<=q->Kept Nil w w'->K (.tuple #[.pointer (some ⟨c,0,none⟩),.int .i64 0]) w'):
 bz prog iG.id #[.int .i64 (k:Int),.agg id.1] w K:=by
 refine iG.of ?_;unfold iG.W;intro w1;have k1:Kept Nil w w1:=(Kept.refl _ _).alloc _;have zc:w1.heap[w.heap.size]? =some (.cells id.1 ag (0,0)):=aI w _;clear_value w1;refine Split.no (decide_eq_false (by omega)) (Split.no (decide_eq_false (by omega)) ?_);intro w2;have k2:Kept Nil w1 w2:=(Kept.refl _ _).drew;clear_value w2;have kX:=k2.heap zc (fun h=>h);have jS:=k1.tt k2;have s02:=jS.size;have N0:GN w2 w2 id none none none false:=⟨Kept.refl _ _,fun _ h=>(by cases h),fun _ h=>(by cases h),fun _ h=>(by cases h),fun _ _ h=>(by cases h)⟩;have bx:∀ {v:World},Kept Nil w2 v->∃cs:Array Value,(.agg id.1:Value)=.agg cs/\cs.size=32/\Cells v ⟨w.heap.size,0,none⟩ cs:=fun kv=>⟨id.1,rfl,id.2.1,Cells.bJ (kv.heap kX (fun h=>h))⟩;have fin:∀ {v:World} {x mm q:Nat},GN w2 v id (some x) (some mm) (some q) true->let p:=v.alloc (.cells #[.int .i64 (k:Int),.pointer (some ⟨x,0,none⟩),.map (some mm)] ik);K (.tuple #[.pointer (some (aR v.heap.size)),.int .i64 0]) p:=fun {v x mm q} N=>by
  obtain⟨m,h1,_,h2,h3⟩:=N.fin k;exact hK _ _ q m h1 (fun j e=>by have:=h2 j e;omega) (by omega) ((jS.tt N.kp).alloc _)
 refine⟨id.1,⟨id.2.1,Cells.bJ kX⟩,id.1,⟨id.2.1,Cells.bJ kX⟩,?_,?_,?_⟩
 ·refine iW id fun v x hX kv=>⟨_,rfl,?_⟩
  have N1:=N0.DE hX (fun j e=>e) kv;refine⟨bx N1.kp,⟨?_,?_⟩⟩
  ·have N2:=N1.J0
   have N3:=N2.JZ;obtain⟨u,hu,N4⟩:=N3.put;exact⟨bx N2.kp,bx N3.kp,u,hu,fin N4⟩
  ·have N2:=N1.JZ
   have N3:=N2.J0;obtain⟨u,hu,N4⟩:=N3.put;exact⟨bx N2.kp,bx N3.kp,u,hu,fin N4⟩
 ·have N1:=N0.J0
  refine⟨bx N1.kp,bx N1.kp,?_,?_⟩
  ·refine iW id fun v x hX kv=>⟨_,rfl,?_⟩
   have N2:=N1.DE hX (fun j e=>e) kv;have N3:=N2.JZ;obtain⟨u,hu,N4⟩:=N3.put;exact⟨bx N2.kp,bx N3.kp,u,hu,fin N4⟩
  ·have N2:=N1.JZ
   refine⟨bx N2.kp,bx N2.kp,?_,?_⟩
   ·refine iW id fun v x hX kv=>⟨_,rfl,?_⟩
    have N3:=N2.DE hX (fun j e=>e) kv;obtain⟨u,hu,N4⟩:=N3.put;exact⟨bx N3.kp,u,hu,fin N4⟩
   ·obtain⟨u,hu,N3⟩:=N2.put
    refine⟨u,hu,bx N3.kp,?_⟩;refine iW id fun v x hX kv=>⟨_,rfl,?_⟩;exact fin (N3.DE hX (fun j e=>e) kv)
 ·have N1:=N0.JZ
  refine⟨bx N1.kp,bx N1.kp,?_,?_⟩
  ·refine iW id fun v x hX kv=>⟨_,rfl,?_⟩
   have N2:=N1.DE hX (fun j e=>e) kv;have N3:=N2.J0;obtain⟨u,hu,N4⟩:=N3.put;exact⟨bx N2.kp,bx N3.kp,u,hu,fin N4⟩
  ·have N2:=N1.J0
   refine⟨bx N2.kp,bx N2.kp,?_,?_⟩
   ·refine iW id fun v x hX kv=>⟨_,rfl,?_⟩
    have N3:=N2.DE hX (fun j e=>e) kv;obtain⟨u,hu,N4⟩:=N3.put;exact⟨bx N3.kp,u,hu,fin N4⟩
   ·obtain⟨u,hu,N3⟩:=N2.put
    refine⟨u,hu,bx N3.kp,?_⟩;refine iW id fun v x hX kv=>⟨_,rfl,?_⟩;exact fin (N3.DE hX (fun j e=>e) kv)
end
end Go.Proofs.YtfleamccglihoaaGreatDoor
