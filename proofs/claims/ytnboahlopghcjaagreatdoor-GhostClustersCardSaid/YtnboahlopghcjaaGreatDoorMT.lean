import Derived.Test.YtnboahlopghcjaaGreatDoorMS
import Derived.Test.YtnboahlopghcjaaGreatDoorMQ
import Derived.Test.YtnboahlopghcjaaGreatDoorMJ
import Derived.Test.YtnboahlopghcjaaGreatDoorMP
open Go.IntKind (i64 u64)
set_option linter.unusedVariables false
namespace Go.Proofs.YtnboahlopghcjaaGreatDoor
open Go.Proofs.Tryz
open Go Go.bU Go.RowKit
theorem Gj(D:DG)(s:HT){l:List HT}(hl:∀x∈l,x∈ids D):(rI D s l).length<=D.length:=by
 have:=cJ (m:=ids D) (p8 D s l) (fun x hx=>by
  rcases(ug.1 hx).1 with h|h
  ·exact h.1
  ·exact hl x h)
 rwa [fN]at this
theorem D6{D:DG}{l:List HT}(h:mK D l=0):l≠ []/\∀x∈l,x∈ids D:=by
 unfold mK at h;split at h
 ·cases h
 ·rename_i h0
  split at h
  ·cases h
  ·rename_i h1
   exact⟨h0,fun x hx=>Classical.byContradiction fun e=>h1 ⟨x,hx,e⟩⟩
section
variable{w w':World}{F:Nat->Prop}{c k:Nat}{G:GS}{m:CM}{K:Value->World->Prop}{A:Option Addr}{n cx:Nat}{l:List HT}{s:HT}
theorem lU.eK{q B sm bb cp e ce:Nat}{x:nZ}{ov:HT->Option Nat}{E:Option Addr}(h:lU w B q sm bb x ov A n cp E e ce):Cells w ((⟨q,0,none⟩:Addr).add 0) (cF x A n cp E e ce):=by
 intro j u hj;rw [add_zero,a8,ay h.top,Array.getElem?_append_left (by rw [aX];have:=(Array.getElem?_eq_some_iff.1 hj).1;rw [aX]at this;omega)];rw [Nat.zero_add];exact hj
end
theorem XV.off{w:World}{D:DG}{P:List Int}{m:XM}{x:Nat}{F:Nat->Prop}(h:XV w F x D P m):∀k,m.jL x k->¬F k:=fun k e=>by
 obtain⟨bl,c,mb,M,G⟩:=h.G;rcases e with e|e|e|e
 ·exact G.Fw k e
 ·exact fun f=>(h.fd k f).1 e
 ·exact fun f=>(h.fd k f).2 e
 ·exact(h.od k e).2.2.2
section
variable{w w':World}{F F':Nat->Prop}{c k q:Nat}{G:GS}{m:CM}{K:Value->World->Prop}{A B:Option Addr}{n cx cp e ce:Nat}{l:List HT}{x:nZ}{sz:HT->Option Nat}{sm:Option Nat}
theorem Seen.mono(h:Seen w F q x sz)(hF:∀j,F j->F' j):Seen w F' q x sz:=by
 obtain⟨A,n,cp,B,e,ce,sm,h⟩:=h;refine⟨A,n,cp,B,e,ce,sm,h.top,h.mg,h.bl,fun a ha=>hF _ (h.fA a ha),fun a ha=>hF _ (h.fB a ha),?_,hF _ h.fq⟩;rcases h.sz with g|⟨s,g1,g2,g3⟩
 ·exact .inl g
 ·exact .inr ⟨s,g1,hF _ g2,g3⟩
abbrev KI:Array Value:=cF ⟨dO,0,[],[]⟩ none 0 0 none 0 0
theorem BW(D:DG)(h:HT)(l:List HT):dr D h l=if h∈ids D then 7 else if l.length=0 then 9 else if(de l).length≠l.length then 9 else mK D l:=by
 unfold dr mK;by_cases h1:h∈ids D
 ·rw [if_pos h1,if_pos h1]
 ·rw [if_neg h1,if_neg h1]
  by_cases h2:l.length=0
  ·rw [if_pos h2,if_pos (.inl (by have:=me l;omega))]
  ·have hl:l≠ []:=fun e=>h2 (by rw [e];rfl)
   rw [if_neg h2];by_cases h3:(de l).length≠l.length
   ·rw [if_pos h3,if_pos (.inr h3)]
   ·have a:¬((de l).length=0\/(de l).length≠l.length):=by omega
    have hc:(∃p∈de l,p∉ids D)↔∃p∈l,p∉ids D:=⟨fun⟨p,hp,hq⟩=>⟨p,df.1 hp,hq⟩,fun⟨p,hp,hq⟩=>⟨p,df.2 hp,hq⟩⟩;rw [if_neg h3,if_neg a,if_neg hl];by_cases h4:∃p∈l,p∉ids D
    ·rw [if_pos h4,if_pos (hc.2 h4)]
    ·rw [if_neg h4,if_neg (fun e=>h4 (hc.1 e))]
set_option maxHeartbeats 2000000 in
theorem EL(h:CV w F c k G m)(hT:tc w)(IK:¬m.SX (Tryz.jl.g 1))(hD:G.D.length<=49)(pS:k<=1000)(Fs:HS w A n l)(hn:n<=5000)(id:HT)
 (hE:dr G.D id l≠0->∀w',Kept Nil w w'->K (.tuple #[.agg KI,.int .i64 (dr G.D id l)]) w')
 (hO:dr G.D id l=0->∀w' F' m' A n c1 B e c2,CV w' F' c k (dd k G id l) m'->m'.x=m.x->Kept (m.own c) w w'->(∀j,m'.own c j->m.own c j\/w.heap.size<=j)->(∀j,F' j->F j\/w.heap.size<=j)->
   bQ w' w.heap.size A n c1 (cQ k G (bZ G l) l).merge->Row w' w.heap.size gM 1 B e c2 (qW (cQ k G (bZ G l) l).dg)->(∀j,bg A=some j->bg B≠some j)->(∀j,bg A=some j\/bg B=some j->¬m'.own c j/\¬F' j)->
   K (.tuple #[.agg (cF (cQ k G (bZ G l) l) A n c1 B e c2),.int .i64 0]) w'):
 bk prog dD.id #[.pointer (some ⟨c,0,none⟩),.agg id.1,.slice A n cx] w K:=by
 have hlen:=Fs.len;refine dD.of ?_;unfold dD.W;intro w1 w2;have k1:Kept Nil w w1:=(Kept.refl _ _).alloc _;have xn:w1.heap[w.heap.size]? =some (.cells id.1 aj (0,0)):=aJ w _;have k2:Kept Nil w1 w2:=(Kept.refl _ _).alloc _;have ju:w2.heap[w1.heap.size]? =some (.cells zC bf (0,0)):=aJ w1 _;clear_value w2;have Bd:=k2.heap xn (fun h=>h);have og:=k1.tt k2;have s1:=k1.size;have l1:=aQ xn;have l2:=aQ ju;clear_value w1;have zs:(zC:Array Value)=KI:=rfl;have bad:∀ {u:World} {r:Int},Kept Nil w2 u->dr G.D id l=r->r≠0->(zC.size=35/\(∀n∈zC.toList,n.oneCell'=true)/\∀o,o<35->Wr u ((⟨w1.heap.size,0,none⟩:Addr).add o))/\
  let p:=setCells u (⟨w1.heap.size,0,none⟩:Addr) zC.toList 0;∃q:Array Value,(q.size=35/\Cells p (⟨w1.heap.size,0,none⟩:Addr) q)/\K (.tuple #[.agg q,.int .i64 r]) p:=fun {u r} ku hr h0=>by
  obtain⟨t1,t2,t3⟩:=dT (ku.heap ju (fun h=>h)) (cs:=zC) rfl;refine⟨⟨rfl,by rw [zs];exact dP _ _ _ _ _ _ _,fun j hj=>t1 j hj⟩,?_⟩;refine⟨_,⟨rfl,Cells.bC t2⟩,?_⟩;have:=hE (by rw [hr];exact h0) _ ((og.tt ku).trans t3 (fun j hj e=>by omega));rw [hr]at this;exact this
 have jf:=BW G.D id l;refine ml (h.same og) ⟨true,rfl,Split.no rfl ?_⟩;intro w3;have k3:Kept Nil w2 w3:=(Kept.refl _ _).drew;clear_value w3;have mh:=og.tt k3;have h3:=h.same mh;refine⟨_,h3.c2,id.1,⟨id.2.1,Cells.bC (k3.heap Bd (fun h=>h))⟩,_,h3.look id,?_⟩;by_cases hid:id∈ids G.D
 ·rw [if_pos hid]at jf
  exact Split.yes (by rw [if_pos hid];rfl) (bad k3 jf (by decide))
 rw [if_neg hid]at jf;refine Split.no (by rw [if_neg hid];rfl) ?_;by_cases EA:n=0
 ·rw [if_pos (by omega)]at jf
  exact Split.yes (by subst EA;rfl) (bad k3 jf (by decide))
 rw [if_neg (by omega)]at jf;refine Split.no (by simpa using (by omega:¬(n:Int)=0)) ?_;refine gK (Fs.same mh) (by omega) fun A4 c4 w4 jI k4=>⟨A4,_,c4,rfl,?_⟩;have pQ:=k3.tt k4;have rf:=mh.tt k4;by_cases Eu:(de l).length≠l.length
 ·rw [if_pos Eu]at jf
  exact Split.yes (by simp only [bne_iff_ne,ne_eq];omega) (bad pQ jf (by decide))
 rw [if_neg Eu]at jf;refine Split.no (by simp only [bne_eq_false_iff_eq];omega) ?_;refine xw (h.same rf) (Fs.same rf) (by omega) fun w5 k5=>⟨_,_,rfl,?_⟩;have CF:=pQ.tt k5;have pG:=rf.tt k5;generalize lK:(if mK G.D l=0 then bZ G l else dO)=s;intro w6;have k6:Kept Nil w5 w6:=(Kept.refl _ _).alloc _;have nM:w6.heap[w5.heap.size]? =some (.cells dO.1 aj (0,0)):=aJ w5 _;clear_value w6;obtain⟨t1,t2,t3⟩:=jg s nM rfl;refine⟨t1,?_⟩;intro w7
 replace t2:w7.heap[w5.heap.size]? =some (.cells s.1 aj (0,0)):=t2
 replace t3:Kept (· =w5.heap.size) w6 w7:=t3
 clear_value w7;have CA:Kept Nil w5 w7:=k6.trans t3 (fun j hj e=>by omega);have No:=CF.tt CA;have vt:=pG.tt CA;by_cases hm:mK G.D l≠0
 ·exact Split.yes (by simpa using hm) (bad No jf hm)
 have hm:mK G.D l=0:=by omega
 rw [if_pos hm]at lK;rw [hm]at jf⊢;refine Split.no rfl ⟨s.1,⟨s.2.1,Cells.bC t2⟩,?_⟩;obtain⟨fC,fF⟩:=D6 hm;have z6:s∈l:=by rw [<-lK];exact kj fC
 obtain⟨ch,oR⟩:=cP.ex h.eo.gV s;have h7:=h.same vt;refine BA I3 (Nat.le_trans (Gj G.D s fF) hD) h7 (hT.same vt) (by omega) pS (fF s z6) oR fF (Fs.same vt) hn fun v q B sm bb ov Am nm cp E e ce g1 gO g3 g4 g5 g6 g7=>⟨some ⟨q,0,none⟩,rfl,?_⟩;have AU:=vt.tt g7;have GA:=No.tt g7;have k5v:=CA.tt g7;have s07:=vt.size;have s0v:=AU.size;intro w8;have k8:Kept Nil v w8:=(Kept.refl _ _).drew;clear_value w8;have vr:=AU.tt k8;have h8:=h.same vr;have g18:=g1.same k8;have s8:=k8.size;refine⟨_,h8.c1,id.1,⟨id.2.1,Cells.bC ((GA.tt k8).heap Bd (fun h=>h))⟩,s.1,⟨s.2.1,Cells.bC (((g7.tt k8)).heap t2 (fun h=>h))⟩,?_⟩;refine AG h8.X (by omega) (hT.same vr) IK (Fs.same vr) hn id s fun u S' FX' hX9 k9 hS9 Qx=>⟨_,rfl,?_⟩;have eX:mX G.D id s l=(dd k G id l).D/\mW G.D G.P id s l=(dd k G id l).P:=by rw [<-lK];exact⟨Ig.symm,Ih.symm⟩
 rw [eX.1,eX.2]at hX9;obtain⟨mx,X9,hmx⟩:=hX9;have vp:∀j,m.own c j\/F j->j<w.heap.size:=h.low;have g1q:q<v.heap.size:=aQ g1.top;have g1s:sm<v.heap.size:=g1.ov.lt;have uI:∀j,w.heap.size<=j->¬m.SX j:=fun j hj e=>by have:=vp j (.inl (.inl e));omega
 have g19:=g18.aC k9 (uI q (by omega)) (uI sm (by omega)) (fun j hj _=>uI j (by have:=g6.1;omega)) (fun a ha=>uI _ (by have:=g5 a ha;omega));have s9:=k9.size;have JD:Kept m.SX w2 u:=((GA.tt k8).mono fun _ _ h=>h.elim).tt k9;have ncm:¬m.SX c/\¬m.SX m.mb:=⟨fun e=>(h.so _ e).1 rfl,fun e=>(h.so _ e).2 rfl⟩;have QU:u.heap[c]? =_:=k9.heap h8.top ncm.1;have ab3:=h8.all.aC k9 ncm.2;intro w10;have ny:Kept Nil u w10:=(Kept.refl _ _).drew;clear_value w10;have QW:=ny.heap QU (fun h=>h);have JP:=(JD.trans ny (fun _ _ h=>h.elim)).heap Bd (fun e=>uI _ (Nat.le_refl _) e);have VD:=ab3.aC ny (fun h=>h);obtain⟨vS,ZA,VC,Iy⟩:=VD.put Gi id (.pointer (some ⟨q,0,none⟩));refine⟨some m.mb,by rw [a8,ay QW];rfl,id.1,⟨id.2.1,Cells.bC JP⟩,vS,ZA,Is.mk rfl ?_⟩;have s10:=ny.size;have s11:=Iy.size;have lmb:m.mb<w.heap.size:=vp _ (.inl (.inr (.inr rfl)));have lc:c<w.heap.size:=vp _ (.inl (.inr (.inl rfl)));have Jv:Kept (· =m.mb) u vS:=(ny.mono fun _ _ h=>h.elim).tt Iy;have KB:=g19.aC Jv (by omega) (by omega) (fun j hj _ e=>by have:=g6.1;omega) (fun a ha e=>by have:=g5 a ha;omega);have abW:=Row.bo KB.bl;have R1:Kept (m.own c) w vS:=((vr.mono (S':=m.own c) fun _ _ h=>h.elim).trans k9 (fun _ _ h=>.inl h)).trans Jv (fun _ _ h=>.inr (.inr h));refine⟨_,⟨aX ..,KB.eK⟩,?_⟩;have xV:=g1.mg.len;have hnm:nm<=49:=by
  have IB:(cQ k G s l).merge=cC G s l:=rfl;have xT:(cC G s l).length<=49:=by
   have:=cJ (m:=ids G.D) (lr G s l).nodup (fun y hy=>by
    rcases(jt.1 hy).1 with h|h
    ·exact h.1
    ·exact fF y h)
   rw [fN]at this;omega
  rw [IB]at xV;omega
 have WA:e<=49:=by
  have h1:=(tB k G s l).1;have h2:=(Row.bo g1.bl).len;have IB:(cQ k G s l).merge=cC G s l:=rfl;have Y0:(cQ k G s l).dg=(fg k G s l).bl:=rfl;rw [Y0]at h2;rw [IB]at xV;omega
 refine nN (cQ k G s l) KB.mg abW (by omega) (by omega) fun A' c1 B' c2 mc tN FY Tj xO=>⟨_,rfl,?_⟩;have RV:Kept (m.own c) w2 mc:=((JD.mono (S':=m.own c) fun _ _ h=>.inl h).trans Jv (fun _ _ h=>.inr (.inr h))).trans xO (fun _ _ h=>h.elim);have fr2:∀j,w.heap.size<=j->¬m.own c j:=fun j hj e=>by have:=vp j (.inl e);omega
 have Zs:=RV.heap ju (fr2 _ (by omega));obtain⟨f1,f2,f3⟩:=dT Zs (cs:=cF (cQ k G s l) A' nm c1 B' e c2) (by rw [aX];rfl);refine⟨⟨aX ..,dP _ _ _ _ _ _ _,fun j hj=>f1 j (by rw [aX];exact hj)⟩,?_⟩;intro lV
 replace f2:lV.heap[w1.heap.size]? =_:=f2
 replace f3:Kept (· =w1.heap.size) mc lV:=f3
 clear_value lV;refine⟨_,⟨aX ..,Cells.bC f2⟩,?_⟩;have uv:Kept (· =w1.heap.size) vS lV:=(xO.mono fun _ _ h=>h.elim).tt f3;have s13:=uv.size;have lw1:w1.heap.size<w7.heap.size:=Nat.lt_of_lt_of_le l2 No.size;rw [lK]at hO;have za:=jN (k:=k) (G:=G) (h:=id) (ps:=l) jf;have TL:ids (dd k G id l).D=ids G.D++ [id]:=by rw [za];simp [ids]
 let F':Nat->Prop:=fun j=>F j\/(w7.heap.size<=j/\j<v.heap.size)\/FX' j
 let m':CM:=⟨m.x,m.mb,mx.jL m.x,FX',fun y=>if y=id then q else m.q y,fun y=>if y=id then ov else m.sz y⟩
 have Qn:∀j,mx.jL m.x j->m.SX j\/w8.heap.size<=j:=fun j e=>hS9 j (hmx j e);have XW:∀j,m'.own c j->m.own c j\/w8.heap.size<=j:=fun j e=>by
  rcases e with e|e|e
  ·exact(Qn j e).imp (fun e=>.inl e) (fun e=>e)
  ·exact .inl (.inr (.inl e))
  ·exact .inl (.inr (.inr e))
 have um:∀j,F' j->F j\/(w7.heap.size<=j/\j<u.heap.size):=fun j e=>by
  rcases e with e|e|e
  ·exact .inl e
  ·exact .inr ⟨e.1,by omega⟩
  ·rcases Qx j e with e'|e'
   ·exact .inl (h.fx j e')
   ·exact .inr ⟨by omega,X9.low j (.inr e)⟩
 have K7:∀j,mx.jL m.x j->j<u.heap.size:=fun j e=>X9.low j (.inl e);have Yp:Kept (fun j=>j=m.mb\/j=w1.heap.size) u lV:=(Jv.mono fun _ _ h=>.inl h).trans uv (fun _ _ h=>.inr h);have n1:∀j,F' j->¬(j=m.mb\/j=w1.heap.size):=fun j e e'=>by
  rcases e' with e'|e'
  ·rcases um j e with e|e
   ·exact h.fo j e (.inr (.inr e'))
   ·omega
  ·rcases um j e with e|e
   ·have:=vp j (.inr e);omega
   ·omega
 have n2:∀j,mx.jL m.x j->¬(j=m.mb\/j=w1.heap.size):=fun j e e'=>by
  rcases e' with e'|e'
  ·rcases Qn j e with e|e
   ·exact(h.so j e).2 e'
   ·omega
  ·rcases Qn j e with e|e
   ·have:=vp j (.inl (.inl e));omega
   ·have:=k8.size;have:=g7.size;omega
 have KA:lU lV B q sm bb (cQ k G s l) ov Am nm cp E e ce:=KB.aC uv (by omega) (by omega) (fun j hj _ e=>by have:=g6.1;omega) (fun a ha e=>by have:=g5 a ha;omega);have C':CV lV F' c k (dd k G id l) m':=by
  refine⟨?_,?_,?_,?_,h.eo.add id l,?_,fun j e=>.inr (.inr e),?_,?_,h.ne,?_⟩
  ·exact Yp.heap QU (fun e=>by rcases e with e|e;exact h.ne e;omega)
  ·exact⟨mx,X9.aC Yp n2 (fun j e=>n1 j (.inr (.inr e))),fun _ e=>e⟩
  ·have:=VC.aC uv (by show ¬m.mb=_;omega)
   have ef:(fun h=>if h∈ids (dd k G id l).D then some (Value.pointer (some ⟨m'.q h,0,none⟩))else none)=fun x=>if x=id then some (Value.pointer (some ⟨q,0,none⟩))else if x∈ids G.D then some (.pointer (some ⟨m.q x,0,none⟩))else none:=by
    funext y
    rw [TL];by_cases hy:y=id
    ·simp [hy,m']
    ·by_cases hy2:y∈ids G.D
     ·simp [hy,hy2,m']
     ·simp [hy,hy2]
   rw [ef];exact this
  ·intro y hy
   rw [TL,List.mem_append,List.mem_singleton]at hy;by_cases he:y=id
   ·subst he
    rw [(lR h.eo jf).1,lK];have e1:m'.q y=q:=if_pos rfl;have e2:m'.sz y=ov:=if_pos rfl;rw [e1,e2];refine⟨Am,nm,cp,E,e,ce,some sm,KA.top,KA.mg,Row.bo KA.bl,fun a ha=>.inr (.inl ⟨g5 a ha,?_⟩),fun a ha=>.inr (.inl ?_),.inr ⟨sm,rfl,.inr (.inl ⟨g4,g1s⟩),KA.ov⟩,.inr (.inl ⟨g3,g1q⟩)⟩
    ·have:=(g1.mA a ha).1
     have:=g6.2;omega
    ·subst ha
     obtain⟨q1,cur,q2⟩:=Row.bC g1.bl (k:=a.block) rfl;have:=aQ q2;have:=g6.1;exact⟨by omega,this |>fun _=>aQ q2⟩
   ·have hy:y∈ids G.D:=hy.elim (fun e=>e) (fun e=>absurd e he)
    rw [(jO h.eo hy).1];have e1:m'.q y=m.q y:=if_neg he;have e2:m'.sz y=m.sz y:=if_neg he;rw [e1,e2];exact(((h8.seen y hy).aC k9 (fun j e e'=>h.fo j e (.inl e'))).aC Yp (fun j e=>n1 j (.inl e))).mono (fun j e=>.inl e)
  ·have aaH:cP G.D G.P (bZ G l) ch:=by rw [lK];exact oR
   rw [<-lK]at gO;exact SZ.add h.Z h.eo jf aaH gO
  ·intro j e e'
   rcases e' with e'|e'|e'
   ·rcases e with e|e|e
    ·rcases Qn j e' with e'|e'
     ·exact h.fo j e (.inl e')
     ·have:=vp j (.inr e);omega
    ·rcases Qn j e' with e'|e'
     ·have:=vp j (.inl (.inl e'));omega
     ·omega
    ·exact XV.off X9 j e' e
   ·rcases um j e with e|e
    ·exact h.fo j e (.inr (.inl e'))
    ·have e':j=c:=e';omega
   ·rcases um j e with e|e
    ·exact h.fo j e (.inr (.inr e'))
    ·have e':j=m.mb:=e';omega
  ·intro j e
   rcases Qn j e with e'|e'
   ·exact h.so j e'
   ·exact⟨by omega,by show j≠m.mb;omega⟩
  ·rintro j (e|e)
   ·rcases e with e|e|e
    ·have:=K7 j e;omega
    ·have e:j=c:=e;omega
    ·have e:j=m.mb:=e;omega
   ·rcases um j e with e|e
    ·have:=vp j (.inr e);omega
    ·omega
 have EH:∀j,bg A'=some j->vS.heap.size<=j:=fun j hj=>(Row.bC tN hj).1;have Pm:∀j,bg B'=some j->vS.heap.size<=j:=fun j hj=>(Row.bC FY hj).1;have Vl:∀j,vS.heap.size<=j->¬m'.own c j/\¬F' j:=fun j hj=>⟨fun e=>by
  rcases e with e|e|e
  ·have:=K7 j e;omega
  ·have e:j=c:=e;omega
  ·have e:j=m.mb:=e;omega,fun e=>by
  rcases um j e with e|e
  ·have:=vp j (.inr e);omega
  ·omega⟩
 exact hO jf lV F' m' A' nm c1 B' e c2 C' rfl ((R1.trans uv (fun j hj e=>by omega))) (fun j e=>(XW j e).imp (fun h=>h) (fun h=>by omega)) (fun j e=>(um j e).imp (fun h=>h) (fun h=>by omega))
  (Row.base (Row.aC tN f3 (fun j hj e=>by have:=EH j hj;omega)) (fun j hj=>by have:=EH j hj;omega)) (Row.base (Row.aC FY f3 (fun j hj e=>by have:=Pm j hj;omega)) (fun j hj=>by have:=Pm j hj;omega)) Tj
  (fun j hj=>Vl j (hj.elim (EH j) (Pm j)))
end
def qH(G:GS)(a:HT)(l:List HT):List HT:=l.flatMap fun h=>(if h=a then []else [h])++cR (G.eK h).merge (G.eK h).dg
theorem cP.Ye{D:DG}{P:List Int}{h:HT}{l:List HT}(hc:cP D P h l)(H:ra D P):l.length<=D.length:=by
 rcases hc with⟨_,rfl⟩|⟨i,nd,ks,h1,_,h3,rfl⟩
 ·exact Nat.zero_le _
 ·have:=h3.len H.par
  rw [List.length_map];have:=(lgeS h1).1;omega
section
variable{k:Nat}{G:GS}
theorem Je(H:ga k G):∀(l:List HT) (s:HT),s∈ids G.D->cP G.D G.P s l->∀y,y∈qH G s l↔y∈G.world s:=by
 have W:=H.W;intro l
 induction l with
 |nil=>
  intro s hs hc;rcases hc.inv W H.gV hs with⟨e,_⟩|⟨_,_,e,_⟩<;>cases e
 |cons x r ih=>
  intro s hs hc y;rcases hc.inv W H.gV hs with⟨e,nd,h0,rfl⟩|⟨t,r',e,oh,ht,hr⟩
  ·obtain⟨rfl,rfl⟩:=List.cons.inj e
   obtain⟨q1,q2⟩:=H.root nd h0;rw [q2];simp [qH,q1,cR]
  ·obtain⟨rfl,rfl⟩:=List.cons.inj e
   obtain⟨q1,q2,q3,q4,q5⟩:=H.up t x oh;have hx:x∉r:=fun hx=>by
    have h1:=oh.par H.gV;rcases((hr.mem W H.gV).1 hx).Dg W H.gV with e|e
    ·subst e;exact eB.irrefl W _ (.one h1)
    ·exact eB.irrefl W _ (e.trans (.one h1))
   have htr:t∈r:=(hr.mem W H.gV).2 (Ch.refl H.gV ht);have ih':=ih t ht hr y;rw [q2,List.mem_append,List.mem_append,List.mem_singleton,<-ih'];unfold qH;rw [List.flatMap_cons,List.mem_append,if_pos rfl,List.nil_append];simp only [List.mem_flatMap,List.mem_append];constructor
   ·rintro(h|⟨z,hz,h|h⟩)
    ·exact .inr h
    ·split at h
     ·simp at h
     ·rw [List.mem_singleton]at h
      subst h;by_cases e:y=t
      ·exact .inl (.inr e)
      ·exact .inl (.inl ⟨y,hz,.inl (by rw [if_neg e];simp)⟩)
    ·exact .inl (.inl ⟨z,hz,.inr h⟩)
   ·rintro((⟨z,hz,h|h⟩|h)|h)
    ·split at h
     ·simp at h
     ·rw [List.mem_singleton]at h
      subst h;refine .inr ⟨y,hz,.inl ?_⟩;rw [if_neg (fun e=>hx (by rw [<-e];exact hz))];simp
    ·exact .inr ⟨z,hz,.inr h⟩
    ·subst h
     refine .inr ⟨y,htr,.inl ?_⟩;rw [if_neg (fun e=>hx (by rw [<-e];exact htr))];simp
    ·exact .inl h
theorem ln(H:ga k G){h:HT}(hm:h∈ids G.D):(G.eK h).merge.length<=G.D.length/\(G.eK h).dg.length=(G.eK h).merge.length:=by
 obtain⟨l,c⟩:=cP.ex H.gV h;rcases c.inv H.W H.gV hm with⟨_,nd,h0,rfl⟩|⟨t,r',_,oh,_,_⟩
 ·obtain⟨q1,_⟩:=H.root nd h0
  rw [q1];simp
 ·obtain⟨_,_,q3,q4,q5⟩:=H.up t h oh
  refine⟨?_,q3⟩;have:=cJ (m:=ids G.D) q4 (fun y hy=>(((q5 y).1 hy).1.mem H.W).1)
  rwa [fN]at this
theorem pC:∀(m:List HT) (b:List Bool),(cR m b).length<=m.length
 | [],_=>by simp [cR]
 |_::_,[]=>by simp [cR]
 |h::l,b::m=>by
  have:=pC l m;unfold cR;split
  ·simp only [List.length_cons];omega
  ·simp only [List.length_cons];omega
theorem tX(H:ga k G)(a:HT):∀(l:List HT),(∀h∈l,h∈ids G.D)->(qH G a l).length<=l.length*(G.D.length+1)
 | [],_=>by simp [qH]
 |h::l,hl=>by
  have h1:=tX H a l (fun x hx=>hl x (List.mem_cons_of_mem _ hx));have h2:=(ln H (hl h List.mem_cons_self)).1;have h3:=pC (G.eK h).merge (G.eK h).dg;unfold qH at h1⊢;rw [List.flatMap_cons,List.length_append,List.length_append,List.length_cons,Nat.add_mul,Nat.one_mul];have:(if h=a then([]:List HT)else [h]).length<=1:=by split<;>simp
  omega
theorem rX{m:List HT}{b:List Bool}(hl:b.length=m.length){i:Nat}{x:HT}{c:Bool}(hx:m[i]? =some x)(hc:b[i]? =some c):cR (m.take (i+1)) (b.take (i+1))=cR (m.take i) (b.take i)++if c then [x]else []:=by
 rw [List.take_add_one,List.take_add_one,hx,hc];exact o0 (by simp [hl])
end
def mZ(w:World)(B ob:Nat)(av:Nat->Prop)(acc:List HT):Prop:=∃A c,w.heap[ob]? =some (.cells #[.slice A acc.length c] az (0,0))/\bQ w B A acc.length c acc/\∀j,bg A=some j->j≠ob/\¬av j
section
variable{w w' iZ:World}{B ob bx:Nat}{av av':Nat->Prop}{acc:List HT}
theorem mZ.aC{S:Nat->Prop}(H:mZ w B ob av acc)(hk:Kept S w w')(h1:¬S ob)(h2:∀j cs t fr,w.heap[j]? =some (.cells cs t fr)->B<=j->¬av j->¬S j):mZ w' B ob av acc:=by
 obtain⟨A,c,g1,g2,g3⟩:=H;refine⟨A,c,hk.heap g1 h1,Row.aC g2 hk (fun j hj=>?_),g3⟩;obtain⟨q1,cur,q2⟩:=Row.bC g2 hj;exact h2 j _ _ _ q2 q1 (g3 j hj).2
theorem mZ.same(H:mZ w B ob av acc)(hk:Kept Nil w w'):mZ w' B ob av acc:=H.aC hk (fun h=>h) (fun _ _ _ _ _ _ _ h=>h)
theorem mZ.avo(H:mZ w B ob av acc)(h:∀j,av' j->av j\/w.heap.size<=j):mZ w B ob av' acc:=by
 obtain⟨A,c,g1,g2,g3⟩:=H;refine⟨A,c,g1,g2,fun j hj=>⟨(g3 j hj).1,fun e=>?_⟩⟩;obtain⟨q1,cur,q2⟩:=Row.bC g2 hj;rcases h j e with e|e
 ·exact(g3 j hj).2 e
 ·have:=aQ q2;omega
theorem mZ.push(H:mZ w B ob av acc)(hB:B<=w.heap.size)(hlen:acc.length<=100000){x:HT}(lj:Kept Nil w iZ)(hx:HS iZ (some ⟨bx,0,none⟩) 1 [x])(Ac:B<=ob)(Hy:∀j,av j->j<w.heap.size)(XY:¬av ob):
 ∃A c,w.cell? ⟨ob,0,none⟩=some (.slice A acc.length c)/\∃A' c' u,(Builtin.append_ #[az,az] az #[.slice A acc.length c,.slice (some ⟨bx,0,none⟩) 1 1]).run prog iZ=.ok (.slice A' (acc.length+1) c') u/\Wr u ⟨ob,0,none⟩/\
  mZ (u.setCell ⟨ob,0,none⟩ (.slice A' (acc.length+1) c')) B ob av (acc++ [x])/\Kept (fun j=>B<=j/\¬av j) w (u.setCell ⟨ob,0,none⟩ (.slice A' (acc.length+1) c'))/\
  ∀l e R,Live l e R w->Live l e R (u.setCell ⟨ob,0,none⟩ (.slice A' (acc.length+1) c')):=by
 obtain⟨A,c,g1,g2,g3⟩:=H;have abK:=lj.heap g1 (fun h=>h);have Ps:bQ iZ B A acc.length c acc:=Row.aC g2 lj (fun _ _ h=>h);have hs:=lj.size;obtain⟨A',c',u,hr,row,hg,hb⟩:=cD (cx:=1) az Ps hx (by omega) (by omega);have Ho:Kept (fun j=>bg A=some j) iZ u:=Kept.grown (Kept.refl _ _) hg (fun j hj _=>hj);have WY:=Ho.heap abK (fun h=>(g3 _ h).1 rfl);have mL:Kept (· =ob) u (u.setCell ⟨ob,0,none⟩ (.slice A' (acc.length+1) c')):=Kept.setCell (S:=fun j=>j=ob) (Kept.refl _ u) (p:=⟨ob,0,none⟩) (fun _=>rfl) _;have hAd:∀j,bg A'=some j->j≠ob/\¬av j:=fun j hj=>by
  rcases hb j hj with h|h
  ·exact g3 j h
  ·exact⟨by have:=aQ g1;omega,fun e=>by have:=Hy j e;omega⟩
 refine⟨A,c,by rw [ay g1];rfl,A',c',u,hr,dL WY (by simp),⟨A',c',?_,?_,hAd⟩,?_,fun l e R lv=>?_⟩
 ·rw [List.length_append,List.length_singleton];exact cV WY 0 _
 ·rw [List.length_append,List.length_singleton];exact Row.aC row mL (fun j hj e=>(hAd j hj).1 e)
 ·refine((lj.mono (S':=fun j=>B<=j/\¬av j) (fun _ _ h=>h.elim)).trans Ho (fun j hj e=>?_)).trans mL (fun j hj e=>by subst e;exact⟨Ac,XY⟩)
  exact⟨(Row.bC g2 e).1,(g3 j e).2⟩
 ·have V9:=lv.aC lj (fun h=>h) (fun h=>h)
  have lu:Live l e R u:=V9.aC Ho (fun h=>by obtain⟨_,cur,hc⟩:=Row.bC Ps h;exact iV hc V9.loop rfl) (fun h=>by obtain⟨_,cur,hc⟩:=Row.bC Ps h;exact qJ hc V9.mark rfl);exact lu.aC mL (iV WY lu.loop).symm (qJ WY lu.mark).symm
end
section
variable{w w' v:World}{F:Nat->Prop}{c k:Nat}{G:GS}{m:CM}{K:Value->World->Prop}
theorem x8{Q:aN}{l e B ob xb n c1 e1 c2:Nat}{av:Nat->Prop}{R:Loop}{x:nZ}{A E:Option Addr}{acc:List HT}(H:mZ v B ob av acc)(hB:B<=v.heap.size)(Ac:B<=ob)(XY:¬av ob)(Hy:∀j,av j->j<v.heap.size)(hxa:av xb)
 (hx:v.heap[xb]? =some (.cells (cF x A n c1 E e1 c2) bf (0,0))) (hmg:HS v A n x.merge) (xU:Bo v E e1 x.dg) (hlen:x.dg.length=x.merge.length) (kY:acc.length+n<=100000) (hA:∀a,A=some a->a.block<B) (hE:∀a,E=some a->a.block<B) (lv:Live l e R v)
 (hQ:∀u,mZ u B ob av (acc++cR x.merge x.dg)->Kept (fun j=>B<=j/\¬av j) v u->Live l e R u->Q .normal [] u):
 Holds (some l) [] prog 66 (.loop (lB (bB (sR (sR (sR (bB (rB (bB (sR (sL (sR (sR (sR (body aA.fn))))))))))))))) (aA.q1 l Q) [(6,.pointer (some ⟨ob,0,none⟩)),(8,.pointer (some ⟨xb,0,none⟩)),(47,.slice A n c1),(48,.int .i64 (n:Int)),(49,.int .i64 0)] v:=by
 have hn:=hmg.len;have he:=xU.len;refine aA.cf (I:=fun s u=>∃i:Nat,s=(i:Int)/\i<=n/\mZ u B ob av (acc++cR (x.merge.take i) (x.dg.take i))/\Kept (fun j=>B<=j/\¬av j) v u/\Live l e R u) (μ:=fun s _=>((n:Int)-s).toNat) (s:=0) ⟨0,rfl,Nat.zero_le _,by simpa [cR]using H,Kept.refl _ _,lv⟩ ?_;rintro s u ⟨i,rfl,hi,HO,ku,lu⟩;unfold aA.B1;refine Split.dec (fun cH=>?_) (fun fV=>?_)
 ·have dQ:i<n:=by omega
  obtain⟨y,hy⟩:∃y,x.merge[i]? =some y:=⟨_,List.getElem?_eq_getElem (by omega)⟩;obtain⟨b,hb⟩:∃b,x.dg[i]? =some b:=⟨_,List.getElem?_eq_getElem (by omega)⟩;have LA:=rX hlen hy hb;have WK:(acc++cR (x.merge.take i) (x.dg.take i)).length<=100000:=by
   have:=pC (x.merge.take i) (x.dg.take i);rw [List.length_append];rw [List.length_take]at this;omega
  refine(hmg.aC ku (fun a ha e=>by have:=hA a ha;omega)).load (i:=(i:Int)) (by omega) hy ?_;intro w2;obtain⟨qR,iD,iH⟩:=gg (w:=u) (z:=dO.1) (cs:=y.1) (t:=aj) (by rw [y.2.1];rfl);refine⟨⟨y.2.1,y.2.one,fun j hj=>qR j (by rw [y.2.1];exact hj)⟩,?_⟩;intro w3
  replace iD:w3.heap[u.heap.size]? =some (.cells y.1 aj (0,0)):=iD
  replace iH:Kept Nil u w3:=iH
  clear_value w3;have oO:Kept (fun j=>B<=j/\¬av j) v w3:=ku.trans iH (fun _ _ h=>h.elim);have zc:=oO.heap hx (fun e=>e.2 hxa);have s3:=oO.size;have su:=ku.size;obtain⟨aE,hE1,_,hE3⟩:=(xU.aC oO (fun a ha e=>by have:=hE a ha;omega)).at_ i b hb;subst hE1;have OX:=(dJ x A n c1 (some aE) e1 c2 #[]).2.2.1;rw [Array.append_empty]at OX;refine⟨some aE,e1,c2,by rw [a8,ay zc];exact OX,⟨by omega,by omega⟩,b,by rw [Int.toNat_natCast,Nat.mul_one];exact hE3,?_⟩;have HO3:=HO.same iH;have lu3:=lu.aC iH (fun h=>h) (fun h=>h);rw [dq (n:=(i:Int)) (by omega) (by omega)];cases b with
  |false=>
   refine Split.no rfl ?_;exact⟨(i:Int)+1,rfl,⟨i+1,rfl,by omega,by rw [LA];simpa using HO3,oO,lu3⟩,by simp only;omega⟩
  |true=>
   refine Split.yes rfl ?_;have lj:Kept Nil w3 (w3.alloc (.cells (y.1.toList++ []).toArray aj)):=(Kept.refl _ _).alloc _;obtain⟨A0,c0,q1,A',c',t,q2,q3,q4,q5,q6⟩:=HO3.push (by omega) WK lj (iq w3 y) Ac (fun j hj=>by have:=Hy j hj;omega) XY;refine⟨A0,_,c0,q1,y.1,⟨y.2.1,Cells.bC iD⟩,y.2.1,A',_,c',t,q2,q3,?_⟩;exact⟨(i:Int)+1,rfl,⟨i+1,rfl,by omega,by rw [LA,<-List.append_assoc];exact q4,oO.tt q5,q6 l e R lu3⟩,by simp only;omega⟩
 ·rw [aP,aA.Xn]
  rw [List.take_of_length_le (by omega),List.take_of_length_le (by omega)]at HO;exact hQ u HO ku lu
set_option maxHeartbeats 2000000 in
theorem zu(h:CV w F c k G m)(hD:G.D.length<=300){a:HT}(ha:a∈ids G.D)
 (hK:∀A c' w',bQ w' w.heap.size A (de (G.world a)).length c' (de (G.world a))->Kept Nil w w'->K (.tuple #[.slice A (de (G.world a)).length c',.int .i64 0]) w'):
 bk prog aA.id #[.pointer (some ⟨c,0,none⟩),.agg a.1] w K:=by
 have W:=h.eo.W;have H:=h.eo.gV;obtain⟨l,hc⟩:=cP.ex H a;have LV:∀y∈l,y∈ids G.D:=fun y hy=>((hc.mem W H).1 hy).mem.1;have hll:=hc.Ye H;refine aA.of ?_;unfold aA.W;intro w4 w5;have k4:Kept Nil w w4:=(Kept.refl _ _).alloc _;have II:w4.heap[w.heap.size]? =some (.cells #[.pointer (some ⟨c,0,none⟩)] fH (0,0)):=aJ w _;have k5:Kept Nil w4 w5:=(Kept.refl _ _).alloc _;have Bw:w5.heap[w4.heap.size]? =some (.cells a.1 aj (0,0)):=aJ w4 _;clear_value w5;have Qt:=k5.heap II (fun h=>h);have pG:=k4.tt k5;have s4:=k4.size;have l4:=aQ II;have l5:=aQ Bw;clear_value w4;refine⟨some ⟨c,0,none⟩,by rw [ay Qt];rfl,ml (h.same pG) ⟨true,rfl,Split.no rfl ?_⟩⟩;intro w6;have k6:Kept Nil w5 w6:=(Kept.refl _ _).drew;clear_value w6;have mM:=pG.tt k6;have h6:=h.same mM;have hc6:=k6.heap Qt (fun h=>h);have tq:=k6.heap Bw (fun h=>h);refine⟨some ⟨c,0,none⟩,by rw [ay hc6];rfl,Is.mk rfl ⟨_,h6.c2,a.1,⟨a.2.1,Cells.bC tq⟩,_,h6.lJ ha,Split.no rfl ?_⟩⟩;intro w7 w8;have k7:Kept Nil w6 w7:=(Kept.refl _ _).alloc _;have ho7:w7.heap[w6.heap.size]? =some (.cells #[.slice none 0 0] az (0,0)):=aJ w6 _;have k8:Kept Nil w7 w8:=(Kept.refl _ _).drew;clear_value w8;have ho8:=k8.heap ho7 (fun h=>h);have Jw:=k7.tt k8;have vr:=mM.tt Jw;have Uf:=Jw.heap hc6 (fun h=>h);have WL:=Jw.heap tq (fun h=>h);have s6:=mM.size;have s56:=k6.size;have l7:=aQ ho8;clear_value w7;refine⟨some ⟨c,0,none⟩,by rw [ay Uf];rfl,Is.mk rfl ⟨_,(h.same vr).c1,a.1,⟨a.2.1,Cells.bC WL⟩,?_⟩⟩;refine oE a fun gP pb qb lW Bl Bi z8 hqb=>⟨_,rfl,?_⟩;have s8:=Jw.size;have VY:=lW.size
 have vu:=vr.tt lW;have afR:=vu.size;have Uh:=lW.heap Uf (fun h=>h);have UP:=lW.heap WL (fun h=>h);have Tb:=lW.heap ho8 (fun h=>h);have agk:=aQ Uh;have agq:=aQ UP;have agi:=aQ Tb;have age:=aQ Bl;have agd:=aQ Bi
 let xy:Value:=.func (.func aV.id) #[] #[.pointer (some ⟨pb,0,none⟩),.pointer (some ⟨qb,0,none⟩)]
 let ρ0:Env:= [(2,.pointer (some ⟨w.heap.size,0,none⟩)),(3,.pointer (some ⟨w4.heap.size,0,none⟩)),(4,.slice none 0 0),(5,.int .i64 0),(6,.pointer (some ⟨w6.heap.size,0,none⟩)),(28,xy)]
 let av:Nat->Prop:=fun j=>j=w.heap.size\/j=w4.heap.size\/j=pb\/j=qb
 let S0:Nat->Prop:=fun j=>w.heap.size<=j/\¬av j
 let J:Nat->World->Prop:=fun j u=>mZ u w.heap.size w6.heap.size av (qH G a (l.take j))/\Kept S0 gP u/\j<=l.length
 have nav:¬av w6.heap.size:=fun e=>by rcases e with e|e|e|e<;>omega
 have Hy:∀j,av j->j<gP.heap.size:=fun j e=>by rcases e with e|e|e|e<;>omega
 have D9:∀j,m.own c j\/F j->j<w.heap.size:=h.low;have hCV:∀ {u:World},Kept S0 gP u->CV u F c k G m:=fun ku=>(h.same vu).aC ku (fun j e e'=>by have:=D9 j (.inl e);have:=e'.1;omega) (fun j e e'=>by have:=D9 j (.inr e);have:=e'.1;omega);have k0S:∀ {u:World},Kept S0 gP u->Kept Nil w u:=fun ku=>vu.trans ku (fun j hj e=>by have:=e.1;omega)
 change Holds none [] prog _ _ _ ρ0 gP
 have kL:∀ {u1 u2:World} {R:Loop},Live (gP.heap.size+1) gP.heap.size R u1->Kept (· =gP.heap.size+1) u1 u2->∀ {acc:List HT} {av':Nat->Prop},mZ u1 w.heap.size w6.heap.size av' acc->mZ u2 w.heap.size w6.heap.size av' acc:=fun {u1 u2 R} nJ mw {acc av'} h1=>
  h1.aC mw (by omega) (fun j cs t fr hj _ _ e=>by subst e;rw [nJ.loop]at hj;cases hj)
 refine lH (n:=66) (ρ:=ρ0) (ρ0:=ρ0) ng mix aA.k (t:=28) (ps:= #[29]) (by kernel_rfl) (by decide) rfl aV.at_ rfl (.inl rfl) (fun i x hi hx=>hx) rfl pJ l (fun _=>rfl) (fun q hq=>by
  have Vp:q=29:=by simpa using hq
  subst Vp;exact⟨by decide,by decide⟩) (wR (F:=m.FX) (x:=m.x) (m:=(h.X).choose) (pb:=pb) (qb:=qb) hc (by omega)) J (fun _ _=>False) ?_ (fun _ _ _ _ _ h=>h.elim) (fun j u hJ=>⟨((h.X).choose_spec.1.same vu).aC hJ.2.1 (fun j e e'=>by have:=D9 j (.inl (.inl ((h.X).choose_spec.2 j e)));have:=e'.1;omega) (fun j e e'=>by have:=D9 j (.inr (h.fx j e));have:=e'.1;omega),hJ.2.1.heap Bl (fun e=>e.2 (.inr (.inr (.inl rfl)))),hJ.2.1.heap Bi (fun e=>e.2 (.inr (.inr (.inr rfl))))⟩) ?_ ?_ ?_ (fun _ _ h=>h.elim) (fun _ _ _ h=>h.elim)
 ·rintro j u1 u2 R nJ ⟨h1,h2,h3⟩ mw
  exact⟨kL nJ mw h1,h2.trans mw (fun k hk e=>by omega),h3⟩
 ·intro R
  refine⟨?_,((Kept.refl _ _).alloc _).alloc _,Nat.zero_le _⟩;exact⟨none,0,iU (iU Tb _) _,bQ.nil _ _,fun j hj=>by cases hj⟩
 ·rintro j z u1 R hz ⟨h1,h2,h3⟩ nJ
  have e7:jX ρ0 ((#[29]:Array Nat).toList.zip (pJ z))= [(2,.pointer (some ⟨w.heap.size,0,none⟩)),(3,.pointer (some ⟨w4.heap.size,0,none⟩)),(4,.slice none 0 0),(5,.int .i64 0),(6,.pointer (some ⟨w6.heap.size,0,none⟩)),(28,xy),(29,.agg z.1)]:=rfl;rw [e7,aA.a1];have sV:=(lgeS hz).1;have Ep:=LV z (List.mem_of_getElem? hz);unfold aA.A1;intro Fh;obtain⟨qR,iD,iH⟩:=gg (w:=u1) (z:=dO.1) (cs:=z.1) (t:=aj) (by rw [z.2.1];rfl);refine⟨⟨z.2.1,z.2.one,fun j hj=>qR j (by rw [z.2.1];exact hj)⟩,?_⟩;intro Fg
  replace iD:Fg.heap[u1.heap.size]? =some (.cells z.1 aj (0,0)):=iD
  replace iH:Kept Nil u1 Fg:=iH
  clear_value Fg;have xq:=nJ.aC iH (fun h=>h) (fun h=>h);refine⟨xq,fun w2 R2 mE ri=>?_⟩;have kZ:=mE.heap iD (iV iD xq.loop);have Z8:Kept (· =gP.heap.size+1) u1 w2:=(iH.mono fun _ _ h=>h.elim).tt mE;have qP:Kept S0 gP w2:=h2.trans Z8 (fun k hk e=>by omega);have su1:=h2.size;have s2:=qP.size;have lb2:=aQ kZ
  let Pz:Nat->Prop:=fun j=>av j\/j=u1.heap.size
  let S1:Nat->Prop:=fun j=>w.heap.size<=j/\¬Pz j
  have Rj:¬Pz w6.heap.size:=fun e=>by rcases e with e|e;exact nav e;omega
  have UM:∀j,Pz j->j<w2.heap.size:=fun j e=>by rcases e with e|e;have:=Hy j e;omega;omega
  have HO2:mZ w2 w.heap.size w6.heap.size Pz (qH G a (l.take j)):=(kL xq mE ((h1.avo (av':=Pz) (fun j e=>e.imp (fun h=>h) (fun h=>by omega))).same iH));have aiO:(qH G a (l.take j)).length+1+G.D.length<=100000:=by
   have h1:=tX h.eo a (l.take j) (fun y hy=>LV y (List.mem_of_mem_take hy));have h2:(l.take j).length<=300:=by rw [List.length_take];omega
   have h3:(l.take j).length*(G.D.length+1)<=300*301:=Nat.mul_le_mul h2 (by omega);omega
  have Vm:qH G a (l.take (j+1))=qH G a (l.take j)++(if z=a then []else [z])++cR (G.eK z).merge (G.eK z).dg:=by
   unfold qH;rw [List.take_add_one,hz,List.flatMap_append,List.append_assoc];simp
  have kS1:∀ {u:World},Kept S1 w2 u->Kept S0 gP u:=fun ku=>qP.trans ku (fun j hj e=>⟨e.1,fun e'=>e.2 (.inl e')⟩);have cm1:=(ln h.eo Ep).1;have cm2:=(ln h.eo Ep).2;have tail:∀ {u:World} {acc:List HT},mZ u w.heap.size w6.heap.size Pz acc->acc.length+G.D.length<=100000->Kept S1 w2 u->Live (gP.heap.size+1) gP.heap.size R2 u->acc++cR (G.eK z).merge (G.eK z).dg=qH G a (l.take (j+1))->
   let k1:=u.drew;∃m1:Option Addr,k1.cell? ⟨w.heap.size,0,none⟩=some (.pointer m1)/\Is m1 fun n1:Addr=>∃o1:Option Nat,k1.cell? (n1.add 2)=some (.map o1)/\∃p1:Array Value,(p1.size=32/\Cells k1 ⟨u1.heap.size,0,none⟩ p1)/\∃q1:Option Addr,(Instr.lookup cX (.map o1) (.agg p1) false).run prog k1=.ok (.pointer q1) k1/\Is q1 fun r1:Addr=>∃t1:Array Value,(t1.size=35/\Cells k1 (r1.add 0) t1)/\let KW:=k1.alloc (.cells zC bf);(∃cs:Array Value,(.agg t1:Value)=.agg cs/\cs.size=35/\Cells KW (r1.add 0) cs)/\(Instr.lookup cX (.map o1) (.agg p1) false).run prog KW=.ok (.pointer q1) KW/\(∃cs:Array Value,(.agg p1:Value)=.agg cs/\cs.size=32/\Cells KW ⟨u1.heap.size,0,none⟩ cs)/\KW.cell? (n1.add 2)=some (.map o1)/\KW.cell? ⟨w.heap.size,0,none⟩=some (.pointer m1)/\(t1.size=35/\(∀v1∈t1.toList,v1.oneCell'=true)/\∀x1,x1<35->Wr KW ((⟨k1.heap.size,0,none⟩:Addr).add x1))/\let y1:=setCells KW (⟨k1.heap.size,0,none⟩:Addr) t1.toList 0;∃z1:Option Addr,∃a2 b2:Nat,y1.cell? ((⟨k1.heap.size,0,none⟩:Addr).add 33)=some (.slice z1 a2 b2)/\Holds (some (gP.heap.size+1)) [] prog 66 (.loop (lB (bB (sR (sR (sR (bB (rB (bB (sR (sL (sR (sR (sR (body aA.fn))))))))))))))) (aA.q1 (gP.heap.size+1) (Vn (gP.heap.size+1) gP.heap.size R2 (J (j+1)) (fun _ _=>False))) [(6,.pointer (some ⟨w6.heap.size,0,none⟩)),(8,.pointer (some (⟨k1.heap.size,0,none⟩:Addr))),(47,.slice z1 a2 b2),(48,.int .i64 (a2:Int)),(49,.int .i64 0)] y1:=by
   intro u acc HO WK ku lu heq vO;have Gw:Kept Nil u vO:=(Kept.refl _ _).drew;clear_value vO;have RX:=ku.trans Gw (fun _ _ h=>h.elim);have Lf:=kS1 RX;have Pq:=hCV Lf;have Ug:=Lf.heap Uh (fun e=>e.2 (.inl rfl));have UC:=RX.heap kZ (fun e=>e.2 (.inr rfl));obtain⟨A1,n1,c1,B1,m1,d1,s1,sa⟩:=Pq.seen z Ep;refine⟨some ⟨c,0,none⟩,by rw [ay Ug];rfl,Is.mk rfl ⟨_,Pq.c2,z.1,⟨z.2.1,Cells.bC UC⟩,_,Pq.lJ Ep,Is.mk rfl ⟨_,⟨aX ..,sa.eK⟩,?_⟩⟩⟩;intro zT;have Iu:Kept Nil vO zT:=(Kept.refl _ _).alloc _;have YL:zT.heap[vO.heap.size]? =some (.cells zC bf (0,0)):=aJ vO _;clear_value zT;have h51:=Pq.same Iu;have XL:=sa.aC Iu (fun _ _ h=>h);refine⟨⟨_,rfl,aX ..,XL.eK⟩,h51.lJ Ep,⟨_,rfl,z.2.1,Cells.bC (Iu.heap UC (fun h=>h))⟩,h51.c2,by rw [ay (Iu.heap Ug (fun h=>h))];rfl,?_⟩;obtain⟨t1,t2,t3⟩:=dT YL (cs:=cF (G.eK z) A1 n1 c1 B1 m1 d1) (by rw [aX];rfl);refine⟨⟨aX ..,dP _ _ _ _ _ _ _,fun j hj=>t1 j (by rw [aX];exact hj)⟩,?_⟩;intro Dp
   replace t2:Dp.heap[vO.heap.size]? =some (.cells (cF (G.eK z) A1 n1 c1 B1 m1 d1) bf (0,0)):=t2
   replace t3:Kept (· =vO.heap.size) zT Dp:=t3
   clear_value Dp;have g33:=(dJ (G.eK z) A1 n1 c1 B1 m1 d1 #[]).2.1;rw [Array.append_empty]at g33;refine⟨A1,n1,c1,by rw [a8,ay t2];exact g33,?_⟩;have yX:Kept Nil vO Dp:=Iu.trans t3 (fun j hj e=>by omega);have RH:=Gw.tt yX;have s50:=Gw.size;have s52:=yX.size;have su:=ku.size;have lx:=aQ t2;have J0:=sa.mg.len
   let av2:Nat->Prop:=fun j=>Pz j\/j=vO.heap.size
   have Ya:¬av2 w6.heap.size:=fun e=>by rcases e with e|e;exact Rj e;omega
   refine x8 (x:=G.eK z) (av:=av2) (acc:=acc) (R:=R2) ((HO.same Gw |>.avo (av':=av2) (fun j e=>e.imp (fun h=>h) (fun h=>by omega))).same yX) (by omega) (by omega) Ya (fun j e=>by rcases e with e|e;have:=UM j e;omega;omega) (.inr rfl) t2 (sa.mg.same yX) (sa.bl.same yX) cm2 (by omega) (fun a ha=>D9 _ (.inr (sa.fA a ha))) (fun a ha=>D9 _ (.inr (sa.fB a ha))) (lu.aC RH (fun h=>h) (fun h=>h)) fun t HOt kt lt=>?_;refine⟨lt,?_,?_,by omega⟩
   ·rw [heq]at HOt
    exact HOt.avo (fun j e=>.inl (.inl (.inl e)))
   ·exact kS1 ((ku.trans RH (fun _ _ h=>h.elim)).trans kt (fun j hj e=>⟨e.1,fun e'=>e.2 (.inl e')⟩))
  rw [aA.y1];unfold aA.Y1;have Pc:=qP.heap UP (fun e=>e.2 (.inr (.inl rfl)));refine⟨z.1,⟨z.2.1,Cells.bC kZ⟩,a.1,⟨a.2.1,Cells.bC Pc⟩,⟨z.2.ints,a.2.ints⟩,?_⟩;rw [du];by_cases NO:z=a
  ·refine Split.no (by rw [decide_eq_true NO];rfl) ?_
   exact tail HO2 (by omega) (Kept.refl _ _) ri (by rw [Vm,if_pos NO,List.append_nil])
  ·refine Split.yes (by rw [decide_eq_false NO];rfl) ?_
   have lj:Kept Nil w2 (w2.alloc (.cells (z.1.toList++ []).toArray aj)):=(Kept.refl _ _).alloc _;obtain⟨A0,c0,q1,A',c',t,q2,q3,q4,q5,q6⟩:=HO2.push (by omega) (by omega) lj (iq w2 z) (by omega) UM Rj;refine⟨A0,_,c0,q1,z.1,⟨z.2.1,Cells.bC kZ⟩,z.2.1,A',_,c',t,q2,q3,?_⟩;exact tail q4 (by rw [List.length_append,List.length_singleton];omega) q5 (q6 _ _ _ ri) (by rw [Vm,if_neg NO])
 ·rintro u1 R ⟨h1,h2,_⟩ nJ
  rw [List.take_of_length_le (Nat.le_refl _)]at h1;have e7:gF ρ0 gP.heap.size= [(2,.pointer (some ⟨w.heap.size,0,none⟩)),(3,.pointer (some ⟨w4.heap.size,0,none⟩)),(4,.slice none 0 0),(5,.int .i64 0),(6,.pointer (some ⟨w6.heap.size,0,none⟩)),(28,xy),(4294967296,.agg (oM [gP.heap.size]))]:=rfl;rw [e7,aA.iQ];unfold aA.gu;obtain⟨A0,c0,g1,g2,g3⟩:=h1;have hol:=tX h.eo a l LV;have h4:l.length*(G.D.length+1)<=300*301:=Nat.mul_le_mul (by omega) (by omega);refine⟨A0,_,c0,by rw [ay g1];rfl,?_⟩;refine gK g2.hs (by omega) fun A3 c3 w3 lX k3=>⟨A3,_,c3,rfl,?_⟩;have es:de (qH G a l)=de (G.world a):=tk (Je h.eo l a ha hc);rw [es]at lX⊢;have Z1:=nJ.aC k3 (fun h=>h) (fun h=>h);rw [lh];have kt:=iR [gP.heap.size] w3;have hm:∀E∈ [gP.heap.size],w3.heap[E]? =some (.deferred (some [])):=fun E hE=>by
   rw [List.mem_singleton]at hE;subst hE;exact Z1.mark
  refine⟨jZ [gP.heap.size] w3 (by simp) hm,?_⟩;have Nu:=k0S h2;have su:=Nu.size;refine hK A3 c3 _ (Row.base (Row.aC lX kt (fun j hj hE=>?_)) (fun j hj=>by have:=(Row.bC lX hj).1;omega)) ((Nu.tt k3).trans kt (fun k hk hE=>by rw [List.mem_singleton]at hE;omega));rw [List.mem_singleton]at hE;have:=(Row.bC lX hj).1;have:=h2.size;have:=aQ nJ.mark;omega
end
section
variable{w w':World}{F:Nat->Prop}{c k:Nat}{G:GS}{m:CM}{K:Value->World->Prop}
theorem pe(h:ga k G){a:HT}(ha:a∈ids G.D):(G.world a).length<=G.D.length:=by
 have:=cJ (m:=ids G.D) (h.wd a ha).1 (fun b hb=>(((h.wd a ha).2.1 b hb).mem h.W).1)
 rwa [fN]at this
end
structure GN(w v:World)(id:HT)(X M Q:Option Nat)(pt:Bool):Prop where
 kp:Kept Nil w v
 x:∀x,X=some x->∃S,BX v S (fun _=>False) x [⟨id,[]⟩] [-1]/\∀j,S j->w.heap.size<=j/\j<v.heap.size/\M≠some j/\Q≠some j
 m:∀m,M=some m->w.heap.size<=m/\fk v m (fun y=>if pt=true/\y=id then Q.map fun q=>.pointer (some ⟨q,0,none⟩)else none)
 q:∀q,Q=some q->w.heap.size<=q/\v.heap[q]? =some (.cells zS dN (0,0))
 ne:∀m q,M=some m->Q=some q->m≠q
section
variable{w w' v u:World}{F:Nat->Prop}{c k:Nat}{G:GS}{m:CM}{K:Value->World->Prop}{id:HT}{X M Q:Option Nat}{pt:Bool}
theorem GN.Ie(h:GN w v id X none Q false):GN w (v.alloc (.map #[] 0)) id X (some v.heap.size) Q false:=by
 have k1:Kept Nil v (v.alloc (.map #[] 0)):=(Kept.refl _ _).alloc _;have hs:=k1.size;have hm:fk (v.alloc (.map #[] 0)) v.heap.size (fun _=>none):=fk.new v;refine⟨h.kp.tt k1,fun x hx=>?_,fun m lZ=>?_,fun q hq=>?_,fun m q lZ hq=>?_⟩
 ·obtain⟨S,h1,h2⟩:=h.x x hx
  exact⟨S,h1.same k1,fun j e=>by have:=h2 j e;exact⟨this.1,by omega,fun e=>by cases e;omega,this.2.2.2⟩⟩
 ·cases lZ
  exact⟨h.kp.size,by simpa using hm⟩
 ·exact⟨(h.q q hq).1,k1.heap (h.q q hq).2 (fun h=>h)⟩
 ·cases lZ
  have:=aQ (h.q q hq).2;omega
theorem GN.Ic(h:GN w v id X M none false):GN w (v.alloc (.cells zS dN)) id X M (some v.heap.size) false:=by
 have k1:Kept Nil v (v.alloc (.cells zS dN)):=(Kept.refl _ _).alloc _;have hs:=k1.size;refine⟨h.kp.tt k1,fun x hx=>?_,fun m lZ=>?_,fun q hq=>?_,fun m q lZ hq=>?_⟩
 ·obtain⟨S,h1,h2⟩:=h.x x hx
  exact⟨S,h1.same k1,fun j e=>by have:=h2 j e;exact⟨this.1,by omega,this.2.2.1,fun e=>by cases e;omega⟩⟩
 ·have:=h.m m lZ
  refine⟨this.1,?_⟩;have h2:=this.2.same k1;simpa using h2
 ·cases hq
  exact⟨h.kp.size,aJ v _⟩
 ·cases hq
  have:=(h.m m lZ).2.lt;omega
theorem GN.BU(h:GN w v id none M Q pt){x:Nat}{S:Nat->Prop}(hX:BX u S (fun _=>False) x [⟨id,[]⟩] [-1])(hS:∀j,S j->v.heap.size<=j/\j<u.heap.size)(k1:Kept Nil v u):GN w u id (some x) M Q pt:=by
 have hs:=h.kp.size;refine⟨h.kp.tt k1,fun x' hx=>?_,fun m lZ=>⟨(h.m m lZ).1,(h.m m lZ).2.same k1⟩,fun q hq=>⟨(h.q q hq).1,k1.heap (h.q q hq).2 (fun h=>h)⟩,h.ne⟩;cases hx;refine⟨S,hX,fun j e=>by
  have:=hS j e;exact⟨by omega,this.2,fun e=>by have:=(h.m j e).2.lt;omega,fun e=>by have:=aQ (h.q j e).2;omega⟩⟩
theorem GN.put{mm q:Nat}(h:GN w v id X (some mm) (some q) false):∃u,(Instr.mapUpdate cX (.map (some mm)) (.agg id.1) (.pointer (some ⟨q,0,none⟩))).run prog v=.ok () u/\GN w u id X (some mm) (some q) true:=by
 obtain⟨h1,h2⟩:=h.m mm rfl;obtain⟨u,g1,g2,g3⟩:=h2.put Gi id (.pointer (some ⟨q,0,none⟩));have hs:=g3.size;refine⟨u,g1,h.kp.trans g3 (fun j hj e=>by omega),fun x hx=>?_,fun m lZ=>?_,fun q' hq=>?_,h.ne⟩
 ·obtain⟨S,q1,q2⟩:=h.x x hx
  exact⟨S,q1.aC g3 (fun j e e'=>(q2 j e).2.2.1 (by rw [e'])) (fun _ h=>h.elim),fun j e=>by have:=q2 j e;exact⟨this.1,by omega,this.2.2⟩⟩
 ·cases lZ
  refine⟨h1,?_⟩;have ef:(fun y=>if true=true/\y=id then(some q).map (fun q=>Value.pointer (some ⟨q,0,none⟩))else none)=fun x=>if x=id then some (.pointer (some ⟨q,0,none⟩))else if false=true/\x=id then(some q).map (fun q=>Value.pointer (some ⟨q,0,none⟩))else none:=by
   funext y
   by_cases hy:y=id<;>simp [hy]
  rw [ef];exact g2
 ·have:=h.q q' hq
  exact⟨this.1,g3.heap this.2 (fun e=>h.ne mm q' rfl hq e.symm)⟩
theorem GN.fin{x mm q:Nat}(h:GN w v id (some x) (some mm) (some q) true)(k:Nat):∃m,CV (v.alloc (.cells #[.int .i64 (k:Int),.pointer (some ⟨x,0,none⟩),.map (some mm)] gv)) (· =q) v.heap.size k (cS id) m/\m.x=x/\(∀j,m.own v.heap.size j->w.heap.size<=j)/\w.heap.size<=q:=by
 have k1:Kept Nil v (v.alloc (.cells #[.int .i64 (k:Int),.pointer (some ⟨x,0,none⟩),.map (some mm)] gv)):=(Kept.refl _ _).alloc _;have ht:=aJ v (.cells #[.int .i64 (k:Int),.pointer (some ⟨x,0,none⟩),.map (some mm)] gv);generalize v.alloc (.cells #[.int .i64 (k:Int),.pointer (some ⟨x,0,none⟩),.map (some mm)] gv)=u at k1 ht⊢;obtain⟨S,h1,h2⟩:=h.x x rfl;obtain⟨h3,h4⟩:=h.m mm rfl;obtain⟨h5,h6⟩:=h.q q rfl;have fC:=h.ne mm q rfl rfl;have lm:=h4.lt;have lq:=aQ h6;have lt:=aQ ht;have hs:=k1.size;have hw:=h.kp.size;refine⟨⟨x,mm,S,fun _=>False,fun _=>q,fun _ _=>none⟩,⟨ht,h1.same k1,?_,?_,jr k id,SZ.root id,fun _ h=>h.elim,?_,?_,?_,?_⟩,rfl,?_,h5⟩
 ·have:=h4.same k1
  have ef:(fun h=>if h∈ids (cS id).D then some (Value.pointer (some ⟨q,0,none⟩))else none)=fun y=>if true=true/\y=id then(some q).map (fun q=>Value.pointer (some ⟨q,0,none⟩))else none:=by
   funext y
   by_cases hy:y=id
   ·simp [hy,cS,ids]
   ·simp [hy,cS,ids]
  show fk u mm (fun h=>if h∈ids (cS id).D then some (Value.pointer (some ⟨q,0,none⟩))else none)
  rw [ef];exact this
 ·intro y hy
  have:y=id:=by simpa [cS,ids]using hy
  subst this;obtain⟨q1,_⟩:=(jr k y).root ⟨y,[]⟩ rfl
  replace q1:(cS y).eK y=_:=q1
  rw [q1];exact⟨none,0,0,none,0,0,none,k1.heap h6 (fun h=>h),HS.nil _ _,⟨rfl,fun i b hi=>by simp at hi⟩,fun a ha=>(by cases ha),fun a ha=>(by cases ha),.inl ⟨rfl,fun _=>rfl⟩,rfl⟩
 ·rintro j rfl e
  rcases e with e|e|e
  ·exact(h2 _ e).2.2.2 rfl
  ·have e:j=v.heap.size:=e;omega
  ·exact fC e.symm
 ·intro j e
  have:=h2 j e;exact⟨by omega,fun e=>this.2.2.1 (by rw [e])⟩
 ·show v.heap.size≠mm;omega
 ·rintro j (e|e)
  ·rcases e with e|e|e
   ·have:=h2 j e;omega
   ·have e:j=v.heap.size:=e;omega
   ·have e:j=mm:=e;omega
  ·have e:j=q:=e;omega
 ·intro j e
  rcases e with e|e|e
  ·have:=h2 j e;omega
  ·have e:j=v.heap.size:=e;omega
  ·have e:j=mm:=e;omega
theorem gX(id:HT){k:Nat}(hk:k<=100)(hK:∀w' c q m,CV w' (· =q) c k (cS id) m->(∀j,m.own c j->w.heap.size<=j)->w.heap.size<=q->Kept Nil w w'->K (.tuple #[.pointer (some ⟨c,0,none⟩),.int .i64 0]) w'):
 bk prog gX.id #[.int .i64 (k:Int),.agg id.1] w K:=by
 refine gX.of ?_;unfold gX.W;intro w1;have k1:Kept Nil w w1:=(Kept.refl _ _).alloc _;have xV:w1.heap[w.heap.size]? =some (.cells id.1 aj (0,0)):=aJ w _;clear_value w1;refine Split.no (decide_eq_false (by omega)) (Split.no (decide_eq_false (by omega)) ?_);intro w2;have k2:Kept Nil w1 w2:=(Kept.refl _ _).drew;clear_value w2;have kZ:=k2.heap xV (fun h=>h);have og:=k1.tt k2;have s02:=og.size;have N0:GN w2 w2 id none none none false:=⟨Kept.refl _ _,fun _ h=>(by cases h),fun _ h=>(by cases h),fun _ h=>(by cases h),fun _ _ h=>(by cases h)⟩;have bx:∀ {v:World},Kept Nil w2 v->∃cs:Array Value,(.agg id.1:Value)=.agg cs/\cs.size=32/\Cells v ⟨w.heap.size,0,none⟩ cs:=fun kv=>⟨id.1,rfl,id.2.1,Cells.bC (kv.heap kZ (fun h=>h))⟩;have fin:∀ {v:World} {x mm q:Nat},GN w2 v id (some x) (some mm) (some q) true->let p:=v.alloc (.cells #[.int .i64 (k:Int),.pointer (some ⟨x,0,none⟩),.map (some mm)] gv);K (.tuple #[.pointer (some (⟨v.heap.size,0,none⟩:Addr)),.int .i64 0]) p:=fun {v x mm q} N=>by
  obtain⟨m,h1,_,h2,h3⟩:=N.fin k;exact hK _ _ q m h1 (fun j e=>by have:=h2 j e;omega) (by omega) ((og.tt N.kp).alloc _)
 refine⟨id.1,⟨id.2.1,Cells.bC kZ⟩,id.1,⟨id.2.1,Cells.bC kZ⟩,?_,?_,?_⟩
 ·refine ik id fun v x hX kv=>⟨_,rfl,?_⟩
  have N1:=N0.BU hX (fun j e=>e) kv;refine⟨bx N1.kp,⟨?_,?_⟩⟩
  ·have N2:=N1.Ie
   have N3:=N2.Ic;obtain⟨u,hu,N4⟩:=N3.put;exact⟨bx N2.kp,bx N3.kp,u,hu,fin N4⟩
  ·have N2:=N1.Ic
   have N3:=N2.Ie;obtain⟨u,hu,N4⟩:=N3.put;exact⟨bx N2.kp,bx N3.kp,u,hu,fin N4⟩
 ·have N1:=N0.Ie
  refine⟨bx N1.kp,bx N1.kp,?_,?_⟩
  ·refine ik id fun v x hX kv=>⟨_,rfl,?_⟩
   have N2:=N1.BU hX (fun j e=>e) kv;have N3:=N2.Ic;obtain⟨u,hu,N4⟩:=N3.put;exact⟨bx N2.kp,bx N3.kp,u,hu,fin N4⟩
  ·have N2:=N1.Ic
   refine⟨bx N2.kp,bx N2.kp,?_,?_⟩
   ·refine ik id fun v x hX kv=>⟨_,rfl,?_⟩
    have N3:=N2.BU hX (fun j e=>e) kv;obtain⟨u,hu,N4⟩:=N3.put;exact⟨bx N3.kp,u,hu,fin N4⟩
   ·obtain⟨u,hu,N3⟩:=N2.put
    refine⟨u,hu,bx N3.kp,?_⟩;refine ik id fun v x hX kv=>⟨_,rfl,?_⟩;exact fin (N3.BU hX (fun j e=>e) kv)
 ·have N1:=N0.Ic
  refine⟨bx N1.kp,bx N1.kp,?_,?_⟩
  ·refine ik id fun v x hX kv=>⟨_,rfl,?_⟩
   have N2:=N1.BU hX (fun j e=>e) kv;have N3:=N2.Ie;obtain⟨u,hu,N4⟩:=N3.put;exact⟨bx N2.kp,bx N3.kp,u,hu,fin N4⟩
  ·have N2:=N1.Ie
   refine⟨bx N2.kp,bx N2.kp,?_,?_⟩
   ·refine ik id fun v x hX kv=>⟨_,rfl,?_⟩
    have N3:=N2.BU hX (fun j e=>e) kv;obtain⟨u,hu,N4⟩:=N3.put;exact⟨bx N3.kp,u,hu,fin N4⟩
   ·obtain⟨u,hu,N3⟩:=N2.put
    refine⟨u,hu,bx N3.kp,?_⟩;refine ik id fun v x hX kv=>⟨_,rfl,?_⟩;exact fin (N3.BU hX (fun j e=>e) kv)
end
end Go.Proofs.YtnboahlopghcjaaGreatDoor
