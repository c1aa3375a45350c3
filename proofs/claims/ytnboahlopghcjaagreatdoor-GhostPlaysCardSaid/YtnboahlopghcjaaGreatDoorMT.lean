import Derived.Test.YtnboahlopghcjaaGreatDoorMS
import Derived.Test.YtnboahlopghcjaaGreatDoorMQ
import Derived.Test.YtnboahlopghcjaaGreatDoorMJ
import Derived.Test.YtnboahlopghcjaaGreatDoorMP
set_option linter.unusedVariables false
namespace Go.Proofs.YtnboahlopghcjaaGreatDoor
open Go.Proofs.Tryz
open Go Go.bV Go.RowKit
theorem F9(D:DG)(s:HT){l:List HT}(hl: ∀x∈l,x∈ids D):(rG D s l).length<=D.length:=by
 have:=cR (m:=ids D) (pZ D s l) (fun x hx=>by
  rcases(uf.1 hx).1 with h|h
  ·exact h.1
  ·exact hl x h)
 rwa [fR]at this
theorem DX{D:DG}{l:List HT}(h:mJ D l=0):l≠ []/\ ∀x∈l,x∈ids D:=by
 unfold mJ at h;split at h
 ·cases h
 ·rename_i h0
  split at h
  ·cases h
  ·rename_i h1
   exact⟨h0,fun x hx=>Classical.byContradiction fun e=>h1 ⟨x,hx,e⟩⟩
section
variable{w w':World}{F:Nat->Prop}{c k:Nat}{G:GS}{m:CM}{K:Value->World->Prop}{A:Option Addr}{n cx:Nat}{l:List HT}{s:HT}
theorem lS.ga{q B sm bb cp e ce:Nat}{x:oc}{ov:HT->Option Nat}{E:Option Addr}(h:lS w B q sm bb x ov A n cp E e ce):Cells w ((⟨q,0,none⟩:Addr).add 0) (cF x A n cp E e ce):=by
 intro j u hj;rw [add_zero,ba,ax h.top,Array.getElem?_append_left (by rw [aY];have:=(Array.getElem?_eq_some_iff.1 hj).1;rw [aY]at this;omega)];rw [Nat.zero_add];exact hj
end
end Go.Proofs.YtnboahlopghcjaaGreatDoor
namespace Go.Proofs.YtnboahlopghcjaaGreatDoor
open Go.Proofs.Tryz
open Go Go.bV Go.RowKit
theorem XV.off{w:World}{D:DG}{P:List Int}{m:XM}{x:Nat}{F:Nat->Prop}(h:XV w F x D P m): ∀k,m.jM x k-> ¬F k:=fun k e=>by
 obtain⟨bl,c,mb,M,G⟩:=h.G;rcases e with e|e|e|e
 ·exact G.Fj k e
 ·exact fun f=>(h.fd k f).1 e
 ·exact fun f=>(h.fd k f).2 e
 ·exact(h.od k e).2.2.2
section
variable{w w':World}{F F':Nat->Prop}{c k q:Nat}{G:GS}{m:CM}{K:Value->World->Prop}{A B:Option Addr}{n cx cp e ce:Nat}{l:List HT}{x:oc}{sz:HT->Option Nat}{sm:Option Nat}
theorem Seen.mono(h:Seen w F q x sz)(hF: ∀j,F j->F' j):Seen w F' q x sz:=by
 obtain⟨A,n,cp,B,e,ce,sm,h⟩:=h;refine⟨A,n,cp,B,e,ce,sm,h.top,h.mg,h.bl,fun a ha=>hF _ (h.fA a ha),fun a ha=>hF _ (h.fB a ha),?_,hF _ h.fq⟩;rcases h.sz with g|⟨s,g1,g2,g3⟩
 ·exact .inl g
 ·exact .inr ⟨s,g1,hF _ g2,g3⟩
abbrev Kz:Array Value:=cF ⟨dL,0,[],[]⟩ none 0 0 none 0 0
theorem BS(D:DG)(h:HT)(l:List HT):dp D h l=if h∈ids D then 7 else if l.length=0 then 9 else if(df l).length≠l.length then 9 else mJ D l:=by
 unfold dp mJ;by_cases h1:h∈ids D
 ·rw [if_pos h1,if_pos h1]
 ·rw [if_neg h1,if_neg h1]
  by_cases h2:l.length=0
  ·rw [if_pos h2,if_pos (.inl (by have:=l9 l;omega))]
  ·have hl:l≠ []:=fun e=>h2 (by rw [e];rfl)
   rw [if_neg h2];by_cases h3:(df l).length≠l.length
   ·rw [if_pos h3,if_pos (.inr h3)]
   ·have a: ¬((df l).length=0\/(df l).length≠l.length):=by omega
    have hc:(∃p∈df l,p∉ids D)↔ ∃p∈l,p∉ids D:=⟨fun⟨p,hp,hq⟩=>⟨p,dm.1 hp,hq⟩,fun⟨p,hp,hq⟩=>⟨p,dm.2 hp,hq⟩⟩;rw [if_neg h3,if_neg a,if_neg hl];by_cases h4: ∃p∈l,p∉ids D
    ·rw [if_pos h4,if_pos (hc.2 h4)]
    ·rw [if_neg h4,if_neg (fun e=>h4 (hc.1 e))]
set_option maxHeartbeats 2000000 in
theorem EE(h:CV w F c k G m)(hT:tg w)(IA: ¬m.SX (Tryz.jn.g 1))(hD:G.D.length<=49)(pP:k<=1000)(Ff:HS w A n l)(hn:n<=5000)(id:HT)
 (hE:dp G.D id l≠0-> ∀w',Kept Nil w w'->K (.tuple #[.agg Kz,.int .i64 (dp G.D id l)]) w')
 (hO:dp G.D id l=0-> ∀w' F' m' A n c1 B e c2,CV w' F' c k (dz k G id l) m'->m'.x=m.x->Kept (m.own c) w w'->(∀j,m'.own c j->m.own c j\/w.heap.size<=j)->(∀j,F' j->F j\/w.heap.size<=j)->
   bO w' w.heap.size A n c1 (cO k G (b7 G l) l).merge->Row w' w.heap.size gQ 1 B e c2 (qW (cO k G (b7 G l) l).de)->(∀j,bg A=some j->bg B≠some j)->(∀j,bg A=some j\/bg B=some j-> ¬m'.own c j/\ ¬F' j)->
   K (.tuple #[.agg (cF (cO k G (b7 G l) l) A n c1 B e c2),.int .i64 0]) w'):
 bn prog dC.id #[.pointer (some ⟨c,0,none⟩),.agg id.1,.slice A n cx] w K:=by
 have hlen:=Ff.len;refine dC.of ?_;unfold dC.W;intro w1 w2;have k1:Kept Nil w w1:=(Kept.refl _ _).alloc _;have xe:w1.heap[w.heap.size]? =some (.cells id.1 ag (0,0)):=aJ w _;have k2:Kept Nil w1 w2:=(Kept.refl _ _).alloc _;have jv:w2.heap[w1.heap.size]? =some (.cells zC bk (0,0)):=aJ w1 _;clear_value w2;have AU:=k2.heap xe (fun h=>h);have oh:=k1.trans k2 (fun _ _ h=>h);have s1:=k1.size;have l1:=aQ xe;have l2:=aQ jv;clear_value w1;have zs:(zC:Array Value)=Kz:=rfl;have bad: ∀ {u:World} {r:Int},Kept Nil w2 u->dp G.D id l=r->r≠0->(zC.size=35/\(∀n∈zC.toList,n.oneCell'=true)/\ ∀o,o<35->Wr u ((⟨w1.heap.size,0,none⟩:Addr).add o))/\
  let p:=setCells u (⟨w1.heap.size,0,none⟩:Addr) zC.toList 0;∃q:Array Value,(q.size=35/\Cells p (⟨w1.heap.size,0,none⟩:Addr) q)/\K (.tuple #[.agg q,.int .i64 r]) p:=fun {u r} ku hr h0=>by
  obtain⟨t1,t2,t3⟩:=dT (ku.heap jv (fun h=>h)) (cs:=zC) rfl;refine⟨⟨rfl,by rw [zs];exact ek _ _ _ _ _ _ _,fun j hj=>t1 j hj⟩,?_⟩;refine⟨_,⟨rfl,Cells.bC t2⟩,?_⟩;have:=hE (by rw [hr];exact h0) _ ((oh.trans ku (fun _ _ h=>h)).trans t3 (fun j hj e=>by omega));rw [hr]at this;exact this
 have jj:=BS G.D id l;refine mc (h.same oh) ⟨true,rfl,Split.no rfl ?_⟩;intro w3;have k3:Kept Nil w2 w3:=(Kept.refl _ _).drew;clear_value w3;have nS:=oh.trans k3 (fun _ _ h=>h);have h3:=h.same nS;refine⟨_,h3.c2,id.1,⟨id.2.1,Cells.bC (k3.heap AU (fun h=>h))⟩,_,h3.look id,?_⟩;by_cases hid:id∈ids G.D
 ·rw [if_pos hid]at jj
  exact Split.yes (by rw [if_pos hid];rfl) (bad k3 jj (by decide))
 rw [if_neg hid]at jj;refine Split.no (by rw [if_neg hid];rfl) ?_;by_cases Er:n=0
 ·rw [if_pos (by omega)]at jj
  exact Split.yes (by subst Er;rfl) (bad k3 jj (by decide))
 rw [if_neg (by omega)]at jj;refine Split.no (by simpa using (by omega: ¬(n:Int)=0)) ?_;refine gN (Ff.same nS) (by omega) fun A4 c4 w4 jJ k4=>⟨A4,_,c4,rfl,?_⟩;have pN:=k3.trans k4 (fun _ _ h=>h);have qd:=nS.trans k4 (fun _ _ h=>h);by_cases El:(df l).length≠l.length
 ·rw [if_pos El]at jj
  exact Split.yes (by simp only [bne_iff_ne,ne_eq];omega) (bad pN jj (by decide))
 rw [if_neg El]at jj;refine Split.no (by simp only [bne_eq_false_iff_eq];omega) ?_;refine xm (h.same qd) (Ff.same qd) (by omega) fun w5 k5=>⟨_,_,rfl,?_⟩;have CC:=pN.trans k5 (fun _ _ h=>h);have qa:=qd.trans k5 (fun _ _ h=>h);generalize ml:(if mJ G.D l=0 then b7 G l else dL)=s;intro w6;have k6:Kept Nil w5 w6:=(Kept.refl _ _).alloc _;have oT:w6.heap[w5.heap.size]? =some (.cells dL.1 ag (0,0)):=aJ w5 _;clear_value w6;obtain⟨t1,t2,t3⟩:=jk s oT rfl;refine⟨t1,?_⟩;intro w7
 replace t2:w7.heap[w5.heap.size]? =some (.cells s.1 ag (0,0)):=t2
 replace t3:Kept (· =w5.heap.size) w6 w7:=t3
 clear_value w7;have Fb:Kept Nil w5 w7:=k6.trans t3 (fun j hj e=>by omega);have Nb:=CC.trans Fb (fun _ _ h=>h);have xG:=qa.trans Fb (fun _ _ h=>h);by_cases hm:mJ G.D l≠0
 ·exact Split.yes (by simpa using hm) (bad Nb jj hm)
 have hm:mJ G.D l=0:=by omega
 rw [if_pos hm]at ml;rw [hm]at jj⊢;refine Split.no rfl ⟨s.1,⟨s.2.1,Cells.bC t2⟩,?_⟩;obtain⟨fG,fN⟩:=DX hm;have AS:s∈l:=by rw [<-ml];exact kh fG
 obtain⟨ch,oS⟩:=cM.ex h.eM.je s;have h7:=h.same xG;refine Bp IS (Nat.le_trans (F9 G.D s fN) hD) h7 (hT.same xG) (by omega) pP (fN s AS) oS fN (Ff.same xG) hn fun v q B sm bb ov Am nm cp E e ce g1 gO g3 g4 g5 g6 g7=>⟨some ⟨q,0,none⟩,rfl,?_⟩;have zQ:=xG.trans g7 (fun _ _ h=>h);have Gr:=Nb.trans g7 (fun _ _ h=>h);have k5v:=Fb.trans g7 (fun _ _ h=>h);have s07:=xG.size;have s0v:=zQ.size;intro w8;have k8:Kept Nil v w8:=(Kept.refl _ _).drew;clear_value w8;have rK:=zQ.trans k8 (fun _ _ h=>h);have h8:=h.same rK;have g18:=g1.same k8;have s8:=k8.size;refine⟨_,h8.c1,id.1,⟨id.2.1,Cells.bC ((Gr.trans k8 (fun _ _ h=>h)).heap AU (fun h=>h))⟩,s.1,⟨s.2.1,Cells.bC (((g7.trans k8 (fun _ _ h=>h))).heap t2 (fun h=>h))⟩,?_⟩;refine Au h8.X (by omega) (hT.same rK) IA (Ff.same rK) hn id s fun u S' FX' hX9 k9 hS9 Qi=>⟨_,rfl,?_⟩;have eX:mU G.D id s l=(dz k G id l).D/\mT G.D G.P id s l=(dz k G id l).P:=by rw [<-ml];exact⟨H7.symm,H8.symm⟩
 rw [eX.1,eX.2]at hX9;obtain⟨mx,X9,hmx⟩:=hX9;have vp: ∀j,m.own c j\/F j->j<w.heap.size:=h.low;have g1q:q<v.heap.size:=aQ g1.top;have g1s:sm<v.heap.size:=g1.ov.lt;have uJ: ∀j,w.heap.size<=j-> ¬m.SX j:=fun j hj e=>by have:=vp j (.inl (.inl e));omega
 have g19:=g18.aC k9 (uJ q (by omega)) (uJ sm (by omega)) (fun j hj _=>uJ j (by have:=g6.1;omega)) (fun a ha=>uJ _ (by have:=g5 a ha;omega));have s9:=k9.size;have Jr:Kept m.SX w2 u:=((Gr.trans k8 (fun _ _ h=>h)).mono fun _ _ h=>h.elim).trans k9 (fun _ _ h=>h);have ncm: ¬m.SX c/\ ¬m.SX m.mb:=⟨fun e=>(h.so _ e).1 rfl,fun e=>(h.so _ e).2 rfl⟩;have QI:u.heap[c]? =_:=k9.heap h8.top ncm.1;have aca:=h8.all.aC k9 ncm.2;intro w10;have mC:Kept Nil u w10:=(Kept.refl _ _).drew;clear_value w10;have QK:=mC.heap QI (fun h=>h);have JC:=(Jr.trans mC (fun _ _ h=>h.elim)).heap AU (fun e=>uJ _ (Nat.le_refl _) e);have VH:=aca.aC mC (fun h=>h);obtain⟨tB,ZE,VG,Ef⟩:=VH.put F8 id (.pointer (some ⟨q,0,none⟩));refine⟨some m.mb,by rw [ba,ax QK];rfl,id.1,⟨id.2.1,Cells.bC JC⟩,tB,ZE,Is.mk rfl ?_⟩;have s10:=mC.size;have s11:=Ef.size;have lmb:m.mb<w.heap.size:=vp _ (.inl (.inr (.inr rfl)));have lc:c<w.heap.size:=vp _ (.inl (.inr (.inl rfl)));have Jj:Kept (· =m.mb) u tB:=(mC.mono fun _ _ h=>h.elim).trans Ef (fun _ _ h=>h);have Ks:=g19.aC Jj (by omega) (by omega) (fun j hj _ e=>by have:=g6.1;omega) (fun a ha e=>by have:=g5 a ha;omega);have ab2:=Row.bo Ks.bl;have RZ:Kept (m.own c) w tB:=((rK.mono (S':=m.own c) fun _ _ h=>h.elim).trans k9 (fun _ _ h=>.inl h)).trans Jj (fun _ _ h=>.inr (.inr h));refine⟨_,⟨aY ..,Ks.ga⟩,?_⟩;have xM:=g1.mg.len;have hnm:nm<=49:=by
  have Ip:(cO k G s l).merge=cy G s l:=rfl;have xL:(cy G s l).length<=49:=by
   have:=cR (m:=ids G.D) (lj G s l).nodup (fun y hy=>by
    rcases(ju.1 hy).1 with h|h
    ·exact h.1
    ·exact fN y h)
   rw [fR]at this;omega
  rw [Ip]at xM;omega
 have WC:e<=49:=by
  have h1:=(tC k G s l).1;have h2:=(Row.bo g1.bl).len;have Ip:(cO k G s l).merge=cy G s l:=rfl;have Y4:(cO k G s l).de=(ft k G s l).bl:=rfl;rw [Y4]at h2;rw [Ip]at xM;omega
 refine nK (cO k G s l) Ks.mg ab2 (by omega) (by omega) fun A' c1 B' c2 lU tO FK Th vc=>⟨_,rfl,?_⟩;have RS:Kept (m.own c) w2 lU:=((Jr.mono (S':=m.own c) fun _ _ h=>.inl h).trans Jj (fun _ _ h=>.inr (.inr h))).trans vc (fun _ _ h=>h.elim);have fr2: ∀j,w.heap.size<=j-> ¬m.own c j:=fun j hj e=>by have:=vp j (.inl e);omega
 have Zv:=RS.heap jv (fr2 _ (by omega));obtain⟨f1,f2,f3⟩:=dT Zv (cs:=cF (cO k G s l) A' nm c1 B' e c2) (by rw [aY];rfl);refine⟨⟨aY ..,ek _ _ _ _ _ _ _,fun j hj=>f1 j (by rw [aY];exact hj)⟩,?_⟩;intro kN
 replace f2:kN.heap[w1.heap.size]? =_:=f2
 replace f3:Kept (· =w1.heap.size) lU kN:=f3
 clear_value kN;refine⟨_,⟨aY ..,Cells.bC f2⟩,?_⟩;have uv:Kept (· =w1.heap.size) tB kN:=(vc.mono fun _ _ h=>h.elim).trans f3 (fun _ _ h=>h);have s13:=uv.size;have lw1:w1.heap.size<w7.heap.size:=Nat.lt_of_lt_of_le l2 Nb.size;rw [ml]at hO;have yV:=kH (k:=k) (G:=G) (h:=id) (ps:=l) jj;have TL:ids (dz k G id l).D=ids G.D++ [id]:=by rw [yV];simp [ids]
 let F':Nat->Prop:=fun j=>F j\/(w7.heap.size<=j/\j<v.heap.size)\/FX' j
 let m':CM:=⟨m.x,m.mb,mx.jM m.x,FX',fun y=>if y=id then q else m.q y,fun y=>if y=id then ov else m.sz y⟩
 have P8: ∀j,mx.jM m.x j->m.SX j\/w8.heap.size<=j:=fun j e=>hS9 j (hmx j e);have XW: ∀j,m'.own c j->m.own c j\/w8.heap.size<=j:=fun j e=>by
  rcases e with e|e|e
  ·exact(P8 j e).imp (fun e=>.inl e) (fun e=>e)
  ·exact .inl (.inr (.inl e))
  ·exact .inl (.inr (.inr e))
 have uk: ∀j,F' j->F j\/(w7.heap.size<=j/\j<u.heap.size):=fun j e=>by
  rcases e with e|e|e
  ·exact .inl e
  ·exact .inr ⟨e.1,by omega⟩
  ·rcases Qi j e with e'|e'
   ·exact .inl (h.fx j e')
   ·exact .inr ⟨by omega,X9.low j (.inr e)⟩
 have KV: ∀j,mx.jM m.x j->j<u.heap.size:=fun j e=>X9.low j (.inl e);have Yn:Kept (fun j=>j=m.mb\/j=w1.heap.size) u kN:=(Jj.mono fun _ _ h=>.inl h).trans uv (fun _ _ h=>.inr h);have n1: ∀j,F' j-> ¬(j=m.mb\/j=w1.heap.size):=fun j e e'=>by
  rcases e' with e'|e'
  ·rcases uk j e with e|e
   ·exact h.fo j e (.inr (.inr e'))
   ·omega
  ·rcases uk j e with e|e
   ·have:=vp j (.inr e);omega
   ·omega
 have n2: ∀j,mx.jM m.x j-> ¬(j=m.mb\/j=w1.heap.size):=fun j e e'=>by
  rcases e' with e'|e'
  ·rcases P8 j e with e|e
   ·exact(h.so j e).2 e'
   ·omega
  ·rcases P8 j e with e|e
   ·have:=vp j (.inl (.inl e));omega
   ·have:=k8.size;have:=g7.size;omega
 have Kr:lS kN B q sm bb (cO k G s l) ov Am nm cp E e ce:=Ks.aC uv (by omega) (by omega) (fun j hj _ e=>by have:=g6.1;omega) (fun a ha e=>by have:=g5 a ha;omega);have C':CV kN F' c k (dz k G id l) m':=by
  refine⟨?_,?_,?_,?_,h.eM.add id l,?_,fun j e=>.inr (.inr e),?_,?_,h.ne,?_⟩
  ·exact Yn.heap QI (fun e=>by rcases e with e|e;exact h.ne e;omega)
  ·exact⟨mx,X9.aC Yn n2 (fun j e=>n1 j (.inr (.inr e))),fun _ e=>e⟩
  ·have:=VG.aC uv (by show ¬m.mb=_;omega)
   have ef:(fun h=>if h∈ids (dz k G id l).D then some (Value.pointer (some ⟨m'.q h,0,none⟩))else none)=fun x=>if x=id then some (Value.pointer (some ⟨q,0,none⟩))else if x∈ids G.D then some (.pointer (some ⟨m.q x,0,none⟩))else none:=by
    funext y
    rw [TL];by_cases hy:y=id
    ·simp [hy,m']
    ·by_cases hy2:y∈ids G.D
     ·simp [hy,hy2,m']
     ·simp [hy,hy2]
   rw [ef];exact this
  ·intro y hy
   rw [TL,List.mem_append,List.mem_singleton]at hy;by_cases he:y=id
   ·subst he
    rw [(mW h.eM jj).1,ml];have e1:m'.q y=q:=if_pos rfl;have e2:m'.sz y=ov:=if_pos rfl;rw [e1,e2];refine⟨Am,nm,cp,E,e,ce,some sm,Kr.top,Kr.mg,Row.bo Kr.bl,fun a ha=>.inr (.inl ⟨g5 a ha,?_⟩),fun a ha=>.inr (.inl ?_),.inr ⟨sm,rfl,.inr (.inl ⟨g4,g1s⟩),Kr.ov⟩,.inr (.inl ⟨g3,g1q⟩)⟩
    ·have:=(g1.mA a ha).1
     have:=g6.2;omega
    ·subst ha
     obtain⟨q1,cur,q2⟩:=Row.bC g1.bl (k:=a.block) rfl;have:=aQ q2;have:=g6.1;exact⟨by omega,this |>fun _=>aQ q2⟩
   ·have hy:y∈ids G.D:=hy.elim (fun e=>e) (fun e=>absurd e he)
    rw [(mV h.eM hy).1];have e1:m'.q y=m.q y:=if_neg he;have e2:m'.sz y=m.sz y:=if_neg he;rw [e1,e2];exact(((h8.seen y hy).aC k9 (fun j e e'=>h.fo j e (.inl e'))).aC Yn (fun j e=>n1 j (.inl e))).mono (fun j e=>.inl e)
  ·have aaN:cM G.D G.P (b7 G l) ch:=by rw [ml];exact oS
   rw [<-ml]at gO;exact SZ.add h.Z h.eM jj aaN gO
  ·intro j e e'
   rcases e' with e'|e'|e'
   ·rcases e with e|e|e
    ·rcases P8 j e' with e'|e'
     ·exact h.fo j e (.inl e')
     ·have:=vp j (.inr e);omega
    ·rcases P8 j e' with e'|e'
     ·have:=vp j (.inl (.inl e'));omega
     ·omega
    ·exact XV.off X9 j e' e
   ·rcases uk j e with e|e
    ·exact h.fo j e (.inr (.inl e'))
    ·have e':j=c:=e';omega
   ·rcases uk j e with e|e
    ·exact h.fo j e (.inr (.inr e'))
    ·have e':j=m.mb:=e';omega
  ·intro j e
   rcases P8 j e with e'|e'
   ·exact h.so j e'
   ·exact⟨by omega,by show j≠m.mb;omega⟩
  ·rintro j (e|e)
   ·rcases e with e|e|e
    ·have:=KV j e;omega
    ·have e:j=c:=e;omega
    ·have e:j=m.mb:=e;omega
   ·rcases uk j e with e|e
    ·have:=vp j (.inr e);omega
    ·omega
 have Ez: ∀j,bg A'=some j->tB.heap.size<=j:=fun j hj=>(Row.bC tO hj).1;have Pa: ∀j,bg B'=some j->tB.heap.size<=j:=fun j hj=>(Row.bC FK hj).1;have Vo: ∀j,tB.heap.size<=j-> ¬m'.own c j/\ ¬F' j:=fun j hj=>⟨fun e=>by
  rcases e with e|e|e
  ·have:=KV j e;omega
  ·have e:j=c:=e;omega
  ·have e:j=m.mb:=e;omega,fun e=>by
  rcases uk j e with e|e
  ·have:=vp j (.inr e);omega
  ·omega⟩
 exact hO jj kN F' m' A' nm c1 B' e c2 C' rfl ((RZ.trans uv (fun j hj e=>by omega))) (fun j e=>(XW j e).imp (fun h=>h) (fun h=>by omega)) (fun j e=>(uk j e).imp (fun h=>h) (fun h=>by omega))
  (Row.base (Row.aC tO f3 (fun j hj e=>by have:=Ez j hj;omega)) (fun j hj=>by have:=Ez j hj;omega)) (Row.base (Row.aC FK f3 (fun j hj e=>by have:=Pa j hj;omega)) (fun j hj=>by have:=Pa j hj;omega)) Th
  (fun j hj=>Vo j (hj.elim (Ez j) (Pa j)))
end
end Go.Proofs.YtnboahlopghcjaaGreatDoor
namespace Go.Proofs.YtnboahlopghcjaaGreatDoor
open Go.Proofs.Tryz
open Go Go.bV Go.RowKit
def qG(G:GS)(a:HT)(l:List HT):List HT:=l.flatMap fun h=>(if h=a then []else [h])++cP (G.ga h).merge (G.ga h).de
theorem cM.Ya{D:DG}{P:List Int}{h:HT}{l:List HT}(hc:cM D P h l)(H:qZ D P):l.length<=D.length:=by
 rcases hc with⟨_,rfl⟩|⟨i,nd,ks,h1,_,h3,rfl⟩
 ·exact Nat.zero_le _
 ·have:=h3.len H.par
  rw [List.length_map];have:=(List.getElem?_eq_some_iff.1 h1).1;omega
section
variable{k:Nat}{G:GS}
theorem I1(H:iS k G): ∀(l:List HT) (s:HT),s∈ids G.D->cM G.D G.P s l-> ∀y,y∈qG G s l↔y∈G.world s:=by
 have W:=H.W;intro l
 induction l with
 |nil=>
  intro s hs hc;rcases hc.inv W H.je hs with⟨e,_⟩|⟨_,_,e,_⟩<;>cases e
 |cons x r ih=>
  intro s hs hc y;rcases hc.inv W H.je hs with⟨e,nd,h0,rfl⟩|⟨t,r',e,om,ht,hr⟩
  ·obtain⟨rfl,rfl⟩:=List.cons.inj e
   obtain⟨q1,q2⟩:=H.root nd h0;rw [q2];simp [qG,q1,cP]
  ·obtain⟨rfl,rfl⟩:=List.cons.inj e
   obtain⟨q1,q2,q3,q4,q5⟩:=H.up t x om;have hx:x∉r:=fun hx=>by
    have h1:=om.par H.je;rcases((hr.mem W H.je).1 hx).Db W H.je with e|e
    ·subst e;exact eZ.irrefl W _ (.one h1)
    ·exact eZ.irrefl W _ (e.trans (.one h1))
   have htr:t∈r:=(hr.mem W H.je).2 (Ch.refl H.je ht);have ih':=ih t ht hr y;rw [q2,List.mem_append,List.mem_append,List.mem_singleton,<-ih'];unfold qG;rw [List.flatMap_cons,List.mem_append,if_pos rfl,List.nil_append];simp only [List.mem_flatMap,List.mem_append];constructor
   ·rintro(h|⟨z,hz,h|h⟩)
    ·exact .inr h
    ·split at h
     ·simp at h
     ·rw [List.mem_singleton]at h
      subst h;by_cases e:y=t
      ·exact .inl (.inr e)
      ·exact .inl (.inl ⟨y,hz,.inl (by rw [if_neg e];simp)⟩)
    ·exact .inl (.inl ⟨z,hz,.inr h⟩)
   ·rintro((⟨z,hz,h|h⟩|h)|h)
    ·split at h
     ·simp at h
     ·rw [List.mem_singleton]at h
      subst h;refine .inr ⟨y,hz,.inl ?_⟩;rw [if_neg (fun e=>hx (by rw [<-e];exact hz))];simp
    ·exact .inr ⟨z,hz,.inr h⟩
    ·subst h
     refine .inr ⟨y,htr,.inl ?_⟩;rw [if_neg (fun e=>hx (by rw [<-e];exact htr))];simp
    ·exact .inl h
theorem mR(H:iS k G){h:HT}(hm:h∈ids G.D):(G.ga h).merge.length<=G.D.length/\(G.ga h).de.length=(G.ga h).merge.length:=by
 obtain⟨l,c⟩:=cM.ex H.je h;rcases c.inv H.W H.je hm with⟨_,nd,h0,rfl⟩|⟨t,r',_,om,_,_⟩
 ·obtain⟨q1,_⟩:=H.root nd h0
  rw [q1];simp
 ·obtain⟨_,_,q3,q4,q5⟩:=H.up t h om
  refine⟨?_,q3⟩;have:=cR (m:=ids G.D) q4 (fun y hy=>(((q5 y).1 hy).1.mem H.W).1)
  rwa [fR]at this
theorem pz: ∀(m:List HT) (b:List Bool),(cP m b).length<=m.length
 | [],_=>by simp [cP]
 |_::_,[]=>by simp [cP]
 |h::l,b::m=>by
  have:=pz l m;unfold cP;split
  ·simp only [List.length_cons];omega
  ·simp only [List.length_cons];omega
theorem tX(H:iS k G)(a:HT): ∀(l:List HT),(∀h∈l,h∈ids G.D)->(qG G a l).length<=l.length*(G.D.length+1)
 | [],_=>by simp [qG]
 |h::l,hl=>by
  have h1:=tX H a l (fun x hx=>hl x (List.mem_cons_of_mem _ hx));have h2:=(mR H (hl h List.mem_cons_self)).1;have h3:=pz (G.ga h).merge (G.ga h).de;unfold qG at h1⊢;rw [List.flatMap_cons,List.length_append,List.length_append,List.length_cons,Nat.add_mul,Nat.one_mul];have:(if h=a then([]:List HT)else [h]).length<=1:=by split<;>simp
  omega
theorem rW{m:List HT}{b:List Bool}(hl:b.length=m.length){i:Nat}{x:HT}{c:Bool}(hx:m[i]? =some x)(hc:b[i]? =some c):cP (m.take (i+1)) (b.take (i+1))=cP (m.take i) (b.take i)++if c then [x]else []:=by
 rw [List.take_add_one,List.take_add_one,hx,hc];exact o6 (by simp [hl])
end
def mY(w:World)(B ob:Nat)(av:Nat->Prop)(acc:List HT):Prop:= ∃A c,w.heap[ob]? =some (.cells #[.slice A acc.length c] az (0,0))/\bO w B A acc.length c acc/\ ∀j,bg A=some j->j≠ob/\ ¬av j
section
variable{w w' iz:World}{B ob bx:Nat}{av av':Nat->Prop}{acc:List HT}
theorem mY.aC{S:Nat->Prop}(H:mY w B ob av acc)(hk:Kept S w w')(h1: ¬S ob)(h2: ∀j cs t fr,w.heap[j]? =some (.cells cs t fr)->B<=j-> ¬av j-> ¬S j):mY w' B ob av acc:=by
 obtain⟨A,c,g1,g2,g3⟩:=H;refine⟨A,c,hk.heap g1 h1,Row.aC g2 hk (fun j hj=>?_),g3⟩;obtain⟨q1,cur,q2⟩:=Row.bC g2 hj;exact h2 j _ _ _ q2 q1 (g3 j hj).2
theorem mY.same(H:mY w B ob av acc)(hk:Kept Nil w w'):mY w' B ob av acc:=H.aC hk (fun h=>h) (fun _ _ _ _ _ _ _ h=>h)
theorem mY.avo(H:mY w B ob av acc)(h: ∀j,av' j->av j\/w.heap.size<=j):mY w B ob av' acc:=by
 obtain⟨A,c,g1,g2,g3⟩:=H;refine⟨A,c,g1,g2,fun j hj=>⟨(g3 j hj).1,fun e=>?_⟩⟩;obtain⟨q1,cur,q2⟩:=Row.bC g2 hj;rcases h j e with e|e
 ·exact(g3 j hj).2 e
 ·have:=aQ q2;omega
theorem mY.push(H:mY w B ob av acc)(hB:B<=w.heap.size)(hlen:acc.length<=100000){x:HT}(jS:Kept Nil w iz)(hx:HS iz (some ⟨bx,0,none⟩) 1 [x])(zV:B<=ob)(Hs: ∀j,av j->j<w.heap.size)(XY: ¬av ob):
 ∃A c,w.cell? ⟨ob,0,none⟩=some (.slice A acc.length c)/\ ∃A' c' u,(Builtin.append_ #[az,az] az #[.slice A acc.length c,.slice (some ⟨bx,0,none⟩) 1 1]).run prog iz=.ok (.slice A' (acc.length+1) c') u/\Wr u ⟨ob,0,none⟩/\
  mY (u.setCell ⟨ob,0,none⟩ (.slice A' (acc.length+1) c')) B ob av (acc++ [x])/\Kept (fun j=>B<=j/\ ¬av j) w (u.setCell ⟨ob,0,none⟩ (.slice A' (acc.length+1) c'))/\
  ∀l e R,Live l e R w->Live l e R (u.setCell ⟨ob,0,none⟩ (.slice A' (acc.length+1) c')):=by
 obtain⟨A,c,g1,g2,g3⟩:=H;have abP:=jS.heap g1 (fun h=>h);have Pg:bO iz B A acc.length c acc:=Row.aC g2 jS (fun _ _ h=>h);have hs:=jS.size;obtain⟨A',c',u,hr,row,hg,hb⟩:=cD (cx:=1) az Pg hx (by omega) (by omega);have Hg:Kept (fun j=>bg A=some j) iz u:=Kept.grown (Kept.refl _ _) hg (fun j hj _=>hj);have W3:=Hg.heap abP (fun h=>(g3 _ h).1 rfl);have mK:Kept (· =ob) u (u.setCell ⟨ob,0,none⟩ (.slice A' (acc.length+1) c')):=Kept.setCell (S:=fun j=>j=ob) (Kept.refl _ u) (p:=⟨ob,0,none⟩) (fun _=>rfl) _;have hAd: ∀j,bg A'=some j->j≠ob/\ ¬av j:=fun j hj=>by
  rcases hb j hj with h|h
  ·exact g3 j h
  ·exact⟨by have:=aQ g1;omega,fun e=>by have:=Hs j e;omega⟩
 refine⟨A,c,by rw [ax g1];rfl,A',c',u,hr,dM W3 (by simp),⟨A',c',?_,?_,hAd⟩,?_,fun l e R lv=>?_⟩
 ·rw [List.length_append,List.length_singleton];exact cU W3 0 _
 ·rw [List.length_append,List.length_singleton];exact Row.aC row mK (fun j hj e=>(hAd j hj).1 e)
 ·refine((jS.mono (S':=fun j=>B<=j/\ ¬av j) (fun _ _ h=>h.elim)).trans Hg (fun j hj e=>?_)).trans mK (fun j hj e=>by subst e;exact⟨zV,XY⟩)
  exact⟨(Row.bC g2 e).1,(g3 j e).2⟩
 ·have Wb:=lv.aC jS (fun h=>h) (fun h=>h)
  have lu:Live l e R u:=Wb.aC Hg (fun h=>by obtain⟨_,cur,hc⟩:=Row.bC Pg h;exact iY hc Wb.loop rfl) (fun h=>by obtain⟨_,cur,hc⟩:=Row.bC Pg h;exact qI hc Wb.mark rfl);exact lu.aC mK (iY W3 lu.loop).symm (qI W3 lu.mark).symm
end
end Go.Proofs.YtnboahlopghcjaaGreatDoor
namespace Go.Proofs.YtnboahlopghcjaaGreatDoor
open Go.Proofs.Tryz
open Go Go.bV Go.RowKit
section
variable{w w' v:World}{F:Nat->Prop}{c k:Nat}{G:GS}{m:CM}{K:Value->World->Prop}
theorem xU{Q:aO}{l e B ob xb n c1 e1 c2:Nat}{av:Nat->Prop}{R:Loop}{x:oc}{A E:Option Addr}{acc:List HT}(H:mY v B ob av acc)(hB:B<=v.heap.size)(zV:B<=ob)(XY: ¬av ob)(Hs: ∀j,av j->j<v.heap.size)(hxa:av xb)
 (hx:v.heap[xb]? =some (.cells (cF x A n c1 E e1 c2) bk (0,0))) (To:HS v A n x.merge) (vy:Bo v E e1 x.de) (hlen:x.de.length=x.merge.length) (kZ:acc.length+n<=100000) (hA: ∀a,A=some a->a.block<B) (hE: ∀a,E=some a->a.block<B) (lv:Live l e R v)
 (hQ: ∀u,mY u B ob av (acc++cP x.merge x.de)->Kept (fun j=>B<=j/\ ¬av j) v u->Live l e R u->Q .normal [] u):
 Holds (some l) [] prog 66 (.loop (lB (bB (sR (sR (sR (bB (rB (bB (sR (sL (sR (sR (sR (body ay.fn))))))))))))))) (ay.q1 l Q) [(6,.pointer (some ⟨ob,0,none⟩)),(8,.pointer (some ⟨xb,0,none⟩)),(47,.slice A n c1),(48,.int .i64 (n:Int)),(49,.int .i64 0)] v:=by
 have hn:=To.len;have he:=vy.len;refine ay.b6 (I:=fun s u=> ∃i:Nat,s=(i:Int)/\i<=n/\mY u B ob av (acc++cP (x.merge.take i) (x.de.take i))/\Kept (fun j=>B<=j/\ ¬av j) v u/\Live l e R u) (μ:=fun s _=>((n:Int)-s).toNat) (s:=0) ⟨0,rfl,Nat.zero_le _,by simpa [cP]using H,Kept.refl _ _,lv⟩ ?_;rintro s u ⟨i,rfl,hi,HO,ku,lu⟩;unfold ay.B1;refine Split.dec (fun cI=>?_) (fun gu=>?_)
 ·have dP:i<n:=by omega
  obtain⟨y,hy⟩: ∃y,x.merge[i]? =some y:=⟨_,List.getElem?_eq_getElem (by omega)⟩;obtain⟨b,hb⟩: ∃b,x.de[i]? =some b:=⟨_,List.getElem?_eq_getElem (by omega)⟩;have Ln:=rW hlen hy hb;have WM:(acc++cP (x.merge.take i) (x.de.take i)).length<=100000:=by
   have:=pz (x.merge.take i) (x.de.take i);rw [List.length_append];rw [List.length_take]at this;omega
  refine(To.aC ku (fun a ha e=>by have:=hA a ha;omega)).load (i:=(i:Int)) (by omega) hy ?_;intro w2;obtain⟨qP,iC,iI⟩:=fT (w:=u) (z:=dL.1) (cs:=y.1) (t:=ag) (by rw [y.2.1];rfl);refine⟨⟨y.2.1,y.2.one,fun j hj=>qP j (by rw [y.2.1];exact hj)⟩,?_⟩;intro w3
  replace iC:w3.heap[u.heap.size]? =some (.cells y.1 ag (0,0)):=iC
  replace iI:Kept Nil u w3:=iI
  clear_value w3;have oQ:Kept (fun j=>B<=j/\ ¬av j) v w3:=ku.trans iI (fun _ _ h=>h.elim);have yW:=oQ.heap hx (fun e=>e.2 hxa);have s3:=oQ.size;have su:=ku.size;obtain⟨aE,hE1,_,hE3⟩:=(vy.aC oQ (fun a ha e=>by have:=hE a ha;omega)).at_ i b hb;subst hE1;have Kc:=(eN x A n c1 (some aE) e1 c2 #[]).2.2.1;rw [Array.append_empty]at Kc;refine⟨some aE,e1,c2,by rw [ba,ax yW];exact Kc,⟨by omega,by omega⟩,b,by rw [Int.toNat_natCast,Nat.mul_one];exact hE3,?_⟩;have HO3:=HO.same iI;have lu3:=lu.aC iI (fun h=>h) (fun h=>h);rw [dE (n:=(i:Int)) (by omega) (by omega)];cases b with
  |false=>
   refine Split.no rfl ?_;exact⟨(i:Int)+1,rfl,⟨i+1,rfl,by omega,by rw [Ln];simpa using HO3,oQ,lu3⟩,by simp only;omega⟩
  |true=>
   refine Split.yes rfl ?_;have jS:Kept Nil w3 (w3.alloc (.cells (y.1.toList++ []).toArray ag)):=(Kept.refl _ _).alloc _;obtain⟨A0,c0,q1,A',c',t,q2,q3,q4,q5,q6⟩:=HO3.push (by omega) WM jS (jb w3 y) zV (fun j hj=>by have:=Hs j hj;omega) XY;refine⟨A0,_,c0,q1,y.1,⟨y.2.1,Cells.bC iC⟩,y.2.1,A',_,c',t,q2,q3,?_⟩;exact⟨(i:Int)+1,rfl,⟨i+1,rfl,by omega,by rw [Ln,<-List.append_assoc];exact q4,oQ.trans q5 (fun _ _ h=>h),q6 l e R lu3⟩,by simp only;omega⟩
 ·rw [aS,ay.Xp]
  rw [List.take_of_length_le (by omega),List.take_of_length_le (by omega)]at HO;exact hQ u HO ku lu
set_option maxHeartbeats 2000000 in
theorem sG(h:CV w F c k G m)(hD:G.D.length<=300){a:HT}(ha:a∈ids G.D)
 (hK: ∀A c' w',bO w' w.heap.size A (df (G.world a)).length c' (df (G.world a))->Kept Nil w w'->K (.tuple #[.slice A (df (G.world a)).length c',.int .i64 0]) w'):
 bn prog ay.id #[.pointer (some ⟨c,0,none⟩),.agg a.1] w K:=by
 have W:=h.eM.W;have H:=h.eM.je;obtain⟨l,hc⟩:=cM.ex H a;have LH: ∀y∈l,y∈ids G.D:=fun y hy=>((hc.mem W H).1 hy).mem.1;have Wz:=hc.Ya H;refine ay.of ?_;unfold ay.W;intro w4 w5;have k4:Kept Nil w w4:=(Kept.refl _ _).alloc _;have Iy:w4.heap[w.heap.size]? =some (.cells #[.pointer (some ⟨c,0,none⟩)] fI (0,0)):=aJ w _;have k5:Kept Nil w4 w5:=(Kept.refl _ _).alloc _;have ze:w5.heap[w4.heap.size]? =some (.cells a.1 ag (0,0)):=aJ w4 _;clear_value w5;have Qe:=k5.heap Iy (fun h=>h);have qa:=k4.trans k5 (fun _ _ h=>h);have s4:=k4.size;have l4:=aQ Iy;have l5:=aQ ze;clear_value w4;refine⟨some ⟨c,0,none⟩,by rw [ax Qe];rfl,mc (h.same qa) ⟨true,rfl,Split.no rfl ?_⟩⟩;intro w6;have k6:Kept Nil w5 w6:=(Kept.refl _ _).drew;clear_value w6;have mL:=qa.trans k6 (fun _ _ h=>h);have h6:=h.same mL;have hc6:=k6.heap Qe (fun h=>h);have rT:=k6.heap ze (fun h=>h);refine⟨some ⟨c,0,none⟩,by rw [ax hc6];rfl,Is.mk rfl ⟨_,h6.c2,a.1,⟨a.2.1,Cells.bC rT⟩,_,h6.lH ha,Split.no rfl ?_⟩⟩;intro w7 w8;have k7:Kept Nil w6 w7:=(Kept.refl _ _).alloc _;have ho7:w7.heap[w6.heap.size]? =some (.cells #[.slice none 0 0] az (0,0)):=aJ w6 _;have k8:Kept Nil w7 w8:=(Kept.refl _ _).drew;clear_value w8;have ho8:=k8.heap ho7 (fun h=>h);have Jk:=k7.trans k8 (fun _ _ h=>h);have rK:=mL.trans Jk (fun _ _ h=>h);have Ug:=Jk.heap hc6 (fun h=>h);have WN:=Jk.heap rT (fun h=>h);have s6:=mL.size;have s56:=k6.size;have l7:=aQ ho8;clear_value w7;refine⟨some ⟨c,0,none⟩,by rw [ax Ug];rfl,Is.mk rfl ⟨_,(h.same rK).c1,a.1,⟨a.2.1,Cells.bC WN⟩,?_⟩⟩;refine oF a fun gR pb qb lV Be Bb zU hqb=>⟨_,rfl,?_⟩
 have s8:=Jk.size;have V1:=lV.size;have vr:=rK.trans lV (fun _ _ h=>h);have af0:=vr.size;have Ui:=lV.heap Ug (fun h=>h);have UR:=lV.heap WN (fun h=>h);have S8:=lV.heap ho8 (fun h=>h);have agu:=aQ Ui;have agA:=aQ UR;have ags:=aQ S8;have agp:=aQ Be;have ago:=aQ Bb
 let xo:Value:=.func (.func aV.id) #[] #[.pointer (some ⟨pb,0,none⟩),.pointer (some ⟨qb,0,none⟩)]
 let ρ0:Env:= [(2,.pointer (some ⟨w.heap.size,0,none⟩)),(3,.pointer (some ⟨w4.heap.size,0,none⟩)),(4,.slice none 0 0),(5,.int .i64 0),(6,.pointer (some ⟨w6.heap.size,0,none⟩)),(28,xo)]
 let av:Nat->Prop:=fun j=>j=w.heap.size\/j=w4.heap.size\/j=pb\/j=qb
 let S0:Nat->Prop:=fun j=>w.heap.size<=j/\ ¬av j
 let J:Nat->World->Prop:=fun j u=>mY u w.heap.size w6.heap.size av (qG G a (l.take j))/\Kept S0 gR u/\j<=l.length
 have nav: ¬av w6.heap.size:=fun e=>by rcases e with e|e|e|e<;>omega
 have Hs: ∀j,av j->j<gR.heap.size:=fun j e=>by rcases e with e|e|e|e<;>omega
 have D0: ∀j,m.own c j\/F j->j<w.heap.size:=h.low;have hCV: ∀ {u:World},Kept S0 gR u->CV u F c k G m:=fun ku=>(h.same vr).aC ku (fun j e e'=>by have:=D0 j (.inl e);have:=e'.1;omega) (fun j e e'=>by have:=D0 j (.inr e);have:=e'.1;omega);have k0S: ∀ {u:World},Kept S0 gR u->Kept Nil w u:=fun ku=>vr.trans ku (fun j hj e=>by have:=e.1;omega)
 change Holds none [] prog _ _ _ ρ0 gR
 have kL: ∀ {u1 u2:World} {R:Loop},Live (gR.heap.size+1) gR.heap.size R u1->Kept (· =gR.heap.size+1) u1 u2-> ∀ {acc:List HT} {av':Nat->Prop},mY u1 w.heap.size w6.heap.size av' acc->mY u2 w.heap.size w6.heap.size av' acc:=fun {u1 u2 R} nI mu {acc av'} h1=>
  h1.aC mu (by omega) (fun j cs t fr hj _ _ e=>by subst e;rw [nI.loop]at hj;cases hj)
 refine lF (n:=66) (ρ:=ρ0) (ρ0:=ρ0) ng mix ay.k (t:=28) (ps:= #[29]) (by kernel_rfl) (by decide) rfl aV.at_ rfl (.inl rfl) (fun i x hi hx=>hx) rfl pG l (fun _=>rfl) (fun q hq=>by
  have Vs:q=29:=by simpa using hq
  subst Vs;exact⟨by decide,by decide⟩) (wG (F:=m.FX) (x:=m.x) (m:=(h.X).choose) (pb:=pb) (qb:=qb) hc (by omega)) J (fun _ _=>False) ?_ (fun _ _ _ _ _ h=>h.elim) (fun j u hJ=>⟨((h.X).choose_spec.1.same vr).aC hJ.2.1 (fun j e e'=>by have:=D0 j (.inl (.inl ((h.X).choose_spec.2 j e)));have:=e'.1;omega) (fun j e e'=>by have:=D0 j (.inr (h.fx j e));have:=e'.1;omega),hJ.2.1.heap Be (fun e=>e.2 (.inr (.inr (.inl rfl)))),hJ.2.1.heap Bb (fun e=>e.2 (.inr (.inr (.inr rfl))))⟩) ?_ ?_ ?_ (fun _ _ h=>h.elim) (fun _ _ _ h=>h.elim)
 ·rintro j u1 u2 R nI ⟨h1,h2,h3⟩ mu
  exact⟨kL nI mu h1,h2.trans mu (fun k hk e=>by omega),h3⟩
 ·intro R
  refine⟨?_,((Kept.refl _ _).alloc _).alloc _,Nat.zero_le _⟩;exact⟨none,0,iX (iX S8 _) _,bO.nil _ _,fun j hj=>by cases hj⟩
 ·rintro j z u1 R hz ⟨h1,h2,h3⟩ nI
  have e7:jV ρ0 ((#[29]:Array Nat).toList.zip (pG z))= [(2,.pointer (some ⟨w.heap.size,0,none⟩)),(3,.pointer (some ⟨w4.heap.size,0,none⟩)),(4,.slice none 0 0),(5,.int .i64 0),(6,.pointer (some ⟨w6.heap.size,0,none⟩)),(28,xo),(29,.agg z.1)]:=rfl;rw [e7,ay.a1];have ri:=(List.getElem?_eq_some_iff.1 hz).1;have Ei:=LH z (List.mem_of_getElem? hz);unfold ay.A1;intro E7;obtain⟨qP,iC,iI⟩:=fT (w:=u1) (z:=dL.1) (cs:=z.1) (t:=ag) (by rw [z.2.1];rfl);refine⟨⟨z.2.1,z.2.one,fun j hj=>qP j (by rw [z.2.1];exact hj)⟩,?_⟩;intro E6
  replace iC:E6.heap[u1.heap.size]? =some (.cells z.1 ag (0,0)):=iC
  replace iI:Kept Nil u1 E6:=iI
  clear_value E6;have xi:=nI.aC iI (fun h=>h) (fun h=>h);refine⟨xi,fun w2 R2 mD rh=>?_⟩;have la:=mD.heap iC (iY iC xi.loop);have aad:Kept (· =gR.heap.size+1) u1 w2:=(iI.mono fun _ _ h=>h.elim).trans mD (fun _ _ h=>h);have qN:Kept S0 gR w2:=h2.trans aad (fun k hk e=>by omega);have su1:=h2.size;have s2:=qN.size;have lb2:=aQ la
  let Pp:Nat->Prop:=fun j=>av j\/j=u1.heap.size
  let S1:Nat->Prop:=fun j=>w.heap.size<=j/\ ¬Pp j
  have Q7: ¬Pp w6.heap.size:=fun e=>by rcases e with e|e;exact nav e;omega
  have UN: ∀j,Pp j->j<w2.heap.size:=fun j e=>by rcases e with e|e;have:=Hs j e;omega;omega
  have HO2:mY w2 w.heap.size w6.heap.size Pp (qG G a (l.take j)):=(kL xi mD ((h1.avo (av':=Pp) (fun j e=>e.imp (fun h=>h) (fun h=>by omega))).same iI));have aiU:(qG G a (l.take j)).length+1+G.D.length<=100000:=by
   have h1:=tX h.eM a (l.take j) (fun y hy=>LH y (List.mem_of_mem_take hy));have h2:(l.take j).length<=300:=by rw [List.length_take];omega
   have h3:(l.take j).length*(G.D.length+1)<=300*301:=Nat.mul_le_mul h2 (by omega);omega
  have Vp:qG G a (l.take (j+1))=qG G a (l.take j)++(if z=a then []else [z])++cP (G.ga z).merge (G.ga z).de:=by
   unfold qG;rw [List.take_add_one,hz,List.flatMap_append,List.append_assoc];simp
  have kS1: ∀ {u:World},Kept S1 w2 u->Kept S0 gR u:=fun ku=>qN.trans ku (fun j hj e=>⟨e.1,fun e'=>e.2 (.inl e')⟩);have cm1:=(mR h.eM Ei).1;have cm2:=(mR h.eM Ei).2;have tail: ∀ {u:World} {acc:List HT},mY u w.heap.size w6.heap.size Pp acc->acc.length+G.D.length<=100000->Kept S1 w2 u->Live (gR.heap.size+1) gR.heap.size R2 u->acc++cP (G.ga z).merge (G.ga z).de=qG G a (l.take (j+1))->
   let k1:=u.drew;∃m1:Option Addr,k1.cell? ⟨w.heap.size,0,none⟩=some (.pointer m1)/\Is m1 fun n1:Addr=> ∃o1:Option Nat,k1.cell? (n1.add 2)=some (.map o1)/\ ∃p1:Array Value,(p1.size=32/\Cells k1 ⟨u1.heap.size,0,none⟩ p1)/\ ∃q1:Option Addr,(Instr.lookup cV (.map o1) (.agg p1) false).run prog k1=.ok (.pointer q1) k1/\Is q1 fun r1:Addr=> ∃t1:Array Value,(t1.size=35/\Cells k1 (r1.add 0) t1)/\let KJ:=k1.alloc (.cells zC bk);(∃cs:Array Value,(.agg t1:Value)=.agg cs/\cs.size=35/\Cells KJ (r1.add 0) cs)/\(Instr.lookup cV (.map o1) (.agg p1) false).run prog KJ=.ok (.pointer q1) KJ/\(∃cs:Array Value,(.agg p1:Value)=.agg cs/\cs.size=32/\Cells KJ ⟨u1.heap.size,0,none⟩ cs)/\KJ.cell? (n1.add 2)=some (.map o1)/\KJ.cell? ⟨w.heap.size,0,none⟩=some (.pointer m1)/\(t1.size=35/\(∀v1∈t1.toList,v1.oneCell'=true)/\ ∀x1,x1<35->Wr KJ ((⟨k1.heap.size,0,none⟩:Addr).add x1))/\let y1:=setCells KJ (⟨k1.heap.size,0,none⟩:Addr) t1.toList 0;∃z1:Option Addr,∃a2:Nat,∃b2:Nat,y1.cell? ((⟨k1.heap.size,0,none⟩:Addr).add 33)=some (.slice z1 a2 b2)/\Holds (some (gR.heap.size+1)) [] prog 66 (.loop (lB (bB (sR (sR (sR (bB (rB (bB (sR (sL (sR (sR (sR (body ay.fn))))))))))))))) (ay.q1 (gR.heap.size+1) (Vq (gR.heap.size+1) gR.heap.size R2 (J (j+1)) (fun _ _=>False))) [(6,.pointer (some ⟨w6.heap.size,0,none⟩)),(8,.pointer (some (⟨k1.heap.size,0,none⟩:Addr))),(47,.slice z1 a2 b2),(48,.int .i64 (a2:Int)),(49,.int .i64 0)] y1:=by
   intro u acc HO WM ku lu heq vN;have Gm:Kept Nil u vN:=(Kept.refl _ _).drew;clear_value vN;have RU:=ku.trans Gm (fun _ _ h=>h.elim);have K4:=kS1 RU;have Pe:=hCV K4;have Uh:=K4.heap Ui (fun e=>e.2 (.inl rfl));have UD:=RU.heap la (fun e=>e.2 (.inr rfl));obtain⟨A1,n1,c1,B1,m1,d1,s1,sa⟩:=Pe.seen z Ei;refine⟨some ⟨c,0,none⟩,by rw [ax Uh];rfl,Is.mk rfl ⟨_,Pe.c2,z.1,⟨z.2.1,Cells.bC UD⟩,_,Pe.lH Ei,Is.mk rfl ⟨_,⟨aY ..,sa.ga⟩,?_⟩⟩⟩;intro zL;have Ik:Kept Nil vN zL:=(Kept.refl _ _).alloc _;have YL:zL.heap[vN.heap.size]? =some (.cells zC bk (0,0)):=aJ vN _;clear_value zL;have h51:=Pe.same Ik;have XK:=sa.aC Ik (fun _ _ h=>h);refine⟨⟨_,rfl,aY ..,XK.ga⟩,h51.lH Ei,⟨_,rfl,z.2.1,Cells.bC (Ik.heap UD (fun h=>h))⟩,h51.c2,by rw [ax (Ik.heap Uh (fun h=>h))];rfl,?_⟩;obtain⟨t1,t2,t3⟩:=dT YL (cs:=cF (G.ga z) A1 n1 c1 B1 m1 d1) (by rw [aY];rfl);refine⟨⟨aY ..,ek _ _ _ _ _ _ _,fun j hj=>t1 j (by rw [aY];exact hj)⟩,?_⟩;intro Di
   replace t2:Di.heap[vN.heap.size]? =some (.cells (cF (G.ga z) A1 n1 c1 B1 m1 d1) bk (0,0)):=t2
   replace t3:Kept (· =vN.heap.size) zL Di:=t3
   clear_value Di;have g33:=(eN (G.ga z) A1 n1 c1 B1 m1 d1 #[]).2.1;rw [Array.append_empty]at g33;refine⟨A1,n1,c1,by rw [ba,ax t2];exact g33,?_⟩;have yN:Kept Nil vN Di:=Ik.trans t3 (fun j hj e=>by omega);have Rz:=Gm.trans yN (fun _ _ h=>h);have s50:=Gm.size;have s52:=yN.size;have su:=ku.size;have lx:=aQ t2;have JQ:=sa.mg.len
   let av2:Nat->Prop:=fun j=>Pp j\/j=vN.heap.size
   have X3: ¬av2 w6.heap.size:=fun e=>by rcases e with e|e;exact Q7 e;omega
   refine xU (x:=G.ga z) (av:=av2) (acc:=acc) (R:=R2) ((HO.same Gm |>.avo (av':=av2) (fun j e=>e.imp (fun h=>h) (fun h=>by omega))).same yN) (by omega) (by omega) X3 (fun j e=>by rcases e with e|e;have:=UN j e;omega;omega) (.inr rfl) t2 (sa.mg.same yN) (sa.bl.same yN) cm2 (by omega) (fun a ha=>D0 _ (.inr (sa.fA a ha))) (fun a ha=>D0 _ (.inr (sa.fB a ha))) (lu.aC Rz (fun h=>h) (fun h=>h)) fun t HOt kt lt=>?_;refine⟨lt,?_,?_,by omega⟩
   ·rw [heq]at HOt
    exact HOt.avo (fun j e=>.inl (.inl (.inl e)))
   ·exact kS1 ((ku.trans Rz (fun _ _ h=>h.elim)).trans kt (fun j hj e=>⟨e.1,fun e'=>e.2 (.inl e')⟩))
  rw [ay.y1];unfold ay.Y1;have O2:=qN.heap UR (fun e=>e.2 (.inr (.inl rfl)));refine⟨z.1,⟨z.2.1,Cells.bC la⟩,a.1,⟨a.2.1,Cells.bC O2⟩,⟨z.2.ints,a.2.ints⟩,?_⟩;rw [dq];by_cases Wi:z=a
  ·refine Split.no (by rw [decide_eq_true Wi];rfl) ?_
   exact tail HO2 (by omega) (Kept.refl _ _) rh (by rw [Vp,if_pos Wi,List.append_nil])
  ·refine Split.yes (by rw [decide_eq_false Wi];rfl) ?_
   have jS:Kept Nil w2 (w2.alloc (.cells (z.1.toList++ []).toArray ag)):=(Kept.refl _ _).alloc _;obtain⟨A0,c0,q1,A',c',t,q2,q3,q4,q5,q6⟩:=HO2.push (by omega) (by omega) jS (jb w2 z) (by omega) UN Q7;refine⟨A0,_,c0,q1,z.1,⟨z.2.1,Cells.bC la⟩,z.2.1,A',_,c',t,q2,q3,?_⟩;exact tail q4 (by rw [List.length_append,List.length_singleton];omega) q5 (q6 _ _ _ rh) (by rw [Vp,if_neg Wi])
 ·rintro u1 R ⟨h1,h2,_⟩ nI
  rw [List.take_of_length_le (Nat.le_refl _)]at h1;have e7:gI ρ0 gR.heap.size= [(2,.pointer (some ⟨w.heap.size,0,none⟩)),(3,.pointer (some ⟨w4.heap.size,0,none⟩)),(4,.slice none 0 0),(5,.int .i64 0),(6,.pointer (some ⟨w6.heap.size,0,none⟩)),(28,xo),(4294967296,.agg (oO [gR.heap.size]))]:=rfl;rw [e7,ay.iT];unfold ay.gA;obtain⟨A0,c0,g1,g2,g3⟩:=h1;have hol:=tX h.eM a l LH;have h4:l.length*(G.D.length+1)<=300*301:=Nat.mul_le_mul (by omega) (by omega);refine⟨A0,_,c0,by rw [ax g1];rfl,?_⟩;refine gN g2.hs (by omega) fun A3 c3 w3 lX k3=>⟨A3,_,c3,rfl,?_⟩;have es:df (qG G a l)=df (G.world a):=wJ (I1 h.eM l a ha hc);rw [es]at lX⊢;have Z6:=nI.aC k3 (fun h=>h) (fun h=>h);rw [lh];have kt:=iU [gR.heap.size] w3;have hm: ∀E∈ [gR.heap.size],w3.heap[E]? =some (.deferred (some [])):=fun E hE=>by
   rw [List.mem_singleton]at hE;subst hE;exact Z6.mark
  refine⟨jX [gR.heap.size] w3 (by simp) hm,?_⟩;have Nj:=k0S h2;have su:=Nj.size;refine hK A3 c3 _ (Row.base (Row.aC lX kt (fun j hj hE=>?_)) (fun j hj=>by have:=(Row.bC lX hj).1;omega)) ((Nj.trans k3 (fun _ _ h=>h)).trans kt (fun k hk hE=>by rw [List.mem_singleton]at hE;omega));rw [List.mem_singleton]at hE;have:=(Row.bC lX hj).1;have:=h2.size;have:=aQ nI.mark;omega
end
end Go.Proofs.YtnboahlopghcjaaGreatDoor
namespace Go.Proofs.YtnboahlopghcjaaGreatDoor
open Go.Proofs.Tryz
open Go Go.bV Go.RowKit
section
variable{w w':World}{F:Nat->Prop}{c k:Nat}{G:GS}{m:CM}{K:Value->World->Prop}
theorem mF(h:iS k G){a:HT}(ha:a∈ids G.D):(G.world a).length<=G.D.length:=by
 have:=cR (m:=ids G.D) (h.wd a ha).1 (fun b hb=>(((h.wd a ha).2.1 b hb).mem h.W).1)
 rwa [fR]at this
theorem Br(h:CV w F c k G m)(hD:G.D.length<=300)(a:HT){b:HT}(hb:b∈ids G.D)(hK: ∀w',Kept Nil w w'->K (.bool (decide (a∈G.world b))) w'):
 bn prog dJ.id #[.pointer (some ⟨c,0,none⟩),.agg a.1,.agg b.1] w K:=by
 refine dJ.of ?_;unfold dJ.W;intro w4 w5;have k4:Kept Nil w w4:=(Kept.refl _ _).alloc _;have uD:w4.heap[w.heap.size]? =some (.cells a.1 ag (0,0)):=aJ w _;have k5:Kept Nil w4 w5:=(Kept.refl _ _).alloc _;have mv:w5.heap[w4.heap.size]? =some (.cells b.1 ag (0,0)):=aJ w4 _;clear_value w5;have ze:=k5.heap uD (fun h=>h);have qa:=k4.trans k5 (fun _ _ h=>h);clear_value w4;refine⟨b.1,⟨b.2.1,Cells.bC mv⟩,?_⟩;refine sG (h.same qa) hD hb fun A c' w6 Ao k6=>⟨A,_,c',0,rfl,a.1,⟨a.2.1,Cells.bC (k6.heap ze (fun h=>h))⟩,?_⟩;have hl:=l9 (G.world b);have hw:=mF h.eM hb;refine pR a Ao.hs (by omega) fun w7 k7=>⟨_,rfl,?_⟩;have e:decide (a∈df (G.world b))=decide (a∈G.world b):=by rw [decide_eq_decide];exact dm
 rw [e];exact hK w7 ((qa.trans k6 (fun _ _ h=>h)).trans k7 (fun _ _ h=>h))
end
end Go.Proofs.YtnboahlopghcjaaGreatDoor
namespace Go.Proofs.YtnboahlopghcjaaGreatDoor
open Go.Proofs.Tryz
open Go Go.bV Go.RowKit
structure GN(w v:World)(id:HT)(X M Q:Option Nat)(pt:Bool):Prop where
 kp:Kept Nil w v
 x: ∀x,X=some x-> ∃S,BU v S (fun _=>False) x [⟨id,[]⟩] [-1]/\ ∀j,S j->w.heap.size<=j/\j<v.heap.size/\M≠some j/\Q≠some j
 m: ∀m,M=some m->w.heap.size<=m/\fk v m (fun y=>if pt=true/\y=id then Q.map fun q=>.pointer (some ⟨q,0,none⟩)else none)
 q: ∀q,Q=some q->w.heap.size<=q/\v.heap[q]? =some (.cells zS dN (0,0))
 ne: ∀m q,M=some m->Q=some q->m≠q
section
variable{w w' v u:World}{F:Nat->Prop}{c k:Nat}{G:GS}{m:CM}{K:Value->World->Prop}{id:HT}{X M Q:Option Nat}{pt:Bool}
theorem GN.H6(h:GN w v id X none Q false):GN w (v.alloc (.map #[] 0)) id X (some v.heap.size) Q false:=by
 have k1:Kept Nil v (v.alloc (.map #[] 0)):=(Kept.refl _ _).alloc _;have hs:=k1.size;have hm:fk (v.alloc (.map #[] 0)) v.heap.size (fun _=>none):=fk.new v;refine⟨h.kp.trans k1 (fun _ _ h=>h),fun x hx=>?_,fun m mr=>?_,fun q hq=>?_,fun m q mr hq=>?_⟩
 ·obtain⟨S,h1,h2⟩:=h.x x hx
  exact⟨S,h1.same k1,fun j e=>by have:=h2 j e;exact⟨this.1,by omega,fun e=>by cases e;omega,this.2.2.2⟩⟩
 ·cases mr
  exact⟨h.kp.size,by simpa using hm⟩
 ·exact⟨(h.q q hq).1,k1.heap (h.q q hq).2 (fun h=>h)⟩
 ·cases mr
  have:=aQ (h.q q hq).2;omega
theorem GN.H5(h:GN w v id X M none false):GN w (v.alloc (.cells zS dN)) id X M (some v.heap.size) false:=by
 have k1:Kept Nil v (v.alloc (.cells zS dN)):=(Kept.refl _ _).alloc _;have hs:=k1.size;refine⟨h.kp.trans k1 (fun _ _ h=>h),fun x hx=>?_,fun m mr=>?_,fun q hq=>?_,fun m q mr hq=>?_⟩
 ·obtain⟨S,h1,h2⟩:=h.x x hx
  exact⟨S,h1.same k1,fun j e=>by have:=h2 j e;exact⟨this.1,by omega,this.2.2.1,fun e=>by cases e;omega⟩⟩
 ·have:=h.m m mr
  refine⟨this.1,?_⟩;have h2:=this.2.same k1;simpa using h2
 ·cases hq
  exact⟨h.kp.size,aJ v _⟩
 ·cases hq
  have:=(h.m m mr).2.lt;omega
theorem GN.BQ(h:GN w v id none M Q pt){x:Nat}{S:Nat->Prop}(hX:BU u S (fun _=>False) x [⟨id,[]⟩] [-1])(hS: ∀j,S j->v.heap.size<=j/\j<u.heap.size)(k1:Kept Nil v u):GN w u id (some x) M Q pt:=by
 have hs:=h.kp.size;refine⟨h.kp.trans k1 (fun _ _ h=>h),fun x' hx=>?_,fun m mr=>⟨(h.m m mr).1,(h.m m mr).2.same k1⟩,fun q hq=>⟨(h.q q hq).1,k1.heap (h.q q hq).2 (fun h=>h)⟩,h.ne⟩;cases hx;refine⟨S,hX,fun j e=>by
  have:=hS j e;exact⟨by omega,this.2,fun e=>by have:=(h.m j e).2.lt;omega,fun e=>by have:=aQ (h.q j e).2;omega⟩⟩
theorem GN.put{mm q:Nat}(h:GN w v id X (some mm) (some q) false): ∃u,(Instr.mapUpdate cV (.map (some mm)) (.agg id.1) (.pointer (some ⟨q,0,none⟩))).run prog v=.ok () u/\GN w u id X (some mm) (some q) true:=by
 obtain⟨h1,h2⟩:=h.m mm rfl;obtain⟨u,g1,g2,g3⟩:=h2.put F8 id (.pointer (some ⟨q,0,none⟩));have hs:=g3.size;refine⟨u,g1,h.kp.trans g3 (fun j hj e=>by omega),fun x hx=>?_,fun m mr=>?_,fun q' hq=>?_,h.ne⟩
 ·obtain⟨S,q1,q2⟩:=h.x x hx
  exact⟨S,q1.aC g3 (fun j e e'=>(q2 j e).2.2.1 (by rw [e'])) (fun _ h=>h.elim),fun j e=>by have:=q2 j e;exact⟨this.1,by omega,this.2.2⟩⟩
 ·cases mr
  refine⟨h1,?_⟩;have ef:(fun y=>if true=true/\y=id then(some q).map (fun q=>Value.pointer (some ⟨q,0,none⟩))else none)=fun x=>if x=id then some (.pointer (some ⟨q,0,none⟩))else if false=true/\x=id then(some q).map (fun q=>Value.pointer (some ⟨q,0,none⟩))else none:=by
   funext y
   by_cases hy:y=id<;>simp [hy]
  rw [ef];exact g2
 ·have:=h.q q' hq
  exact⟨this.1,g3.heap this.2 (fun e=>h.ne mm q' rfl hq e.symm)⟩
theorem GN.fin{x mm q:Nat}(h:GN w v id (some x) (some mm) (some q) true)(k:Nat): ∃m,CV (v.alloc (.cells #[.int .i64 (k:Int),.pointer (some ⟨x,0,none⟩),.map (some mm)] gB)) (· =q) v.heap.size k (dc id) m/\m.x=x/\(∀j,m.own v.heap.size j->w.heap.size<=j)/\w.heap.size<=q:=by
 have k1:Kept Nil v (v.alloc (.cells #[.int .i64 (k:Int),.pointer (some ⟨x,0,none⟩),.map (some mm)] gB)):=(Kept.refl _ _).alloc _;have ht:=aJ v (.cells #[.int .i64 (k:Int),.pointer (some ⟨x,0,none⟩),.map (some mm)] gB);generalize v.alloc (.cells #[.int .i64 (k:Int),.pointer (some ⟨x,0,none⟩),.map (some mm)] gB)=u at k1 ht⊢;obtain⟨S,h1,h2⟩:=h.x x rfl;obtain⟨h3,h4⟩:=h.m mm rfl;obtain⟨h5,h6⟩:=h.q q rfl;have fG:=h.ne mm q rfl rfl;have lm:=h4.lt;have lq:=aQ h6;have lt:=aQ ht;have hs:=k1.size;have hw:=h.kp.size;refine⟨⟨x,mm,S,fun _=>False,fun _=>q,fun _ _=>none⟩,⟨ht,h1.same k1,?_,?_,lE k id,SZ.root id,fun _ h=>h.elim,?_,?_,?_,?_⟩,rfl,?_,h5⟩
 ·have:=h4.same k1
  have ef:(fun h=>if h∈ids (dc id).D then some (Value.pointer (some ⟨q,0,none⟩))else none)=fun y=>if true=true/\y=id then(some q).map (fun q=>Value.pointer (some ⟨q,0,none⟩))else none:=by
   funext y
   by_cases hy:y=id
   ·simp [hy,dc,ids]
   ·simp [hy,dc,ids]
  show fk u mm (fun h=>if h∈ids (dc id).D then some (Value.pointer (some ⟨q,0,none⟩))else none)
  rw [ef];exact this
 ·intro y hy
  have:y=id:=by simpa [dc,ids]using hy
  subst this;obtain⟨q1,_⟩:=(lE k y).root ⟨y,[]⟩ rfl
  replace q1:(dc y).ga y=_:=q1
  rw [q1];exact⟨none,0,0,none,0,0,none,k1.heap h6 (fun h=>h),HS.nil _ _,⟨rfl,fun i b hi=>by simp at hi⟩,fun a ha=>(by cases ha),fun a ha=>(by cases ha),.inl ⟨rfl,fun _=>rfl⟩,rfl⟩
 ·rintro j rfl e
  rcases e with e|e|e
  ·exact(h2 _ e).2.2.2 rfl
  ·have e:j=v.heap.size:=e;omega
  ·exact fG e.symm
 ·intro j e
  have:=h2 j e;exact⟨by omega,fun e=>this.2.2.1 (by rw [e])⟩
 ·show v.heap.size≠mm;omega
 ·rintro j (e|e)
  ·rcases e with e|e|e
   ·have:=h2 j e;omega
   ·have e:j=v.heap.size:=e;omega
   ·have e:j=mm:=e;omega
  ·have e:j=q:=e;omega
 ·intro j e
  rcases e with e|e|e
  ·have:=h2 j e;omega
  ·have e:j=v.heap.size:=e;omega
  ·have e:j=mm:=e;omega
theorem hU(id:HT){k:Nat}(hk:k<=100)(hK: ∀w' c q m,CV w' (· =q) c k (dc id) m->(∀j,m.own c j->w.heap.size<=j)->w.heap.size<=q->Kept Nil w w'->K (.tuple #[.pointer (some ⟨c,0,none⟩),.int .i64 0]) w'):
 bn prog hU.id #[.int .i64 (k:Int),.agg id.1] w K:=by
 refine hU.of ?_;unfold hU.W;intro w1;have k1:Kept Nil w w1:=(Kept.refl _ _).alloc _;have xM:w1.heap[w.heap.size]? =some (.cells id.1 ag (0,0)):=aJ w _;clear_value w1;refine Split.no (decide_eq_false (by omega)) (Split.no (decide_eq_false (by omega)) ?_);intro w2;have k2:Kept Nil w1 w2:=(Kept.refl _ _).drew;clear_value w2;have la:=k2.heap xM (fun h=>h);have oh:=k1.trans k2 (fun _ _ h=>h);have s02:=oh.size;have N0:GN w2 w2 id none none none false:=⟨Kept.refl _ _,fun _ h=>(by cases h),fun _ h=>(by cases h),fun _ h=>(by cases h),fun _ _ h=>(by cases h)⟩;have bx: ∀ {v:World},Kept Nil w2 v-> ∃cs:Array Value,(.agg id.1:Value)=.agg cs/\cs.size=32/\Cells v ⟨w.heap.size,0,none⟩ cs:=fun kv=>⟨id.1,rfl,id.2.1,Cells.bC (kv.heap la (fun h=>h))⟩;have fin: ∀ {v:World} {x mm q:Nat},GN w2 v id (some x) (some mm) (some q) true->let p:=v.alloc (.cells #[.int .i64 (k:Int),.pointer (some ⟨x,0,none⟩),.map (some mm)] gB);K (.tuple #[.pointer (some (⟨v.heap.size,0,none⟩:Addr)),.int .i64 0]) p:=fun {v x mm q} N=>by
  obtain⟨m,h1,_,h2,h3⟩:=N.fin k;exact hK _ _ q m h1 (fun j e=>by have:=h2 j e;omega) (by omega) ((oh.trans N.kp (fun _ _ h=>h)).alloc _)
 refine⟨id.1,⟨id.2.1,Cells.bC la⟩,id.1,⟨id.2.1,Cells.bC la⟩,?_,?_,?_⟩
 ·refine iq id fun v x hX kv=>⟨_,rfl,?_⟩
  have N1:=N0.BQ hX (fun j e=>e) kv;refine⟨bx N1.kp,⟨?_,?_⟩⟩
  ·have N2:=N1.H6
   have N3:=N2.H5;obtain⟨u,hu,N4⟩:=N3.put;exact⟨bx N2.kp,bx N3.kp,u,hu,fin N4⟩
  ·have N2:=N1.H5
   have N3:=N2.H6;obtain⟨u,hu,N4⟩:=N3.put;exact⟨bx N2.kp,bx N3.kp,u,hu,fin N4⟩
 ·have N1:=N0.H6
  refine⟨bx N1.kp,bx N1.kp,?_,?_⟩
  ·refine iq id fun v x hX kv=>⟨_,rfl,?_⟩
   have N2:=N1.BQ hX (fun j e=>e) kv;have N3:=N2.H5;obtain⟨u,hu,N4⟩:=N3.put;exact⟨bx N2.kp,bx N3.kp,u,hu,fin N4⟩
  ·have N2:=N1.H5
   refine⟨bx N2.kp,bx N2.kp,?_,?_⟩
   ·refine iq id fun v x hX kv=>⟨_,rfl,?_⟩
    have N3:=N2.BQ hX (fun j e=>e) kv;obtain⟨u,hu,N4⟩:=N3.put;exact⟨bx N3.kp,u,hu,fin N4⟩
   ·obtain⟨u,hu,N3⟩:=N2.put
    refine⟨u,hu,bx N3.kp,?_⟩;refine iq id fun v x hX kv=>⟨_,rfl,?_⟩;exact fin (N3.BQ hX (fun j e=>e) kv)
 ·have N1:=N0.H5
  refine⟨bx N1.kp,bx N1.kp,?_,?_⟩
  ·refine iq id fun v x hX kv=>⟨_,rfl,?_⟩
   have N2:=N1.BQ hX (fun j e=>e) kv;have N3:=N2.H6;obtain⟨u,hu,N4⟩:=N3.put;exact⟨bx N2.kp,bx N3.kp,u,hu,fin N4⟩
  ·have N2:=N1.H6
   refine⟨bx N2.kp,bx N2.kp,?_,?_⟩
   ·refine iq id fun v x hX kv=>⟨_,rfl,?_⟩
    have N3:=N2.BQ hX (fun j e=>e) kv;obtain⟨u,hu,N4⟩:=N3.put;exact⟨bx N3.kp,u,hu,fin N4⟩
   ·obtain⟨u,hu,N3⟩:=N2.put
    refine⟨u,hu,bx N3.kp,?_⟩;refine iq id fun v x hX kv=>⟨_,rfl,?_⟩;exact fin (N3.BQ hX (fun j e=>e) kv)
end
end Go.Proofs.YtnboahlopghcjaaGreatDoor
