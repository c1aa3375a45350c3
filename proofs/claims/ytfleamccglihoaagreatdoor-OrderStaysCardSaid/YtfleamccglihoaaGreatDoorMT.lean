import Derived.Test.YtfleamccglihoaaGreatDoorMS
import Derived.Test.YtfleamccglihoaaGreatDoorMQ
import Derived.Test.YtfleamccglihoaaGreatDoorMJ
import Derived.Test.YtfleamccglihoaaGreatDoorMP
open Go.IntKind (i64 u64)
set_option linter.unusedVariables false
namespace Go.Proofs.YtfleamccglihoaaGreatDoor
open Go.Proofs.Tryz
open Go Go.bR Go.RowKit
theorem Hp(D:DG)(s:HT){l:List HT}(hl:∀x∈l,x∈ids D):(pw D s l).length<=D.length:=by
 have:=cM (m:=ids D) (qy D s l) (fun x hx=>by
  rcases(nu.1 hx).1 with h|h
  ·exact h.1
  ·exact hl x h)
 rwa [gg]at this
theorem Fa{D:DG}{l:List HT}(h:nx D l=0):l≠ []/\∀x∈l,x∈ids D:=by
 unfold nx at h;split at h
 ·cases h
 ·rename_i h0
  split at h
  ·cases h
  ·rename_i h1
   exact⟨h0,fun x hx=>Classical.byContradiction fun e=>h1 ⟨x,hx,e⟩⟩
section
variable{w w':World}{F:Nat->Prop}{c k:Nat}{G:GS}{m:CM}{K:Value->World->Prop}{A:Option Addr}{n cx:Nat}{l:List HT}{s:HT}
theorem mD.gw{q B sm bb cp e ce:Nat}{x:nN}{ov:HT->Option Nat}{E:Option Addr}(h:mD w B q sm bb x ov A n cp E e ce):Cells w ((⟨q,0,none⟩:Addr).add 0) (cG x A n cp E e ce):=by
 intro j u hj;rw [add_zero,bg,aA h.top,Array.getElem?_append_left (by rw [bf];have:=(Array.getElem?_eq_some_iff.1 hj).1;rw [bf]at this;omega)];rw [Nat.zero_add];exact hj
end
theorem XV.off{w:World}{D:DG}{P:List Int}{m:XM}{x:Nat}{F:Nat->Prop}(h:XV w F x D P m):∀k,m.kz x k->¬F k:=fun k e=>by
 obtain⟨bl,c,mb,M,G⟩:=h.G;rcases e with e|e|e|e
 ·exact G.Gw k e
 ·exact fun f=>(h.fd k f).1 e
 ·exact fun f=>(h.fd k f).2 e
 ·exact(h.od k e).2.2.2
section
variable{w w':World}{F F':Nat->Prop}{c k q:Nat}{G:GS}{m:CM}{K:Value->World->Prop}{A B:Option Addr}{n cx cp e ce:Nat}{l:List HT}{x:nN}{sz:HT->Option Nat}{sm:Option Nat}
theorem Seen.mono(h:Seen w F q x sz)(hF:∀j,F j->F' j):Seen w F' q x sz:=by
 obtain⟨A,n,cp,B,e,ce,sm,h⟩:=h;refine⟨A,n,cp,B,e,ce,sm,h.top,h.mg,h.bl,fun a ha=>hF _ (h.fA a ha),fun a ha=>hF _ (h.fB a ha),?_,hF _ h.fq⟩;rcases h.sz with g|⟨s,g1,g2,g3⟩
 ·exact .inl g
 ·exact .inr ⟨s,g1,hF _ g2,g3⟩
abbrev LL:Array Value:=cG ⟨dZ,0,[],[]⟩ none 0 0 none 0 0
theorem CZ(D:DG)(h:HT)(l:List HT):dr D h l=if h∈ids D then 7 else if l.length=0 then 9 else if(di l).length≠l.length then 9 else nx D l:=by
 unfold dr nx;by_cases h1:h∈ids D
 ·rw [if_pos h1,if_pos h1]
 ·rw [if_neg h1,if_neg h1]
  by_cases h2:l.length=0
  ·rw [if_pos h2,if_pos (.inl (by have:=nP l;omega))]
  ·have hl:l≠ []:=fun e=>h2 (by rw [e];rfl)
   rw [if_neg h2];by_cases h3:(di l).length≠l.length
   ·rw [if_pos h3,if_pos (.inr h3)]
   ·have a:¬((di l).length=0\/(di l).length≠l.length):=by omega
    have hc:(∃p∈di l,p∉ids D)↔∃p∈l,p∉ids D:=⟨fun⟨p,hp,hq⟩=>⟨p,dd.1 hp,hq⟩,fun⟨p,hp,hq⟩=>⟨p,dd.2 hp,hq⟩⟩;rw [if_neg h3,if_neg a,if_neg hl];by_cases h4:∃p∈l,p∉ids D
    ·rw [if_pos h4,if_pos (hc.2 h4)]
    ·rw [if_neg h4,if_neg (fun e=>h4 (hc.1 e))]
set_option maxHeartbeats 2000000 in
theorem FT(h:CV w F c k G m)(hT:tT w)(JK:¬m.SX (Tryz.jK.g 1))(hD:G.D.length<=49)(qQ:k<=1000)(Gr:HS w A n l)(hn:n<=5000)(id:HT)
 (hE:dr G.D id l≠0->∀w',Kept Nil w w'->K (.tuple #[.agg LL,.int .i64 (dr G.D id l)]) w')
 (hO:dr G.D id l=0->∀w' F' m' A n c1 B e c2,CV w' F' c k (cV k G id l) m'->m'.x=m.x->Kept (m.own c) w w'->(∀j,m'.own c j->m.own c j\/w.heap.size<=j)->(∀j,F' j->F j\/w.heap.size<=j)->
   bI w' w.heap.size A n c1 (cI k G (bN G l) l).merge->Row w' w.heap.size iq 1 B e c2 (rY (cI k G (bN G l) l).fz)->(∀j,a8 A=some j->a8 B≠some j)->(∀j,a8 A=some j\/a8 B=some j->¬m'.own c j/\¬F' j)->
   K (.tuple #[.agg (cG (cI k G (bN G l) l) A n c1 B e c2),.int .i64 0]) w'):
 bk prog dC.id #[.pointer (some ⟨c,0,none⟩),.agg id.1,.slice A n cx] w K:=by
 have hlen:=Gr.len;refine dC.of ?_;unfold dC.W;intro w1 w2;have k1:Kept Nil w w1:=(Kept.refl _ _).alloc _;have yi:w1.heap[w.heap.size]? =some (.cells id.1 ai (0,0)):=aI w _;have k2:Kept Nil w1 w2:=(Kept.refl _ _).alloc _;have jD:w2.heap[w1.heap.size]? =some (.cells zC bn (0,0)):=aI w1 _;clear_value w2;have Ae:=k2.heap yi (fun h=>h);have kL:=k1.tt k2;have s1:=k1.size;have l1:=aT yi;have l2:=aT jD;clear_value w1;have zs:(zC:Array Value)=LL:=rfl;have bad:∀ {u:World} {r:Int},Kept Nil w2 u->dr G.D id l=r->r≠0->(zC.size=35/\(∀n∈zC.toList,n.oneCell'=true)/\∀o,o<35->Wr u ((⟨w1.heap.size,0,none⟩:Addr).add o))/\
  let p:=setCells u (⟨w1.heap.size,0,none⟩:Addr) zC.toList 0;∃q:Array Value,(q.size=35/\Cells p (⟨w1.heap.size,0,none⟩:Addr) q)/\K (.tuple #[.agg q,.int .i64 r]) p:=fun {u r} ku hr h0=>by
  obtain⟨t1,t2,t3⟩:=dW (ku.heap jD (fun h=>h)) (cs:=zC) rfl;refine⟨⟨rfl,by rw [zs];exact eI _ _ _ _ _ _ _,fun j hj=>t1 j hj⟩,?_⟩;refine⟨_,⟨rfl,Cells.bE t2⟩,?_⟩;have:=hE (by rw [hr];exact h0) _ ((kL.tt ku).trans t3 (fun j hj e=>by omega));rw [hr]at this;exact this
 have jF:=CZ G.D id l;refine mN (h.same kL) ⟨true,rfl,Split.no rfl ?_⟩;intro w3;have k3:Kept Nil w2 w3:=(Kept.refl _ _).drew;clear_value w3;have lC:=kL.tt k3;have h3:=h.same lC;refine⟨_,h3.c2,id.1,⟨id.2.1,Cells.bE (k3.heap Ae (fun h=>h))⟩,_,h3.look id,?_⟩;by_cases hid:id∈ids G.D
 ·rw [if_pos hid]at jF
  exact Split.yes (by rw [if_pos hid];rfl) (bad k3 jF (by decide))
 rw [if_neg hid]at jF;refine Split.no (by rw [if_neg hid];rfl) ?_;by_cases FE:n=0
 ·rw [if_pos (by omega)]at jF
  exact Split.yes (by subst FE;rfl) (bad k3 jF (by decide))
 rw [if_neg (by omega)]at jF;refine Split.no (by simpa using (by omega:¬(n:Int)=0)) ?_;refine iN (Gr.same lC) (by omega) fun A4 c4 w4 iE k4=>⟨A4,_,c4,rfl,?_⟩;have qp:=k3.tt k4;have pE:=lC.tt k4;by_cases Cf:(di l).length≠l.length
 ·rw [if_pos Cf]at jF
  exact Split.yes (by simp only [bne_iff_ne,ne_eq];omega) (bad qp jF (by decide))
 rw [if_neg Cf]at jF;refine Split.no (by simp only [bne_eq_false_iff_eq];omega) ?_;refine yr (h.same pE) (Gr.same pE) (by omega) fun w5 k5=>⟨_,_,rfl,?_⟩;have DB:=qp.tt k5;have tk:=pE.tt k5;generalize ml:(if nx G.D l=0 then bN G l else dZ)=s;intro w6;have k6:Kept Nil w5 w6:=(Kept.refl _ _).alloc _;have qh:w6.heap[w5.heap.size]? =some (.cells dZ.1 ai (0,0)):=aI w5 _;clear_value w6;obtain⟨t1,t2,t3⟩:=jG s qh rfl;refine⟨t1,?_⟩;intro w7
 replace t2:w7.heap[w5.heap.size]? =some (.cells s.1 ai (0,0)):=t2
 replace t3:Kept (· =w5.heap.size) w6 w7:=t3
 clear_value w7;have KJ:Kept Nil w5 w7:=k6.trans t3 (fun j hj e=>by omega);have OJ:=DB.tt KJ;have yM:=tk.tt KJ;by_cases hm:nx G.D l≠0
 ·exact Split.yes (by simpa using hm) (bad OJ jF hm)
 have hm:nx G.D l=0:=by omega
 rw [if_pos hm]at ml;rw [hm]at jF⊢;refine Split.no rfl ⟨s.1,⟨s.2.1,Cells.bE t2⟩,?_⟩;obtain⟨e9,fC⟩:=Fa hm;have Bh:s∈l:=by rw [<-ml];exact gq e9
 obtain⟨ch,mW⟩:=cr.ex h.fy.iw s;have h7:=h.same yM;refine CA Ka (Nat.le_trans (Hp G.D s fC) hD) h7 (hT.same yM) (by omega) qQ (fC s Bh) mW fC (Gr.same yM) hn fun v q B sm bb ov Am nm cp E e ce g1 gO g3 g4 g5 g6 g7=>⟨some ⟨q,0,none⟩,rfl,?_⟩;have HP:=yM.tt g7;have HD:=OJ.tt g7;have k5v:=KJ.tt g7;have s07:=yM.size;have s0v:=HP.size;intro w8;have k8:Kept Nil v w8:=(Kept.refl _ _).drew;clear_value w8;have ud:=HP.tt k8;have h8:=h.same ud;have g18:=g1.same k8;have s8:=k8.size;refine⟨_,h8.c1,id.1,⟨id.2.1,Cells.bE ((HD.tt k8).heap Ae (fun h=>h))⟩,s.1,⟨s.2.1,Cells.bE (((g7.tt k8)).heap t2 (fun h=>h))⟩,?_⟩;refine BM h8.X (by omega) (hT.same ud) JK (Gr.same ud) hn id s fun u S' FX' hX9 k9 hS9 RE=>⟨_,rfl,?_⟩;have eX:nE G.D id s l=(cV k G id l).D/\nD G.D G.P id s l=(cV k G id l).P:=by rw [<-ml];exact⟨Jj.symm,Jk.symm⟩
 rw [eX.1,eX.2]at hX9;obtain⟨mx,X9,hmx⟩:=hX9;have v7:∀j,m.own c j\/F j->j<w.heap.size:=h.low;have g1q:q<v.heap.size:=aT g1.top;have g1s:sm<v.heap.size:=g1.ov.lt;have vv:∀j,w.heap.size<=j->¬m.SX j:=fun j hj e=>by have:=v7 j (.inl (.inl e));omega
 have g19:=g18.aG k9 (vv q (by omega)) (vv sm (by omega)) (fun j hj _=>vv j (by have:=g6.1;omega)) (fun a ha=>vv _ (by have:=g5 a ha;omega));have s9:=k9.size;have KM:Kept m.SX w2 u:=((HD.tt k8).mono fun _ _ h=>h.elim).tt k9;have ncm:¬m.SX c/\¬m.SX m.mb:=⟨fun e=>(h.so _ e).1 rfl,fun e=>(h.so _ e).2 rfl⟩;have R5:u.heap[c]? =_:=k9.heap h8.top ncm.1;have ac0:=h8.all.aG k9 ncm.2;intro w10;have mG:Kept Nil u w10:=(Kept.refl _ _).drew;clear_value w10;have R7:=mG.heap R5 (fun h=>h);have KX:=(KM.trans mG (fun _ _ h=>h.elim)).heap Ae (fun e=>vv _ (Nat.le_refl _) e);have WM:=ac0.aG mG (fun h=>h);obtain⟨qi,aaz,WL,DF⟩:=WM.put Ho id (.pointer (some ⟨q,0,none⟩));refine⟨some m.mb,by rw [bg,aA R7];rfl,id.1,⟨id.2.1,Cells.bE KX⟩,qi,aaz,Is.mk rfl ?_⟩;have s10:=mG.size;have s11:=DF.size;have lmb:m.mb<w.heap.size:=v7 _ (.inl (.inr (.inr rfl)));have lc:c<w.heap.size:=v7 _ (.inl (.inr (.inl rfl)));have zV:Kept (· =m.mb) u qi:=(mG.mono fun _ _ h=>h.elim).tt DF;have LD:=g19.aG zV (by omega) (by omega) (fun j hj _ e=>by have:=g6.1;omega) (fun a ha e=>by have:=g5 a ha;omega);have acV:=Row.bo LD.bl;have To:Kept (m.own c) w qi:=((ud.mono (S':=m.own c) fun _ _ h=>h.elim).trans k9 (fun _ _ h=>.inl h)).trans zV (fun _ _ h=>.inr (.inr h));refine⟨_,⟨bf ..,LD.gw⟩,?_⟩;have yq:=g1.mg.len;have hnm:nm<=49:=by
  have JA:(cI k G s l).merge=cj G s l:=rfl;have vk:(cj G s l).length<=49:=by
   have:=cM (m:=ids G.D) (jv G s l).nodup (fun y hy=>by
    rcases(iH.1 hy).1 with h|h
    ·exact h.1
    ·exact fC y h)
   rw [gg]at this;omega
  rw [JA]at yq;omega
 have XI:e<=49:=by
  have h1:=(uj k G s l).1;have h2:=(Row.bo g1.bl).len;have JA:(cI k G s l).merge=cj G s l:=rfl;have ZV:(cI k G s l).fz=(dE k G s l).bl:=rfl;rw [ZV]at h2;rw [JA]at yq;omega
 refine oF (cI k G s l) LD.mg acV (by omega) (by omega) fun A' c1 B' c2 lR q9 G4 Ur vf=>⟨_,rfl,?_⟩;have Tj:Kept (m.own c) w2 lR:=((KM.mono (S':=m.own c) fun _ _ h=>.inl h).trans zV (fun _ _ h=>.inr (.inr h))).trans vf (fun _ _ h=>h.elim);have fr2:∀j,w.heap.size<=j->¬m.own c j:=fun j hj e=>by have:=v7 j (.inl e);omega
 have aao:=Tj.heap jD (fr2 _ (by omega));obtain⟨f1,f2,f3⟩:=dW aao (cs:=cG (cI k G s l) A' nm c1 B' e c2) (by rw [bf];rfl);refine⟨⟨bf ..,eI _ _ _ _ _ _ _,fun j hj=>f1 j (by rw [bf];exact hj)⟩,?_⟩;intro lV
 replace f2:lV.heap[w1.heap.size]? =_:=f2
 replace f3:Kept (· =w1.heap.size) lR lV:=f3
 clear_value lV;refine⟨_,⟨bf ..,Cells.bE f2⟩,?_⟩;have vg:Kept (· =w1.heap.size) qi lV:=(vf.mono fun _ _ h=>h.elim).tt f3;have s13:=vg.size;have lw1:w1.heap.size<w7.heap.size:=Nat.lt_of_lt_of_le l2 OJ.size;rw [ml]at hO;have Ac:=jH (k:=k) (G:=G) (h:=id) (ps:=l) jF;have UX:ids (cV k G id l).D=ids G.D++ [id]:=by rw [Ac];simp [ids]
 let F':Nat->Prop:=fun j=>F j\/(w7.heap.size<=j/\j<v.heap.size)\/FX' j
 let m':CM:=⟨m.x,m.mb,mx.kz m.x,FX',fun y=>if y=id then q else m.q y,fun y=>if y=id then ov else m.sz y⟩
 have Ru:∀j,mx.kz m.x j->m.SX j\/w8.heap.size<=j:=fun j e=>hS9 j (hmx j e);have YX:∀j,m'.own c j->m.own c j\/w8.heap.size<=j:=fun j e=>by
  rcases e with e|e|e
  ·exact(Ru j e).imp (fun e=>.inl e) (fun e=>e)
  ·exact .inl (.inr (.inl e))
  ·exact .inl (.inr (.inr e))
 have u9:∀j,F' j->F j\/(w7.heap.size<=j/\j<u.heap.size):=fun j e=>by
  rcases e with e|e|e
  ·exact .inl e
  ·exact .inr ⟨e.1,by omega⟩
  ·rcases RE j e with e'|e'
   ·exact .inl (h.fx j e')
   ·exact .inr ⟨by omega,X9.low j (.inr e)⟩
 have Mf:∀j,mx.kz m.x j->j<u.heap.size:=fun j e=>X9.low j (.inl e);have Zj:Kept (fun j=>j=m.mb\/j=w1.heap.size) u lV:=(zV.mono fun _ _ h=>.inl h).trans vg (fun _ _ h=>.inr h);have n1:∀j,F' j->¬(j=m.mb\/j=w1.heap.size):=fun j e e'=>by
  rcases e' with e'|e'
  ·rcases u9 j e with e|e
   ·exact h.fo j e (.inr (.inr e'))
   ·omega
  ·rcases u9 j e with e|e
   ·have:=v7 j (.inr e);omega
   ·omega
 have n2:∀j,mx.kz m.x j->¬(j=m.mb\/j=w1.heap.size):=fun j e e'=>by
  rcases e' with e'|e'
  ·rcases Ru j e with e|e
   ·exact(h.so j e).2 e'
   ·omega
  ·rcases Ru j e with e|e
   ·have:=v7 j (.inl (.inl e));omega
   ·have:=k8.size;have:=g7.size;omega
 have LC:mD lV B q sm bb (cI k G s l) ov Am nm cp E e ce:=LD.aG vg (by omega) (by omega) (fun j hj _ e=>by have:=g6.1;omega) (fun a ha e=>by have:=g5 a ha;omega);have C':CV lV F' c k (cV k G id l) m':=by
  refine⟨?_,?_,?_,?_,h.fy.add id l,?_,fun j e=>.inr (.inr e),?_,?_,h.ne,?_⟩
  ·exact Zj.heap R5 (fun e=>by rcases e with e|e;exact h.ne e;omega)
  ·exact⟨mx,X9.aG Zj n2 (fun j e=>n1 j (.inr (.inr e))),fun _ e=>e⟩
  ·have:=WL.aG vg (by show ¬m.mb=_;omega)
   have ef:(fun h=>if h∈ids (cV k G id l).D then some (Value.pointer (some ⟨m'.q h,0,none⟩))else none)=fun x=>if x=id then some (Value.pointer (some ⟨q,0,none⟩))else if x∈ids G.D then some (.pointer (some ⟨m.q x,0,none⟩))else none:=by
    funext y
    rw [UX];by_cases hy:y=id
    ·simp [hy,m']
    ·by_cases hy2:y∈ids G.D
     ·simp [hy,hy2,m']
     ·simp [hy,hy2]
   rw [ef];exact this
  ·intro y hy
   rw [UX,List.mem_append,List.mem_singleton]at hy;by_cases he:y=id
   ·subst he
    rw [(lu h.fy jF).1,ml];have e1:m'.q y=q:=if_pos rfl;have e2:m'.sz y=ov:=if_pos rfl;rw [e1,e2];refine⟨Am,nm,cp,E,e,ce,some sm,LC.top,LC.mg,Row.bo LC.bl,fun a ha=>.inr (.inl ⟨g5 a ha,?_⟩),fun a ha=>.inr (.inl ?_),.inr ⟨sm,rfl,.inr (.inl ⟨g4,g1s⟩),LC.ov⟩,.inr (.inl ⟨g3,g1q⟩)⟩
    ·have:=(g1.mA a ha).1
     have:=g6.2;omega
    ·subst ha
     obtain⟨q1,cur,q2⟩:=Row.bE g1.bl (k:=a.block) rfl;have:=aT q2;have:=g6.1;exact⟨by omega,this |>fun _=>aT q2⟩
   ·have hy:y∈ids G.D:=hy.elim (fun e=>e) (fun e=>absurd e he)
    rw [(ij h.fy hy).1];have e1:m'.q y=m.q y:=if_neg he;have e2:m'.sz y=m.sz y:=if_neg he;rw [e1,e2];exact(((h8.seen y hy).aG k9 (fun j e e'=>h.fo j e (.inl e'))).aG Zj (fun j e=>n1 j (.inl e))).mono (fun j e=>.inl e)
  ·have Qd:cr G.D G.P (bN G l) ch:=by rw [ml];exact mW
   rw [<-ml]at gO;exact SZ.add h.Z h.fy jF Qd gO
  ·intro j e e'
   rcases e' with e'|e'|e'
   ·rcases e with e|e|e
    ·rcases Ru j e' with e'|e'
     ·exact h.fo j e (.inl e')
     ·have:=v7 j (.inr e);omega
    ·rcases Ru j e' with e'|e'
     ·have:=v7 j (.inl (.inl e'));omega
     ·omega
    ·exact XV.off X9 j e' e
   ·rcases u9 j e with e|e
    ·exact h.fo j e (.inr (.inl e'))
    ·have e':j=c:=e';omega
   ·rcases u9 j e with e|e
    ·exact h.fo j e (.inr (.inr e'))
    ·have e':j=m.mb:=e';omega
  ·intro j e
   rcases Ru j e with e'|e'
   ·exact h.so j e'
   ·exact⟨by omega,by show j≠m.mb;omega⟩
  ·rintro j (e|e)
   ·rcases e with e|e|e
    ·have:=Mf j e;omega
    ·have e:j=c:=e;omega
    ·have e:j=m.mb:=e;omega
   ·rcases u9 j e with e|e
    ·have:=v7 j (.inr e);omega
    ·omega
 have FM:∀j,a8 A'=some j->qi.heap.size<=j:=fun j hj=>(Row.bE q9 hj).1;have QB:∀j,a8 B'=some j->qi.heap.size<=j:=fun j hj=>(Row.bE G4 hj).1;have Wz:∀j,qi.heap.size<=j->¬m'.own c j/\¬F' j:=fun j hj=>⟨fun e=>by
  rcases e with e|e|e
  ·have:=Mf j e;omega
  ·have e:j=c:=e;omega
  ·have e:j=m.mb:=e;omega,fun e=>by
  rcases u9 j e with e|e
  ·have:=v7 j (.inr e);omega
  ·omega⟩
 exact hO jF lV F' m' A' nm c1 B' e c2 C' rfl ((To.trans vg (fun j hj e=>by omega))) (fun j e=>(YX j e).imp (fun h=>h) (fun h=>by omega)) (fun j e=>(u9 j e).imp (fun h=>h) (fun h=>by omega))
  (Row.base (Row.aG q9 f3 (fun j hj e=>by have:=FM j hj;omega)) (fun j hj=>by have:=FM j hj;omega)) (Row.base (Row.aG G4 f3 (fun j hj e=>by have:=QB j hj;omega)) (fun j hj=>by have:=QB j hj;omega)) Ur
  (fun j hj=>Wz j (hj.elim (FM j) (QB j)))
end
theorem cr.Hu{D:DG}{P:List Int}{h:HT}{l:List HT}(hc:cr D P h l)(H:qT D P):l.length<=D.length:=by
 rcases hc with⟨_,rfl⟩|⟨i,nd,ks,h1,_,h3,rfl⟩
 ·exact Nat.zero_le _
 ·have:=h3.len H.par
  rw [List.length_map];have:=(lgeS h1).1;omega
section
variable{k:Nat}{G:GS}
theorem xC(H:eK k G){h:HT}(hm:h∈ids G.D):(G.gw h).merge.length<=G.D.length/\(G.gw h).fz.length=(G.gw h).merge.length:=by
 obtain⟨l,c⟩:=cr.ex H.iw h;rcases c.inv H.W H.iw hm with⟨_,nd,h0,rfl⟩|⟨t,r',_,qf,_,_⟩
 ·obtain⟨q1,_⟩:=H.root nd h0
  rw [q1];simp
 ·obtain⟨_,_,q3,q4,q5⟩:=H.up t h qf
  refine⟨?_,q3⟩;have:=cM (m:=ids G.D) q4 (fun y hy=>(((q5 y).1 hy).1.mem H.W).1)
  rwa [gg]at this
theorem xF:∀(m:List HT) (b:List Bool),(dQ m b).length<=m.length
 | [],_=>by simp [dQ]
 |_::_,[]=>by simp [dQ]
 |h::l,b::m=>by
  have:=xF l m;unfold dQ;split
  ·simp only [List.length_cons];omega
  ·simp only [List.length_cons];omega
end
section
variable{w w' jw:World}{B ob bx:Nat}{av av':Nat->Prop}{acc:List HT}
end
section
variable{w w' v:World}{F:Nat->Prop}{c k:Nat}{G:GS}{m:CM}{K:Value->World->Prop}
end
section
variable{w w':World}{F:Nat->Prop}{c k:Nat}{G:GS}{m:CM}{K:Value->World->Prop}
theorem rZ(h:eK k G){a:HT}(ha:a∈ids G.D):(G.world a).length<=G.D.length:=by
 have:=cM (m:=ids G.D) (h.wd a ha).1 (fun b hb=>(((h.wd a ha).2.1 b hb).mem h.W).1)
 rwa [gg]at this
end
structure GN(w v:World)(id:HT)(X M Q:Option Nat)(pt:Bool):Prop where
 kp:Kept Nil w v
 x:∀x,X=some x->∃S,C1 v S (fun _=>False) x [⟨id,[]⟩] [-1]/\∀j,S j->w.heap.size<=j/\j<v.heap.size/\M≠some j/\Q≠some j
 m:∀m,M=some m->w.heap.size<=m/\fG v m (fun y=>if pt=true/\y=id then Q.map fun q=>.pointer (some ⟨q,0,none⟩)else none)
 q:∀q,Q=some q->w.heap.size<=q/\v.heap[q]? =some (.cells zS dR (0,0))
 ne:∀m q,M=some m->Q=some q->m≠q
section
variable{w w' v u:World}{F:Nat->Prop}{c k:Nat}{G:GS}{m:CM}{K:Value->World->Prop}{id:HT}{X M Q:Option Nat}{pt:Bool}
theorem GN.Jh(h:GN w v id X none Q false):GN w (v.alloc (.map #[] 0)) id X (some v.heap.size) Q false:=by
 have k1:Kept Nil v (v.alloc (.map #[] 0)):=(Kept.refl _ _).alloc _;have hs:=k1.size;have hm:fG (v.alloc (.map #[] 0)) v.heap.size (fun _=>none):=fG.new v;refine⟨h.kp.tt k1,fun x hx=>?_,fun m mI=>?_,fun q hq=>?_,fun m q mI hq=>?_⟩
 ·obtain⟨S,h1,h2⟩:=h.x x hx
  exact⟨S,h1.same k1,fun j e=>by have:=h2 j e;exact⟨this.1,by omega,fun e=>by cases e;omega,this.2.2.2⟩⟩
 ·cases mI
  exact⟨h.kp.size,by simpa using hm⟩
 ·exact⟨(h.q q hq).1,k1.heap (h.q q hq).2 (fun h=>h)⟩
 ·cases mI
  have:=aT (h.q q hq).2;omega
theorem GN.Jg(h:GN w v id X M none false):GN w (v.alloc (.cells zS dR)) id X M (some v.heap.size) false:=by
 have k1:Kept Nil v (v.alloc (.cells zS dR)):=(Kept.refl _ _).alloc _;have hs:=k1.size;refine⟨h.kp.tt k1,fun x hx=>?_,fun m mI=>?_,fun q hq=>?_,fun m q mI hq=>?_⟩
 ·obtain⟨S,h1,h2⟩:=h.x x hx
  exact⟨S,h1.same k1,fun j e=>by have:=h2 j e;exact⟨this.1,by omega,this.2.2.1,fun e=>by cases e;omega⟩⟩
 ·have:=h.m m mI
  refine⟨this.1,?_⟩;have h2:=this.2.same k1;simpa using h2
 ·cases hq
  exact⟨h.kp.size,aI v _⟩
 ·cases hq
  have:=(h.m m mI).2.lt;omega
theorem GN.CX(h:GN w v id none M Q pt){x:Nat}{S:Nat->Prop}(hX:C1 u S (fun _=>False) x [⟨id,[]⟩] [-1])(hS:∀j,S j->v.heap.size<=j/\j<u.heap.size)(k1:Kept Nil v u):GN w u id (some x) M Q pt:=by
 have hs:=h.kp.size;refine⟨h.kp.tt k1,fun x' hx=>?_,fun m mI=>⟨(h.m m mI).1,(h.m m mI).2.same k1⟩,fun q hq=>⟨(h.q q hq).1,k1.heap (h.q q hq).2 (fun h=>h)⟩,h.ne⟩;cases hx;refine⟨S,hX,fun j e=>by
  have:=hS j e;exact⟨by omega,this.2,fun e=>by have:=(h.m j e).2.lt;omega,fun e=>by have:=aT (h.q j e).2;omega⟩⟩
theorem GN.put{mm q:Nat}(h:GN w v id X (some mm) (some q) false):∃u,(Instr.mapUpdate dD (.map (some mm)) (.agg id.1) (.pointer (some ⟨q,0,none⟩))).run prog v=.ok () u/\GN w u id X (some mm) (some q) true:=by
 obtain⟨h1,h2⟩:=h.m mm rfl;obtain⟨u,g1,g2,g3⟩:=h2.put Ho id (.pointer (some ⟨q,0,none⟩));have hs:=g3.size;refine⟨u,g1,h.kp.trans g3 (fun j hj e=>by omega),fun x hx=>?_,fun m mI=>?_,fun q' hq=>?_,h.ne⟩
 ·obtain⟨S,q1,q2⟩:=h.x x hx
  exact⟨S,q1.aG g3 (fun j e e'=>(q2 j e).2.2.1 (by rw [e'])) (fun _ h=>h.elim),fun j e=>by have:=q2 j e;exact⟨this.1,by omega,this.2.2⟩⟩
 ·cases mI
  refine⟨h1,?_⟩;have ef:(fun y=>if true=true/\y=id then(some q).map (fun q=>Value.pointer (some ⟨q,0,none⟩))else none)=fun x=>if x=id then some (.pointer (some ⟨q,0,none⟩))else if false=true/\x=id then(some q).map (fun q=>Value.pointer (some ⟨q,0,none⟩))else none:=by
   funext y
   by_cases hy:y=id<;>simp [hy]
  rw [ef];exact g2
 ·have:=h.q q' hq
  exact⟨this.1,g3.heap this.2 (fun e=>h.ne mm q' rfl hq e.symm)⟩
theorem GN.fin{x mm q:Nat}(h:GN w v id (some x) (some mm) (some q) true)(k:Nat):∃m,CV (v.alloc (.cells #[.int .i64 (k:Int),.pointer (some ⟨x,0,none⟩),.map (some mm)] gM)) (· =q) v.heap.size k (cS id) m/\m.x=x/\(∀j,m.own v.heap.size j->w.heap.size<=j)/\w.heap.size<=q:=by
 have k1:Kept Nil v (v.alloc (.cells #[.int .i64 (k:Int),.pointer (some ⟨x,0,none⟩),.map (some mm)] gM)):=(Kept.refl _ _).alloc _;have ht:=aI v (.cells #[.int .i64 (k:Int),.pointer (some ⟨x,0,none⟩),.map (some mm)] gM);generalize v.alloc (.cells #[.int .i64 (k:Int),.pointer (some ⟨x,0,none⟩),.map (some mm)] gM)=u at k1 ht⊢;obtain⟨S,h1,h2⟩:=h.x x rfl;obtain⟨h3,h4⟩:=h.m mm rfl;obtain⟨h5,h6⟩:=h.q q rfl;have e9:=h.ne mm q rfl rfl;have lm:=h4.lt;have lq:=aT h6;have lt:=aT ht;have hs:=k1.size;have hw:=h.kp.size;refine⟨⟨x,mm,S,fun _=>False,fun _=>q,fun _ _=>none⟩,⟨ht,h1.same k1,?_,?_,iZ k id,SZ.root id,fun _ h=>h.elim,?_,?_,?_,?_⟩,rfl,?_,h5⟩
 ·have:=h4.same k1
  have ef:(fun h=>if h∈ids (cS id).D then some (Value.pointer (some ⟨q,0,none⟩))else none)=fun y=>if true=true/\y=id then(some q).map (fun q=>Value.pointer (some ⟨q,0,none⟩))else none:=by
   funext y
   by_cases hy:y=id
   ·simp [hy,cS,ids]
   ·simp [hy,cS,ids]
  show fG u mm (fun h=>if h∈ids (cS id).D then some (Value.pointer (some ⟨q,0,none⟩))else none)
  rw [ef];exact this
 ·intro y hy
  have:y=id:=by simpa [cS,ids]using hy
  subst this;obtain⟨q1,_⟩:=(iZ k y).root ⟨y,[]⟩ rfl
  replace q1:(cS y).gw y=_:=q1
  rw [q1];exact⟨none,0,0,none,0,0,none,k1.heap h6 (fun h=>h),HS.nil _ _,⟨rfl,fun i b hi=>by simp at hi⟩,fun a ha=>(by cases ha),fun a ha=>(by cases ha),.inl ⟨rfl,fun _=>rfl⟩,rfl⟩
 ·rintro j rfl e
  rcases e with e|e|e
  ·exact(h2 _ e).2.2.2 rfl
  ·have e:j=v.heap.size:=e;omega
  ·exact e9 e.symm
 ·intro j e
  have:=h2 j e;exact⟨by omega,fun e=>this.2.2.1 (by rw [e])⟩
 ·show v.heap.size≠mm;omega
 ·rintro j (e|e)
  ·rcases e with e|e|e
   ·have:=h2 j e;omega
   ·have e:j=v.heap.size:=e;omega
   ·have e:j=mm:=e;omega
  ·have e:j=q:=e;omega
 ·intro j e
  rcases e with e|e|e
  ·have:=h2 j e;omega
  ·have e:j=v.heap.size:=e;omega
  ·have e:j=mm:=e;omega
theorem ig(id:HT){k:Nat}(hk:k<=100)(hK:∀w' c q m,CV w' (· =q) c k (cS id) m->(∀j,m.own c j->w.heap.size<=j)->w.heap.size<=q->Kept Nil w w'->K (.tuple #[.pointer (some ⟨c,0,none⟩),.int .i64 0]) w'):
 bk prog ig.id #[.int .i64 (k:Int),.agg id.1] w K:=by
 refine ig.of ?_;unfold ig.W;intro w1;have k1:Kept Nil w w1:=(Kept.refl _ _).alloc _;have yq:w1.heap[w.heap.size]? =some (.cells id.1 ai (0,0)):=aI w _;clear_value w1;refine Split.no (decide_eq_false (by omega)) (Split.no (decide_eq_false (by omega)) ?_);intro w2;have k2:Kept Nil w1 w2:=(Kept.refl _ _).drew;clear_value w2;have lh:=k2.heap yq (fun h=>h);have kL:=k1.tt k2;have s02:=kL.size;have N0:GN w2 w2 id none none none false:=⟨Kept.refl _ _,fun _ h=>(by cases h),fun _ h=>(by cases h),fun _ h=>(by cases h),fun _ _ h=>(by cases h)⟩;have bx:∀ {v:World},Kept Nil w2 v->∃cs:Array Value,(.agg id.1:Value)=.agg cs/\cs.size=32/\Cells v ⟨w.heap.size,0,none⟩ cs:=fun kv=>⟨id.1,rfl,id.2.1,Cells.bE (kv.heap lh (fun h=>h))⟩;have fin:∀ {v:World} {x mm q:Nat},GN w2 v id (some x) (some mm) (some q) true->let p:=v.alloc (.cells #[.int .i64 (k:Int),.pointer (some ⟨x,0,none⟩),.map (some mm)] gM);K (.tuple #[.pointer (some (⟨v.heap.size,0,none⟩:Addr)),.int .i64 0]) p:=fun {v x mm q} N=>by
  obtain⟨m,h1,_,h2,h3⟩:=N.fin k;exact hK _ _ q m h1 (fun j e=>by have:=h2 j e;omega) (by omega) ((kL.tt N.kp).alloc _)
 refine⟨id.1,⟨id.2.1,Cells.bE lh⟩,id.1,⟨id.2.1,Cells.bE lh⟩,?_,?_,?_⟩
 ·refine iG id fun v x hX kv=>⟨_,rfl,?_⟩
  have N1:=N0.CX hX (fun j e=>e) kv;refine⟨bx N1.kp,⟨?_,?_⟩⟩
  ·have N2:=N1.Jh
   have N3:=N2.Jg;obtain⟨u,hu,N4⟩:=N3.put;exact⟨bx N2.kp,bx N3.kp,u,hu,fin N4⟩
  ·have N2:=N1.Jg
   have N3:=N2.Jh;obtain⟨u,hu,N4⟩:=N3.put;exact⟨bx N2.kp,bx N3.kp,u,hu,fin N4⟩
 ·have N1:=N0.Jh
  refine⟨bx N1.kp,bx N1.kp,?_,?_⟩
  ·refine iG id fun v x hX kv=>⟨_,rfl,?_⟩
   have N2:=N1.CX hX (fun j e=>e) kv;have N3:=N2.Jg;obtain⟨u,hu,N4⟩:=N3.put;exact⟨bx N2.kp,bx N3.kp,u,hu,fin N4⟩
  ·have N2:=N1.Jg
   refine⟨bx N2.kp,bx N2.kp,?_,?_⟩
   ·refine iG id fun v x hX kv=>⟨_,rfl,?_⟩
    have N3:=N2.CX hX (fun j e=>e) kv;obtain⟨u,hu,N4⟩:=N3.put;exact⟨bx N3.kp,u,hu,fin N4⟩
   ·obtain⟨u,hu,N3⟩:=N2.put
    refine⟨u,hu,bx N3.kp,?_⟩;refine iG id fun v x hX kv=>⟨_,rfl,?_⟩;exact fin (N3.CX hX (fun j e=>e) kv)
 ·have N1:=N0.Jg
  refine⟨bx N1.kp,bx N1.kp,?_,?_⟩
  ·refine iG id fun v x hX kv=>⟨_,rfl,?_⟩
   have N2:=N1.CX hX (fun j e=>e) kv;have N3:=N2.Jh;obtain⟨u,hu,N4⟩:=N3.put;exact⟨bx N2.kp,bx N3.kp,u,hu,fin N4⟩
  ·have N2:=N1.Jh
   refine⟨bx N2.kp,bx N2.kp,?_,?_⟩
   ·refine iG id fun v x hX kv=>⟨_,rfl,?_⟩
    have N3:=N2.CX hX (fun j e=>e) kv;obtain⟨u,hu,N4⟩:=N3.put;exact⟨bx N3.kp,u,hu,fin N4⟩
   ·obtain⟨u,hu,N3⟩:=N2.put
    refine⟨u,hu,bx N3.kp,?_⟩;refine iG id fun v x hX kv=>⟨_,rfl,?_⟩;exact fin (N3.CX hX (fun j e=>e) kv)
end
end Go.Proofs.YtfleamccglihoaaGreatDoor
