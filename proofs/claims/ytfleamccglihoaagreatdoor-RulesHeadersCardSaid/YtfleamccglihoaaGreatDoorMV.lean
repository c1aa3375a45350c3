import Derived.Test.YtfleamccglihoaaGreatDoorMU
import Derived.Test.YtfleamccglihoaaGreatDoorMJ
import Derived.Test.YtfleamccglihoaaGreatDoorMT
import Derived.Test.YtfleamccglihoaaGreatDoorMI
import Derived.Test.YtfleamccglihoaaGreatDoorMG
import Derived.Test.YtfleamccglihoaaGreatDoorMN
import Derived.Test.YtfleamccglihoaaGreatDoorMK
open Go.IntKind (i64 u64)
set_option linter.unusedVariables false
namespace Go.Proofs.YtfleamccglihoaaGreatDoor
open Go.Proofs.Tryz
open Go Go.b0 Go.RowKit
def adl(l:List DN)(ZC:Nat):Prop:=(∀nd∈l,nd.ps.length<=6)/\l.length<=ZC
noncomputable def ql(k:Nat)(G:GS)(id:HT)(l:List HT):pB:=if dU G.D id l=0 then dr k G (bS G l) l else⟨fH,0,[],[]⟩
noncomputable def DA(k:Nat)(root:HT)(l:List DN):GS:=l.foldl (fun G s=>eZ k G s.id s.ps) (fh root)
theorem JJ(k:Nat)(G:GS)(h:HT)(l:List HT):(eZ k G h l).D.length<=G.D.length+1:=by
 rw [tL];unfold mC;split<;>simp
theorem tF(k:Nat):∀(l:List DN) (G:GS),(l.foldl (fun G s=>eZ k G s.id s.ps) G).D.length<=G.D.length+l.length
 | [],_=>by simp
 |s::l,G=>by
  have h1:=tF k l (eZ k G s.id s.ps);have h2:=JJ k G s.id s.ps;rw [List.foldl_cons,List.length_cons];omega
theorem Dz(k:Nat)(root:HT)(l:List DN):(DA k root l).D.length<=1+l.length:=tF k l (fh root)
theorem Dj{k:Nat}{G:GS}{l:List DN}{i:Nat}{s:DN}(h:l[i]? =some s):(l.take (i+1)).foldl (fun G s=>eZ k G s.id s.ps) G=eZ k ((l.take i).foldl (fun G s=>eZ k G s.id s.ps) G) s.id s.ps:=by
 rw [List.take_add_one,h];simp
section
variable{w w' v:World}{S F FP FR:Nat->Prop}{c r x k:Nat}{G:GS}{m:CM}{K:Value->World->Prop}
theorem oR(h:CV w F c k G m)(hT:sS w)(Km:¬m.SX (Tryz.kF.g 1))(hD:G.D.length<=49)(o6:k<=1000){A:Option Addr}{n cx:Nat}{l:List HT}(CZ:HS w A n l)(hn:n<=5000)(id:HT)
 (hK:∀w' F' m' A n c1 B e c2,CV w' F' c k (eZ k G id l) m'->m'.x=m.x->Kept (m.own c) w w'->(∀j,m'.own c j->m.own c j\/w.heap.size<=j)->(∀j,F' j->F j\/w.heap.size<=j)->
   cf w' w.heap.size A n c1 (ql k G id l).merge->Row w' w.heap.size jv 1 B e c2 (tH (ql k G id l).gu)->(∀j,bI A=some j->bI B≠some j)->(∀j,bI A=some j\/bI B=some j->¬m'.own c j/\¬F' j)->
   K (.tuple #[.agg (dp (ql k G id l) A n c1 B e c2),.int .i64 (dU G.D id l)]) w'):
 bG prog dT.id #[.pointer (some ⟨c,0,none⟩),.agg id.1,.slice A n cx] w K:=by
 refine GD h hT Km hD o6 CZ hn id (fun he w' k'=>?_) (fun he w' F' m' A n c1 B e c2 h1 h2 h3 h4 h5 h6 h7 h8 h9=>?_)
 ·have e1:ql k G id l=⟨fH,0,[],[]⟩:=if_neg he
  have:=hK w' F m none 0 0 none 0 0 (by rw [uY he];exact h.same k') rfl (k'.mono fun _ _ h=>h.elim) (fun j h=>.inl h) (fun j h=>.inl h) (by rw [e1];exact cf.nil _ _) (by rw [e1];exact Row.nil _ _ _ _) (fun j hj=>(by cases hj)) (fun j hj=>by rcases hj with hj|hj<;>cases hj);rw [e1]at this;exact this
 ·have e1:ql k G id l=dr k G (bS G l) l:=if_pos he
  have:=hK w' F' m' A n c1 B e c2 h1 h2 h3 h4 h5 (by rw [e1];exact h6) (by rw [e1];exact h7) h8 h9;rw [e1,he]at this;exact this
theorem vt(h:R3 w F r x k G)(hD:G.D.length<=300)(o6:k<=1000){A:Option Addr}{n cx:Nat}{l:List HT}(hl:HS w A n l)(hn:n<=5000)(id:HT)
 (hK:∀w' A n c B e ce,R3 w' (fun j=>F j\/(w.heap.size<=j/\j<w'.heap.size)) r x k (eZ k G id l)->Kept (fun j=>j=r\/j=x) w w'->HS w' A n (ql k G id l).merge->Bo w' B e (ql k G id l).gu->(∀a,A=some a\/B=some a->w.heap.size<=a.block)->K (.tuple #[.agg (dp (ql k G id l) A n c B e ce),.int .i64 (dU G.D id l)]) w'):
 bG prog dS.id #[.pointer (some ⟨r,0,none⟩),.agg id.1,.slice A n cx] w K:=by
 have Yi:=h.lt;have Nz:=h.lx;refine yK h hD o6 hl hn id (fun he w' k'=>?_) (fun he w' A n c B e ce h1 h2 h3 h4 h5=>?_)
 ·have e1:ql k G id l=⟨fH,0,[],[]⟩:=if_neg he
  have h':=h.same k';have hs:=k'.size;obtain⟨A1,c1,B1,e1',g1,g2,g3⟩:=h'.top;have:=hK w' none 0 0 none 0 0 (by
   rw [uY he];exact⟨⟨A1,c1,B1,e1',g1,g2.mono (fun j hj=>.inl hj),g3.mono (fun j hj=>.inl hj)⟩,h'.X.mono (fun j hj=>.inl hj) (fun e=>e.elim h.X.iX (fun e=>by omega)),fun e=>e.elim h.iX (fun e=>by omega),h.ne,h.iC,fun j e=>e.elim (h'.lo j) (fun e=>e.2)⟩) (k'.mono fun _ _ h=>h.elim) (by rw [e1];exact HS.nil _ _) (by rw [e1];exact⟨rfl,fun i b hi=>by simp at hi⟩) (fun a ha=>by rcases ha with ha|ha<;>cases ha)
  rw [e1]at this;exact this
 ·have e1:ql k G id l=dr k G (bS G l) l:=if_pos he
  have:=hK w' A n c B e ce h1 h2 (by rw [e1];exact h3) (by rw [e1];exact h4) h5;rw [e1,he]at this;exact this
structure lH(w:World)(F:Nat->Prop)(c:Nat)(m:CM)(FR:Nat->Prop)(r x k:Nat)(G:GS):Prop where
 C:CV w F c k G m
 R:R3 w FR r x k G
 rS:∀j,j=r\/j=x->¬m.own c j/\¬F j
 fS:∀j,FR j->¬m.own c j
theorem lH.aK{S0:Nat->Prop}(B:lH w F c m FR r x k G)(hk:Kept S0 w w')(h1:∀j,m.own c j\/F j\/FR j\/j=r\/j=x->¬S0 j):lH w' F c m FR r x k G:=
 ⟨B.C.aK hk (fun j e=>h1 j (.inl e)) (fun j e=>h1 j (.inr (.inl e))),B.R.aK hk (h1 _ (.inr (.inr (.inr (.inl rfl))))) (h1 _ (.inr (.inr (.inr (.inr rfl))))) (fun j e=>h1 j (.inr (.inr (.inl e)))),B.rS,B.fS⟩
theorem lH.same(B:lH w F c m FR r x k G)(hk:Kept Nil w w'):lH w' F c m FR r x k G:=B.aK hk (fun _ _ h=>h)
theorem lH.low(B:lH w F c m FR r x k G):∀j,m.own c j\/F j\/FR j\/j=r\/j=x->j<w.heap.size:=fun j e=>by
 rcases e with e|e|e|e|e
 ·exact B.C.low j (.inl e)
 ·exact B.C.low j (.inr e)
 ·exact B.R.lo j e
 ·rw [e];exact B.R.lt
 ·rw [e];exact B.R.lx
theorem lH.after{F':Nat->Prop}{m':CM}{G':GS}(B:lH w F c m FR r x k G)(kv:Kept (m.own c) w v)(h1:∀j,m'.own c j->m.own c j\/w.heap.size<=j)(h2:∀j,F' j->F j\/w.heap.size<=j)(hC:CV v F' c k G' m'){u:World}(XH:Kept Nil v u):
 R3 u FR r x k G/\∀t,R3 t (fun j=>FR j\/(u.heap.size<=j/\j<t.heap.size)) r x k G'->Kept (fun j=>j=r\/j=x) u t->lH t F' c m' (fun j=>FR j\/(u.heap.size<=j/\j<t.heap.size)) r x k G':=by
 have hr:=B.R.lt;have hx:=B.R.lx;have nr:∀j,j=r\/j=x->¬m'.own c j/\¬F' j:=fun j hj=>by
  have di:j<w.heap.size:=by rcases hj with rfl|rfl;exact hr;exact hx
  refine⟨fun e=>?_,fun e=>?_⟩
  ·rcases h1 j e with e|e
   ·exact(B.rS j hj).1 e
   ·omega
  ·rcases h2 j e with e|e
   ·exact(B.rS j hj).2 e
   ·omega
 refine⟨(B.R.aK kv (fun e=>(B.rS r (.inl rfl)).1 e) (fun e=>(B.rS x (.inr rfl)).1 e) B.fS).same XH,fun t hR kt=>⟨?_,hR,nr,fun j hj e=>?_⟩⟩
 ·exact(hC.same XH).aK kt (fun j e e'=>(nr j e').1 e) (fun j e e'=>(nr j e').2 e)
 ·have oO:=hC.low j (.inl e)
  have:=XH.size;rcases hj with hj|hj
  ·rcases h1 j e with e|e
   ·exact B.fS j hj e
   ·have:=B.R.lo j hj;omega
  ·omega
end
section
variable{w w' v:World}{S F FP FR:Nat->Prop}{c r x k:Nat}{G:GS}{m:CM}{K:Value->World->Prop}
end
section
variable{k:Nat}{G:GS}{s:HT}
theorem AB(G:GS)(s:HT):cR G s [s]= []:=by
 rw [List.eq_nil_iff_forall_not_mem];intro h hm;obtain⟨h1,h2,h3⟩:=kO.1 hm;rcases h1 with⟨_,p,hp,ha⟩|h1
 ·rw [List.mem_singleton]at hp;subst hp;exact h3 ha
 ·rw [List.mem_singleton]at h1;exact h2 h1
variable{r a b c:HT}(PZ:r≠a)(Gm:r≠b)(Ya:r≠c)(nv:a≠b)(Yz:a≠c)(QM:b≠c)
end
section
variable{w w':World}{K:Value->World->Prop}
end
section
variable{w w' v:World}{F FP FR:Nat->Prop}{c r x k:Nat}{G:GS}{m:CM}{K:Value->World->Prop}
end
section
variable{w v:World}{F FP FR:Nat->Prop}{c r x k:Nat}{G:GS}{m:CM}{K:Value->World->Prop}{O:Option Addr}{on oc:Nat}{lo:List HT}{s:HT}{sb xb:Nat}{xv:Array Value}
end
section
variable{k:Nat}{G:GS}{h:HT}{ps:List HT}
end
section
variable{k:Nat}{G G':GS}{s:HT}{l:List HT}
end
section
variable{k:Nat}{G:GS}{h:HT}{l:List HT}
end
section
variable{k:Nat}{G:GS}{h:HT}{l:List HT}
end
section
variable{w w':World}{K:Value->World->Prop}{B n cx b:Nat}{A:Option Addr}{F:Nat->Prop}{c k:Nat}{G:GS}{m:CM}{l:List HT}
end
section
variable{w w' v:World}{K:Value->World->Prop}{B n cx b q:Nat}{A E:Option Addr}{F:Nat->Prop}{c k:Nat}{G:GS}{m:CM}{l:List HT}{C:pB}{cp e ce:Nat}
theorem wy(hx:v.heap[q]? =some (.cells (dp C A n cp E e ce) bL (0,0))):
 Cells v ((⟨q,0,none⟩:Addr).add 0) C.nz.1/\v.cell? ((⟨q,0,none⟩:Addr).add 32)=some (.int .u64 (C.score:Int))/\v.cell? ((⟨q,0,none⟩:Addr).add 33)=some (.slice A n cp)/\v.cell? ((⟨q,0,none⟩:Addr).add 34)=some (.slice E e ce):=by
 have g:=gU C A n cp E e ce #[];rw [Array.append_empty]at g;refine⟨fun j u hj=>?_,by rw [bE,aE hx];exact g.1,by rw [bE,aE hx];exact g.2.1,by rw [bE,aE hx];exact g.2.2.1⟩;have di:=(Array.getElem?_eq_some_iff.1 hj).1;rw [add_zero,bE,aE hx,Nat.zero_add];unfold dp;rw [Array.getElem?_append_left di];exact hj
theorem ES(u:World)(C:pB)(A:Option Addr)(n cp:Nat)(E:Option Addr)(e ce:Nat):
 ((dp C A n cp E e ce).size=35/\(∀x∈(dp C A n cp E e ce).toList,x.oneCell'=true)/\∀y,y<35->Wr (u.alloc (.cells zC bL)) ((aV u.heap.size).add y))/\
   (setCells (u.alloc (.cells zC bL)) ⟨u.heap.size,0,none⟩ (dp C A n cp E e ce).toList 0).heap[u.heap.size]? =some (.cells (dp C A n cp E e ce) bL (0,0))/\
   Kept Nil u (setCells (u.alloc (.cells zC bL)) ⟨u.heap.size,0,none⟩ (dp C A n cp E e ce).toList 0):=by
 have Lj:(u.alloc (.cells zC bL)).heap[u.heap.size]? =some (.cells zC bL (0,0)):=aM u _;obtain⟨t1,t2,t3⟩:=gv Lj (cs:=dp C A n cp E e ce) (by rw [bJ];rfl);exact⟨⟨bJ ..,fF _ _ _ _ _ _ _,fun j hj=>t1 j (by rw [bJ];exact hj)⟩,t2,((Kept.refl _ _).alloc _).trans t3 (fun j hj e=>by omega)⟩
theorem vZ(u:World)(x:HT):(x.1.size=32/\(∀y∈x.1.toList,y.oneCell'=true)/\∀y,y<32->Wr (u.alloc (.cells zH al)) ((aV u.heap.size).add y))/\
 (setCells (u.alloc (.cells zH al)) ⟨u.heap.size,0,none⟩ x.1.toList 0).heap[u.heap.size]? =some (.cells x.1 al (0,0))/\Kept Nil u (setCells (u.alloc (.cells zH al)) ⟨u.heap.size,0,none⟩ x.1.toList 0):=by
 obtain⟨tA,kh,kH⟩:=iP (w:=u) (z:=zH) (cs:=x.1) (t:=al) (by rw [x.2.1];rfl);exact⟨⟨x.2.1,x.2.one,fun j hj=>tA j (by rw [x.2.1];exact hj)⟩,kh,kH⟩
end
section
variable{k:Nat}{G:GS}{nz:HT}
end
section
variable{G:GS}{nz:HT}
end
structure PP where
 K:Int
 mp:Int
 mm:Int
 fin:Int
 Cq:Int
 ML:Int
 sub:Int
 MJ:Int
 Aj:Int
 gen:HT
def PP.cells(p:PP):Array Value:= #[.int .i64 p.K,.int .i64 p.mp,.int .i64 p.mm,.int .i64 p.fin,.int .i64 p.Cq,.int .i64 p.ML,.int .u64 p.sub,.int .i64 p.MJ,.int .i64 p.Aj]++p.gen.1
def PP.ok(p:PP):Prop:=(0<=p.K/\p.K<=100)/\(1<=p.mp/\p.mp<=20)/\(1<=p.mm/\p.mm<=1000)/\(0<=p.fin/\p.fin<=2147483647)/\(0<=p.Cq/\p.Cq<=2147483647)/\(0<=p.ML/\p.ML<=2147483647)/\(0<=p.MJ/\p.MJ<=100000)/\(0<=p.Aj/\p.Aj<=100000)/\p.sub<=1099511627776/\(p.Cq=0\/(0<p.fin/\p.fin<p.Cq/\p.mm<p.Cq))
noncomputable instance(p:PP):Decidable p.ok:=Classical.propDecidable _
noncomputable def dO(D:DG)(l:List HT):List HT:=l.filter fun x=>decide (x∉ids D)
theorem xQ{D:DG}{l:List HT}{x:HT}:x∈dO D l↔x∈l/\x∉ids D:=by unfold dO;simp
theorem qz{D:DG}{l:List HT}:dO D l= []↔∀x∈l,x∈ids D:=by
 rw [List.eq_nil_iff_forall_not_mem];constructor
 ·intro h x hx
  exact Classical.byContradiction fun e=>h x (xQ.2 ⟨hx,e⟩)
 ·intro h x hx
  obtain⟨h1,h2⟩:=xQ.1 hx;exact h2 (h x h1)
def sT(D:DG)(l:List HT):Prop:=∃a∈l,∃b∈l,fI D a b
open Classical in
noncomputable def fW(p:PP)(G:GS)(l:List HT):List HT×Int:=
 if ¬p.ok then([],2)
 else if(l.length<1\/p.mp<(l.length:Int))\/dC l≠l then([],9)
 else if dO G.D l≠ []then(dO G.D l,15)
 else if sT G.D l then([],9)
 else if p.mm<((cR G (bS G l) l).length:Int)then([],10)
 else([],0)
section
variable{k:Nat}{G G':GS}{l:List HT}{p:PP}
theorem Be(hl:l.length<=1000):(fW p G l).1.length<=1000:=by
 have:(dO G.D l).length<=l.length:=List.length_filter_le _ _;unfold fW
 repeat' split
 all_goals first|(simp only [List.length_nil];omega)|(simp only;omega)
end
theorem PP.size(p:PP):p.cells.size=41:=by unfold PP.cells;rw [Array.size_append,p.gen.2.1];rfl
theorem PP.Md(p:PP):p.cells[0]? =some (.int .i64 p.K):=by unfold PP.cells;rw [Array.getElem?_append_left (by show 0<9;omega)];rfl
theorem PP.Jp(p:PP):p.cells[1]? =some (.int .i64 p.mp):=by unfold PP.cells;rw [Array.getElem?_append_left (by show 1<9;omega)];rfl
theorem PP.Dh(p:PP):p.cells[2]? =some (.int .i64 p.mm):=by unfold PP.cells;rw [Array.getElem?_append_left (by show 2<9;omega)];rfl
theorem PP.Dg(p:PP):p.cells[3]? =some (.int .i64 p.fin):=by unfold PP.cells;rw [Array.getElem?_append_left (by show 3<9;omega)];rfl
theorem PP.zf(p:PP):p.cells[4]? =some (.int .i64 p.Cq):=by unfold PP.cells;rw [Array.getElem?_append_left (by show 4<9;omega)];rfl
theorem PP.Q7(p:PP):p.cells[5]? =some (.int .i64 p.ML):=by unfold PP.cells;rw [Array.getElem?_append_left (by show 5<9;omega)];rfl
theorem PP.WZ(p:PP):p.cells[6]? =some (.int .u64 p.sub):=by unfold PP.cells;rw [Array.getElem?_append_left (by show 6<9;omega)];rfl
theorem PP.Q6(p:PP):p.cells[7]? =some (.int .i64 p.MJ):=by unfold PP.cells;rw [Array.getElem?_append_left (by show 7<9;omega)];rfl
theorem PP.Q5(p:PP):p.cells[8]? =some (.int .i64 p.Aj):=by unfold PP.cells;rw [Array.getElem?_append_left (by show 8<9;omega)];rfl
theorem PP.one(p:PP):∀v∈p.cells.toList,v.oneCell'=true:=by
 intro v hv;unfold PP.cells at hv;rw [Array.toList_append,List.mem_append]at hv;rcases hv with hv|hv
 ·simp only [List.mem_cons,List.not_mem_nil,or_false]at hv
  rcases hv with rfl|rfl|rfl|rfl|rfl|rfl|rfl|rfl|rfl<;>rfl
 ·exact p.gen.2.one v hv
def PP.Hx(p:PP):List (Int×Int×Int):= [(p.K,0,100),(p.mp,1,20),(p.mm,1,1000),(p.fin,0,2147483647),(p.Cq,0,2147483647),(p.ML,0,2147483647),(p.MJ,0,100000),(p.Aj,0,100000)]
section
variable{w w':World}{K:Value->World->Prop}{p:PP}
theorem uB(p:PP)(hK:∀w',Kept Nil w w'->K (.bool (decide p.ok)) w'):bG prog iK.id #[.agg p.cells] w K:=by
 refine iK.of ?_;unfold iK.W;intro w1;have k1:Kept Nil w w1:=(Kept.refl _ _).alloc _;have hb:w1.heap[w.heap.size]? =some (.cells p.cells eM (0,0)):=aM w _;clear_value w1;have rd:∀(j:Nat) (v:Value),j<41->p.cells[j]? =some v->w1.cell? ((aV w.heap.size).add j)=some v:=fun j v _ h=>by rw [bE,aE hb,Nat.zero_add];exact h
 have hk:=hK w1 k1;have no:¬p.ok->K (.bool false) w1:=fun e=>by rw [decide_eq_false e]at hk;exact hk
 have yes:p.ok->K (.bool true) w1:=fun e=>by rw [decide_eq_true e]at hk;exact hk
 refine⟨_,rd 0 _ (by decide) p.Md,Split.dec (fun h0=>no (fun e=>by unfold PP.ok at e;omega)) (fun h0=>?_)⟩;refine⟨_,rd 0 _ (by decide) p.Md,Split.dec (fun h1=>no (fun e=>by unfold PP.ok at e;omega)) (fun h1=>?_)⟩;refine⟨_,rd 1 _ (by decide) p.Jp,Split.dec (fun h2=>no (fun e=>by unfold PP.ok at e;omega)) (fun h2=>?_)⟩;refine⟨_,rd 1 _ (by decide) p.Jp,Split.dec (fun h3=>no (fun e=>by unfold PP.ok at e;omega)) (fun h3=>?_)⟩;refine⟨_,rd 2 _ (by decide) p.Dh,Split.dec (fun h4=>no (fun e=>by unfold PP.ok at e;omega)) (fun h4=>?_)⟩;refine⟨_,rd 2 _ (by decide) p.Dh,Split.dec (fun h5=>no (fun e=>by unfold PP.ok at e;omega)) (fun h5=>?_)⟩;refine⟨_,rd 3 _ (by decide) p.Dg,Split.dec (fun h6=>no (fun e=>by unfold PP.ok at e;omega)) (fun h6=>?_)⟩;refine⟨_,rd 3 _ (by decide) p.Dg,Split.dec (fun h7=>no (fun e=>by unfold PP.ok at e;omega)) (fun h7=>?_)⟩;refine⟨_,rd 4 _ (by decide) p.zf,Split.dec (fun h8=>no (fun e=>by unfold PP.ok at e;omega)) (fun h8=>?_)⟩;refine⟨_,rd 4 _ (by decide) p.zf,Split.dec (fun h9=>no (fun e=>by unfold PP.ok at e;omega)) (fun h9=>?_)⟩;refine⟨_,rd 5 _ (by decide) p.Q7,Split.dec (fun uW=>no (fun e=>by unfold PP.ok at e;omega)) (fun uW=>?_)⟩;refine⟨_,rd 5 _ (by decide) p.Q7,Split.dec (fun Ko=>no (fun e=>by unfold PP.ok at e;omega)) (fun Ko=>?_)⟩;refine⟨_,rd 6 _ (by decide) p.WZ,Split.dec (fun BX=>no (fun e=>by unfold PP.ok at e;omega)) (fun BX=>?_)⟩;refine⟨_,rd 7 _ (by decide) p.Q6,Split.dec (fun BW=>no (fun e=>by unfold PP.ok at e;omega)) (fun BW=>?_)⟩;refine⟨_,rd 7 _ (by decide) p.Q6,Split.dec (fun YI=>no (fun e=>by unfold PP.ok at e;omega)) (fun YI=>?_)⟩
 refine⟨_,rd 8 _ (by decide) p.Q5,Split.dec (fun GA=>no (fun e=>by unfold PP.ok at e;omega)) (fun GA=>?_)⟩;refine⟨_,rd 8 _ (by decide) p.Q5,Split.dec (fun h16=>no (fun e=>by unfold PP.ok at e;omega)) (fun h16=>?_)⟩;refine⟨_,rd 4 _ (by decide) p.zf,?_⟩;by_cases Kn:p.Cq=0
 ·exact Split.yes (by simp [Kn]) (yes (by unfold PP.ok;omega))
 refine Split.no (by simp [Kn]) ⟨_,rd 3 _ (by decide) p.Dg,Split.dec (fun Q2=>?_) (fun Q2=>no (fun e=>by unfold PP.ok at e;omega))⟩;refine⟨_,rd 4 _ (by decide) p.zf,_,rd 3 _ (by decide) p.Dg,Split.dec (fun WU=>?_) (fun WU=>no (fun e=>by unfold PP.ok at e;omega))⟩;refine⟨_,rd 4 _ (by decide) p.zf,_,rd 2 _ (by decide) p.Dh,?_⟩;by_cases WT:p.Cq>p.mm
 ·rw [decide_eq_true WT];exact yes (by unfold PP.ok;omega)
 ·rw [decide_eq_false WT];exact no (fun e=>by unfold PP.ok at e;omega)
set_option maxHeartbeats 1000000 in
theorem oY(p:PP)(hK:∀w',Kept Nil w w'->K (.bool (decide p.ok)) w'):bG prog bR.id #[.agg p.cells] w K:=by
 refine bR.of ?_;unfold bR.W;intro w1;have k1:Kept Nil w w1:=(Kept.refl _ _).alloc _;have hb:w1.heap[w.heap.size]? =some (.cells p.cells eM (0,0)):=aM w _;clear_value w1;have rd:∀(j:Nat) (v:Value),p.cells[j]? =some v->w1.cell? ((aV w.heap.size).add j)=some v:=fun j v h=>by rw [bE,aE hb,Nat.zero_add];exact h
 refine⟨_,rd 0 _ p.Md,_,rd 1 _ p.Jp,_,rd 2 _ p.Dh,_,rd 3 _ p.Dg,_,rd 4 _ p.zf,_,rd 5 _ p.Q7,_,rd 7 _ p.Q6,_,rd 8 _ p.Q5,rfl,rfl,rfl,rfl,rfl,rfl,rfl,rfl,?_⟩;intro w2;have k2:Kept Nil w1 w2:=(Kept.refl _ _).alloc _;have ht:∃C:Array Value,∃ty:TypeId,w2.heap[w1.heap.size]? =some (.cells C ty (0,0))/\∀i:Nat,i<8->∃t,p.Hx[i]? =some t/\C[i*3]? =some (.int .i64 t.1)/\C[i*3+1]? =some (.int .i64 t.2.1)/\C[i*3+2]? =some (.int .i64 t.2.2):=by
  refine⟨_,_,aM w1 _,fun i hi=>?_⟩
  match i,hi with
  |0,_=>exact⟨_,rfl,rfl,rfl,rfl⟩
  |1,_=>exact⟨_,rfl,rfl,rfl,rfl⟩
  |2,_=>exact⟨_,rfl,rfl,rfl,rfl⟩
  |3,_=>exact⟨_,rfl,rfl,rfl,rfl⟩
  |4,_=>exact⟨_,rfl,rfl,rfl,rfl⟩
  |5,_=>exact⟨_,rfl,rfl,rfl,rfl⟩
  |6,_=>exact⟨_,rfl,rfl,rfl,rfl⟩
  |7,_=>exact⟨_,rfl,rfl,rfl,rfl⟩
 clear_value w2;obtain⟨C,ty,hC,gZ⟩:=ht;have mu:=k1.tt k2;have nH:=k2.heap hb (fun h=>h);have no:∀ {u:World},Kept Nil w u->¬p.ok->K (.bool false) u:=fun ku e=>by have:=hK _ ku;rw [decide_eq_false e]at this;exact this
 refine bR.cJ (I:=fun s v=>∃i:Nat,s=(false,(i:Int))/\i<=8/\Kept Nil w2 v/\∀t∈p.Hx.take i,t.2.1<=t.1/\t.1<=t.2.2) (μ:=fun s _=>(8-s.2).toNat) (s:=(false,0)) ⟨0,rfl,by omega,Kept.refl _ _,by simp⟩ ?_;rintro s v ⟨i,rfl,hi,kv,cY⟩;have tq:=mu.tt kv;unfold bR.B1;refine Split.dec (fun di=>?_) (fun gH=>?_)
 ·simp only at di
  have dX:i<8:=by omega
  obtain⟨t,Kf,c0,c1,c2⟩:=gZ i dX;have T8:=List.mem_of_getElem? Kf;have hCv:=kv.heap hC (fun h=>h);simp-zeta only [Int.toNat_natCast];refine⟨⟨by omega,by omega⟩,Is.mk rfl ⟨#[.int .i64 t.1,.int .i64 t.2.1,.int .i64 t.2.2],⟨rfl,fun j u hj=>?_⟩,?_⟩⟩
  ·rw [bE,bE,aE hCv,Nat.zero_add]
   match j,hj with
   |0,hj=>cases hj;exact c0
   |1,hj=>cases hj;exact c1
   |2,hj=>cases hj;exact c2
   |j+3,hj=>simp at hj
  intro w3;obtain⟨tA,kh,kH⟩:=iP (w:=v) (z:=(#[.int .i64 0,.int .i64 0,.int .i64 0]:Array Value)) (cs:= #[.int .i64 t.1,.int .i64 t.2.1,.int .i64 t.2.2]) (t:=wJ) rfl;refine⟨⟨rfl,by intro y hy;simp at hy;rcases hy with rfl|rfl|rfl<;>rfl,fun j hj=>tA j hj⟩,?_⟩;intro w4
  replace kh:w4.heap[v.heap.size]? =some (.cells #[.int .i64 t.1,.int .i64 t.2.1,.int .i64 t.2.2] wJ (0,0)):=kh
  replace kH:Kept Nil v w4:=kH
  clear_value w4;have mh:=tq.tt kH;have XC:∀(j:Nat) (z:Value),(#[.int .i64 t.1,.int .i64 t.2.1,.int .i64 t.2.2]:Array Value)[j]? =some z->w4.cell? ((aV v.heap.size).add j)=some z:=fun j z h=>by rw [bE,aE kh,Nat.zero_add];exact h
  have bad:¬(t.2.1<=t.1/\t.1<=t.2.2)->¬p.ok:=fun e h=>by
   unfold PP.ok at h;unfold PP.Hx at T8;simp only [List.mem_cons,List.not_mem_nil,or_false]at T8;rcases T8 with rfl|rfl|rfl|rfl|rfl|rfl|rfl|rfl<;>(simp only at e;omega)
  refine⟨⟨by omega,by omega⟩,t.1,XC 0 _ rfl,⟨by omega,by omega⟩,t.2.1,XC 1 _ rfl,Split.dec (fun h1=>no mh (bad (by omega))) (fun h1=>?_)⟩;refine⟨⟨by omega,by omega⟩,t.1,XC 0 _ rfl,⟨by omega,by omega⟩,t.2.2,XC 2 _ rfl,Split.dec (fun h2=>no mh (bad (by omega))) (fun h2=>?_)⟩;rw [dF (n:=(i:Int)) (by omega) (by omega)];refine⟨(false,(i:Int)+1),rfl,⟨i+1,rfl,dX,kv.tt kH,fun t' PR=>?_⟩,by simp only;omega⟩;rw [List.take_add_one,Kf,List.mem_append]at PR;rcases PR with PR|PR
  ·exact cY t' PR
  ·simp at PR
   subst PR;omega
 ·simp only at gH
  rw [aU,bR.dz];unfold bR.df;have e8:i=8:=by omega
  subst e8;have C8:=kv.heap nH (fun h=>h);have rdv:∀(j:Nat) (z:Value),p.cells[j]? =some z->v.cell? ((aV w.heap.size).add j)=some z:=fun j z h=>by rw [bE,aE C8,Nat.zero_add];exact h
  have hk:=hK v tq;have yes:p.ok->K (.bool true) v:=fun e=>by rw [decide_eq_true e]at hk;exact hk
  have hT:(0<=p.K/\p.K<=100)/\(1<=p.mp/\p.mp<=20)/\(1<=p.mm/\p.mm<=1000)/\(0<=p.fin/\p.fin<=2147483647)/\(0<=p.Cq/\p.Cq<=2147483647)/\(0<=p.ML/\p.ML<=2147483647)/\(0<=p.MJ/\p.MJ<=100000)/\(0<=p.Aj/\p.Aj<=100000):=
   ⟨cY (p.K,0,100) (by simp [PP.Hx]),cY (p.mp,1,20) (by simp [PP.Hx]),cY (p.mm,1,1000) (by simp [PP.Hx]),cY (p.fin,0,2147483647) (by simp [PP.Hx]),cY (p.Cq,0,2147483647) (by simp [PP.Hx]),cY (p.ML,0,2147483647) (by simp [PP.Hx]),cY (p.MJ,0,100000) (by simp [PP.Hx]),cY (p.Aj,0,100000) (by simp [PP.Hx])⟩
  refine⟨_,rdv 6 _ p.WZ,Split.dec (fun h6=>?_) (fun h6=>no tq (fun e=>by unfold PP.ok at e;omega))⟩;refine⟨_,rdv 4 _ p.zf,?_⟩;by_cases Kn:p.Cq=0
  ·exact Split.yes (by simp [Kn]) (yes (by unfold PP.ok;omega))
  refine Split.no (by simp [Kn]) ⟨_,rdv 3 _ p.Dg,Split.dec (fun Q2=>?_) (fun Q2=>no tq (fun e=>by unfold PP.ok at e;omega))⟩;refine⟨_,rdv 4 _ p.zf,_,rdv 3 _ p.Dg,Split.dec (fun WU=>?_) (fun WU=>no tq (fun e=>by unfold PP.ok at e;omega))⟩;refine⟨_,rdv 4 _ p.zf,_,rdv 2 _ p.Dh,?_⟩;by_cases WT:p.Cq>p.mm
  ·rw [decide_eq_true WT];exact yes (by unfold PP.ok;omega)
  ·rw [decide_eq_false WT];exact no tq (fun e=>by unfold PP.ok at e;omega)
end
theorem BC{P:Program}{g:FuncId}{first gV:Array Value}{args:List Value}{fn:Func}{w:World}{k:Value->World->Prop}{vs:Array Value}(hf:P.funcs[g]? =some fn)(hb:fn.body.isSome=true)(hv:(first.toList++args++gV.toList).toArray=vs):
 lY P (.func (.func g) first gV) args w k=bG P g vs w fun v w'=>Rm P fn.resultTypes.toList v fun v=>k v w':=by
 subst hv;unfold lY;simp only [hf];cases hc:fn.body with
 |none=>rw [hc]at hb;cases hb
 |some c=>simp only
theorem jV{P:Program}{g:FuncId}{first gV:Array Value}{args:List Value}{fn:Func}{w:World}{k:Value->World->Prop}{vs:Array Value}{t:TypeId}(hf:P.funcs[g]? =some fn)(hb:fn.body.isSome=true)(hv:(first.toList++args++gV.toList).toArray=vs)
 (ht:fn.resultTypes.toList= [t]) (hk:nN P t=.int .i64):lY P (.func (.func g) first gV) args w k=bG P g vs w fun v w'=>∃e:Int,v=.int .i64 e/\k (.int .i64 e) w':=by
 rw [BC hf hb hv,ht];simp only [Rm,hk,Any]
section
variable{w w' v:World}{K:Value->World->Prop}{n cx n' cx' hb gb ob cb pb:Nat}{A A':Option Addr}{l l':List HT}{F:Nat->Prop}{c k:Nat}{G:GS}{m:CM}{hd:Array Value}{p:PP}
theorem Dp(hl:HS w A n l)(NB:HS w A' n' l')(hn:n<=1000000)(hK:∀w',Kept Nil w w'->K (.bool (decide (l=l'))) w'):
 bG prog aQ.id #[.slice A n cx,.slice A' n' cx'] w K:=by
 have hlen:=hl.len;have Bc:=NB.len;refine aQ.of ?_;unfold aQ.W;by_cases e:n=n'
 ·subst e
  refine Split.no (by simp) ?_;refine aQ.cJ (I:=fun s v=>∃i:Nat,s=(false,(i:Int))/\i<=n/\Kept Nil w v/\∀t,t<i->l[t]? =l'[t]?) (μ:=fun s _=>((n:Int)-s.2).toNat) (s:=(false,0)) ⟨0,rfl,Nat.zero_le _,Kept.refl _ _,fun t ht=>by omega⟩ ?_;rintro s v ⟨i,rfl,hi,kv,cY⟩;unfold aQ.B1;refine Split.dec (fun di=>?_) (fun gH=>?_)
  ·simp only at di
   have dX:i<n:=by omega
   obtain⟨x,hx⟩:∃x,l[i]? =some x:=⟨_,List.getElem?_eq_getElem (by omega)⟩;obtain⟨y,hy⟩:∃y,l'[i]? =some y:=⟨_,List.getElem?_eq_getElem (by omega)⟩;intro w3;have k3:Kept Nil v w3:=(Kept.refl _ _).drew;clear_value w3;have jF:=kv.tt k3;refine HS.load (hl.same jF) (i:=(i:Int)) (x:=x) (by omega) (by rw [Int.toNat_natCast];exact hx) ?_;refine HS.load (NB.same jF) (i:=(i:Int)) (x:=y) (by omega) (by rw [Int.toNat_natCast];exact hy) ⟨⟨x.2.ints,y.2.ints⟩,?_⟩;rw [fz];by_cases nD:x=y
   ·refine Split.no (by rw [decide_eq_true nD];rfl) ?_
    simp only;rw [dF (n:=(i:Int)) (by omega) (by omega)];refine⟨(false,(i:Int)+1),rfl,⟨i+1,rfl,dX,jF,fun t ht=>?_⟩,by simp only;omega⟩;by_cases Kf:t=i
    ·subst Kf
     rw [hx,hy,nD]
    ·exact cY t (by omega)
   ·refine Split.yes (by rw [decide_eq_false nD];rfl) ?_
    have fX:l≠l':=fun e=>by
     subst e;rw [hx]at hy;exact nD (Option.some.inj hy)
    have:=hK w3 jF;rw [decide_eq_false fX]at this;exact this
  ·simp only at gH
   rw [aU,aQ.dz];have el:l=l':=List.ext_getElem? fun t=>by
    by_cases ht:t<i
    ·exact cY t ht
    ·rw [List.getElem?_eq_none (by omega),List.getElem?_eq_none (by omega)]
   have:=hK v kv;rw [decide_eq_true el]at this;exact this
 ·refine Split.yes (by simpa using (fun h:(n:Int)=(n':Int)=>e (by omega))) ?_
  have fX:l≠l':=fun h=>e (by rw [<-hlen,<-Bc,h]);have:=hK w (Kept.refl _ _);rw [decide_eq_false fX]at this;exact this
theorem LX(vT:w.heap[pb]? =some (.cells p.cells eM (0,0)))(hK:∀w',Kept Nil w w'->K (.int .i64 (if ¬p.ok then 2 else 0)) w'):
 bG prog cS.id #[.pointer (some ⟨pb,0,none⟩)] w K:=by
 refine cS.of ?_;refine⟨p.cells,⟨p.size,Cells.bV vT⟩,oY p fun w1 k1=>⟨_,rfl,?_⟩⟩;have:=hK w1 k1;by_cases h:p.ok
 ·rw [if_neg (fun e=>e h)]at this
  exact Split.no (by rw [decide_eq_true h];rfl) this
 ·rw [if_pos h]at this
  exact Split.yes (by rw [decide_eq_false h];rfl) this
theorem oP(EJ:w.heap[hb]? =some (.cells hd jw (0,0)))(h0:hd[0]? =some (.slice A n cx)):w.cell? ((⟨hb,0,none⟩:Addr).add 0)=some (.slice A n cx):=by
 rw [add_zero,aE EJ];exact h0
theorem LW(EJ:w.heap[hb]? =some (.cells hd jw (0,0)))(h0:hd[0]? =some (.slice A n cx))(hl:HS w A n l)(hn:n<=100000)(vT:w.heap[pb]? =some (.cells p.cells eM (0,0)))
 (hK:∀w' e,Kept Nil w w'->(((l.length<1\/p.mp<(l.length:Int))\/dC l≠l)/\e=9\/¬((l.length<1\/p.mp<(l.length:Int))\/dC l≠l)/\e=0)->K (.int .i64 e) w'):
 bG prog cQ.id #[.pointer (some ⟨hb,0,none⟩),.pointer (some ⟨pb,0,none⟩)] w K:=by
 have hlen:=hl.len;refine cQ.of ?_;unfold cQ.W;refine⟨A,n,cx,oP EJ h0,?_⟩;intro w1;have k1:Kept Nil w w1:=(Kept.refl _ _).drew;clear_value w1;have rd:w1.cell? ((⟨pb,0,none⟩:Addr).add 1)=some (.int .i64 p.mp):=by rw [bE,aE (k1.heap vT (fun h=>h))];exact p.Jp
 have Lw:=oP (k1.heap EJ (fun h=>h)) h0;refine Split.dec (fun h1=>hK w1 9 k1 (.inl ⟨.inl (.inl (by omega)),rfl⟩)) (fun h1=>⟨_,rd,Split.dec (fun h2=>hK w1 9 k1 (.inl ⟨.inl (.inr (by omega)),rfl⟩)) (fun h2=>⟨A,n,cx,Lw,A,n,cx,Lw,?_⟩)⟩);refine iT (hl.same k1) (by omega) fun A2 c2 w2 iw k2=>⟨A2,_,c2,rfl,oP ((k1.tt k2).heap EJ (fun h=>h)) h0,?_⟩;have mu:=k1.tt k2;have BS:=ny l;refine Dp (cf.hs iw) (hl.same mu) (by omega) fun w3 k3=>⟨_,rfl,?_⟩;have jF:=mu.tt k3;by_cases hs:dC l=l
 ·refine Split.no (by rw [decide_eq_true hs];rfl) (hK w3 0 jF (.inr ⟨fun e=>?_,rfl⟩))
  rcases e with(e|e)|e
  ·omega
  ·omega
  ·exact e hs
 ·exact Split.yes (by rw [decide_eq_false hs];rfl) (hK w3 9 jF (.inl ⟨.inr hs,rfl⟩))
theorem vG{D:DG}{i:Nat}{x:HT}(hx:l[i]? =some x):dO D (l.take (i+1))=dO D (l.take i)++if x∈ids D then []else [x]:=by
 unfold dO;rw [List.take_add_one,hx,List.filter_append]
 congr 1
 by_cases h:x∈ids D
 ·simp [h]
 ·simp [h]
theorem Az(D:DG)(l:List HT):(dO D l).length<=l.length:=List.length_filter_le _ _
set_option maxHeartbeats 1000000 in
theorem LV{mx:XM}{P:List Int}{x:Nat}{FX:Nat->Prop}(X:XV w FX x G.D P mx)(C:CV w F c k G m)(hCX:m.x=x)(EJ:w.heap[hb]? =some (.cells hd jw (0,0)))(h0:hd[0]? =some (.slice A n cx))(hl:HS w A n l)(hn:n<=100000)
 (Vr:w.heap[gb]? =some (.cells #[.pointer (some ⟨mx.g,0,none⟩)] iV (0,0))) (BU:w.heap[ob]? =some (.cells #[.slice none 0 0] aF (0,0))) (fX:gb≠ob) (hhn:hb≠ob) (hAo:∀a,A=some a->a.block≠ob) (hX:∀u,Kept (· =ob) w u->XV u FX x G.D P mx)
 (mH:dO G.D l= []->∀w',Kept Nil w w'->K (.int .i64 0) w')
 (xf:dO G.D l≠ []->∀w' A' c',w'.heap[ob]? =some (.cells #[.slice A' (dO G.D l).length c'] aF (0,0))->cf w' w.heap.size A' (dO G.D l).length c' (dO G.D l)->Kept (· =ob) w w'->K (.int .i64 15) w'):
 bG prog bn.id #[.pointer (some ⟨hb,0,none⟩),.pointer (some ⟨gb,0,none⟩),.pointer (some ⟨ob,0,none⟩)] w K:=by
 have hlen:=hl.len;have lob:=bf BU;refine bn.of ?_;unfold bn.W;refine⟨A,n,cx,oP EJ h0,?_⟩;refine bn.cJ (I:=fun s v=>∃(i:Nat) (A':Option Addr) (c':Nat),s=(i:Int)/\i<=n/\v.heap[ob]? =some (.cells #[.slice A' (dO G.D (l.take i)).length c'] aF (0,0))/\cf v w.heap.size A' (dO G.D (l.take i)).length c' (dO G.D (l.take i))/\Kept (· =ob) w v/\(dO G.D (l.take i)= []->Kept Nil w v)) (μ:=fun s _=>((n:Int)-s).toNat) (s:=0) ⟨0,none,0,rfl,Nat.zero_le _,BU,cf.nil _ _,Kept.refl _ _,fun _=>Kept.refl _ _⟩ ?_;rintro s v ⟨i,A',c',rfl,hi,Ns,row,kv,Gn⟩;unfold bn.B1;refine Split.dec (fun di=>?_) (fun gH=>?_)
 ·have dX:i<n:=by omega
  obtain⟨y,hy⟩:∃y,l[i]? =some y:=⟨_,List.getElem?_eq_getElem (by omega)⟩;have rC:HS v A n l:=hl.aK kv (fun a ha e=>hAo a ha e);refine HS.load rC (i:=(i:Int)) (x:=y) (by omega) (by rw [Int.toNat_natCast];exact hy) ?_;intro w3;obtain⟨t1,t2,t3⟩:=vZ v y;refine⟨t1,?_⟩;intro w4
  replace t2:w4.heap[v.heap.size]? =some (.cells y.1 al (0,0)):=t2
  replace t3:Kept Nil v w4:=t3
  clear_value w4;have mh:Kept (· =ob) w w4:=kv.trans t3 (fun _ _ h=>h.elim);refine⟨_,by rw [aE (mh.heap Vr fX)];rfl,y.1,⟨y.2.1,Cells.bV t2⟩,?_⟩;obtain⟨bl,cc,mb,M,GG⟩:=(hX w4 mh).G;refine sK GG y fun w5 k5=>⟨_,rfl,?_⟩;have xY:=t3.tt k5;have nC:Kept (· =ob) w w5:=mh.trans k5 (fun _ _ h=>h.elim);have P5:=xY.heap Ns (fun h=>h);have lD:cf w5 w.heap.size A' (dO G.D (l.take i)).length c' (dO G.D (l.take i)):=Row.aK row xY (fun _ _ h=>h);have nu:=vG (D:=G.D) hy;by_cases hm:y∈ids G.D
  ·rw [if_pos hm,List.append_nil]at nu
   refine Split.no (by rw [decide_eq_true hm];rfl) ?_;rw [dF (n:=(i:Int)) (by omega) (by omega)];exact⟨(i:Int)+1,rfl,⟨i+1,A',c',rfl,dX,by rw [nu];exact P5,by rw [nu];exact lD,nC,fun e=>by rw [nu]at e;exact(Gn e).tt xY⟩,by simp only;omega⟩
  ·rw [if_neg hm]at nu
   refine Split.yes (by rw [decide_eq_false hm];rfl) ⟨_,_,_,by rw [aE P5];rfl,y.1,⟨y.2.1,Cells.bV (k5.heap t2 (fun h=>h))⟩,y.2.1,?_⟩;intro w6;have k6:Kept Nil w5 w6:=(Kept.refl _ _).alloc _;have p7:HS w6 (some ⟨w5.heap.size,0,none⟩) 1 [y]:=jE w5 y;clear_value w6;have yG:cf w6 w.heap.size A' (dO G.D (l.take i)).length c' (dO G.D (l.take i)):=Row.aK lD k6 (fun _ _ h=>h);have s6:=(nC.trans k6 (fun _ _ h=>h.elim)).size;have Gr:=Az G.D (l.take i);rw [List.length_take]at Gr;obtain⟨A7,c7,w7,Nl,wT,g7,hA7⟩:=dd aF yG (cx:=1) p7 (by omega) s6;have k7:Kept (fun j=>bI A'=some j) w6 w7:=Kept.grown (Kept.refl _ _) g7 fun j hj _=>hj;have nob:bI A'≠some ob:=fun e=>by have:=(Row.bV yG e).1;omega
   have UC:=k7.heap (k6.heap P5 (fun h=>h)) nob;refine⟨A7,_,c7,w7,Nl,dQ UC (by simp),?_⟩;intro w8;have aa6:w8.heap[ob]? =some (.cells #[.slice A7 ((dO G.D (l.take i)).length+1) c7] aF (0,0)):=du UC 0 _;have k8:Kept (· =ob) w7 w8:=Kept.setCell (S:=fun j=>j=ob) (Kept.refl _ w7) (p:=⟨ob,0,none⟩) (fun _=>rfl) _;clear_value w8;rw [dF (n:=(i:Int)) (by omega) (by omega)];have el:(dO G.D (l.take (i+1))).length=(dO G.D (l.take i)).length+1:=by rw [nu,List.length_append];rfl
   refine⟨(i:Int)+1,rfl,⟨i+1,A7,c7,rfl,dX,by rw [el];exact aa6,?_,?_,fun e=>?_⟩,by simp only;omega⟩
   ·rw [el,nu]
    exact Row.aK wT k8 (fun j hj e=>by have:=(Row.bV wT hj).1;omega)
   ·exact((nC.trans k6 (fun _ _ h=>h.elim)).trans k7 (fun j hj e=>by have:=(Row.bV yG e).1;omega)).tt k8
   ·rw [nu]at e
    simp at e
 ·rw [aU,bn.dz]
  unfold bn.df;rw [List.take_of_length_le (by omega)]at Ns row Gn;refine⟨_,_,_,by rw [aE Ns];rfl,?_⟩;by_cases he:dO G.D l= []
  ·rw [he]
   exact Split.no rfl (mH he v (Gn he))
  ·have:=List.length_pos_iff.2 he
   exact Split.yes (decide_eq_true (by omega)) (xf he v A' c' Ns row kv)
theorem IZ{x y:HT}{xb:Nat}(C:CV w F c k G m)(hD:G.D.length<=5000)(EN:w.heap[cb]? =some (.cells #[.pointer (some ⟨c,0,none⟩)] dG (0,0)))(M9:w.heap[xb]? =some (.cells x.1 al (0,0)))
 (hK:∀w' (r:Bool),(r=true↔fI G.D x y)->Kept Nil w w'->K (.bool r) w'):
 bG prog dA.id #[.agg y.1,.pointer (some ⟨cb,0,none⟩),.pointer (some ⟨xb,0,none⟩)] w K:=by
 refine dA.of ?_;unfold dA.W;intro w1 w2;have k1:Kept Nil w w1:=(Kept.refl _ _).alloc _;have Lh:w1.heap[w.heap.size]? =some (.cells y.1 al (0,0)):=aM w _;have k2:Kept Nil w1 w2:=(Kept.refl _ _).drew;clear_value w2;have TX:=k2.heap Lh (fun h=>h);have mu:=k1.tt k2;clear_value w1;have C2:=C.same mu;have Lk:=mu.heap M9 (fun h=>h);refine⟨_,by rw [aE (mu.heap EN (fun h=>h))];rfl,x.1,⟨x.2.1,Cells.bV Lk⟩,y.1,⟨y.2.1,Cells.bV TX⟩,?_⟩;refine ur C2 ⟨_,rfl,⟨_,rfl,y.2.1,Cells.bV TX⟩,⟨_,rfl,x.2.1,Cells.bV Lk⟩,?_⟩;obtain⟨mx,X,_⟩:=C2.X;exact lu X hD x y fun w3 r hr k3=>⟨r,rfl,hK w3 r hr (mu.tt k3)⟩
theorem Gv{x:HT}{xb:Nat}(C:CV w F c k G m)(hD:G.D.length<=5000)(EN:w.heap[cb]? =some (.cells #[.pointer (some ⟨c,0,none⟩)] dG (0,0)))(M9:w.heap[xb]? =some (.cells x.1 al (0,0)))(hl:HS w A n l)(hn:n<=100000)
 (hK:∀w' (i:Int),(i>=0↔∃y∈l,fI G.D x y)->Kept Nil w w'->K (.int .i64 i) w'):
 bG prog mi.id #[.slice A n cx,.func (.func dA.id) #[] #[.pointer (some ⟨cb,0,none⟩),.pointer (some ⟨xb,0,none⟩)]] w K:=by
 have hlen:=hl.len;refine an.of ?_;unfold an.W;refine an.cJ (I:=fun s v=>∃i:Nat,s=(0,(i:Int))/\i<=n/\Kept Nil w v/\∀y∈l.take i,¬fI G.D x y) (μ:=fun s _=>((n:Int)-s.2).toNat) (s:=(0,0)) ⟨0,rfl,Nat.zero_le _,Kept.refl _ _,by simp⟩ ?_;rintro s v ⟨i,rfl,hi,kv,cY⟩;unfold an.B1;refine Split.dec (fun di=>?_) (fun gH=>?_)
 ·simp only at di
  have dX:i<n:=by omega
  obtain⟨y,hy⟩:∃y,l[i]? =some y:=⟨_,List.getElem?_eq_getElem (by omega)⟩;refine HS.load (hl.same kv) (i:=(i:Int)) (x:=y) (by omega) (by rw [Int.toNat_natCast];exact hy) ?_;refine IZ (C.same kv) hD (kv.heap EN (fun h=>h)) (kv.heap M9 (fun h=>h)) fun w3 r hr k3=>⟨r,rfl,?_⟩;have jF:=kv.tt k3;cases r with
  |true=>exact Split.yes rfl (hK w3 (i:Int) ⟨fun _=>⟨y,List.mem_of_getElem? hy,hr.1 rfl⟩,fun _=>by omega⟩ jF)
  |false=>
   refine Split.no rfl ?_;simp only;rw [dF (n:=(i:Int)) (by omega) (by omega)];refine⟨(0,(i:Int)+1),rfl,⟨i+1,rfl,dX,jF,fun z hz e=>?_⟩,by simp only;omega⟩;rcases(bP hy).1 hz with hz|rfl
   ·exact cY z hz e
   ·have:=hr.2 e
    cases this
 ·simp only at gH
  rw [aU,an.dz];rw [List.take_of_length_le (by omega)]at cY;exact hK v (-1) ⟨fun e=>by omega,fun⟨y,hy,e⟩=>absurd e (cY y hy)⟩ kv
theorem LU(C:CV w F c k G m)(hD:G.D.length<=5000)(EJ:w.heap[hb]? =some (.cells hd jw (0,0)))(h0:hd[0]? =some (.slice A n cx))(hl:HS w A n l)(hn:n<=100000)(EN:w.heap[cb]? =some (.cells #[.pointer (some ⟨c,0,none⟩)] dG (0,0)))
 (hK:∀w' e,Kept Nil w w'->(sT G.D l/\e=9\/¬sT G.D l/\e=0)->K (.int .i64 e) w'):
 bG prog br.id #[.pointer (some ⟨hb,0,none⟩),.pointer (some ⟨cb,0,none⟩)] w K:=by
 have hlen:=hl.len;refine br.of ?_;unfold br.W;refine⟨A,n,cx,oP EJ h0,?_⟩;refine br.cJ (I:=fun s v=>∃i:Nat,s=(0,(i:Int))/\i<=n/\Kept Nil w v/\∀a∈l.take i,∀b∈l,¬fI G.D a b) (μ:=fun s _=>((n:Int)-s.2).toNat) (s:=(0,0)) ⟨0,rfl,Nat.zero_le _,Kept.refl _ _,by simp⟩ ?_;rintro s v ⟨i,rfl,hi,kv,cY⟩;unfold br.B1;refine Split.dec (fun di=>?_) (fun gH=>?_)
 ·simp only at di
  have dX:i<n:=by omega
  obtain⟨y,hy⟩:∃y,l[i]? =some y:=⟨_,List.getElem?_eq_getElem (by omega)⟩;refine HS.load (hl.same kv) (i:=(i:Int)) (x:=y) (by omega) (by rw [Int.toNat_natCast];exact hy) ?_;intro w3;obtain⟨t1,t2,t3⟩:=vZ v y;refine⟨t1,?_⟩;intro w4
  replace t2:w4.heap[v.heap.size]? =some (.cells y.1 al (0,0)):=t2
  replace t3:Kept Nil v w4:=t3
  clear_value w4;have mh:=kv.tt t3;refine⟨A,n,cx,oP (mh.heap EJ (fun h=>h)) h0,?_⟩;refine bZ.of ?_;unfold bZ.W;refine Gv (C.same mh) hD (mh.heap EN (fun h=>h)) t2 (hl.same mh) hn fun w5 j hj k5=>⟨j,rfl,_,rfl,?_⟩;have nC:=mh.tt k5;by_cases Yl:j>=0
  ·obtain⟨b,hb,nv⟩:=hj.1 Yl
   exact Split.yes (decide_eq_true Yl) (hK w5 9 nC (.inl ⟨⟨y,List.mem_of_getElem? hy,b,hb,nv⟩,rfl⟩))
  ·refine Split.no (decide_eq_false Yl) ?_
   simp only;rw [dF (n:=(i:Int)) (by omega) (by omega)];refine⟨(0,(i:Int)+1),rfl,⟨i+1,rfl,dX,nC,fun a ha b hb e=>?_⟩,by simp only;omega⟩;rcases(bP hy).1 ha with ha|rfl
   ·exact cY a ha b hb e
   ·exact Yl (hj.2 ⟨b,hb,e⟩)
 ·simp only at gH
  rw [aU,br.dz];rw [List.take_of_length_le (by omega)]at cY;exact hK v 0 kv (.inr ⟨fun⟨a,ha,b,hb,e⟩=>cY a ha b hb e,rfl⟩)
theorem LS(C:CV w F c k G m)(hT:sS w)(hD:G.D.length<=49)(o6:k<=1000)(EJ:w.heap[hb]? =some (.cells hd jw (0,0)))(h0:hd[0]? =some (.slice A n cx))(hl:HS w A n l)(hn:n<=5000)(EN:w.heap[cb]? =some (.cells #[.pointer (some ⟨c,0,none⟩)] dG (0,0)))
 (vT:w.heap[pb]? =some (.cells p.cells eM (0,0))) (wO:l≠ []) (gD:∀x∈l,x∈ids G.D)
 (hK:∀w' e,Kept Nil w w'->(p.mm<((cR G (bS G l) l).length:Int)/\e=10\/¬p.mm<((cR G (bS G l) l).length:Int)/\e=0)->K (.int .i64 e) w'):
 bG prog cP.id #[.pointer (some ⟨cb,0,none⟩),.pointer (some ⟨hb,0,none⟩),.pointer (some ⟨pb,0,none⟩)] w K:=by
 have hlen:=hl.len;have m0:lE G.D l=0:=by
  unfold lE;rw [if_neg wO,if_neg (fun⟨x,hx,e⟩=>e (gD x hx))]
 have Hb:bS G l∈ids G.D:=gD _ (jI wO);have m1:lE G.D (bS G l::l)=0:=by
  unfold lE;rw [if_neg (by simp),if_neg];rintro⟨x,hx,e⟩;rcases List.mem_cons.1 hx with rfl|hx
  ·exact e Hb
  ·exact e (gD x hx)
 refine cP.of ?_;unfold cP.W;refine⟨_,by rw [aE EN];rfl,A,n,cx,oP EJ h0,?_⟩;refine sI C hl (by omega) fun w1 k1=>⟨_,_,rfl,?_⟩;rw [if_pos m0];intro w2;obtain⟨t1,t2,t3⟩:=vZ w1 (bS G l);refine⟨t1,?_⟩;intro w3
 replace t2:w3.heap[w1.heap.size]? =some (.cells (bS G l).1 al (0,0)):=t2
 replace t3:Kept Nil w1 w3:=t3
 clear_value w3;have jF:=k1.tt t3;refine⟨_,by rw [aE (jF.heap EN (fun h=>h))];rfl,_,⟨(bS G l).2.1,Cells.bV t2⟩,A,n,cx,oP (jF.heap EJ (fun h=>h)) h0,?_⟩;refine Df (C.same jF) (hT.same jF) hD o6 (hl.same jF) hn (fun e=>absurd m1 e) fun _ w4 A4 n4 c4 E4 e4 d4 mg4 _ k4 _=>⟨_,_,rfl,?_⟩;have mh:=jF.tt k4;intro w5;obtain⟨u1,u2,u3⟩:=ES w4 (dr k G (bS G l) l) A4 n4 c4 E4 e4 d4;refine⟨u1,?_⟩;intro w6
 replace u2:w6.heap[w4.heap.size]? =some (.cells (dp (dr k G (bS G l) l) A4 n4 c4 E4 e4 d4) bL (0,0)):=u2
 replace u3:Kept Nil w4 w6:=u3
 clear_value w6;have np:=mh.tt u3;have hn4:=mg4.len;have Qd:(dr k G (bS G l) l).merge=cR G (bS G l) l:=rfl;rw [Qd]at hn4;refine⟨A4,n4,c4,(wy u2).2.2.1,p.mm,by rw [bE,aE (np.heap vT (fun h=>h))];exact p.Dh,?_⟩;rw [<-hn4];exact Split.dec (fun h=>hK w6 10 np (.inl ⟨by omega,rfl⟩)) (fun h=>hK w6 0 np (.inr ⟨by omega,rfl⟩))
end
section
variable{w w' v:World}{K:Value->World->Prop}{n cx hb gb ob cb pb:Nat}{A:Option Addr}{l:List HT}{F:Nat->Prop}{c k:Nat}{G:GS}{m:CM}{hd:Array Value}{p:PP}
set_option maxHeartbeats 4000000 in
theorem ml(C:CV w F c k G m)(hT:sS w)(hD:G.D.length<=49)(o6:k<=1000)(p:PP)(h0:hd[0]? =some (.slice A n cx))(hl:HS w A n l)(hn:n<=1000)
 (hK:∀w' A' n' c',HS w' A' n' (fW p G l).1->Kept Nil w w'->K (.tuple #[.slice A' n' c',.int .i64 (fW p G l).2]) w'):
 bG prog aN.id #[.agg p.cells,.pointer (some ⟨c,0,none⟩),.agg hd] w K:=by
 have hlen:=hl.len;refine aN.of ?_;unfold aN.W;intro w1 w2 w3 w4;have k1:Kept Nil w w1:=(Kept.refl _ _).alloc _;have Lw:w1.heap[w.heap.size]? =some (.cells p.cells eM (0,0)):=aM w _;have k2:Kept Nil w1 w2:=(Kept.refl _ _).alloc _;have I3:w2.heap[w1.heap.size]? =some (.cells #[.pointer (some ⟨c,0,none⟩)] dG (0,0)):=aM w1 _;have k3:Kept Nil w2 w3:=(Kept.refl _ _).alloc _;have hh3:w3.heap[w2.heap.size]? =some (.cells hd jw (0,0)):=aM w2 _;have k4:Kept Nil w3 w4:=(Kept.refl _ _).alloc _;have ho4:w4.heap[w3.heap.size]? =some (.cells #[.slice none 0 0] aF (0,0)):=aM w3 _;clear_value w4;have Vo:=k4.heap hh3 (fun h=>h);have NL:=(k3.tt k4).heap I3 (fun h=>h);have RR:=((k2.tt k3).tt k4).heap Lw (fun h=>h);have mh:=((k1.tt k2).tt k3).tt k4;have s1:=k1.size;have l1:=bf Lw;have l2:=bf I3;have l3:=bf hh3;have l4:=bf ho4;generalize vT:w.heap.size=pb at RR l1 s1;generalize EN:w1.heap.size=cb at NL l1 l2 s1;generalize EJ:w2.heap.size=hb at Vo l2 l3;generalize BU:w3.heap.size=ob at ho4 l3 l4;clear_value w3;clear_value w2;clear_value w1;have C4:=C.same mh;refine⟨_,by rw [aE NL];rfl,ur C4 ⟨_,rfl,?_⟩⟩;obtain⟨mx,X4,VD⟩:=C4.X;refine gI.of (Split.no rfl (Is.mk rfl ⟨_,X4.c0,⟨_,rfl,?_⟩⟩));intro w5;have k5:Kept Nil w4 w5:=(Kept.refl _ _).alloc _;have LO:w5.heap[w4.heap.size]? =some (.cells #[.pointer none] iV (0,0)):=aM w4 _;clear_value w5;have l5:=bf LO;refine⟨dQ LO (by simp),?_⟩;intro w6 w7;have hg6:w6.heap[w4.heap.size]? =some (.cells #[.pointer (some ⟨mx.g,0,none⟩)] iV (0,0)):=du LO 0 _;have k6:Kept (· =w4.heap.size) w5 w6:=Kept.setCell (S:=fun j=>j=w4.heap.size) (Kept.refl _ w5) (p:=⟨w4.heap.size,0,none⟩) (fun _=>rfl) _
 have k7:Kept Nil w6 w7:=(Kept.refl _ _).alloc _;have JX:Kept Nil w4 w6:=k5.trans k6 (fun j hj e=>by omega);have s46:=JX.size;generalize Vr:w4.heap.size=gb at hg6;have Yq:=aM w6 (.cells #[.func (.func cX.id) #[] #[.pointer (some ⟨gb,0,none⟩)],.func (.func cS.id) #[] #[.pointer (some ⟨pb,0,none⟩)],.func (.func cQ.id) #[] #[.pointer (some ⟨hb,0,none⟩),.pointer (some ⟨pb,0,none⟩)],.func (.func bn.id) #[] #[.pointer (some ⟨hb,0,none⟩),.pointer (some ⟨gb,0,none⟩),.pointer (some ⟨ob,0,none⟩)],.func (.func br.id) #[] #[.pointer (some ⟨hb,0,none⟩),.pointer (some ⟨cb,0,none⟩)],.func (.func cP.id) #[] #[.pointer (some ⟨cb,0,none⟩),.pointer (some ⟨hb,0,none⟩),.pointer (some ⟨pb,0,none⟩)]] 110);have e7:w7=w6.alloc (.cells #[.func (.func cX.id) #[] #[.pointer (some ⟨gb,0,none⟩)],.func (.func cS.id) #[] #[.pointer (some ⟨pb,0,none⟩)],.func (.func cQ.id) #[] #[.pointer (some ⟨hb,0,none⟩),.pointer (some ⟨pb,0,none⟩)],.func (.func bn.id) #[] #[.pointer (some ⟨hb,0,none⟩),.pointer (some ⟨gb,0,none⟩),.pointer (some ⟨ob,0,none⟩)],.func (.func br.id) #[] #[.pointer (some ⟨hb,0,none⟩),.pointer (some ⟨cb,0,none⟩)],.func (.func cP.id) #[] #[.pointer (some ⟨cb,0,none⟩),.pointer (some ⟨hb,0,none⟩),.pointer (some ⟨pb,0,none⟩)]] 110):=by
  subst Vr;rfl
 rw [<-e7]at Yq;clear_value w7;clear e7;have l7:=bf Yq;generalize Gm:w6.heap.size=rb at Yq l7;have Pe:=JX.tt k7;have tu:=mh.tt Pe;clear_value w6;have hp7:=Pe.heap RR (fun h=>h);have Om:∀j,mx.kY m.x j\/m.FX j->j<pb:=fun j e=>by
  rw [<-vT];rcases e with e|e
  ·exact C.low j (.inl (.inl (VD j e)))
  ·exact C.low j (.inr (C.fx j e))
 have hc7:=Pe.heap NL (fun h=>h);have hh7:=Pe.heap Vo (fun h=>h);have ho7:=Pe.heap ho4 (fun h=>h);have Vs:=k7.heap hg6 (fun h=>h);have C7:=C.same tu;have X7:=X4.same Pe;have l7':=hl.same tu;have ahy:=C.low;have hAo:∀a,A=some a->n≠0->a.block<w.heap.size:=fun a ha EE=>by
  obtain⟨y,hy⟩:∃y,l[0]? =some y:=⟨_,List.getElem?_eq_getElem (by omega)⟩;obtain⟨a',y8,h1,_⟩:=hl.at_ 0 y hy;rw [ha]at y8;cases y8;exact h1
 refine aN.cJ (I:=fun s v=>∃i:Nat,s=(0,(i:Int))/\i<=6/\Kept Nil w7 v/\(2<=i->p.ok)/\(3<=i->¬((l.length<1\/p.mp<(l.length:Int))\/dC l≠l))/\(4<=i->dO G.D l= [])/\(5<=i->¬sT G.D l)/\(6<=i->¬p.mm<((cR G (bS G l) l).length:Int))) (μ:=fun s _=>(6-s.2).toNat) (s:=(0,0)) ⟨0,rfl,by omega,Kept.refl _ _,fun h=>by omega,fun h=>by omega,fun h=>by omega,fun h=>by omega,fun h=>by omega⟩ ?_;rintro⟨_,_⟩ v ⟨i,e,hi,kv,c2,c3,c4,c5,c6⟩;cases e;unfold aN.B1;have tq:=tu.tt kv;have QA:=kv.heap Yq (fun h=>h);have Ns:=kv.heap ho7 (fun h=>h);refine Split.dec (fun di=>?_) (fun gH=>?_)
 ·simp only at di
  have dX:i<6:=by omega
  have kd:nN prog jQ=.int .i64:=by kernel_rfl
  have stop:∀ {u:World} {e:Int} {A':Option Addr} {c':Nat},Kept (· =ob) w7 u->u.heap[ob]? =some (.cells #[.slice A' (fW p G l).1.length c'] aF (0,0))->HS u A' (fW p G l).1.length (fW p G l).1->(fW p G l).2=e->e≠0->(∀a,A'=some a->(fW p G l).1.length≠0->a.block≠ob)->
   aN.J1 ⟨ob,0,none⟩ 0 e (some ⟨rb,0,none⟩) 6 6 6 (i:Int) (bW (aN.e1 ⟨ob,0,none⟩ (some ⟨rb,0,none⟩) 6 6 6) (fun s v=>∃i:Nat,s=(0,(i:Int))/\i<=6/\Kept Nil w7 v/\(2<=i->p.ok)/\(3<=i->¬((l.length<1\/p.mp<(l.length:Int))\/dC l≠l))/\(4<=i->dO G.D l= [])/\(5<=i->¬sT G.D l)/\(6<=i->¬p.mm<((cR G (bS G l) l).length:Int))) (fun s _=>(6-s.2).toNat) (0,(i:Int)) v (aN.q1 K)) u:=by
   intro u e A' c' ku hu hs he fX P8;unfold aN.J1;refine Split.yes (by simpa using fX) ⟨_,_,_,by rw [aE hu];rfl,dQ hu (by simp),?_⟩;intro w9;have hu9:w9.heap[ob]? =some (.cells #[.slice A' (fW p G l).1.length c'] aF (0,0)):=du hu 0 _;have k9:Kept (· =ob) u w9:=Kept.setCell (S:=fun j=>j=ob) (Kept.refl _ u) (p:=⟨ob,0,none⟩) (fun _=>rfl) _;clear_value w9;rw [iS,aN.B7];refine⟨_,_,_,by rw [aE hu9];rfl,?_⟩;rw [<-he];refine hK w9 A' _ c' ?_ ((tu.trans ku (fun j hj e=>by omega)).trans k9 (fun j hj e=>by omega));by_cases hz:(fW p G l).1.length=0
   ·have e0:=List.eq_nil_of_length_eq_zero hz
    rw [e0];exact HS.nil _ _
   ·exact hs.aK k9 (fun a ha e=>P8 a ha hz e)
  have D0:∀ {u:World} {e:Int},Kept Nil w7 u->fW p G l=([],e)->e≠0->
   aN.J1 ⟨ob,0,none⟩ 0 e (some ⟨rb,0,none⟩) 6 6 6 (i:Int) (bW (aN.e1 ⟨ob,0,none⟩ (some ⟨rb,0,none⟩) 6 6 6) (fun s v=>∃i:Nat,s=(0,(i:Int))/\i<=6/\Kept Nil w7 v/\(2<=i->p.ok)/\(3<=i->¬((l.length<1\/p.mp<(l.length:Int))\/dC l≠l))/\(4<=i->dO G.D l= [])/\(5<=i->¬sT G.D l)/\(6<=i->¬p.mm<((cR G (bS G l) l).length:Int))) (fun s _=>(6-s.2).toNat) (0,(i:Int)) v (aN.q1 K)) u:=by
   intro u e ku he fX;have e1:(fW p G l).1= []:=by rw [he]
   refine stop (A':=none) (c':=0) (ku.mono fun _ _ h=>h.elim) (by rw [e1];exact ku.heap ho7 (fun h=>h)) (by rw [e1];exact HS.nil _ _) (by rw [he]) fX (fun a ha=>by cases ha)
  have go:∀ {u:World},Kept Nil w7 u->(2<=i+1->p.ok)->(3<=i+1->¬((l.length<1\/p.mp<(l.length:Int))\/dC l≠l))->(4<=i+1->dO G.D l= [])->(5<=i+1->¬sT G.D l)->(6<=i+1->¬p.mm<((cR G (bS G l) l).length:Int))->
   aN.J1 ⟨ob,0,none⟩ 0 0 (some ⟨rb,0,none⟩) 6 6 6 (i:Int) (bW (aN.e1 ⟨ob,0,none⟩ (some ⟨rb,0,none⟩) 6 6 6) (fun s v=>∃i:Nat,s=(0,(i:Int))/\i<=6/\Kept Nil w7 v/\(2<=i->p.ok)/\(3<=i->¬((l.length<1\/p.mp<(l.length:Int))\/dC l≠l))/\(4<=i->dO G.D l= [])/\(5<=i->¬sT G.D l)/\(6<=i->¬p.mm<((cR G (bS G l) l).length:Int))) (fun s _=>(6-s.2).toNat) (0,(i:Int)) v (aN.q1 K)) u:=by
   intro u ku d2 d3 d4 d5 d6;unfold aN.J1;refine Split.no rfl ?_;rw [dF (n:=(i:Int)) (by omega) (by omega)];exact⟨(0,(i:Int)+1),rfl,⟨i+1,rfl,by omega,ku,d2,d3,d4,d5,d6⟩,by simp only;omega⟩
  refine⟨⟨by omega,by omega⟩,Is.mk rfl ?_⟩;simp-zeta only [Int.toNat_natCast];have NK:=kv.heap hc7 (fun h=>h);have Yo:=kv.heap hh7 (fun h=>h);have Uv:=kv.heap hp7 (fun h=>h);have hgv:=kv.heap Vs (fun h=>h);have Cv:=C7.same kv;have Xv:=X7.same kv;have lv:=l7'.same kv;have rd:∀(j:Nat) (z:Value),(#[.func (.func cX.id) #[] #[.pointer (some ⟨gb,0,none⟩)],.func (.func cS.id) #[] #[.pointer (some ⟨pb,0,none⟩)],.func (.func cQ.id) #[] #[.pointer (some ⟨hb,0,none⟩),.pointer (some ⟨pb,0,none⟩)],.func (.func bn.id) #[] #[.pointer (some ⟨hb,0,none⟩),.pointer (some ⟨gb,0,none⟩),.pointer (some ⟨ob,0,none⟩)],.func (.func br.id) #[] #[.pointer (some ⟨hb,0,none⟩),.pointer (some ⟨cb,0,none⟩)],.func (.func cP.id) #[] #[.pointer (some ⟨cb,0,none⟩),.pointer (some ⟨hb,0,none⟩),.pointer (some ⟨pb,0,none⟩)]]:Array Value)[j]? =some z->v.cell? ((⟨rb,0,none⟩:Addr).add (j*1))=some z:=fun j z h=>by rw [Nat.mul_one,bE,aE QA,Nat.zero_add];exact h
  have Z8:cX.fn.body.isSome=true:=by kernel_rfl
  have XW:cS.fn.body.isSome=true:=by kernel_rfl
  have hz3:cQ.fn.body.isSome=true:=by kernel_rfl
  have hz4:bn.fn.body.isSome=true:=by kernel_rfl
  have hz5:br.fn.body.isSome=true:=by kernel_rfl
  have hz6:cP.fn.body.isSome=true:=by kernel_rfl
  have nE:cX.fn.resultTypes.toList= [jQ]:=by kernel_rfl
  have jY:cS.fn.resultTypes.toList= [jQ]:=by kernel_rfl
  have yY:cQ.fn.resultTypes.toList= [jQ]:=by kernel_rfl
  have yf:bn.fn.resultTypes.toList= [jQ]:=by kernel_rfl
  have sC:br.fn.resultTypes.toList= [jQ]:=by kernel_rfl
  have Yc:cP.fn.resultTypes.toList= [jQ]:=by kernel_rfl
  have RY:i=0\/i=1\/i=2\/i=3\/i=4\/i=5:=by omega
  rcases RY with rfl|rfl|rfl|rfl|rfl|rfl
  ·refine⟨.func (.func cX.id) #[] #[.pointer (some ⟨gb,0,none⟩)],rd 0 _ rfl,?_⟩
   rw [jV (fn:=cX.fn) cX.at_ Z8 rfl nE kd];refine cX.of ⟨_,by rw [aE hgv];rfl,Split.no rfl (⟨_,rfl,aN.kW (go kv (fun h=>by omega) (fun h=>by omega) (fun h=>by omega) (fun h=>by omega) (fun h=>by omega))⟩)⟩
  ·refine⟨.func (.func cS.id) #[] #[.pointer (some ⟨pb,0,none⟩)],rd 1 _ rfl,?_⟩
   rw [jV (fn:=cS.fn) cS.at_ XW rfl jY kd];refine LX Uv fun w8 k8=>⟨_,rfl,aN.kW ?_⟩;have H9:=kv.tt k8;by_cases uE:p.ok
   ·rw [if_neg (fun e=>e uE)]
    exact go H9 (fun _=>uE) (fun h=>by omega) (fun h=>by omega) (fun h=>by omega) (fun h=>by omega)
   ·rw [if_pos uE]
    exact D0 H9 (by unfold fW;rw [if_pos uE]) (by omega)
  ·refine⟨.func (.func cQ.id) #[] #[.pointer (some ⟨hb,0,none⟩),.pointer (some ⟨pb,0,none⟩)],rd 2 _ rfl,?_⟩
   rw [jV (fn:=cQ.fn) cQ.at_ hz3 rfl yY kd];have uE:=c2 (by omega);refine LW Yo h0 lv (by omega) Uv fun w8 e k8 he=>⟨_,rfl,aN.kW ?_⟩;have H9:=kv.tt k8;rcases he with⟨h3,rfl⟩|⟨h3,rfl⟩
   ·exact D0 H9 (by unfold fW;rw [if_neg (fun e=>e uE),if_pos h3]) (by omega)
   ·exact go H9 (fun _=>uE) (fun _=>h3) (fun h=>by omega) (fun h=>by omega) (fun h=>by omega)
  ·refine⟨.func (.func bn.id) #[] #[.pointer (some ⟨hb,0,none⟩),.pointer (some ⟨gb,0,none⟩),.pointer (some ⟨ob,0,none⟩)],rd 3 _ rfl,?_⟩
   rw [jV (fn:=bn.fn) bn.at_ hz4 rfl yf kd];have uE:=c2 (by omega);have h3:=c3 (by omega);have Gq:n≠0:=fun e=>h3 (.inl (.inl (by omega)));have hAn:∀a,A=some a->a.block≠ob:=fun a ha e=>by have:=hAo a ha Gq;omega
   have XS:∀u,Kept (· =ob) v u->XV u m.FX m.x G.D G.P mx:=fun u ku=>by
    have CV':Kept (· =ob) w u:=(tq.mono fun _ _ h=>h.elim).tt ku;exact X4.aK ((Pe.tt kv).mono (S':=fun j=>j=ob) (fun _ _ h=>h.elim) |>.tt ku) (fun j e e'=>by have:=Om j (.inl e);omega) (fun j e e'=>by have:=Om j (.inr e);omega)
   refine LV Xv Cv rfl Yo h0 lv (by omega) hgv Ns (by omega) (by omega) hAn XS (fun hm w8 k8=>⟨_,rfl,aN.kW (go (kv.tt k8) (fun _=>uE) (fun _=>h3) (fun _=>hm) (fun h=>by omega) (fun h=>by omega))⟩) fun hm w8 A8 c8 ho8 Cl k8=>⟨_,rfl,aN.kW ?_⟩;have he:fW p G l=(dO G.D l,15):=by unfold fW;rw [if_neg (fun e=>e uE),if_neg h3,if_pos hm]
   have sv:=kv.size;refine stop (A':=A8) (c':=c8) ((kv.mono fun _ _ h=>h.elim).tt k8) (by rw [he];exact ho8) (by rw [he];exact cf.hs Cl) (by rw [he]) (by omega) (fun a ha _ e=>?_);have:=(Row.bV Cl (k:=a.block) (by rw [ha];rfl)).1;omega
  ·refine⟨.func (.func br.id) #[] #[.pointer (some ⟨hb,0,none⟩),.pointer (some ⟨cb,0,none⟩)],rd 4 _ rfl,?_⟩
   rw [jV (fn:=br.fn) br.at_ hz5 rfl sC kd];have uE:=c2 (by omega);have h3:=c3 (by omega);have hm:=c4 (by omega);refine LU Cv (by omega) Yo h0 lv (by omega) NK fun w8 e k8 he=>⟨_,rfl,aN.kW ?_⟩;have H9:=kv.tt k8;rcases he with⟨h5,rfl⟩|⟨h5,rfl⟩
   ·exact D0 H9 (by unfold fW;rw [if_neg (fun e=>e uE),if_neg h3,if_neg (fun e=>e hm),if_pos h5]) (by omega)
   ·exact go H9 (fun _=>uE) (fun _=>h3) (fun _=>hm) (fun _=>h5) (fun h=>by omega)
  ·refine⟨.func (.func cP.id) #[] #[.pointer (some ⟨cb,0,none⟩),.pointer (some ⟨hb,0,none⟩),.pointer (some ⟨pb,0,none⟩)],rd 5 _ rfl,?_⟩
   rw [jV (fn:=cP.fn) cP.at_ hz6 rfl Yc kd];have uE:=c2 (by omega);have h3:=c3 (by omega);have hm:=c4 (by omega);have h5:=c5 (by omega);have wO:l≠ []:=fun e=>h3 (.inl (.inl (by rw [e];simp)));refine LS Cv (hT.same tq) hD o6 Yo h0 lv (by omega) NK Uv wO (qz.1 hm) fun w8 e k8 he=>⟨_,rfl,aN.kW ?_⟩;have H9:=kv.tt k8;rcases he with⟨h6,rfl⟩|⟨h6,rfl⟩
   ·exact D0 H9 (by unfold fW;rw [if_neg (fun e=>e uE),if_neg h3,if_neg (fun e=>e hm),if_neg h5,if_pos h6]) (by omega)
   ·exact go H9 (fun _=>uE) (fun _=>h3) (fun _=>hm) (fun _=>h5) (fun _=>h6)
 ·simp only at gH
  rw [aU,aN.dz];unfold aN.df;refine⟨dQ Ns (by simp),?_⟩;intro w9;have hu9:w9.heap[ob]? =some (.cells #[.slice none 0 0] aF (0,0)):=du Ns 0 _;have k9:Kept (· =ob) v w9:=Kept.setCell (S:=fun j=>j=ob) (Kept.refl _ v) (p:=⟨ob,0,none⟩) (fun _=>rfl) _;clear_value w9;refine⟨none,0,0,by rw [aE hu9];rfl,?_⟩;have he:fW p G l=([],0):=by unfold fW;rw [if_neg (fun e=>e (c2 (by omega))),if_neg (c3 (by omega)),if_neg (fun e=>e (c4 (by omega))),if_neg (c5 (by omega)),if_neg (c6 (by omega))]
  have:=hK w9 none 0 0 (by rw [he];exact HS.nil _ _) (tq.trans k9 (fun j hj e=>by omega));rw [he]at this;exact this
end
noncomputable def xM:PP:=⟨2,5,10,0,0,0,0,10,10,fH⟩
theorem Cr:xM.ok:=by simp [PP.ok,xM]
theorem uQ(v:Value):(Fb v)[0]? =some v:=by kernel_rfl
section
variable{r a b:HT}(PZ:r≠a)(Gm:r≠b)(nv:a≠b)
include Gm nv in
theorem k2b:dU [⟨r,[]⟩,⟨a,[r]⟩] b [a]=0/\mC [⟨r,[]⟩,⟨a,[r]⟩] b [a]= [⟨r,[]⟩,⟨a,[r]⟩,⟨b,[a]⟩]:=by
 have h:dU [⟨r,[]⟩,⟨a,[r]⟩] b [a]=0:=by
  unfold dU;rw [if_neg (by simp [ids];exact⟨fun e=>Gm e.symm,fun e=>nv e.symm⟩),oE,if_neg (by simp),if_neg (by simp [ids])]
 exact⟨h,by unfold mC;rw [if_pos h,oE];rfl⟩
theorem Cs{G:GS}(H:lG 2 G)(D:G.D= [⟨r,[]⟩,⟨a,[r]⟩,⟨b,[a]⟩])(di:di a b=true):fW xM G [a,b]=([],9)/\fW xM G [b]=([],0):=by
 have nv:fI G.D a b:=.one ⟨⟨b,[a]⟩,by rw [D];simp,rfl,by simp⟩;have ha:a∈ids G.D:=by rw [D];simp [ids]
 have hb:b∈ids G.D:=by rw [D];simp [ids]
 constructor
 ·have hs:dC [a,b]= [a,b]:=zV (by simp [SS,di])
  have hm:dO G.D [a,b]= []:=qz.2 (by simp [ha,hb]);unfold fW;rw [if_neg (fun e=>e Cr),if_neg,if_neg (fun e=>e hm),if_pos ⟨a,by simp,b,by simp,nv⟩];rintro((e|e)|e)
  ·simp at e
  ·simp [xM]at e
  ·exact e hs
 ·have hs:dC [b]= [b]:=oE b
  have hm:dO G.D [b]= []:=qz.2 (by simp [hb]);unfold fW;rw [if_neg (fun e=>e Cr),if_neg,if_neg (fun e=>e hm),if_neg,if_neg]
  ·have e1:bS G [b]=b:=rfl
   rw [e1,AB];simp [xM]
  ·rintro⟨x,hx,y,hy,nD⟩
   rw [List.mem_singleton]at hx hy;subst hx hy;exact fI.irrefl H.W _ nD
  ·rintro((e|e)|e)
   ·simp at e
   ·simp [xM]at e
   ·exact e hs
end
section
variable{w w':World}{K:Value->World->Prop}
theorem mP(hK:∀w',Kept Nil w w'->K (.agg xM.cells) w'):bG prog fE.id #[] w K:=by
 refine fE.of ?_;unfold fE.W;intro w1;have Bi:w1.heap[w.heap.size]? =some (.cells (#[.int .i64 0,.int .i64 0,.int .i64 0,.int .i64 0,.int .i64 0,.int .i64 0,.int .u64 0,.int .i64 0,.int .i64 0]++fH.1) eM (0,0)):=aM w _;have k1:Kept Nil w w1:=(Kept.refl _ _).alloc _;clear_value w1;obtain⟨t1,t2,t3⟩:=gv Bi (cs:=xM.cells) (by rw [xM.size,Array.size_append,fH.2.1];rfl);rw [xM.size]at t1;refine⟨⟨xM.size,xM.one,t1⟩,xM.cells,⟨xM.size,Cells.bV t2⟩,hK _ (k1.trans t3 (fun j hj e=>by omega))⟩
set_option maxHeartbeats 2000000 in
theorem CB(hT:sS w)(hK:∀w',Kept Nil w w'->K (.bool true) w'):bG prog iL.id #[] w K:=by
 let r:=hx 1 (by omega)
 let a:=hx 2 (by omega)
 let b:=hx 3 (by omega)
 have PZ:r≠a:=CJ (by omega);have Gm:r≠b:=CJ (by omega);have nv:a≠b:=CJ (by omega);have di:di a b=true:=by decide
 refine iL.of ?_;unfold iL.W;intro w1 w2 w3;have ka:Kept Nil w w1:=(Kept.refl _ _).alloc _;have nE:w1.heap[w.heap.size]? =some (.cells fH.1 al (0,0)):=aM w _;have kb:Kept Nil w1 w2:=(Kept.refl _ _).alloc _;have ha2:w2.heap[w1.heap.size]? =some (.cells fH.1 al (0,0)):=aM w1 _;have kc:Kept Nil w2 w3:=(Kept.refl _ _).alloc _;have p8:w3.heap[w2.heap.size]? =some (.cells fH.1 al (0,0)):=aM w2 _;clear_value w3;have ha3:=kc.heap ha2 (fun h=>h);have yY:=kc.heap (kb.heap nE (fun h=>h)) (fun h=>h);have jF:=(ka.tt kb).tt kc;have l1:=bf nE;have l2:=bf ha2;have l3:=bf p8;generalize aiV:w.heap.size=rb at yY l1;generalize akb:w1.heap.size=ab at ha3 l1 l2;generalize aj5:w2.heap.size=bb at p8 l2 l3;clear_value w2;clear_value w1;obtain⟨u1,u2,u3⟩:=jf r yY rfl;refine⟨u1,?_⟩;intro w4
 replace u2:w4.heap[rb]? =some (.cells r.1 al (0,0)):=u2
 replace u3:Kept (· =rb) w3 w4:=u3
 clear_value w4;obtain⟨v1,v2,v3⟩:=jf a (u3.heap ha3 (by omega)) rfl;refine⟨v1,?_⟩;intro w5
 replace v2:w5.heap[ab]? =some (.cells a.1 al (0,0)):=v2
 replace v3:Kept (· =ab) w4 w5:=v3
 clear_value w5;obtain⟨x1,x2,x3⟩:=jf b (v3.heap (u3.heap p8 (by omega)) (by omega)) rfl;refine⟨x1,?_⟩;intro nh
 replace x2:nh.heap[bb]? =some (.cells b.1 al (0,0)):=x2
 replace x3:Kept (· =bb) w5 nh:=x3
 clear_value nh;have hb:=x2;have ha:=x3.heap v2 (by omega);have hr:=x3.heap (v3.heap u2 (by omega)) (by omega);have k:Kept Nil w nh:=((jF.trans u3 (fun j hj e=>by omega)).trans v3 (fun j hj e=>by omega)).trans x3 (fun j hj e=>by omega);have hTl:=hT.lt;have s16:=k.size;have lb:=bf hb;have box:∀ {u:World} {S:Nat->Prop},Kept S nh u->(∀k,S k->nh.heap.size<=k)->u.heap[rb]? =some (.cells r.1 al (0,0))/\u.heap[ab]? =some (.cells a.1 al (0,0))/\u.heap[bb]? =some (.cells b.1 al (0,0)):=fun ku hS=>
  ⟨ku.heap hr (fun e=>by have:=hS _ e;omega),ku.heap ha (fun e=>by have:=hS _ e;omega),ku.heap hb (fun e=>by have:=hS _ e;omega)⟩
 obtain⟨c1,d1⟩:=k1 PZ;obtain⟨c2,d2⟩:=k2b Gm nv;have H1:=(mO 2 r).add a [r];have H2:=H1.add b [a];have D1:(eZ 2 (fh r) a [r]).D= [⟨r,[]⟩,⟨a,[r]⟩]:=by rw [tL];exact d1
 have D2:(eZ 2 (eZ 2 (fh r) a [r]) b [a]).D= [⟨r,[]⟩,⟨a,[r]⟩,⟨b,[a]⟩]:=by rw [tL,D1];exact d2
 obtain⟨P1,P2⟩:=Cs H2 D2 di;refine⟨r.1,⟨r.2.1,Cells.bV hr⟩,jg r (k:=2) (by omega) fun pC cc q m C hm hq x9=>⟨_,_,rfl,Split.no rfl (Split.no rfl ?_)⟩⟩;obtain⟨b1,b2,b3⟩:=box x9 (fun _ h=>h.elim);refine⟨a.1,⟨a.2.1,Cells.bV b2⟩,r.1,⟨r.2.1,Cells.bV b1⟩,r.2.1,?_⟩;intro mD;have rO:Kept Nil pC mD:=(Kept.refl _ _).alloc _;have LZ:HS mD (some ⟨pC.heap.size,0,none⟩) 1 [r]:=jE pC r;clear_value mD;have CG:=x9.tt rO;have Zr:=CG.size;refine oR (C.same rO) (hT.same (k.tt CG)) (fun e=>by have:=hm _ (.inl e);omega) (by simp [fh]) (by omega) LZ (by omega) a fun q9 F2 m2 A2 n2 p2 E2 q2 z2 C2 _ Ge Yh _ _ _ _ _=>⟨_,_,rfl,?_⟩;have om2:∀j,m2.own cc j->nh.heap.size<=j:=fun j e=>(Yh j e).elim (hm j) (fun h=>by omega);have MX:Kept (fun q=>nh.heap.size<=q) nh q9:=(CG.mono (S':=fun q=>nh.heap.size<=q) (fun _ _ h=>h.elim)).trans Ge (fun q _ h=>hm q h);obtain⟨b1,b2,b3⟩:=box MX (fun _ h=>h);refine⟨b.1,⟨b.2.1,Cells.bV b3⟩,a.1,⟨a.2.1,Cells.bV b2⟩,a.2.1,?_⟩;intro Hr;have MW:Kept Nil q9 Hr:=(Kept.refl _ _).alloc _;have Wk:HS Hr (some ⟨q9.heap.size,0,none⟩) 1 [a]:=jE q9 a;clear_value Hr;have Il:=MX.trans MW (fun _ _ h=>h.elim);have s31:=Il.size;refine oR (C2.same MW) ((hT.same k).aK Il (fun e=>by omega)) (fun e=>by have:=om2 _ (.inl e);omega) (by rw [D1];simp) (by omega) Wk (by omega) b fun qt F3 m3 A3 n3 p3 E3 q3 z3 C3 _ zv hm3 _ _ _ _ _=>⟨_,_,rfl,?_⟩;have Ik:Kept (fun q=>nh.heap.size<=q) nh qt:=Il.trans zv (fun q _ h=>om2 q h);have Wx:sS qt:=(hT.same k).aK Ik (fun e=>by omega);have k0:∀ {u:World},Kept Nil qt u->Kept Nil w u:=fun ku=>k.trans (Ik.trans ku (fun _ _ h=>h.elim)) (fun q hq e=>by omega)
 obtain⟨b1,b2,b3⟩:=box Ik (fun _ h=>h);have hD2:(eZ 2 (eZ 2 (fh r) a [r]) b [a]).D.length<=49:=by rw [D2];simp
 generalize eZ 2 (eZ 2 (fh r) a [r]) b [a]=G2 at C3 hD2 P1 P2;have VN:∀ {u:World} {A:Option Addr} {K':Value->World->Prop},Kept Nil qt u->HS u A 2 [a,b]->(∀w' A' n' c',Kept Nil qt w'->K' (.tuple #[.slice A' n' c',.int .i64 9]) w')->bG prog aN.id #[.agg xM.cells,.pointer (some ⟨cc,0,none⟩),.agg (Fb (.slice A 2 2))] u K':=fun ku hs hk=>
  ml (C3.same ku) (Wx.same ku) hD2 (by omega) xM (uQ _) hs (by omega) fun w' A' n' c' _ k'=>by
   rw [P1];exact hk w' A' n' c' (ku.tt k')
 have VM:∀ {u:World} {A:Option Addr} {K':Value->World->Prop},Kept Nil qt u->HS u A 1 [b]->(∀w' A' n' c',Kept Nil qt w'->K' (.tuple #[.slice A' n' c',.int .i64 0]) w')->bG prog aN.id #[.agg xM.cells,.pointer (some ⟨cc,0,none⟩),.agg (Fb (.slice A 1 1))] u K':=fun ku hs hk=>
  ml (C3.same ku) (Wx.same ku) hD2 (by omega) xM (uQ _) hs (by omega) fun w' A' n' c' _ k'=>by
   rw [P2];exact hk w' A' n' c' (ku.tt k')
 have fin:∀ {u:World},Kept Nil qt u->bG prog fE.id #[] u fun pe qe=>∃re:Array Value,pe=.agg re/\bG prog bR.id #[.agg re] qe fun te ue=>∃ve:Bool,te=.bool ve/\K (.bool ve) ue:=fun ku=>
  mP fun w1 k1=>⟨_,rfl,oY xM fun w2 k2=>⟨_,rfl,by rw [decide_eq_true Cr];exact hK w2 (k0 ((ku.tt k1).tt k2))⟩⟩
 intro nf;have wL:Kept Nil qt nf:=(Kept.refl _ _).drew;clear_value nf;have Wu:=wL.heap b2 (fun h=>h);have I9:=wL.heap b3 (fun h=>h);have half:∀ {va:World},Kept Nil qt va->va.heap[bb]? =some (.cells b.1 al (0,0))->
  (let be:World:=va.drew;∃ce:Array Value,(ce.size=32/\Cells be (⟨bb,0,none⟩:Addr) ce)/\(bG prog fE.id #[] be fun de ee=>∃fe:Array Value,de=.agg fe/\(∃cs:Array Value,(.agg ce:Value)=.agg cs/\cs.size=32/\Cells ee (⟨bb,0,none⟩:Addr) cs)/\ce.size=32/\(let ge:World:=ee.alloc (.cells (ce.toList++ []).toArray al);bG prog aN.id #[.agg fe,.pointer (some ⟨cc,0,none⟩),.agg (Fb (.slice (some (aV ee.heap.size)) 1 1))] ge fun ie je=>∃ke:Option Addr,∃me ne:Nat,∃oe:Int,ie=.tuple #[.slice ke me ne,.int .i64 oe]/\Split ((9:Int)==(9:Int)) (Split (oe==(0:Int)) (bG prog fE.id #[] je fun pe qe=>∃re:Array Value,pe=.agg re/\bG prog bR.id #[.agg re] qe fun te ue=>∃ve:Bool,te=.bool ve/\K (.bool ve) ue) (K (.bool false) je)) (K (.bool false) je)))/\
    (ce.size=32/\(let xe:World:=be.alloc (.cells (ce.toList++ []).toArray al);bG prog fE.id #[] xe fun ye ze=>∃aj:Array Value,ye=.agg aj/\bG prog aN.id #[.agg aj,.pointer (some ⟨cc,0,none⟩),.agg (Fb (.slice (some (aV be.heap.size)) 1 1))] ze fun bj cj=>∃dj:Option Addr,∃ej fj:Nat,∃gj:Int,bj=.tuple #[.slice dj ej fj,.int .i64 gj]/\Split ((9:Int)==(9:Int)) (Split (gj==(0:Int)) (bG prog fE.id #[] cj fun ij jj=>∃kj:Array Value,ij=.agg kj/\bG prog bR.id #[.agg kj] jj fun mj nj=>∃oj:Bool,mj=.bool oj/\K (.bool oj) nj) (K (.bool false) cj)) (K (.bool false) cj)))):=by
  intro va kva C8 be;have kbe:Kept Nil va be:=(Kept.refl _ _).drew;clear_value be;have zv:=kva.tt kbe;have hbe:=kbe.heap C8 (fun h=>h);refine⟨b.1,⟨b.2.1,Cells.bV hbe⟩,?_,b.2.1,?_⟩
  ·refine mP fun ee ke=>⟨_,rfl,⟨_,rfl,b.2.1,Cells.bV (ke.heap hbe (fun h=>h))⟩,b.2.1,?_⟩
   intro ge;have kge:Kept Nil ee ge:=(Kept.refl _ _).alloc _;have gH:HS ge (some ⟨ee.heap.size,0,none⟩) 1 [b]:=jE ee b;clear_value ge;exact VM ((zv.tt ke).tt kge) gH fun w' A' n' c' k'=>⟨A',n',c',_,rfl,Split.yes rfl (Split.yes rfl (fin k'))⟩
  ·intro xe
   have kxe:Kept Nil be xe:=(Kept.refl _ _).alloc _;have hxe:HS xe (some ⟨be.heap.size,0,none⟩) 1 [b]:=jE be b;clear_value xe;refine mP fun ze ke=>⟨_,rfl,?_⟩;exact VM ((zv.tt kxe).tt ke) (hxe.same ke) fun w' A' n' c' k'=>⟨A',n',c',_,rfl,Split.yes rfl (Split.yes rfl (fin k'))⟩
 refine⟨a.1,⟨a.2.1,Cells.bV Wu⟩,b.1,⟨b.2.1,Cells.bV I9⟩,?_,a.2.1,b.2.1,?_⟩
 ·refine mP fun jG nn=>⟨_,rfl,⟨_,rfl,b.2.1,Cells.bV (nn.heap I9 (fun h=>h))⟩,⟨_,rfl,a.2.1,Cells.bV (nn.heap Wu (fun h=>h))⟩,a.2.1,b.2.1,?_⟩
  intro rM;have rN:Kept Nil jG rM:=(Kept.refl _ _).alloc _;have acy:HS rM (some ⟨jG.heap.size,0,none⟩) 2 [a,b]:=HS.lay (l:= [a,b]) (t:=al) (aM jG (.cells (dw [a,b]).toArray al));clear_value rM;refine VN ((wL.tt nn).tt rN) acy fun wK A' n' c' yR=>⟨A',n',c',_,rfl,?_⟩;exact half yR (yR.heap b3 (fun h=>h))
 ·intro jG
  have nn:Kept Nil nf jG:=(Kept.refl _ _).alloc _;have LY:HS jG (some ⟨nf.heap.size,0,none⟩) 2 [a,b]:=HS.lay (l:= [a,b]) (t:=al) (aM nf (.cells (dw [a,b]).toArray al));clear_value jG;refine mP fun rM rN=>⟨_,rfl,?_⟩;refine VN ((wL.tt nn).tt rN) (LY.same rN) fun wK A' n' c' yR=>⟨A',n',c',_,rfl,?_⟩;exact half yR (yR.heap b3 (fun h=>h))
end
section
variable{w w' v:World}{K:Value->World->Prop}{n cx:Nat}{A:Option Addr}{l:List HT}{FR:Nat->Prop}{r x k:Nat}{G:GS}{hd:Array Value}{p:PP}
set_option maxHeartbeats 2000000 in
theorem uC(R:R3 w FR r x k G)(hD:G.D.length<=300)(o6:k<=1000)(p:PP)(h0:hd[0]? =some (.slice A n cx))(hl:HS w A n l)(hn:n<=1000)
 (hK:∀w' A' n' c',HS w' A' n' (fW p G l).1->Kept Nil w w'->K (.tuple #[.slice A' n' c',.int .i64 (fW p G l).2]) w'):
 bG prog aG.id #[.agg p.cells,.pointer (some ⟨r,0,none⟩),.agg hd] w K:=by
 have hlen:=hl.len;have W:=R.iC.W;refine aG.of ?_;unfold aG.W;intro w1 w2;have k1:Kept Nil w w1:=(Kept.refl _ _).alloc _;have Lw:w1.heap[w.heap.size]? =some (.cells p.cells eM (0,0)):=aM w _;have k2:Kept Nil w1 w2:=(Kept.refl _ _).alloc _;have Yp:w2.heap[w1.heap.size]? =some (.cells hd jw (0,0)):=aM w1 _;clear_value w2;have EC:=k2.heap Lw (fun h=>h);have mu:=k1.tt k2;generalize ai6:w.heap.size=pb at EC;generalize ajL:w1.heap.size=hb at Yp;clear_value w1;have stop:∀ {u:World} {e:Int},Kept Nil w u->fW p G l=([],e)->K (.tuple #[.slice none 0 0,.int .i64 e]) u:=fun ku he=>by
  have:=hK _ none 0 0 (by rw [he];exact HS.nil _ _) ku;rw [he]at this;exact this
 refine⟨p.cells,⟨p.size,Cells.bV EC⟩,uB p fun w3 k3=>⟨_,rfl,?_⟩⟩;have jF:=mu.tt k3;by_cases uE:¬p.ok
 ·exact Split.yes (by rw [decide_eq_false uE];rfl) (stop jF (by unfold fW;rw [if_pos uE]))
 have aa1:p.ok:=Classical.byContradiction uE;refine Split.no (by rw [decide_eq_true aa1];rfl) ⟨A,n,cx,oP (k3.heap Yp (fun h=>h)) h0,?_⟩;have h9:((l.length<1\/p.mp<(l.length:Int))\/dC l≠l)->fW p G l=([],9):=fun h=>by unfold fW;rw [if_neg uE,if_pos h]
 refine Split.dec (fun h1=>stop jF (h9 (.inl (.inl (by omega))))) (fun h1=>⟨p.mp,by rw [bE,aE (k3.heap EC (fun h=>h))];exact p.Jp,Split.dec (fun h2=>stop jF (h9 (.inl (.inr (by omega))))) (fun h2=>?_)⟩);refine oJ (hl.same jF) (by omega) fun A4 c4 w4 jX k4=>⟨A4,_,c4,rfl,?_⟩;have mh:=jF.tt k4;have BS:=ny l;refine xL (cf.hs jX) (hl.same mh) (by omega) fun w5 k5=>⟨_,rfl,?_⟩;have nC:=mh.tt k5;by_cases hs:dC l≠l
 ·exact Split.yes (by rw [decide_eq_false hs];rfl) (stop nC (h9 (.inr hs)))
 have nO:dC l=l:=Classical.byContradiction hs;have h3:¬((l.length<1\/p.mp<(l.length:Int))\/dC l≠l):=fun e=>by
  rcases e with(e|e)|e
  ·omega
  ·omega
  ·exact hs e
 refine Split.no (by rw [decide_eq_true nO];rfl) ?_;have s5:=nC.size;have hp5:=((k3.tt k4).tt k5).heap EC (fun h=>h);refine aG.cJ (I:=fun s v=>∃(i:Nat) (A':Option Addr) (c':Nat),s=(A',(dO G.D (l.take i)).length,c',(i:Int))/\i<=n/\cf v w5.heap.size A' (dO G.D (l.take i)).length c' (dO G.D (l.take i))/\Kept Nil w5 v) (μ:=fun s _=>((n:Int)-s.2.2.2).toNat) (s:=(none,0,0,0)) ⟨0,none,0,rfl,Nat.zero_le _,cf.nil _ _,Kept.refl _ _⟩ ?_;rintro⟨A',_,c',_⟩ v ⟨i,_,_,e,hi,row,kv⟩;cases e;have tq:=nC.tt kv;unfold aG.B1;refine Split.dec (fun di=>?_) (fun gH=>?_)
 ·simp only at di
  have dX:i<n:=by omega
  obtain⟨y,hy⟩:∃y,l[i]? =some y:=⟨_,List.getElem?_eq_getElem (by omega)⟩;intro w6;have k6:Kept Nil v w6:=(Kept.refl _ _).drew;clear_value w6;have np:=tq.tt k6;have R6:=R.same np;refine Is.mk rfl ⟨_,R6.c1,Is.mk rfl ?_⟩;refine HS.load (hl.same np) (i:=(i:Int)) (x:=y) (by omega) (by rw [Int.toNat_natCast];exact hy) ?_;rw [add_zero];refine oL R6.X.gr (by omega) y fun w7 k7=>⟨_,rfl,?_⟩;have Tq:=k6.tt k7;have Gb:=kv.tt Tq;have tu:=nC.tt Gb;have nu:=vG (D:=G.D) hy;have wT:cf w7 w5.heap.size A' (dO G.D (l.take i)).length c' (dO G.D (l.take i)):=Row.aK row Tq (fun _ _ h=>h);by_cases hm:y∈ids G.D
  ·rw [if_pos hm,List.append_nil]at nu
   have hat:=rH.2 hm;refine Split.no (decide_eq_false (by omega)) ?_;simp only;rw [dF (n:=(i:Int)) (by omega) (by omega)];exact⟨(A',(dO G.D (l.take i)).length,c',(i:Int)+1),rfl,⟨i+1,A',c',by rw [nu];rfl,dX,by rw [nu];exact wT,Gb⟩,by simp only;omega⟩
  ·rw [if_neg hm]at nu
   refine Split.yes (decide_eq_true (qG.2 hm)) ?_;refine HS.load (hl.same tu) (i:=(i:Int)) (x:=y) (by omega) (by rw [Int.toNat_natCast];exact hy) ⟨y.2.1,?_⟩;intro w8;have k8:Kept Nil w7 w8:=(Kept.refl _ _).alloc _;have NZ:HS w8 (some ⟨w7.heap.size,0,none⟩) 1 [y]:=jE w7 y;clear_value w8;have Cl:cf w8 w5.heap.size A' (dO G.D (l.take i)).length c' (dO G.D (l.take i)):=Row.aK wT k8 (fun _ _ h=>h);have En:=Gb.tt k8;have s8:=En.size;have Gr:=Az G.D (l.take i);rw [List.length_take]at Gr;obtain⟨A9,c9,w9,hr9,KF,g9,_⟩:=dd aF Cl (cx:=1) NZ (by omega) s8;refine⟨A9,_,c9,w9,hr9,?_⟩;simp only;rw [dF (n:=(i:Int)) (by omega) (by omega)];have el:(dO G.D (l.take (i+1))).length=(dO G.D (l.take i)).length+1:=by rw [nu,List.length_append];rfl
   exact⟨(A9,(dO G.D (l.take i)).length+1,c9,(i:Int)+1),rfl,⟨i+1,A9,c9,by rw [el];rfl,dX,by rw [el,nu];exact KF,Kept.dY En g9 (fun j hj=>(Row.bV Cl hj).1)⟩,by simp only;omega⟩
 simp only at gH;rw [aU,aG.dz];unfold aG.df;rw [List.take_of_length_le (by omega)]at row⊢;by_cases hm:dO G.D l≠ []
 ·have:=List.length_pos_iff.2 hm
  have he:fW p G l=(dO G.D l,15):=by unfold fW;rw [if_neg uE,if_neg h3,if_pos hm]
  refine Split.yes (decide_eq_true (by simp only;omega)) ?_;have:=hK v A' (dO G.D l).length c' (by rw [he];exact cf.hs row) tq;rw [he]at this;exact this
 have ns:dO G.D l= []:=Classical.byContradiction hm;have gD:=qz.1 ns;refine Split.no (by rw [ns];rfl) ?_;have wO:l≠ []:=fun e=>h3 (.inl (.inl (by rw [e];simp)));refine aG.iB (I:=fun s u=>∃i:Nat,s=(none,0,0,0,(i:Int))/\i<=n/\Kept Nil v u/\∀a∈l.take i,∀b∈l,¬fI G.D a b) (μ:=fun s _=>((n:Int)-s.2.2.2.2).toNat) (s:=(none,0,0,0,0)) ⟨0,rfl,Nat.zero_le _,Kept.refl _ _,by simp⟩ ?_;rintro s u ⟨i2,rfl,BV,ku,cY⟩;unfold aG.B2;refine Split.dec (fun LD=>?_) (fun LK=>?_)
 ·simp only at LD
  have Qn:i2<n:=by omega
  obtain⟨y,hy⟩:∃y,l[i2]? =some y:=⟨_,List.getElem?_eq_getElem (by omega)⟩;refine aG.sn (I:=fun s t=>∃q:Nat,s=(none,0,0,0,(q:Int))/\q<=n/\Kept Nil v t/\∀b∈l.take q,¬fI G.D y b) (μ:=fun s _=>((n:Int)-s.2.2.2.2).toNat) (s:=(none,0,0,0,0)) ⟨0,rfl,Nat.zero_le _,ku,by simp⟩ ?_;rintro s t ⟨q,rfl,hq,kt,Jc⟩;unfold aG.B3;refine Split.dec (fun abr=>?_) (fun abI=>?_)
  ·simp only at abr
   have IP:q<n:=by omega
   obtain⟨z,hz⟩:∃z,l[q]? =some z:=⟨_,List.getElem?_eq_getElem (by omega)⟩;intro w6;have k6:Kept Nil t w6:=(Kept.refl _ _).drew;clear_value w6;have KZ:=kt.tt k6;have np:=tq.tt KZ;have R6:=R.same np;refine Is.mk rfl ⟨_,R6.c1,Is.mk rfl ?_⟩;refine HS.load (hl.same np) (i:=(i2:Int)) (x:=y) (by omega) (by rw [Int.toNat_natCast];exact hy) ?_;refine HS.load (hl.same np) (i:=(q:Int)) (x:=z) (by omega) (by rw [Int.toNat_natCast];exact hz) ?_;rw [add_zero];refine oK R6.X.gr W (by omega) y z fun w7 b hb k7=>⟨b,rfl,?_⟩;have Tq:=KZ.tt k7;cases b with
   |true=>
    refine Split.yes rfl (stop (tq.tt Tq) ?_);unfold fW;rw [if_neg uE,if_neg h3,if_neg hm,if_pos ⟨y,List.mem_of_getElem? hy,z,List.mem_of_getElem? hz,hb.1 rfl⟩]
   |false=>
    refine Split.no rfl ?_;simp only;rw [dF (n:=(q:Int)) (by omega) (by omega)];refine⟨(none,0,0,0,(q:Int)+1),rfl,⟨q+1,rfl,IP,Tq,fun b uJ e=>?_⟩,by simp only;omega⟩;rcases(bP hz).1 uJ with uJ|rfl
    ·exact Jc b uJ e
    ·have:=hb.2 e
     cases this
  ·simp only at abI
   rw [aU,aG.yz];unfold aG.tM;rw [List.take_of_length_le (by omega)]at Jc;simp only;rw [dF (n:=(i2:Int)) (by omega) (by omega)];refine⟨(none,0,0,0,(i2:Int)+1),rfl,⟨i2+1,rfl,Qn,kt,fun a ha b hb e=>?_⟩,by simp only;omega⟩;rcases(bP hy).1 ha with ha|rfl
   ·exact cY a ha b hb e
   ·exact Jc b hb e
 simp only at LK;rw [aU,aG.ki];unfold aG.jh;rw [List.take_of_length_le (by omega)]at cY;have h5:¬sT G.D l:=fun⟨a,ha,b,hb,e⟩=>cY a ha b hb e;have MZ:=tq.tt ku;have Hb:bS G l∈ids G.D:=gD _ (jI wO);refine oZ (R.same MZ) (by omega) (hl.same MZ) wO (by omega) gD fun w6 k6=>⟨_,rfl,?_⟩;have np:=MZ.tt k6;refine qQ (R.same np) hD o6 Hb (hl.same np) (by omega) gD fun w7 A7 n7 c7 E7 e7 d7 W7 nw cw r7 _ _ k7=>⟨_,W7,nw,cw,rfl,?_⟩;have tu:=np.tt k7;intro w8;obtain⟨u1,u2,u3⟩:=ES w7 (dr k G (bS G l) l) A7 n7 c7 E7 e7 d7;refine⟨u1,?_⟩;intro w9
 replace u2:w9.heap[w7.heap.size]? =some (.cells (dp (dr k G (bS G l) l) A7 n7 c7 E7 e7 d7) bL (0,0)):=u2
 replace u3:Kept Nil w7 w9:=u3
 clear_value w9;have BP:=tu.tt u3;have hn7:=(cf.hs r7).len;have Qd:(dr k G (bS G l) l).merge=cR G (bS G l) l:=rfl;rw [Qd]at hn7;have TA:=(((kv.tt ku).tt k6).tt k7).tt u3;refine⟨A7,n7,c7,(wy u2).2.2.1,p.mm,by rw [bE,aE (TA.heap hp5 (fun h=>h))];exact p.Dh,?_⟩;rw [<-hn7];refine Split.dec (fun h6=>stop BP ?_) (fun h6=>stop BP ?_)
 ·unfold fW
  rw [if_neg uE,if_neg h3,if_neg hm,if_neg h5,if_pos (by omega)]
 ·unfold fW
  rw [if_neg uE,if_neg h3,if_neg hm,if_neg h5,if_neg (by omega)]
end
section
variable{w w' v:World}{S F FP FR:Nat->Prop}{c r x:Nat}{G:GS}{m:CM}{K:Value->World->Prop}
set_option maxHeartbeats 2000000 in
theorem DD{A:Option Addr}{n cx:Nat}{l:List DN}(hl:NS w FP A n l)(hn:n<9223372036854775808)(kk:Int)(root:HT)(hT:sS w)
 (mH:∀v,Kept Nil w v->K (.tuple #[.pointer none,.pointer none,.bool false,.bool true]) v)
 (hK:∀v F c m FR r x (k:Nat),kk=(k:Int)->k<=6->adl l 18->lH v F c m FR r x k (DA k root l)->Kept Nil w v->(∀j,m.own c j\/F j\/FR j\/j=r\/j=x->w.heap.size<=j)->K (.tuple #[.pointer (some ⟨c,0,none⟩),.pointer (some ⟨r,0,none⟩),.bool true,.bool true]) v):
 bG prog aC.id #[.int .i64 kk,.agg root.1,.slice A n cx] w K:=by
 have hlen:=hl.len;refine aC.of ?_;unfold aC.W;intro w1;have k1:Kept Nil w w1:=(Kept.refl _ _).alloc _;have Bi:w1.heap[w.heap.size]? =some (.cells root.1 al (0,0)):=aM w _;clear_value w1;refine Split.dec (fun _=>mH w1 k1) (fun Ki=>Split.dec (fun _=>mH w1 k1) (fun o5=>Split.dec (fun _=>mH w1 k1) (fun UW=>?_)));have UW:n<=18:=by omega
 refine aC.cJ (I:=fun s v=>v=w1/\∃i:Nat,s=(none,none,false,false,(i:Int))/\i<=n/\∀nd∈l.take i,nd.ps.length<=6) (μ:=fun s _=>((n:Int)-s.2.2.2.2).toNat) (s:=(none,none,false,false,0)) ⟨rfl,0,rfl,Nat.zero_le _,by simp⟩ ?_;rintro s v ⟨rfl,i,rfl,hi,cY⟩;unfold aC.B1;refine Split.dec (fun jZ=>?_) (fun gH=>?_)
 ·simp only at jZ
  have dX:i<n:=by omega
  obtain⟨nd,gQ⟩:∃nd,l[i]? =some nd:=⟨_,List.getElem?_eq_getElem (by omega)⟩;refine(hl.same k1).ps (i:=(i:Int)) (by omega) (by rw [Int.toNat_natCast];exact gQ) fun pA pn pc sD _=>?_;have rQ:=sD.len;refine Split.dec (fun yh=>mH v k1) (fun hle=>?_);simp only;rw [jb (x:=(i:Int)+1) (by omega) (by omega)];refine⟨(none,none,false,false,(i:Int)+1),rfl,⟨rfl,i+1,rfl,dX,fun md hm=>?_⟩,by simp only;omega⟩;rw [List.take_add_one,gQ]at hm;simp only [Option.toList_some,List.mem_append,List.mem_singleton]at hm;rcases hm with hm|rfl
  ·exact cY md hm
  ·omega
 simp only at gH;rw [aU,aC.dz];unfold aC.df;rw [List.take_of_length_le (by omega)]at cY;obtain⟨k,rfl⟩:∃k':Nat,kk=(k':Int):=⟨kk.toNat,by omega⟩;have hk6:k<=6:=by omega
 have sD:∀nd∈l,nd.ps.length<=1000:=fun nd h=>by have:=cY nd h;omega
 have hn:=UW;refine⟨root.1,⟨root.2.1,Cells.bV Bi⟩,?_⟩;refine jg root (by omega) fun w2 c q m C hm hq k2=>⟨_,_,rfl,Split.no rfl (Split.no rfl ⟨root.1,⟨root.2.1,Cells.bV (k2.heap Bi (fun h=>h))⟩,?_⟩)⟩;refine yJ root k fun w3 r x FR R hFR hr hx k3=>⟨_,rfl,?_⟩;have s1:=k1.size;have s2:=k2.size;have jF:=(k1.tt k2).tt k3;have B0:lH w3 (· =q) c m FR r x k (fh root):=⟨C.same k3,R,fun j hj=>by
  have gH:w2.heap.size<=j:=by rcases hj with rfl|rfl;exact hr;exact hx
  exact⟨fun e=>by have:=C.low j (.inl e);omega,fun e=>by have:=C.low j (.inr e);omega⟩,fun j hj e=>by have:=hFR j hj;have:=C.low j (.inl e);omega⟩
 refine aC.iB (I:=fun s v=>∃(i:Nat) (F:Nat->Prop) (m:CM) (FR:Nat->Prop),s=(none,none,false,false,(i:Int))/\i<=n/\lH v F c m FR r x k ((l.take i).foldl (fun G s=>eZ k G s.id s.ps) (fh root))/\Kept Nil w v/\∀j,m.own c j\/F j\/FR j\/j=r\/j=x->w.heap.size<=j) (μ:=fun s _=>((n:Int)-s.2.2.2.2).toNat) (s:=(none,none,false,false,0)) ⟨0,(· =q),m,FR,rfl,Nat.zero_le _,B0,jF,fun j e=>by
  rcases e with e|e|e|e|e
  ·have:=hm j e;omega
  ·have e:j=q:=e;omega
  ·have:=hFR j e;omega
  ·omega
  ·omega⟩ ?_
 clear B0 hFR hm C R hq k2 k3;rintro s v ⟨i,F,m,FR,rfl,hi,B,kv,C1⟩;unfold aC.B2;refine Split.dec (fun di=>?_) (fun gH=>?_)
 ·simp only at di
  have dX:i<n:=by omega
  obtain⟨nd,gQ⟩:∃nd,l[i]? =some nd:=⟨_,List.getElem?_eq_getElem (by omega)⟩;have uG:l[((i:Nat):Int).toNat]? =some nd:=by rw [Int.toNat_natCast];exact gQ
  have rQ:=sD nd (List.mem_of_getElem? gQ);have Nh:=Dj (k:=k) (G:=fh root) gQ;have YE:=tF k (l.take i) (fh root);rw [List.length_take]at YE;have hD1:(fh root).D.length=1:=rfl;generalize hG:(l.take i).foldl (fun G s=>eZ k G s.id s.ps) (fh root)=G at B Nh YE;have hTl:=hT.lt;have oO:=B.low;have sv:=kv.size;have j2:∀ {u:World} {F' Y3:Nat->Prop} {m':CM},lH u F' c m' Y3 r x k (eZ k G nd.id nd.ps)->Kept Nil w u->(∀j,m'.own c j\/F' j\/Y3 j\/j=r\/j=x->w.heap.size<=j)->
   aC.J2 A n cx none none false false (some ⟨c,0,none⟩) (some ⟨r,0,none⟩) (i:Int) (dU G.D nd.id nd.ps) (dU G.D nd.id nd.ps) (bW (aC.e2 A n cx (some ⟨c,0,none⟩) (some ⟨r,0,none⟩)) (fun s v=>∃(i:Nat) (F:Nat->Prop) (m:CM) (FR:Nat->Prop),s=(none,none,false,false,(i:Int))/\i<=n/\lH v F c m FR r x k ((l.take i).foldl (fun G s=>eZ k G s.id s.ps) (fh root))/\Kept Nil w v/\∀j,m.own c j\/F j\/FR j\/j=r\/j=x->w.heap.size<=j) (fun s _=>((n:Int)-s.2.2.2.2).toNat) (none,none,false,false,(i:Int)) v (aC.q2 K)) u:=by
   intro u F' Y3 m' B' ku abQ;unfold aC.J2;refine Split.no (by simp) ?_;rw [dF (n:=(i:Int)) (by omega) (by omega)];refine⟨(none,none,false,false,(i:Int)+1),rfl,⟨i+1,F',m',Y3,rfl,dX,?_,ku,abQ⟩,by simp only;omega⟩;rw [Nh];exact B'
  have j1:∀ {u u0:World} {F':Nat->Prop} {m':CM},CV u0 F' c k (eZ k G nd.id nd.ps) m'->Kept (m.own c) v u0->(∀j,m'.own c j->m.own c j\/v.heap.size<=j)->(∀j,F' j->F j\/v.heap.size<=j)->Kept Nil u0 u->
   aC.J1 A n cx none none false false (some ⟨c,0,none⟩) (some ⟨r,0,none⟩) (i:Int) (dU G.D nd.id nd.ps) (bW (aC.e2 A n cx (some ⟨c,0,none⟩) (some ⟨r,0,none⟩)) (fun s v=>∃(i:Nat) (F:Nat->Prop) (m:CM) (FR:Nat->Prop),s=(none,none,false,false,(i:Int))/\i<=n/\lH v F c m FR r x k ((l.take i).foldl (fun G s=>eZ k G s.id s.ps) (fh root))/\Kept Nil w v/\∀j,m.own c j\/F j\/FR j\/j=r\/j=x->w.heap.size<=j) (fun s _=>((n:Int)-s.2.2.2.2).toNat) (none,none,false,false,(i:Int)) v (aC.q2 K)) u:=by
   intro u u0 F' m' hC k0 ns Jh ku;unfold aC.J1;have ZK:Kept Nil w u0:=kv.trans k0 (fun j hj e=>by have:=C1 j (.inl e);omega);have RA:Kept Nil w u:=ZK.tt ku;have suv:=k0.size;have suu:=ku.size;intro u1;have F9:Kept Nil u u1:=(Kept.refl _ _).drew;clear_value u1;have F6:=RA.tt F9;have s11:=F9.size;have TT:∀ {t:World},Kept Nil w t->Cells t (((A.get!).add (((i:Nat):Int).toNat*33)).add 0) nd.id.1:=by
    intro t kt;obtain⟨a,pA,pn,pc,rfl,_,_,h4,_,_⟩:=(hl.aK kt (fun _ _ h=>h)).at_ i nd gQ;intro j z hj;rw [add_zero,Int.toNat_natCast];exact h4 j z (vw hj)
   have ps1:∃a pA pn pc,A=some a/\HS w pA pn nd.ps/\∀ {t:World},Kept Nil w t->t.cell? ((a.add (((i:Nat):Int).toNat*33)).add 32)=some (.slice pA pn pc):=by
    obtain⟨a,pA,pn,pc,rfl,_,_,h4,h5,_⟩:=hl.at_ i nd gQ;exact⟨a,pA,pn,pc,rfl,h5,fun kt=>by rw [Int.toNat_natCast];exact kt.cell (h4 32 _ (qy _ _)) (fun h=>h)⟩
   obtain⟨a,pA,pn,pc,rfl,CU,rR⟩:=ps1;have Lu:=CU.len;have hb:0<=(i:Int)/\(i:Int)<(n:Int):=⟨by omega,by omega⟩;refine⟨hb,Is.mk rfl ⟨nd.id.1,⟨nd.id.2.1,TT F6⟩,hb,Is.mk rfl ⟨pA,pn,pc,rR F6,?_,?_⟩⟩⟩
   ·obtain⟨hR,QQ⟩:=B.after k0 ns Jh hC (ku.tt F9)
    refine vt hR (by omega) (by omega) (CU.same F6) (by omega) nd.id fun t A2 n2 p2 E2 e2 q2 hRt kt Yh nH acF=>⟨_,_,rfl,?_⟩;have B':=QQ t hRt kt;have st:=kt.size;intro t1;have kt1:Kept Nil t t1:=(Kept.refl _ _).alloc _;have Na:t1.heap[t.heap.size]? =some (.cells zC bL (0,0)):=aM t _;clear_value t1;obtain⟨z1,z2,z3⟩:=gv Na (cs:=dp (ql k G nd.id nd.ps) A2 n2 p2 E2 e2 q2) (by rw [bJ];rfl);refine⟨⟨bJ ..,fF _ _ _ _ _ _ _,fun j hj=>z1 j (by rw [bJ];exact hj)⟩,?_⟩;have kt2:Kept Nil t (setCells t1 ⟨t.heap.size,0,none⟩ (dp (ql k G nd.id nd.ps) A2 n2 p2 E2 e2 q2).toList 0):=kt1.trans z3 (fun j hj e=>by omega);refine aC.qV (j2 (B'.same kt2) (F6.trans (kt.trans kt2 (fun _ _ h=>h.elim)) (fun j hj e=>by have:=C1 j (.inr (.inr (.inr e)));omega)) fun j e=>?_);rcases e with e|e|(e|e)|e
    ·rcases ns j e with e|e
     ·exact C1 j (.inl e)
     ·omega
    ·rcases Jh j e with e|e
     ·exact C1 j (.inr (.inl e))
     ·omega
    ·exact C1 j (.inr (.inr (.inl e)))
    ·omega
    ·exact C1 j (.inr (.inr (.inr e)))
   ·intro u2
    have JW:Kept Nil u1 u2:=(Kept.refl _ _).alloc _;have Lk:u2.heap[u1.heap.size]? =some (.cells zC bL (0,0)):=aM u1 _;clear_value u2;have KW:=F6.tt JW;have s22:=JW.size;refine⟨rR KW,⟨_,rfl,nd.id.2.1,TT KW⟩,?_⟩;obtain⟨hR,QQ⟩:=B.after k0 ns Jh hC ((ku.tt F9).tt JW);refine vt hR (by omega) (by omega) (CU.same KW) (by omega) nd.id fun t A2 n2 p2 E2 e2 q2 hRt kt Yh nH acF=>⟨_,_,rfl,?_⟩;have B':=QQ t hRt kt;have st:=kt.size;have nrx:∀j,v.heap.size<=j->¬(j=r\/j=x):=fun j hj e=>by have:=oO j (.inr (.inr (.inr e)));omega
    have hxt:=kt.heap Lk (nrx _ (by omega));obtain⟨z1,z2,z3⟩:=gv hxt (cs:=dp (ql k G nd.id nd.ps) A2 n2 p2 E2 e2 q2) (by rw [bJ];rfl);refine⟨⟨bJ ..,fF _ _ _ _ _ _ _,fun j hj=>z1 j (by rw [bJ];exact hj)⟩,?_⟩;have lo0:∀j,m'.own c j\/F' j->j<u1.heap.size:=fun j e=>by have:=hC.low j e;omega
    have B2:lH (setCells t ⟨u1.heap.size,0,none⟩ (dp (ql k G nd.id nd.ps) A2 n2 p2 E2 e2 q2).toList 0) F' c m' (fun j=>FR j\/(u2.heap.size<=j/\j<t.heap.size)) r x k (eZ k G nd.id nd.ps):=B'.aK z3 (fun j e e'=>by
     have l1:=bf Lk;rcases e with e|e|(e|e)|e
     ·have:=lo0 j (.inl e);omega
     ·have:=lo0 j (.inr e);omega
     ·have:=B.R.lo j e;omega
     ·omega
     ·have:=oO j (.inr (.inr (.inr e)));omega)
    have kut:Kept (fun j=>j=r\/j=x) u t:=((F9.tt JW).mono fun _ _ h=>h.elim).tt kt;have ahL:Kept (fun j=>j=r\/j=x) u _:=kut.trans z3 (fun j hj e=>by omega);refine aC.qV (j2 B2 ((KW.trans kt (fun j hj e=>by have:=C1 j (.inr (.inr (.inr e)));omega)).trans z3 (fun j hj e=>by have:=F6.size;omega)) fun j e=>?_)
    ·rcases e with e|e|(e|e)|e
     ·rcases ns j e with e|e
      ·exact C1 j (.inl e)
      ·omega
     ·rcases Jh j e with e|e
      ·exact C1 j (.inr (.inl e))
      ·omega
     ·exact C1 j (.inr (.inr (.inl e)))
     ·omega
     ·exact C1 j (.inr (.inr (.inr e)))
  intro w2;have k2:Kept Nil v w2:=(Kept.refl _ _).drew;clear_value w2;have Tk:=kv.tt k2;have sv2:=k2.size;have TT:∀ {t:World},Kept Nil w t->Cells t ((A.get!.add (((i:Nat):Int).toNat*33)).add 0) nd.id.1:=by
   intro t kt;obtain⟨a,pA,pn,pc,rfl,_,_,h4,_,_⟩:=(hl.aK kt (fun _ _ h=>h)).at_ i nd gQ;intro j z hj;rw [add_zero,Int.toNat_natCast];exact h4 j z (vw hj)
  obtain⟨a,pA,pn,pc,hA,CU,rR⟩:∃a pA pn pc,A=some a/\HS w pA pn nd.ps/\∀ {t:World},Kept Nil w t->t.cell? ((a.add (((i:Nat):Int).toNat*33)).add 32)=some (.slice pA pn pc):=by
   obtain⟨a,pA,pn,pc,hA,_,_,h4,h5,_⟩:=hl.at_ i nd gQ;exact⟨a,pA,pn,pc,hA,h5,fun kt=>by rw [Int.toNat_natCast];exact kt.cell (h4 32 _ (qy _ _)) (fun h=>h)⟩
  subst hA;have Lu:=CU.len;have hb:0<=(i:Int)/\(i:Int)<(n:Int):=⟨by omega,by omega⟩;have Km:¬m.SX (Tryz.kF.g 1):=fun e=>by have:=C1 _ (.inl (.inl e));omega
  refine⟨hb,Is.mk rfl ⟨nd.id.1,⟨nd.id.2.1,TT Tk⟩,hb,Is.mk rfl ⟨pA,pn,pc,rR Tk,?_,?_⟩⟩⟩
  ·refine oR (B.C.same k2) (hT.same Tk) Km (by omega) (by omega) (CU.same Tk) (by omega) nd.id fun u F' m' A1 n1 p1 E1 e1 q1 hC _ ku ns Jh rA rE _ _=>⟨_,_,rfl,?_⟩
   intro u1;have F9:Kept Nil u u1:=(Kept.refl _ _).alloc _;have Na:u1.heap[u.heap.size]? =some (.cells zC bL (0,0)):=aM u _;clear_value u1;obtain⟨z1,z2,z3⟩:=gv Na (cs:=dp (ql k G nd.id nd.ps) A1 n1 p1 E1 e1 q1) (by rw [bJ];rfl);refine⟨⟨bJ ..,fF _ _ _ _ _ _ _,fun j hj=>z1 j (by rw [bJ];exact hj)⟩,?_⟩;have JW:Kept Nil u (setCells u1 ⟨u.heap.size,0,none⟩ (dp (ql k G nd.id nd.ps) A1 n1 p1 E1 e1 q1).toList 0):=F9.trans z3 (fun j hj e=>by omega);have su:=ku.size;refine aC.kW (j1 hC ((k2.mono fun _ _ h=>h.elim).tt ku) (fun j e=>(ns j e).imp (fun h=>h) (fun h=>by omega)) (fun j e=>(Jh j e).imp (fun h=>h) (fun h=>by omega)) JW)
  ·intro w3
   have k3:Kept Nil w2 w3:=(Kept.refl _ _).alloc _;have BR:w3.heap[w2.heap.size]? =some (.cells zC bL (0,0)):=aM w2 _;clear_value w3;have MP:=Tk.tt k3;have s23:=k3.size;have l3:=bf BR;refine⟨rR MP,⟨_,rfl,nd.id.2.1,TT MP⟩,?_⟩;refine oR (B.C.same (k2.tt k3)) (hT.same MP) Km (by omega) (by omega) (CU.same MP) (by omega) nd.id fun u F' m' A1 n1 p1 E1 e1 q1 hC _ ku ns Jh rA rE _ _=>⟨_,_,rfl,?_⟩;have su:=ku.size;have hxu:=ku.heap BR (fun e=>by have:=oO _ (.inl e);omega);obtain⟨z1,z2,z3⟩:=gv hxu (cs:=dp (ql k G nd.id nd.ps) A1 n1 p1 E1 e1 q1) (by rw [bJ];rfl);refine⟨⟨bJ ..,fF _ _ _ _ _ _ _,fun j hj=>z1 j (by rw [bJ];exact hj)⟩,?_⟩;have no1:∀j,m'.own c j->j≠w2.heap.size:=fun j e e'=>by
    rcases ns j e with e|e
    ·have:=oO j (.inl e);omega
    ·omega
   have no2:∀j,F' j->j≠w2.heap.size:=fun j e e'=>by
    rcases Jh j e with e|e
    ·have:=oO j (.inr (.inl e));omega
    ·omega
   refine aC.kW (j1 (hC.aK z3 no1 no2) ((((k2.tt k3).mono fun _ _ h=>h.elim).tt ku).trans z3 (fun j hj e=>by omega)) (fun j e=>(ns j e).imp (fun h=>h) (fun h=>by omega)) (fun j e=>(Jh j e).imp (fun h=>h) (fun h=>by omega)) (Kept.refl _ _))
 ·simp only at gH
  have:i=n:=by omega
  subst this;rw [aU,aC.ki];rw [List.take_of_length_le (by omega)]at B;exact hK v F c m FR r x k rfl hk6 ⟨cY,by omega⟩ B kv C1
end
open Go.ChangeAt Go.ChangeShapes Go.WideShapes
theorem W3:prog.underlying iu=some (.int .i64):=by kernel_rfl
theorem W1:prog.underlying gF=some (.int .u64):=by kernel_rfl
theorem adi:prog.cellsOf iu=1:=by kernel_rfl
theorem adg:prog.cellsOf gF=1:=by kernel_rfl
def OX:Array Field:= #[⟨"K",iu,0,false,"","",0⟩,⟨"MaxParents",iu,1,false,"","",8⟩,⟨"MaxMerge",iu,2,false,"","",16⟩,⟨"Finality",iu,3,false,"","",24⟩,⟨"Pruning",iu,4,false,"","",32⟩,⟨"Maturity",iu,5,false,"","",40⟩,⟨"Subsidy",gF,6,false,"","",48⟩,⟨"Orphans",iu,7,false,"","",56⟩,⟨"Pool",iu,8,false,"","",64⟩,⟨"Genesis",al,9,false,"","",72⟩]
theorem Of:prog.underlying eM=some (.struct OX):=by kernel_rfl
theorem adh:prog.cellsOf eM=41:=by kernel_rfl
section
variable{H:Type}{enc:TypeId×Value->H}{w:World}{base:Nat}{sp:Nat->Bool}{held:Bool}{fuel:Nat}{cs:List Value}{x:DataW H×List MemPlace}
theorem OW(h:DataW.trod enc prog w base sp held fuel eM cs=some x):∃p:PP,cs.toArray=p.cells:=by
 obtain⟨xs,n,_,_,hl,uf,cY⟩:=DataW.trod_struct Of h;rw [adh]at hl;have hx:∀i,i<10->∃y,xs[i]? =some y:=fun i hi=>⟨xs[i]'(by rw [uf];exact hi),by simp⟩;have gi:∀i (f:Field),OX[i]? =some f->f.type=iu->∃z,(cs.drop f.offset).take 1= [.int .i64 z]:=fun i f hf ht=>by
  obtain⟨y,hy⟩:=hx i (Array.getElem?_eq_some_iff.1 hf).1;have:=cY i f hf;rw [ht,adi,hy]at this;obtain⟨z,hz,_⟩:=DataW.trod_int W3 this;exact⟨z,hz⟩
 obtain⟨a0,e0⟩:=gi 0 _ rfl rfl;obtain⟨a1,e1⟩:=gi 1 _ rfl rfl;obtain⟨a2,e2⟩:=gi 2 _ rfl rfl;obtain⟨a3,e3⟩:=gi 3 _ rfl rfl;obtain⟨a4,e4⟩:=gi 4 _ rfl rfl;obtain⟨a5,e5⟩:=gi 5 _ rfl rfl;obtain⟨a7,e7⟩:=gi 7 _ rfl rfl;obtain⟨a8,e8⟩:=gi 8 _ rfl rfl;obtain⟨a6,e6⟩:∃z,(cs.drop 6).take 1= [.int .u64 z]:=by
  obtain⟨y,hy⟩:=hx 6 (by decide);have:DataW.trod enc prog w base sp held n gF ((cs.drop 6).take (prog.cellsOf gF))=xs[6]? :=cY 6 _ rfl;rw [adg,hy]at this;obtain⟨z,hz,_⟩:=DataW.trod_int W1 this;exact⟨z,hz⟩
 obtain⟨y9,hy9⟩:=hx 9 (by decide);have e9:DataW.trod enc prog w base sp held n al ((cs.drop 9).take (prog.cellsOf al))=xs[9]? :=cY 9 _ rfl;rw [Mg,hy9]at e9;have hh:=yT e9;have ec:cs=(cs.drop 0).take 1++((cs.drop 1).take 1++((cs.drop 2).take 1++((cs.drop 3).take 1++((cs.drop 4).take 1++((cs.drop 5).take 1++((cs.drop 6).take 1++((cs.drop 7).take 1++((cs.drop 8).take 1++(cs.drop 9).take 32)))))))):=by
  have step:∀k,cs.drop k=(cs.drop k).take 1++cs.drop (k+1):=fun k=>by
   conv=>lhs;rw [<-List.take_append_drop 1 (cs.drop k)]
   rw [List.drop_drop]
  have t9:(cs.drop 9).take 32=cs.drop 9:=List.take_of_length_le (by rw [List.length_drop];omega);rw [t9]
  conv=>lhs;rw [<-List.drop_zero (l:=cs),step 0,step 1,step 2,step 3,step 4,step 5,step 6,step 7,step 8]
 refine⟨⟨a0,a1,a2,a3,a4,a5,a6,a7,a8,⟨_,hh⟩⟩,?_⟩;have f0:(cs.drop 0).take 1= [.int .i64 a0]:=e0;have f1:(cs.drop 1).take 1= [.int .i64 a1]:=e1;have f2:(cs.drop 2).take 1= [.int .i64 a2]:=e2;have f3:(cs.drop 3).take 1= [.int .i64 a3]:=e3;have f4:(cs.drop 4).take 1= [.int .i64 a4]:=e4;have f5:(cs.drop 5).take 1= [.int .i64 a5]:=e5;have f7:(cs.drop 7).take 1= [.int .i64 a7]:=e7;have f8:(cs.drop 8).take 1= [.int .i64 a8]:=e8;rw [f0,f1,f2,f3,f4,f5,e6,f7,f8]at ec;unfold PP.cells
 conv=>lhs;rw [ec]
 simp
end
section
variable{H:Type}{enc:TypeId×Value->H}{w:World}{base:Nat}{sp:Nat->Bool}{held:Bool}{d:DataW H}{p:List MemPlace}{v:Value}
set_option maxRecDepth 100000 in
theorem DE{t:TypeId}(et:t=eM)(hv:Value.okWide prog w .any base t v)(h:∃fuel,DataW.trod enc prog w 0 sp held fuel t v.cells.toList=some (d,p)):∃q:PP,v=.agg q.cells:=by
 have ht:prog.underlying t=some (.struct OX):=by rw [et];exact Of
 simp only [Value.okWide,ht]at hv;subst et;obtain⟨cs,rfl,h2⟩:=hv;obtain⟨fuel,h⟩:=h;obtain⟨q,hq⟩:=OW h;exact⟨q,by rw [<-hq];simp [Value.cells]⟩
end
end Go.Proofs.YtfleamccglihoaaGreatDoor
namespace Go.Proofs.YtfleamccglihoaaGreatDoor
open Go.Proofs.Tryz
open Go Go.b0 Go.RowKit
section
variable{w:World}{FP:Nat->Prop}{K:Value->World->Prop}
set_option maxHeartbeats 1000000 in
theorem y7{A B:Option Addr}{n cx nb cb:Nat}{l:List DN}{lp:List HT}(hl:NS w FP A n l)(hn:n<9223372036854775808)(p:PP)(root:HT)(hb:HS w B nb lp)(hT:sS w)(hK:∀w',Kept Nil w w'->K (.bool true) w'):
 bG prog eB.id #[.agg p.cells,.agg root.1,.slice A n cx,.slice B nb cb] w K:=by
 have hlen:=hl.len;refine eB.of ?_;unfold eB.W;intro w1 w2;have k1:Kept Nil w w1:=(Kept.refl _ _).alloc _;have Lw:w1.heap[w.heap.size]? =some (.cells p.cells eM (0,0)):=aM w _;have k2:Kept Nil w1 w2:=(Kept.refl _ _).alloc _;have jY:w2.heap[w1.heap.size]? =some (.cells root.1 al (0,0)):=aM w1 _;have EC:=k2.heap Lw (fun h=>h);clear_value w2;have mu:=k1.tt k2;have kn:∀ {v:World},Kept Nil w v->bG prog iL.id #[] v fun v3 w_4=>∃t:Bool,v3=.bool t/\K (.bool t) w_4:=fun k=>CB (hT.same k) fun w4 k4=>⟨true,rfl,hK w4 (k.tt k4)⟩;refine⟨p.K,by rw [bE,aE EC];exact p.Md,root.1,⟨root.2.1,Cells.bV jY⟩,?_⟩;refine DD (hl.same mu) hn p.K root (hT.same mu) (fun v kv=>⟨_,_,false,true,rfl,Split.yes rfl (Split.yes rfl (kn (mu.tt kv)))⟩) fun w3 F c m FR r x k hk hk6 abU B3 k3 _=>⟨_,_,true,true,rfl,Split.no rfl (Split.no rfl ?_)⟩;have YE:=Dz k root l;have hf2:=abU.2;generalize DA k root l=G at B3 YE;have jF:=mu.tt k3;have Yf:=k3.heap EC (fun h=>h);refine Split.dec (fun _=>Split.yes rfl (kn jF)) (fun hle=>?_);refine⟨p.cells,⟨p.size,Cells.bV Yf⟩,?_⟩;refine ml B3.C (hT.same jF) (by omega) (by omega) p (uQ _) (hb.same jF) (by omega) fun w4 A4 n4 c4 IG k4=>⟨A4,n4,c4,_,rfl,?_⟩;refine⟨p.cells,⟨p.size,Cells.bV (k4.heap Yf (fun h=>h))⟩,?_⟩;have mh:=jF.tt k4;refine uC (B3.same k4).R (by omega) (by omega) p (uQ _) (hb.same mh) (by omega) fun w5 A5 n5 c5 X8 k5=>⟨A5,n5,c5,_,rfl,Split.yes (by simp) ?_⟩;have nC:=mh.tt k5;have hlb:=hb.len;have vS:(fW p G lp).1.length<=1000:=Be (by omega);have e4:=IG.len;refine xL (IG.same k5) X8 (by omega) fun w6 k6=>⟨_,rfl,Split.yes (by rw [decide_eq_true rfl]) ?_⟩
 exact kn (nC.tt k6)
end
end Go.Proofs.YtfleamccglihoaaGreatDoor
