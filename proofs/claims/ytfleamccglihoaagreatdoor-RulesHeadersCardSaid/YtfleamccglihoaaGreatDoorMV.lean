import Derived.Test.YtfleamccglihoaaGreatDoorMU
import Derived.Test.YtfleamccglihoaaGreatDoorMJ
import Derived.Test.YtfleamccglihoaaGreatDoorMT
import Derived.Test.YtfleamccglihoaaGreatDoorMI
import Derived.Test.YtfleamccglihoaaGreatDoorMG
import Derived.Test.YtfleamccglihoaaGreatDoorMN
import Derived.Test.YtfleamccglihoaaGreatDoorMK
open Go.IntKind (i64 u64)
set_option linter.unusedVariables false
namespace Go.Proofs.YtfleamccglihoaaGreatDoor
open Go.Proofs.Tryz
open Go Go.b0 Go.RowKit
def adg(l:List DN)(Zx:Nat):Prop:=(∀nd∈l,nd.ps.length<=6)/\l.length<=Zx
noncomputable def qm(k:Nat)(G:GS)(id:HT)(l:List HT):pz:=if dT G.D id l=0 then dr k G (bQ G l) l else⟨fG,0,[],[]⟩
noncomputable def Dy(k:Nat)(root:HT)(l:List DN):GS:=l.foldl (fun G s=>eW k G s.id s.ps) (fg root)
theorem JH(k:Nat)(G:GS)(h:HT)(l:List HT):(eW k G h l).D.length<=G.D.length+1:=by
 rw [tL];unfold mB;split<;>simp
theorem tF(k:Nat):∀(l:List DN) (G:GS),(l.foldl (fun G s=>eW k G s.id s.ps) G).D.length<=G.D.length+l.length
 | [],_=>by simp
 |s::l,G=>by
  have h1:=tF k l (eW k G s.id s.ps);have h2:=JH k G s.id s.ps;rw [List.foldl_cons,List.length_cons];omega
theorem Dx(k:Nat)(root:HT)(l:List DN):(Dy k root l).D.length<=1+l.length:=tF k l (fg root)
theorem Dh{k:Nat}{G:GS}{l:List DN}{i:Nat}{s:DN}(h:l[i]? =some s):(l.take (i+1)).foldl (fun G s=>eW k G s.id s.ps) G=eW k ((l.take i).foldl (fun G s=>eW k G s.id s.ps) G) s.id s.ps:=by
 rw [List.take_add_one,h];simp
section
variable{w w' v:World}{S F FP FR:Nat->Prop}{c r x k:Nat}{G:GS}{m:CM}{K:Value->World->Prop}
theorem oQ(h:CV w F c k G m)(hT:sS w)(Kk:¬m.SX (Tryz.kF.g 1))(hD:G.D.length<=49)(o5:k<=1000){A:Option Addr}{n cx:Nat}{l:List HT}(CX:HS w A n l)(hn:n<=5000)(id:HT)
 (hK:∀w' F' m' A n c1 B e c2,CV w' F' c k (eW k G id l) m'->m'.x=m.x->Kept (m.own c) w w'->(∀j,m'.own c j->m.own c j\/w.heap.size<=j)->(∀j,F' j->F j\/w.heap.size<=j)->
   cr w' w.heap.size A n c1 (qm k G id l).merge->Row w' w.heap.size ju 1 B e c2 (tH (qm k G id l).gm)->(∀j,bH A=some j->bH B≠some j)->(∀j,bH A=some j\/bH B=some j->¬m'.own c j/\¬F' j)->
   K (.tuple #[.agg (dp (qm k G id l) A n c1 B e c2),.int .i64 (dT G.D id l)]) w'):
 bE prog dS.id #[.pointer (some ⟨c,0,none⟩),.agg id.1,.slice A n cx] w K:=by
 refine GD h hT Kk hD o5 CX hn id (fun he w' k'=>?_) (fun he w' F' m' A n c1 B e c2 h1 h2 h3 h4 h5 h6 h7 h8 h9=>?_)
 ·have e1:qm k G id l=⟨fG,0,[],[]⟩:=if_neg he
  have:=hK w' F m none 0 0 none 0 0 (by rw [uY he];exact h.same k') rfl (k'.mono fun _ _ h=>h.elim) (fun j h=>.inl h) (fun j h=>.inl h) (by rw [e1];exact cr.nil _ _) (by rw [e1];exact Row.nil _ _ _ _) (fun j hj=>(by cases hj)) (fun j hj=>by rcases hj with hj|hj<;>cases hj);rw [e1]at this;exact this
 ·have e1:qm k G id l=dr k G (bQ G l) l:=if_pos he
  have:=hK w' F' m' A n c1 B e c2 h1 h2 h3 h4 h5 (by rw [e1];exact h6) (by rw [e1];exact h7) h8 h9;rw [e1,he]at this;exact this
theorem vr(h:R3 w F r x k G)(hD:G.D.length<=300)(o5:k<=1000){A:Option Addr}{n cx:Nat}{l:List HT}(hl:HS w A n l)(hn:n<=5000)(id:HT)
 (hK:∀w' A n c B e ce,R3 w' (fun j=>F j\/(w.heap.size<=j/\j<w'.heap.size)) r x k (eW k G id l)->Kept (fun j=>j=r\/j=x) w w'->HS w' A n (qm k G id l).merge->Bo w' B e (qm k G id l).gm->(∀a,A=some a\/B=some a->w.heap.size<=a.block)->K (.tuple #[.agg (dp (qm k G id l) A n c B e ce),.int .i64 (dT G.D id l)]) w'):
 bE prog dR.id #[.pointer (some ⟨r,0,none⟩),.agg id.1,.slice A n cx] w K:=by
 have Yd:=h.lt;have Nv:=h.lx;refine yL h hD o5 hl hn id (fun he w' k'=>?_) (fun he w' A n c B e ce h1 h2 h3 h4 h5=>?_)
 ·have e1:qm k G id l=⟨fG,0,[],[]⟩:=if_neg he
  have h':=h.same k';have hs:=k'.size;obtain⟨A1,c1,B1,e1',g1,g2,g3⟩:=h'.top;have:=hK w' none 0 0 none 0 0 (by
   rw [uY he];exact⟨⟨A1,c1,B1,e1',g1,g2.mono (fun j hj=>.inl hj),g3.mono (fun j hj=>.inl hj)⟩,h'.X.mono (fun j hj=>.inl hj) (fun e=>e.elim h.X.iV (fun e=>by omega)),fun e=>e.elim h.iV (fun e=>by omega),h.ne,h.iA,fun j e=>e.elim (h'.lo j) (fun e=>e.2)⟩) (k'.mono fun _ _ h=>h.elim) (by rw [e1];exact HS.nil _ _) (by rw [e1];exact⟨rfl,fun i b hi=>by simp at hi⟩) (fun a ha=>by rcases ha with ha|ha<;>cases ha)
  rw [e1]at this;exact this
 ·have e1:qm k G id l=dr k G (bQ G l) l:=if_pos he
  have:=hK w' A n c B e ce h1 h2 (by rw [e1];exact h3) (by rw [e1];exact h4) h5;rw [e1,he]at this;exact this
structure lG(w:World)(F:Nat->Prop)(c:Nat)(m:CM)(FR:Nat->Prop)(r x k:Nat)(G:GS):Prop where
 C:CV w F c k G m
 R:R3 w FR r x k G
 rS:∀j,j=r\/j=x->¬m.own c j/\¬F j
 fS:∀j,FR j->¬m.own c j
theorem lG.aK{S0:Nat->Prop}(B:lG w F c m FR r x k G)(hk:Kept S0 w w')(h1:∀j,m.own c j\/F j\/FR j\/j=r\/j=x->¬S0 j):lG w' F c m FR r x k G:=
 ⟨B.C.aK hk (fun j e=>h1 j (.inl e)) (fun j e=>h1 j (.inr (.inl e))),B.R.aK hk (h1 _ (.inr (.inr (.inr (.inl rfl))))) (h1 _ (.inr (.inr (.inr (.inr rfl))))) (fun j e=>h1 j (.inr (.inr (.inl e)))),B.rS,B.fS⟩
theorem lG.same(B:lG w F c m FR r x k G)(hk:Kept Nil w w'):lG w' F c m FR r x k G:=B.aK hk (fun _ _ h=>h)
theorem lG.low(B:lG w F c m FR r x k G):∀j,m.own c j\/F j\/FR j\/j=r\/j=x->j<w.heap.size:=fun j e=>by
 rcases e with e|e|e|e|e
 ·exact B.C.low j (.inl e)
 ·exact B.C.low j (.inr e)
 ·exact B.R.lo j e
 ·rw [e];exact B.R.lt
 ·rw [e];exact B.R.lx
theorem lG.after{F':Nat->Prop}{m':CM}{G':GS}(B:lG w F c m FR r x k G)(kv:Kept (m.own c) w v)(h1:∀j,m'.own c j->m.own c j\/w.heap.size<=j)(h2:∀j,F' j->F j\/w.heap.size<=j)(hC:CV v F' c k G' m'){u:World}(XB:Kept Nil v u):
 R3 u FR r x k G/\∀t,R3 t (fun j=>FR j\/(u.heap.size<=j/\j<t.heap.size)) r x k G'->Kept (fun j=>j=r\/j=x) u t->lG t F' c m' (fun j=>FR j\/(u.heap.size<=j/\j<t.heap.size)) r x k G':=by
 have hr:=B.R.lt;have hx:=B.R.lx;have nr:∀j,j=r\/j=x->¬m'.own c j/\¬F' j:=fun j hj=>by
  have di:j<w.heap.size:=by rcases hj with rfl|rfl;exact hr;exact hx
  refine⟨fun e=>?_,fun e=>?_⟩
  ·rcases h1 j e with e|e
   ·exact(B.rS j hj).1 e
   ·omega
  ·rcases h2 j e with e|e
   ·exact(B.rS j hj).2 e
   ·omega
 refine⟨(B.R.aK kv (fun e=>(B.rS r (.inl rfl)).1 e) (fun e=>(B.rS x (.inr rfl)).1 e) B.fS).same XB,fun t hR kt=>⟨?_,hR,nr,fun j hj e=>?_⟩⟩
 ·exact(hC.same XB).aK kt (fun j e e'=>(nr j e').1 e) (fun j e e'=>(nr j e').2 e)
 ·have oN:=hC.low j (.inl e)
  have:=XB.size;rcases hj with hj|hj
  ·rcases h1 j e with e|e
   ·exact B.fS j hj e
   ·have:=B.R.lo j hj;omega
  ·omega
end
section
variable{w w' v:World}{S F FP FR:Nat->Prop}{c r x k:Nat}{G:GS}{m:CM}{K:Value->World->Prop}
end
section
variable{k:Nat}{G:GS}{s:HT}
theorem AF(G:GS)(s:HT):cP G s [s]= []:=by
 rw [List.eq_nil_iff_forall_not_mem];intro h hm;obtain⟨h1,h2,h3⟩:=kO.1 hm;rcases h1 with⟨_,p,hp,ha⟩|h1
 ·rw [List.mem_singleton]at hp;subst hp;exact h3 ha
 ·rw [List.mem_singleton]at h1;exact h2 h1
variable{r a b c:HT}(PV:r≠a)(Gm:r≠b)(X0:r≠c)(nv:a≠b)(Yu:a≠c)(QI:b≠c)
end
section
variable{w w':World}{K:Value->World->Prop}
end
section
variable{w w' v:World}{F FP FR:Nat->Prop}{c r x k:Nat}{G:GS}{m:CM}{K:Value->World->Prop}
end
section
variable{w v:World}{F FP FR:Nat->Prop}{c r x k:Nat}{G:GS}{m:CM}{K:Value->World->Prop}{O:Option Addr}{on oc:Nat}{lo:List HT}{s:HT}{sb xb:Nat}{xv:Array Value}
end
section
variable{k:Nat}{G:GS}{h:HT}{ps:List HT}
end
structure Sub(G G':GS):Prop where
 D:∀nd∈G.D,nd∈G'.D
 W:kr G.D
 W':kr G'.D
 cw:∀y∈ids G.D,G.jZ y=G'.jZ y/\G.world y=G'.world y
section
variable{k:Nat}{G G':GS}{s:HT}{l:List HT}
end
section
variable{k:Nat}{G:GS}{h:HT}{l:List HT}
end
section
variable{k:Nat}{G:GS}{h:HT}{l:List HT}
end
section
variable{w w':World}{K:Value->World->Prop}{B n cx b:Nat}{A:Option Addr}{F:Nat->Prop}{c k:Nat}{G:GS}{m:CM}{l:List HT}
end
section
variable{w w' v:World}{K:Value->World->Prop}{B n cx b q:Nat}{A E:Option Addr}{F:Nat->Prop}{c k:Nat}{G:GS}{m:CM}{l:List HT}{C:pz}{cp e ce:Nat}
theorem wz(hx:v.heap[q]? =some (.cells (dp C A n cp E e ce) bK (0,0))):
 Cells v ((⟨q,0,none⟩:Addr).add 0) C.ns.1/\v.cell? ((⟨q,0,none⟩:Addr).add 32)=some (.int .u64 (C.score:Int))/\v.cell? ((⟨q,0,none⟩:Addr).add 33)=some (.slice A n cp)/\v.cell? ((⟨q,0,none⟩:Addr).add 34)=some (.slice E e ce):=by
 have g:=gR C A n cp E e ce #[];rw [Array.append_empty]at g;refine⟨fun j u hj=>?_,by rw [bD,aE hx];exact g.1,by rw [bD,aE hx];exact g.2.1,by rw [bD,aE hx];exact g.2.2.1⟩;have di:=(Array.getElem?_eq_some_iff.1 hj).1;rw [add_zero,bD,aE hx,Nat.zero_add];unfold dp;rw [Array.getElem?_append_left di];exact hj
theorem ES(u:World)(C:pz)(A:Option Addr)(n cp:Nat)(E:Option Addr)(e ce:Nat):
 ((dp C A n cp E e ce).size=35/\(∀x∈(dp C A n cp E e ce).toList,x.oneCell'=true)/\∀y,y<35->Wr (u.alloc (.cells zC bK)) ((aV u.heap.size).add y))/\
   (setCells (u.alloc (.cells zC bK)) ⟨u.heap.size,0,none⟩ (dp C A n cp E e ce).toList 0).heap[u.heap.size]? =some (.cells (dp C A n cp E e ce) bK (0,0))/\
   Kept Nil u (setCells (u.alloc (.cells zC bK)) ⟨u.heap.size,0,none⟩ (dp C A n cp E e ce).toList 0):=by
 have Lg:(u.alloc (.cells zC bK)).heap[u.heap.size]? =some (.cells zC bK (0,0)):=aM u _;obtain⟨t1,t2,t3⟩:=gu Lg (cs:=dp C A n cp E e ce) (by rw [bI];rfl);exact⟨⟨bI ..,fE _ _ _ _ _ _ _,fun j hj=>t1 j (by rw [bI];exact hj)⟩,t2,((Kept.refl _ _).alloc _).trans t3 (fun j hj e=>by omega)⟩
theorem vZ(u:World)(x:HT):(x.1.size=32/\(∀y∈x.1.toList,y.oneCell'=true)/\∀y,y<32->Wr (u.alloc (.cells zH al)) ((aV u.heap.size).add y))/\
 (setCells (u.alloc (.cells zH al)) ⟨u.heap.size,0,none⟩ x.1.toList 0).heap[u.heap.size]? =some (.cells x.1 al (0,0))/\Kept Nil u (setCells (u.alloc (.cells zH al)) ⟨u.heap.size,0,none⟩ x.1.toList 0):=by
 obtain⟨tA,kh,kH⟩:=iN (w:=u) (z:=zH) (cs:=x.1) (t:=al) (by rw [x.2.1];rfl);exact⟨⟨x.2.1,x.2.one,fun j hj=>tA j (by rw [x.2.1];exact hj)⟩,kh,kH⟩
end
section
variable{k:Nat}{G:GS}{ns:HT}
theorem stays{G':GS}(S:Sub G G')(H:lC k G){l:List HT}(hl:∀y∈l,y∈ids G.D)(h0:l≠ []):
 (∀y∈l,y∈ids G'.D)/\(∀a∈l,∀b∈l,(fH G'.D a b↔fH G.D a b))/\bQ G' l=bQ G l/\cP G' (bQ G' l) l=cP G (bQ G l) l:=by
 have Ez:=hl _ (jg (G:=G) h0);have es:=S.ns hl h0;refine⟨fun y hy=>S.ids (hl y hy),fun a _ b hb=>(S.EZ (hl b hb)).symm,es.symm,?_⟩;rw [<-es];exact(S.cP Ez hl).symm
end
section
variable{G:GS}{ns:HT}
end
structure PP where
 K:Int
 mp:Int
 mm:Int
 fin:Int
 Cr:Int
 MH:Int
 sub:Int
 MF:Int
 Al:Int
 gen:HT
def PP.cells(p:PP):Array Value:= #[.int .i64 p.K,.int .i64 p.mp,.int .i64 p.mm,.int .i64 p.fin,.int .i64 p.Cr,.int .i64 p.MH,.int .u64 p.sub,.int .i64 p.MF,.int .i64 p.Al]++p.gen.1
def PP.ok(p:PP):Prop:=(0<=p.K/\p.K<=100)/\(1<=p.mp/\p.mp<=20)/\(1<=p.mm/\p.mm<=1000)/\(0<=p.fin/\p.fin<=2147483647)/\(0<=p.Cr/\p.Cr<=2147483647)/\(0<=p.MH/\p.MH<=2147483647)/\(0<=p.MF/\p.MF<=100000)/\(0<=p.Al/\p.Al<=100000)/\p.sub<=1099511627776/\(p.Cr=0\/(0<p.fin/\p.fin<p.Cr/\p.mm<p.Cr))
noncomputable instance(p:PP):Decidable p.ok:=Classical.propDecidable _
noncomputable def dN(D:DG)(l:List HT):List HT:=l.filter fun x=>decide (x∉ids D)
theorem xR{D:DG}{l:List HT}{x:HT}:x∈dN D l↔x∈l/\x∉ids D:=by unfold dN;simp
theorem qC{D:DG}{l:List HT}:dN D l= []↔∀x∈l,x∈ids D:=by
 rw [List.eq_nil_iff_forall_not_mem];constructor
 ·intro h x hx
  exact Classical.byContradiction fun e=>h x (xR.2 ⟨hx,e⟩)
 ·intro h x hx
  obtain⟨h1,h2⟩:=xR.1 hx;exact h2 (h x h1)
def sT(D:DG)(l:List HT):Prop:=∃a∈l,∃b∈l,fH D a b
open Classical in
noncomputable def fV(p:PP)(G:GS)(l:List HT):List HT×Int:=
 if ¬p.ok then([],2)
 else if(l.length<1\/p.mp<(l.length:Int))\/dB l≠l then([],9)
 else if dN G.D l≠ []then(dN G.D l,15)
 else if sT G.D l then([],9)
 else if p.mm<((cP G (bQ G l) l).length:Int)then([],10)
 else([],0)
section
variable{k:Nat}{G G':GS}{l:List HT}{p:PP}
theorem Bf(hl:l.length<=1000):(fV p G l).1.length<=1000:=by
 have:(dN G.D l).length<=l.length:=List.length_filter_le _ _;unfold fV
 repeat' split
 all_goals first|(simp only [List.length_nil];omega)|(simp only;omega)
end
theorem PP.size(p:PP):p.cells.size=41:=by unfold PP.cells;rw [Array.size_append,p.gen.2.1];rfl
theorem PP.Ma(p:PP):p.cells[0]? =some (.int .i64 p.K):=by unfold PP.cells;rw [Array.getElem?_append_left (by show 0<9;omega)];rfl
theorem PP.Jn(p:PP):p.cells[1]? =some (.int .i64 p.mp):=by unfold PP.cells;rw [Array.getElem?_append_left (by show 1<9;omega)];rfl
theorem PP.Df(p:PP):p.cells[2]? =some (.int .i64 p.mm):=by unfold PP.cells;rw [Array.getElem?_append_left (by show 2<9;omega)];rfl
theorem PP.De(p:PP):p.cells[3]? =some (.int .i64 p.fin):=by unfold PP.cells;rw [Array.getElem?_append_left (by show 3<9;omega)];rfl
theorem PP.zg(p:PP):p.cells[4]? =some (.int .i64 p.Cr):=by unfold PP.cells;rw [Array.getElem?_append_left (by show 4<9;omega)];rfl
theorem PP.Q2(p:PP):p.cells[5]? =some (.int .i64 p.MH):=by unfold PP.cells;rw [Array.getElem?_append_left (by show 5<9;omega)];rfl
theorem PP.WU(p:PP):p.cells[6]? =some (.int .u64 p.sub):=by unfold PP.cells;rw [Array.getElem?_append_left (by show 6<9;omega)];rfl
theorem PP.Q1(p:PP):p.cells[7]? =some (.int .i64 p.MF):=by unfold PP.cells;rw [Array.getElem?_append_left (by show 7<9;omega)];rfl
theorem PP.Q0(p:PP):p.cells[8]? =some (.int .i64 p.Al):=by unfold PP.cells;rw [Array.getElem?_append_left (by show 8<9;omega)];rfl
theorem PP.one(p:PP):∀v∈p.cells.toList,v.oneCell'=true:=by
 intro v hv;unfold PP.cells at hv;rw [Array.toList_append,List.mem_append]at hv;rcases hv with hv|hv
 ·simp only [List.mem_cons,List.not_mem_nil,or_false]at hv
  rcases hv with rfl|rfl|rfl|rfl|rfl|rfl|rfl|rfl|rfl<;>rfl
 ·exact p.gen.2.one v hv
def PP.Hv(p:PP):List (Int×Int×Int):= [(p.K,0,100),(p.mp,1,20),(p.mm,1,1000),(p.fin,0,2147483647),(p.Cr,0,2147483647),(p.MH,0,2147483647),(p.MF,0,100000),(p.Al,0,100000)]
section
variable{w w':World}{K:Value->World->Prop}{p:PP}
theorem uA(p:PP)(hK:∀w',Kept Nil w w'->K (.bool (decide p.ok)) w'):bE prog iI.id #[.agg p.cells] w K:=by
 refine iI.of ?_;unfold iI.W;intro w1;have k1:Kept Nil w w1:=(Kept.refl _ _).alloc _;have hb:w1.heap[w.heap.size]? =some (.cells p.cells eK (0,0)):=aM w _;clear_value w1;have rd:∀(j:Nat) (v:Value),j<41->p.cells[j]? =some v->w1.cell? ((aV w.heap.size).add j)=some v:=fun j v _ h=>by rw [bD,aE hb,Nat.zero_add];exact h
 have hk:=hK w1 k1;have no:¬p.ok->K (.bool false) w1:=fun e=>by rw [decide_eq_false e]at hk;exact hk
 have yes:p.ok->K (.bool true) w1:=fun e=>by rw [decide_eq_true e]at hk;exact hk
 refine⟨_,rd 0 _ (by decide) p.Ma,Split.dec (fun h0=>no (fun e=>by unfold PP.ok at e;omega)) (fun h0=>?_)⟩;refine⟨_,rd 0 _ (by decide) p.Ma,Split.dec (fun h1=>no (fun e=>by unfold PP.ok at e;omega)) (fun h1=>?_)⟩;refine⟨_,rd 1 _ (by decide) p.Jn,Split.dec (fun h2=>no (fun e=>by unfold PP.ok at e;omega)) (fun h2=>?_)⟩;refine⟨_,rd 1 _ (by decide) p.Jn,Split.dec (fun h3=>no (fun e=>by unfold PP.ok at e;omega)) (fun h3=>?_)⟩;refine⟨_,rd 2 _ (by decide) p.Df,Split.dec (fun h4=>no (fun e=>by unfold PP.ok at e;omega)) (fun h4=>?_)⟩;refine⟨_,rd 2 _ (by decide) p.Df,Split.dec (fun h5=>no (fun e=>by unfold PP.ok at e;omega)) (fun h5=>?_)⟩;refine⟨_,rd 3 _ (by decide) p.De,Split.dec (fun h6=>no (fun e=>by unfold PP.ok at e;omega)) (fun h6=>?_)⟩;refine⟨_,rd 3 _ (by decide) p.De,Split.dec (fun h7=>no (fun e=>by unfold PP.ok at e;omega)) (fun h7=>?_)⟩;refine⟨_,rd 4 _ (by decide) p.zg,Split.dec (fun h8=>no (fun e=>by unfold PP.ok at e;omega)) (fun h8=>?_)⟩;refine⟨_,rd 4 _ (by decide) p.zg,Split.dec (fun h9=>no (fun e=>by unfold PP.ok at e;omega)) (fun h9=>?_)⟩;refine⟨_,rd 5 _ (by decide) p.Q2,Split.dec (fun uW=>no (fun e=>by unfold PP.ok at e;omega)) (fun uW=>?_)⟩;refine⟨_,rd 5 _ (by decide) p.Q2,Split.dec (fun Km=>no (fun e=>by unfold PP.ok at e;omega)) (fun Km=>?_)⟩;refine⟨_,rd 6 _ (by decide) p.WU,Split.dec (fun BY=>no (fun e=>by unfold PP.ok at e;omega)) (fun BY=>?_)⟩;refine⟨_,rd 7 _ (by decide) p.Q1,Split.dec (fun BX=>no (fun e=>by unfold PP.ok at e;omega)) (fun BX=>?_)⟩;refine⟨_,rd 7 _ (by decide) p.Q1,Split.dec (fun YD=>no (fun e=>by unfold PP.ok at e;omega)) (fun YD=>?_)⟩
 refine⟨_,rd 8 _ (by decide) p.Q0,Split.dec (fun GA=>no (fun e=>by unfold PP.ok at e;omega)) (fun GA=>?_)⟩;refine⟨_,rd 8 _ (by decide) p.Q0,Split.dec (fun h16=>no (fun e=>by unfold PP.ok at e;omega)) (fun h16=>?_)⟩;refine⟨_,rd 4 _ (by decide) p.zg,?_⟩;by_cases Kl:p.Cr=0
 ·exact Split.yes (by simp [Kl]) (yes (by unfold PP.ok;omega))
 refine Split.no (by simp [Kl]) ⟨_,rd 3 _ (by decide) p.De,Split.dec (fun QY=>?_) (fun QY=>no (fun e=>by unfold PP.ok at e;omega))⟩;refine⟨_,rd 4 _ (by decide) p.zg,_,rd 3 _ (by decide) p.De,Split.dec (fun WO=>?_) (fun WO=>no (fun e=>by unfold PP.ok at e;omega))⟩;refine⟨_,rd 4 _ (by decide) p.zg,_,rd 2 _ (by decide) p.Df,?_⟩;by_cases WN:p.Cr>p.mm
 ·rw [decide_eq_true WN];exact yes (by unfold PP.ok;omega)
 ·rw [decide_eq_false WN];exact no (fun e=>by unfold PP.ok at e;omega)
set_option maxHeartbeats 1000000 in
theorem oX(p:PP)(hK:∀w',Kept Nil w w'->K (.bool (decide p.ok)) w'):bE prog bS.id #[.agg p.cells] w K:=by
 refine bS.of ?_;unfold bS.W;intro w1;have k1:Kept Nil w w1:=(Kept.refl _ _).alloc _;have hb:w1.heap[w.heap.size]? =some (.cells p.cells eK (0,0)):=aM w _;clear_value w1;have rd:∀(j:Nat) (v:Value),p.cells[j]? =some v->w1.cell? ((aV w.heap.size).add j)=some v:=fun j v h=>by rw [bD,aE hb,Nat.zero_add];exact h
 refine⟨_,rd 0 _ p.Ma,_,rd 1 _ p.Jn,_,rd 2 _ p.Df,_,rd 3 _ p.De,_,rd 4 _ p.zg,_,rd 5 _ p.Q2,_,rd 7 _ p.Q1,_,rd 8 _ p.Q0,rfl,rfl,rfl,rfl,rfl,rfl,rfl,rfl,?_⟩;intro w2;have k2:Kept Nil w1 w2:=(Kept.refl _ _).alloc _;have ht:∃C:Array Value,∃ty:TypeId,w2.heap[w1.heap.size]? =some (.cells C ty (0,0))/\∀i:Nat,i<8->∃t,p.Hv[i]? =some t/\C[i*3]? =some (.int .i64 t.1)/\C[i*3+1]? =some (.int .i64 t.2.1)/\C[i*3+2]? =some (.int .i64 t.2.2):=by
  refine⟨_,_,aM w1 _,fun i hi=>?_⟩
  match i,hi with
  |0,_=>exact⟨_,rfl,rfl,rfl,rfl⟩
  |1,_=>exact⟨_,rfl,rfl,rfl,rfl⟩
  |2,_=>exact⟨_,rfl,rfl,rfl,rfl⟩
  |3,_=>exact⟨_,rfl,rfl,rfl,rfl⟩
  |4,_=>exact⟨_,rfl,rfl,rfl,rfl⟩
  |5,_=>exact⟨_,rfl,rfl,rfl,rfl⟩
  |6,_=>exact⟨_,rfl,rfl,rfl,rfl⟩
  |7,_=>exact⟨_,rfl,rfl,rfl,rfl⟩
 clear_value w2;obtain⟨C,ty,hC,gX⟩:=ht;have mr:=k1.tt k2;have nE:=k2.heap hb (fun h=>h);have no:∀ {u:World},Kept Nil w u->¬p.ok->K (.bool false) u:=fun ku e=>by have:=hK _ ku;rw [decide_eq_false e]at this;exact this
 refine bS.cJ (I:=fun s v=>∃i:Nat,s=(false,(i:Int))/\i<=8/\Kept Nil w2 v/\∀t∈p.Hv.take i,t.2.1<=t.1/\t.1<=t.2.2) (μ:=fun s _=>(8-s.2).toNat) (s:=(false,0)) ⟨0,rfl,by omega,Kept.refl _ _,by simp⟩ ?_;rintro s v ⟨i,rfl,hi,kv,cY⟩;have tq:=mr.tt kv;unfold bS.B1;refine Split.dec (fun di=>?_) (fun gF=>?_)
 ·simp only at di
  have dW:i<8:=by omega
  obtain⟨t,Kc,c0,c1,c2⟩:=gX i dW;have T3:=List.mem_of_getElem? Kc;have hCv:=kv.heap hC (fun h=>h);simp-zeta only [Int.toNat_natCast];refine⟨⟨by omega,by omega⟩,Is.mk rfl ⟨#[.int .i64 t.1,.int .i64 t.2.1,.int .i64 t.2.2],⟨rfl,fun j u hj=>?_⟩,?_⟩⟩
  ·rw [bD,bD,aE hCv,Nat.zero_add]
   match j,hj with
   |0,hj=>cases hj;exact c0
   |1,hj=>cases hj;exact c1
   |2,hj=>cases hj;exact c2
   |j+3,hj=>simp at hj
  intro w3;obtain⟨tA,kh,kH⟩:=iN (w:=v) (z:=(#[.int .i64 0,.int .i64 0,.int .i64 0]:Array Value)) (cs:= #[.int .i64 t.1,.int .i64 t.2.1,.int .i64 t.2.2]) (t:=wK) rfl;refine⟨⟨rfl,by intro y hy;simp at hy;rcases hy with rfl|rfl|rfl<;>rfl,fun j hj=>tA j hj⟩,?_⟩;intro w4
  replace kh:w4.heap[v.heap.size]? =some (.cells #[.int .i64 t.1,.int .i64 t.2.1,.int .i64 t.2.2] wK (0,0)):=kh
  replace kH:Kept Nil v w4:=kH
  clear_value w4;have mf:=tq.tt kH;have Xx:∀(j:Nat) (z:Value),(#[.int .i64 t.1,.int .i64 t.2.1,.int .i64 t.2.2]:Array Value)[j]? =some z->w4.cell? ((aV v.heap.size).add j)=some z:=fun j z h=>by rw [bD,aE kh,Nat.zero_add];exact h
  have bad:¬(t.2.1<=t.1/\t.1<=t.2.2)->¬p.ok:=fun e h=>by
   unfold PP.ok at h;unfold PP.Hv at T3;simp only [List.mem_cons,List.not_mem_nil,or_false]at T3;rcases T3 with rfl|rfl|rfl|rfl|rfl|rfl|rfl|rfl<;>(simp only at e;omega)
  refine⟨⟨by omega,by omega⟩,t.1,Xx 0 _ rfl,⟨by omega,by omega⟩,t.2.1,Xx 1 _ rfl,Split.dec (fun h1=>no mf (bad (by omega))) (fun h1=>?_)⟩;refine⟨⟨by omega,by omega⟩,t.1,Xx 0 _ rfl,⟨by omega,by omega⟩,t.2.2,Xx 2 _ rfl,Split.dec (fun h2=>no mf (bad (by omega))) (fun h2=>?_)⟩;rw [dE (n:=(i:Int)) (by omega) (by omega)];refine⟨(false,(i:Int)+1),rfl,⟨i+1,rfl,dW,kv.tt kH,fun t' PL=>?_⟩,by simp only;omega⟩;rw [List.take_add_one,Kc,List.mem_append]at PL;rcases PL with PL|PL
  ·exact cY t' PL
  ·simp at PL
   subst PL;omega
 ·simp only at gF
  rw [aU,bS.dw];unfold bS.df;have e8:i=8:=by omega
  subst e8;have C5:=kv.heap nE (fun h=>h);have rdv:∀(j:Nat) (z:Value),p.cells[j]? =some z->v.cell? ((aV w.heap.size).add j)=some z:=fun j z h=>by rw [bD,aE C5,Nat.zero_add];exact h
  have hk:=hK v tq;have yes:p.ok->K (.bool true) v:=fun e=>by rw [decide_eq_true e]at hk;exact hk
  have hT:(0<=p.K/\p.K<=100)/\(1<=p.mp/\p.mp<=20)/\(1<=p.mm/\p.mm<=1000)/\(0<=p.fin/\p.fin<=2147483647)/\(0<=p.Cr/\p.Cr<=2147483647)/\(0<=p.MH/\p.MH<=2147483647)/\(0<=p.MF/\p.MF<=100000)/\(0<=p.Al/\p.Al<=100000):=
   ⟨cY (p.K,0,100) (by simp [PP.Hv]),cY (p.mp,1,20) (by simp [PP.Hv]),cY (p.mm,1,1000) (by simp [PP.Hv]),cY (p.fin,0,2147483647) (by simp [PP.Hv]),cY (p.Cr,0,2147483647) (by simp [PP.Hv]),cY (p.MH,0,2147483647) (by simp [PP.Hv]),cY (p.MF,0,100000) (by simp [PP.Hv]),cY (p.Al,0,100000) (by simp [PP.Hv])⟩
  refine⟨_,rdv 6 _ p.WU,Split.dec (fun h6=>?_) (fun h6=>no tq (fun e=>by unfold PP.ok at e;omega))⟩;refine⟨_,rdv 4 _ p.zg,?_⟩;by_cases Kl:p.Cr=0
  ·exact Split.yes (by simp [Kl]) (yes (by unfold PP.ok;omega))
  refine Split.no (by simp [Kl]) ⟨_,rdv 3 _ p.De,Split.dec (fun QY=>?_) (fun QY=>no tq (fun e=>by unfold PP.ok at e;omega))⟩;refine⟨_,rdv 4 _ p.zg,_,rdv 3 _ p.De,Split.dec (fun WO=>?_) (fun WO=>no tq (fun e=>by unfold PP.ok at e;omega))⟩;refine⟨_,rdv 4 _ p.zg,_,rdv 2 _ p.Df,?_⟩;by_cases WN:p.Cr>p.mm
  ·rw [decide_eq_true WN];exact yes (by unfold PP.ok;omega)
  ·rw [decide_eq_false WN];exact no tq (fun e=>by unfold PP.ok at e;omega)
end
theorem BD{P:Program}{g:FuncId}{first gS:Array Value}{args:List Value}{fn:Func}{w:World}{k:Value->World->Prop}{vs:Array Value}(hf:P.funcs[g]? =some fn)(hb:fn.body.isSome=true)(hv:(first.toList++args++gS.toList).toArray=vs):
 lX P (.func (.func g) first gS) args w k=bE P g vs w fun v w'=>Rh P fn.resultTypes.toList v fun v=>k v w':=by
 subst hv;unfold lX;simp only [hf];cases hc:fn.body with
 |none=>rw [hc]at hb;cases hb
 |some c=>simp only [hc]
theorem jU{P:Program}{g:FuncId}{first gS:Array Value}{args:List Value}{fn:Func}{w:World}{k:Value->World->Prop}{vs:Array Value}{t:TypeId}(hf:P.funcs[g]? =some fn)(hb:fn.body.isSome=true)(hv:(first.toList++args++gS.toList).toArray=vs)
 (ht:fn.resultTypes.toList= [t]) (hk:nM P t=.int .i64):lX P (.func (.func g) first gS) args w k=bE P g vs w fun v w'=>∃e:Int,v=.int .i64 e/\k (.int .i64 e) w':=by
 rw [BD hf hb hv,ht];simp only [Rh,hk,Any]
section
variable{w w' v:World}{K:Value->World->Prop}{n cx n' cx' hb gb ob cb pb:Nat}{A A':Option Addr}{l l':List HT}{F:Nat->Prop}{c k:Nat}{G:GS}{m:CM}{hd:Array Value}{p:PP}
theorem Dm(hl:HS w A n l)(Nx:HS w A' n' l')(hn:n<=1000000)(hK:∀w',Kept Nil w w'->K (.bool (decide (l=l'))) w'):
 bE prog aQ.id #[.slice A n cx,.slice A' n' cx'] w K:=by
 have hlen:=hl.len;have Bd:=Nx.len;refine aQ.of ?_;unfold aQ.W;by_cases e:n=n'
 ·subst e
  refine Split.no (by simp) ?_;refine aQ.cJ (I:=fun s v=>∃i:Nat,s=(false,(i:Int))/\i<=n/\Kept Nil w v/\∀t,t<i->l[t]? =l'[t]?) (μ:=fun s _=>((n:Int)-s.2).toNat) (s:=(false,0)) ⟨0,rfl,Nat.zero_le _,Kept.refl _ _,fun t ht=>by omega⟩ ?_;rintro s v ⟨i,rfl,hi,kv,cY⟩;unfold aQ.B1;refine Split.dec (fun di=>?_) (fun gF=>?_)
  ·simp only at di
   have dW:i<n:=by omega
   obtain⟨x,hx⟩:∃x,l[i]? =some x:=⟨_,List.getElem?_eq_getElem (by omega)⟩;obtain⟨y,hy⟩:∃y,l'[i]? =some y:=⟨_,List.getElem?_eq_getElem (by omega)⟩;intro w3;have k3:Kept Nil v w3:=(Kept.refl _ _).drew;clear_value w3;have jF:=kv.tt k3;refine HS.load (hl.same jF) (i:=(i:Int)) (x:=x) (by omega) (by rw [Int.toNat_natCast];exact hx) ?_;refine HS.load (Nx.same jF) (i:=(i:Int)) (x:=y) (by omega) (by rw [Int.toNat_natCast];exact hy) ⟨⟨x.2.ints,y.2.ints⟩,?_⟩;rw [fy];by_cases nC:x=y
   ·refine Split.no (by rw [decide_eq_true nC];rfl) ?_
    simp only;rw [dE (n:=(i:Int)) (by omega) (by omega)];refine⟨(false,(i:Int)+1),rfl,⟨i+1,rfl,dW,jF,fun t ht=>?_⟩,by simp only;omega⟩;by_cases Kc:t=i
    ·subst Kc
     rw [hx,hy,nC]
    ·exact cY t (by omega)
   ·refine Split.yes (by rw [decide_eq_false nC];rfl) ?_
    have fW:l≠l':=fun e=>by
     subst e;rw [hx]at hy;exact nC (Option.some.inj hy)
    have:=hK w3 jF;rw [decide_eq_false fW]at this;exact this
  ·simp only at gF
   rw [aU,aQ.dw];have el:l=l':=List.ext_getElem? fun t=>by
    by_cases ht:t<i
    ·exact cY t ht
    ·rw [List.getElem?_eq_none (by omega),List.getElem?_eq_none (by omega)]
   have:=hK v kv;rw [decide_eq_true el]at this;exact this
 ·refine Split.yes (by simpa using (fun h:(n:Int)=(n':Int)=>e (by omega))) ?_
  have fW:l≠l':=fun h=>e (by rw [<-hlen,<-Bd,h]);have:=hK w (Kept.refl _ _);rw [decide_eq_false fW]at this;exact this
theorem LU(vS:w.heap[pb]? =some (.cells p.cells eK (0,0)))(hK:∀w',Kept Nil w w'->K (.int .i64 (if ¬p.ok then 2 else 0)) w'):
 bE prog cS.id #[.pointer (some ⟨pb,0,none⟩)] w K:=by
 refine cS.of ?_;refine⟨p.cells,⟨p.size,Cells.bV vS⟩,oX p fun w1 k1=>⟨_,rfl,?_⟩⟩;have:=hK w1 k1;by_cases h:p.ok
 ·rw [if_neg (fun e=>e h)]at this
  exact Split.no (by rw [decide_eq_true h];rfl) this
 ·rw [if_pos h]at this
  exact Split.yes (by rw [decide_eq_false h];rfl) this
theorem oO(EJ:w.heap[hb]? =some (.cells hd jv (0,0)))(h0:hd[0]? =some (.slice A n cx)):w.cell? ((⟨hb,0,none⟩:Addr).add 0)=some (.slice A n cx):=by
 rw [add_zero,aE EJ];exact h0
theorem LS(EJ:w.heap[hb]? =some (.cells hd jv (0,0)))(h0:hd[0]? =some (.slice A n cx))(hl:HS w A n l)(hn:n<=100000)(vS:w.heap[pb]? =some (.cells p.cells eK (0,0)))
 (hK:∀w' e,Kept Nil w w'->(((l.length<1\/p.mp<(l.length:Int))\/dB l≠l)/\e=9\/¬((l.length<1\/p.mp<(l.length:Int))\/dB l≠l)/\e=0)->K (.int .i64 e) w'):
 bE prog cR.id #[.pointer (some ⟨hb,0,none⟩),.pointer (some ⟨pb,0,none⟩)] w K:=by
 have hlen:=hl.len;refine cR.of ?_;unfold cR.W;refine⟨A,n,cx,oO EJ h0,?_⟩;intro w1;have k1:Kept Nil w w1:=(Kept.refl _ _).drew;clear_value w1;have rd:w1.cell? ((⟨pb,0,none⟩:Addr).add 1)=some (.int .i64 p.mp):=by rw [bD,aE (k1.heap vS (fun h=>h))];exact p.Jn
 have Lt:=oO (k1.heap EJ (fun h=>h)) h0;refine Split.dec (fun h1=>hK w1 9 k1 (.inl ⟨.inl (.inl (by omega)),rfl⟩)) (fun h1=>⟨_,rd,Split.dec (fun h2=>hK w1 9 k1 (.inl ⟨.inl (.inr (by omega)),rfl⟩)) (fun h2=>⟨A,n,cx,Lt,A,n,cx,Lt,?_⟩)⟩);refine iR (hl.same k1) (by omega) fun A2 c2 w2 ir k2=>⟨A2,_,c2,rfl,oO ((k1.tt k2).heap EJ (fun h=>h)) h0,?_⟩;have mr:=k1.tt k2;have BT:=ny l;refine Dm (cr.hs ir) (hl.same mr) (by omega) fun w3 k3=>⟨_,rfl,?_⟩;have jF:=mr.tt k3;by_cases hs:dB l=l
 ·refine Split.no (by rw [decide_eq_true hs];rfl) (hK w3 0 jF (.inr ⟨fun e=>?_,rfl⟩))
  rcases e with(e|e)|e
  ·omega
  ·omega
  ·exact e hs
 ·exact Split.yes (by rw [decide_eq_false hs];rfl) (hK w3 9 jF (.inl ⟨.inr hs,rfl⟩))
theorem vF{D:DG}{i:Nat}{x:HT}(hx:l[i]? =some x):dN D (l.take (i+1))=dN D (l.take i)++if x∈ids D then []else [x]:=by
 unfold dN;rw [List.take_add_one,hx,List.filter_append]
 congr 1
 by_cases h:x∈ids D
 ·simp [h]
 ·simp [h]
theorem AD(D:DG)(l:List HT):(dN D l).length<=l.length:=List.length_filter_le _ _
set_option maxHeartbeats 1000000 in
theorem LR{mx:XM}{P:List Int}{x:Nat}{FX:Nat->Prop}(X:XV w FX x G.D P mx)(C:CV w F c k G m)(hCX:m.x=x)(EJ:w.heap[hb]? =some (.cells hd jv (0,0)))(h0:hd[0]? =some (.slice A n cx))(hl:HS w A n l)(hn:n<=100000)
 (Vm:w.heap[gb]? =some (.cells #[.pointer (some ⟨mx.g,0,none⟩)] iT (0,0))) (BV:w.heap[ob]? =some (.cells #[.slice none 0 0] aF (0,0))) (fW:gb≠ob) (hhn:hb≠ob) (hAo:∀a,A=some a->a.block≠ob) (hX:∀u,Kept (· =ob) w u->XV u FX x G.D P mx)
 (mG:dN G.D l= []->∀w',Kept Nil w w'->K (.int .i64 0) w')
 (xg:dN G.D l≠ []->∀w' A' c',w'.heap[ob]? =some (.cells #[.slice A' (dN G.D l).length c'] aF (0,0))->cr w' w.heap.size A' (dN G.D l).length c' (dN G.D l)->Kept (· =ob) w w'->K (.int .i64 15) w'):
 bE prog bn.id #[.pointer (some ⟨hb,0,none⟩),.pointer (some ⟨gb,0,none⟩),.pointer (some ⟨ob,0,none⟩)] w K:=by
 have hlen:=hl.len;have lob:=bf BV;refine bn.of ?_;unfold bn.W;refine⟨A,n,cx,oO EJ h0,?_⟩;refine bn.cJ (I:=fun s v=>∃(i:Nat) (A':Option Addr) (c':Nat),s=(i:Int)/\i<=n/\v.heap[ob]? =some (.cells #[.slice A' (dN G.D (l.take i)).length c'] aF (0,0))/\cr v w.heap.size A' (dN G.D (l.take i)).length c' (dN G.D (l.take i))/\Kept (· =ob) w v/\(dN G.D (l.take i)= []->Kept Nil w v)) (μ:=fun s _=>((n:Int)-s).toNat) (s:=0) ⟨0,none,0,rfl,Nat.zero_le _,BV,cr.nil _ _,Kept.refl _ _,fun _=>Kept.refl _ _⟩ ?_;rintro s v ⟨i,A',c',rfl,hi,No,row,kv,Gn⟩;unfold bn.B1;refine Split.dec (fun di=>?_) (fun gF=>?_)
 ·have dW:i<n:=by omega
  obtain⟨y,hy⟩:∃y,l[i]? =some y:=⟨_,List.getElem?_eq_getElem (by omega)⟩;have rD:HS v A n l:=hl.aK kv (fun a ha e=>hAo a ha e);refine HS.load rD (i:=(i:Int)) (x:=y) (by omega) (by rw [Int.toNat_natCast];exact hy) ?_;intro w3;obtain⟨t1,t2,t3⟩:=vZ v y;refine⟨t1,?_⟩;intro w4
  replace t2:w4.heap[v.heap.size]? =some (.cells y.1 al (0,0)):=t2
  replace t3:Kept Nil v w4:=t3
  clear_value w4;have mf:Kept (· =ob) w w4:=kv.trans t3 (fun _ _ h=>h.elim);refine⟨_,by rw [aE (mf.heap Vm fW)];rfl,y.1,⟨y.2.1,Cells.bV t2⟩,?_⟩;obtain⟨bl,cc,mb,M,GG⟩:=(hX w4 mf).G;refine sK GG y fun w5 k5=>⟨_,rfl,?_⟩;have xZ:=t3.tt k5;have nA:Kept (· =ob) w w5:=mf.trans k5 (fun _ _ h=>h.elim);have PZ:=xZ.heap No (fun h=>h);have lD:cr w5 w.heap.size A' (dN G.D (l.take i)).length c' (dN G.D (l.take i)):=Row.aK row xZ (fun _ _ h=>h);have nu:=vF (D:=G.D) hy;by_cases hm:y∈ids G.D
  ·rw [if_pos hm,List.append_nil]at nu
   refine Split.no (by rw [decide_eq_true hm];rfl) ?_;rw [dE (n:=(i:Int)) (by omega) (by omega)];exact⟨(i:Int)+1,rfl,⟨i+1,A',c',rfl,dW,by rw [nu];exact PZ,by rw [nu];exact lD,nA,fun e=>by rw [nu]at e;exact(Gn e).tt xZ⟩,by simp only;omega⟩
  ·rw [if_neg hm]at nu
   refine Split.yes (by rw [decide_eq_false hm];rfl) ⟨_,_,_,by rw [aE PZ];rfl,y.1,⟨y.2.1,Cells.bV (k5.heap t2 (fun h=>h))⟩,y.2.1,?_⟩;intro w6;have k6:Kept Nil w5 w6:=(Kept.refl _ _).alloc _;have pZ:HS w6 (some ⟨w5.heap.size,0,none⟩) 1 [y]:=jE w5 y;clear_value w6;have yH:cr w6 w.heap.size A' (dN G.D (l.take i)).length c' (dN G.D (l.take i)):=Row.aK lD k6 (fun _ _ h=>h);have s6:=(nA.trans k6 (fun _ _ h=>h.elim)).size;have Gr:=AD G.D (l.take i);rw [List.length_take]at Gr;obtain⟨A7,c7,w7,Nh,wU,g7,hA7⟩:=dd aF yH (cx:=1) pZ (by omega) s6;have k7:Kept (fun j=>bH A'=some j) w6 w7:=Kept.grown (Kept.refl _ _) g7 fun j hj _=>hj;have nob:bH A'≠some ob:=fun e=>by have:=(Row.bV yH e).1;omega
   have Ux:=k7.heap (k6.heap PZ (fun h=>h)) nob;refine⟨A7,_,c7,w7,Nh,dP Ux (by simp),?_⟩;intro w8;have aa1:w8.heap[ob]? =some (.cells #[.slice A7 ((dN G.D (l.take i)).length+1) c7] aF (0,0)):=du Ux 0 _;have k8:Kept (· =ob) w7 w8:=Kept.setCell (S:=fun j=>j=ob) (Kept.refl _ w7) (p:=⟨ob,0,none⟩) (fun _=>rfl) _;clear_value w8;rw [dE (n:=(i:Int)) (by omega) (by omega)];have el:(dN G.D (l.take (i+1))).length=(dN G.D (l.take i)).length+1:=by rw [nu,List.length_append];rfl
   refine⟨(i:Int)+1,rfl,⟨i+1,A7,c7,rfl,dW,by rw [el];exact aa1,?_,?_,fun e=>?_⟩,by simp only;omega⟩
   ·rw [el,nu]
    exact Row.aK wU k8 (fun j hj e=>by have:=(Row.bV wU hj).1;omega)
   ·exact((nA.trans k6 (fun _ _ h=>h.elim)).trans k7 (fun j hj e=>by have:=(Row.bV yH e).1;omega)).tt k8
   ·rw [nu]at e
    simp at e
 ·rw [aU,bn.dw]
  unfold bn.df;rw [List.take_of_length_le (by omega)]at No row Gn;refine⟨_,_,_,by rw [aE No];rfl,?_⟩;by_cases he:dN G.D l= []
  ·rw [he]
   exact Split.no rfl (mG he v (Gn he))
  ·have:=List.length_pos_iff.2 he
   exact Split.yes (decide_eq_true (by omega)) (xg he v A' c' No row kv)
theorem IX{x y:HT}{xb:Nat}(C:CV w F c k G m)(hD:G.D.length<=5000)(EN:w.heap[cb]? =some (.cells #[.pointer (some ⟨c,0,none⟩)] dF (0,0)))(M5:w.heap[xb]? =some (.cells x.1 al (0,0)))
 (hK:∀w' (r:Bool),(r=true↔fH G.D x y)->Kept Nil w w'->K (.bool r) w'):
 bE prog dz.id #[.agg y.1,.pointer (some ⟨cb,0,none⟩),.pointer (some ⟨xb,0,none⟩)] w K:=by
 refine dz.of ?_;unfold dz.W;intro w1 w2;have k1:Kept Nil w w1:=(Kept.refl _ _).alloc _;have Le:w1.heap[w.heap.size]? =some (.cells y.1 al (0,0)):=aM w _;have k2:Kept Nil w1 w2:=(Kept.refl _ _).drew;clear_value w2;have TR:=k2.heap Le (fun h=>h);have mr:=k1.tt k2;clear_value w1;have C2:=C.same mr;have Lh:=mr.heap M5 (fun h=>h);refine⟨_,by rw [aE (mr.heap EN (fun h=>h))];rfl,x.1,⟨x.2.1,Cells.bV Lh⟩,y.1,⟨y.2.1,Cells.bV TR⟩,?_⟩;refine uq C2 ⟨_,rfl,⟨_,rfl,y.2.1,Cells.bV TR⟩,⟨_,rfl,x.2.1,Cells.bV Lh⟩,?_⟩;obtain⟨mx,X,_⟩:=C2.X;exact lr X hD x y fun w3 r hr k3=>⟨r,rfl,hK w3 r hr (mr.tt k3)⟩
theorem Gv{x:HT}{xb:Nat}(C:CV w F c k G m)(hD:G.D.length<=5000)(EN:w.heap[cb]? =some (.cells #[.pointer (some ⟨c,0,none⟩)] dF (0,0)))(M5:w.heap[xb]? =some (.cells x.1 al (0,0)))(hl:HS w A n l)(hn:n<=100000)
 (hK:∀w' (i:Int),(i>=0↔∃y∈l,fH G.D x y)->Kept Nil w w'->K (.int .i64 i) w'):
 bE prog mh.id #[.slice A n cx,.func (.func dz.id) #[] #[.pointer (some ⟨cb,0,none⟩),.pointer (some ⟨xb,0,none⟩)]] w K:=by
 have hlen:=hl.len;refine an.of ?_;unfold an.W;refine an.cJ (I:=fun s v=>∃i:Nat,s=(0,(i:Int))/\i<=n/\Kept Nil w v/\∀y∈l.take i,¬fH G.D x y) (μ:=fun s _=>((n:Int)-s.2).toNat) (s:=(0,0)) ⟨0,rfl,Nat.zero_le _,Kept.refl _ _,by simp⟩ ?_;rintro s v ⟨i,rfl,hi,kv,cY⟩;unfold an.B1;refine Split.dec (fun di=>?_) (fun gF=>?_)
 ·simp only at di
  have dW:i<n:=by omega
  obtain⟨y,hy⟩:∃y,l[i]? =some y:=⟨_,List.getElem?_eq_getElem (by omega)⟩;refine HS.load (hl.same kv) (i:=(i:Int)) (x:=y) (by omega) (by rw [Int.toNat_natCast];exact hy) ?_;refine IX (C.same kv) hD (kv.heap EN (fun h=>h)) (kv.heap M5 (fun h=>h)) fun w3 r hr k3=>⟨r,rfl,?_⟩;have jF:=kv.tt k3;cases r with
  |true=>exact Split.yes rfl (hK w3 (i:Int) ⟨fun _=>⟨y,List.mem_of_getElem? hy,hr.1 rfl⟩,fun _=>by omega⟩ jF)
  |false=>
   refine Split.no rfl ?_;simp only;rw [dE (n:=(i:Int)) (by omega) (by omega)];refine⟨(0,(i:Int)+1),rfl,⟨i+1,rfl,dW,jF,fun z hz e=>?_⟩,by simp only;omega⟩;rcases(bP hy).1 hz with hz|rfl
   ·exact cY z hz e
   ·have:=hr.2 e
    cases this
 ·simp only at gF
  rw [aU,an.dw];rw [List.take_of_length_le (by omega)]at cY;exact hK v (-1) ⟨fun e=>by omega,fun⟨y,hy,e⟩=>absurd e (cY y hy)⟩ kv
theorem LQ(C:CV w F c k G m)(hD:G.D.length<=5000)(EJ:w.heap[hb]? =some (.cells hd jv (0,0)))(h0:hd[0]? =some (.slice A n cx))(hl:HS w A n l)(hn:n<=100000)(EN:w.heap[cb]? =some (.cells #[.pointer (some ⟨c,0,none⟩)] dF (0,0)))
 (hK:∀w' e,Kept Nil w w'->(sT G.D l/\e=9\/¬sT G.D l/\e=0)->K (.int .i64 e) w'):
 bE prog br.id #[.pointer (some ⟨hb,0,none⟩),.pointer (some ⟨cb,0,none⟩)] w K:=by
 have hlen:=hl.len;refine br.of ?_;unfold br.W;refine⟨A,n,cx,oO EJ h0,?_⟩;refine br.cJ (I:=fun s v=>∃i:Nat,s=(0,(i:Int))/\i<=n/\Kept Nil w v/\∀a∈l.take i,∀b∈l,¬fH G.D a b) (μ:=fun s _=>((n:Int)-s.2).toNat) (s:=(0,0)) ⟨0,rfl,Nat.zero_le _,Kept.refl _ _,by simp⟩ ?_;rintro s v ⟨i,rfl,hi,kv,cY⟩;unfold br.B1;refine Split.dec (fun di=>?_) (fun gF=>?_)
 ·simp only at di
  have dW:i<n:=by omega
  obtain⟨y,hy⟩:∃y,l[i]? =some y:=⟨_,List.getElem?_eq_getElem (by omega)⟩;refine HS.load (hl.same kv) (i:=(i:Int)) (x:=y) (by omega) (by rw [Int.toNat_natCast];exact hy) ?_;intro w3;obtain⟨t1,t2,t3⟩:=vZ v y;refine⟨t1,?_⟩;intro w4
  replace t2:w4.heap[v.heap.size]? =some (.cells y.1 al (0,0)):=t2
  replace t3:Kept Nil v w4:=t3
  clear_value w4;have mf:=kv.tt t3;refine⟨A,n,cx,oO (mf.heap EJ (fun h=>h)) h0,?_⟩;refine bZ.of ?_;unfold bZ.W;refine Gv (C.same mf) hD (mf.heap EN (fun h=>h)) t2 (hl.same mf) hn fun w5 j hj k5=>⟨j,rfl,_,rfl,?_⟩;have nA:=mf.tt k5;by_cases Yg:j>=0
  ·obtain⟨b,hb,nv⟩:=hj.1 Yg
   exact Split.yes (decide_eq_true Yg) (hK w5 9 nA (.inl ⟨⟨y,List.mem_of_getElem? hy,b,hb,nv⟩,rfl⟩))
  ·refine Split.no (decide_eq_false Yg) ?_
   simp only;rw [dE (n:=(i:Int)) (by omega) (by omega)];refine⟨(0,(i:Int)+1),rfl,⟨i+1,rfl,dW,nA,fun a ha b hb e=>?_⟩,by simp only;omega⟩;rcases(bP hy).1 ha with ha|rfl
   ·exact cY a ha b hb e
   ·exact Yg (hj.2 ⟨b,hb,e⟩)
 ·simp only at gF
  rw [aU,br.dw];rw [List.take_of_length_le (by omega)]at cY;exact hK v 0 kv (.inr ⟨fun⟨a,ha,b,hb,e⟩=>cY a ha b hb e,rfl⟩)
theorem LP(C:CV w F c k G m)(hT:sS w)(hD:G.D.length<=49)(o5:k<=1000)(EJ:w.heap[hb]? =some (.cells hd jv (0,0)))(h0:hd[0]? =some (.slice A n cx))(hl:HS w A n l)(hn:n<=5000)(EN:w.heap[cb]? =some (.cells #[.pointer (some ⟨c,0,none⟩)] dF (0,0)))
 (vS:w.heap[pb]? =some (.cells p.cells eK (0,0))) (wP:l≠ []) (gC:∀x∈l,x∈ids G.D)
 (hK:∀w' e,Kept Nil w w'->(p.mm<((cP G (bQ G l) l).length:Int)/\e=10\/¬p.mm<((cP G (bQ G l) l).length:Int)/\e=0)->K (.int .i64 e) w'):
 bE prog cQ.id #[.pointer (some ⟨cb,0,none⟩),.pointer (some ⟨hb,0,none⟩),.pointer (some ⟨pb,0,none⟩)] w K:=by
 have hlen:=hl.len;have m0:lE G.D l=0:=by
  unfold lE;rw [if_neg wP,if_neg (fun⟨x,hx,e⟩=>e (gC x hx))]
 have Ez:bQ G l∈ids G.D:=gC _ (jg wP);have m1:lE G.D (bQ G l::l)=0:=by
  unfold lE;rw [if_neg (by simp),if_neg];rintro⟨x,hx,e⟩;rcases List.mem_cons.1 hx with rfl|hx
  ·exact e Ez
  ·exact e (gC x hx)
 refine cQ.of ?_;unfold cQ.W;refine⟨_,by rw [aE EN];rfl,A,n,cx,oO EJ h0,?_⟩;refine sI C hl (by omega) fun w1 k1=>⟨_,_,rfl,?_⟩;rw [if_pos m0];intro w2;obtain⟨t1,t2,t3⟩:=vZ w1 (bQ G l);refine⟨t1,?_⟩;intro w3
 replace t2:w3.heap[w1.heap.size]? =some (.cells (bQ G l).1 al (0,0)):=t2
 replace t3:Kept Nil w1 w3:=t3
 clear_value w3;have jF:=k1.tt t3;refine⟨_,by rw [aE (jF.heap EN (fun h=>h))];rfl,_,⟨(bQ G l).2.1,Cells.bV t2⟩,A,n,cx,oO (jF.heap EJ (fun h=>h)) h0,?_⟩;refine Dd (C.same jF) (hT.same jF) hD o5 (hl.same jF) hn (fun e=>absurd m1 e) fun _ w4 A4 n4 c4 E4 e4 d4 mg4 _ k4 _=>⟨_,_,rfl,?_⟩;have mf:=jF.tt k4;intro w5;obtain⟨u1,u2,u3⟩:=ES w4 (dr k G (bQ G l) l) A4 n4 c4 E4 e4 d4;refine⟨u1,?_⟩;intro w6
 replace u2:w6.heap[w4.heap.size]? =some (.cells (dp (dr k G (bQ G l) l) A4 n4 c4 E4 e4 d4) bK (0,0)):=u2
 replace u3:Kept Nil w4 w6:=u3
 clear_value w6;have nn:=mf.tt u3;have hn4:=mg4.len;have P9:(dr k G (bQ G l) l).merge=cP G (bQ G l) l:=rfl;rw [P9]at hn4;refine⟨A4,n4,c4,(wz u2).2.2.1,p.mm,by rw [bD,aE (nn.heap vS (fun h=>h))];exact p.Df,?_⟩;rw [<-hn4];exact Split.dec (fun h=>hK w6 10 nn (.inl ⟨by omega,rfl⟩)) (fun h=>hK w6 0 nn (.inr ⟨by omega,rfl⟩))
end
section
variable{w w' v:World}{K:Value->World->Prop}{n cx hb gb ob cb pb:Nat}{A:Option Addr}{l:List HT}{F:Nat->Prop}{c k:Nat}{G:GS}{m:CM}{hd:Array Value}{p:PP}
set_option maxHeartbeats 4000000 in
theorem mi(C:CV w F c k G m)(hT:sS w)(hD:G.D.length<=49)(o5:k<=1000)(p:PP)(h0:hd[0]? =some (.slice A n cx))(hl:HS w A n l)(hn:n<=1000)
 (hK:∀w' A' n' c',HS w' A' n' (fV p G l).1->Kept Nil w w'->K (.tuple #[.slice A' n' c',.int .i64 (fV p G l).2]) w'):
 bE prog aN.id #[.agg p.cells,.pointer (some ⟨c,0,none⟩),.agg hd] w K:=by
 have hlen:=hl.len;refine aN.of ?_;unfold aN.W;intro w1 w2 w3 w4;have k1:Kept Nil w w1:=(Kept.refl _ _).alloc _;have Lt:w1.heap[w.heap.size]? =some (.cells p.cells eK (0,0)):=aM w _;have k2:Kept Nil w1 w2:=(Kept.refl _ _).alloc _;have I1:w2.heap[w1.heap.size]? =some (.cells #[.pointer (some ⟨c,0,none⟩)] dF (0,0)):=aM w1 _;have k3:Kept Nil w2 w3:=(Kept.refl _ _).alloc _;have hh3:w3.heap[w2.heap.size]? =some (.cells hd jv (0,0)):=aM w2 _;have k4:Kept Nil w3 w4:=(Kept.refl _ _).alloc _;have ho4:w4.heap[w3.heap.size]? =some (.cells #[.slice none 0 0] aF (0,0)):=aM w3 _;clear_value w4;have Vj:=k4.heap hh3 (fun h=>h);have NH:=(k3.tt k4).heap I1 (fun h=>h);have RM:=((k2.tt k3).tt k4).heap Lt (fun h=>h);have mf:=((k1.tt k2).tt k3).tt k4;have s1:=k1.size;have l1:=bf Lt;have l2:=bf I1;have l3:=bf hh3;have l4:=bf ho4;generalize vS:w.heap.size=pb at RM l1 s1;generalize EN:w1.heap.size=cb at NH l1 l2 s1;generalize EJ:w2.heap.size=hb at Vj l2 l3;generalize BV:w3.heap.size=ob at ho4 l3 l4;clear_value w3;clear_value w2;clear_value w1;have C4:=C.same mf;refine⟨_,by rw [aE NH];rfl,uq C4 ⟨_,rfl,?_⟩⟩;obtain⟨mx,X4,Vx⟩:=C4.X;refine gH.of (Split.no rfl (Is.mk rfl ⟨_,X4.c0,⟨_,rfl,?_⟩⟩));intro w5;have k5:Kept Nil w4 w5:=(Kept.refl _ _).alloc _;have LL:w5.heap[w4.heap.size]? =some (.cells #[.pointer none] iT (0,0)):=aM w4 _;clear_value w5;have l5:=bf LL;refine⟨dP LL (by simp),?_⟩;intro w6 w7;have hg6:w6.heap[w4.heap.size]? =some (.cells #[.pointer (some ⟨mx.g,0,none⟩)] iT (0,0)):=du LL 0 _;have k6:Kept (· =w4.heap.size) w5 w6:=Kept.setCell (S:=fun j=>j=w4.heap.size) (Kept.refl _ w5) (p:=⟨w4.heap.size,0,none⟩) (fun _=>rfl) _
 have k7:Kept Nil w6 w7:=(Kept.refl _ _).alloc _;have JV:Kept Nil w4 w6:=k5.trans k6 (fun j hj e=>by omega);have s46:=JV.size;generalize Vm:w4.heap.size=gb at hg6;have Yl:=aM w6 (.cells #[.func (.func cX.id) #[] #[.pointer (some ⟨gb,0,none⟩)],.func (.func cS.id) #[] #[.pointer (some ⟨pb,0,none⟩)],.func (.func cR.id) #[] #[.pointer (some ⟨hb,0,none⟩),.pointer (some ⟨pb,0,none⟩)],.func (.func bn.id) #[] #[.pointer (some ⟨hb,0,none⟩),.pointer (some ⟨gb,0,none⟩),.pointer (some ⟨ob,0,none⟩)],.func (.func br.id) #[] #[.pointer (some ⟨hb,0,none⟩),.pointer (some ⟨cb,0,none⟩)],.func (.func cQ.id) #[] #[.pointer (some ⟨cb,0,none⟩),.pointer (some ⟨hb,0,none⟩),.pointer (some ⟨pb,0,none⟩)]] 110);have e7:w7=w6.alloc (.cells #[.func (.func cX.id) #[] #[.pointer (some ⟨gb,0,none⟩)],.func (.func cS.id) #[] #[.pointer (some ⟨pb,0,none⟩)],.func (.func cR.id) #[] #[.pointer (some ⟨hb,0,none⟩),.pointer (some ⟨pb,0,none⟩)],.func (.func bn.id) #[] #[.pointer (some ⟨hb,0,none⟩),.pointer (some ⟨gb,0,none⟩),.pointer (some ⟨ob,0,none⟩)],.func (.func br.id) #[] #[.pointer (some ⟨hb,0,none⟩),.pointer (some ⟨cb,0,none⟩)],.func (.func cQ.id) #[] #[.pointer (some ⟨cb,0,none⟩),.pointer (some ⟨hb,0,none⟩),.pointer (some ⟨pb,0,none⟩)]] 110):=by
  subst Vm;rfl
 rw [<-e7]at Yl;clear_value w7;clear e7;have l7:=bf Yl;generalize Gm:w6.heap.size=rb at Yl l7;have Pa:=JV.tt k7;have tu:=mf.tt Pa;clear_value w6;have hp7:=Pa.heap RM (fun h=>h);have Oh:∀j,mx.kX m.x j\/m.FX j->j<pb:=fun j e=>by
  rw [<-vS];rcases e with e|e
  ·exact C.low j (.inl (.inl (Vx j e)))
  ·exact C.low j (.inr (C.fx j e))
 have hc7:=Pa.heap NH (fun h=>h);have hh7:=Pa.heap Vj (fun h=>h);have ho7:=Pa.heap ho4 (fun h=>h);have Vn:=k7.heap hg6 (fun h=>h);have C7:=C.same tu;have X7:=X4.same Pa;have l7':=hl.same tu;have aht:=C.low;have hAo:∀a,A=some a->n≠0->a.block<w.heap.size:=fun a ha EE=>by
  obtain⟨y,hy⟩:∃y,l[0]? =some y:=⟨_,List.getElem?_eq_getElem (by omega)⟩;obtain⟨a',zc,h1,_⟩:=hl.at_ 0 y hy;rw [ha]at zc;cases zc;exact h1
 refine aN.cJ (I:=fun s v=>∃i:Nat,s=(0,(i:Int))/\i<=6/\Kept Nil w7 v/\(2<=i->p.ok)/\(3<=i->¬((l.length<1\/p.mp<(l.length:Int))\/dB l≠l))/\(4<=i->dN G.D l= [])/\(5<=i->¬sT G.D l)/\(6<=i->¬p.mm<((cP G (bQ G l) l).length:Int))) (μ:=fun s _=>(6-s.2).toNat) (s:=(0,0)) ⟨0,rfl,by omega,Kept.refl _ _,fun h=>by omega,fun h=>by omega,fun h=>by omega,fun h=>by omega,fun h=>by omega⟩ ?_;rintro⟨_,_⟩ v ⟨i,e,hi,kv,c2,c3,c4,c5,c6⟩;cases e;unfold aN.B1;have tq:=tu.tt kv;have Qw:=kv.heap Yl (fun h=>h);have No:=kv.heap ho7 (fun h=>h);refine Split.dec (fun di=>?_) (fun gF=>?_)
 ·simp only at di
  have dW:i<6:=by omega
  have kd:nM prog jP=.int .i64:=by kernel_rfl
  have stop:∀ {u:World} {e:Int} {A':Option Addr} {c':Nat},Kept (· =ob) w7 u->u.heap[ob]? =some (.cells #[.slice A' (fV p G l).1.length c'] aF (0,0))->HS u A' (fV p G l).1.length (fV p G l).1->(fV p G l).2=e->e≠0->(∀a,A'=some a->(fV p G l).1.length≠0->a.block≠ob)->
   aN.J1 ⟨ob,0,none⟩ 0 e (some ⟨rb,0,none⟩) 6 6 6 (i:Int) (bW (aN.e1 ⟨ob,0,none⟩ (some ⟨rb,0,none⟩) 6 6 6) (fun s v=>∃i:Nat,s=(0,(i:Int))/\i<=6/\Kept Nil w7 v/\(2<=i->p.ok)/\(3<=i->¬((l.length<1\/p.mp<(l.length:Int))\/dB l≠l))/\(4<=i->dN G.D l= [])/\(5<=i->¬sT G.D l)/\(6<=i->¬p.mm<((cP G (bQ G l) l).length:Int))) (fun s _=>(6-s.2).toNat) (0,(i:Int)) v (aN.q1 K)) u:=by
   intro u e A' c' ku hu hs he fW P4;unfold aN.J1;refine Split.yes (by simpa using fW) ⟨_,_,_,by rw [aE hu];rfl,dP hu (by simp),?_⟩;intro w9;have hu9:w9.heap[ob]? =some (.cells #[.slice A' (fV p G l).1.length c'] aF (0,0)):=du hu 0 _;have k9:Kept (· =ob) u w9:=Kept.setCell (S:=fun j=>j=ob) (Kept.refl _ u) (p:=⟨ob,0,none⟩) (fun _=>rfl) _;clear_value w9;rw [iQ,aN.B8];refine⟨_,_,_,by rw [aE hu9];rfl,?_⟩;rw [<-he];refine hK w9 A' _ c' ?_ ((tu.trans ku (fun j hj e=>by omega)).trans k9 (fun j hj e=>by omega));by_cases hz:(fV p G l).1.length=0
   ·have e0:=List.eq_nil_of_length_eq_zero hz
    rw [e0];exact HS.nil _ _
   ·exact hs.aK k9 (fun a ha e=>P4 a ha hz e)
  have DZ:∀ {u:World} {e:Int},Kept Nil w7 u->fV p G l=([],e)->e≠0->
   aN.J1 ⟨ob,0,none⟩ 0 e (some ⟨rb,0,none⟩) 6 6 6 (i:Int) (bW (aN.e1 ⟨ob,0,none⟩ (some ⟨rb,0,none⟩) 6 6 6) (fun s v=>∃i:Nat,s=(0,(i:Int))/\i<=6/\Kept Nil w7 v/\(2<=i->p.ok)/\(3<=i->¬((l.length<1\/p.mp<(l.length:Int))\/dB l≠l))/\(4<=i->dN G.D l= [])/\(5<=i->¬sT G.D l)/\(6<=i->¬p.mm<((cP G (bQ G l) l).length:Int))) (fun s _=>(6-s.2).toNat) (0,(i:Int)) v (aN.q1 K)) u:=by
   intro u e ku he fW;have e1:(fV p G l).1= []:=by rw [he]
   refine stop (A':=none) (c':=0) (ku.mono fun _ _ h=>h.elim) (by rw [e1];exact ku.heap ho7 (fun h=>h)) (by rw [e1];exact HS.nil _ _) (by rw [he]) fW (fun a ha=>by cases ha)
  have go:∀ {u:World},Kept Nil w7 u->(2<=i+1->p.ok)->(3<=i+1->¬((l.length<1\/p.mp<(l.length:Int))\/dB l≠l))->(4<=i+1->dN G.D l= [])->(5<=i+1->¬sT G.D l)->(6<=i+1->¬p.mm<((cP G (bQ G l) l).length:Int))->
   aN.J1 ⟨ob,0,none⟩ 0 0 (some ⟨rb,0,none⟩) 6 6 6 (i:Int) (bW (aN.e1 ⟨ob,0,none⟩ (some ⟨rb,0,none⟩) 6 6 6) (fun s v=>∃i:Nat,s=(0,(i:Int))/\i<=6/\Kept Nil w7 v/\(2<=i->p.ok)/\(3<=i->¬((l.length<1\/p.mp<(l.length:Int))\/dB l≠l))/\(4<=i->dN G.D l= [])/\(5<=i->¬sT G.D l)/\(6<=i->¬p.mm<((cP G (bQ G l) l).length:Int))) (fun s _=>(6-s.2).toNat) (0,(i:Int)) v (aN.q1 K)) u:=by
   intro u ku d2 d3 d4 d5 d6;unfold aN.J1;refine Split.no rfl ?_;rw [dE (n:=(i:Int)) (by omega) (by omega)];exact⟨(0,(i:Int)+1),rfl,⟨i+1,rfl,by omega,ku,d2,d3,d4,d5,d6⟩,by simp only;omega⟩
  refine⟨⟨by omega,by omega⟩,Is.mk rfl ?_⟩;simp-zeta only [Int.toNat_natCast];have NF:=kv.heap hc7 (fun h=>h);have Yj:=kv.heap hh7 (fun h=>h);have Uq:=kv.heap hp7 (fun h=>h);have hgv:=kv.heap Vn (fun h=>h);have Cv:=C7.same kv;have Xv:=X7.same kv;have lv:=l7'.same kv;have rd:∀(j:Nat) (z:Value),(#[.func (.func cX.id) #[] #[.pointer (some ⟨gb,0,none⟩)],.func (.func cS.id) #[] #[.pointer (some ⟨pb,0,none⟩)],.func (.func cR.id) #[] #[.pointer (some ⟨hb,0,none⟩),.pointer (some ⟨pb,0,none⟩)],.func (.func bn.id) #[] #[.pointer (some ⟨hb,0,none⟩),.pointer (some ⟨gb,0,none⟩),.pointer (some ⟨ob,0,none⟩)],.func (.func br.id) #[] #[.pointer (some ⟨hb,0,none⟩),.pointer (some ⟨cb,0,none⟩)],.func (.func cQ.id) #[] #[.pointer (some ⟨cb,0,none⟩),.pointer (some ⟨hb,0,none⟩),.pointer (some ⟨pb,0,none⟩)]]:Array Value)[j]? =some z->v.cell? ((⟨rb,0,none⟩:Addr).add (j*1))=some z:=fun j z h=>by rw [Nat.mul_one,bD,aE Qw,Nat.zero_add];exact h
  have Z3:cX.fn.body.isSome=true:=by kernel_rfl
  have XP:cS.fn.body.isSome=true:=by kernel_rfl
  have hz3:cR.fn.body.isSome=true:=by kernel_rfl
  have hz4:bn.fn.body.isSome=true:=by kernel_rfl
  have hz5:br.fn.body.isSome=true:=by kernel_rfl
  have hz6:cQ.fn.body.isSome=true:=by kernel_rfl
  have nD:cX.fn.resultTypes.toList= [jP]:=by kernel_rfl
  have jX:cS.fn.resultTypes.toList= [jP]:=by kernel_rfl
  have yZ:cR.fn.resultTypes.toList= [jP]:=by kernel_rfl
  have yg:bn.fn.resultTypes.toList= [jP]:=by kernel_rfl
  have sE:br.fn.resultTypes.toList= [jP]:=by kernel_rfl
  have X3:cQ.fn.resultTypes.toList= [jP]:=by kernel_rfl
  have RT:i=0\/i=1\/i=2\/i=3\/i=4\/i=5:=by omega
  rcases RT with rfl|rfl|rfl|rfl|rfl|rfl
  ·refine⟨.func (.func cX.id) #[] #[.pointer (some ⟨gb,0,none⟩)],rd 0 _ rfl,?_⟩
   rw [jU (fn:=cX.fn) cX.at_ Z3 rfl nD kd];refine cX.of ⟨_,by rw [aE hgv];rfl,Split.no rfl (⟨_,rfl,aN.kV (go kv (fun h=>by omega) (fun h=>by omega) (fun h=>by omega) (fun h=>by omega) (fun h=>by omega))⟩)⟩
  ·refine⟨.func (.func cS.id) #[] #[.pointer (some ⟨pb,0,none⟩)],rd 1 _ rfl,?_⟩
   rw [jU (fn:=cS.fn) cS.at_ XP rfl jX kd];refine LU Uq fun w8 k8=>⟨_,rfl,aN.kV ?_⟩;have H7:=kv.tt k8;by_cases uD:p.ok
   ·rw [if_neg (fun e=>e uD)]
    exact go H7 (fun _=>uD) (fun h=>by omega) (fun h=>by omega) (fun h=>by omega) (fun h=>by omega)
   ·rw [if_pos uD]
    exact DZ H7 (by unfold fV;rw [if_pos uD]) (by omega)
  ·refine⟨.func (.func cR.id) #[] #[.pointer (some ⟨hb,0,none⟩),.pointer (some ⟨pb,0,none⟩)],rd 2 _ rfl,?_⟩
   rw [jU (fn:=cR.fn) cR.at_ hz3 rfl yZ kd];have uD:=c2 (by omega);refine LS Yj h0 lv (by omega) Uq fun w8 e k8 he=>⟨_,rfl,aN.kV ?_⟩;have H7:=kv.tt k8;rcases he with⟨h3,rfl⟩|⟨h3,rfl⟩
   ·exact DZ H7 (by unfold fV;rw [if_neg (fun e=>e uD),if_pos h3]) (by omega)
   ·exact go H7 (fun _=>uD) (fun _=>h3) (fun h=>by omega) (fun h=>by omega) (fun h=>by omega)
  ·refine⟨.func (.func bn.id) #[] #[.pointer (some ⟨hb,0,none⟩),.pointer (some ⟨gb,0,none⟩),.pointer (some ⟨ob,0,none⟩)],rd 3 _ rfl,?_⟩
   rw [jU (fn:=bn.fn) bn.at_ hz4 rfl yg kd];have uD:=c2 (by omega);have h3:=c3 (by omega);have Gq:n≠0:=fun e=>h3 (.inl (.inl (by omega)));have hAn:∀a,A=some a->a.block≠ob:=fun a ha e=>by have:=hAo a ha Gq;omega
   have XS:∀u,Kept (· =ob) v u->XV u m.FX m.x G.D G.P mx:=fun u ku=>by
    have CV':Kept (· =ob) w u:=(tq.mono fun _ _ h=>h.elim).tt ku;exact X4.aK ((Pa.tt kv).mono (S':=fun j=>j=ob) (fun _ _ h=>h.elim) |>.tt ku) (fun j e e'=>by have:=Oh j (.inl e);omega) (fun j e e'=>by have:=Oh j (.inr e);omega)
   refine LR Xv Cv rfl Yj h0 lv (by omega) hgv No (by omega) (by omega) hAn XS (fun hm w8 k8=>⟨_,rfl,aN.kV (go (kv.tt k8) (fun _=>uD) (fun _=>h3) (fun _=>hm) (fun h=>by omega) (fun h=>by omega))⟩) fun hm w8 A8 c8 ho8 Cm k8=>⟨_,rfl,aN.kV ?_⟩;have he:fV p G l=(dN G.D l,15):=by unfold fV;rw [if_neg (fun e=>e uD),if_neg h3,if_pos hm]
   have sv:=kv.size;refine stop (A':=A8) (c':=c8) ((kv.mono fun _ _ h=>h.elim).tt k8) (by rw [he];exact ho8) (by rw [he];exact cr.hs Cm) (by rw [he]) (by omega) (fun a ha _ e=>?_);have:=(Row.bV Cm (k:=a.block) (by rw [ha];rfl)).1;omega
  ·refine⟨.func (.func br.id) #[] #[.pointer (some ⟨hb,0,none⟩),.pointer (some ⟨cb,0,none⟩)],rd 4 _ rfl,?_⟩
   rw [jU (fn:=br.fn) br.at_ hz5 rfl sE kd];have uD:=c2 (by omega);have h3:=c3 (by omega);have hm:=c4 (by omega);refine LQ Cv (by omega) Yj h0 lv (by omega) NF fun w8 e k8 he=>⟨_,rfl,aN.kV ?_⟩;have H7:=kv.tt k8;rcases he with⟨h5,rfl⟩|⟨h5,rfl⟩
   ·exact DZ H7 (by unfold fV;rw [if_neg (fun e=>e uD),if_neg h3,if_neg (fun e=>e hm),if_pos h5]) (by omega)
   ·exact go H7 (fun _=>uD) (fun _=>h3) (fun _=>hm) (fun _=>h5) (fun h=>by omega)
  ·refine⟨.func (.func cQ.id) #[] #[.pointer (some ⟨cb,0,none⟩),.pointer (some ⟨hb,0,none⟩),.pointer (some ⟨pb,0,none⟩)],rd 5 _ rfl,?_⟩
   rw [jU (fn:=cQ.fn) cQ.at_ hz6 rfl X3 kd];have uD:=c2 (by omega);have h3:=c3 (by omega);have hm:=c4 (by omega);have h5:=c5 (by omega);have wP:l≠ []:=fun e=>h3 (.inl (.inl (by rw [e];simp)));refine LP Cv (hT.same tq) hD o5 Yj h0 lv (by omega) NF Uq wP (qC.1 hm) fun w8 e k8 he=>⟨_,rfl,aN.kV ?_⟩;have H7:=kv.tt k8;rcases he with⟨h6,rfl⟩|⟨h6,rfl⟩
   ·exact DZ H7 (by unfold fV;rw [if_neg (fun e=>e uD),if_neg h3,if_neg (fun e=>e hm),if_neg h5,if_pos h6]) (by omega)
   ·exact go H7 (fun _=>uD) (fun _=>h3) (fun _=>hm) (fun _=>h5) (fun _=>h6)
 ·simp only at gF
  rw [aU,aN.dw];unfold aN.df;refine⟨dP No (by simp),?_⟩;intro w9;have hu9:w9.heap[ob]? =some (.cells #[.slice none 0 0] aF (0,0)):=du No 0 _;have k9:Kept (· =ob) v w9:=Kept.setCell (S:=fun j=>j=ob) (Kept.refl _ v) (p:=⟨ob,0,none⟩) (fun _=>rfl) _;clear_value w9;refine⟨none,0,0,by rw [aE hu9];rfl,?_⟩;have he:fV p G l=([],0):=by unfold fV;rw [if_neg (fun e=>e (c2 (by omega))),if_neg (c3 (by omega)),if_neg (fun e=>e (c4 (by omega))),if_neg (c5 (by omega)),if_neg (c6 (by omega))]
  have:=hK w9 none 0 0 (by rw [he];exact HS.nil _ _) (tq.trans k9 (fun j hj e=>by omega));rw [he]at this;exact this
end
noncomputable def xN:PP:=⟨2,5,10,0,0,0,0,10,10,fG⟩
theorem Cs:xN.ok:=by simp [PP.ok,xN]
theorem uQ(v:Value):(Fb v)[0]? =some v:=by kernel_rfl
section
variable{r a b:HT}(PV:r≠a)(Gm:r≠b)(nv:a≠b)
include Gm nv in
theorem k2b:dT [⟨r,[]⟩,⟨a,[r]⟩] b [a]=0/\mB [⟨r,[]⟩,⟨a,[r]⟩] b [a]= [⟨r,[]⟩,⟨a,[r]⟩,⟨b,[a]⟩]:=by
 have h:dT [⟨r,[]⟩,⟨a,[r]⟩] b [a]=0:=by
  unfold dT;rw [if_neg (by simp [ids];exact⟨fun e=>Gm e.symm,fun e=>nv e.symm⟩),oD,if_neg (by simp),if_neg (by simp [ids])]
 exact⟨h,by unfold mB;rw [if_pos h,oD];rfl⟩
theorem Ct{G:GS}(H:lC 2 G)(D:G.D= [⟨r,[]⟩,⟨a,[r]⟩,⟨b,[a]⟩])(di:di a b=true):fV xN G [a,b]=([],9)/\fV xN G [b]=([],0):=by
 have nv:fH G.D a b:=.one ⟨⟨b,[a]⟩,by rw [D];simp,rfl,by simp⟩;have ha:a∈ids G.D:=by rw [D];simp [ids]
 have hb:b∈ids G.D:=by rw [D];simp [ids]
 constructor
 ·have hs:dB [a,b]= [a,b]:=zX (by simp [SS,di])
  have hm:dN G.D [a,b]= []:=qC.2 (by simp [ha,hb]);unfold fV;rw [if_neg (fun e=>e Cs),if_neg,if_neg (fun e=>e hm),if_pos ⟨a,by simp,b,by simp,nv⟩];rintro((e|e)|e)
  ·simp at e
  ·simp [xN]at e
  ·exact e hs
 ·have hs:dB [b]= [b]:=oD b
  have hm:dN G.D [b]= []:=qC.2 (by simp [hb]);unfold fV;rw [if_neg (fun e=>e Cs),if_neg,if_neg (fun e=>e hm),if_neg,if_neg]
  ·have e1:bQ G [b]=b:=rfl
   rw [e1,AF];simp [xN]
  ·rintro⟨x,hx,y,hy,nC⟩
   rw [List.mem_singleton]at hx hy;subst hx hy;exact fH.irrefl H.W _ nC
  ·rintro((e|e)|e)
   ·simp at e
   ·simp [xN]at e
   ·exact e hs
end
section
variable{w w':World}{K:Value->World->Prop}
theorem mO(hK:∀w',Kept Nil w w'->K (.agg xN.cells) w'):bE prog fD.id #[] w K:=by
 refine fD.of ?_;unfold fD.W;intro w1;have Bj:w1.heap[w.heap.size]? =some (.cells (#[.int .i64 0,.int .i64 0,.int .i64 0,.int .i64 0,.int .i64 0,.int .i64 0,.int .u64 0,.int .i64 0,.int .i64 0]++fG.1) eK (0,0)):=aM w _;have k1:Kept Nil w w1:=(Kept.refl _ _).alloc _;clear_value w1;obtain⟨t1,t2,t3⟩:=gu Bj (cs:=xN.cells) (by rw [xN.size,Array.size_append,fG.2.1];rfl);rw [xN.size]at t1;refine⟨⟨xN.size,xN.one,t1⟩,xN.cells,⟨xN.size,Cells.bV t2⟩,hK _ (k1.trans t3 (fun j hj e=>by omega))⟩
set_option maxHeartbeats 2000000 in
theorem CB(hT:sS w)(hK:∀w',Kept Nil w w'->K (.bool true) w'):bE prog iJ.id #[] w K:=by
 let r:=hx 1 (by omega)
 let a:=hx 2 (by omega)
 let b:=hx 3 (by omega)
 have PV:r≠a:=CI (by omega);have Gm:r≠b:=CI (by omega);have nv:a≠b:=CI (by omega);have di:di a b=true:=by decide
 refine iJ.of ?_;unfold iJ.W;intro w1 w2 w3;have ka:Kept Nil w w1:=(Kept.refl _ _).alloc _;have nD:w1.heap[w.heap.size]? =some (.cells fG.1 al (0,0)):=aM w _;have kb:Kept Nil w1 w2:=(Kept.refl _ _).alloc _;have ha2:w2.heap[w1.heap.size]? =some (.cells fG.1 al (0,0)):=aM w1 _;have kc:Kept Nil w2 w3:=(Kept.refl _ _).alloc _;have p7:w3.heap[w2.heap.size]? =some (.cells fG.1 al (0,0)):=aM w2 _;clear_value w3;have ha3:=kc.heap ha2 (fun h=>h);have yZ:=kc.heap (kb.heap nD (fun h=>h)) (fun h=>h);have jF:=(ka.tt kb).tt kc;have l1:=bf nD;have l2:=bf ha2;have l3:=bf p7;generalize aiQ:w.heap.size=rb at yZ l1;generalize aj6:w1.heap.size=ab at ha3 l1 l2;generalize aj0:w2.heap.size=bb at p7 l2 l3;clear_value w2;clear_value w1;obtain⟨u1,u2,u3⟩:=iZ r yZ rfl;refine⟨u1,?_⟩;intro w4
 replace u2:w4.heap[rb]? =some (.cells r.1 al (0,0)):=u2
 replace u3:Kept (· =rb) w3 w4:=u3
 clear_value w4;obtain⟨v1,v2,v3⟩:=iZ a (u3.heap ha3 (by omega)) rfl;refine⟨v1,?_⟩;intro w5
 replace v2:w5.heap[ab]? =some (.cells a.1 al (0,0)):=v2
 replace v3:Kept (· =ab) w4 w5:=v3
 clear_value w5;obtain⟨x1,x2,x3⟩:=iZ b (v3.heap (u3.heap p7 (by omega)) (by omega)) rfl;refine⟨x1,?_⟩;intro nf
 replace x2:nf.heap[bb]? =some (.cells b.1 al (0,0)):=x2
 replace x3:Kept (· =bb) w5 nf:=x3
 clear_value nf;have hb:=x2;have ha:=x3.heap v2 (by omega);have hr:=x3.heap (v3.heap u2 (by omega)) (by omega);have k:Kept Nil w nf:=((jF.trans u3 (fun j hj e=>by omega)).trans v3 (fun j hj e=>by omega)).trans x3 (fun j hj e=>by omega);have hTl:=hT.lt;have s16:=k.size;have lb:=bf hb;have box:∀ {u:World} {S:Nat->Prop},Kept S nf u->(∀k,S k->nf.heap.size<=k)->u.heap[rb]? =some (.cells r.1 al (0,0))/\u.heap[ab]? =some (.cells a.1 al (0,0))/\u.heap[bb]? =some (.cells b.1 al (0,0)):=fun ku hS=>
  ⟨ku.heap hr (fun e=>by have:=hS _ e;omega),ku.heap ha (fun e=>by have:=hS _ e;omega),ku.heap hb (fun e=>by have:=hS _ e;omega)⟩
 obtain⟨c1,d1⟩:=k1 PV;obtain⟨c2,d2⟩:=k2b Gm nv;have H1:=(mN 2 r).add a [r];have H2:=H1.add b [a];have D1:(eW 2 (fg r) a [r]).D= [⟨r,[]⟩,⟨a,[r]⟩]:=by rw [tL];exact d1
 have D2:(eW 2 (eW 2 (fg r) a [r]) b [a]).D= [⟨r,[]⟩,⟨a,[r]⟩,⟨b,[a]⟩]:=by rw [tL,D1];exact d2
 obtain⟨P1,P2⟩:=Ct H2 D2 di;refine⟨r.1,⟨r.2.1,Cells.bV hr⟩,jb r (k:=2) (by omega) fun pB cc q m C hm hq yc=>⟨_,_,rfl,Split.no rfl (Split.no rfl ?_)⟩⟩;obtain⟨b1,b2,b3⟩:=box yc (fun _ h=>h.elim);refine⟨a.1,⟨a.2.1,Cells.bV b2⟩,r.1,⟨r.2.1,Cells.bV b1⟩,r.2.1,?_⟩;intro mC;have rQ:Kept Nil pB mC:=(Kept.refl _ _).alloc _;have LW:HS mC (some ⟨pB.heap.size,0,none⟩) 1 [r]:=jE pB r;clear_value mC;have CF:=yc.tt rQ;have Zm:=CF.size;refine oQ (C.same rQ) (hT.same (k.tt CF)) (fun e=>by have:=hm _ (.inl e);omega) (by simp [fg]) (by omega) LW (by omega) a fun rf F2 m2 A2 n2 p2 E2 q2 z2 C2 _ Ge Yc _ _ _ _ _=>⟨_,_,rfl,?_⟩;have om2:∀j,m2.own cc j->nf.heap.size<=j:=fun j e=>(Yc j e).elim (hm j) (fun h=>by omega);have MT:Kept (fun q=>nf.heap.size<=q) nf rf:=(CF.mono (S':=fun q=>nf.heap.size<=q) (fun _ _ h=>h.elim)).trans Ge (fun q _ h=>hm q h);obtain⟨b1,b2,b3⟩:=box MT (fun _ h=>h);refine⟨b.1,⟨b.2.1,Cells.bV b3⟩,a.1,⟨a.2.1,Cells.bV b2⟩,a.2.1,?_⟩;intro Hp;have MS:Kept Nil rf Hp:=(Kept.refl _ _).alloc _;have Wf:HS Hp (some ⟨rf.heap.size,0,none⟩) 1 [a]:=jE rf a;clear_value Hp;have Ij:=MT.trans MS (fun _ _ h=>h.elim);have s31:=Ij.size;refine oQ (C2.same MS) ((hT.same k).aK Ij (fun e=>by omega)) (fun e=>by have:=om2 _ (.inl e);omega) (by rw [D1];simp) (by omega) Wf (by omega) b fun qu F3 m3 A3 n3 p3 E3 q3 z3 C3 _ zx hm3 _ _ _ _ _=>⟨_,_,rfl,?_⟩;have Ii:Kept (fun q=>nf.heap.size<=q) nf qu:=Ij.trans zx (fun q _ h=>om2 q h);have Ws:sS qu:=(hT.same k).aK Ii (fun e=>by omega);have k0:∀ {u:World},Kept Nil qu u->Kept Nil w u:=fun ku=>k.trans (Ii.trans ku (fun _ _ h=>h.elim)) (fun q hq e=>by omega)
 obtain⟨b1,b2,b3⟩:=box Ii (fun _ h=>h);have hD2:(eW 2 (eW 2 (fg r) a [r]) b [a]).D.length<=49:=by rw [D2];simp
 generalize eW 2 (eW 2 (fg r) a [r]) b [a]=G2 at C3 hD2 P1 P2;have VH:∀ {u:World} {A:Option Addr} {K':Value->World->Prop},Kept Nil qu u->HS u A 2 [a,b]->(∀w' A' n' c',Kept Nil qu w'->K' (.tuple #[.slice A' n' c',.int .i64 9]) w')->bE prog aN.id #[.agg xN.cells,.pointer (some ⟨cc,0,none⟩),.agg (Fb (.slice A 2 2))] u K':=fun ku hs hk=>
  mi (C3.same ku) (Ws.same ku) hD2 (by omega) xN (uQ _) hs (by omega) fun w' A' n' c' _ k'=>by
   rw [P1];exact hk w' A' n' c' (ku.tt k')
 have VG:∀ {u:World} {A:Option Addr} {K':Value->World->Prop},Kept Nil qu u->HS u A 1 [b]->(∀w' A' n' c',Kept Nil qu w'->K' (.tuple #[.slice A' n' c',.int .i64 0]) w')->bE prog aN.id #[.agg xN.cells,.pointer (some ⟨cc,0,none⟩),.agg (Fb (.slice A 1 1))] u K':=fun ku hs hk=>
  mi (C3.same ku) (Ws.same ku) hD2 (by omega) xN (uQ _) hs (by omega) fun w' A' n' c' _ k'=>by
   rw [P2];exact hk w' A' n' c' (ku.tt k')
 have fin:∀ {u:World},Kept Nil qu u->bE prog fD.id #[] u fun pe qe=>∃re:Array Value,pe=.agg re/\bE prog bS.id #[.agg re] qe fun te ue=>∃ve:Bool,te=.bool ve/\K (.bool ve) ue:=fun ku=>
  mO fun w1 k1=>⟨_,rfl,oX xN fun w2 k2=>⟨_,rfl,by rw [decide_eq_true Cs];exact hK w2 (k0 ((ku.tt k1).tt k2))⟩⟩
 intro mZ;have wM:Kept Nil qu mZ:=(Kept.refl _ _).drew;clear_value mZ;have Wo:=wM.heap b2 (fun h=>h);have I7:=wM.heap b3 (fun h=>h);have half:∀ {va:World},Kept Nil qu va->va.heap[bb]? =some (.cells b.1 al (0,0))->
  (let be:World:=va.drew;∃ce:Array Value,(ce.size=32/\Cells be (⟨bb,0,none⟩:Addr) ce)/\(bE prog fD.id #[] be fun de ee=>∃fe:Array Value,de=.agg fe/\(∃cs:Array Value,(.agg ce:Value)=.agg cs/\cs.size=32/\Cells ee (⟨bb,0,none⟩:Addr) cs)/\ce.size=32/\(let ge:World:=ee.alloc (.cells (ce.toList++ []).toArray al);bE prog aN.id #[.agg fe,.pointer (some ⟨cc,0,none⟩),.agg (Fb (.slice (some (aV ee.heap.size)) 1 1))] ge fun ie je=>∃ke:Option Addr,∃me ne:Nat,∃oe:Int,ie=.tuple #[.slice ke me ne,.int .i64 oe]/\Split ((9:Int)==(9:Int)) (Split (oe==(0:Int)) (bE prog fD.id #[] je fun pe qe=>∃re:Array Value,pe=.agg re/\bE prog bS.id #[.agg re] qe fun te ue=>∃ve:Bool,te=.bool ve/\K (.bool ve) ue) (K (.bool false) je)) (K (.bool false) je)))/\
    (ce.size=32/\(let xe:World:=be.alloc (.cells (ce.toList++ []).toArray al);bE prog fD.id #[] xe fun ye ze=>∃aj:Array Value,ye=.agg aj/\bE prog aN.id #[.agg aj,.pointer (some ⟨cc,0,none⟩),.agg (Fb (.slice (some (aV be.heap.size)) 1 1))] ze fun bj cj=>∃dj:Option Addr,∃ej fj:Nat,∃gj:Int,bj=.tuple #[.slice dj ej fj,.int .i64 gj]/\Split ((9:Int)==(9:Int)) (Split (gj==(0:Int)) (bE prog fD.id #[] cj fun ij jj=>∃kj:Array Value,ij=.agg kj/\bE prog bS.id #[.agg kj] jj fun mj nj=>∃oj:Bool,mj=.bool oj/\K (.bool oj) nj) (K (.bool false) cj)) (K (.bool false) cj)))):=by
  intro va kva C5 be;have kbe:Kept Nil va be:=(Kept.refl _ _).drew;clear_value be;have zx:=kva.tt kbe;have hbe:=kbe.heap C5 (fun h=>h);refine⟨b.1,⟨b.2.1,Cells.bV hbe⟩,?_,b.2.1,?_⟩
  ·refine mO fun ee ke=>⟨_,rfl,⟨_,rfl,b.2.1,Cells.bV (ke.heap hbe (fun h=>h))⟩,b.2.1,?_⟩
   intro ge;have kge:Kept Nil ee ge:=(Kept.refl _ _).alloc _;have gF:HS ge (some ⟨ee.heap.size,0,none⟩) 1 [b]:=jE ee b;clear_value ge;exact VG ((zx.tt ke).tt kge) gF fun w' A' n' c' k'=>⟨A',n',c',_,rfl,Split.yes rfl (Split.yes rfl (fin k'))⟩
  ·intro xe
   have kxe:Kept Nil be xe:=(Kept.refl _ _).alloc _;have Z5:HS xe (some ⟨be.heap.size,0,none⟩) 1 [b]:=jE be b;clear_value xe;refine mO fun ze ke=>⟨_,rfl,?_⟩;exact VG ((zx.tt kxe).tt ke) (Z5.same ke) fun w' A' n' c' k'=>⟨A',n',c',_,rfl,Split.yes rfl (Split.yes rfl (fin k'))⟩
 refine⟨a.1,⟨a.2.1,Cells.bV Wo⟩,b.1,⟨b.2.1,Cells.bV I7⟩,?_,a.2.1,b.2.1,?_⟩
 ·refine mO fun jG nh=>⟨_,rfl,⟨_,rfl,b.2.1,Cells.bV (nh.heap I7 (fun h=>h))⟩,⟨_,rfl,a.2.1,Cells.bV (nh.heap Wo (fun h=>h))⟩,a.2.1,b.2.1,?_⟩
  intro rO;have rP:Kept Nil jG rO:=(Kept.refl _ _).alloc _;have acs:HS rO (some ⟨jG.heap.size,0,none⟩) 2 [a,b]:=HS.lay (l:= [a,b]) (t:=al) (aM jG (.cells (dv [a,b]).toArray al));clear_value rO;refine VH ((wM.tt nh).tt rP) acs fun wL A' n' c' yS=>⟨A',n',c',_,rfl,?_⟩;exact half yS (yS.heap b3 (fun h=>h))
 ·intro jG
  have nh:Kept Nil mZ jG:=(Kept.refl _ _).alloc _;have LV:HS jG (some ⟨mZ.heap.size,0,none⟩) 2 [a,b]:=HS.lay (l:= [a,b]) (t:=al) (aM mZ (.cells (dv [a,b]).toArray al));clear_value jG;refine mO fun rO rP=>⟨_,rfl,?_⟩;refine VH ((wM.tt nh).tt rP) (LV.same rP) fun wL A' n' c' yS=>⟨A',n',c',_,rfl,?_⟩;exact half yS (yS.heap b3 (fun h=>h))
end
section
variable{w w' v:World}{K:Value->World->Prop}{n cx:Nat}{A:Option Addr}{l:List HT}{FR:Nat->Prop}{r x k:Nat}{G:GS}{hd:Array Value}{p:PP}
set_option maxHeartbeats 2000000 in
theorem uB(R:R3 w FR r x k G)(hD:G.D.length<=300)(o5:k<=1000)(p:PP)(h0:hd[0]? =some (.slice A n cx))(hl:HS w A n l)(hn:n<=1000)
 (hK:∀w' A' n' c',HS w' A' n' (fV p G l).1->Kept Nil w w'->K (.tuple #[.slice A' n' c',.int .i64 (fV p G l).2]) w'):
 bE prog aG.id #[.agg p.cells,.pointer (some ⟨r,0,none⟩),.agg hd] w K:=by
 have hlen:=hl.len;have W:=R.iA.W;refine aG.of ?_;unfold aG.W;intro w1 w2;have k1:Kept Nil w w1:=(Kept.refl _ _).alloc _;have Lt:w1.heap[w.heap.size]? =some (.cells p.cells eK (0,0)):=aM w _;have k2:Kept Nil w1 w2:=(Kept.refl _ _).alloc _;have Yk:w2.heap[w1.heap.size]? =some (.cells hd jv (0,0)):=aM w1 _;clear_value w2;have EC:=k2.heap Lt (fun h=>h);have mr:=k1.tt k2;generalize ai1:w.heap.size=pb at EC;generalize ajG:w1.heap.size=hb at Yk;clear_value w1;have stop:∀ {u:World} {e:Int},Kept Nil w u->fV p G l=([],e)->K (.tuple #[.slice none 0 0,.int .i64 e]) u:=fun ku he=>by
  have:=hK _ none 0 0 (by rw [he];exact HS.nil _ _) ku;rw [he]at this;exact this
 refine⟨p.cells,⟨p.size,Cells.bV EC⟩,uA p fun w3 k3=>⟨_,rfl,?_⟩⟩;have jF:=mr.tt k3;by_cases uD:¬p.ok
 ·exact Split.yes (by rw [decide_eq_false uD];rfl) (stop jF (by unfold fV;rw [if_pos uD]))
 have aaW:p.ok:=Classical.byContradiction uD;refine Split.no (by rw [decide_eq_true aaW];rfl) ⟨A,n,cx,oO (k3.heap Yk (fun h=>h)) h0,?_⟩;have h9:((l.length<1\/p.mp<(l.length:Int))\/dB l≠l)->fV p G l=([],9):=fun h=>by unfold fV;rw [if_neg uD,if_pos h]
 refine Split.dec (fun h1=>stop jF (h9 (.inl (.inl (by omega))))) (fun h1=>⟨p.mp,by rw [bD,aE (k3.heap EC (fun h=>h))];exact p.Jn,Split.dec (fun h2=>stop jF (h9 (.inl (.inr (by omega))))) (fun h2=>?_)⟩);refine oI (hl.same jF) (by omega) fun A4 c4 w4 jW k4=>⟨A4,_,c4,rfl,?_⟩;have mf:=jF.tt k4;have BT:=ny l;refine xM (cr.hs jW) (hl.same mf) (by omega) fun w5 k5=>⟨_,rfl,?_⟩;have nA:=mf.tt k5;by_cases hs:dB l≠l
 ·exact Split.yes (by rw [decide_eq_false hs];rfl) (stop nA (h9 (.inr hs)))
 have nN:dB l=l:=Classical.byContradiction hs;have h3:¬((l.length<1\/p.mp<(l.length:Int))\/dB l≠l):=fun e=>by
  rcases e with(e|e)|e
  ·omega
  ·omega
  ·exact hs e
 refine Split.no (by rw [decide_eq_true nN];rfl) ?_;have s5:=nA.size;have hp5:=((k3.tt k4).tt k5).heap EC (fun h=>h);refine aG.cJ (I:=fun s v=>∃(i:Nat) (A':Option Addr) (c':Nat),s=(A',(dN G.D (l.take i)).length,c',(i:Int))/\i<=n/\cr v w5.heap.size A' (dN G.D (l.take i)).length c' (dN G.D (l.take i))/\Kept Nil w5 v) (μ:=fun s _=>((n:Int)-s.2.2.2).toNat) (s:=(none,0,0,0)) ⟨0,none,0,rfl,Nat.zero_le _,cr.nil _ _,Kept.refl _ _⟩ ?_;rintro⟨A',_,c',_⟩ v ⟨i,_,_,e,hi,row,kv⟩;cases e;have tq:=nA.tt kv;unfold aG.B1;refine Split.dec (fun di=>?_) (fun gF=>?_)
 ·simp only at di
  have dW:i<n:=by omega
  obtain⟨y,hy⟩:∃y,l[i]? =some y:=⟨_,List.getElem?_eq_getElem (by omega)⟩;intro w6;have k6:Kept Nil v w6:=(Kept.refl _ _).drew;clear_value w6;have nn:=tq.tt k6;have R6:=R.same nn;refine Is.mk rfl ⟨_,R6.c1,Is.mk rfl ?_⟩;refine HS.load (hl.same nn) (i:=(i:Int)) (x:=y) (by omega) (by rw [Int.toNat_natCast];exact hy) ?_;rw [add_zero];refine oK R6.X.gr (by omega) y fun w7 k7=>⟨_,rfl,?_⟩;have Tk:=k6.tt k7;have Gb:=kv.tt Tk;have tu:=nA.tt Gb;have nu:=vF (D:=G.D) hy;have wU:cr w7 w5.heap.size A' (dN G.D (l.take i)).length c' (dN G.D (l.take i)):=Row.aK row Tk (fun _ _ h=>h);by_cases hm:y∈ids G.D
  ·rw [if_pos hm,List.append_nil]at nu
   have hat:=rJ.2 hm;refine Split.no (decide_eq_false (by omega)) ?_;simp only;rw [dE (n:=(i:Int)) (by omega) (by omega)];exact⟨(A',(dN G.D (l.take i)).length,c',(i:Int)+1),rfl,⟨i+1,A',c',by rw [nu];rfl,dW,by rw [nu];exact wU,Gb⟩,by simp only;omega⟩
  ·rw [if_neg hm]at nu
   refine Split.yes (decide_eq_true (qH.2 hm)) ?_;refine HS.load (hl.same tu) (i:=(i:Int)) (x:=y) (by omega) (by rw [Int.toNat_natCast];exact hy) ⟨y.2.1,?_⟩;intro w8;have k8:Kept Nil w7 w8:=(Kept.refl _ _).alloc _;have NV:HS w8 (some ⟨w7.heap.size,0,none⟩) 1 [y]:=jE w7 y;clear_value w8;have Cm:cr w8 w5.heap.size A' (dN G.D (l.take i)).length c' (dN G.D (l.take i)):=Row.aK wU k8 (fun _ _ h=>h);have Em:=Gb.tt k8;have s8:=Em.size;have Gr:=AD G.D (l.take i);rw [List.length_take]at Gr;obtain⟨A9,c9,w9,hr9,KC,g9,_⟩:=dd aF Cm (cx:=1) NV (by omega) s8;refine⟨A9,_,c9,w9,hr9,?_⟩;simp only;rw [dE (n:=(i:Int)) (by omega) (by omega)];have el:(dN G.D (l.take (i+1))).length=(dN G.D (l.take i)).length+1:=by rw [nu,List.length_append];rfl
   exact⟨(A9,(dN G.D (l.take i)).length+1,c9,(i:Int)+1),rfl,⟨i+1,A9,c9,by rw [el];rfl,dW,by rw [el,nu];exact KC,Kept.dX Em g9 (fun j hj=>(Row.bV Cm hj).1)⟩,by simp only;omega⟩
 simp only at gF;rw [aU,aG.dw];unfold aG.df;rw [List.take_of_length_le (by omega)]at row⊢;by_cases hm:dN G.D l≠ []
 ·have:=List.length_pos_iff.2 hm
  have he:fV p G l=(dN G.D l,15):=by unfold fV;rw [if_neg uD,if_neg h3,if_pos hm]
  refine Split.yes (decide_eq_true (by simp only;omega)) ?_;have:=hK v A' (dN G.D l).length c' (by rw [he];exact cr.hs row) tq;rw [he]at this;exact this
 have np:dN G.D l= []:=Classical.byContradiction hm;have gC:=qC.1 np;refine Split.no (by rw [np];rfl) ?_;have wP:l≠ []:=fun e=>h3 (.inl (.inl (by rw [e];simp)));refine aG.iz (I:=fun s u=>∃i:Nat,s=(none,0,0,0,(i:Int))/\i<=n/\Kept Nil v u/\∀a∈l.take i,∀b∈l,¬fH G.D a b) (μ:=fun s _=>((n:Int)-s.2.2.2.2).toNat) (s:=(none,0,0,0,0)) ⟨0,rfl,Nat.zero_le _,Kept.refl _ _,by simp⟩ ?_;rintro s u ⟨i2,rfl,BW,ku,cY⟩;unfold aG.B2;refine Split.dec (fun LA=>?_) (fun LH=>?_)
 ·simp only at LA
  have Qj:i2<n:=by omega
  obtain⟨y,hy⟩:∃y,l[i2]? =some y:=⟨_,List.getElem?_eq_getElem (by omega)⟩;refine aG.sr (I:=fun s t=>∃q:Nat,s=(none,0,0,0,(q:Int))/\q<=n/\Kept Nil v t/\∀b∈l.take q,¬fH G.D y b) (μ:=fun s _=>((n:Int)-s.2.2.2.2).toNat) (s:=(none,0,0,0,0)) ⟨0,rfl,Nat.zero_le _,ku,by simp⟩ ?_;rintro s t ⟨q,rfl,hq,kt,Ja⟩;unfold aG.B3;refine Split.dec (fun abm=>?_) (fun abD=>?_)
  ·simp only at abm
   have IM:q<n:=by omega
   obtain⟨z,hz⟩:∃z,l[q]? =some z:=⟨_,List.getElem?_eq_getElem (by omega)⟩;intro w6;have k6:Kept Nil t w6:=(Kept.refl _ _).drew;clear_value w6;have KW:=kt.tt k6;have nn:=tq.tt KW;have R6:=R.same nn;refine Is.mk rfl ⟨_,R6.c1,Is.mk rfl ?_⟩;refine HS.load (hl.same nn) (i:=(i2:Int)) (x:=y) (by omega) (by rw [Int.toNat_natCast];exact hy) ?_;refine HS.load (hl.same nn) (i:=(q:Int)) (x:=z) (by omega) (by rw [Int.toNat_natCast];exact hz) ?_;rw [add_zero];refine oJ R6.X.gr W (by omega) y z fun w7 b hb k7=>⟨b,rfl,?_⟩;have Tk:=KW.tt k7;cases b with
   |true=>
    refine Split.yes rfl (stop (tq.tt Tk) ?_);unfold fV;rw [if_neg uD,if_neg h3,if_neg hm,if_pos ⟨y,List.mem_of_getElem? hy,z,List.mem_of_getElem? hz,hb.1 rfl⟩]
   |false=>
    refine Split.no rfl ?_;simp only;rw [dE (n:=(q:Int)) (by omega) (by omega)];refine⟨(none,0,0,0,(q:Int)+1),rfl,⟨q+1,rfl,IM,Tk,fun b uI e=>?_⟩,by simp only;omega⟩;rcases(bP hz).1 uI with uI|rfl
    ·exact Ja b uI e
    ·have:=hb.2 e
     cases this
  ·simp only at abD
   rw [aU,aG.yA];unfold aG.tM;rw [List.take_of_length_le (by omega)]at Ja;simp only;rw [dE (n:=(i2:Int)) (by omega) (by omega)];refine⟨(none,0,0,0,(i2:Int)+1),rfl,⟨i2+1,rfl,Qj,kt,fun a ha b hb e=>?_⟩,by simp only;omega⟩;rcases(bP hy).1 ha with ha|rfl
   ·exact cY a ha b hb e
   ·exact Ja b hb e
 simp only at LH;rw [aU,aG.ki];unfold aG.jc;rw [List.take_of_length_le (by omega)]at cY;have h5:¬sT G.D l:=fun⟨a,ha,b,hb,e⟩=>cY a ha b hb e;have MV:=tq.tt ku;have Ez:bQ G l∈ids G.D:=gC _ (jg wP);refine oY (R.same MV) (by omega) (hl.same MV) wP (by omega) gC fun w6 k6=>⟨_,rfl,?_⟩;have nn:=MV.tt k6;refine qR (R.same nn) hD o5 Ez (hl.same nn) (by omega) gC fun w7 A7 n7 c7 E7 e7 d7 W7 nw cw r7 _ _ k7=>⟨_,W7,nw,cw,rfl,?_⟩;have tu:=nn.tt k7;intro w8;obtain⟨u1,u2,u3⟩:=ES w7 (dr k G (bQ G l) l) A7 n7 c7 E7 e7 d7;refine⟨u1,?_⟩;intro w9
 replace u2:w9.heap[w7.heap.size]? =some (.cells (dp (dr k G (bQ G l) l) A7 n7 c7 E7 e7 d7) bK (0,0)):=u2
 replace u3:Kept Nil w7 w9:=u3
 clear_value w9;have BQ:=tu.tt u3;have hn7:=(cr.hs r7).len;have P9:(dr k G (bQ G l) l).merge=cP G (bQ G l) l:=rfl;rw [P9]at hn7;have Tv:=(((kv.tt ku).tt k6).tt k7).tt u3;refine⟨A7,n7,c7,(wz u2).2.2.1,p.mm,by rw [bD,aE (Tv.heap hp5 (fun h=>h))];exact p.Df,?_⟩;rw [<-hn7];refine Split.dec (fun h6=>stop BQ ?_) (fun h6=>stop BQ ?_)
 ·unfold fV
  rw [if_neg uD,if_neg h3,if_neg hm,if_neg h5,if_pos (by omega)]
 ·unfold fV
  rw [if_neg uD,if_neg h3,if_neg hm,if_neg h5,if_neg (by omega)]
end
section
variable{w w' v:World}{S F FP FR:Nat->Prop}{c r x:Nat}{G:GS}{m:CM}{K:Value->World->Prop}
set_option maxHeartbeats 2000000 in
theorem DB{A:Option Addr}{n cx:Nat}{l:List DN}(hl:NS w FP A n l)(hn:n<9223372036854775808)(kk:Int)(root:HT)(hT:sS w)
 (mG:∀v,Kept Nil w v->K (.tuple #[.pointer none,.pointer none,.bool false,.bool true]) v)
 (hK:∀v F c m FR r x (k:Nat),kk=(k:Int)->k<=6->adg l 18->lG v F c m FR r x k (Dy k root l)->Kept Nil w v->(∀j,m.own c j\/F j\/FR j\/j=r\/j=x->w.heap.size<=j)->K (.tuple #[.pointer (some ⟨c,0,none⟩),.pointer (some ⟨r,0,none⟩),.bool true,.bool true]) v):
 bE prog aC.id #[.int .i64 kk,.agg root.1,.slice A n cx] w K:=by
 have hlen:=hl.len;refine aC.of ?_;unfold aC.W;intro w1;have k1:Kept Nil w w1:=(Kept.refl _ _).alloc _;have Bj:w1.heap[w.heap.size]? =some (.cells root.1 al (0,0)):=aM w _;clear_value w1;refine Split.dec (fun _=>mG w1 k1) (fun Kg=>Split.dec (fun _=>mG w1 k1) (fun oZ=>Split.dec (fun _=>mG w1 k1) (fun UP=>?_)));have UP:n<=18:=by omega
 refine aC.cJ (I:=fun s v=>v=w1/\∃i:Nat,s=(none,none,false,false,(i:Int))/\i<=n/\∀nd∈l.take i,nd.ps.length<=6) (μ:=fun s _=>((n:Int)-s.2.2.2.2).toNat) (s:=(none,none,false,false,0)) ⟨rfl,0,rfl,Nat.zero_le _,by simp⟩ ?_;rintro s v ⟨rfl,i,rfl,hi,cY⟩;unfold aC.B1;refine Split.dec (fun jY=>?_) (fun gF=>?_)
 ·simp only at jY
  have dW:i<n:=by omega
  obtain⟨nd,gU⟩:∃nd,l[i]? =some nd:=⟨_,List.getElem?_eq_getElem (by omega)⟩;refine(hl.same k1).ps (i:=(i:Int)) (by omega) (by rw [Int.toNat_natCast];exact gU) fun pA pn pc sF _=>?_;have rT:=sF.len;refine Split.dec (fun yi=>mG v k1) (fun hle=>?_);simp only;rw [iY (x:=(i:Int)+1) (by omega) (by omega)];refine⟨(none,none,false,false,(i:Int)+1),rfl,⟨rfl,i+1,rfl,dW,fun md hm=>?_⟩,by simp only;omega⟩;rw [List.take_add_one,gU]at hm;simp only [Option.toList_some,List.mem_append,List.mem_singleton]at hm;rcases hm with hm|rfl
  ·exact cY md hm
  ·omega
 simp only at gF;rw [aU,aC.dw];unfold aC.df;rw [List.take_of_length_le (by omega)]at cY;obtain⟨k,rfl⟩:∃k':Nat,kk=(k':Int):=⟨kk.toNat,by omega⟩;have hk6:k<=6:=by omega
 have sF:∀nd∈l,nd.ps.length<=1000:=fun nd h=>by have:=cY nd h;omega
 have hn:=UP;refine⟨root.1,⟨root.2.1,Cells.bV Bj⟩,?_⟩;refine jb root (by omega) fun w2 c q m C hm hq k2=>⟨_,_,rfl,Split.no rfl (Split.no rfl ⟨root.1,⟨root.2.1,Cells.bV (k2.heap Bj (fun h=>h))⟩,?_⟩)⟩;refine yK root k fun w3 r x FR R hFR hr hx k3=>⟨_,rfl,?_⟩;have s1:=k1.size;have s2:=k2.size;have jF:=(k1.tt k2).tt k3;have B0:lG w3 (· =q) c m FR r x k (fg root):=⟨C.same k3,R,fun j hj=>by
  have gF:w2.heap.size<=j:=by rcases hj with rfl|rfl;exact hr;exact hx
  exact⟨fun e=>by have:=C.low j (.inl e);omega,fun e=>by have:=C.low j (.inr e);omega⟩,fun j hj e=>by have:=hFR j hj;have:=C.low j (.inl e);omega⟩
 refine aC.iz (I:=fun s v=>∃(i:Nat) (F:Nat->Prop) (m:CM) (FR:Nat->Prop),s=(none,none,false,false,(i:Int))/\i<=n/\lG v F c m FR r x k ((l.take i).foldl (fun G s=>eW k G s.id s.ps) (fg root))/\Kept Nil w v/\∀j,m.own c j\/F j\/FR j\/j=r\/j=x->w.heap.size<=j) (μ:=fun s _=>((n:Int)-s.2.2.2.2).toNat) (s:=(none,none,false,false,0)) ⟨0,(· =q),m,FR,rfl,Nat.zero_le _,B0,jF,fun j e=>by
  rcases e with e|e|e|e|e
  ·have:=hm j e;omega
  ·have e:j=q:=e;omega
  ·have:=hFR j e;omega
  ·omega
  ·omega⟩ ?_
 clear B0 hFR hm C R hq k2 k3;rintro s v ⟨i,F,m,FR,rfl,hi,B,kv,CZ⟩;unfold aC.B2;refine Split.dec (fun di=>?_) (fun gF=>?_)
 ·simp only at di
  have dW:i<n:=by omega
  obtain⟨nd,gU⟩:∃nd,l[i]? =some nd:=⟨_,List.getElem?_eq_getElem (by omega)⟩;have uF:l[((i:Nat):Int).toNat]? =some nd:=by rw [Int.toNat_natCast];exact gU
  have rT:=sF nd (List.mem_of_getElem? gU);have Nb:=Dh (k:=k) (G:=fg root) gU;have Yz:=tF k (l.take i) (fg root);rw [List.length_take]at Yz;have hD1:(fg root).D.length=1:=rfl;generalize hG:(l.take i).foldl (fun G s=>eW k G s.id s.ps) (fg root)=G at B Nb Yz;have hTl:=hT.lt;have oN:=B.low;have sv:=kv.size;have j2:∀ {u:World} {F' YX:Nat->Prop} {m':CM},lG u F' c m' YX r x k (eW k G nd.id nd.ps)->Kept Nil w u->(∀j,m'.own c j\/F' j\/YX j\/j=r\/j=x->w.heap.size<=j)->
   aC.J2 A n cx none none false false (some ⟨c,0,none⟩) (some ⟨r,0,none⟩) (i:Int) (dT G.D nd.id nd.ps) (dT G.D nd.id nd.ps) (bW (aC.e2 A n cx (some ⟨c,0,none⟩) (some ⟨r,0,none⟩)) (fun s v=>∃(i:Nat) (F:Nat->Prop) (m:CM) (FR:Nat->Prop),s=(none,none,false,false,(i:Int))/\i<=n/\lG v F c m FR r x k ((l.take i).foldl (fun G s=>eW k G s.id s.ps) (fg root))/\Kept Nil w v/\∀j,m.own c j\/F j\/FR j\/j=r\/j=x->w.heap.size<=j) (fun s _=>((n:Int)-s.2.2.2.2).toNat) (none,none,false,false,(i:Int)) v (aC.q2 K)) u:=by
   intro u F' YX m' B' ku abL;unfold aC.J2;refine Split.no (by simp) ?_;rw [dE (n:=(i:Int)) (by omega) (by omega)];refine⟨(none,none,false,false,(i:Int)+1),rfl,⟨i+1,F',m',YX,rfl,dW,?_,ku,abL⟩,by simp only;omega⟩;rw [Nb];exact B'
  have j1:∀ {u u0:World} {F':Nat->Prop} {m':CM},CV u0 F' c k (eW k G nd.id nd.ps) m'->Kept (m.own c) v u0->(∀j,m'.own c j->m.own c j\/v.heap.size<=j)->(∀j,F' j->F j\/v.heap.size<=j)->Kept Nil u0 u->
   aC.J1 A n cx none none false false (some ⟨c,0,none⟩) (some ⟨r,0,none⟩) (i:Int) (dT G.D nd.id nd.ps) (bW (aC.e2 A n cx (some ⟨c,0,none⟩) (some ⟨r,0,none⟩)) (fun s v=>∃(i:Nat) (F:Nat->Prop) (m:CM) (FR:Nat->Prop),s=(none,none,false,false,(i:Int))/\i<=n/\lG v F c m FR r x k ((l.take i).foldl (fun G s=>eW k G s.id s.ps) (fg root))/\Kept Nil w v/\∀j,m.own c j\/F j\/FR j\/j=r\/j=x->w.heap.size<=j) (fun s _=>((n:Int)-s.2.2.2.2).toNat) (none,none,false,false,(i:Int)) v (aC.q2 K)) u:=by
   intro u u0 F' m' hC k0 np Jf ku;unfold aC.J1;have ZF:Kept Nil w u0:=kv.trans k0 (fun j hj e=>by have:=CZ j (.inl e);omega);have Rv:Kept Nil w u:=ZF.tt ku;have suv:=k0.size;have suu:=ku.size;intro u1;have F9:Kept Nil u u1:=(Kept.refl _ _).drew;clear_value u1;have F6:=Rv.tt F9;have s11:=F9.size;have TO:∀ {t:World},Kept Nil w t->Cells t (((A.get!).add (((i:Nat):Int).toNat*33)).add 0) nd.id.1:=by
    intro t kt;obtain⟨a,pA,pn,pc,rfl,_,_,h4,_,_⟩:=(hl.aK kt (fun _ _ h=>h)).at_ i nd gU;intro j z hj;rw [add_zero,Int.toNat_natCast];exact h4 j z (vv hj)
   have ps1:∃a pA pn pc,A=some a/\HS w pA pn nd.ps/\∀ {t:World},Kept Nil w t->t.cell? ((a.add (((i:Nat):Int).toNat*33)).add 32)=some (.slice pA pn pc):=by
    obtain⟨a,pA,pn,pc,rfl,_,_,h4,h5,_⟩:=hl.at_ i nd gU;exact⟨a,pA,pn,pc,rfl,h5,fun kt=>by rw [Int.toNat_natCast];exact kt.cell (h4 32 _ (qz _ _)) (fun h=>h)⟩
   obtain⟨a,pA,pn,pc,rfl,CS,rU⟩:=ps1;have Lr:=CS.len;have hb:0<=(i:Int)/\(i:Int)<(n:Int):=⟨by omega,by omega⟩;refine⟨hb,Is.mk rfl ⟨nd.id.1,⟨nd.id.2.1,TO F6⟩,hb,Is.mk rfl ⟨pA,pn,pc,rU F6,?_,?_⟩⟩⟩
   ·obtain⟨hR,QM⟩:=B.after k0 np Jf hC (ku.tt F9)
    refine vr hR (by omega) (by omega) (CS.same F6) (by omega) nd.id fun t A2 n2 p2 E2 e2 q2 hRt kt Yc nE acA=>⟨_,_,rfl,?_⟩;have B':=QM t hRt kt;have st:=kt.size;intro t1;have kt1:Kept Nil t t1:=(Kept.refl _ _).alloc _;have M6:t1.heap[t.heap.size]? =some (.cells zC bK (0,0)):=aM t _;clear_value t1;obtain⟨z1,z2,z3⟩:=gu M6 (cs:=dp (qm k G nd.id nd.ps) A2 n2 p2 E2 e2 q2) (by rw [bI];rfl);refine⟨⟨bI ..,fE _ _ _ _ _ _ _,fun j hj=>z1 j (by rw [bI];exact hj)⟩,?_⟩;have kt2:Kept Nil t (setCells t1 ⟨t.heap.size,0,none⟩ (dp (qm k G nd.id nd.ps) A2 n2 p2 E2 e2 q2).toList 0):=kt1.trans z3 (fun j hj e=>by omega);refine aC.qW (j2 (B'.same kt2) (F6.trans (kt.trans kt2 (fun _ _ h=>h.elim)) (fun j hj e=>by have:=CZ j (.inr (.inr (.inr e)));omega)) fun j e=>?_);rcases e with e|e|(e|e)|e
    ·rcases np j e with e|e
     ·exact CZ j (.inl e)
     ·omega
    ·rcases Jf j e with e|e
     ·exact CZ j (.inr (.inl e))
     ·omega
    ·exact CZ j (.inr (.inr (.inl e)))
    ·omega
    ·exact CZ j (.inr (.inr (.inr e)))
   ·intro u2
    have JU:Kept Nil u1 u2:=(Kept.refl _ _).alloc _;have Lh:u2.heap[u1.heap.size]? =some (.cells zC bK (0,0)):=aM u1 _;clear_value u2;have KS:=F6.tt JU;have s22:=JU.size;refine⟨rU KS,⟨_,rfl,nd.id.2.1,TO KS⟩,?_⟩;obtain⟨hR,QM⟩:=B.after k0 np Jf hC ((ku.tt F9).tt JU);refine vr hR (by omega) (by omega) (CS.same KS) (by omega) nd.id fun t A2 n2 p2 E2 e2 q2 hRt kt Yc nE acA=>⟨_,_,rfl,?_⟩;have B':=QM t hRt kt;have st:=kt.size;have nrx:∀j,v.heap.size<=j->¬(j=r\/j=x):=fun j hj e=>by have:=oN j (.inr (.inr (.inr e)));omega
    have hxt:=kt.heap Lh (nrx _ (by omega));obtain⟨z1,z2,z3⟩:=gu hxt (cs:=dp (qm k G nd.id nd.ps) A2 n2 p2 E2 e2 q2) (by rw [bI];rfl);refine⟨⟨bI ..,fE _ _ _ _ _ _ _,fun j hj=>z1 j (by rw [bI];exact hj)⟩,?_⟩;have lo0:∀j,m'.own c j\/F' j->j<u1.heap.size:=fun j e=>by have:=hC.low j e;omega
    have B2:lG (setCells t ⟨u1.heap.size,0,none⟩ (dp (qm k G nd.id nd.ps) A2 n2 p2 E2 e2 q2).toList 0) F' c m' (fun j=>FR j\/(u2.heap.size<=j/\j<t.heap.size)) r x k (eW k G nd.id nd.ps):=B'.aK z3 (fun j e e'=>by
     have l1:=bf Lh;rcases e with e|e|(e|e)|e
     ·have:=lo0 j (.inl e);omega
     ·have:=lo0 j (.inr e);omega
     ·have:=B.R.lo j e;omega
     ·omega
     ·have:=oN j (.inr (.inr (.inr e)));omega)
    have kut:Kept (fun j=>j=r\/j=x) u t:=((F9.tt JU).mono fun _ _ h=>h.elim).tt kt;have ahG:Kept (fun j=>j=r\/j=x) u _:=kut.trans z3 (fun j hj e=>by omega);refine aC.qW (j2 B2 ((KS.trans kt (fun j hj e=>by have:=CZ j (.inr (.inr (.inr e)));omega)).trans z3 (fun j hj e=>by have:=F6.size;omega)) fun j e=>?_)
    ·rcases e with e|e|(e|e)|e
     ·rcases np j e with e|e
      ·exact CZ j (.inl e)
      ·omega
     ·rcases Jf j e with e|e
      ·exact CZ j (.inr (.inl e))
      ·omega
     ·exact CZ j (.inr (.inr (.inl e)))
     ·omega
     ·exact CZ j (.inr (.inr (.inr e)))
  intro w2;have k2:Kept Nil v w2:=(Kept.refl _ _).drew;clear_value w2;have Te:=kv.tt k2;have sv2:=k2.size;have TO:∀ {t:World},Kept Nil w t->Cells t ((A.get!.add (((i:Nat):Int).toNat*33)).add 0) nd.id.1:=by
   intro t kt;obtain⟨a,pA,pn,pc,rfl,_,_,h4,_,_⟩:=(hl.aK kt (fun _ _ h=>h)).at_ i nd gU;intro j z hj;rw [add_zero,Int.toNat_natCast];exact h4 j z (vv hj)
  obtain⟨a,pA,pn,pc,hA,CS,rU⟩:∃a pA pn pc,A=some a/\HS w pA pn nd.ps/\∀ {t:World},Kept Nil w t->t.cell? ((a.add (((i:Nat):Int).toNat*33)).add 32)=some (.slice pA pn pc):=by
   obtain⟨a,pA,pn,pc,hA,_,_,h4,h5,_⟩:=hl.at_ i nd gU;exact⟨a,pA,pn,pc,hA,h5,fun kt=>by rw [Int.toNat_natCast];exact kt.cell (h4 32 _ (qz _ _)) (fun h=>h)⟩
  subst hA;have Lr:=CS.len;have hb:0<=(i:Int)/\(i:Int)<(n:Int):=⟨by omega,by omega⟩;have Kk:¬m.SX (Tryz.kF.g 1):=fun e=>by have:=CZ _ (.inl (.inl e));omega
  refine⟨hb,Is.mk rfl ⟨nd.id.1,⟨nd.id.2.1,TO Te⟩,hb,Is.mk rfl ⟨pA,pn,pc,rU Te,?_,?_⟩⟩⟩
  ·refine oQ (B.C.same k2) (hT.same Te) Kk (by omega) (by omega) (CS.same Te) (by omega) nd.id fun u F' m' A1 n1 p1 E1 e1 q1 hC _ ku np Jf rA rE _ _=>⟨_,_,rfl,?_⟩
   intro u1;have F9:Kept Nil u u1:=(Kept.refl _ _).alloc _;have M6:u1.heap[u.heap.size]? =some (.cells zC bK (0,0)):=aM u _;clear_value u1;obtain⟨z1,z2,z3⟩:=gu M6 (cs:=dp (qm k G nd.id nd.ps) A1 n1 p1 E1 e1 q1) (by rw [bI];rfl);refine⟨⟨bI ..,fE _ _ _ _ _ _ _,fun j hj=>z1 j (by rw [bI];exact hj)⟩,?_⟩;have JU:Kept Nil u (setCells u1 ⟨u.heap.size,0,none⟩ (dp (qm k G nd.id nd.ps) A1 n1 p1 E1 e1 q1).toList 0):=F9.trans z3 (fun j hj e=>by omega);have su:=ku.size;refine aC.kV (j1 hC ((k2.mono fun _ _ h=>h.elim).tt ku) (fun j e=>(np j e).imp (fun h=>h) (fun h=>by omega)) (fun j e=>(Jf j e).imp (fun h=>h) (fun h=>by omega)) JU)
  ·intro w3
   have k3:Kept Nil w2 w3:=(Kept.refl _ _).alloc _;have BS:w3.heap[w2.heap.size]? =some (.cells zC bK (0,0)):=aM w2 _;clear_value w3;have ML:=Te.tt k3;have s23:=k3.size;have l3:=bf BS;refine⟨rU ML,⟨_,rfl,nd.id.2.1,TO ML⟩,?_⟩;refine oQ (B.C.same (k2.tt k3)) (hT.same ML) Kk (by omega) (by omega) (CS.same ML) (by omega) nd.id fun u F' m' A1 n1 p1 E1 e1 q1 hC _ ku np Jf rA rE _ _=>⟨_,_,rfl,?_⟩;have su:=ku.size;have hxu:=ku.heap BS (fun e=>by have:=oN _ (.inl e);omega);obtain⟨z1,z2,z3⟩:=gu hxu (cs:=dp (qm k G nd.id nd.ps) A1 n1 p1 E1 e1 q1) (by rw [bI];rfl);refine⟨⟨bI ..,fE _ _ _ _ _ _ _,fun j hj=>z1 j (by rw [bI];exact hj)⟩,?_⟩;have no1:∀j,m'.own c j->j≠w2.heap.size:=fun j e e'=>by
    rcases np j e with e|e
    ·have:=oN j (.inl e);omega
    ·omega
   have no2:∀j,F' j->j≠w2.heap.size:=fun j e e'=>by
    rcases Jf j e with e|e
    ·have:=oN j (.inr (.inl e));omega
    ·omega
   refine aC.kV (j1 (hC.aK z3 no1 no2) ((((k2.tt k3).mono fun _ _ h=>h.elim).tt ku).trans z3 (fun j hj e=>by omega)) (fun j e=>(np j e).imp (fun h=>h) (fun h=>by omega)) (fun j e=>(Jf j e).imp (fun h=>h) (fun h=>by omega)) (Kept.refl _ _))
 ·simp only at gF
  have:i=n:=by omega
  subst this;rw [aU,aC.ki];rw [List.take_of_length_le (by omega)]at B;exact hK v F c m FR r x k rfl hk6 ⟨cY,by omega⟩ B kv CZ
end
open Go.ChangeAt Go.ChangeShapes Go.WideShapes
theorem WX:prog.underlying im=some (.int .i64):=by kernel_rfl
theorem WV:prog.underlying gE=some (.int .u64):=by kernel_rfl
theorem adb:prog.cellsOf im=1:=by kernel_rfl
theorem ac9:prog.cellsOf gE=1:=by kernel_rfl
def OS:Array Field:= #[⟨"K",im,0,false,"","",0⟩,⟨"MaxParents",im,1,false,"","",8⟩,⟨"MaxMerge",im,2,false,"","",16⟩,⟨"Finality",im,3,false,"","",24⟩,⟨"Pruning",im,4,false,"","",32⟩,⟨"Maturity",im,5,false,"","",40⟩,⟨"Subsidy",gE,6,false,"","",48⟩,⟨"Orphans",im,7,false,"","",56⟩,⟨"Pool",im,8,false,"","",64⟩,⟨"Genesis",al,9,false,"","",72⟩]
theorem Ob:prog.underlying eK=some (.struct OS):=by kernel_rfl
theorem ada:prog.cellsOf eK=41:=by kernel_rfl
section
variable{H:Type}{enc:TypeId×Value->H}{w:World}{base:Nat}{sp:Nat->Bool}{held:Bool}{fuel:Nat}{cs:List Value}{x:DataW H×List MemPlace}
theorem OR(h:DataW.trod enc prog w base sp held fuel eK cs=some x):∃p:PP,cs.toArray=p.cells:=by
 obtain⟨xs,n,_,_,hl,uf,cY⟩:=DataW.trod_struct Ob h;rw [ada]at hl;have hx:∀i,i<10->∃y,xs[i]? =some y:=fun i hi=>⟨xs[i]'(by rw [uf];exact hi),by simp⟩;have gi:∀i (f:Field),OS[i]? =some f->f.type=im->∃z,(cs.drop f.offset).take 1= [.int .i64 z]:=fun i f hf ht=>by
  obtain⟨y,hy⟩:=hx i (Array.getElem?_eq_some_iff.1 hf).1;have:=cY i f hf;rw [ht,adb,hy]at this;obtain⟨z,hz,_⟩:=DataW.trod_int WX this;exact⟨z,hz⟩
 obtain⟨a0,e0⟩:=gi 0 _ rfl rfl;obtain⟨a1,e1⟩:=gi 1 _ rfl rfl;obtain⟨a2,e2⟩:=gi 2 _ rfl rfl;obtain⟨a3,e3⟩:=gi 3 _ rfl rfl;obtain⟨a4,e4⟩:=gi 4 _ rfl rfl;obtain⟨a5,e5⟩:=gi 5 _ rfl rfl;obtain⟨a7,e7⟩:=gi 7 _ rfl rfl;obtain⟨a8,e8⟩:=gi 8 _ rfl rfl;obtain⟨a6,e6⟩:∃z,(cs.drop 6).take 1= [.int .u64 z]:=by
  obtain⟨y,hy⟩:=hx 6 (by decide);have:DataW.trod enc prog w base sp held n gE ((cs.drop 6).take (prog.cellsOf gE))=xs[6]? :=cY 6 _ rfl;rw [ac9,hy]at this;obtain⟨z,hz,_⟩:=DataW.trod_int WV this;exact⟨z,hz⟩
 obtain⟨y9,hy9⟩:=hx 9 (by decide);have e9:DataW.trod enc prog w base sp held n al ((cs.drop 9).take (prog.cellsOf al))=xs[9]? :=cY 9 _ rfl;rw [Md,hy9]at e9;have hh:=yU e9;have ec:cs=(cs.drop 0).take 1++((cs.drop 1).take 1++((cs.drop 2).take 1++((cs.drop 3).take 1++((cs.drop 4).take 1++((cs.drop 5).take 1++((cs.drop 6).take 1++((cs.drop 7).take 1++((cs.drop 8).take 1++(cs.drop 9).take 32)))))))):=by
  have step:∀k,cs.drop k=(cs.drop k).take 1++cs.drop (k+1):=fun k=>by
   conv=>lhs;rw [<-List.take_append_drop 1 (cs.drop k)]
   rw [List.drop_drop]
  have t9:(cs.drop 9).take 32=cs.drop 9:=List.take_of_length_le (by rw [List.length_drop];omega);rw [t9]
  conv=>lhs;rw [<-List.drop_zero (l:=cs),step 0,step 1,step 2,step 3,step 4,step 5,step 6,step 7,step 8]
 refine⟨⟨a0,a1,a2,a3,a4,a5,a6,a7,a8,⟨_,hh⟩⟩,?_⟩;have f0:(cs.drop 0).take 1= [.int .i64 a0]:=e0;have f1:(cs.drop 1).take 1= [.int .i64 a1]:=e1;have f2:(cs.drop 2).take 1= [.int .i64 a2]:=e2;have f3:(cs.drop 3).take 1= [.int .i64 a3]:=e3;have f4:(cs.drop 4).take 1= [.int .i64 a4]:=e4;have f5:(cs.drop 5).take 1= [.int .i64 a5]:=e5;have f7:(cs.drop 7).take 1= [.int .i64 a7]:=e7;have f8:(cs.drop 8).take 1= [.int .i64 a8]:=e8;rw [f0,f1,f2,f3,f4,f5,e6,f7,f8]at ec;unfold PP.cells
 conv=>lhs;rw [ec]
 simp
end
section
variable{H:Type}{enc:TypeId×Value->H}{w:World}{base:Nat}{sp:Nat->Bool}{held:Bool}{d:DataW H}{p:List MemPlace}{v:Value}
set_option maxRecDepth 100000 in
theorem DC{t:TypeId}(et:t=eK)(hv:Value.okWide prog w .any base t v)(h:∃fuel,DataW.trod enc prog w 0 sp held fuel t v.cells.toList=some (d,p)):∃q:PP,v=.agg q.cells:=by
 have ht:prog.underlying t=some (.struct OS):=by rw [et];exact Ob
 simp only [Value.okWide,ht]at hv;subst et;obtain⟨cs,rfl,h2⟩:=hv;obtain⟨fuel,h⟩:=h;obtain⟨q,hq⟩:=OR h;exact⟨q,by rw [<-hq];simp [Value.cells]⟩
end
end Go.Proofs.YtfleamccglihoaaGreatDoor
namespace Go.Proofs.YtfleamccglihoaaGreatDoor
open Go.Proofs.Tryz
open Go Go.b0 Go.RowKit
section
variable{w:World}{FP:Nat->Prop}{K:Value->World->Prop}
set_option maxHeartbeats 1000000 in
theorem y8{A B:Option Addr}{n cx nb cb:Nat}{l:List DN}{lp:List HT}(hl:NS w FP A n l)(hn:n<9223372036854775808)(p:PP)(root:HT)(hb:HS w B nb lp)(hT:sS w)(hK:∀w',Kept Nil w w'->K (.bool true) w'):
 bE prog eA.id #[.agg p.cells,.agg root.1,.slice A n cx,.slice B nb cb] w K:=by
 have hlen:=hl.len;refine eA.of ?_;unfold eA.W;intro w1 w2;have k1:Kept Nil w w1:=(Kept.refl _ _).alloc _;have Lt:w1.heap[w.heap.size]? =some (.cells p.cells eK (0,0)):=aM w _;have k2:Kept Nil w1 w2:=(Kept.refl _ _).alloc _;have jX:w2.heap[w1.heap.size]? =some (.cells root.1 al (0,0)):=aM w1 _;have EC:=k2.heap Lt (fun h=>h);clear_value w2;have mr:=k1.tt k2;have kn:∀ {v:World},Kept Nil w v->bE prog iJ.id #[] v fun v3 w_4=>∃t:Bool,v3=.bool t/\K (.bool t) w_4:=fun k=>CB (hT.same k) fun w4 k4=>⟨true,rfl,hK w4 (k.tt k4)⟩;refine⟨p.K,by rw [bD,aE EC];exact p.Ma,root.1,⟨root.2.1,Cells.bV jX⟩,?_⟩;refine DB (hl.same mr) hn p.K root (hT.same mr) (fun v kv=>⟨_,_,false,true,rfl,Split.yes rfl (Split.yes rfl (kn (mr.tt kv)))⟩) fun w3 F c m FR r x k hk hk6 abP B3 k3 _=>⟨_,_,true,true,rfl,Split.no rfl (Split.no rfl ?_)⟩;have Yz:=Dx k root l;have hf2:=abP.2;generalize Dy k root l=G at B3 Yz;have jF:=mr.tt k3;have Ya:=k3.heap EC (fun h=>h);refine Split.dec (fun _=>Split.yes rfl (kn jF)) (fun hle=>?_);refine⟨p.cells,⟨p.size,Cells.bV Ya⟩,?_⟩;refine mi B3.C (hT.same jF) (by omega) (by omega) p (uQ _) (hb.same jF) (by omega) fun w4 A4 n4 c4 IE k4=>⟨A4,n4,c4,_,rfl,?_⟩;refine⟨p.cells,⟨p.size,Cells.bV (k4.heap Ya (fun h=>h))⟩,?_⟩;have mf:=jF.tt k4;refine uB (B3.same k4).R (by omega) (by omega) p (uQ _) (hb.same mf) (by omega) fun w5 A5 n5 c5 XZ k5=>⟨A5,n5,c5,_,rfl,Split.yes (by simp) ?_⟩;have nA:=mf.tt k5;have hlb:=hb.len;have vR:(fV p G lp).1.length<=1000:=Bf (by omega);have e4:=IE.len;refine xM (IE.same k5) XZ (by omega) fun w6 k6=>⟨_,rfl,Split.yes (by rw [decide_eq_true rfl]) ?_⟩
 exact kn (nA.tt k6)
end
end Go.Proofs.YtfleamccglihoaaGreatDoor
