import Derived.Test.YtfleamccglihoaaGreatDoorMU
import Derived.Test.YtfleamccglihoaaGreatDoorMJ
import Derived.Test.YtfleamccglihoaaGreatDoorMT
import Derived.Test.YtfleamccglihoaaGreatDoorMI
import Derived.Test.YtfleamccglihoaaGreatDoorMG
import Derived.Test.YtfleamccglihoaaGreatDoorMN
open Go.IntKind (i64 u64)
set_option linter.unusedVariables false
namespace Go.Proofs.YtfleamccglihoaaGreatDoor
open Go.Proofs.Tryz
open Go Go.bE Go.RowKit
noncomputable def Fq(k:Nat)(G:GS)(id:HT)(l:List HT):q7:=if eB G.D id l=0 then fK k G (bK G l) l else⟨fy,0,[],[]⟩
section
variable{w w' v:World}{S F FP FR:Nat->Prop}{c r x k:Nat}{G:GS}{m:CM}{K:Value->World->Prop}
theorem sK(h:CV w F c k G m)(hT:p0 w)(Lm:¬m.SX (Tryz.jg.g 1))(hD:G.D.length<=49)(rH:k<=1000){A:Option Addr}{n cx:Nat}{l:List HT}(yX:HS w A n l)(hn:n<=5000)(id:HT)
 (hK:∀w' F' m' A n c1 B e c2,CV w' F' c k (fD k G id l) m'->m'.x=m.x->Kept (m.own c) w w'->(∀j,m'.own c j->m.own c j\/w.heap.size<=j)->(∀j,F' j->F j\/w.heap.size<=j)->
   cm w' w.heap.size A n c1 (Fq k G id l).merge->Row w' w.heap.size iV 1 B e c2 (uZ (Fq k G id l).iH)->(∀j,bm A=some j->bm B≠some j)->(∀j,bm A=some j\/bm B=some j->¬m'.own c j/\¬F' j)->
   K (.tuple #[.agg (dS (Fq k G id l) A n c1 B e c2),.int .i64 (eB G.D id l)]) w'):
 bf prog cZ.id #[.pointer (some ⟨c,0,none⟩),.agg id.1,.slice A n cx] w K:=by
 refine Cq h hT Lm hD rH yX hn id (fun he w' k'=>?_) (fun he w' F' m' A n c1 B e c2 h1 h2 h3 h4 h5 h6 h7 h8 h9=>?_)
 ·have e1:Fq k G id l=⟨fy,0,[],[]⟩:=if_neg he
  have:=hK w' F m none 0 0 none 0 0 (by rw [vL he];exact h.same k') rfl (k'.mono fun _ _ h=>h.elim) (fun j h=>.inl h) (fun j h=>.inl h) (by rw [e1];exact cm.nil _ _) (by rw [e1];exact Row.nil _ _ _ _) (fun j hj=>(by cases hj)) (fun j hj=>by rcases hj with hj|hj<;>cases hj);rw [e1]at this;exact this
 ·have e1:Fq k G id l=fK k G (bK G l) l:=if_pos he
  have:=hK w' F' m' A n c1 B e c2 h1 h2 h3 h4 h5 (by rw [e1];exact h6) (by rw [e1];exact h7) h8 h9;rw [e1,he]at this;exact this
end
section
variable{w w' v:World}{S F FP FR:Nat->Prop}{c r x k:Nat}{G:GS}{m:CM}{K:Value->World->Prop}
end
section
variable{k:Nat}{G:GS}{s:HT}
theorem wL(G:GS)(s:HT):cu G s [s]= []:=by
 rw [List.eq_nil_iff_forall_not_mem];intro h hm;obtain⟨h1,h2,h3⟩:=iU.1 hm;rcases h1 with⟨_,p,hp,ha⟩|h1
 ·rw [List.mem_singleton]at hp;subst hp;exact h3 ha
 ·rw [List.mem_singleton]at h1;exact h2 h1
variable{r a b c:HT}(KB:r≠a)(Ew:r≠b)(RL:r≠c)(mH:a≠b)(R7:a≠c)(Lg:b≠c)
end
section
variable{w w':World}{K:Value->World->Prop}
end
section
variable{w w' v:World}{F FP FR:Nat->Prop}{c r x k:Nat}{G:GS}{m:CM}{K:Value->World->Prop}
end
section
variable{w v:World}{F FP FR:Nat->Prop}{c r x k:Nat}{G:GS}{m:CM}{K:Value->World->Prop}{O:Option Addr}{on oc:Nat}{lo:List HT}{s:HT}{sb xb:Nat}{xv:Array Value}
end
section
variable{k:Nat}{G:GS}{h:HT}{ps:List HT}
end
section
variable{k:Nat}{G G':GS}{s:HT}{l:List HT}
end
section
variable{k:Nat}{G:GS}{h:HT}{l:List HT}
end
section
variable{k:Nat}{G:GS}{h:HT}{l:List HT}
end
section
variable{w w':World}{K:Value->World->Prop}{B n cx b:Nat}{A:Option Addr}{F:Nat->Prop}{c k:Nat}{G:GS}{m:CM}{l:List HT}
end
section
variable{w w' v:World}{K:Value->World->Prop}{B n cx b q:Nat}{A E:Option Addr}{F:Nat->Prop}{c k:Nat}{G:GS}{m:CM}{l:List HT}{C:q7}{cp e ce:Nat}
theorem zv(hx:v.heap[q]? =some (.cells (dS C A n cp E e ce) cB (0,0))):
 Cells v ((⟨q,0,none⟩:Addr).add 0) C.mf.1/\v.cell? ((⟨q,0,none⟩:Addr).add 32)=some (.int .u64 (C.score:Int))/\v.cell? ((⟨q,0,none⟩:Addr).add 33)=some (.slice A n cp)/\v.cell? ((⟨q,0,none⟩:Addr).add 34)=some (.slice E e ce):=by
 have g:=gL C A n cp E e ce #[];rw [Array.append_empty]at g;refine⟨fun j u hj=>?_,by rw [bt,aA hx];exact g.1,by rw [bt,aA hx];exact g.2.1,by rw [bt,aA hx];exact g.2.2.1⟩;have cI:=(Array.getElem?_eq_some_iff.1 hj).1;rw [add_zero,bt,aA hx,Nat.zero_add];unfold dS;rw [Array.getElem?_append_left cI];exact hj
theorem HL(u:World)(C:q7)(A:Option Addr)(n cp:Nat)(E:Option Addr)(e ce:Nat):
 ((dS C A n cp E e ce).size=35/\(∀x∈(dS C A n cp E e ce).toList,x.oneCell'=true)/\∀y,y<35->Wr (u.alloc (.cells zC cB)) ((aU u.heap.size).add y))/\
   (setCells (u.alloc (.cells zC cB)) ⟨u.heap.size,0,none⟩ (dS C A n cp E e ce).toList 0).heap[u.heap.size]? =some (.cells (dS C A n cp E e ce) cB (0,0))/\
   Kept Nil u (setCells (u.alloc (.cells zC cB)) ⟨u.heap.size,0,none⟩ (dS C A n cp E e ce).toList 0):=by
 have GY:(u.alloc (.cells zC cB)).heap[u.heap.size]? =some (.cells zC cB (0,0)):=aR u _;obtain⟨t1,t2,t3⟩:=lr GY (cs:=dS C A n cp E e ce) (by rw [bX];rfl);exact⟨⟨bX ..,kR _ _ _ _ _ _ _,fun j hj=>t1 j (by rw [bX];exact hj)⟩,t2,((Kept.refl _ _).alloc _).trans t3 (fun j hj e=>by omega)⟩
theorem sE(u:World)(x:HT):(x.1.size=32/\(∀y∈x.1.toList,y.oneCell'=true)/\∀y,y<32->Wr (u.alloc (.cells zH ax)) ((aU u.heap.size).add y))/\
 (setCells (u.alloc (.cells zH ax)) ⟨u.heap.size,0,none⟩ x.1.toList 0).heap[u.heap.size]? =some (.cells x.1 ax (0,0))/\Kept Nil u (setCells (u.alloc (.cells zH ax)) ⟨u.heap.size,0,none⟩ x.1.toList 0):=by
 obtain⟨ri,ju,jc⟩:=fY (w:=u) (z:=zH) (cs:=x.1) (t:=ax) (by rw [x.2.1];rfl);exact⟨⟨x.2.1,x.2.one,fun j hj=>ri j (by rw [x.2.1];exact hj)⟩,ju,jc⟩
end
section
variable{k:Nat}{G:GS}{mf:HT}
end
section
variable{G:GS}{mf:HT}
end
structure PP where
 K:Int
 mp:Int
 mm:Int
 fin:Int
 yw:Int
 H9:Int
 sub:Int
 H7:Int
 wA:Int
 gen:HT
def PP.cells(p:PP):Array Value:= #[.int .i64 p.K,.int .i64 p.mp,.int .i64 p.mm,.int .i64 p.fin,.int .i64 p.yw,.int .i64 p.H9,.int .u64 p.sub,.int .i64 p.H7,.int .i64 p.wA]++p.gen.1
def PP.ok(p:PP):Prop:=(0<=p.K/\p.K<=100)/\(1<=p.mp/\p.mp<=20)/\(1<=p.mm/\p.mm<=1000)/\(0<=p.fin/\p.fin<=2147483647)/\(0<=p.yw/\p.yw<=2147483647)/\(0<=p.H9/\p.H9<=2147483647)/\(0<=p.H7/\p.H7<=100000)/\(0<=p.wA/\p.wA<=100000)/\p.sub<=1099511627776/\(p.yw=0\/(0<p.fin/\p.fin<p.yw/\p.mm<p.yw))
noncomputable instance(p:PP):Decidable p.ok:=Classical.propDecidable _
noncomputable def eQ(D:DG)(l:List HT):List HT:=l.filter fun x=>decide (x∉ids D)
theorem uB{D:DG}{l:List HT}{x:HT}:x∈eQ D l↔x∈l/\x∉ids D:=by unfold eQ;simp
theorem ql{D:DG}{l:List HT}:eQ D l= []↔∀x∈l,x∈ids D:=by
 rw [List.eq_nil_iff_forall_not_mem];constructor
 ·intro h x hx
  exact Classical.byContradiction fun e=>h x (uB.2 ⟨hx,e⟩)
 ·intro h x hx
  obtain⟨h1,h2⟩:=uB.1 hx;exact h2 (h x h1)
def q8(D:DG)(l:List HT):Prop:=∃a∈l,∃b∈l,fE D a b
open Classical in
noncomputable def hU(p:PP)(G:GS)(l:List HT):List HT×Int:=
 if ¬p.ok then([],2)
 else if(l.length<1\/p.mp<(l.length:Int))\/di l≠l then([],9)
 else if eQ G.D l≠ []then(eQ G.D l,15)
 else if q8 G.D l then([],9)
 else if p.mm<((cu G (bK G l) l).length:Int)then([],10)
 else([],0)
section
variable{k:Nat}{G G':GS}{l:List HT}{p:PP}
end
theorem PP.size(p:PP):p.cells.size=41:=by unfold PP.cells;rw [Array.size_append,p.gen.2.1];rfl
theorem PP.LB(p:PP):p.cells[0]? =some (.int .i64 p.K):=by unfold PP.cells;rw [Array.getElem?_append_left (by show 0<9;omega)];rfl
theorem PP.HE(p:PP):p.cells[1]? =some (.int .i64 p.mp):=by unfold PP.cells;rw [Array.getElem?_append_left (by show 1<9;omega)];rfl
theorem PP.Cr(p:PP):p.cells[2]? =some (.int .i64 p.mm):=by unfold PP.cells;rw [Array.getElem?_append_left (by show 2<9;omega)];rfl
theorem PP.zi(p:PP):p.cells[3]? =some (.int .i64 p.fin):=by unfold PP.cells;rw [Array.getElem?_append_left (by show 3<9;omega)];rfl
theorem PP.vB(p:PP):p.cells[4]? =some (.int .i64 p.yw):=by unfold PP.cells;rw [Array.getElem?_append_left (by show 4<9;omega)];rfl
theorem PP.LA(p:PP):p.cells[5]? =some (.int .i64 p.H9):=by unfold PP.cells;rw [Array.getElem?_append_left (by show 5<9;omega)];rfl
theorem PP.QV(p:PP):p.cells[6]? =some (.int .u64 p.sub):=by unfold PP.cells;rw [Array.getElem?_append_left (by show 6<9;omega)];rfl
theorem PP.Lz(p:PP):p.cells[7]? =some (.int .i64 p.H7):=by unfold PP.cells;rw [Array.getElem?_append_left (by show 7<9;omega)];rfl
theorem PP.Ly(p:PP):p.cells[8]? =some (.int .i64 p.wA):=by unfold PP.cells;rw [Array.getElem?_append_left (by show 8<9;omega)];rfl
theorem PP.one(p:PP):∀v∈p.cells.toList,v.oneCell'=true:=by
 intro v hv;unfold PP.cells at hv;rw [Array.toList_append,List.mem_append]at hv;rcases hv with hv|hv
 ·simp only [List.mem_cons,List.not_mem_nil,or_false]at hv
  rcases hv with rfl|rfl|rfl|rfl|rfl|rfl|rfl|rfl|rfl<;>rfl
 ·exact p.gen.2.one v hv
def PP.Dj(p:PP):List (Int×Int×Int):= [(p.K,0,100),(p.mp,1,20),(p.mm,1,1000),(p.fin,0,2147483647),(p.yw,0,2147483647),(p.H9,0,2147483647),(p.H7,0,100000),(p.wA,0,100000)]
section
variable{w w':World}{K:Value->World->Prop}{p:PP}
theorem CQ(p:PP)(hK:∀w',Kept Nil w w'->K (.bool (decide p.ok)) w'):bf prog fL.id #[.agg p.cells] w K:=by
 refine fL.of ?_;unfold fL.W;intro w1;have k1:Kept Nil w w1:=(Kept.refl _ _).alloc _;have hb:w1.heap[w.heap.size]? =some (.cells p.cells gH (0,0)):=aR w _;clear_value w1;have rd:∀(j:Nat) (v:Value),j<41->p.cells[j]? =some v->w1.cell? ((aU w.heap.size).add j)=some v:=fun j v _ h=>by rw [bt,aA hb,Nat.zero_add];exact h
 have hk:=hK w1 k1;have no:¬p.ok->K (.bool false) w1:=fun e=>by rw [decide_eq_false e]at hk;exact hk
 have yes:p.ok->K (.bool true) w1:=fun e=>by rw [decide_eq_true e]at hk;exact hk
 refine⟨_,rd 0 _ (by decide) p.LB,Split.dec (fun h0=>no (fun e=>by unfold PP.ok at e;omega)) (fun h0=>?_)⟩;refine⟨_,rd 0 _ (by decide) p.LB,Split.dec (fun h1=>no (fun e=>by unfold PP.ok at e;omega)) (fun h1=>?_)⟩;refine⟨_,rd 1 _ (by decide) p.HE,Split.dec (fun h2=>no (fun e=>by unfold PP.ok at e;omega)) (fun h2=>?_)⟩;refine⟨_,rd 1 _ (by decide) p.HE,Split.dec (fun h3=>no (fun e=>by unfold PP.ok at e;omega)) (fun h3=>?_)⟩;refine⟨_,rd 2 _ (by decide) p.Cr,Split.dec (fun h4=>no (fun e=>by unfold PP.ok at e;omega)) (fun h4=>?_)⟩;refine⟨_,rd 2 _ (by decide) p.Cr,Split.dec (fun h5=>no (fun e=>by unfold PP.ok at e;omega)) (fun h5=>?_)⟩;refine⟨_,rd 3 _ (by decide) p.zi,Split.dec (fun h6=>no (fun e=>by unfold PP.ok at e;omega)) (fun h6=>?_)⟩;refine⟨_,rd 3 _ (by decide) p.zi,Split.dec (fun h7=>no (fun e=>by unfold PP.ok at e;omega)) (fun h7=>?_)⟩;refine⟨_,rd 4 _ (by decide) p.vB,Split.dec (fun h8=>no (fun e=>by unfold PP.ok at e;omega)) (fun h8=>?_)⟩;refine⟨_,rd 4 _ (by decide) p.vB,Split.dec (fun h9=>no (fun e=>by unfold PP.ok at e;omega)) (fun h9=>?_)⟩;refine⟨_,rd 5 _ (by decide) p.LA,Split.dec (fun rI=>no (fun e=>by unfold PP.ok at e;omega)) (fun rI=>?_)⟩;refine⟨_,rd 5 _ (by decide) p.LA,Split.dec (fun FY=>no (fun e=>by unfold PP.ok at e;omega)) (fun FY=>?_)⟩;refine⟨_,rd 6 _ (by decide) p.QV,Split.dec (fun C5=>no (fun e=>by unfold PP.ok at e;omega)) (fun C5=>?_)⟩;refine⟨_,rd 7 _ (by decide) p.Lz,Split.dec (fun x4=>no (fun e=>by unfold PP.ok at e;omega)) (fun x4=>?_)⟩;refine⟨_,rd 7 _ (by decide) p.Lz,Split.dec (fun Sd=>no (fun e=>by unfold PP.ok at e;omega)) (fun Sd=>?_)⟩
 refine⟨_,rd 8 _ (by decide) p.Ly,Split.dec (fun Cn=>no (fun e=>by unfold PP.ok at e;omega)) (fun Cn=>?_)⟩;refine⟨_,rd 8 _ (by decide) p.Ly,Split.dec (fun h16=>no (fun e=>by unfold PP.ok at e;omega)) (fun h16=>?_)⟩;refine⟨_,rd 4 _ (by decide) p.vB,?_⟩;by_cases FW:p.yw=0
 ·exact Split.yes (by simp [FW]) (yes (by unfold PP.ok;omega))
 refine Split.no (by simp [FW]) ⟨_,rd 3 _ (by decide) p.zi,Split.dec (fun Lv=>?_) (fun Lv=>no (fun e=>by unfold PP.ok at e;omega))⟩;refine⟨_,rd 4 _ (by decide) p.vB,_,rd 3 _ (by decide) p.zi,Split.dec (fun QQ=>?_) (fun QQ=>no (fun e=>by unfold PP.ok at e;omega))⟩;refine⟨_,rd 4 _ (by decide) p.vB,_,rd 2 _ (by decide) p.Cr,?_⟩;by_cases QP:p.yw>p.mm
 ·rw [decide_eq_true QP];exact yes (by unfold PP.ok;omega)
 ·rw [decide_eq_false QP];exact no (fun e=>by unfold PP.ok at e;omega)
set_option maxHeartbeats 1000000 in
theorem mD(p:PP)(hK:∀w',Kept Nil w w'->K (.bool (decide p.ok)) w'):bf prog bw.id #[.agg p.cells] w K:=by
 refine bw.of ?_;unfold bw.W;intro w1;have k1:Kept Nil w w1:=(Kept.refl _ _).alloc _;have hb:w1.heap[w.heap.size]? =some (.cells p.cells gH (0,0)):=aR w _;clear_value w1;have rd:∀(j:Nat) (v:Value),p.cells[j]? =some v->w1.cell? ((aU w.heap.size).add j)=some v:=fun j v h=>by rw [bt,aA hb,Nat.zero_add];exact h
 refine⟨_,rd 0 _ p.LB,_,rd 1 _ p.HE,_,rd 2 _ p.Cr,_,rd 3 _ p.zi,_,rd 4 _ p.vB,_,rd 5 _ p.LA,_,rd 7 _ p.Lz,_,rd 8 _ p.Ly,rfl,rfl,rfl,rfl,rfl,rfl,rfl,rfl,?_⟩;intro w2;have k2:Kept Nil w1 w2:=(Kept.refl _ _).alloc _;have ht:∃C:Array Value,∃ty:TypeId,w2.heap[w1.heap.size]? =some (.cells C ty (0,0))/\∀i:Nat,i<8->∃t,p.Dj[i]? =some t/\C[i*3]? =some (.int .i64 t.1)/\C[i*3+1]? =some (.int .i64 t.2.1)/\C[i*3+2]? =some (.int .i64 t.2.2):=by
  refine⟨_,_,aR w1 _,fun i hi=>?_⟩
  match i,hi with
  |0,_=>exact⟨_,rfl,rfl,rfl,rfl⟩
  |1,_=>exact⟨_,rfl,rfl,rfl,rfl⟩
  |2,_=>exact⟨_,rfl,rfl,rfl,rfl⟩
  |3,_=>exact⟨_,rfl,rfl,rfl,rfl⟩
  |4,_=>exact⟨_,rfl,rfl,rfl,rfl⟩
  |5,_=>exact⟨_,rfl,rfl,rfl,rfl⟩
  |6,_=>exact⟨_,rfl,rfl,rfl,rfl⟩
  |7,_=>exact⟨_,rfl,rfl,rfl,rfl⟩
 clear_value w2;obtain⟨C,ty,hC,eA⟩:=ht;have oA:=k1.tt k2;have o6:=k2.heap hb (fun h=>h);have no:∀ {u:World},Kept Nil w u->¬p.ok->K (.bool false) u:=fun ku e=>by have:=hK _ ku;rw [decide_eq_false e]at this;exact this
 refine bw.b9 (I:=fun s v=>∃i:Nat,s=(false,(i:Int))/\i<=8/\Kept Nil w2 v/\∀t∈p.Dj.take i,t.2.1<=t.1/\t.1<=t.2.2) (μ:=fun s _=>(8-s.2).toNat) (s:=(false,0)) ⟨0,rfl,by omega,Kept.refl _ _,by simp⟩ ?_;rintro s v ⟨i,rfl,hi,kv,cV⟩;have vn:=oA.tt kv;unfold bw.B1;refine Split.dec (fun cI=>?_) (fun iG=>?_)
 ·simp only at cI
  have eV:i<8:=by omega
  obtain⟨t,FK,c0,c1,c2⟩:=eA i eV;have Oy:=List.mem_of_getElem? FK;have hCv:=kv.heap hC (fun h=>h);simp-zeta only [Int.toNat_natCast];refine⟨⟨by omega,by omega⟩,Is.mk rfl ⟨#[.int .i64 t.1,.int .i64 t.2.1,.int .i64 t.2.2],⟨rfl,fun j u hj=>?_⟩,?_⟩⟩
  ·rw [bt,bt,aA hCv,Nat.zero_add]
   match j,hj with
   |0,hj=>cases hj;exact c0
   |1,hj=>cases hj;exact c1
   |2,hj=>cases hj;exact c2
   |j+3,hj=>simp at hj
  intro w3;obtain⟨ri,ju,jc⟩:=fY (w:=v) (z:=(#[.int .i64 0,.int .i64 0,.int .i64 0]:Array Value)) (cs:= #[.int .i64 t.1,.int .i64 t.2.1,.int .i64 t.2.2]) (t:=tz) rfl;refine⟨⟨rfl,by intro y hy;simp at hy;rcases hy with rfl|rfl|rfl<;>rfl,fun j hj=>ri j hj⟩,?_⟩;intro w4
  replace ju:w4.heap[v.heap.size]? =some (.cells #[.int .i64 t.1,.int .i64 t.2.1,.int .i64 t.2.2] tz (0,0)):=ju
  replace jc:Kept Nil v w4:=jc
  clear_value w4;have lh:=vn.tt jc;have Rp:∀(j:Nat) (z:Value),(#[.int .i64 t.1,.int .i64 t.2.1,.int .i64 t.2.2]:Array Value)[j]? =some z->w4.cell? ((aU v.heap.size).add j)=some z:=fun j z h=>by rw [bt,aA ju,Nat.zero_add];exact h
  have bad:¬(t.2.1<=t.1/\t.1<=t.2.2)->¬p.ok:=fun e h=>by
   unfold PP.ok at h;unfold PP.Dj at Oy;simp only [List.mem_cons,List.not_mem_nil,or_false]at Oy;rcases Oy with rfl|rfl|rfl|rfl|rfl|rfl|rfl|rfl<;>(simp only at e;omega)
  refine⟨⟨by omega,by omega⟩,t.1,Rp 0 _ rfl,⟨by omega,by omega⟩,t.2.1,Rp 1 _ rfl,Split.dec (fun h1=>no lh (bad (by omega))) (fun h1=>?_)⟩;refine⟨⟨by omega,by omega⟩,t.1,Rp 0 _ rfl,⟨by omega,by omega⟩,t.2.2,Rp 2 _ rfl,Split.dec (fun h2=>no lh (bad (by omega))) (fun h2=>?_)⟩;rw [eF (n:=(i:Int)) (by omega) (by omega)];refine⟨(false,(i:Int)+1),rfl,⟨i+1,rfl,eV,kv.tt jc,fun t' Ku=>?_⟩,by simp only;omega⟩;rw [List.take_add_one,FK,List.mem_append]at Ku;rcases Ku with Ku|Ku
  ·exact cV t' Ku
  ·simp at Ku
   subst Ku;omega
 ·simp only at iG
  rw [aY,bw.dw];unfold bw.cU;have e8:i=8:=by omega
  subst e8;have EN:=kv.heap o6 (fun h=>h);have rdv:∀(j:Nat) (z:Value),p.cells[j]? =some z->v.cell? ((aU w.heap.size).add j)=some z:=fun j z h=>by rw [bt,aA EN,Nat.zero_add];exact h
  have hk:=hK v vn;have yes:p.ok->K (.bool true) v:=fun e=>by rw [decide_eq_true e]at hk;exact hk
  have hT:(0<=p.K/\p.K<=100)/\(1<=p.mp/\p.mp<=20)/\(1<=p.mm/\p.mm<=1000)/\(0<=p.fin/\p.fin<=2147483647)/\(0<=p.yw/\p.yw<=2147483647)/\(0<=p.H9/\p.H9<=2147483647)/\(0<=p.H7/\p.H7<=100000)/\(0<=p.wA/\p.wA<=100000):=
   ⟨cV (p.K,0,100) (by simp [PP.Dj]),cV (p.mp,1,20) (by simp [PP.Dj]),cV (p.mm,1,1000) (by simp [PP.Dj]),cV (p.fin,0,2147483647) (by simp [PP.Dj]),cV (p.yw,0,2147483647) (by simp [PP.Dj]),cV (p.H9,0,2147483647) (by simp [PP.Dj]),cV (p.H7,0,100000) (by simp [PP.Dj]),cV (p.wA,0,100000) (by simp [PP.Dj])⟩
  refine⟨_,rdv 6 _ p.QV,Split.dec (fun h6=>?_) (fun h6=>no vn (fun e=>by unfold PP.ok at e;omega))⟩;refine⟨_,rdv 4 _ p.vB,?_⟩;by_cases FW:p.yw=0
  ·exact Split.yes (by simp [FW]) (yes (by unfold PP.ok;omega))
  refine Split.no (by simp [FW]) ⟨_,rdv 3 _ p.zi,Split.dec (fun Lv=>?_) (fun Lv=>no vn (fun e=>by unfold PP.ok at e;omega))⟩;refine⟨_,rdv 4 _ p.vB,_,rdv 3 _ p.zi,Split.dec (fun QQ=>?_) (fun QQ=>no vn (fun e=>by unfold PP.ok at e;omega))⟩;refine⟨_,rdv 4 _ p.vB,_,rdv 2 _ p.Cr,?_⟩;by_cases QP:p.yw>p.mm
  ·rw [decide_eq_true QP];exact yes (by unfold PP.ok;omega)
  ·rw [decide_eq_false QP];exact no vn (fun e=>by unfold PP.ok at e;omega)
end
theorem xI{P:Program}{g:FuncId}{first fh:Array Value}{args:List Value}{fn:Func}{w:World}{k:Value->World->Prop}{vs:Array Value}(hf:P.funcs[g]? =some fn)(hb:fn.body.isSome=true)(hv:(first.toList++args++fh.toList).toArray=vs):
 jO P (.func (.func g) first fh) args w k=bf P g vs w fun v w'=>LP P fn.resultTypes.toList v fun v=>k v w':=by
 subst hv;unfold jO;simp only [hf];cases hc:fn.body with
 |none=>rw [hc]at hb;cases hb
 |some c=>simp only
theorem gF{P:Program}{g:FuncId}{first fh:Array Value}{args:List Value}{fn:Func}{w:World}{k:Value->World->Prop}{vs:Array Value}{t:TypeId}(hf:P.funcs[g]? =some fn)(hb:fn.body.isSome=true)(hv:(first.toList++args++fh.toList).toArray=vs)
 (ht:fn.resultTypes.toList= [t]) (hk:lg P t=.int .i64):jO P (.func (.func g) first fh) args w k=bf P g vs w fun v w'=>∃e:Int,v=.int .i64 e/\k (.int .i64 e) w':=by
 rw [xI hf hb hv,ht];simp only [LP,hk,Any]
section
variable{w w' v:World}{K:Value->World->Prop}{n cx n' cx' hb gb ob cb pb:Nat}{A A':Option Addr}{l l':List HT}{F:Nat->Prop}{c k:Nat}{G:GS}{m:CM}{hd:Array Value}{p:PP}
theorem zo(hl:HS w A n l)(Pw:HS w A' n' l')(hn:n<=1000000)(hK:∀w',Kept Nil w w'->K (.bool (decide (l=l'))) w'):
 bf prog aH.id #[.slice A n cx,.slice A' n' cx'] w K:=by
 have hlen:=hl.len;have ED:=Pw.len;refine aH.of ?_;unfold aH.W;by_cases e:n=n'
 ·subst e
  refine Split.no (by simp) ?_;refine aH.b9 (I:=fun s v=>∃i:Nat,s=(false,(i:Int))/\i<=n/\Kept Nil w v/\∀t,t<i->l[t]? =l'[t]?) (μ:=fun s _=>((n:Int)-s.2).toNat) (s:=(false,0)) ⟨0,rfl,Nat.zero_le _,Kept.refl _ _,fun t ht=>by omega⟩ ?_;rintro s v ⟨i,rfl,hi,kv,cV⟩;unfold aH.B1;refine Split.dec (fun cI=>?_) (fun iG=>?_)
  ·simp only at cI
   have eV:i<n:=by omega
   obtain⟨x,hx⟩:∃x,l[i]? =some x:=⟨_,List.getElem?_eq_getElem (by omega)⟩;obtain⟨y,hy⟩:∃y,l'[i]? =some y:=⟨_,List.getElem?_eq_getElem (by omega)⟩;intro w3;have k3:Kept Nil v w3:=(Kept.refl _ _).drew;clear_value w3;have jS:=kv.tt k3;refine HS.load (hl.same jS) (i:=(i:Int)) (x:=x) (by omega) (by rw [Int.toNat_natCast];exact hx) ?_;refine HS.load (Pw.same jS) (i:=(i:Int)) (x:=y) (by omega) (by rw [Int.toNat_natCast];exact hy) ⟨⟨x.2.ints,y.2.ints⟩,?_⟩;rw [gw];by_cases lW:x=y
   ·refine Split.no (by rw [decide_eq_true lW];rfl) ?_
    simp only;rw [eF (n:=(i:Int)) (by omega) (by omega)];refine⟨(false,(i:Int)+1),rfl,⟨i+1,rfl,eV,jS,fun t ht=>?_⟩,by simp only;omega⟩;by_cases FK:t=i
    ·subst FK
     rw [hx,hy,lW]
    ·exact cV t (by omega)
   ·refine Split.yes (by rw [decide_eq_false lW];rfl) ?_
    have fG:l≠l':=fun e=>by
     subst e;rw [hx]at hy;exact lW (Option.some.inj hy)
    have:=hK w3 jS;rw [decide_eq_false fG]at this;exact this
  ·simp only at iG
   rw [aY,aH.dw];have el:l=l':=List.ext_getElem? fun t=>by
    by_cases ht:t<i
    ·exact cV t ht
    ·rw [List.getElem?_eq_none (by omega),List.getElem?_eq_none (by omega)]
   have:=hK v kv;rw [decide_eq_true el]at this;exact this
 ·refine Split.yes (by simpa using (fun h:(n:Int)=(n':Int)=>e (by omega))) ?_
  have fG:l≠l':=fun h=>e (by rw [<-hlen,<-ED,h]);have:=hK w (Kept.refl _ _);rw [decide_eq_false fG]at this;exact this
theorem Hs(Ca:w.heap[pb]? =some (.cells p.cells gH (0,0)))(hK:∀w',Kept Nil w w'->K (.int .i64 (if ¬p.ok then 2 else 0)) w'):
 bf prog bR.id #[.pointer (some ⟨pb,0,none⟩)] w K:=by
 refine bR.of ?_;refine⟨p.cells,⟨p.size,Cells.bW Ca⟩,mD p fun w1 k1=>⟨_,rfl,?_⟩⟩;have:=hK w1 k1;by_cases h:p.ok
 ·rw [if_neg (fun e=>e h)]at this
  exact Split.no (by rw [decide_eq_true h];rfl) this
 ·rw [if_pos h]at this
  exact Split.yes (by rw [decide_eq_false h];rfl) this
theorem nN(yY:w.heap[hb]? =some (.cells hd iE (0,0)))(h0:hd[0]? =some (.slice A n cx)):w.cell? ((⟨hb,0,none⟩:Addr).add 0)=some (.slice A n cx):=by
 rw [add_zero,aA yY];exact h0
theorem Hr(yY:w.heap[hb]? =some (.cells hd iE (0,0)))(h0:hd[0]? =some (.slice A n cx))(hl:HS w A n l)(hn:n<=100000)(Ca:w.heap[pb]? =some (.cells p.cells gH (0,0)))
 (hK:∀w' e,Kept Nil w w'->(((l.length<1\/p.mp<(l.length:Int))\/di l≠l)/\e=9\/¬((l.length<1\/p.mp<(l.length:Int))\/di l≠l)/\e=0)->K (.int .i64 e) w'):
 bf prog bP.id #[.pointer (some ⟨hb,0,none⟩),.pointer (some ⟨pb,0,none⟩)] w K:=by
 have hlen:=hl.len;refine bP.of ?_;unfold bP.W;refine⟨A,n,cx,nN yY h0,?_⟩;intro w1;have k1:Kept Nil w w1:=(Kept.refl _ _).drew;clear_value w1;have rd:w1.cell? ((⟨pb,0,none⟩:Addr).add 1)=some (.int .i64 p.mp):=by rw [bt,aA (k1.heap Ca (fun h=>h))];exact p.HE
 have OW:=nN (k1.heap yY (fun h=>h)) h0;refine Split.dec (fun h1=>hK w1 9 k1 (.inl ⟨.inl (.inl (by omega)),rfl⟩)) (fun h1=>⟨_,rd,Split.dec (fun h2=>hK w1 9 k1 (.inl ⟨.inl (.inr (by omega)),rfl⟩)) (fun h2=>⟨A,n,cx,OW,A,n,cx,OW,?_⟩)⟩);refine fV (hl.same k1) (by omega) fun A2 c2 w2 rX k2=>⟨A2,_,c2,rfl,nN ((k1.tt k2).heap yY (fun h=>h)) h0,?_⟩;have oA:=k1.tt k2;have FL:=nW l;refine zo (cm.hs rX) (hl.same oA) (by omega) fun w3 k3=>⟨_,rfl,?_⟩;have jS:=oA.tt k3;by_cases hs:di l=l
 ·refine Split.no (by rw [decide_eq_true hs];rfl) (hK w3 0 jS (.inr ⟨fun e=>?_,rfl⟩))
  rcases e with(e|e)|e
  ·omega
  ·omega
  ·exact e hs
 ·exact Split.yes (by rw [decide_eq_false hs];rfl) (hK w3 9 jS (.inl ⟨.inr hs,rfl⟩))
theorem yC{D:DG}{i:Nat}{x:HT}(hx:l[i]? =some x):eQ D (l.take (i+1))=eQ D (l.take i)++if x∈ids D then []else [x]:=by
 unfold eQ;rw [List.take_add_one,hx,List.filter_append]
 congr 1
 by_cases h:x∈ids D
 ·simp [h]
 ·simp [h]
theorem DP(D:DG)(l:List HT):(eQ D l).length<=l.length:=List.length_filter_le _ _
set_option maxHeartbeats 1000000 in
theorem Hq{mx:XM}{P:List Int}{x:Nat}{FX:Nat->Prop}(X:XV w FX x G.D P mx)(C:CV w F c k G m)(hCX:m.x=x)(yY:w.heap[hb]? =some (.cells hd iE (0,0)))(h0:hd[0]? =some (.slice A n cx))(hl:HS w A n l)(hn:n<=100000)
 (K1:w.heap[gb]? =some (.cells #[.pointer (some ⟨mx.g,0,none⟩)] eE (0,0))) (xl:w.heap[ob]? =some (.cells #[.slice none 0 0] aV (0,0))) (fG:gb≠ob) (hhn:hb≠ob) (Wz:∀a,A=some a->a.block≠ob) (hX:∀u,Kept (· =ob) w u->XV u FX x G.D P mx)
 (rG:eQ G.D l= []->∀w',Kept Nil w w'->K (.int .i64 0) w')
 (Ek:eQ G.D l≠ []->∀w' A' c',w'.heap[ob]? =some (.cells #[.slice A' (eQ G.D l).length c'] aV (0,0))->cm w' w.heap.size A' (eQ G.D l).length c' (eQ G.D l)->Kept (· =ob) w w'->K (.int .i64 15) w'):
 bf prog aL.id #[.pointer (some ⟨hb,0,none⟩),.pointer (some ⟨gb,0,none⟩),.pointer (some ⟨ob,0,none⟩)] w K:=by
 have hlen:=hl.len;have lob:=a7 xl;refine aL.of ?_;unfold aL.W;refine⟨A,n,cx,nN yY h0,?_⟩;refine aL.b9 (I:=fun s v=>∃(i:Nat) (A':Option Addr) (c':Nat),s=(i:Int)/\i<=n/\v.heap[ob]? =some (.cells #[.slice A' (eQ G.D (l.take i)).length c'] aV (0,0))/\cm v w.heap.size A' (eQ G.D (l.take i)).length c' (eQ G.D (l.take i))/\Kept (· =ob) w v/\(eQ G.D (l.take i)= []->Kept Nil w v)) (μ:=fun s _=>((n:Int)-s).toNat) (s:=0) ⟨0,none,0,rfl,Nat.zero_le _,xl,cm.nil _ _,Kept.refl _ _,fun _=>Kept.refl _ _⟩ ?_;rintro s v ⟨i,A',c',rfl,hi,CY,row,kv,Cb⟩;unfold aL.B1;refine Split.dec (fun cI=>?_) (fun iG=>?_)
 ·have eV:i<n:=by omega
  obtain⟨y,hy⟩:∃y,l[i]? =some y:=⟨_,List.getElem?_eq_getElem (by omega)⟩;have oV:HS v A n l:=hl.aK kv (fun a ha e=>Wz a ha e);refine HS.load oV (i:=(i:Int)) (x:=y) (by omega) (by rw [Int.toNat_natCast];exact hy) ?_;intro w3;obtain⟨t1,t2,t3⟩:=sE v y;refine⟨t1,?_⟩;intro w4
  replace t2:w4.heap[v.heap.size]? =some (.cells y.1 ax (0,0)):=t2
  replace t3:Kept Nil v w4:=t3
  clear_value w4;have lh:Kept (· =ob) w w4:=kv.trans t3 (fun _ _ h=>h.elim);refine⟨_,by rw [aA (lh.heap K1 fG)];rfl,y.1,⟨y.2.1,Cells.bW t2⟩,?_⟩;obtain⟨bl,cc,mb,M,GG⟩:=(hX w4 lh).G;refine pS GG y fun w5 k5=>⟨_,rfl,?_⟩;have FB:=t3.tt k5;have o5:Kept (· =ob) w w5:=lh.trans k5 (fun _ _ h=>h.elim);have KF:=FB.heap CY (fun h=>h);have qg:cm w5 w.heap.size A' (eQ G.D (l.take i)).length c' (eQ G.D (l.take i)):=Row.aK row FB (fun _ _ h=>h);have oo:=yC (D:=G.D) hy;by_cases hm:y∈ids G.D
  ·rw [if_pos hm,List.append_nil]at oo
   refine Split.no (by rw [decide_eq_true hm];rfl) ?_;rw [eF (n:=(i:Int)) (by omega) (by omega)];exact⟨(i:Int)+1,rfl,⟨i+1,A',c',rfl,eV,by rw [oo];exact KF,by rw [oo];exact qg,o5,fun e=>by rw [oo]at e;exact(Cb e).tt FB⟩,by simp only;omega⟩
  ·rw [if_neg hm]at oo
   refine Split.yes (by rw [decide_eq_false hm];rfl) ⟨_,_,_,by rw [aA KF];rfl,y.1,⟨y.2.1,Cells.bW (k5.heap t2 (fun h=>h))⟩,y.2.1,?_⟩;intro w6;have k6:Kept Nil w5 w6:=(Kept.refl _ _).alloc _;have pN:HS w6 (some ⟨w5.heap.size,0,none⟩) 1 [y]:=lj w5 y;clear_value w6;have BD:cm w6 w.heap.size A' (eQ G.D (l.take i)).length c' (eQ G.D (l.take i)):=Row.aK qg k6 (fun _ _ h=>h);have s6:=(o5.trans k6 (fun _ _ h=>h.elim)).size;have FQ:=DP G.D (l.take i);rw [List.length_take]at FQ;obtain⟨A7,c7,w7,Iz,yp,g7,hA7⟩:=gu aV BD (cx:=1) pN (by omega) s6;have k7:Kept (fun j=>bm A'=some j) w6 w7:=Kept.grown (Kept.refl _ _) g7 fun j hj _=>hj;have nob:bm A'≠some ob:=fun e=>by have:=(Row.bW BD e).1;omega
   have OY:=k7.heap (k6.heap KF (fun h=>h)) nob;refine⟨A7,_,c7,w7,Iz,dz OY (by simp),?_⟩;intro w8;have UG:w8.heap[ob]? =some (.cells #[.slice A7 ((eQ G.D (l.take i)).length+1) c7] aV (0,0)):=cR OY 0 _;have k8:Kept (· =ob) w7 w8:=Kept.setCell (S:=fun j=>j=ob) (Kept.refl _ w7) (p:=⟨ob,0,none⟩) (fun _=>rfl) _;clear_value w8;rw [eF (n:=(i:Int)) (by omega) (by omega)];have el:(eQ G.D (l.take (i+1))).length=(eQ G.D (l.take i)).length+1:=by rw [oo,List.length_append];rfl
   refine⟨(i:Int)+1,rfl,⟨i+1,A7,c7,rfl,eV,by rw [el];exact UG,?_,?_,fun e=>?_⟩,by simp only;omega⟩
   ·rw [el,oo]
    exact Row.aK yp k8 (fun j hj e=>by have:=(Row.bW yp hj).1;omega)
   ·exact((o5.trans k6 (fun _ _ h=>h.elim)).trans k7 (fun j hj e=>by have:=(Row.bW BD e).1;omega)).tt k8
   ·rw [oo]at e
    simp at e
 ·rw [aY,aL.dw]
  unfold aL.cU;rw [List.take_of_length_le (by omega)]at CY row Cb;refine⟨_,_,_,by rw [aA CY];rfl,?_⟩;by_cases he:eQ G.D l= []
  ·rw [he]
   exact Split.no rfl (rG he v (Cb he))
  ·have:=List.length_pos_iff.2 he
   exact Split.yes (decide_eq_true (by omega)) (Ek he v A' c' CY row kv)
theorem EG{x y:HT}{xb:Nat}(C:CV w F c k G m)(hD:G.D.length<=5000)(y5:w.heap[cb]? =some (.cells #[.pointer (some ⟨c,0,none⟩)] cg (0,0)))(TO:w.heap[xb]? =some (.cells x.1 ax (0,0)))
 (hK:∀w' (r:Bool),(r=true↔fE G.D x y)->Kept Nil w w'->K (.bool r) w'):
 bf prog cG.id #[.agg y.1,.pointer (some ⟨cb,0,none⟩),.pointer (some ⟨xb,0,none⟩)] w K:=by
 refine cG.of ?_;unfold cG.W;intro w1 w2;have k1:Kept Nil w w1:=(Kept.refl _ _).alloc _;have hy1:w1.heap[w.heap.size]? =some (.cells y.1 ax (0,0)):=aR w _;have k2:Kept Nil w1 w2:=(Kept.refl _ _).drew;clear_value w2;have On:=k2.heap hy1 (fun h=>h);have oA:=k1.tt k2;clear_value w1;have C2:=C.same oA;have Yq:=oA.heap TO (fun h=>h);refine⟨_,by rw [aA (oA.heap y5 (fun h=>h))];rfl,x.1,⟨x.2.1,Cells.bW Yq⟩,y.1,⟨y.2.1,Cells.bW On⟩,?_⟩;refine qR C2 ⟨_,rfl,⟨_,rfl,y.2.1,Cells.bW On⟩,⟨_,rfl,x.2.1,Cells.bW Yq⟩,?_⟩;obtain⟨mx,X,_⟩:=C2.X;exact jn X hD x y fun w3 r hr k3=>⟨r,rfl,hK w3 r hr (oA.tt k3)⟩
theorem Cg{x:HT}{xb:Nat}(C:CV w F c k G m)(hD:G.D.length<=5000)(y5:w.heap[cb]? =some (.cells #[.pointer (some ⟨c,0,none⟩)] cg (0,0)))(TO:w.heap[xb]? =some (.cells x.1 ax (0,0)))(hl:HS w A n l)(hn:n<=100000)
 (hK:∀w' (i:Int),(i>=0↔∃y∈l,fE G.D x y)->Kept Nil w w'->K (.int .i64 i) w'):
 bf prog jT.id #[.slice A n cx,.func (.func cG.id) #[] #[.pointer (some ⟨cb,0,none⟩),.pointer (some ⟨xb,0,none⟩)]] w K:=by
 have hlen:=hl.len;refine ai.of ?_;unfold ai.W;refine ai.b9 (I:=fun s v=>∃i:Nat,s=(0,(i:Int))/\i<=n/\Kept Nil w v/\∀y∈l.take i,¬fE G.D x y) (μ:=fun s _=>((n:Int)-s.2).toNat) (s:=(0,0)) ⟨0,rfl,Nat.zero_le _,Kept.refl _ _,by simp⟩ ?_;rintro s v ⟨i,rfl,hi,kv,cV⟩;unfold ai.B1;refine Split.dec (fun cI=>?_) (fun iG=>?_)
 ·simp only at cI
  have eV:i<n:=by omega
  obtain⟨y,hy⟩:∃y,l[i]? =some y:=⟨_,List.getElem?_eq_getElem (by omega)⟩;refine HS.load (hl.same kv) (i:=(i:Int)) (x:=y) (by omega) (by rw [Int.toNat_natCast];exact hy) ?_;refine EG (C.same kv) hD (kv.heap y5 (fun h=>h)) (kv.heap TO (fun h=>h)) fun w3 r hr k3=>⟨r,rfl,?_⟩;have jS:=kv.tt k3;cases r with
  |true=>exact Split.yes rfl (hK w3 (i:Int) ⟨fun _=>⟨y,List.mem_of_getElem? hy,hr.1 rfl⟩,fun _=>by omega⟩ jS)
  |false=>
   refine Split.no rfl ?_;simp only;rw [eF (n:=(i:Int)) (by omega) (by omega)];refine⟨(0,(i:Int)+1),rfl,⟨i+1,rfl,eV,jS,fun z hz e=>?_⟩,by simp only;omega⟩;rcases(bI hy).1 hz with hz|rfl
   ·exact cV z hz e
   ·have:=hr.2 e
    cases this
 ·simp only at iG
  rw [aY,ai.dw];rw [List.take_of_length_le (by omega)]at cV;exact hK v (-1) ⟨fun e=>by omega,fun⟨y,hy,e⟩=>absurd e (cV y hy)⟩ kv
theorem Hp(C:CV w F c k G m)(hD:G.D.length<=5000)(yY:w.heap[hb]? =some (.cells hd iE (0,0)))(h0:hd[0]? =some (.slice A n cx))(hl:HS w A n l)(hn:n<=100000)(y5:w.heap[cb]? =some (.cells #[.pointer (some ⟨c,0,none⟩)] cg (0,0)))
 (hK:∀w' e,Kept Nil w w'->(q8 G.D l/\e=9\/¬q8 G.D l/\e=0)->K (.int .i64 e) w'):
 bf prog aO.id #[.pointer (some ⟨hb,0,none⟩),.pointer (some ⟨cb,0,none⟩)] w K:=by
 have hlen:=hl.len;refine aO.of ?_;unfold aO.W;refine⟨A,n,cx,nN yY h0,?_⟩;refine aO.b9 (I:=fun s v=>∃i:Nat,s=(0,(i:Int))/\i<=n/\Kept Nil w v/\∀a∈l.take i,∀b∈l,¬fE G.D a b) (μ:=fun s _=>((n:Int)-s.2).toNat) (s:=(0,0)) ⟨0,rfl,Nat.zero_le _,Kept.refl _ _,by simp⟩ ?_;rintro s v ⟨i,rfl,hi,kv,cV⟩;unfold aO.B1;refine Split.dec (fun cI=>?_) (fun iG=>?_)
 ·simp only at cI
  have eV:i<n:=by omega
  obtain⟨y,hy⟩:∃y,l[i]? =some y:=⟨_,List.getElem?_eq_getElem (by omega)⟩;refine HS.load (hl.same kv) (i:=(i:Int)) (x:=y) (by omega) (by rw [Int.toNat_natCast];exact hy) ?_;intro w3;obtain⟨t1,t2,t3⟩:=sE v y;refine⟨t1,?_⟩;intro w4
  replace t2:w4.heap[v.heap.size]? =some (.cells y.1 ax (0,0)):=t2
  replace t3:Kept Nil v w4:=t3
  clear_value w4;have lh:=kv.tt t3;refine⟨A,n,cx,nN (lh.heap yY (fun h=>h)) h0,?_⟩;refine bC.of ?_;unfold bC.W;refine Cg (C.same lh) hD (lh.heap y5 (fun h=>h)) t2 (hl.same lh) hn fun w5 j hj k5=>⟨j,rfl,_,rfl,?_⟩;have o5:=lh.tt k5;by_cases RV:j>=0
  ·obtain⟨b,hb,mH⟩:=hj.1 RV
   exact Split.yes (decide_eq_true RV) (hK w5 9 o5 (.inl ⟨⟨y,List.mem_of_getElem? hy,b,hb,mH⟩,rfl⟩))
  ·refine Split.no (decide_eq_false RV) ?_
   simp only;rw [eF (n:=(i:Int)) (by omega) (by omega)];refine⟨(0,(i:Int)+1),rfl,⟨i+1,rfl,eV,o5,fun a ha b hb e=>?_⟩,by simp only;omega⟩;rcases(bI hy).1 ha with ha|rfl
   ·exact cV a ha b hb e
   ·exact RV (hj.2 ⟨b,hb,e⟩)
 ·simp only at iG
  rw [aY,aO.dw];rw [List.take_of_length_le (by omega)]at cV;exact hK v 0 kv (.inr ⟨fun⟨a,ha,b,hb,e⟩=>cV a ha b hb e,rfl⟩)
theorem Ho(C:CV w F c k G m)(hT:p0 w)(hD:G.D.length<=49)(rH:k<=1000)(yY:w.heap[hb]? =some (.cells hd iE (0,0)))(h0:hd[0]? =some (.slice A n cx))(hl:HS w A n l)(hn:n<=5000)(y5:w.heap[cb]? =some (.cells #[.pointer (some ⟨c,0,none⟩)] cg (0,0)))
 (Ca:w.heap[pb]? =some (.cells p.cells gH (0,0))) (vv:l≠ []) (gK:∀x∈l,x∈ids G.D)
 (hK:∀w' e,Kept Nil w w'->(p.mm<((cu G (bK G l) l).length:Int)/\e=10\/¬p.mm<((cu G (bK G l) l).length:Int)/\e=0)->K (.int .i64 e) w'):
 bf prog bO.id #[.pointer (some ⟨cb,0,none⟩),.pointer (some ⟨hb,0,none⟩),.pointer (some ⟨pb,0,none⟩)] w K:=by
 have hlen:=hl.len;have m0:ki G.D l=0:=by
  unfold ki;rw [if_neg vv,if_neg (fun⟨x,hx,e⟩=>e (gK x hx))]
 have FM:bK G l∈ids G.D:=gK _ (jH vv);have m1:ki G.D (bK G l::l)=0:=by
  unfold ki;rw [if_neg (by simp),if_neg];rintro⟨x,hx,e⟩;rcases List.mem_cons.1 hx with rfl|hx
  ·exact e FM
  ·exact e (gK x hx)
 refine bO.of ?_;unfold bO.W;refine⟨_,by rw [aA y5];rfl,A,n,cx,nN yY h0,?_⟩;refine pQ C hl (by omega) fun w1 k1=>⟨_,_,rfl,?_⟩;rw [if_pos m0];intro w2;obtain⟨t1,t2,t3⟩:=sE w1 (bK G l);refine⟨t1,?_⟩;intro w3
 replace t2:w3.heap[w1.heap.size]? =some (.cells (bK G l).1 ax (0,0)):=t2
 replace t3:Kept Nil w1 w3:=t3
 clear_value w3;have jS:=k1.tt t3;refine⟨_,by rw [aA (jS.heap y5 (fun h=>h))];rfl,_,⟨(bK G l).2.1,Cells.bW t2⟩,A,n,cx,nN (jS.heap yY (fun h=>h)) h0,?_⟩;refine zh (C.same jS) (hT.same jS) hD rH (hl.same jS) hn (fun e=>absurd m1 e) fun _ w4 A4 n4 c4 E4 e4 d4 mg4 _ k4 _=>⟨_,_,rfl,?_⟩;have lh:=jS.tt k4;intro w5;obtain⟨u1,u2,u3⟩:=HL w4 (fK k G (bK G l) l) A4 n4 c4 E4 e4 d4;refine⟨u1,?_⟩;intro w6
 replace u2:w6.heap[w4.heap.size]? =some (.cells (dS (fK k G (bK G l) l) A4 n4 c4 E4 e4 d4) cB (0,0)):=u2
 replace u3:Kept Nil w4 w6:=u3
 clear_value w6;have qp:=lh.tt u3;have YT:=mg4.len;have hme:(fK k G (bK G l) l).merge=cu G (bK G l) l:=rfl;rw [hme]at YT;refine⟨A4,n4,c4,(zv u2).2.2.1,p.mm,by rw [bt,aA (qp.heap Ca (fun h=>h))];exact p.Cr,?_⟩;rw [<-YT];exact Split.dec (fun h=>hK w6 10 qp (.inl ⟨by omega,rfl⟩)) (fun h=>hK w6 0 qp (.inr ⟨by omega,rfl⟩))
end
section
variable{w w' v:World}{K:Value->World->Prop}{n cx hb gb ob cb pb:Nat}{A:Option Addr}{l:List HT}{F:Nat->Prop}{c k:Nat}{G:GS}{m:CM}{hd:Array Value}{p:PP}
set_option maxHeartbeats 4000000 in
theorem mE(C:CV w F c k G m)(hT:p0 w)(hD:G.D.length<=49)(rH:k<=1000)(p:PP)(h0:hd[0]? =some (.slice A n cx))(hl:HS w A n l)(hn:n<=1000)
 (hK:∀w' A' n' c',HS w' A' n' (hU p G l).1->Kept Nil w w'->K (.tuple #[.slice A' n' c',.int .i64 (hU p G l).2]) w'):
 bf prog aC.id #[.agg p.cells,.pointer (some ⟨c,0,none⟩),.agg hd] w K:=by
 have hlen:=hl.len;refine aC.of ?_;unfold aC.W;intro w1 w2 w3 w4;have k1:Kept Nil w w1:=(Kept.refl _ _).alloc _;have OW:w1.heap[w.heap.size]? =some (.cells p.cells gH (0,0)):=aR w _;have k2:Kept Nil w1 w2:=(Kept.refl _ _).alloc _;have y7:w2.heap[w1.heap.size]? =some (.cells #[.pointer (some ⟨c,0,none⟩)] cg (0,0)):=aR w1 _;have k3:Kept Nil w2 w3:=(Kept.refl _ _).alloc _;have Zd:w3.heap[w2.heap.size]? =some (.cells hd iE (0,0)):=aR w2 _;have k4:Kept Nil w3 w4:=(Kept.refl _ _).alloc _;have KH:w4.heap[w3.heap.size]? =some (.cells #[.slice none 0 0] aV (0,0)):=aR w3 _;clear_value w4;have PL:=k4.heap Zd (fun h=>h);have EJ:=(k3.tt k4).heap y7 (fun h=>h);have Mp:=((k2.tt k3).tt k4).heap OW (fun h=>h);have lh:=((k1.tt k2).tt k3).tt k4;have s1:=k1.size;have l1:=a7 OW;have l2:=a7 y7;have l3:=a7 Zd;have l4:=a7 KH;generalize Ca:w.heap.size=pb at Mp l1 s1;generalize y5:w1.heap.size=cb at EJ l1 l2 s1;generalize yY:w2.heap.size=hb at PL l2 l3;generalize xl:w3.heap.size=ob at KH l3 l4;clear_value w3;clear_value w2;clear_value w1;have C4:=C.same lh;refine⟨_,by rw [aA EJ];rfl,qR C4 ⟨_,rfl,?_⟩⟩;obtain⟨mx,X4,PW⟩:=C4.X;refine dp.of (Split.no rfl (Is.mk rfl ⟨_,X4.c0,⟨_,rfl,?_⟩⟩));intro w5;have k5:Kept Nil w4 w5:=(Kept.refl _ _).alloc _;have Hm:w5.heap[w4.heap.size]? =some (.cells #[.pointer none] eE (0,0)):=aR w4 _;clear_value w5;have l5:=a7 Hm;refine⟨dz Hm (by simp),?_⟩;intro w6 w7;have PQ:w6.heap[w4.heap.size]? =some (.cells #[.pointer (some ⟨mx.g,0,none⟩)] eE (0,0)):=cR Hm 0 _;have k6:Kept (· =w4.heap.size) w5 w6:=Kept.setCell (S:=fun j=>j=w4.heap.size) (Kept.refl _ w5) (p:=⟨w4.heap.size,0,none⟩) (fun _=>rfl) _
 have k7:Kept Nil w6 w7:=(Kept.refl _ _).alloc _;have FD:Kept Nil w4 w6:=k5.trans k6 (fun j hj e=>by omega);have s46:=FD.size;generalize K1:w4.heap.size=gb at PQ;have IT:=aR w6 (.cells #[.func (.func bD.id) #[] #[.pointer (some ⟨gb,0,none⟩)],.func (.func bR.id) #[] #[.pointer (some ⟨pb,0,none⟩)],.func (.func bP.id) #[] #[.pointer (some ⟨hb,0,none⟩),.pointer (some ⟨pb,0,none⟩)],.func (.func aL.id) #[] #[.pointer (some ⟨hb,0,none⟩),.pointer (some ⟨gb,0,none⟩),.pointer (some ⟨ob,0,none⟩)],.func (.func aO.id) #[] #[.pointer (some ⟨hb,0,none⟩),.pointer (some ⟨cb,0,none⟩)],.func (.func bO.id) #[] #[.pointer (some ⟨cb,0,none⟩),.pointer (some ⟨hb,0,none⟩),.pointer (some ⟨pb,0,none⟩)]] 110);have e7:w7=w6.alloc (.cells #[.func (.func bD.id) #[] #[.pointer (some ⟨gb,0,none⟩)],.func (.func bR.id) #[] #[.pointer (some ⟨pb,0,none⟩)],.func (.func bP.id) #[] #[.pointer (some ⟨hb,0,none⟩),.pointer (some ⟨pb,0,none⟩)],.func (.func aL.id) #[] #[.pointer (some ⟨hb,0,none⟩),.pointer (some ⟨gb,0,none⟩),.pointer (some ⟨ob,0,none⟩)],.func (.func aO.id) #[] #[.pointer (some ⟨hb,0,none⟩),.pointer (some ⟨cb,0,none⟩)],.func (.func bO.id) #[] #[.pointer (some ⟨cb,0,none⟩),.pointer (some ⟨hb,0,none⟩),.pointer (some ⟨pb,0,none⟩)]] 110):=by
  subst K1;rfl
 rw [<-e7]at IT;clear_value w7;clear e7;have l7:=a7 IT;generalize Ew:w6.heap.size=rb at IT l7;have FC:=FD.tt k7;have tB:=lh.tt FC;clear_value w6;have hp7:=FC.heap Mp (fun h=>h);have Jf:∀j,mx.jb m.x j\/m.FX j->j<pb:=fun j e=>by
  rw [<-Ca];rcases e with e|e
  ·exact C.low j (.inl (.inl (PW j e)))
  ·exact C.low j (.inr (C.fx j e))
 have hc7:=FC.heap EJ (fun h=>h);have hh7:=FC.heap PL (fun h=>h);have RR:=FC.heap KH (fun h=>h);have K3:=k7.heap PQ (fun h=>h);have C7:=C.same tB;have X7:=X4.same FC;have l7':=hl.same tB;have aaM:=C.low;have Wz:∀a,A=some a->n≠0->a.block<w.heap.size:=fun a ha Aw=>by
  obtain⟨y,hy⟩:∃y,l[0]? =some y:=⟨_,List.getElem?_eq_getElem (by omega)⟩;obtain⟨a',y9,h1,_⟩:=hl.at_ 0 y hy;rw [ha]at y9;cases y9;exact h1
 refine aC.b9 (I:=fun s v=>∃i:Nat,s=(0,(i:Int))/\i<=6/\Kept Nil w7 v/\(2<=i->p.ok)/\(3<=i->¬((l.length<1\/p.mp<(l.length:Int))\/di l≠l))/\(4<=i->eQ G.D l= [])/\(5<=i->¬q8 G.D l)/\(6<=i->¬p.mm<((cu G (bK G l) l).length:Int))) (μ:=fun s _=>(6-s.2).toNat) (s:=(0,0)) ⟨0,rfl,by omega,Kept.refl _ _,fun h=>by omega,fun h=>by omega,fun h=>by omega,fun h=>by omega,fun h=>by omega⟩ ?_;rintro⟨_,_⟩ v ⟨i,e,hi,kv,c2,c3,c4,c5,c6⟩;cases e;unfold aC.B1;have vn:=tB.tt kv;have K5:=kv.heap IT (fun h=>h);have CY:=kv.heap RR (fun h=>h);refine Split.dec (fun cI=>?_) (fun iG=>?_)
 ·simp only at cI
  have eV:i<6:=by omega
  have kd:lg prog fP=.int .i64:=by kernel_rfl
  have stop:∀ {u:World} {e:Int} {A':Option Addr} {c':Nat},Kept (· =ob) w7 u->u.heap[ob]? =some (.cells #[.slice A' (hU p G l).1.length c'] aV (0,0))->HS u A' (hU p G l).1.length (hU p G l).1->(hU p G l).2=e->e≠0->(∀a,A'=some a->(hU p G l).1.length≠0->a.block≠ob)->
   aC.J1 ⟨ob,0,none⟩ 0 e (some ⟨rb,0,none⟩) 6 6 6 (i:Int) (bS (aC.e1 ⟨ob,0,none⟩ (some ⟨rb,0,none⟩) 6 6 6) (fun s v=>∃i:Nat,s=(0,(i:Int))/\i<=6/\Kept Nil w7 v/\(2<=i->p.ok)/\(3<=i->¬((l.length<1\/p.mp<(l.length:Int))\/di l≠l))/\(4<=i->eQ G.D l= [])/\(5<=i->¬q8 G.D l)/\(6<=i->¬p.mm<((cu G (bK G l) l).length:Int))) (fun s _=>(6-s.2).toNat) (0,(i:Int)) v (aC.q1 K)) u:=by
   intro u e A' c' ku hu hs he fG KI;unfold aC.J1;refine Split.yes (by simpa using fG) ⟨_,_,_,by rw [aA hu];rfl,dz hu (by simp),?_⟩;intro w9;have Ow:w9.heap[ob]? =some (.cells #[.slice A' (hU p G l).1.length c'] aV (0,0)):=cR hu 0 _;have k9:Kept (· =ob) u w9:=Kept.setCell (S:=fun j=>j=ob) (Kept.refl _ u) (p:=⟨ob,0,none⟩) (fun _=>rfl) _;clear_value w9;rw [fS,aC.u7];refine⟨_,_,_,by rw [aA Ow];rfl,?_⟩;rw [<-he];refine hK w9 A' _ c' ?_ ((tB.trans ku (fun j hj e=>by omega)).trans k9 (fun j hj e=>by omega));by_cases hz:(hU p G l).1.length=0
   ·have e0:=List.eq_nil_of_length_eq_zero hz
    rw [e0];exact HS.nil _ _
   ·exact hs.aK k9 (fun a ha e=>KI a ha hz e)
  have zV:∀ {u:World} {e:Int},Kept Nil w7 u->hU p G l=([],e)->e≠0->
   aC.J1 ⟨ob,0,none⟩ 0 e (some ⟨rb,0,none⟩) 6 6 6 (i:Int) (bS (aC.e1 ⟨ob,0,none⟩ (some ⟨rb,0,none⟩) 6 6 6) (fun s v=>∃i:Nat,s=(0,(i:Int))/\i<=6/\Kept Nil w7 v/\(2<=i->p.ok)/\(3<=i->¬((l.length<1\/p.mp<(l.length:Int))\/di l≠l))/\(4<=i->eQ G.D l= [])/\(5<=i->¬q8 G.D l)/\(6<=i->¬p.mm<((cu G (bK G l) l).length:Int))) (fun s _=>(6-s.2).toNat) (0,(i:Int)) v (aC.q1 K)) u:=by
   intro u e ku he fG;have e1:(hU p G l).1= []:=by rw [he]
   refine stop (A':=none) (c':=0) (ku.mono fun _ _ h=>h.elim) (by rw [e1];exact ku.heap RR (fun h=>h)) (by rw [e1];exact HS.nil _ _) (by rw [he]) fG (fun a ha=>by cases ha)
  have go:∀ {u:World},Kept Nil w7 u->(2<=i+1->p.ok)->(3<=i+1->¬((l.length<1\/p.mp<(l.length:Int))\/di l≠l))->(4<=i+1->eQ G.D l= [])->(5<=i+1->¬q8 G.D l)->(6<=i+1->¬p.mm<((cu G (bK G l) l).length:Int))->
   aC.J1 ⟨ob,0,none⟩ 0 0 (some ⟨rb,0,none⟩) 6 6 6 (i:Int) (bS (aC.e1 ⟨ob,0,none⟩ (some ⟨rb,0,none⟩) 6 6 6) (fun s v=>∃i:Nat,s=(0,(i:Int))/\i<=6/\Kept Nil w7 v/\(2<=i->p.ok)/\(3<=i->¬((l.length<1\/p.mp<(l.length:Int))\/di l≠l))/\(4<=i->eQ G.D l= [])/\(5<=i->¬q8 G.D l)/\(6<=i->¬p.mm<((cu G (bK G l) l).length:Int))) (fun s _=>(6-s.2).toNat) (0,(i:Int)) v (aC.q1 K)) u:=by
   intro u ku d2 d3 d4 d5 d6;unfold aC.J1;refine Split.no rfl ?_;rw [eF (n:=(i:Int)) (by omega) (by omega)];exact⟨(0,(i:Int)+1),rfl,⟨i+1,rfl,by omega,ku,d2,d3,d4,d5,d6⟩,by simp only;omega⟩
  refine⟨⟨by omega,by omega⟩,Is.mk rfl ?_⟩;simp-zeta only [Int.toNat_natCast];have IU:=kv.heap hc7 (fun h=>h);have RY:=kv.heap hh7 (fun h=>h);have OQ:=kv.heap hp7 (fun h=>h);have Ze:=kv.heap K3 (fun h=>h);have Cv:=C7.same kv;have Xv:=X7.same kv;have lv:=l7'.same kv;have rd:∀(j:Nat) (z:Value),(#[.func (.func bD.id) #[] #[.pointer (some ⟨gb,0,none⟩)],.func (.func bR.id) #[] #[.pointer (some ⟨pb,0,none⟩)],.func (.func bP.id) #[] #[.pointer (some ⟨hb,0,none⟩),.pointer (some ⟨pb,0,none⟩)],.func (.func aL.id) #[] #[.pointer (some ⟨hb,0,none⟩),.pointer (some ⟨gb,0,none⟩),.pointer (some ⟨ob,0,none⟩)],.func (.func aO.id) #[] #[.pointer (some ⟨hb,0,none⟩),.pointer (some ⟨cb,0,none⟩)],.func (.func bO.id) #[] #[.pointer (some ⟨cb,0,none⟩),.pointer (some ⟨hb,0,none⟩),.pointer (some ⟨pb,0,none⟩)]]:Array Value)[j]? =some z->v.cell? ((⟨rb,0,none⟩:Addr).add (j*1))=some z:=fun j z h=>by rw [Nat.mul_one,bt,aA K5,Nat.zero_add];exact h
  have Om:bD.fn.body.isSome=true:=by kernel_rfl
  have TM:bR.fn.body.isSome=true:=by kernel_rfl
  have hz3:bP.fn.body.isSome=true:=by kernel_rfl
  have hz4:aL.fn.body.isSome=true:=by kernel_rfl
  have hz5:aO.fn.body.isSome=true:=by kernel_rfl
  have hz6:bO.fn.body.isSome=true:=by kernel_rfl
  have pJ:bD.fn.resultTypes.toList= [fP]:=by kernel_rfl
  have la:bR.fn.resultTypes.toList= [fP]:=by kernel_rfl
  have CX:bP.fn.resultTypes.toList= [fP]:=by kernel_rfl
  have Un:aL.fn.resultTypes.toList= [fP]:=by kernel_rfl
  have CW:aO.fn.resultTypes.toList= [fP]:=by kernel_rfl
  have RN:bO.fn.resultTypes.toList= [fP]:=by kernel_rfl
  have RX:i=0\/i=1\/i=2\/i=3\/i=4\/i=5:=by omega
  rcases RX with rfl|rfl|rfl|rfl|rfl|rfl
  ·refine⟨.func (.func bD.id) #[] #[.pointer (some ⟨gb,0,none⟩)],rd 0 _ rfl,?_⟩
   rw [gF (fn:=bD.fn) bD.at_ Om rfl pJ kd];refine bD.of ⟨_,by rw [aA Ze];rfl,Split.no rfl (⟨_,rfl,aC.kN (go kv (fun h=>by omega) (fun h=>by omega) (fun h=>by omega) (fun h=>by omega) (fun h=>by omega))⟩)⟩
  ·refine⟨.func (.func bR.id) #[] #[.pointer (some ⟨pb,0,none⟩)],rd 1 _ rfl,?_⟩
   rw [gF (fn:=bR.fn) bR.at_ TM rfl la kd];refine Hs OQ fun w8 k8=>⟨_,rfl,aC.kN ?_⟩;have DZ:=kv.tt k8;by_cases xY:p.ok
   ·rw [if_neg (fun e=>e xY)]
    exact go DZ (fun _=>xY) (fun h=>by omega) (fun h=>by omega) (fun h=>by omega) (fun h=>by omega)
   ·rw [if_pos xY]
    exact zV DZ (by unfold hU;rw [if_pos xY]) (by omega)
  ·refine⟨.func (.func bP.id) #[] #[.pointer (some ⟨hb,0,none⟩),.pointer (some ⟨pb,0,none⟩)],rd 2 _ rfl,?_⟩
   rw [gF (fn:=bP.fn) bP.at_ hz3 rfl CX kd];have xY:=c2 (by omega);refine Hr RY h0 lv (by omega) OQ fun w8 e k8 he=>⟨_,rfl,aC.kN ?_⟩;have DZ:=kv.tt k8;rcases he with⟨h3,rfl⟩|⟨h3,rfl⟩
   ·exact zV DZ (by unfold hU;rw [if_neg (fun e=>e xY),if_pos h3]) (by omega)
   ·exact go DZ (fun _=>xY) (fun _=>h3) (fun h=>by omega) (fun h=>by omega) (fun h=>by omega)
  ·refine⟨.func (.func aL.id) #[] #[.pointer (some ⟨hb,0,none⟩),.pointer (some ⟨gb,0,none⟩),.pointer (some ⟨ob,0,none⟩)],rd 3 _ rfl,?_⟩
   rw [gF (fn:=aL.fn) aL.at_ hz4 rfl Un kd];have xY:=c2 (by omega);have h3:=c3 (by omega);have FO:n≠0:=fun e=>h3 (.inl (.inl (by omega)));have hAn:∀a,A=some a->a.block≠ob:=fun a ha e=>by have:=Wz a ha FO;omega
   have XS:∀u,Kept (· =ob) v u->XV u m.FX m.x G.D G.P mx:=fun u ku=>by
    have CV':Kept (· =ob) w u:=(vn.mono fun _ _ h=>h.elim).tt ku;exact X4.aK ((FC.tt kv).mono (S':=fun j=>j=ob) (fun _ _ h=>h.elim) |>.tt ku) (fun j e e'=>by have:=Jf j (.inl e);omega) (fun j e e'=>by have:=Jf j (.inr e);omega)
   refine Hq Xv Cv rfl RY h0 lv (by omega) Ze CY (by omega) (by omega) hAn XS (fun hm w8 k8=>⟨_,rfl,aC.kN (go (kv.tt k8) (fun _=>xY) (fun _=>h3) (fun _=>hm) (fun h=>by omega) (fun h=>by omega))⟩) fun hm w8 A8 c8 ho8 Gk k8=>⟨_,rfl,aC.kN ?_⟩;have he:hU p G l=(eQ G.D l,15):=by unfold hU;rw [if_neg (fun e=>e xY),if_neg h3,if_pos hm]
   have sv:=kv.size;refine stop (A':=A8) (c':=c8) ((kv.mono fun _ _ h=>h.elim).tt k8) (by rw [he];exact ho8) (by rw [he];exact cm.hs Gk) (by rw [he]) (by omega) (fun a ha _ e=>?_);have:=(Row.bW Gk (k:=a.block) (by rw [ha];rfl)).1;omega
  ·refine⟨.func (.func aO.id) #[] #[.pointer (some ⟨hb,0,none⟩),.pointer (some ⟨cb,0,none⟩)],rd 4 _ rfl,?_⟩
   rw [gF (fn:=aO.fn) aO.at_ hz5 rfl CW kd];have xY:=c2 (by omega);have h3:=c3 (by omega);have hm:=c4 (by omega);refine Hp Cv (by omega) RY h0 lv (by omega) IU fun w8 e k8 he=>⟨_,rfl,aC.kN ?_⟩;have DZ:=kv.tt k8;rcases he with⟨h5,rfl⟩|⟨h5,rfl⟩
   ·exact zV DZ (by unfold hU;rw [if_neg (fun e=>e xY),if_neg h3,if_neg (fun e=>e hm),if_pos h5]) (by omega)
   ·exact go DZ (fun _=>xY) (fun _=>h3) (fun _=>hm) (fun _=>h5) (fun h=>by omega)
  ·refine⟨.func (.func bO.id) #[] #[.pointer (some ⟨cb,0,none⟩),.pointer (some ⟨hb,0,none⟩),.pointer (some ⟨pb,0,none⟩)],rd 5 _ rfl,?_⟩
   rw [gF (fn:=bO.fn) bO.at_ hz6 rfl RN kd];have xY:=c2 (by omega);have h3:=c3 (by omega);have hm:=c4 (by omega);have h5:=c5 (by omega);have vv:l≠ []:=fun e=>h3 (.inl (.inl (by rw [e];simp)));refine Ho Cv (hT.same vn) hD rH RY h0 lv (by omega) IU OQ vv (ql.1 hm) fun w8 e k8 he=>⟨_,rfl,aC.kN ?_⟩;have DZ:=kv.tt k8;rcases he with⟨h6,rfl⟩|⟨h6,rfl⟩
   ·exact zV DZ (by unfold hU;rw [if_neg (fun e=>e xY),if_neg h3,if_neg (fun e=>e hm),if_neg h5,if_pos h6]) (by omega)
   ·exact go DZ (fun _=>xY) (fun _=>h3) (fun _=>hm) (fun _=>h5) (fun _=>h6)
 ·simp only at iG
  rw [aY,aC.dw];unfold aC.cU;refine⟨dz CY (by simp),?_⟩;intro w9;have Ow:w9.heap[ob]? =some (.cells #[.slice none 0 0] aV (0,0)):=cR CY 0 _;have k9:Kept (· =ob) v w9:=Kept.setCell (S:=fun j=>j=ob) (Kept.refl _ v) (p:=⟨ob,0,none⟩) (fun _=>rfl) _;clear_value w9;refine⟨none,0,0,by rw [aA Ow];rfl,?_⟩;have he:hU p G l=([],0):=by unfold hU;rw [if_neg (fun e=>e (c2 (by omega))),if_neg (c3 (by omega)),if_neg (fun e=>e (c4 (by omega))),if_neg (c5 (by omega)),if_neg (c6 (by omega))]
  have:=hK w9 none 0 0 (by rw [he];exact HS.nil _ _) (vn.trans k9 (fun j hj e=>by omega));rw [he]at this;exact this
end
noncomputable def tA:PP:=⟨2,5,10,0,0,0,0,10,10,fy⟩
theorem yx:tA.ok:=by simp [PP.ok,tA]
theorem zO(v:Value):(CN v)[0]? =some v:=by kernel_rfl
section
variable{r a b:HT}(KB:r≠a)(Ew:r≠b)(mH:a≠b)
include Ew mH in
theorem k2b:eB [⟨r,[]⟩,⟨a,[r]⟩] b [a]=0/\mB [⟨r,[]⟩,⟨a,[r]⟩] b [a]= [⟨r,[]⟩,⟨a,[r]⟩,⟨b,[a]⟩]:=by
 have h:eB [⟨r,[]⟩,⟨a,[r]⟩] b [a]=0:=by
  unfold eB;rw [if_neg (by simp [ids];exact⟨fun e=>Ew e.symm,fun e=>mH e.symm⟩),lY,if_neg (by simp),if_neg (by simp [ids])]
 exact⟨h,by unfold mB;rw [if_pos h,lY];rfl⟩
theorem yy{G:GS}(H:lA 2 G)(D:G.D= [⟨r,[]⟩,⟨a,[r]⟩,⟨b,[a]⟩])(cI:cI a b=true):hU tA G [a,b]=([],9)/\hU tA G [b]=([],0):=by
 have mH:fE G.D a b:=.one ⟨⟨b,[a]⟩,by rw [D];simp,rfl,by simp⟩;have ha:a∈ids G.D:=by rw [D];simp [ids]
 have hb:b∈ids G.D:=by rw [D];simp [ids]
 constructor
 ·have hs:di [a,b]= [a,b]:=wh (by simp [SS,cI])
  have hm:eQ G.D [a,b]= []:=ql.2 (by simp [ha,hb]);unfold hU;rw [if_neg (fun e=>e yx),if_neg,if_neg (fun e=>e hm),if_pos ⟨a,by simp,b,by simp,mH⟩];rintro((e|e)|e)
  ·simp at e
  ·simp [tA]at e
  ·exact e hs
 ·have hs:di [b]= [b]:=lY b
  have hm:eQ G.D [b]= []:=ql.2 (by simp [hb]);unfold hU;rw [if_neg (fun e=>e yx),if_neg,if_neg (fun e=>e hm),if_neg,if_neg]
  ·have e1:bK G [b]=b:=rfl
   rw [e1,wL];simp [tA]
  ·rintro⟨x,hx,y,hy,lW⟩
   rw [List.mem_singleton]at hx hy;subst hx hy;exact fE.irrefl H.W _ lW
  ·rintro((e|e)|e)
   ·simp at e
   ·simp [tA]at e
   ·exact e hs
end
section
variable{w w':World}{K:Value->World->Prop}
theorem iS(hK:∀w',Kept Nil w w'->K (.agg tA.cells) w'):bf prog dI.id #[] w K:=by
 refine dI.of ?_;unfold dI.W;intro w1;have I5:w1.heap[w.heap.size]? =some (.cells (#[.int .i64 0,.int .i64 0,.int .i64 0,.int .i64 0,.int .i64 0,.int .i64 0,.int .u64 0,.int .i64 0,.int .i64 0]++fy.1) gH (0,0)):=aR w _;have k1:Kept Nil w w1:=(Kept.refl _ _).alloc _;clear_value w1;obtain⟨t1,t2,t3⟩:=lr I5 (cs:=tA.cells) (by rw [tA.size,Array.size_append,fy.2.1];rfl);rw [tA.size]at t1;refine⟨⟨tA.size,tA.one,t1⟩,tA.cells,⟨tA.size,Cells.bW t2⟩,hK _ (k1.trans t3 (fun j hj e=>by omega))⟩
set_option maxHeartbeats 2000000 in
theorem yG(hT:p0 w)(hK:∀w',Kept Nil w w'->K (.bool true) w'):bf prog gz.id #[] w K:=by
 let r:=hx 1 (by omega)
 let a:=hx 2 (by omega)
 let b:=hx 3 (by omega)
 have KB:r≠a:=yL (by omega);have Ew:r≠b:=yL (by omega);have mH:a≠b:=yL (by omega);have cI:cI a b=true:=by decide
 refine gz.of ?_;unfold gz.W;intro w1 w2 w3;have ka:Kept Nil w w1:=(Kept.refl _ _).alloc _;have pJ:w1.heap[w.heap.size]? =some (.cells fy.1 ax (0,0)):=aR w _;have kb:Kept Nil w1 w2:=(Kept.refl _ _).alloc _;have Zv:w2.heap[w1.heap.size]? =some (.cells fy.1 ax (0,0)):=aR w1 _;have kc:Kept Nil w2 w3:=(Kept.refl _ _).alloc _;have oX:w3.heap[w2.heap.size]? =some (.cells fy.1 ax (0,0)):=aR w2 _;clear_value w3;have Zu:=kc.heap Zv (fun h=>h);have CX:=kc.heap (kb.heap pJ (fun h=>h)) (fun h=>h);have jS:=(ka.tt kb).tt kc;have l1:=a7 pJ;have l2:=a7 Zv;have l3:=a7 oX;generalize abZ:w.heap.size=rb at CX l1;generalize adb:w1.heap.size=ab at Zu l1 l2;generalize ac5:w2.heap.size=bb at oX l2 l3;clear_value w2;clear_value w1;obtain⟨u1,u2,u3⟩:=jr r CX rfl;refine⟨u1,?_⟩;intro w4
 replace u2:w4.heap[rb]? =some (.cells r.1 ax (0,0)):=u2
 replace u3:Kept (· =rb) w3 w4:=u3
 clear_value w4;obtain⟨v1,v2,v3⟩:=jr a (u3.heap Zu (by omega)) rfl;refine⟨v1,?_⟩;intro w5
 replace v2:w5.heap[ab]? =some (.cells a.1 ax (0,0)):=v2
 replace v3:Kept (· =ab) w4 w5:=v3
 clear_value w5;obtain⟨x1,x2,x3⟩:=jr b (v3.heap (u3.heap oX (by omega)) (by omega)) rfl;refine⟨x1,?_⟩;intro ln
 replace x2:ln.heap[bb]? =some (.cells b.1 ax (0,0)):=x2
 replace x3:Kept (· =bb) w5 ln:=x3
 clear_value ln;have hb:=x2;have ha:=x3.heap v2 (by omega);have hr:=x3.heap (v3.heap u2 (by omega)) (by omega);have k:Kept Nil w ln:=((jS.trans u3 (fun j hj e=>by omega)).trans v3 (fun j hj e=>by omega)).trans x3 (fun j hj e=>by omega);have hTl:=hT.lt;have s16:=k.size;have lb:=a7 hb;have box:∀ {u:World} {S:Nat->Prop},Kept S ln u->(∀k,S k->ln.heap.size<=k)->u.heap[rb]? =some (.cells r.1 ax (0,0))/\u.heap[ab]? =some (.cells a.1 ax (0,0))/\u.heap[bb]? =some (.cells b.1 ax (0,0)):=fun ku hS=>
  ⟨ku.heap hr (fun e=>by have:=hS _ e;omega),ku.heap ha (fun e=>by have:=hS _ e;omega),ku.heap hb (fun e=>by have:=hS _ e;omega)⟩
 obtain⟨c1,d1⟩:=k1 KB;obtain⟨c2,d2⟩:=k2b Ew mH;have H1:=(mi 2 r).add a [r];have H2:=H1.add b [a];have D1:(fD 2 (gm r) a [r]).D= [⟨r,[]⟩,⟨a,[r]⟩]:=by rw [tu];exact d1
 have D2:(fD 2 (fD 2 (gm r) a [r]) b [a]).D= [⟨r,[]⟩,⟨a,[r]⟩,⟨b,[a]⟩]:=by rw [tu,D1];exact d2
 obtain⟨P1,P2⟩:=yy H2 D2 cI;refine⟨r.1,⟨r.2.1,Cells.bW hr⟩,gN r (k:=2) (by omega) fun p6 cc q m C hm hq Ap=>⟨_,_,rfl,Split.no rfl (Split.no rfl ?_)⟩⟩;obtain⟨b1,b2,b3⟩:=box Ap (fun _ h=>h.elim);refine⟨a.1,⟨a.2.1,Cells.bW b2⟩,r.1,⟨r.2.1,Cells.bW b1⟩,r.2.1,?_⟩;intro km;have pZ:Kept Nil p6 km:=(Kept.refl _ _).alloc _;have Hu:HS km (some ⟨p6.heap.size,0,none⟩) 1 [r]:=lj p6 r;clear_value km;have yI:=Ap.tt pZ;have S6:=yI.size;refine sK (C.same pZ) (hT.same (k.tt yI)) (fun e=>by have:=hm _ (.inl e);omega) (by simp [gm]) (by omega) Hu (by omega) a fun A9 F2 m2 A2 n2 p2 E2 q2 z2 C2 _ D5 Y0 _ _ _ _ _=>⟨_,_,rfl,?_⟩;have XK:∀j,m2.own cc j->ln.heap.size<=j:=fun j e=>(Y0 j e).elim (hm j) (fun h=>by omega);have Ik:Kept (fun q=>ln.heap.size<=q) ln A9:=(yI.mono (S':=fun q=>ln.heap.size<=q) (fun _ _ h=>h.elim)).trans D5 (fun q _ h=>hm q h);obtain⟨b1,b2,b3⟩:=box Ik (fun _ h=>h);refine⟨b.1,⟨b.2.1,Cells.bW b3⟩,a.1,⟨a.2.1,Cells.bW b2⟩,a.2.1,?_⟩;intro MW;have RC:Kept Nil A9 MW:=(Kept.refl _ _).alloc _;have V6:HS MW (some ⟨A9.heap.size,0,none⟩) 1 [a]:=lj A9 a;clear_value MW;have Ec:=Ik.trans RC (fun _ _ h=>h.elim);have s31:=Ec.size;refine sK (C2.same RC) ((hT.same k).aK Ec (fun e=>by omega)) (fun e=>by have:=XK _ (.inl e);omega) (by rw [D1];simp) (by omega) V6 (by omega) b fun p5 F3 m3 A3 n3 p3 E3 q3 z3 C3 _ Al YZ _ _ _ _ _=>⟨_,_,rfl,?_⟩;have Eb:Kept (fun q=>ln.heap.size<=q) ln p5:=Ec.trans Al (fun q _ h=>XK q h);have QA:p0 p5:=(hT.same k).aK Eb (fun e=>by omega);have k0:∀ {u:World},Kept Nil p5 u->Kept Nil w u:=fun ku=>k.trans (Eb.trans ku (fun _ _ h=>h.elim)) (fun q hq e=>by omega)
 obtain⟨b1,b2,b3⟩:=box Eb (fun _ h=>h);have Wv:(fD 2 (fD 2 (gm r) a [r]) b [a]).D.length<=49:=by rw [D2];simp
 generalize fD 2 (fD 2 (gm r) a [r]) b [a]=G2 at C3 Wv P1 P2;have P9:∀ {u:World} {A:Option Addr} {K':Value->World->Prop},Kept Nil p5 u->HS u A 2 [a,b]->(∀w' A' n' c',Kept Nil p5 w'->K' (.tuple #[.slice A' n' c',.int .i64 9]) w')->bf prog aC.id #[.agg tA.cells,.pointer (some ⟨cc,0,none⟩),.agg (CN (.slice A 2 2))] u K':=fun ku hs hk=>
  mE (C3.same ku) (QA.same ku) Wv (by omega) tA (zO _) hs (by omega) fun w' A' n' c' _ k'=>by
   rw [P1];exact hk w' A' n' c' (ku.tt k')
 have P8:∀ {u:World} {A:Option Addr} {K':Value->World->Prop},Kept Nil p5 u->HS u A 1 [b]->(∀w' A' n' c',Kept Nil p5 w'->K' (.tuple #[.slice A' n' c',.int .i64 0]) w')->bf prog aC.id #[.agg tA.cells,.pointer (some ⟨cc,0,none⟩),.agg (CN (.slice A 1 1))] u K':=fun ku hs hk=>
  mE (C3.same ku) (QA.same ku) Wv (by omega) tA (zO _) hs (by omega) fun w' A' n' c' _ k'=>by
   rw [P2];exact hk w' A' n' c' (ku.tt k')
 have fin:∀ {u:World},Kept Nil p5 u->bf prog dI.id #[] u fun pe qe=>∃re:Array Value,pe=.agg re/\bf prog bw.id #[.agg re] qe fun te ue=>∃ve:Bool,te=.bool ve/\K (.bool ve) ue:=fun ku=>
  iS fun w1 k1=>⟨_,rfl,mD tA fun w2 k2=>⟨_,rfl,by rw [decide_eq_true yx];exact hK w2 (k0 ((ku.tt k1).tt k2))⟩⟩
 intro mL;have xU:Kept Nil p5 mL:=(Kept.refl _ _).drew;clear_value mL;have Qz:=xU.heap b2 (fun h=>h);have Qs:=xU.heap b3 (fun h=>h);have half:∀ {va:World},Kept Nil p5 va->va.heap[bb]? =some (.cells b.1 ax (0,0))->
  (let be:World:=va.drew;∃ce:Array Value,(ce.size=32/\Cells be (⟨bb,0,none⟩:Addr) ce)/\(bf prog dI.id #[] be fun de ee=>∃fe:Array Value,de=.agg fe/\(∃cs:Array Value,(.agg ce:Value)=.agg cs/\cs.size=32/\Cells ee (⟨bb,0,none⟩:Addr) cs)/\ce.size=32/\(let ge:World:=ee.alloc (.cells (ce.toList++ []).toArray ax);bf prog aC.id #[.agg fe,.pointer (some ⟨cc,0,none⟩),.agg (CN (.slice (some (aU ee.heap.size)) 1 1))] ge fun ie je=>∃ke:Option Addr,∃me ne:Nat,∃oe:Int,ie=.tuple #[.slice ke me ne,.int .i64 oe]/\Split ((9:Int)==(9:Int)) (Split (oe==(0:Int)) (bf prog dI.id #[] je fun pe qe=>∃re:Array Value,pe=.agg re/\bf prog bw.id #[.agg re] qe fun te ue=>∃ve:Bool,te=.bool ve/\K (.bool ve) ue) (K (.bool false) je)) (K (.bool false) je)))/\
    (ce.size=32/\(let xe:World:=be.alloc (.cells (ce.toList++ []).toArray ax);bf prog dI.id #[] xe fun ye ze=>∃aj:Array Value,ye=.agg aj/\bf prog aC.id #[.agg aj,.pointer (some ⟨cc,0,none⟩),.agg (CN (.slice (some (aU be.heap.size)) 1 1))] ze fun bj cj=>∃dj:Option Addr,∃ej fj:Nat,∃gj:Int,bj=.tuple #[.slice dj ej fj,.int .i64 gj]/\Split ((9:Int)==(9:Int)) (Split (gj==(0:Int)) (bf prog dI.id #[] cj fun ij jj=>∃kj:Array Value,ij=.agg kj/\bf prog bw.id #[.agg kj] jj fun mj nj=>∃oj:Bool,mj=.bool oj/\K (.bool oj) nj) (K (.bool false) cj)) (K (.bool false) cj)))):=by
  intro va kva EN be;have X8:Kept Nil va be:=(Kept.refl _ _).drew;clear_value be;have Al:=kva.tt X8;have Zt:=X8.heap EN (fun h=>h);refine⟨b.1,⟨b.2.1,Cells.bW Zt⟩,?_,b.2.1,?_⟩
  ·refine iS fun ee ke=>⟨_,rfl,⟨_,rfl,b.2.1,Cells.bW (ke.heap Zt (fun h=>h))⟩,b.2.1,?_⟩
   intro ge;have kge:Kept Nil ee ge:=(Kept.refl _ _).alloc _;have iG:HS ge (some ⟨ee.heap.size,0,none⟩) 1 [b]:=lj ee b;clear_value ge;exact P8 ((Al.tt ke).tt kge) iG fun w' A' n' c' k'=>⟨A',n',c',_,rfl,Split.yes rfl (Split.yes rfl (fin k'))⟩
  ·intro xe
   have kxe:Kept Nil be xe:=(Kept.refl _ _).alloc _;have TN:HS xe (some ⟨be.heap.size,0,none⟩) 1 [b]:=lj be b;clear_value xe;refine iS fun ze ke=>⟨_,rfl,?_⟩;exact P8 ((Al.tt kxe).tt ke) (TN.same ke) fun w' A' n' c' k'=>⟨A',n',c',_,rfl,Split.yes rfl (Split.yes rfl (fin k'))⟩
 refine⟨a.1,⟨a.2.1,Cells.bW Qz⟩,b.1,⟨b.2.1,Cells.bW Qs⟩,?_,a.2.1,b.2.1,?_⟩
 ·refine iS fun gW lN=>⟨_,rfl,⟨_,rfl,b.2.1,Cells.bW (lN.heap Qs (fun h=>h))⟩,⟨_,rfl,a.2.1,Cells.bW (lN.heap Qz (fun h=>h))⟩,a.2.1,b.2.1,?_⟩
  intro qA;have qo:Kept Nil gW qA:=(Kept.refl _ _).alloc _;have V4:HS qA (some ⟨gW.heap.size,0,none⟩) 2 [a,b]:=HS.lay (l:= [a,b]) (t:=ax) (aR gW (.cells (cF [a,b]).toArray ax));clear_value qA;refine P9 ((xU.tt lN).tt qo) V4 fun A0 A' n' c' CR=>⟨A',n',c',_,rfl,?_⟩;exact half CR (CR.heap b3 (fun h=>h))
 ·intro gW
  have lN:Kept Nil mL gW:=(Kept.refl _ _).alloc _;have Ht:HS gW (some ⟨mL.heap.size,0,none⟩) 2 [a,b]:=HS.lay (l:= [a,b]) (t:=ax) (aR mL (.cells (cF [a,b]).toArray ax));clear_value gW;refine iS fun qA qo=>⟨_,rfl,?_⟩;refine P9 ((xU.tt lN).tt qo) (Ht.same qo) fun A0 A' n' c' CR=>⟨A',n',c',_,rfl,?_⟩;exact half CR (CR.heap b3 (fun h=>h))
end
section
variable{w w' v:World}{g:Option Addr}{K:Value->World->Prop}
def LQ(w:World)(g:Option Addr):Prop:=g=none\/∃b,g=some ⟨b,0,none⟩/\w.heap[b]? =some (.cells #[.int .i64 0,.pointer none,.map none] dV (0,0))
theorem LQ.same(h:LQ w g)(k:Kept Nil w w'):LQ w' g:=by
 rcases h with h|⟨b,h,hb⟩
 ·exact .inl h
 ·exact .inr ⟨b,h,k.heap hb (fun h=>h)⟩
theorem wG(h:LQ w g)(hK:K (.pointer none) w):bf prog cD.id #[.pointer g] w K:=by
 refine cD.of ?_;unfold cD.W;rcases h with rfl|⟨b,rfl,hb⟩
 ·exact Split.yes rfl hK
 ·exact Split.no rfl (Is.mk rfl ⟨none,by rw [bt,aA hb];rfl,hK⟩)
end
section
variable{w w':World}{g:Option Addr}{K:Value->World->Prop}
set_option maxHeartbeats 1000000 in
theorem BL(h:LQ w g)(p:PP)(hd:Array Value)(hK:∀w',Kept Nil w w'->K (.tuple #[.slice none 0 0,.int .i64 1]) w'):
 bf prog aC.id #[.agg p.cells,.pointer g,.agg hd] w K:=by
 refine aC.of ?_;unfold aC.W;intro w1 w2 w3 w4;have k1:Kept Nil w w1:=(Kept.refl _ _).alloc _;have k2:Kept Nil w1 w2:=(Kept.refl _ _).alloc _;have y7:w2.heap[w1.heap.size]? =some (.cells #[.pointer g] cg (0,0)):=aR w1 _;have k3:Kept Nil w2 w3:=(Kept.refl _ _).alloc _;have k4:Kept Nil w3 w4:=(Kept.refl _ _).alloc _;have KH:w4.heap[w3.heap.size]? =some (.cells #[.slice none 0 0] aV (0,0)):=aR w3 _;clear_value w4;have EJ:=(k3.tt k4).heap y7 (fun h=>h);have lh:=((k1.tt k2).tt k3).tt k4;have s04:w.heap.size<=w3.heap.size:=((k1.tt k2).tt k3).size;generalize Ca:w.heap.size=pb at*;generalize y5:w1.heap.size=cb at EJ;generalize yY:w2.heap.size=hb;generalize xl:w3.heap.size=ob at KH s04;clear_value w3;clear_value w2;clear_value w1;have l4:=a7 KH;refine⟨_,by rw [aA EJ];rfl,wG (h.same lh) ⟨_,rfl,?_⟩⟩;refine dp.of (Split.yes rfl ⟨_,rfl,?_⟩);intro w5;have k5:Kept Nil w4 w5:=(Kept.refl _ _).alloc _;have Hm:w5.heap[w4.heap.size]? =some (.cells #[.pointer none] eE (0,0)):=aR w4 _;clear_value w5;have l5:=a7 Hm;refine⟨dz Hm (by simp),?_⟩;intro w6 w7;have PQ:w6.heap[w4.heap.size]? =some (.cells #[.pointer none] eE (0,0)):=cR Hm 0 _;have k6:Kept (· =w4.heap.size) w5 w6:=Kept.setCell (S:=fun j=>j=w4.heap.size) (Kept.refl _ w5) (p:=⟨w4.heap.size,0,none⟩) (fun _=>rfl) _;have k7:Kept Nil w6 w7:=(Kept.refl _ _).alloc _;have FD:Kept Nil w4 w6:=k5.trans k6 (fun j hj e=>by omega);generalize K1:w4.heap.size=gb at PQ;have IT:=aR w6 (.cells #[.func (.func bD.id) #[] #[.pointer (some ⟨gb,0,none⟩)],.func (.func bR.id) #[] #[.pointer (some ⟨pb,0,none⟩)],.func (.func bP.id) #[] #[.pointer (some ⟨hb,0,none⟩),.pointer (some ⟨pb,0,none⟩)],.func (.func aL.id) #[] #[.pointer (some ⟨hb,0,none⟩),.pointer (some ⟨gb,0,none⟩),.pointer (some ⟨ob,0,none⟩)],.func (.func aO.id) #[] #[.pointer (some ⟨hb,0,none⟩),.pointer (some ⟨cb,0,none⟩)],.func (.func bO.id) #[] #[.pointer (some ⟨cb,0,none⟩),.pointer (some ⟨hb,0,none⟩),.pointer (some ⟨pb,0,none⟩)]] 110)
 have e7:w7=w6.alloc (.cells #[.func (.func bD.id) #[] #[.pointer (some ⟨gb,0,none⟩)],.func (.func bR.id) #[] #[.pointer (some ⟨pb,0,none⟩)],.func (.func bP.id) #[] #[.pointer (some ⟨hb,0,none⟩),.pointer (some ⟨pb,0,none⟩)],.func (.func aL.id) #[] #[.pointer (some ⟨hb,0,none⟩),.pointer (some ⟨gb,0,none⟩),.pointer (some ⟨ob,0,none⟩)],.func (.func aO.id) #[] #[.pointer (some ⟨hb,0,none⟩),.pointer (some ⟨cb,0,none⟩)],.func (.func bO.id) #[] #[.pointer (some ⟨cb,0,none⟩),.pointer (some ⟨hb,0,none⟩),.pointer (some ⟨pb,0,none⟩)]] 110):=by
  subst K1;rfl
 rw [<-e7]at IT;clear_value w7;clear e7;generalize Ew:w6.heap.size=rb at IT;have FC:=FD.tt k7;have tB:=lh.tt FC;clear_value w6;have RR:=FC.heap KH (fun h=>h);have K3:=k7.heap PQ (fun h=>h);refine aC.b9 (I:=fun s v=>∃i:Nat,s=(0,(i:Int))/\i=0/\Kept Nil w7 v) (μ:=fun s _=>(6-s.2).toNat) (s:=(0,0)) ⟨0,rfl,rfl,Kept.refl _ _⟩ ?_;rintro⟨_,_⟩ v ⟨i,e,hi,kv⟩;cases e;unfold aC.B1;have cI:((i:Nat):Int)<6:=by omega
 refine Split.yes (decide_eq_true cI) ?_;have CY:=kv.heap RR (fun h=>h);have kd:lg prog fP=.int .i64:=by kernel_rfl
 refine⟨⟨by omega,by omega⟩,Is.mk rfl ?_⟩;have Om:bD.fn.body.isSome=true:=by kernel_rfl
 have pJ:bD.fn.resultTypes.toList= [fP]:=by kernel_rfl
 refine⟨.func (.func bD.id) #[] #[.pointer (some ⟨gb,0,none⟩)],by rw [Nat.mul_one,Int.toNat_natCast,hi,bt,aA (kv.heap IT (fun h=>h))];rfl,?_⟩;rw [gF (fn:=bD.fn) bD.at_ Om rfl pJ kd];refine bD.of ⟨_,by rw [aA (kv.heap K3 (fun h=>h))];rfl,Split.yes rfl (⟨_,rfl,aC.kN ?_⟩)⟩;unfold aC.J1;refine Split.yes rfl ⟨_,_,_,by rw [aA CY];rfl,dz CY (by simp),?_⟩;intro w9;have Ow:w9.heap[ob]? =some (.cells #[.slice none 0 0] aV (0,0)):=cR CY 0 _;have k9:Kept (· =ob) v w9:=Kept.setCell (S:=fun j=>j=ob) (Kept.refl _ v) (p:=⟨ob,0,none⟩) (fun _=>rfl) _;clear_value w9;rw [fS,aC.u7];exact⟨_,_,_,by rw [aA Ow];rfl,hK w9 ((tB.tt kv).trans k9 (fun j hj e=>by omega))⟩
theorem yB(h:LQ w g)(p:PP)(s:HT)(hK:∀w',Kept Nil w w'->K (.tuple #[.slice none 0 0,.int .i64 1]) w'):
 bf prog dg.id #[.agg p.cells,.pointer g,.agg s.1] w K:=by
 refine dg.of ?_;unfold dg.W;intro w1 w2 w3;have k1:Kept Nil w w1:=(Kept.refl _ _).alloc _;have k2:Kept Nil w1 w2:=(Kept.refl _ _).alloc _;have y7:w2.heap[w1.heap.size]? =some (.cells #[.pointer g] cg (0,0)):=aR w1 _;have k3:Kept Nil w2 w3:=(Kept.refl _ _).alloc _;have R5:=k3.heap y7 (fun h=>h);clear_value w3;have jS:=(k1.tt k2).tt k3;refine⟨_,by rw [aA R5];rfl,wG (h.same jS) ⟨_,rfl,?_⟩⟩;exact dp.of (Split.yes rfl ⟨_,rfl,Split.yes rfl (hK _ jS)⟩)
set_option maxHeartbeats 1000000 in
theorem DJ(hT:p0 w)(hK:∀w',Kept Nil w w'->K (.bool true) w'):bf prog bn.id #[] w K:=by
 refine bn.of ?_;unfold bn.W;intro w1 w2;have k1:Kept Nil w w1:=(Kept.refl _ _).alloc _;have Om:w1.heap[w.heap.size]? =some (.cells #[.int .i64 0,.pointer none,.map none] dV (0,0)):=aR w _;have k2:Kept Nil w1 w2:=(Kept.refl _ _).alloc _;have tC:w2.heap[w1.heap.size]? =some (.cells #[.pointer none,.pointer (some ⟨w.heap.size,0,none⟩)] cg (0,0)):=aR w1 _;have TM:=k2.heap Om (fun h=>h);clear_value w2;have oA:=k1.tt k2;generalize TK:w.heap.size=zb at*;generalize hlb:w1.heap.size=lb at*;clear_value w1;refine bn.b9 (I:=fun s v=>∃i:Nat,s=(false,(i:Int))/\i<=2/\Kept Nil w2 v) (μ:=fun s _=>(2-s.2).toNat) (s:=(false,0)) ⟨0,rfl,Nat.zero_le _,Kept.refl _ _⟩ ?_;rintro s v ⟨i,rfl,hi,kv⟩;unfold bn.B1;refine Split.dec (fun cI=>?_) (fun iG=>?_)
 ·simp only at cI
  have eV:i<2:=by omega
  have get:∃g:Option Addr,LQ w2 g/\∀ {u:World},Kept Nil w2 u->u.cell? ((⟨lb,0,none⟩:Addr).add ((i:Int).toNat*1))=some (.pointer g):=by
   have Ce:i=0\/i=1:=by omega
   rcases Ce with rfl|rfl
   ·exact⟨none,.inl rfl,fun k=>by rw [bt,aA (k.heap tC (fun h=>h))];rfl⟩
   ·exact⟨some ⟨zb,0,none⟩,.inr ⟨zb,rfl,TM⟩,fun k=>by rw [bt,aA (k.heap tC (fun h=>h))];rfl⟩
  obtain⟨g,hg,eA⟩:=get;intro w3;have k3:Kept Nil v w3:=(Kept.refl _ _).drew;clear_value w3;have D7:=kv.tt k3;refine⟨⟨by omega,by omega⟩,Is.mk rfl ⟨g,eA D7,?_⟩⟩;refine iS fun w4 k4=>⟨_,rfl,eA (D7.tt k4),?_⟩;have pZ:=D7.tt k4;refine BL (hg.same pZ) tA _ fun w5 k5=>⟨_,_,_,_,rfl,?_⟩;have TD:=pZ.tt k5;intro w6;have k6:Kept Nil w5 w6:=(Kept.refl _ _).drew;clear_value w6;have D5:=TD.tt k6;refine⟨⟨by omega,by omega⟩,Is.mk rfl ⟨g,eA D5,?_⟩⟩;refine iS fun w7 k7=>⟨_,rfl,eA (D5.tt k7),?_⟩;have Mf:=D5.tt k7;refine yB (hg.same Mf) tA fy fun w8 k8=>⟨_,_,_,_,rfl,?_⟩;have GP:=Mf.tt k8;refine Split.no rfl (Split.no rfl (Split.no rfl (Split.no rfl ?_)));rw [eF (n:=(i:Int)) (by omega) (by omega)];exact⟨(false,(i:Int)+1),rfl,⟨i+1,rfl,eV,GP⟩,by simp only;omega⟩
 ·rw [aY,bn.dw]
  have kw:=oA.tt kv;exact yG (hT.same kw) fun w4 k4=>⟨true,rfl,hK w4 (kw.tt k4)⟩
end
end Go.Proofs.YtfleamccglihoaaGreatDoor
