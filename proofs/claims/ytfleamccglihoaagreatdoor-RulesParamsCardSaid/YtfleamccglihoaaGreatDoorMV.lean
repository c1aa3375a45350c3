import Derived.Test.YtfleamccglihoaaGreatDoorMU
import Derived.Test.YtfleamccglihoaaGreatDoorMJ
import Derived.Test.YtfleamccglihoaaGreatDoorMT
import Derived.Test.YtfleamccglihoaaGreatDoorMI
import Derived.Test.YtfleamccglihoaaGreatDoorMG
import Derived.Test.YtfleamccglihoaaGreatDoorMN
import Derived.Test.YtfleamccglihoaaGreatDoorMK
open Go.IntKind (i64 u64)
set_option linter.unusedVariables false
namespace Go.Proofs.YtfleamccglihoaaGreatDoor
open Go.Proofs.Tryz
open Go Go.bE Go.RowKit
noncomputable def Fq(k:Nat)(G:GS)(id:HT)(l:List HT):rl:=if eA G.D id l=0 then fO k G (bK G l) l else⟨fI,0,[],[]⟩
section
variable{w w' v:World}{S F FP FR:Nat->Prop}{c r x k:Nat}{G:GS}{m:CM}{K:Value->World->Prop}
theorem sU(h:CV w F c k G m)(hT:p6 w)(Lq:¬m.SX (Tryz.jh.g 1))(hD:G.D.length<=49)(rO:k<=1000){A:Option Addr}{n cx:Nat}{l:List HT}(y5:HS w A n l)(hn:n<=5000)(id:HT)
 (hK:∀w' F' m' A n c1 B e c2,CV w' F' c k (fF k G id l) m'->m'.x=m.x->Kept (m.own c) w w'->(∀j,m'.own c j->m.own c j\/w.heap.size<=j)->(∀j,F' j->F j\/w.heap.size<=j)->
   cg w' w.heap.size A n c1 (Fq k G id l).merge->Row w' w.heap.size iW 1 B e c2 (vc (Fq k G id l).iJ)->(∀j,bp A=some j->bp B≠some j)->(∀j,bp A=some j\/bp B=some j->¬m'.own c j/\¬F' j)->
   K (.tuple #[.agg (dT (Fq k G id l) A n c1 B e c2),.int .i64 (eA G.D id l)]) w'):
 bm prog cZ.id #[.pointer (some ⟨c,0,none⟩),.agg id.1,.slice A n cx] w K:=by
 refine Cs h hT Lq hD rO y5 hn id (fun he w' k'=>?_) (fun he w' F' m' A n c1 B e c2 h1 h2 h3 h4 h5 h6 h7 h8 h9=>?_)
 ·have e1:Fq k G id l=⟨fI,0,[],[]⟩:=if_neg he
  have:=hK w' F m none 0 0 none 0 0 (by rw [vP he];exact h.same k') rfl (k'.mono fun _ _ h=>h.elim) (fun j h=>.inl h) (fun j h=>.inl h) (by rw [e1];exact cg.nil _ _) (by rw [e1];exact Row.nil _ _ _ _) (fun j hj=>(by cases hj)) (fun j hj=>by rcases hj with hj|hj<;>cases hj);rw [e1]at this;exact this
 ·have e1:Fq k G id l=fO k G (bK G l) l:=if_pos he
  have:=hK w' F' m' A n c1 B e c2 h1 h2 h3 h4 h5 (by rw [e1];exact h6) (by rw [e1];exact h7) h8 h9;rw [e1,he]at this;exact this
end
section
variable{w w' v:World}{S F FP FR:Nat->Prop}{c r x k:Nat}{G:GS}{m:CM}{K:Value->World->Prop}
end
section
variable{k:Nat}{G:GS}{s:HT}
theorem wQ(G:GS)(s:HT):ct G s [s]= []:=by
 rw [List.eq_nil_iff_forall_not_mem];intro h hm;obtain⟨h1,h2,h3⟩:=iV.1 hm;rcases h1 with⟨_,p,hp,ha⟩|h1
 ·rw [List.mem_singleton]at hp;subst hp;exact h3 ha
 ·rw [List.mem_singleton]at h1;exact h2 h1
variable{r a b c:HT}(KI:r≠a)(FL:r≠b)(RS:r≠c)(mJ:a≠b)(Sd:a≠c)(Lk:b≠c)
end
section
variable{w w':World}{K:Value->World->Prop}
end
section
variable{w w' v:World}{F FP FR:Nat->Prop}{c r x k:Nat}{G:GS}{m:CM}{K:Value->World->Prop}
end
section
variable{w v:World}{F FP FR:Nat->Prop}{c r x k:Nat}{G:GS}{m:CM}{K:Value->World->Prop}{O:Option Addr}{on oc:Nat}{lo:List HT}{s:HT}{sb xb:Nat}{xv:Array Value}
end
section
variable{k:Nat}{G:GS}{h:HT}{ps:List HT}
end
section
variable{k:Nat}{G G':GS}{s:HT}{l:List HT}
end
section
variable{k:Nat}{G:GS}{h:HT}{l:List HT}
end
section
variable{k:Nat}{G:GS}{h:HT}{l:List HT}
end
section
variable{w w':World}{K:Value->World->Prop}{B n cx b:Nat}{A:Option Addr}{F:Nat->Prop}{c k:Nat}{G:GS}{m:CM}{l:List HT}
end
section
variable{w w' v:World}{K:Value->World->Prop}{B n cx b q:Nat}{A E:Option Addr}{F:Nat->Prop}{c k:Nat}{G:GS}{m:CM}{l:List HT}{C:rl}{cp e ce:Nat}
theorem zx(hx:v.heap[q]? =some (.cells (dT C A n cp E e ce) cB (0,0))):
 Cells v ((⟨q,0,none⟩:Addr).add 0) C.ml.1/\v.cell? ((⟨q,0,none⟩:Addr).add 32)=some (.int .u64 (C.score:Int))/\v.cell? ((⟨q,0,none⟩:Addr).add 33)=some (.slice A n cp)/\v.cell? ((⟨q,0,none⟩:Addr).add 34)=some (.slice E e ce):=by
 have g:=gN C A n cp E e ce #[];rw [Array.append_empty]at g;refine⟨fun j u hj=>?_,by rw [bu,aD hx];exact g.1,by rw [bu,aD hx];exact g.2.1,by rw [bu,aD hx];exact g.2.2.1⟩;have cK:=(Array.getElem?_eq_some_iff.1 hj).1;rw [add_zero,bu,aD hx,Nat.zero_add];unfold dT;rw [Array.getElem?_append_left cK];exact hj
theorem HK(u:World)(C:rl)(A:Option Addr)(n cp:Nat)(E:Option Addr)(e ce:Nat):
 ((dT C A n cp E e ce).size=35/\(∀x∈(dT C A n cp E e ce).toList,x.oneCell'=true)/\∀y,y<35->Wr (u.alloc (.cells zC cB)) ((aU u.heap.size).add y))/\
   (setCells (u.alloc (.cells zC cB)) ⟨u.heap.size,0,none⟩ (dT C A n cp E e ce).toList 0).heap[u.heap.size]? =some (.cells (dT C A n cp E e ce) cB (0,0))/\
   Kept Nil u (setCells (u.alloc (.cells zC cB)) ⟨u.heap.size,0,none⟩ (dT C A n cp E e ce).toList 0):=by
 have GX:(u.alloc (.cells zC cB)).heap[u.heap.size]? =some (.cells zC cB (0,0)):=aR u _;obtain⟨t1,t2,t3⟩:=lu GX (cs:=dT C A n cp E e ce) (by rw [bX];rfl);exact⟨⟨bX ..,kW _ _ _ _ _ _ _,fun j hj=>t1 j (by rw [bX];exact hj)⟩,t2,((Kept.refl _ _).alloc _).trans t3 (fun j hj e=>by omega)⟩
theorem sN(u:World)(x:HT):(x.1.size=32/\(∀y∈x.1.toList,y.oneCell'=true)/\∀y,y<32->Wr (u.alloc (.cells zH ax)) ((aU u.heap.size).add y))/\
 (setCells (u.alloc (.cells zH ax)) ⟨u.heap.size,0,none⟩ x.1.toList 0).heap[u.heap.size]? =some (.cells x.1 ax (0,0))/\Kept Nil u (setCells (u.alloc (.cells zH ax)) ⟨u.heap.size,0,none⟩ x.1.toList 0):=by
 obtain⟨ry,jv,jf⟩:=gh (w:=u) (z:=zH) (cs:=x.1) (t:=ax) (by rw [x.2.1];rfl);exact⟨⟨x.2.1,x.2.one,fun j hj=>ry j (by rw [x.2.1];exact hj)⟩,jv,jf⟩
end
section
variable{k:Nat}{G:GS}{ml:HT}
end
section
variable{G:GS}{ml:HT}
end
structure PP where
 K:Int
 mp:Int
 mm:Int
 fin:Int
 yB:Int
 H8:Int
 sub:Int
 H6:Int
 wE:Int
 gen:HT
def PP.cells(p:PP):Array Value:= #[.int .i64 p.K,.int .i64 p.mp,.int .i64 p.mm,.int .i64 p.fin,.int .i64 p.yB,.int .i64 p.H8,.int .u64 p.sub,.int .i64 p.H6,.int .i64 p.wE]++p.gen.1
def PP.ok(p:PP):Prop:=(0<=p.K/\p.K<=100)/\(1<=p.mp/\p.mp<=20)/\(1<=p.mm/\p.mm<=1000)/\(0<=p.fin/\p.fin<=2147483647)/\(0<=p.yB/\p.yB<=2147483647)/\(0<=p.H8/\p.H8<=2147483647)/\(0<=p.H6/\p.H6<=100000)/\(0<=p.wE/\p.wE<=100000)/\p.sub<=1099511627776/\(p.yB=0\/(0<p.fin/\p.fin<p.yB/\p.mm<p.yB))
noncomputable instance(p:PP):Decidable p.ok:=Classical.propDecidable _
noncomputable def eQ(D:DG)(l:List HT):List HT:=l.filter fun x=>decide (x∉ids D)
theorem uE{D:DG}{l:List HT}{x:HT}:x∈eQ D l↔x∈l/\x∉ids D:=by unfold eQ;simp
theorem qq{D:DG}{l:List HT}:eQ D l= []↔∀x∈l,x∈ids D:=by
 rw [List.eq_nil_iff_forall_not_mem];constructor
 ·intro h x hx
  exact Classical.byContradiction fun e=>h x (uE.2 ⟨hx,e⟩)
 ·intro h x hx
  obtain⟨h1,h2⟩:=uE.1 hx;exact h2 (h x h1)
def rm(D:DG)(l:List HT):Prop:=∃a∈l,∃b∈l,fG D a b
open Classical in
noncomputable def ig(p:PP)(G:GS)(l:List HT):List HT×Int:=
 if ¬p.ok then([],2)
 else if(l.length<1\/p.mp<(l.length:Int))\/dh l≠l then([],9)
 else if eQ G.D l≠ []then(eQ G.D l,15)
 else if rm G.D l then([],9)
 else if p.mm<((ct G (bK G l) l).length:Int)then([],10)
 else([],0)
section
variable{k:Nat}{G G':GS}{l:List HT}{p:PP}
end
theorem PP.size(p:PP):p.cells.size=41:=by unfold PP.cells;rw [Array.size_append,p.gen.2.1];rfl
theorem PP.LG(p:PP):p.cells[0]? =some (.int .i64 p.K):=by unfold PP.cells;rw [Array.getElem?_append_left (by show 0<9;omega)];rfl
theorem PP.HD(p:PP):p.cells[1]? =some (.int .i64 p.mp):=by unfold PP.cells;rw [Array.getElem?_append_left (by show 1<9;omega)];rfl
theorem PP.Ct(p:PP):p.cells[2]? =some (.int .i64 p.mm):=by unfold PP.cells;rw [Array.getElem?_append_left (by show 2<9;omega)];rfl
theorem PP.zm(p:PP):p.cells[3]? =some (.int .i64 p.fin):=by unfold PP.cells;rw [Array.getElem?_append_left (by show 3<9;omega)];rfl
theorem PP.vF(p:PP):p.cells[4]? =some (.int .i64 p.yB):=by unfold PP.cells;rw [Array.getElem?_append_left (by show 4<9;omega)];rfl
theorem PP.LF(p:PP):p.cells[5]? =some (.int .i64 p.H8):=by unfold PP.cells;rw [Array.getElem?_append_left (by show 5<9;omega)];rfl
theorem PP.QX(p:PP):p.cells[6]? =some (.int .u64 p.sub):=by unfold PP.cells;rw [Array.getElem?_append_left (by show 6<9;omega)];rfl
theorem PP.LD(p:PP):p.cells[7]? =some (.int .i64 p.H6):=by unfold PP.cells;rw [Array.getElem?_append_left (by show 7<9;omega)];rfl
theorem PP.LC(p:PP):p.cells[8]? =some (.int .i64 p.wE):=by unfold PP.cells;rw [Array.getElem?_append_left (by show 8<9;omega)];rfl
theorem PP.one(p:PP):∀v∈p.cells.toList,v.oneCell'=true:=by
 intro v hv;unfold PP.cells at hv;rw [Array.toList_append,List.mem_append]at hv;rcases hv with hv|hv
 ·simp only [List.mem_cons,List.not_mem_nil,or_false]at hv
  rcases hv with rfl|rfl|rfl|rfl|rfl|rfl|rfl|rfl|rfl<;>rfl
 ·exact p.gen.2.one v hv
def PP.Dm(p:PP):List (Int×Int×Int):= [(p.K,0,100),(p.mp,1,20),(p.mm,1,1000),(p.fin,0,2147483647),(p.yB,0,2147483647),(p.H8,0,2147483647),(p.H6,0,100000),(p.wE,0,100000)]
section
variable{w w':World}{K:Value->World->Prop}{p:PP}
theorem rr(p:PP)(hK:∀w',Kept Nil w w'->K (.bool (decide p.ok)) w'):bm prog fP.id #[.agg p.cells] w K:=by
 refine fP.of ?_;unfold fP.W;intro w1;have k1:Kept Nil w w1:=(Kept.refl _ _).alloc _;have hb:w1.heap[w.heap.size]? =some (.cells p.cells dA (0,0)):=aR w _;clear_value w1;have rd:∀(j:Nat) (v:Value),j<41->p.cells[j]? =some v->w1.cell? ((aU w.heap.size).add j)=some v:=fun j v _ h=>by rw [bu,aD hb,Nat.zero_add];exact h
 have hk:=hK w1 k1;have no:¬p.ok->K (.bool false) w1:=fun e=>by rw [decide_eq_false e]at hk;exact hk
 have yes:p.ok->K (.bool true) w1:=fun e=>by rw [decide_eq_true e]at hk;exact hk
 refine⟨_,rd 0 _ (by decide) p.LG,Split.dec (fun h0=>no (fun e=>by unfold PP.ok at e;omega)) (fun h0=>?_)⟩;refine⟨_,rd 0 _ (by decide) p.LG,Split.dec (fun h1=>no (fun e=>by unfold PP.ok at e;omega)) (fun h1=>?_)⟩;refine⟨_,rd 1 _ (by decide) p.HD,Split.dec (fun h2=>no (fun e=>by unfold PP.ok at e;omega)) (fun h2=>?_)⟩;refine⟨_,rd 1 _ (by decide) p.HD,Split.dec (fun h3=>no (fun e=>by unfold PP.ok at e;omega)) (fun h3=>?_)⟩;refine⟨_,rd 2 _ (by decide) p.Ct,Split.dec (fun h4=>no (fun e=>by unfold PP.ok at e;omega)) (fun h4=>?_)⟩;refine⟨_,rd 2 _ (by decide) p.Ct,Split.dec (fun h5=>no (fun e=>by unfold PP.ok at e;omega)) (fun h5=>?_)⟩;refine⟨_,rd 3 _ (by decide) p.zm,Split.dec (fun h6=>no (fun e=>by unfold PP.ok at e;omega)) (fun h6=>?_)⟩;refine⟨_,rd 3 _ (by decide) p.zm,Split.dec (fun h7=>no (fun e=>by unfold PP.ok at e;omega)) (fun h7=>?_)⟩;refine⟨_,rd 4 _ (by decide) p.vF,Split.dec (fun h8=>no (fun e=>by unfold PP.ok at e;omega)) (fun h8=>?_)⟩;refine⟨_,rd 4 _ (by decide) p.vF,Split.dec (fun h9=>no (fun e=>by unfold PP.ok at e;omega)) (fun h9=>?_)⟩;refine⟨_,rd 5 _ (by decide) p.LF,Split.dec (fun rP=>no (fun e=>by unfold PP.ok at e;omega)) (fun rP=>?_)⟩;refine⟨_,rd 5 _ (by decide) p.LF,Split.dec (fun FY=>no (fun e=>by unfold PP.ok at e;omega)) (fun FY=>?_)⟩;refine⟨_,rd 6 _ (by decide) p.QX,Split.dec (fun C5=>no (fun e=>by unfold PP.ok at e;omega)) (fun C5=>?_)⟩;refine⟨_,rd 7 _ (by decide) p.LD,Split.dec (fun x8=>no (fun e=>by unfold PP.ok at e;omega)) (fun x8=>?_)⟩;refine⟨_,rd 7 _ (by decide) p.LD,Split.dec (fun Sj=>no (fun e=>by unfold PP.ok at e;omega)) (fun Sj=>?_)⟩
 refine⟨_,rd 8 _ (by decide) p.LC,Split.dec (fun Cp=>no (fun e=>by unfold PP.ok at e;omega)) (fun Cp=>?_)⟩;refine⟨_,rd 8 _ (by decide) p.LC,Split.dec (fun h16=>no (fun e=>by unfold PP.ok at e;omega)) (fun h16=>?_)⟩;refine⟨_,rd 4 _ (by decide) p.vF,?_⟩;by_cases FW:p.yB=0
 ·exact Split.yes (by simp [FW]) (yes (by unfold PP.ok;omega))
 refine Split.no (by simp [FW]) ⟨_,rd 3 _ (by decide) p.zm,Split.dec (fun Lz=>?_) (fun Lz=>no (fun e=>by unfold PP.ok at e;omega))⟩;refine⟨_,rd 4 _ (by decide) p.vF,_,rd 3 _ (by decide) p.zm,Split.dec (fun QS=>?_) (fun QS=>no (fun e=>by unfold PP.ok at e;omega))⟩;refine⟨_,rd 4 _ (by decide) p.vF,_,rd 2 _ (by decide) p.Ct,?_⟩;by_cases QR:p.yB>p.mm
 ·rw [decide_eq_true QR];exact yes (by unfold PP.ok;omega)
 ·rw [decide_eq_false QR];exact no (fun e=>by unfold PP.ok at e;omega)
set_option maxHeartbeats 1000000 in
theorem jU(p:PP)(hK:∀w',Kept Nil w w'->K (.bool (decide p.ok)) w'):bm prog bz.id #[.agg p.cells] w K:=by
 refine bz.of ?_;unfold bz.W;intro w1;have k1:Kept Nil w w1:=(Kept.refl _ _).alloc _;have hb:w1.heap[w.heap.size]? =some (.cells p.cells dA (0,0)):=aR w _;clear_value w1;have rd:∀(j:Nat) (v:Value),p.cells[j]? =some v->w1.cell? ((aU w.heap.size).add j)=some v:=fun j v h=>by rw [bu,aD hb,Nat.zero_add];exact h
 refine⟨_,rd 0 _ p.LG,_,rd 1 _ p.HD,_,rd 2 _ p.Ct,_,rd 3 _ p.zm,_,rd 4 _ p.vF,_,rd 5 _ p.LF,_,rd 7 _ p.LD,_,rd 8 _ p.LC,rfl,rfl,rfl,rfl,rfl,rfl,rfl,rfl,?_⟩;intro w2;have k2:Kept Nil w1 w2:=(Kept.refl _ _).alloc _;have ht:∃C:Array Value,∃ty:TypeId,w2.heap[w1.heap.size]? =some (.cells C ty (0,0))/\∀i:Nat,i<8->∃t,p.Dm[i]? =some t/\C[i*3]? =some (.int .i64 t.1)/\C[i*3+1]? =some (.int .i64 t.2.1)/\C[i*3+2]? =some (.int .i64 t.2.2):=by
  refine⟨_,_,aR w1 _,fun i hi=>?_⟩
  match i,hi with
  |0,_=>exact⟨_,rfl,rfl,rfl,rfl⟩
  |1,_=>exact⟨_,rfl,rfl,rfl,rfl⟩
  |2,_=>exact⟨_,rfl,rfl,rfl,rfl⟩
  |3,_=>exact⟨_,rfl,rfl,rfl,rfl⟩
  |4,_=>exact⟨_,rfl,rfl,rfl,rfl⟩
  |5,_=>exact⟨_,rfl,rfl,rfl,rfl⟩
  |6,_=>exact⟨_,rfl,rfl,rfl,rfl⟩
  |7,_=>exact⟨_,rfl,rfl,rfl,rfl⟩
 clear_value w2;obtain⟨C,ty,hC,fu⟩:=ht;have oD:=k1.tt k2;have oy:=k2.heap hb (fun h=>h);have no:∀ {u:World},Kept Nil w u->¬p.ok->K (.bool false) u:=fun ku e=>by have:=hK _ ku;rw [decide_eq_false e]at this;exact this
 refine bz.cf (I:=fun s v=>∃i:Nat,s=(false,(i:Int))/\i<=8/\Kept Nil w2 v/\∀t∈p.Dm.take i,t.2.1<=t.1/\t.1<=t.2.2) (μ:=fun s _=>(8-s.2).toNat) (s:=(false,0)) ⟨0,rfl,by omega,Kept.refl _ _,by simp⟩ ?_;rintro s v ⟨i,rfl,hi,kv,cP⟩;have vq:=oD.tt kv;unfold bz.B1;refine Split.dec (fun cK=>?_) (fun iK=>?_)
 ·simp only at cK
  have fg:i<8:=by omega
  obtain⟨t,FI,c0,c1,c2⟩:=fu i fg;have Oy:=List.mem_of_getElem? FI;have hCv:=kv.heap hC (fun h=>h);simp-zeta only [Int.toNat_natCast];refine⟨⟨by omega,by omega⟩,Is.mk rfl ⟨#[.int .i64 t.1,.int .i64 t.2.1,.int .i64 t.2.2],⟨rfl,fun j u hj=>?_⟩,?_⟩⟩
  ·rw [bu,bu,aD hCv,Nat.zero_add]
   match j,hj with
   |0,hj=>cases hj;exact c0
   |1,hj=>cases hj;exact c1
   |2,hj=>cases hj;exact c2
   |j+3,hj=>simp at hj
  intro w3;obtain⟨ry,jv,jf⟩:=gh (w:=v) (z:=(#[.int .i64 0,.int .i64 0,.int .i64 0]:Array Value)) (cs:= #[.int .i64 t.1,.int .i64 t.2.1,.int .i64 t.2.2]) (t:=tI) rfl;refine⟨⟨rfl,by intro y hy;simp at hy;rcases hy with rfl|rfl|rfl<;>rfl,fun j hj=>ry j hj⟩,?_⟩;intro w4
  replace jv:w4.heap[v.heap.size]? =some (.cells #[.int .i64 t.1,.int .i64 t.2.1,.int .i64 t.2.2] tI (0,0)):=jv
  replace jf:Kept Nil v w4:=jf
  clear_value w4;have lj:=vq.tt jf;have Rw:∀(j:Nat) (z:Value),(#[.int .i64 t.1,.int .i64 t.2.1,.int .i64 t.2.2]:Array Value)[j]? =some z->w4.cell? ((aU v.heap.size).add j)=some z:=fun j z h=>by rw [bu,aD jv,Nat.zero_add];exact h
  have bad:¬(t.2.1<=t.1/\t.1<=t.2.2)->¬p.ok:=fun e h=>by
   unfold PP.ok at h;unfold PP.Dm at Oy;simp only [List.mem_cons,List.not_mem_nil,or_false]at Oy;rcases Oy with rfl|rfl|rfl|rfl|rfl|rfl|rfl|rfl<;>(simp only at e;omega)
  refine⟨⟨by omega,by omega⟩,t.1,Rw 0 _ rfl,⟨by omega,by omega⟩,t.2.1,Rw 1 _ rfl,Split.dec (fun h1=>no lj (bad (by omega))) (fun h1=>?_)⟩;refine⟨⟨by omega,by omega⟩,t.1,Rw 0 _ rfl,⟨by omega,by omega⟩,t.2.2,Rw 2 _ rfl,Split.dec (fun h2=>no lj (bad (by omega))) (fun h2=>?_)⟩;rw [eK (n:=(i:Int)) (by omega) (by omega)];refine⟨(false,(i:Int)+1),rfl,⟨i+1,rfl,fg,kv.tt jf,fun t' KB=>?_⟩,by simp only;omega⟩;rw [List.take_add_one,FI,List.mem_append]at KB;rcases KB with KB|KB
  ·exact cP t' KB
  ·simp at KB
   subst KB;omega
 ·simp only at iK
  rw [aY,bz.dB];unfold bz.cX;have e8:i=8:=by omega
  subst e8;have EM:=kv.heap oy (fun h=>h);have rdv:∀(j:Nat) (z:Value),p.cells[j]? =some z->v.cell? ((aU w.heap.size).add j)=some z:=fun j z h=>by rw [bu,aD EM,Nat.zero_add];exact h
  have hk:=hK v vq;have yes:p.ok->K (.bool true) v:=fun e=>by rw [decide_eq_true e]at hk;exact hk
  have hT:(0<=p.K/\p.K<=100)/\(1<=p.mp/\p.mp<=20)/\(1<=p.mm/\p.mm<=1000)/\(0<=p.fin/\p.fin<=2147483647)/\(0<=p.yB/\p.yB<=2147483647)/\(0<=p.H8/\p.H8<=2147483647)/\(0<=p.H6/\p.H6<=100000)/\(0<=p.wE/\p.wE<=100000):=
   ⟨cP (p.K,0,100) (by simp [PP.Dm]),cP (p.mp,1,20) (by simp [PP.Dm]),cP (p.mm,1,1000) (by simp [PP.Dm]),cP (p.fin,0,2147483647) (by simp [PP.Dm]),cP (p.yB,0,2147483647) (by simp [PP.Dm]),cP (p.H8,0,2147483647) (by simp [PP.Dm]),cP (p.H6,0,100000) (by simp [PP.Dm]),cP (p.wE,0,100000) (by simp [PP.Dm])⟩
  refine⟨_,rdv 6 _ p.QX,Split.dec (fun h6=>?_) (fun h6=>no vq (fun e=>by unfold PP.ok at e;omega))⟩;refine⟨_,rdv 4 _ p.vF,?_⟩;by_cases FW:p.yB=0
  ·exact Split.yes (by simp [FW]) (yes (by unfold PP.ok;omega))
  refine Split.no (by simp [FW]) ⟨_,rdv 3 _ p.zm,Split.dec (fun Lz=>?_) (fun Lz=>no vq (fun e=>by unfold PP.ok at e;omega))⟩;refine⟨_,rdv 4 _ p.vF,_,rdv 3 _ p.zm,Split.dec (fun QS=>?_) (fun QS=>no vq (fun e=>by unfold PP.ok at e;omega))⟩;refine⟨_,rdv 4 _ p.vF,_,rdv 2 _ p.Ct,?_⟩;by_cases QR:p.yB>p.mm
  ·rw [decide_eq_true QR];exact yes (by unfold PP.ok;omega)
  ·rw [decide_eq_false QR];exact no vq (fun e=>by unfold PP.ok at e;omega)
end
theorem xL{P:Program}{g:FuncId}{first fi:Array Value}{args:List Value}{fn:Func}{w:World}{k:Value->World->Prop}{vs:Array Value}(hf:P.funcs[g]? =some fn)(hb:fn.body.isSome=true)(hv:(first.toList++args++fi.toList).toArray=vs):
 jP P (.func (.func g) first fi) args w k=bm P g vs w fun v w'=>LU P fn.resultTypes.toList v fun v=>k v w':=by
 subst hv;unfold jP;simp only [hf];cases hc:fn.body with
 |none=>rw [hc]at hb;cases hb
 |some c=>simp only
theorem iF{P:Program}{g:FuncId}{first fi:Array Value}{args:List Value}{fn:Func}{w:World}{k:Value->World->Prop}{vs:Array Value}{t:TypeId}(hf:P.funcs[g]? =some fn)(hb:fn.body.isSome=true)(hv:(first.toList++args++fi.toList).toArray=vs)
 (ht:fn.resultTypes.toList= [t]) (hk:lE P t=.int .i64):jP P (.func (.func g) first fi) args w k=bm P g vs w fun v w'=>∃e:Int,v=.int .i64 e/\k (.int .i64 e) w':=by
 rw [xL hf hb hv,ht];simp only [LU,hk,Any]
section
variable{w w' v:World}{K:Value->World->Prop}{n cx n' cx' hb gb ob cb pb:Nat}{A A':Option Addr}{l l':List HT}{F:Nat->Prop}{c k:Nat}{G:GS}{m:CM}{hd:Array Value}{p:PP}
theorem zq(hl:HS w A n l)(Pw:HS w A' n' l')(hn:n<=1000000)(hK:∀w',Kept Nil w w'->K (.bool (decide (l=l'))) w'):
 bm prog aH.id #[.slice A n cx,.slice A' n' cx'] w K:=by
 have hlen:=hl.len;have EB:=Pw.len;refine aH.of ?_;unfold aH.W;by_cases e:n=n'
 ·subst e
  refine Split.no (by simp) ?_;refine aH.cf (I:=fun s v=>∃i:Nat,s=(false,(i:Int))/\i<=n/\Kept Nil w v/\∀t,t<i->l[t]? =l'[t]?) (μ:=fun s _=>((n:Int)-s.2).toNat) (s:=(false,0)) ⟨0,rfl,Nat.zero_le _,Kept.refl _ _,fun t ht=>by omega⟩ ?_;rintro s v ⟨i,rfl,hi,kv,cP⟩;unfold aH.B1;refine Split.dec (fun cK=>?_) (fun iK=>?_)
  ·simp only at cK
   have fg:i<n:=by omega
   obtain⟨x,hx⟩:∃x,l[i]? =some x:=⟨_,List.getElem?_eq_getElem (by omega)⟩;obtain⟨y,hy⟩:∃y,l'[i]? =some y:=⟨_,List.getElem?_eq_getElem (by omega)⟩;intro w3;have k3:Kept Nil v w3:=(Kept.refl _ _).drew;clear_value w3;have km:=kv.tt k3;refine HS.load (hl.same km) (i:=(i:Int)) (x:=x) (by omega) (by rw [Int.toNat_natCast];exact hx) ?_;refine HS.load (Pw.same km) (i:=(i:Int)) (x:=y) (by omega) (by rw [Int.toNat_natCast];exact hy) ⟨⟨x.2.ints,y.2.ints⟩,?_⟩;rw [gB];by_cases lZ:x=y
   ·refine Split.no (by rw [decide_eq_true lZ];rfl) ?_
    simp only;rw [eK (n:=(i:Int)) (by omega) (by omega)];refine⟨(false,(i:Int)+1),rfl,⟨i+1,rfl,fg,km,fun t ht=>?_⟩,by simp only;omega⟩;by_cases FI:t=i
    ·subst FI
     rw [hx,hy,lZ]
    ·exact cP t (by omega)
   ·refine Split.yes (by rw [decide_eq_false lZ];rfl) ?_
    have fJ:l≠l':=fun e=>by
     subst e;rw [hx]at hy;exact lZ (Option.some.inj hy)
    have:=hK w3 km;rw [decide_eq_false fJ]at this;exact this
  ·simp only at iK
   rw [aY,aH.dB];have el:l=l':=List.ext_getElem? fun t=>by
    by_cases ht:t<i
    ·exact cP t ht
    ·rw [List.getElem?_eq_none (by omega),List.getElem?_eq_none (by omega)]
   have:=hK v kv;rw [decide_eq_true el]at this;exact this
 ·refine Split.yes (by simpa using (fun h:(n:Int)=(n':Int)=>e (by omega))) ?_
  have fJ:l≠l':=fun h=>e (by rw [<-hlen,<-EB,h]);have:=hK w (Kept.refl _ _);rw [decide_eq_false fJ]at this;exact this
theorem Hr(CY:w.heap[pb]? =some (.cells p.cells dA (0,0)))(hK:∀w',Kept Nil w w'->K (.int .i64 (if ¬p.ok then 2 else 0)) w'):
 bm prog bW.id #[.pointer (some ⟨pb,0,none⟩)] w K:=by
 refine bW.of ?_;refine⟨p.cells,⟨p.size,Cells.bS CY⟩,jU p fun w1 k1=>⟨_,rfl,?_⟩⟩;have:=hK w1 k1;by_cases h:p.ok
 ·rw [if_neg (fun e=>e h)]at this
  exact Split.no (by rw [decide_eq_true h];rfl) this
 ·rw [if_pos h]at this
  exact Split.yes (by rw [decide_eq_false h];rfl) this
theorem nP(AI:w.heap[hb]? =some (.cells hd iH (0,0)))(h0:hd[0]? =some (.slice A n cx)):w.cell? ((⟨hb,0,none⟩:Addr).add 0)=some (.slice A n cx):=by
 rw [add_zero,aD AI];exact h0
theorem Hq(AI:w.heap[hb]? =some (.cells hd iH (0,0)))(h0:hd[0]? =some (.slice A n cx))(hl:HS w A n l)(hn:n<=100000)(CY:w.heap[pb]? =some (.cells p.cells dA (0,0)))
 (hK:∀w' e,Kept Nil w w'->(((l.length<1\/p.mp<(l.length:Int))\/dh l≠l)/\e=9\/¬((l.length<1\/p.mp<(l.length:Int))\/dh l≠l)/\e=0)->K (.int .i64 e) w'):
 bm prog bU.id #[.pointer (some ⟨hb,0,none⟩),.pointer (some ⟨pb,0,none⟩)] w K:=by
 have hlen:=hl.len;refine bU.of ?_;unfold bU.W;refine⟨A,n,cx,nP AI h0,?_⟩;intro w1;have k1:Kept Nil w w1:=(Kept.refl _ _).drew;clear_value w1;have rd:w1.cell? ((⟨pb,0,none⟩:Addr).add 1)=some (.int .i64 p.mp):=by rw [bu,aD (k1.heap CY (fun h=>h))];exact p.HD
 have OW:=nP (k1.heap AI (fun h=>h)) h0;refine Split.dec (fun h1=>hK w1 9 k1 (.inl ⟨.inl (.inl (by omega)),rfl⟩)) (fun h1=>⟨_,rd,Split.dec (fun h2=>hK w1 9 k1 (.inl ⟨.inl (.inr (by omega)),rfl⟩)) (fun h2=>⟨A,n,cx,OW,A,n,cx,OW,?_⟩)⟩);refine fX (hl.same k1) (by omega) fun A2 c2 w2 r7 k2=>⟨A2,_,c2,rfl,nP ((k1.tt k2).heap AI (fun h=>h)) h0,?_⟩;have oD:=k1.tt k2;have FJ:=nY l;refine zq (cg.hs r7) (hl.same oD) (by omega) fun w3 k3=>⟨_,rfl,?_⟩;have km:=oD.tt k3;by_cases hs:dh l=l
 ·refine Split.no (by rw [decide_eq_true hs];rfl) (hK w3 0 km (.inr ⟨fun e=>?_,rfl⟩))
  rcases e with(e|e)|e
  ·omega
  ·omega
  ·exact e hs
 ·exact Split.yes (by rw [decide_eq_false hs];rfl) (hK w3 9 km (.inl ⟨.inr hs,rfl⟩))
theorem yG{D:DG}{i:Nat}{x:HT}(hx:l[i]? =some x):eQ D (l.take (i+1))=eQ D (l.take i)++if x∈ids D then []else [x]:=by
 unfold eQ;rw [List.take_add_one,hx,List.filter_append]
 congr 1
 by_cases h:x∈ids D
 ·simp [h]
 ·simp [h]
theorem DQ(D:DG)(l:List HT):(eQ D l).length<=l.length:=List.length_filter_le _ _
set_option maxHeartbeats 1000000 in
theorem Hp{mx:XM}{P:List Int}{x:Nat}{FX:Nat->Prop}(X:XV w FX x G.D P mx)(C:CV w F c k G m)(hCX:m.x=x)(AI:w.heap[hb]? =some (.cells hd iH (0,0)))(h0:hd[0]? =some (.slice A n cx))(hl:HS w A n l)(hn:n<=100000)
 (PQ:w.heap[gb]? =some (.cells #[.pointer (some ⟨mx.g,0,none⟩)] fZ (0,0))) (x6:w.heap[ob]? =some (.cells #[.slice none 0 0] aW (0,0))) (fJ:gb≠ob) (hhn:hb≠ob) (WG:∀a,A=some a->a.block≠ob) (hX:∀u,Kept (· =ob) w u->XV u FX x G.D P mx)
 (rN:eQ G.D l= []->∀w',Kept Nil w w'->K (.int .i64 0) w')
 (Ej:eQ G.D l≠ []->∀w' A' c',w'.heap[ob]? =some (.cells #[.slice A' (eQ G.D l).length c'] aW (0,0))->cg w' w.heap.size A' (eQ G.D l).length c' (eQ G.D l)->Kept (· =ob) w w'->K (.int .i64 15) w'):
 bm prog aN.id #[.pointer (some ⟨hb,0,none⟩),.pointer (some ⟨gb,0,none⟩),.pointer (some ⟨ob,0,none⟩)] w K:=by
 have hlen:=hl.len;have lob:=bf x6;refine aN.of ?_;unfold aN.W;refine⟨A,n,cx,nP AI h0,?_⟩;refine aN.cf (I:=fun s v=>∃(i:Nat) (A':Option Addr) (c':Nat),s=(i:Int)/\i<=n/\v.heap[ob]? =some (.cells #[.slice A' (eQ G.D (l.take i)).length c'] aW (0,0))/\cg v w.heap.size A' (eQ G.D (l.take i)).length c' (eQ G.D (l.take i))/\Kept (· =ob) w v/\(eQ G.D (l.take i)= []->Kept Nil w v)) (μ:=fun s _=>((n:Int)-s).toNat) (s:=0) ⟨0,none,0,rfl,Nat.zero_le _,x6,cg.nil _ _,Kept.refl _ _,fun _=>Kept.refl _ _⟩ ?_;rintro s v ⟨i,A',c',rfl,hi,IG,row,kv,Ce⟩;unfold aN.B1;refine Split.dec (fun cK=>?_) (fun iK=>?_)
 ·have fg:i<n:=by omega
  obtain⟨y,hy⟩:∃y,l[i]? =some y:=⟨_,List.getElem?_eq_getElem (by omega)⟩;have oZ:HS v A n l:=hl.aK kv (fun a ha e=>WG a ha e);refine HS.load oZ (i:=(i:Int)) (x:=y) (by omega) (by rw [Int.toNat_natCast];exact hy) ?_;intro w3;obtain⟨t1,t2,t3⟩:=sN v y;refine⟨t1,?_⟩;intro w4
  replace t2:w4.heap[v.heap.size]? =some (.cells y.1 ax (0,0)):=t2
  replace t3:Kept Nil v w4:=t3
  clear_value w4;have lj:Kept (· =ob) w w4:=kv.trans t3 (fun _ _ h=>h.elim);refine⟨_,by rw [aD (lj.heap PQ fJ)];rfl,y.1,⟨y.2.1,Cells.bS t2⟩,?_⟩;obtain⟨bl,cc,mb,M,GG⟩:=(hX w4 lj).G;refine pV GG y fun w5 k5=>⟨_,rfl,?_⟩;have FB:=t3.tt k5;have pf:Kept (· =ob) w w5:=lj.trans k5 (fun _ _ h=>h.elim);have KM:=FB.heap IG (fun h=>h);have qn:cg w5 w.heap.size A' (eQ G.D (l.take i)).length c' (eQ G.D (l.take i)):=Row.aK row FB (fun _ _ h=>h);have ou:=yG (D:=G.D) hy;by_cases hm:y∈ids G.D
  ·rw [if_pos hm,List.append_nil]at ou
   refine Split.no (by rw [decide_eq_true hm];rfl) ?_;rw [eK (n:=(i:Int)) (by omega) (by omega)];exact⟨(i:Int)+1,rfl,⟨i+1,A',c',rfl,fg,by rw [ou];exact KM,by rw [ou];exact qn,pf,fun e=>by rw [ou]at e;exact(Ce e).tt FB⟩,by simp only;omega⟩
  ·rw [if_neg hm]at ou
   refine Split.yes (by rw [decide_eq_false hm];rfl) ⟨_,_,_,by rw [aD KM];rfl,y.1,⟨y.2.1,Cells.bS (k5.heap t2 (fun h=>h))⟩,y.2.1,?_⟩;intro w6;have k6:Kept Nil w5 w6:=(Kept.refl _ _).alloc _;have pQ:HS w6 (some ⟨w5.heap.size,0,none⟩) 1 [y]:=ln w5 y;clear_value w6;have BI:cg w6 w.heap.size A' (eQ G.D (l.take i)).length c' (eQ G.D (l.take i)):=Row.aK qn k6 (fun _ _ h=>h);have s6:=(pf.trans k6 (fun _ _ h=>h.elim)).size;have FO:=DQ G.D (l.take i);rw [List.length_take]at FO;obtain⟨A7,c7,w7,Iz,yw,g7,hA7⟩:=gz aW BI (cx:=1) pQ (by omega) s6;have k7:Kept (fun j=>bp A'=some j) w6 w7:=Kept.grown (Kept.refl _ _) g7 fun j hj _=>hj;have nob:bp A'≠some ob:=fun e=>by have:=(Row.bS BI e).1;omega
   have OY:=k7.heap (k6.heap KM (fun h=>h)) nob;refine⟨A7,_,c7,w7,Iz,dL OY (by simp),?_⟩;intro w8;have UL:w8.heap[ob]? =some (.cells #[.slice A7 ((eQ G.D (l.take i)).length+1) c7] aW (0,0)):=cY OY 0 _;have k8:Kept (· =ob) w7 w8:=Kept.setCell (S:=fun j=>j=ob) (Kept.refl _ w7) (p:=⟨ob,0,none⟩) (fun _=>rfl) _;clear_value w8;rw [eK (n:=(i:Int)) (by omega) (by omega)];have el:(eQ G.D (l.take (i+1))).length=(eQ G.D (l.take i)).length+1:=by rw [ou,List.length_append];rfl
   refine⟨(i:Int)+1,rfl,⟨i+1,A7,c7,rfl,fg,by rw [el];exact UL,?_,?_,fun e=>?_⟩,by simp only;omega⟩
   ·rw [el,ou]
    exact Row.aK yw k8 (fun j hj e=>by have:=(Row.bS yw hj).1;omega)
   ·exact((pf.trans k6 (fun _ _ h=>h.elim)).trans k7 (fun j hj e=>by have:=(Row.bS BI e).1;omega)).tt k8
   ·rw [ou]at e
    simp at e
 ·rw [aY,aN.dB]
  unfold aN.cX;rw [List.take_of_length_le (by omega)]at IG row Ce;refine⟨_,_,_,by rw [aD IG];rfl,?_⟩;by_cases he:eQ G.D l= []
  ·rw [he]
   exact Split.no rfl (rN he v (Ce he))
  ·have:=List.length_pos_iff.2 he
   exact Split.yes (decide_eq_true (by omega)) (Ej he v A' c' IG row kv)
theorem EF{x y:HT}{xb:Nat}(C:CV w F c k G m)(hD:G.D.length<=5000)(AM:w.heap[cb]? =some (.cells #[.pointer (some ⟨c,0,none⟩)] cM (0,0)))(TS:w.heap[xb]? =some (.cells x.1 ax (0,0)))
 (hK:∀w' (r:Bool),(r=true↔fG G.D x y)->Kept Nil w w'->K (.bool r) w'):
 bm prog cF.id #[.agg y.1,.pointer (some ⟨cb,0,none⟩),.pointer (some ⟨xb,0,none⟩)] w K:=by
 refine cF.of ?_;unfold cF.W;intro w1 w2;have k1:Kept Nil w w1:=(Kept.refl _ _).alloc _;have hy1:w1.heap[w.heap.size]? =some (.cells y.1 ax (0,0)):=aR w _;have k2:Kept Nil w1 w2:=(Kept.refl _ _).drew;clear_value w2;have Oo:=k2.heap hy1 (fun h=>h);have oD:=k1.tt k2;clear_value w1;have C2:=C.same oD;have Yy:=oD.heap TS (fun h=>h);refine⟨_,by rw [aD (oD.heap AM (fun h=>h))];rfl,x.1,⟨x.2.1,Cells.bS Yy⟩,y.1,⟨y.2.1,Cells.bS Oo⟩,?_⟩;refine qX C2 ⟨_,rfl,⟨_,rfl,y.2.1,Cells.bS Oo⟩,⟨_,rfl,x.2.1,Cells.bS Yy⟩,?_⟩;obtain⟨mx,X,_⟩:=C2.X;exact jo X hD x y fun w3 r hr k3=>⟨r,rfl,hK w3 r hr (oD.tt k3)⟩
theorem Cj{x:HT}{xb:Nat}(C:CV w F c k G m)(hD:G.D.length<=5000)(AM:w.heap[cb]? =some (.cells #[.pointer (some ⟨c,0,none⟩)] cM (0,0)))(TS:w.heap[xb]? =some (.cells x.1 ax (0,0)))(hl:HS w A n l)(hn:n<=100000)
 (hK:∀w' (i:Int),(i>=0↔∃y∈l,fG G.D x y)->Kept Nil w w'->K (.int .i64 i) w'):
 bm prog jT.id #[.slice A n cx,.func (.func cF.id) #[] #[.pointer (some ⟨cb,0,none⟩),.pointer (some ⟨xb,0,none⟩)]] w K:=by
 have hlen:=hl.len;refine ai.of ?_;unfold ai.W;refine ai.cf (I:=fun s v=>∃i:Nat,s=(0,(i:Int))/\i<=n/\Kept Nil w v/\∀y∈l.take i,¬fG G.D x y) (μ:=fun s _=>((n:Int)-s.2).toNat) (s:=(0,0)) ⟨0,rfl,Nat.zero_le _,Kept.refl _ _,by simp⟩ ?_;rintro s v ⟨i,rfl,hi,kv,cP⟩;unfold ai.B1;refine Split.dec (fun cK=>?_) (fun iK=>?_)
 ·simp only at cK
  have fg:i<n:=by omega
  obtain⟨y,hy⟩:∃y,l[i]? =some y:=⟨_,List.getElem?_eq_getElem (by omega)⟩;refine HS.load (hl.same kv) (i:=(i:Int)) (x:=y) (by omega) (by rw [Int.toNat_natCast];exact hy) ?_;refine EF (C.same kv) hD (kv.heap AM (fun h=>h)) (kv.heap TS (fun h=>h)) fun w3 r hr k3=>⟨r,rfl,?_⟩;have km:=kv.tt k3;cases r with
  |true=>exact Split.yes rfl (hK w3 (i:Int) ⟨fun _=>⟨y,List.mem_of_getElem? hy,hr.1 rfl⟩,fun _=>by omega⟩ km)
  |false=>
   refine Split.no rfl ?_;simp only;rw [eK (n:=(i:Int)) (by omega) (by omega)];refine⟨(0,(i:Int)+1),rfl,⟨i+1,rfl,fg,km,fun z hz e=>?_⟩,by simp only;omega⟩;rcases(bI hy).1 hz with hz|rfl
   ·exact cP z hz e
   ·have:=hr.2 e
    cases this
 ·simp only at iK
  rw [aY,ai.dB];rw [List.take_of_length_le (by omega)]at cP;exact hK v (-1) ⟨fun e=>by omega,fun⟨y,hy,e⟩=>absurd e (cP y hy)⟩ kv
theorem Ho(C:CV w F c k G m)(hD:G.D.length<=5000)(AI:w.heap[hb]? =some (.cells hd iH (0,0)))(h0:hd[0]? =some (.slice A n cx))(hl:HS w A n l)(hn:n<=100000)(AM:w.heap[cb]? =some (.cells #[.pointer (some ⟨c,0,none⟩)] cM (0,0)))
 (hK:∀w' e,Kept Nil w w'->(rm G.D l/\e=9\/¬rm G.D l/\e=0)->K (.int .i64 e) w'):
 bm prog aO.id #[.pointer (some ⟨hb,0,none⟩),.pointer (some ⟨cb,0,none⟩)] w K:=by
 have hlen:=hl.len;refine aO.of ?_;unfold aO.W;refine⟨A,n,cx,nP AI h0,?_⟩;refine aO.cf (I:=fun s v=>∃i:Nat,s=(0,(i:Int))/\i<=n/\Kept Nil w v/\∀a∈l.take i,∀b∈l,¬fG G.D a b) (μ:=fun s _=>((n:Int)-s.2).toNat) (s:=(0,0)) ⟨0,rfl,Nat.zero_le _,Kept.refl _ _,by simp⟩ ?_;rintro s v ⟨i,rfl,hi,kv,cP⟩;unfold aO.B1;refine Split.dec (fun cK=>?_) (fun iK=>?_)
 ·simp only at cK
  have fg:i<n:=by omega
  obtain⟨y,hy⟩:∃y,l[i]? =some y:=⟨_,List.getElem?_eq_getElem (by omega)⟩;refine HS.load (hl.same kv) (i:=(i:Int)) (x:=y) (by omega) (by rw [Int.toNat_natCast];exact hy) ?_;intro w3;obtain⟨t1,t2,t3⟩:=sN v y;refine⟨t1,?_⟩;intro w4
  replace t2:w4.heap[v.heap.size]? =some (.cells y.1 ax (0,0)):=t2
  replace t3:Kept Nil v w4:=t3
  clear_value w4;have lj:=kv.tt t3;refine⟨A,n,cx,nP (lj.heap AI (fun h=>h)) h0,?_⟩;refine bD.of ?_;unfold bD.W;refine Cj (C.same lj) hD (lj.heap AM (fun h=>h)) t2 (hl.same lj) hn fun w5 j hj k5=>⟨j,rfl,_,rfl,?_⟩;have pf:=lj.tt k5;by_cases R1:j>=0
  ·obtain⟨b,hb,mJ⟩:=hj.1 R1
   exact Split.yes (decide_eq_true R1) (hK w5 9 pf (.inl ⟨⟨y,List.mem_of_getElem? hy,b,hb,mJ⟩,rfl⟩))
  ·refine Split.no (decide_eq_false R1) ?_
   simp only;rw [eK (n:=(i:Int)) (by omega) (by omega)];refine⟨(0,(i:Int)+1),rfl,⟨i+1,rfl,fg,pf,fun a ha b hb e=>?_⟩,by simp only;omega⟩;rcases(bI hy).1 ha with ha|rfl
   ·exact cP a ha b hb e
   ·exact R1 (hj.2 ⟨b,hb,e⟩)
 ·simp only at iK
  rw [aY,aO.dB];rw [List.take_of_length_le (by omega)]at cP;exact hK v 0 kv (.inr ⟨fun⟨a,ha,b,hb,e⟩=>cP a ha b hb e,rfl⟩)
theorem Hn(C:CV w F c k G m)(hT:p6 w)(hD:G.D.length<=49)(rO:k<=1000)(AI:w.heap[hb]? =some (.cells hd iH (0,0)))(h0:hd[0]? =some (.slice A n cx))(hl:HS w A n l)(hn:n<=5000)(AM:w.heap[cb]? =some (.cells #[.pointer (some ⟨c,0,none⟩)] cM (0,0)))
 (CY:w.heap[pb]? =some (.cells p.cells dA (0,0))) (vz:l≠ []) (gM:∀x∈l,x∈ids G.D)
 (hK:∀w' e,Kept Nil w w'->(p.mm<((ct G (bK G l) l).length:Int)/\e=10\/¬p.mm<((ct G (bK G l) l).length:Int)/\e=0)->K (.int .i64 e) w'):
 bm prog bT.id #[.pointer (some ⟨cb,0,none⟩),.pointer (some ⟨hb,0,none⟩),.pointer (some ⟨pb,0,none⟩)] w K:=by
 have hlen:=hl.len;have m0:kl G.D l=0:=by
  unfold kl;rw [if_neg vz,if_neg (fun⟨x,hx,e⟩=>e (gM x hx))]
 have FK:bK G l∈ids G.D:=gM _ (jI vz);have m1:kl G.D (bK G l::l)=0:=by
  unfold kl;rw [if_neg (by simp),if_neg];rintro⟨x,hx,e⟩;rcases List.mem_cons.1 hx with rfl|hx
  ·exact e FK
  ·exact e (gM x hx)
 refine bT.of ?_;unfold bT.W;refine⟨_,by rw [aD AM];rfl,A,n,cx,nP AI h0,?_⟩;refine pT C hl (by omega) fun w1 k1=>⟨_,_,rfl,?_⟩;rw [if_pos m0];intro w2;obtain⟨t1,t2,t3⟩:=sN w1 (bK G l);refine⟨t1,?_⟩;intro w3
 replace t2:w3.heap[w1.heap.size]? =some (.cells (bK G l).1 ax (0,0)):=t2
 replace t3:Kept Nil w1 w3:=t3
 clear_value w3;have km:=k1.tt t3;refine⟨_,by rw [aD (km.heap AM (fun h=>h))];rfl,_,⟨(bK G l).2.1,Cells.bS t2⟩,A,n,cx,nP (km.heap AI (fun h=>h)) h0,?_⟩;refine zl (C.same km) (hT.same km) hD rO (hl.same km) hn (fun e=>absurd m1 e) fun _ w4 A4 n4 c4 E4 e4 d4 mg4 _ k4 _=>⟨_,_,rfl,?_⟩;have lj:=km.tt k4;intro w5;obtain⟨u1,u2,u3⟩:=HK w4 (fO k G (bK G l) l) A4 n4 c4 E4 e4 d4;refine⟨u1,?_⟩;intro w6
 replace u2:w6.heap[w4.heap.size]? =some (.cells (dT (fO k G (bK G l) l) A4 n4 c4 E4 e4 d4) cB (0,0)):=u2
 replace u3:Kept Nil w4 w6:=u3
 clear_value w6;have qw:=lj.tt u3;have Y3:=mg4.len;have hme:(fO k G (bK G l) l).merge=ct G (bK G l) l:=rfl;rw [hme]at Y3;refine⟨A4,n4,c4,(zx u2).2.2.1,p.mm,by rw [bu,aD (qw.heap CY (fun h=>h))];exact p.Ct,?_⟩;rw [<-Y3];exact Split.dec (fun h=>hK w6 10 qw (.inl ⟨by omega,rfl⟩)) (fun h=>hK w6 0 qw (.inr ⟨by omega,rfl⟩))
end
section
variable{w w' v:World}{K:Value->World->Prop}{n cx hb gb ob cb pb:Nat}{A:Option Addr}{l:List HT}{F:Nat->Prop}{c k:Nat}{G:GS}{m:CM}{hd:Array Value}{p:PP}
set_option maxHeartbeats 4000000 in
theorem mG(C:CV w F c k G m)(hT:p6 w)(hD:G.D.length<=49)(rO:k<=1000)(p:PP)(h0:hd[0]? =some (.slice A n cx))(hl:HS w A n l)(hn:n<=1000)
 (hK:∀w' A' n' c',HS w' A' n' (ig p G l).1->Kept Nil w w'->K (.tuple #[.slice A' n' c',.int .i64 (ig p G l).2]) w'):
 bm prog aF.id #[.agg p.cells,.pointer (some ⟨c,0,none⟩),.agg hd] w K:=by
 have hlen:=hl.len;refine aF.of ?_;unfold aF.W;intro w1 w2 w3 w4;have k1:Kept Nil w w1:=(Kept.refl _ _).alloc _;have OW:w1.heap[w.heap.size]? =some (.cells p.cells dA (0,0)):=aR w _;have k2:Kept Nil w1 w2:=(Kept.refl _ _).alloc _;have EI:w2.heap[w1.heap.size]? =some (.cells #[.pointer (some ⟨c,0,none⟩)] cM (0,0)):=aR w1 _;have k3:Kept Nil w2 w3:=(Kept.refl _ _).alloc _;have Zm:w3.heap[w2.heap.size]? =some (.cells hd iH (0,0)):=aR w2 _;have k4:Kept Nil w3 w4:=(Kept.refl _ _).alloc _;have UQ:w4.heap[w3.heap.size]? =some (.cells #[.slice none 0 0] aW (0,0)):=aR w3 _;clear_value w4;have PL:=k4.heap Zm (fun h=>h);have IV:=(k3.tt k4).heap EI (fun h=>h);have Ms:=((k2.tt k3).tt k4).heap OW (fun h=>h);have lj:=((k1.tt k2).tt k3).tt k4;have s1:=k1.size;have l1:=bf OW;have l2:=bf EI;have l3:=bf Zm;have l4:=bf UQ;generalize CY:w.heap.size=pb at Ms l1 s1;generalize AM:w1.heap.size=cb at IV l1 l2 s1;generalize AI:w2.heap.size=hb at PL l2 l3;generalize x6:w3.heap.size=ob at UQ l3 l4;clear_value w3;clear_value w2;clear_value w1;have C4:=C.same lj;refine⟨_,by rw [aD IV];rfl,qX C4 ⟨_,rfl,?_⟩⟩;obtain⟨mx,X4,PY⟩:=C4.X;refine eM.of (Split.no rfl (Is.mk rfl ⟨_,X4.c0,⟨_,rfl,?_⟩⟩));intro w5;have k5:Kept Nil w4 w5:=(Kept.refl _ _).alloc _;have PT:w5.heap[w4.heap.size]? =some (.cells #[.pointer none] fZ (0,0)):=aR w4 _;clear_value w5;have l5:=bf PT;refine⟨dL PT (by simp),?_⟩;intro w6 w7;have Zp:w6.heap[w4.heap.size]? =some (.cells #[.pointer (some ⟨mx.g,0,none⟩)] fZ (0,0)):=cY PT 0 _;have k6:Kept (· =w4.heap.size) w5 w6:=Kept.setCell (S:=fun j=>j=w4.heap.size) (Kept.refl _ w5) (p:=⟨w4.heap.size,0,none⟩) (fun _=>rfl) _
 have k7:Kept Nil w6 w7:=(Kept.refl _ _).alloc _;have Ih:Kept Nil w4 w6:=k5.trans k6 (fun j hj e=>by omega);have s46:=Ih.size;generalize PQ:w4.heap.size=gb at Zp;have R6:=aR w6 (.cells #[.func (.func b6.id) #[] #[.pointer (some ⟨gb,0,none⟩)],.func (.func bW.id) #[] #[.pointer (some ⟨pb,0,none⟩)],.func (.func bU.id) #[] #[.pointer (some ⟨hb,0,none⟩),.pointer (some ⟨pb,0,none⟩)],.func (.func aN.id) #[] #[.pointer (some ⟨hb,0,none⟩),.pointer (some ⟨gb,0,none⟩),.pointer (some ⟨ob,0,none⟩)],.func (.func aO.id) #[] #[.pointer (some ⟨hb,0,none⟩),.pointer (some ⟨cb,0,none⟩)],.func (.func bT.id) #[] #[.pointer (some ⟨cb,0,none⟩),.pointer (some ⟨hb,0,none⟩),.pointer (some ⟨pb,0,none⟩)]] 110);have e7:w7=w6.alloc (.cells #[.func (.func b6.id) #[] #[.pointer (some ⟨gb,0,none⟩)],.func (.func bW.id) #[] #[.pointer (some ⟨pb,0,none⟩)],.func (.func bU.id) #[] #[.pointer (some ⟨hb,0,none⟩),.pointer (some ⟨pb,0,none⟩)],.func (.func aN.id) #[] #[.pointer (some ⟨hb,0,none⟩),.pointer (some ⟨gb,0,none⟩),.pointer (some ⟨ob,0,none⟩)],.func (.func aO.id) #[] #[.pointer (some ⟨hb,0,none⟩),.pointer (some ⟨cb,0,none⟩)],.func (.func bT.id) #[] #[.pointer (some ⟨cb,0,none⟩),.pointer (some ⟨hb,0,none⟩),.pointer (some ⟨pb,0,none⟩)]] 110):=by
  subst PQ;rfl
 rw [<-e7]at R6;clear_value w7;clear e7;have l7:=bf R6;generalize FL:w6.heap.size=rb at R6 l7;have JV:=Ih.tt k7;have uR:=lj.tt JV;clear_value w6;have hp7:=JV.heap Ms (fun h=>h);have Jg:∀j,mx.jc m.x j\/m.FX j->j<pb:=fun j e=>by
  rw [<-CY];rcases e with e|e
  ·exact C.low j (.inl (.inl (PY j e)))
  ·exact C.low j (.inr (C.fx j e))
 have hc7:=JV.heap IV (fun h=>h);have hh7:=JV.heap PL (fun h=>h);have YX:=JV.heap UQ (fun h=>h);have PR:=k7.heap Zp (fun h=>h);have C7:=C.same uR;have X7:=X4.same JV;have l7':=hl.same uR;have aa0:=C.low;have WG:∀a,A=some a->n≠0->a.block<w.heap.size:=fun a ha Az=>by
  obtain⟨y,hy⟩:∃y,l[0]? =some y:=⟨_,List.getElem?_eq_getElem (by omega)⟩;obtain⟨a',zf,h1,_⟩:=hl.at_ 0 y hy;rw [ha]at zf;cases zf;exact h1
 refine aF.cf (I:=fun s v=>∃i:Nat,s=(0,(i:Int))/\i<=6/\Kept Nil w7 v/\(2<=i->p.ok)/\(3<=i->¬((l.length<1\/p.mp<(l.length:Int))\/dh l≠l))/\(4<=i->eQ G.D l= [])/\(5<=i->¬rm G.D l)/\(6<=i->¬p.mm<((ct G (bK G l) l).length:Int))) (μ:=fun s _=>(6-s.2).toNat) (s:=(0,0)) ⟨0,rfl,by omega,Kept.refl _ _,fun h=>by omega,fun h=>by omega,fun h=>by omega,fun h=>by omega,fun h=>by omega⟩ ?_;rintro⟨_,_⟩ v ⟨i,e,hi,kv,c2,c3,c4,c5,c6⟩;cases e;unfold aF.B1;have vq:=uR.tt kv;have K9:=kv.heap R6 (fun h=>h);have IG:=kv.heap YX (fun h=>h);refine Split.dec (fun cK=>?_) (fun iK=>?_)
 ·simp only at cK
  have fg:i<6:=by omega
  have kd:lE prog iB=.int .i64:=by kernel_rfl
  have stop:∀ {u:World} {e:Int} {A':Option Addr} {c':Nat},Kept (· =ob) w7 u->u.heap[ob]? =some (.cells #[.slice A' (ig p G l).1.length c'] aW (0,0))->HS u A' (ig p G l).1.length (ig p G l).1->(ig p G l).2=e->e≠0->(∀a,A'=some a->(ig p G l).1.length≠0->a.block≠ob)->
   aF.J1 ⟨ob,0,none⟩ 0 e (some ⟨rb,0,none⟩) 6 6 6 (i:Int) (bR (aF.e1 ⟨ob,0,none⟩ (some ⟨rb,0,none⟩) 6 6 6) (fun s v=>∃i:Nat,s=(0,(i:Int))/\i<=6/\Kept Nil w7 v/\(2<=i->p.ok)/\(3<=i->¬((l.length<1\/p.mp<(l.length:Int))\/dh l≠l))/\(4<=i->eQ G.D l= [])/\(5<=i->¬rm G.D l)/\(6<=i->¬p.mm<((ct G (bK G l) l).length:Int))) (fun s _=>(6-s.2).toNat) (0,(i:Int)) v (aF.q1 K)) u:=by
   intro u e A' c' ku hu hs he fJ KO;unfold aF.J1;refine Split.yes (by simpa using fJ) ⟨_,_,_,by rw [aD hu];rfl,dL hu (by simp),?_⟩;intro w9;have T7:w9.heap[ob]? =some (.cells #[.slice A' (ig p G l).1.length c'] aW (0,0)):=cY hu 0 _;have k9:Kept (· =ob) u w9:=Kept.setCell (S:=fun j=>j=ob) (Kept.refl _ u) (p:=⟨ob,0,none⟩) (fun _=>rfl) _;clear_value w9;rw [gH,aF.yf];refine⟨_,_,_,by rw [aD T7];rfl,?_⟩;rw [<-he];refine hK w9 A' _ c' ?_ ((uR.trans ku (fun j hj e=>by omega)).trans k9 (fun j hj e=>by omega));by_cases hz:(ig p G l).1.length=0
   ·have e0:=List.eq_nil_of_length_eq_zero hz
    rw [e0];exact HS.nil _ _
   ·exact hs.aK k9 (fun a ha e=>KO a ha hz e)
  have zY:∀ {u:World} {e:Int},Kept Nil w7 u->ig p G l=([],e)->e≠0->
   aF.J1 ⟨ob,0,none⟩ 0 e (some ⟨rb,0,none⟩) 6 6 6 (i:Int) (bR (aF.e1 ⟨ob,0,none⟩ (some ⟨rb,0,none⟩) 6 6 6) (fun s v=>∃i:Nat,s=(0,(i:Int))/\i<=6/\Kept Nil w7 v/\(2<=i->p.ok)/\(3<=i->¬((l.length<1\/p.mp<(l.length:Int))\/dh l≠l))/\(4<=i->eQ G.D l= [])/\(5<=i->¬rm G.D l)/\(6<=i->¬p.mm<((ct G (bK G l) l).length:Int))) (fun s _=>(6-s.2).toNat) (0,(i:Int)) v (aF.q1 K)) u:=by
   intro u e ku he fJ;have e1:(ig p G l).1= []:=by rw [he]
   refine stop (A':=none) (c':=0) (ku.mono fun _ _ h=>h.elim) (by rw [e1];exact ku.heap YX (fun h=>h)) (by rw [e1];exact HS.nil _ _) (by rw [he]) fJ (fun a ha=>by cases ha)
  have go:∀ {u:World},Kept Nil w7 u->(2<=i+1->p.ok)->(3<=i+1->¬((l.length<1\/p.mp<(l.length:Int))\/dh l≠l))->(4<=i+1->eQ G.D l= [])->(5<=i+1->¬rm G.D l)->(6<=i+1->¬p.mm<((ct G (bK G l) l).length:Int))->
   aF.J1 ⟨ob,0,none⟩ 0 0 (some ⟨rb,0,none⟩) 6 6 6 (i:Int) (bR (aF.e1 ⟨ob,0,none⟩ (some ⟨rb,0,none⟩) 6 6 6) (fun s v=>∃i:Nat,s=(0,(i:Int))/\i<=6/\Kept Nil w7 v/\(2<=i->p.ok)/\(3<=i->¬((l.length<1\/p.mp<(l.length:Int))\/dh l≠l))/\(4<=i->eQ G.D l= [])/\(5<=i->¬rm G.D l)/\(6<=i->¬p.mm<((ct G (bK G l) l).length:Int))) (fun s _=>(6-s.2).toNat) (0,(i:Int)) v (aF.q1 K)) u:=by
   intro u ku d2 d3 d4 d5 d6;unfold aF.J1;refine Split.no rfl ?_;rw [eK (n:=(i:Int)) (by omega) (by omega)];exact⟨(0,(i:Int)+1),rfl,⟨i+1,rfl,by omega,ku,d2,d3,d4,d5,d6⟩,by simp only;omega⟩
  refine⟨⟨by omega,by omega⟩,Is.mk rfl ?_⟩;simp-zeta only [Int.toNat_natCast];have IU:=kv.heap hc7 (fun h=>h);have R5:=kv.heap hh7 (fun h=>h);have OQ:=kv.heap hp7 (fun h=>h);have Zn:=kv.heap PR (fun h=>h);have Cv:=C7.same kv;have Xv:=X7.same kv;have lv:=l7'.same kv;have rd:∀(j:Nat) (z:Value),(#[.func (.func b6.id) #[] #[.pointer (some ⟨gb,0,none⟩)],.func (.func bW.id) #[] #[.pointer (some ⟨pb,0,none⟩)],.func (.func bU.id) #[] #[.pointer (some ⟨hb,0,none⟩),.pointer (some ⟨pb,0,none⟩)],.func (.func aN.id) #[] #[.pointer (some ⟨hb,0,none⟩),.pointer (some ⟨gb,0,none⟩),.pointer (some ⟨ob,0,none⟩)],.func (.func aO.id) #[] #[.pointer (some ⟨hb,0,none⟩),.pointer (some ⟨cb,0,none⟩)],.func (.func bT.id) #[] #[.pointer (some ⟨cb,0,none⟩),.pointer (some ⟨hb,0,none⟩),.pointer (some ⟨pb,0,none⟩)]]:Array Value)[j]? =some z->v.cell? ((⟨rb,0,none⟩:Addr).add (j*1))=some z:=fun j z h=>by rw [Nat.mul_one,bu,aD K9,Nat.zero_add];exact h
  have hz1:b6.fn.body.isSome=true:=by kernel_rfl
  have hz2:bW.fn.body.isSome=true:=by kernel_rfl
  have hz3:bU.fn.body.isSome=true:=by kernel_rfl
  have hz4:aN.fn.body.isSome=true:=by kernel_rfl
  have hz5:aO.fn.body.isSome=true:=by kernel_rfl
  have hz6:bT.fn.body.isSome=true:=by kernel_rfl
  have qz:b6.fn.resultTypes.toList= [iB]:=by kernel_rfl
  have lg:bW.fn.resultTypes.toList= [iB]:=by kernel_rfl
  have CX:bU.fn.resultTypes.toList= [iB]:=by kernel_rfl
  have Ut:aN.fn.resultTypes.toList= [iB]:=by kernel_rfl
  have CW:aO.fn.resultTypes.toList= [iB]:=by kernel_rfl
  have RU:bT.fn.resultTypes.toList= [iB]:=by kernel_rfl
  have R4:i=0\/i=1\/i=2\/i=3\/i=4\/i=5:=by omega
  rcases R4 with rfl|rfl|rfl|rfl|rfl|rfl
  ·refine⟨.func (.func b6.id) #[] #[.pointer (some ⟨gb,0,none⟩)],rd 0 _ rfl,?_⟩
   rw [iF (fn:=b6.fn) b6.at_ hz1 rfl qz kd];refine b6.of ⟨_,by rw [aD Zn];rfl,Split.no rfl (⟨_,rfl,aF.lx (go kv (fun h=>by omega) (fun h=>by omega) (fun h=>by omega) (fun h=>by omega) (fun h=>by omega))⟩)⟩
  ·refine⟨.func (.func bW.id) #[] #[.pointer (some ⟨pb,0,none⟩)],rd 1 _ rfl,?_⟩
   rw [iF (fn:=bW.fn) bW.at_ hz2 rfl lg kd];refine Hr OQ fun w8 k8=>⟨_,rfl,aF.lx ?_⟩;have D0:=kv.tt k8;by_cases x5:p.ok
   ·rw [if_neg (fun e=>e x5)]
    exact go D0 (fun _=>x5) (fun h=>by omega) (fun h=>by omega) (fun h=>by omega) (fun h=>by omega)
   ·rw [if_pos x5]
    exact zY D0 (by unfold ig;rw [if_pos x5]) (by omega)
  ·refine⟨.func (.func bU.id) #[] #[.pointer (some ⟨hb,0,none⟩),.pointer (some ⟨pb,0,none⟩)],rd 2 _ rfl,?_⟩
   rw [iF (fn:=bU.fn) bU.at_ hz3 rfl CX kd];have x5:=c2 (by omega);refine Hq R5 h0 lv (by omega) OQ fun w8 e k8 he=>⟨_,rfl,aF.lx ?_⟩;have D0:=kv.tt k8;rcases he with⟨h3,rfl⟩|⟨h3,rfl⟩
   ·exact zY D0 (by unfold ig;rw [if_neg (fun e=>e x5),if_pos h3]) (by omega)
   ·exact go D0 (fun _=>x5) (fun _=>h3) (fun h=>by omega) (fun h=>by omega) (fun h=>by omega)
  ·refine⟨.func (.func aN.id) #[] #[.pointer (some ⟨hb,0,none⟩),.pointer (some ⟨gb,0,none⟩),.pointer (some ⟨ob,0,none⟩)],rd 3 _ rfl,?_⟩
   rw [iF (fn:=aN.fn) aN.at_ hz4 rfl Ut kd];have x5:=c2 (by omega);have h3:=c3 (by omega);have FN:n≠0:=fun e=>h3 (.inl (.inl (by omega)));have hAn:∀a,A=some a->a.block≠ob:=fun a ha e=>by have:=WG a ha FN;omega
   have XS:∀u,Kept (· =ob) v u->XV u m.FX m.x G.D G.P mx:=fun u ku=>by
    have CV':Kept (· =ob) w u:=(vq.mono fun _ _ h=>h.elim).tt ku;exact X4.aK ((JV.tt kv).mono (S':=fun j=>j=ob) (fun _ _ h=>h.elim) |>.tt ku) (fun j e e'=>by have:=Jg j (.inl e);omega) (fun j e e'=>by have:=Jg j (.inr e);omega)
   refine Hp Xv Cv rfl R5 h0 lv (by omega) Zn IG (by omega) (by omega) hAn XS (fun hm w8 k8=>⟨_,rfl,aF.lx (go (kv.tt k8) (fun _=>x5) (fun _=>h3) (fun _=>hm) (fun h=>by omega) (fun h=>by omega))⟩) fun hm w8 A8 c8 ho8 Gk k8=>⟨_,rfl,aF.lx ?_⟩;have he:ig p G l=(eQ G.D l,15):=by unfold ig;rw [if_neg (fun e=>e x5),if_neg h3,if_pos hm]
   have sv:=kv.size;refine stop (A':=A8) (c':=c8) ((kv.mono fun _ _ h=>h.elim).tt k8) (by rw [he];exact ho8) (by rw [he];exact cg.hs Gk) (by rw [he]) (by omega) (fun a ha _ e=>?_);have:=(Row.bS Gk (k:=a.block) (by rw [ha];rfl)).1;omega
  ·refine⟨.func (.func aO.id) #[] #[.pointer (some ⟨hb,0,none⟩),.pointer (some ⟨cb,0,none⟩)],rd 4 _ rfl,?_⟩
   rw [iF (fn:=aO.fn) aO.at_ hz5 rfl CW kd];have x5:=c2 (by omega);have h3:=c3 (by omega);have hm:=c4 (by omega);refine Ho Cv (by omega) R5 h0 lv (by omega) IU fun w8 e k8 he=>⟨_,rfl,aF.lx ?_⟩;have D0:=kv.tt k8;rcases he with⟨h5,rfl⟩|⟨h5,rfl⟩
   ·exact zY D0 (by unfold ig;rw [if_neg (fun e=>e x5),if_neg h3,if_neg (fun e=>e hm),if_pos h5]) (by omega)
   ·exact go D0 (fun _=>x5) (fun _=>h3) (fun _=>hm) (fun _=>h5) (fun h=>by omega)
  ·refine⟨.func (.func bT.id) #[] #[.pointer (some ⟨cb,0,none⟩),.pointer (some ⟨hb,0,none⟩),.pointer (some ⟨pb,0,none⟩)],rd 5 _ rfl,?_⟩
   rw [iF (fn:=bT.fn) bT.at_ hz6 rfl RU kd];have x5:=c2 (by omega);have h3:=c3 (by omega);have hm:=c4 (by omega);have h5:=c5 (by omega);have vz:l≠ []:=fun e=>h3 (.inl (.inl (by rw [e];simp)));refine Hn Cv (hT.same vq) hD rO R5 h0 lv (by omega) IU OQ vz (qq.1 hm) fun w8 e k8 he=>⟨_,rfl,aF.lx ?_⟩;have D0:=kv.tt k8;rcases he with⟨h6,rfl⟩|⟨h6,rfl⟩
   ·exact zY D0 (by unfold ig;rw [if_neg (fun e=>e x5),if_neg h3,if_neg (fun e=>e hm),if_neg h5,if_pos h6]) (by omega)
   ·exact go D0 (fun _=>x5) (fun _=>h3) (fun _=>hm) (fun _=>h5) (fun _=>h6)
 ·simp only at iK
  rw [aY,aF.dB];unfold aF.cX;refine⟨dL IG (by simp),?_⟩;intro w9;have T7:w9.heap[ob]? =some (.cells #[.slice none 0 0] aW (0,0)):=cY IG 0 _;have k9:Kept (· =ob) v w9:=Kept.setCell (S:=fun j=>j=ob) (Kept.refl _ v) (p:=⟨ob,0,none⟩) (fun _=>rfl) _;clear_value w9;refine⟨none,0,0,by rw [aD T7];rfl,?_⟩;have he:ig p G l=([],0):=by unfold ig;rw [if_neg (fun e=>e (c2 (by omega))),if_neg (c3 (by omega)),if_neg (fun e=>e (c4 (by omega))),if_neg (c5 (by omega)),if_neg (c6 (by omega))]
  have:=hK w9 none 0 0 (by rw [he];exact HS.nil _ _) (vq.trans k9 (fun j hj e=>by omega));rw [he]at this;exact this
end
noncomputable def uC:PP:=⟨2,5,10,0,0,0,0,10,10,fI⟩
theorem yC:uC.ok:=by simp [PP.ok,uC]
theorem zR(v:Value):(Da v)[0]? =some v:=by kernel_rfl
section
variable{r a b:HT}(KI:r≠a)(FL:r≠b)(mJ:a≠b)
include FL mJ in
theorem k2b:eA [⟨r,[]⟩,⟨a,[r]⟩] b [a]=0/\mE [⟨r,[]⟩,⟨a,[r]⟩] b [a]= [⟨r,[]⟩,⟨a,[r]⟩,⟨b,[a]⟩]:=by
 have h:eA [⟨r,[]⟩,⟨a,[r]⟩] b [a]=0:=by
  unfold eA;rw [if_neg (by simp [ids];exact⟨fun e=>FL e.symm,fun e=>mJ e.symm⟩),mc,if_neg (by simp),if_neg (by simp [ids])]
 exact⟨h,by unfold mE;rw [if_pos h,mc];rfl⟩
theorem yD{G:GS}(H:lD 2 G)(D:G.D= [⟨r,[]⟩,⟨a,[r]⟩,⟨b,[a]⟩])(cK:cK a b=true):ig uC G [a,b]=([],9)/\ig uC G [b]=([],0):=by
 have mJ:fG G.D a b:=.one ⟨⟨b,[a]⟩,by rw [D];simp,rfl,by simp⟩;have ha:a∈ids G.D:=by rw [D];simp [ids]
 have hb:b∈ids G.D:=by rw [D];simp [ids]
 constructor
 ·have hs:dh [a,b]= [a,b]:=wm (by simp [SS,cK])
  have hm:eQ G.D [a,b]= []:=qq.2 (by simp [ha,hb]);unfold ig;rw [if_neg (fun e=>e yC),if_neg,if_neg (fun e=>e hm),if_pos ⟨a,by simp,b,by simp,mJ⟩];rintro((e|e)|e)
  ·simp at e
  ·simp [uC]at e
  ·exact e hs
 ·have hs:dh [b]= [b]:=mc b
  have hm:eQ G.D [b]= []:=qq.2 (by simp [hb]);unfold ig;rw [if_neg (fun e=>e yC),if_neg,if_neg (fun e=>e hm),if_neg,if_neg]
  ·have e1:bK G [b]=b:=rfl
   rw [e1,wQ];simp [uC]
  ·rintro⟨x,hx,y,hy,lZ⟩
   rw [List.mem_singleton]at hx hy;subst hx hy;exact fG.irrefl H.W _ lZ
  ·rintro((e|e)|e)
   ·simp at e
   ·simp [uC]at e
   ·exact e hs
end
section
variable{w w':World}{K:Value->World->Prop}
theorem kN(hK:∀w',Kept Nil w w'->K (.agg uC.cells) w'):bm prog dI.id #[] w K:=by
 refine dI.of ?_;unfold dI.W;intro w1;have FV:w1.heap[w.heap.size]? =some (.cells (#[.int .i64 0,.int .i64 0,.int .i64 0,.int .i64 0,.int .i64 0,.int .i64 0,.int .u64 0,.int .i64 0,.int .i64 0]++fI.1) dA (0,0)):=aR w _;have k1:Kept Nil w w1:=(Kept.refl _ _).alloc _;clear_value w1;obtain⟨t1,t2,t3⟩:=lu FV (cs:=uC.cells) (by rw [uC.size,Array.size_append,fI.2.1];rfl);rw [uC.size]at t1;refine⟨⟨uC.size,uC.one,t1⟩,uC.cells,⟨uC.size,Cells.bS t2⟩,hK _ (k1.trans t3 (fun j hj e=>by omega))⟩
set_option maxHeartbeats 2000000 in
theorem yK(hT:p6 w)(hK:∀w',Kept Nil w w'->K (.bool true) w'):bm prog gC.id #[] w K:=by
 let r:=hx 1 (by omega)
 let a:=hx 2 (by omega)
 let b:=hx 3 (by omega)
 have KI:r≠a:=yP (by omega);have FL:r≠b:=yP (by omega);have mJ:a≠b:=yP (by omega);have cK:cK a b=true:=by decide
 refine gC.of ?_;unfold gC.W;intro w1 w2 w3;have ka:Kept Nil w w1:=(Kept.refl _ _).alloc _;have qz:w1.heap[w.heap.size]? =some (.cells fI.1 ax (0,0)):=aR w _;have kb:Kept Nil w1 w2:=(Kept.refl _ _).alloc _;have ZH:w2.heap[w1.heap.size]? =some (.cells fI.1 ax (0,0)):=aR w1 _;have kc:Kept Nil w2 w3:=(Kept.refl _ _).alloc _;have o5:w3.heap[w2.heap.size]? =some (.cells fI.1 ax (0,0)):=aR w2 _;clear_value w3;have ZG:=kc.heap ZH (fun h=>h);have CX:=kc.heap (kb.heap qz (fun h=>h)) (fun h=>h);have km:=(ka.tt kb).tt kc;have l1:=bf qz;have l2:=bf ZH;have l3:=bf o5;generalize aci:w.heap.size=rb at CX l1;generalize adv:w1.heap.size=ab at ZG l1 l2;generalize adp:w2.heap.size=bb at o5 l2 l3;clear_value w2;clear_value w1;obtain⟨u1,u2,u3⟩:=js r CX rfl;refine⟨u1,?_⟩;intro w4
 replace u2:w4.heap[rb]? =some (.cells r.1 ax (0,0)):=u2
 replace u3:Kept (· =rb) w3 w4:=u3
 clear_value w4;obtain⟨v1,v2,v3⟩:=js a (u3.heap ZG (by omega)) rfl;refine⟨v1,?_⟩;intro w5
 replace v2:w5.heap[ab]? =some (.cells a.1 ax (0,0)):=v2
 replace v3:Kept (· =ab) w4 w5:=v3
 clear_value w5;obtain⟨x1,x2,x3⟩:=js b (v3.heap (u3.heap o5 (by omega)) (by omega)) rfl;refine⟨x1,?_⟩;intro lr
 replace x2:lr.heap[bb]? =some (.cells b.1 ax (0,0)):=x2
 replace x3:Kept (· =bb) w5 lr:=x3
 clear_value lr;have hb:=x2;have ha:=x3.heap v2 (by omega);have hr:=x3.heap (v3.heap u2 (by omega)) (by omega);have k:Kept Nil w lr:=((km.trans u3 (fun j hj e=>by omega)).trans v3 (fun j hj e=>by omega)).trans x3 (fun j hj e=>by omega);have hTl:=hT.lt;have s16:=k.size;have lb:=bf hb;have box:∀ {u:World} {S:Nat->Prop},Kept S lr u->(∀k,S k->lr.heap.size<=k)->u.heap[rb]? =some (.cells r.1 ax (0,0))/\u.heap[ab]? =some (.cells a.1 ax (0,0))/\u.heap[bb]? =some (.cells b.1 ax (0,0)):=fun ku hS=>
  ⟨ku.heap hr (fun e=>by have:=hS _ e;omega),ku.heap ha (fun e=>by have:=hS _ e;omega),ku.heap hb (fun e=>by have:=hS _ e;omega)⟩
 obtain⟨c1,d1⟩:=k1 KI;obtain⟨c2,d2⟩:=k2b FL mJ;have H1:=(mo 2 r).add a [r];have H2:=H1.add b [a];have D1:(fF 2 (gw r) a [r]).D= [⟨r,[]⟩,⟨a,[r]⟩]:=by rw [tG];exact d1
 have D2:(fF 2 (fF 2 (gw r) a [r]) b [a]).D= [⟨r,[]⟩,⟨a,[r]⟩,⟨b,[a]⟩]:=by rw [tG,D1];exact d2
 obtain⟨P1,P2⟩:=yD H2 D2 cK;refine⟨r.1,⟨r.2.1,Cells.bS hr⟩,gP r (k:=2) (by omega) fun p9 cc q m C hm hq Av=>⟨_,_,rfl,Split.no rfl (Split.no rfl ?_)⟩⟩;obtain⟨b1,b2,b3⟩:=box Av (fun _ h=>h.elim);refine⟨a.1,⟨a.2.1,Cells.bS b2⟩,r.1,⟨r.2.1,Cells.bS b1⟩,r.2.1,?_⟩;intro kr;have rv:Kept Nil p9 kr:=(Kept.refl _ _).alloc _;have Ht:HS kr (some ⟨p9.heap.size,0,none⟩) 1 [r]:=ln p9 r;clear_value kr;have yM:=Av.tt rv;have Tc:=yM.size;refine sU (C.same rv) (hT.same (k.tt yM)) (fun e=>by have:=hm _ (.inl e);omega) (by simp [gw]) (by omega) Ht (by omega) a fun Be F2 m2 A2 n2 p2 E2 q2 z2 C2 _ JY Za _ _ _ _ _=>⟨_,_,rfl,?_⟩;have XU:∀j,m2.own cc j->lr.heap.size<=j:=fun j e=>(Za j e).elim (hm j) (fun h=>by omega);have Ik:Kept (fun q=>lr.heap.size<=q) lr Be:=(yM.mono (S':=fun q=>lr.heap.size<=q) (fun _ _ h=>h.elim)).trans JY (fun q _ h=>hm q h);obtain⟨b1,b2,b3⟩:=box Ik (fun _ h=>h);refine⟨b.1,⟨b.2.1,Cells.bS b3⟩,a.1,⟨a.2.1,Cells.bS b2⟩,a.2.1,?_⟩;intro MZ;have RJ:Kept Nil Be MZ:=(Kept.refl _ _).alloc _;have Wc:HS MZ (some ⟨Be.heap.size,0,none⟩) 1 [a]:=ln Be a;clear_value MZ;have Eb:=Ik.trans RJ (fun _ _ h=>h.elim);have s31:=Eb.size;refine sU (C2.same RJ) ((hT.same k).aK Eb (fun e=>by omega)) (fun e=>by have:=XU _ (.inl e);omega) (by rw [D1];simp) (by omega) Wc (by omega) b fun p8 F3 m3 A3 n3 p3 E3 q3 z3 C3 _ Ap Y9 _ _ _ _ _=>⟨_,_,rfl,?_⟩;have Ea:Kept (fun q=>lr.heap.size<=q) lr p8:=Eb.trans Ap (fun q _ h=>XU q h);have QC:p6 p8:=(hT.same k).aK Ea (fun e=>by omega);have k0:∀ {u:World},Kept Nil p8 u->Kept Nil w u:=fun ku=>k.trans (Ea.trans ku (fun _ _ h=>h.elim)) (fun q hq e=>by omega)
 obtain⟨b1,b2,b3⟩:=box Ea (fun _ h=>h);have WB:(fF 2 (fF 2 (gw r) a [r]) b [a]).D.length<=49:=by rw [D2];simp
 generalize fF 2 (fF 2 (gw r) a [r]) b [a]=G2 at C3 WB P1 P2;have Qb:∀ {u:World} {A:Option Addr} {K':Value->World->Prop},Kept Nil p8 u->HS u A 2 [a,b]->(∀w' A' n' c',Kept Nil p8 w'->K' (.tuple #[.slice A' n' c',.int .i64 9]) w')->bm prog aF.id #[.agg uC.cells,.pointer (some ⟨cc,0,none⟩),.agg (Da (.slice A 2 2))] u K':=fun ku hs hk=>
  mG (C3.same ku) (QC.same ku) WB (by omega) uC (zR _) hs (by omega) fun w' A' n' c' _ k'=>by
   rw [P1];exact hk w' A' n' c' (ku.tt k')
 have Qa:∀ {u:World} {A:Option Addr} {K':Value->World->Prop},Kept Nil p8 u->HS u A 1 [b]->(∀w' A' n' c',Kept Nil p8 w'->K' (.tuple #[.slice A' n' c',.int .i64 0]) w')->bm prog aF.id #[.agg uC.cells,.pointer (some ⟨cc,0,none⟩),.agg (Da (.slice A 1 1))] u K':=fun ku hs hk=>
  mG (C3.same ku) (QC.same ku) WB (by omega) uC (zR _) hs (by omega) fun w' A' n' c' _ k'=>by
   rw [P2];exact hk w' A' n' c' (ku.tt k')
 have fin:∀ {u:World},Kept Nil p8 u->bm prog dI.id #[] u fun pe qe=>∃re:Array Value,pe=.agg re/\bm prog bz.id #[.agg re] qe fun te ue=>∃ve:Bool,te=.bool ve/\K (.bool ve) ue:=fun ku=>
  kN fun w1 k1=>⟨_,rfl,jU uC fun w2 k2=>⟨_,rfl,by rw [decide_eq_true yC];exact hK w2 (k0 ((ku.tt k1).tt k2))⟩⟩
 intro mN;have xX:Kept Nil p8 mN:=(Kept.refl _ _).drew;clear_value mN;have QB:=xX.heap b2 (fun h=>h);have Qu:=xX.heap b3 (fun h=>h);have half:∀ {va:World},Kept Nil p8 va->va.heap[bb]? =some (.cells b.1 ax (0,0))->
  (let be:World:=va.drew;∃ce:Array Value,(ce.size=32/\Cells be (⟨bb,0,none⟩:Addr) ce)/\(bm prog dI.id #[] be fun de ee=>∃fe:Array Value,de=.agg fe/\(∃cs:Array Value,(.agg ce:Value)=.agg cs/\cs.size=32/\Cells ee (⟨bb,0,none⟩:Addr) cs)/\ce.size=32/\(let ge:World:=ee.alloc (.cells (ce.toList++ []).toArray ax);bm prog aF.id #[.agg fe,.pointer (some ⟨cc,0,none⟩),.agg (Da (.slice (some (aU ee.heap.size)) 1 1))] ge fun ie je=>∃ke:Option Addr,∃me ne:Nat,∃oe:Int,ie=.tuple #[.slice ke me ne,.int .i64 oe]/\Split ((9:Int)==(9:Int)) (Split (oe==(0:Int)) (bm prog dI.id #[] je fun pe qe=>∃re:Array Value,pe=.agg re/\bm prog bz.id #[.agg re] qe fun te ue=>∃ve:Bool,te=.bool ve/\K (.bool ve) ue) (K (.bool false) je)) (K (.bool false) je)))/\
    (ce.size=32/\(let xe:World:=be.alloc (.cells (ce.toList++ []).toArray ax);bm prog dI.id #[] xe fun ye ze=>∃aj:Array Value,ye=.agg aj/\bm prog aF.id #[.agg aj,.pointer (some ⟨cc,0,none⟩),.agg (Da (.slice (some (aU be.heap.size)) 1 1))] ze fun bj cj=>∃dj:Option Addr,∃ej fj:Nat,∃gj:Int,bj=.tuple #[.slice dj ej fj,.int .i64 gj]/\Split ((9:Int)==(9:Int)) (Split (gj==(0:Int)) (bm prog dI.id #[] cj fun ij jj=>∃kj:Array Value,ij=.agg kj/\bm prog bz.id #[.agg kj] jj fun mj nj=>∃oj:Bool,mj=.bool oj/\K (.bool oj) nj) (K (.bool false) cj)) (K (.bool false) cj)))):=by
  intro va kva EM be;have Yg:Kept Nil va be:=(Kept.refl _ _).drew;clear_value be;have Ap:=kva.tt Yg;have ZE:=Yg.heap EM (fun h=>h);refine⟨b.1,⟨b.2.1,Cells.bS ZE⟩,?_,b.2.1,?_⟩
  ·refine kN fun ee ke=>⟨_,rfl,⟨_,rfl,b.2.1,Cells.bS (ke.heap ZE (fun h=>h))⟩,b.2.1,?_⟩
   intro ge;have kge:Kept Nil ee ge:=(Kept.refl _ _).alloc _;have iK:HS ge (some ⟨ee.heap.size,0,none⟩) 1 [b]:=ln ee b;clear_value ge;exact Qa ((Ap.tt ke).tt kge) iK fun w' A' n' c' k'=>⟨A',n',c',_,rfl,Split.yes rfl (Split.yes rfl (fin k'))⟩
  ·intro xe
   have kxe:Kept Nil be xe:=(Kept.refl _ _).alloc _;have TR:HS xe (some ⟨be.heap.size,0,none⟩) 1 [b]:=ln be b;clear_value xe;refine kN fun ze ke=>⟨_,rfl,?_⟩;exact Qa ((Ap.tt kxe).tt ke) (TR.same ke) fun w' A' n' c' k'=>⟨A',n',c',_,rfl,Split.yes rfl (Split.yes rfl (fin k'))⟩
 refine⟨a.1,⟨a.2.1,Cells.bS QB⟩,b.1,⟨b.2.1,Cells.bS Qu⟩,?_,a.2.1,b.2.1,?_⟩
 ·refine kN fun gY lQ=>⟨_,rfl,⟨_,rfl,b.2.1,Cells.bS (lQ.heap Qu (fun h=>h))⟩,⟨_,rfl,a.2.1,Cells.bS (lQ.heap QB (fun h=>h))⟩,a.2.1,b.2.1,?_⟩
  intro qH;have qv:Kept Nil gY qH:=(Kept.refl _ _).alloc _;have Wb:HS qH (some ⟨gY.heap.size,0,none⟩) 2 [a,b]:=HS.lay (l:= [a,b]) (t:=ax) (aR gY (.cells (cD [a,b]).toArray ax));clear_value qH;refine Qb ((xX.tt lQ).tt qv) Wb fun Bd A' n' c' CR=>⟨A',n',c',_,rfl,?_⟩;exact half CR (CR.heap b3 (fun h=>h))
 ·intro gY
  have lQ:Kept Nil mN gY:=(Kept.refl _ _).alloc _;have Hs:HS gY (some ⟨mN.heap.size,0,none⟩) 2 [a,b]:=HS.lay (l:= [a,b]) (t:=ax) (aR mN (.cells (cD [a,b]).toArray ax));clear_value gY;refine kN fun qH qv=>⟨_,rfl,?_⟩;refine Qb ((xX.tt lQ).tt qv) (Hs.same qv) fun Bd A' n' c' CR=>⟨A',n',c',_,rfl,?_⟩;exact half CR (CR.heap b3 (fun h=>h))
end
open Go.ChangeAt Go.ChangeShapes Go.WideShapes
theorem Q0:prog.underlying fE=some (.int .i64):=by kernel_rfl
theorem QY:prog.underlying eJ=some (.int .u64):=by kernel_rfl
theorem WQ:prog.cellsOf fE=1:=by kernel_rfl
theorem WN:prog.cellsOf eJ=1:=by kernel_rfl
def JJ:Array Field:= #[⟨"K",fE,0,false,"","",0⟩,⟨"MaxParents",fE,1,false,"","",8⟩,⟨"MaxMerge",fE,2,false,"","",16⟩,⟨"Finality",fE,3,false,"","",24⟩,⟨"Pruning",fE,4,false,"","",32⟩,⟨"Maturity",fE,5,false,"","",40⟩,⟨"Subsidy",eJ,6,false,"","",48⟩,⟨"Orphans",fE,7,false,"","",56⟩,⟨"Pool",fE,8,false,"","",64⟩,⟨"Genesis",ax,9,false,"","",72⟩]
theorem Ja:prog.underlying dA=some (.struct JJ):=by kernel_rfl
theorem WO:prog.cellsOf dA=41:=by kernel_rfl
section
variable{H:Type}{enc:TypeId×Value->H}{w:World}{base:Nat}{sp:Nat->Bool}{held:Bool}{fuel:Nat}{cs:List Value}{x:DataW H×List MemPlace}
theorem JI(h:DataW.trod enc prog w base sp held fuel dA cs=some x):∃p:PP,cs.toArray=p.cells:=by
 obtain⟨xs,n,_,_,hl,sH,cP⟩:=DataW.trod_struct Ja h;rw [WO]at hl;have hx:∀i,i<10->∃y,xs[i]? =some y:=fun i hi=>⟨xs[i]'(by rw [sH];exact hi),by simp⟩;have gi:∀i (f:Field),JJ[i]? =some f->f.type=fE->∃z,(cs.drop f.offset).take 1= [.int .i64 z]:=fun i f hf ht=>by
  obtain⟨y,hy⟩:=hx i (Array.getElem?_eq_some_iff.1 hf).1;have:=cP i f hf;rw [ht,WQ,hy]at this;obtain⟨z,hz,_⟩:=DataW.trod_int Q0 this;exact⟨z,hz⟩
 obtain⟨a0,e0⟩:=gi 0 _ rfl rfl;obtain⟨a1,e1⟩:=gi 1 _ rfl rfl;obtain⟨a2,e2⟩:=gi 2 _ rfl rfl;obtain⟨a3,e3⟩:=gi 3 _ rfl rfl;obtain⟨a4,e4⟩:=gi 4 _ rfl rfl;obtain⟨a5,e5⟩:=gi 5 _ rfl rfl;obtain⟨a7,e7⟩:=gi 7 _ rfl rfl;obtain⟨a8,e8⟩:=gi 8 _ rfl rfl;obtain⟨a6,e6⟩:∃z,(cs.drop 6).take 1= [.int .u64 z]:=by
  obtain⟨y,hy⟩:=hx 6 (by decide);have:DataW.trod enc prog w base sp held n eJ ((cs.drop 6).take (prog.cellsOf eJ))=xs[6]? :=cP 6 _ rfl;rw [WN,hy]at this;obtain⟨z,hz,_⟩:=DataW.trod_int QY this;exact⟨z,hz⟩
 obtain⟨y9,hy9⟩:=hx 9 (by decide);have e9:DataW.trod enc prog w base sp held n ax ((cs.drop 9).take (prog.cellsOf ax))=xs[9]? :=cP 9 _ rfl;rw [Q1,hy9]at e9;have hh:=Kp e9;have ec:cs=(cs.drop 0).take 1++((cs.drop 1).take 1++((cs.drop 2).take 1++((cs.drop 3).take 1++((cs.drop 4).take 1++((cs.drop 5).take 1++((cs.drop 6).take 1++((cs.drop 7).take 1++((cs.drop 8).take 1++(cs.drop 9).take 32)))))))):=by
  have step:∀k,cs.drop k=(cs.drop k).take 1++cs.drop (k+1):=fun k=>by
   conv=>lhs;rw [<-List.take_append_drop 1 (cs.drop k)]
   rw [List.drop_drop]
  have t9:(cs.drop 9).take 32=cs.drop 9:=List.take_of_length_le (by rw [List.length_drop];omega);rw [t9]
  conv=>lhs;rw [<-List.drop_zero (l:=cs),step 0,step 1,step 2,step 3,step 4,step 5,step 6,step 7,step 8]
 refine⟨⟨a0,a1,a2,a3,a4,a5,a6,a7,a8,⟨_,hh⟩⟩,?_⟩;have f0:(cs.drop 0).take 1= [.int .i64 a0]:=e0;have f1:(cs.drop 1).take 1= [.int .i64 a1]:=e1;have f2:(cs.drop 2).take 1= [.int .i64 a2]:=e2;have f3:(cs.drop 3).take 1= [.int .i64 a3]:=e3;have f4:(cs.drop 4).take 1= [.int .i64 a4]:=e4;have f5:(cs.drop 5).take 1= [.int .i64 a5]:=e5;have f7:(cs.drop 7).take 1= [.int .i64 a7]:=e7;have f8:(cs.drop 8).take 1= [.int .i64 a8]:=e8;rw [f0,f1,f2,f3,f4,f5,e6,f7,f8]at ec;unfold PP.cells
 conv=>lhs;rw [ec]
 simp
end
section
variable{H:Type}{enc:TypeId×Value->H}{w:World}{base:Nat}{sp:Nat->Bool}{held:Bool}{d:DataW H}{p:List MemPlace}{v:Value}
set_option maxRecDepth 100000 in
theorem zF{t:TypeId}(et:t=dA)(hv:Value.okWide prog w .any base t v)(h:∃fuel,DataW.trod enc prog w 0 sp held fuel t v.cells.toList=some (d,p)):∃q:PP,v=.agg q.cells:=by
 have ht:prog.underlying t=some (.struct JJ):=by rw [et];exact Ja
 simp only [Value.okWide,ht]at hv;subst et;obtain⟨cs,rfl,h2⟩:=hv;obtain⟨fuel,h⟩:=h;obtain⟨q,hq⟩:=JI h;exact⟨q,by rw [<-hq];simp [Value.cells]⟩
end
end Go.Proofs.YtfleamccglihoaaGreatDoor
namespace Go.Proofs.YtfleamccglihoaaGreatDoor
open Go.Proofs.Tryz
open Go Go.bE Go.RowKit
section
variable{w:World}{K:Value->World->Prop}
theorem wH(p:PP)(hT:p6 w)(hK:∀w',Kept Nil w w'->K (.bool true) w'):bm prog dr.id #[.agg p.cells] w K:=by
 refine dr.of ?_;unfold dr.W;intro w1 w2;have k1:Kept Nil w w1:=(Kept.refl _ _).alloc _;have FV:w1.heap[w.heap.size]? =some (.cells p.cells dA (0,0)):=aR w _;have k2:Kept Nil w1 w2:=(Kept.refl _ _).drew;clear_value w2;clear_value w1;have oD:=k1.tt k2;have oy:=k2.heap FV (fun h=>h);refine⟨p.cells,⟨p.size,Cells.bS oy⟩,p.cells,⟨p.size,Cells.bS oy⟩,?_⟩;refine jU p fun w3 k3=>⟨_,rfl,⟨_,rfl,p.size,Cells.bS (k3.heap oy (fun h=>h))⟩,?_⟩;refine rr p fun w4 k4=>⟨_,rfl,Split.yes (by simp) ?_⟩;have lj:=(oD.tt k3).tt k4;exact yK (hT.same lj) fun w5 k5=>⟨true,rfl,hK w5 (lj.tt k5)⟩
end
end Go.Proofs.YtfleamccglihoaaGreatDoor
