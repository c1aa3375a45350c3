import Derived.Test.YtfleamccglihoaaGreatDoorMU
import Derived.Test.YtfleamccglihoaaGreatDoorMJ
import Derived.Test.YtfleamccglihoaaGreatDoorMT
import Derived.Test.YtfleamccglihoaaGreatDoorMI
import Derived.Test.YtfleamccglihoaaGreatDoorMG
import Derived.Test.YtfleamccglihoaaGreatDoorMN
import Derived.Test.YtfleamccglihoaaGreatDoorMK
open Go.IntKind (i64 u64)
set_option linter.unusedVariables false
namespace Go.Proofs.YtfleamccglihoaaGreatDoor
open Go.Proofs.Tryz
open Go Go.bE Go.RowKit
noncomputable def Fs(k:Nat)(G:GS)(id:HT)(l:List HT):rl:=if eo G.D id l=0 then fM k G (bG G l) l else⟨fG,0,[],[]⟩
section
variable{w w' v:World}{S F FP FR:Nat->Prop}{c r x k:Nat}{G:GS}{m:CM}{K:Value->World->Prop}
theorem sX(h:CV w F c k G m)(hT:p7 w)(Lp:¬m.SX (Tryz.ji.g 1))(hD:G.D.length<=49)(rP:k<=1000){A:Option Addr}{n cx:Nat}{l:List HT}(zc:HS w A n l)(hn:n<=5000)(id:HT)
 (hK:∀w' F' m' A n c1 B e c2,CV w' F' c k (fE k G id l) m'->m'.x=m.x->Kept (m.own c) w w'->(∀j,m'.own c j->m.own c j\/w.heap.size<=j)->(∀j,F' j->F j\/w.heap.size<=j)->
   cr w' w.heap.size A n c1 (Fs k G id l).merge->Row w' w.heap.size iX 1 B e c2 (vg (Fs k G id l).iJ)->(∀j,bp A=some j->bp B≠some j)->(∀j,bp A=some j\/bp B=some j->¬m'.own c j/\¬F' j)->
   K (.tuple #[.agg (dS (Fs k G id l) A n c1 B e c2),.int .i64 (eo G.D id l)]) w'):
 bm prog cY.id #[.pointer (some ⟨c,0,none⟩),.agg id.1,.slice A n cx] w K:=by
 refine Cw h hT Lp hD rP zc hn id (fun he w' k'=>?_) (fun he w' F' m' A n c1 B e c2 h1 h2 h3 h4 h5 h6 h7 h8 h9=>?_)
 ·have e1:Fs k G id l=⟨fG,0,[],[]⟩:=if_neg he
  have:=hK w' F m none 0 0 none 0 0 (by rw [vT he];exact h.same k') rfl (k'.mono fun _ _ h=>h.elim) (fun j h=>.inl h) (fun j h=>.inl h) (by rw [e1];exact cr.nil _ _) (by rw [e1];exact Row.nil _ _ _ _) (fun j hj=>(by cases hj)) (fun j hj=>by rcases hj with hj|hj<;>cases hj);rw [e1]at this;exact this
 ·have e1:Fs k G id l=fM k G (bG G l) l:=if_pos he
  have:=hK w' F' m' A n c1 B e c2 h1 h2 h3 h4 h5 (by rw [e1];exact h6) (by rw [e1];exact h7) h8 h9;rw [e1,he]at this;exact this
end
section
variable{w w' v:World}{S F FP FR:Nat->Prop}{c r x k:Nat}{G:GS}{m:CM}{K:Value->World->Prop}
end
section
variable{k:Nat}{G:GS}{s:HT}
theorem wU(G:GS)(s:HT):cg G s [s]= []:=by
 rw [List.eq_nil_iff_forall_not_mem];intro h hm;obtain⟨h1,h2,h3⟩:=iW.1 hm;rcases h1 with⟨_,p,hp,ha⟩|h1
 ·rw [List.mem_singleton]at hp;subst hp;exact h3 ha
 ·rw [List.mem_singleton]at h1;exact h2 h1
variable{r a b c:HT}(KH:r≠a)(FL:r≠b)(RQ:r≠c)(mJ:a≠b)(Sb:a≠c)(Lj:b≠c)
end
section
variable{w w':World}{K:Value->World->Prop}
end
section
variable{w w' v:World}{F FP FR:Nat->Prop}{c r x k:Nat}{G:GS}{m:CM}{K:Value->World->Prop}
end
section
variable{w v:World}{F FP FR:Nat->Prop}{c r x k:Nat}{G:GS}{m:CM}{K:Value->World->Prop}{O:Option Addr}{on oc:Nat}{lo:List HT}{s:HT}{sb xb:Nat}{xv:Array Value}
end
section
variable{k:Nat}{G:GS}{h:HT}{ps:List HT}
end
structure Sub(G G':GS):Prop where
 D:∀nd∈G.D,nd∈G'.D
 W:jQ G.D
 W':jQ G'.D
 cw:∀y∈ids G.D,G.iR y=G'.iR y/\G.world y=G'.world y
section
variable{k:Nat}{G G':GS}{s:HT}{l:List HT}
end
section
variable{k:Nat}{G:GS}{h:HT}{l:List HT}
end
section
variable{k:Nat}{G:GS}{h:HT}{l:List HT}
end
section
variable{w w':World}{K:Value->World->Prop}{B n cx b:Nat}{A:Option Addr}{F:Nat->Prop}{c k:Nat}{G:GS}{m:CM}{l:List HT}
end
section
variable{w w' v:World}{K:Value->World->Prop}{B n cx b q:Nat}{A E:Option Addr}{F:Nat->Prop}{c k:Nat}{G:GS}{m:CM}{l:List HT}{C:rl}{cp e ce:Nat}
theorem zA(hx:v.heap[q]? =some (.cells (dS C A n cp E e ce) cB (0,0))):
 Cells v ((⟨q,0,none⟩:Addr).add 0) C.lZ.1/\v.cell? ((⟨q,0,none⟩:Addr).add 32)=some (.int .u64 (C.score:Int))/\v.cell? ((⟨q,0,none⟩:Addr).add 33)=some (.slice A n cp)/\v.cell? ((⟨q,0,none⟩:Addr).add 34)=some (.slice E e ce):=by
 have g:=gL C A n cp E e ce #[];rw [Array.append_empty]at g;refine⟨fun j u hj=>?_,by rw [bu,aD hx];exact g.1,by rw [bu,aD hx];exact g.2.1,by rw [bu,aD hx];exact g.2.2.1⟩;have cJ:=(Array.getElem?_eq_some_iff.1 hj).1;rw [add_zero,bu,aD hx,Nat.zero_add];unfold dS;rw [Array.getElem?_append_left cJ];exact hj
theorem HJ(u:World)(C:rl)(A:Option Addr)(n cp:Nat)(E:Option Addr)(e ce:Nat):
 ((dS C A n cp E e ce).size=35/\(∀x∈(dS C A n cp E e ce).toList,x.oneCell'=true)/\∀y,y<35->Wr (u.alloc (.cells zC cB)) ((aU u.heap.size).add y))/\
   (setCells (u.alloc (.cells zC cB)) ⟨u.heap.size,0,none⟩ (dS C A n cp E e ce).toList 0).heap[u.heap.size]? =some (.cells (dS C A n cp E e ce) cB (0,0))/\
   Kept Nil u (setCells (u.alloc (.cells zC cB)) ⟨u.heap.size,0,none⟩ (dS C A n cp E e ce).toList 0):=by
 have GW:(u.alloc (.cells zC cB)).heap[u.heap.size]? =some (.cells zC cB (0,0)):=aR u _;obtain⟨t1,t2,t3⟩:=lx GW (cs:=dS C A n cp E e ce) (by rw [bX];rfl);exact⟨⟨bX ..,kW _ _ _ _ _ _ _,fun j hj=>t1 j (by rw [bX];exact hj)⟩,t2,((Kept.refl _ _).alloc _).trans t3 (fun j hj e=>by omega)⟩
theorem sQ(u:World)(x:HT):(x.1.size=32/\(∀y∈x.1.toList,y.oneCell'=true)/\∀y,y<32->Wr (u.alloc (.cells zH ax)) ((aU u.heap.size).add y))/\
 (setCells (u.alloc (.cells zH ax)) ⟨u.heap.size,0,none⟩ x.1.toList 0).heap[u.heap.size]? =some (.cells x.1 ax (0,0))/\Kept Nil u (setCells (u.alloc (.cells zH ax)) ⟨u.heap.size,0,none⟩ x.1.toList 0):=by
 obtain⟨ry,jw,jg⟩:=gg (w:=u) (z:=zH) (cs:=x.1) (t:=ax) (by rw [x.2.1];rfl);exact⟨⟨x.2.1,x.2.one,fun j hj=>ry j (by rw [x.2.1];exact hj)⟩,jw,jg⟩
end
section
variable{k:Nat}{G:GS}{lZ:HT}
theorem stays{G':GS}(S:Sub G G')(H:lf k G){l:List HT}(hl:∀y∈l,y∈ids G.D)(h0:l≠ []):
 (∀y∈l,y∈ids G'.D)/\(∀a∈l,∀b∈l,(fD G'.D a b↔fD G.D a b))/\bG G' l=bG G l/\cg G' (bG G' l) l=cg G (bG G l) l:=by
 have CT:=hl _ (iY (G:=G) h0);have es:=S.lZ hl h0;refine⟨fun y hy=>S.ids (hl y hy),fun a _ b hb=>(S.Je (hl b hb)).symm,es.symm,?_⟩;rw [<-es];exact(S.cg CT hl).symm
end
section
variable{G:GS}{lZ:HT}
end
structure PP where
 K:Int
 mp:Int
 mm:Int
 fin:Int
 yE:Int
 H6:Int
 sub:Int
 H4:Int
 wI:Int
 gen:HT
def PP.cells(p:PP):Array Value:= #[.int .i64 p.K,.int .i64 p.mp,.int .i64 p.mm,.int .i64 p.fin,.int .i64 p.yE,.int .i64 p.H6,.int .u64 p.sub,.int .i64 p.H4,.int .i64 p.wI]++p.gen.1
def PP.ok(p:PP):Prop:=(0<=p.K/\p.K<=100)/\(1<=p.mp/\p.mp<=20)/\(1<=p.mm/\p.mm<=1000)/\(0<=p.fin/\p.fin<=2147483647)/\(0<=p.yE/\p.yE<=2147483647)/\(0<=p.H6/\p.H6<=2147483647)/\(0<=p.H4/\p.H4<=100000)/\(0<=p.wI/\p.wI<=100000)/\p.sub<=1099511627776/\(p.yE=0\/(0<p.fin/\p.fin<p.yE/\p.mm<p.yE))
noncomputable instance(p:PP):Decidable p.ok:=Classical.propDecidable _
noncomputable def eN(D:DG)(l:List HT):List HT:=l.filter fun x=>decide (x∉ids D)
theorem uH{D:DG}{l:List HT}{x:HT}:x∈eN D l↔x∈l/\x∉ids D:=by unfold eN;simp
theorem qt{D:DG}{l:List HT}:eN D l= []↔∀x∈l,x∈ids D:=by
 rw [List.eq_nil_iff_forall_not_mem];constructor
 ·intro h x hx
  exact Classical.byContradiction fun e=>h x (uH.2 ⟨hx,e⟩)
 ·intro h x hx
  obtain⟨h1,h2⟩:=uH.1 hx;exact h2 (h x h1)
def rm(D:DG)(l:List HT):Prop:=∃a∈l,∃b∈l,fD D a b
open Classical in
noncomputable def ig(p:PP)(G:GS)(l:List HT):List HT×Int:=
 if ¬p.ok then([],2)
 else if(l.length<1\/p.mp<(l.length:Int))\/dg l≠l then([],9)
 else if eN G.D l≠ []then(eN G.D l,15)
 else if rm G.D l then([],9)
 else if p.mm<((cg G (bG G l) l).length:Int)then([],10)
 else([],0)
section
variable{k:Nat}{G G':GS}{l:List HT}{p:PP}
end
theorem PP.size(p:PP):p.cells.size=41:=by unfold PP.cells;rw [Array.size_append,p.gen.2.1];rfl
theorem PP.LD(p:PP):p.cells[0]? =some (.int .i64 p.K):=by unfold PP.cells;rw [Array.getElem?_append_left (by show 0<9;omega)];rfl
theorem PP.HC(p:PP):p.cells[1]? =some (.int .i64 p.mp):=by unfold PP.cells;rw [Array.getElem?_append_left (by show 1<9;omega)];rfl
theorem PP.Cx(p:PP):p.cells[2]? =some (.int .i64 p.mm):=by unfold PP.cells;rw [Array.getElem?_append_left (by show 2<9;omega)];rfl
theorem PP.zp(p:PP):p.cells[3]? =some (.int .i64 p.fin):=by unfold PP.cells;rw [Array.getElem?_append_left (by show 3<9;omega)];rfl
theorem PP.vI(p:PP):p.cells[4]? =some (.int .i64 p.yE):=by unfold PP.cells;rw [Array.getElem?_append_left (by show 4<9;omega)];rfl
theorem PP.LC(p:PP):p.cells[5]? =some (.int .i64 p.H6):=by unfold PP.cells;rw [Array.getElem?_append_left (by show 5<9;omega)];rfl
theorem PP.QV(p:PP):p.cells[6]? =some (.int .u64 p.sub):=by unfold PP.cells;rw [Array.getElem?_append_left (by show 6<9;omega)];rfl
theorem PP.LB(p:PP):p.cells[7]? =some (.int .i64 p.H4):=by unfold PP.cells;rw [Array.getElem?_append_left (by show 7<9;omega)];rfl
theorem PP.LA(p:PP):p.cells[8]? =some (.int .i64 p.wI):=by unfold PP.cells;rw [Array.getElem?_append_left (by show 8<9;omega)];rfl
theorem PP.one(p:PP):∀v∈p.cells.toList,v.oneCell'=true:=by
 intro v hv;unfold PP.cells at hv;rw [Array.toList_append,List.mem_append]at hv;rcases hv with hv|hv
 ·simp only [List.mem_cons,List.not_mem_nil,or_false]at hv
  rcases hv with rfl|rfl|rfl|rfl|rfl|rfl|rfl|rfl|rfl<;>rfl
 ·exact p.gen.2.one v hv
def PP.Dn(p:PP):List (Int×Int×Int):= [(p.K,0,100),(p.mp,1,20),(p.mm,1,1000),(p.fin,0,2147483647),(p.yE,0,2147483647),(p.H6,0,2147483647),(p.H4,0,100000),(p.wI,0,100000)]
section
variable{w w':World}{K:Value->World->Prop}{p:PP}
theorem rr(p:PP)(hK:∀w',Kept Nil w w'->K (.bool (decide p.ok)) w'):bm prog fN.id #[.agg p.cells] w K:=by
 refine fN.of ?_;unfold fN.W;intro w1;have k1:Kept Nil w w1:=(Kept.refl _ _).alloc _;have hb:w1.heap[w.heap.size]? =some (.cells p.cells dz (0,0)):=aR w _;clear_value w1;have rd:∀(j:Nat) (v:Value),j<41->p.cells[j]? =some v->w1.cell? ((aU w.heap.size).add j)=some v:=fun j v _ h=>by rw [bu,aD hb,Nat.zero_add];exact h
 have hk:=hK w1 k1;have no:¬p.ok->K (.bool false) w1:=fun e=>by rw [decide_eq_false e]at hk;exact hk
 have yes:p.ok->K (.bool true) w1:=fun e=>by rw [decide_eq_true e]at hk;exact hk
 refine⟨_,rd 0 _ (by decide) p.LD,Split.dec (fun h0=>no (fun e=>by unfold PP.ok at e;omega)) (fun h0=>?_)⟩;refine⟨_,rd 0 _ (by decide) p.LD,Split.dec (fun h1=>no (fun e=>by unfold PP.ok at e;omega)) (fun h1=>?_)⟩;refine⟨_,rd 1 _ (by decide) p.HC,Split.dec (fun h2=>no (fun e=>by unfold PP.ok at e;omega)) (fun h2=>?_)⟩;refine⟨_,rd 1 _ (by decide) p.HC,Split.dec (fun h3=>no (fun e=>by unfold PP.ok at e;omega)) (fun h3=>?_)⟩;refine⟨_,rd 2 _ (by decide) p.Cx,Split.dec (fun h4=>no (fun e=>by unfold PP.ok at e;omega)) (fun h4=>?_)⟩;refine⟨_,rd 2 _ (by decide) p.Cx,Split.dec (fun h5=>no (fun e=>by unfold PP.ok at e;omega)) (fun h5=>?_)⟩;refine⟨_,rd 3 _ (by decide) p.zp,Split.dec (fun h6=>no (fun e=>by unfold PP.ok at e;omega)) (fun h6=>?_)⟩;refine⟨_,rd 3 _ (by decide) p.zp,Split.dec (fun h7=>no (fun e=>by unfold PP.ok at e;omega)) (fun h7=>?_)⟩;refine⟨_,rd 4 _ (by decide) p.vI,Split.dec (fun h8=>no (fun e=>by unfold PP.ok at e;omega)) (fun h8=>?_)⟩;refine⟨_,rd 4 _ (by decide) p.vI,Split.dec (fun h9=>no (fun e=>by unfold PP.ok at e;omega)) (fun h9=>?_)⟩;refine⟨_,rd 5 _ (by decide) p.LC,Split.dec (fun rQ=>no (fun e=>by unfold PP.ok at e;omega)) (fun rQ=>?_)⟩;refine⟨_,rd 5 _ (by decide) p.LC,Split.dec (fun FY=>no (fun e=>by unfold PP.ok at e;omega)) (fun FY=>?_)⟩;refine⟨_,rd 6 _ (by decide) p.QV,Split.dec (fun C6=>no (fun e=>by unfold PP.ok at e;omega)) (fun C6=>?_)⟩;refine⟨_,rd 7 _ (by decide) p.LB,Split.dec (fun yf=>no (fun e=>by unfold PP.ok at e;omega)) (fun yf=>?_)⟩;refine⟨_,rd 7 _ (by decide) p.LB,Split.dec (fun Sh=>no (fun e=>by unfold PP.ok at e;omega)) (fun Sh=>?_)⟩
 refine⟨_,rd 8 _ (by decide) p.LA,Split.dec (fun Cs=>no (fun e=>by unfold PP.ok at e;omega)) (fun Cs=>?_)⟩;refine⟨_,rd 8 _ (by decide) p.LA,Split.dec (fun h16=>no (fun e=>by unfold PP.ok at e;omega)) (fun h16=>?_)⟩;refine⟨_,rd 4 _ (by decide) p.vI,?_⟩;by_cases FW:p.yE=0
 ·exact Split.yes (by simp [FW]) (yes (by unfold PP.ok;omega))
 refine Split.no (by simp [FW]) ⟨_,rd 3 _ (by decide) p.zp,Split.dec (fun Ly=>?_) (fun Ly=>no (fun e=>by unfold PP.ok at e;omega))⟩;refine⟨_,rd 4 _ (by decide) p.vI,_,rd 3 _ (by decide) p.zp,Split.dec (fun QQ=>?_) (fun QQ=>no (fun e=>by unfold PP.ok at e;omega))⟩;refine⟨_,rd 4 _ (by decide) p.vI,_,rd 2 _ (by decide) p.Cx,?_⟩;by_cases QP:p.yE>p.mm
 ·rw [decide_eq_true QP];exact yes (by unfold PP.ok;omega)
 ·rw [decide_eq_false QP];exact no (fun e=>by unfold PP.ok at e;omega)
set_option maxHeartbeats 1000000 in
theorem jV(p:PP)(hK:∀w',Kept Nil w w'->K (.bool (decide p.ok)) w'):bm prog bz.id #[.agg p.cells] w K:=by
 refine bz.of ?_;unfold bz.W;intro w1;have k1:Kept Nil w w1:=(Kept.refl _ _).alloc _;have hb:w1.heap[w.heap.size]? =some (.cells p.cells dz (0,0)):=aR w _;clear_value w1;have rd:∀(j:Nat) (v:Value),p.cells[j]? =some v->w1.cell? ((aU w.heap.size).add j)=some v:=fun j v h=>by rw [bu,aD hb,Nat.zero_add];exact h
 refine⟨_,rd 0 _ p.LD,_,rd 1 _ p.HC,_,rd 2 _ p.Cx,_,rd 3 _ p.zp,_,rd 4 _ p.vI,_,rd 5 _ p.LC,_,rd 7 _ p.LB,_,rd 8 _ p.LA,rfl,rfl,rfl,rfl,rfl,rfl,rfl,rfl,?_⟩;intro w2;have k2:Kept Nil w1 w2:=(Kept.refl _ _).alloc _;have ht:∃C:Array Value,∃ty:TypeId,w2.heap[w1.heap.size]? =some (.cells C ty (0,0))/\∀i:Nat,i<8->∃t,p.Dn[i]? =some t/\C[i*3]? =some (.int .i64 t.1)/\C[i*3+1]? =some (.int .i64 t.2.1)/\C[i*3+2]? =some (.int .i64 t.2.2):=by
  refine⟨_,_,aR w1 _,fun i hi=>?_⟩
  match i,hi with
  |0,_=>exact⟨_,rfl,rfl,rfl,rfl⟩
  |1,_=>exact⟨_,rfl,rfl,rfl,rfl⟩
  |2,_=>exact⟨_,rfl,rfl,rfl,rfl⟩
  |3,_=>exact⟨_,rfl,rfl,rfl,rfl⟩
  |4,_=>exact⟨_,rfl,rfl,rfl,rfl⟩
  |5,_=>exact⟨_,rfl,rfl,rfl,rfl⟩
  |6,_=>exact⟨_,rfl,rfl,rfl,rfl⟩
  |7,_=>exact⟨_,rfl,rfl,rfl,rfl⟩
 clear_value w2;obtain⟨C,ty,hC,fp⟩:=ht;have oE:=k1.tt k2;have oz:=k2.heap hb (fun h=>h);have no:∀ {u:World},Kept Nil w u->¬p.ok->K (.bool false) u:=fun ku e=>by have:=hK _ ku;rw [decide_eq_false e]at this;exact this
 refine bz.cf (I:=fun s v=>∃i:Nat,s=(false,(i:Int))/\i<=8/\Kept Nil w2 v/\∀t∈p.Dn.take i,t.2.1<=t.1/\t.1<=t.2.2) (μ:=fun s _=>(8-s.2).toNat) (s:=(false,0)) ⟨0,rfl,by omega,Kept.refl _ _,by simp⟩ ?_;rintro s v ⟨i,rfl,hi,kv,cO⟩;have vu:=oE.tt kv;unfold bz.B1;refine Split.dec (fun cJ=>?_) (fun iK=>?_)
 ·simp only at cJ
  have fc:i<8:=by omega
  obtain⟨t,FJ,c0,c1,c2⟩:=fp i fc;have Ow:=List.mem_of_getElem? FJ;have hCv:=kv.heap hC (fun h=>h);simp-zeta only [Int.toNat_natCast];refine⟨⟨by omega,by omega⟩,Is.mk rfl ⟨#[.int .i64 t.1,.int .i64 t.2.1,.int .i64 t.2.2],⟨rfl,fun j u hj=>?_⟩,?_⟩⟩
  ·rw [bu,bu,aD hCv,Nat.zero_add]
   match j,hj with
   |0,hj=>cases hj;exact c0
   |1,hj=>cases hj;exact c1
   |2,hj=>cases hj;exact c2
   |j+3,hj=>simp at hj
  intro w3;obtain⟨ry,jw,jg⟩:=gg (w:=v) (z:=(#[.int .i64 0,.int .i64 0,.int .i64 0]:Array Value)) (cs:= #[.int .i64 t.1,.int .i64 t.2.1,.int .i64 t.2.2]) (t:=tL) rfl;refine⟨⟨rfl,by intro y hy;simp at hy;rcases hy with rfl|rfl|rfl<;>rfl,fun j hj=>ry j hj⟩,?_⟩;intro w4
  replace jw:w4.heap[v.heap.size]? =some (.cells #[.int .i64 t.1,.int .i64 t.2.1,.int .i64 t.2.2] tL (0,0)):=jw
  replace jg:Kept Nil v w4:=jg
  clear_value w4;have ln:=vu.tt jg;have Ru:∀(j:Nat) (z:Value),(#[.int .i64 t.1,.int .i64 t.2.1,.int .i64 t.2.2]:Array Value)[j]? =some z->w4.cell? ((aU v.heap.size).add j)=some z:=fun j z h=>by rw [bu,aD jw,Nat.zero_add];exact h
  have bad:¬(t.2.1<=t.1/\t.1<=t.2.2)->¬p.ok:=fun e h=>by
   unfold PP.ok at h;unfold PP.Dn at Ow;simp only [List.mem_cons,List.not_mem_nil,or_false]at Ow;rcases Ow with rfl|rfl|rfl|rfl|rfl|rfl|rfl|rfl<;>(simp only at e;omega)
  refine⟨⟨by omega,by omega⟩,t.1,Ru 0 _ rfl,⟨by omega,by omega⟩,t.2.1,Ru 1 _ rfl,Split.dec (fun h1=>no ln (bad (by omega))) (fun h1=>?_)⟩;refine⟨⟨by omega,by omega⟩,t.1,Ru 0 _ rfl,⟨by omega,by omega⟩,t.2.2,Ru 2 _ rfl,Split.dec (fun h2=>no ln (bad (by omega))) (fun h2=>?_)⟩;rw [eJ (n:=(i:Int)) (by omega) (by omega)];refine⟨(false,(i:Int)+1),rfl,⟨i+1,rfl,fc,kv.tt jg,fun t' KA=>?_⟩,by simp only;omega⟩;rw [List.take_add_one,FJ,List.mem_append]at KA;rcases KA with KA|KA
  ·exact cO t' KA
  ·simp at KA
   subst KA;omega
 ·simp only at iK
  rw [aX,bz.dA];unfold bz.cW;have e8:i=8:=by omega
  subst e8;have EN:=kv.heap oz (fun h=>h);have rdv:∀(j:Nat) (z:Value),p.cells[j]? =some z->v.cell? ((aU w.heap.size).add j)=some z:=fun j z h=>by rw [bu,aD EN,Nat.zero_add];exact h
  have hk:=hK v vu;have yes:p.ok->K (.bool true) v:=fun e=>by rw [decide_eq_true e]at hk;exact hk
  have hT:(0<=p.K/\p.K<=100)/\(1<=p.mp/\p.mp<=20)/\(1<=p.mm/\p.mm<=1000)/\(0<=p.fin/\p.fin<=2147483647)/\(0<=p.yE/\p.yE<=2147483647)/\(0<=p.H6/\p.H6<=2147483647)/\(0<=p.H4/\p.H4<=100000)/\(0<=p.wI/\p.wI<=100000):=
   ⟨cO (p.K,0,100) (by simp [PP.Dn]),cO (p.mp,1,20) (by simp [PP.Dn]),cO (p.mm,1,1000) (by simp [PP.Dn]),cO (p.fin,0,2147483647) (by simp [PP.Dn]),cO (p.yE,0,2147483647) (by simp [PP.Dn]),cO (p.H6,0,2147483647) (by simp [PP.Dn]),cO (p.H4,0,100000) (by simp [PP.Dn]),cO (p.wI,0,100000) (by simp [PP.Dn])⟩
  refine⟨_,rdv 6 _ p.QV,Split.dec (fun h6=>?_) (fun h6=>no vu (fun e=>by unfold PP.ok at e;omega))⟩;refine⟨_,rdv 4 _ p.vI,?_⟩;by_cases FW:p.yE=0
  ·exact Split.yes (by simp [FW]) (yes (by unfold PP.ok;omega))
  refine Split.no (by simp [FW]) ⟨_,rdv 3 _ p.zp,Split.dec (fun Ly=>?_) (fun Ly=>no vu (fun e=>by unfold PP.ok at e;omega))⟩;refine⟨_,rdv 4 _ p.vI,_,rdv 3 _ p.zp,Split.dec (fun QQ=>?_) (fun QQ=>no vu (fun e=>by unfold PP.ok at e;omega))⟩;refine⟨_,rdv 4 _ p.vI,_,rdv 2 _ p.Cx,?_⟩;by_cases QP:p.yE>p.mm
  ·rw [decide_eq_true QP];exact yes (by unfold PP.ok;omega)
  ·rw [decide_eq_false QP];exact no vu (fun e=>by unfold PP.ok at e;omega)
end
theorem xO{P:Program}{g:FuncId}{first fh:Array Value}{args:List Value}{fn:Func}{w:World}{k:Value->World->Prop}{vs:Array Value}(hf:P.funcs[g]? =some fn)(hb:fn.body.isSome=true)(hv:(first.toList++args++fh.toList).toArray=vs):
 jP P (.func (.func g) first fh) args w k=bm P g vs w fun v w'=>LQ P fn.resultTypes.toList v fun v=>k v w':=by
 subst hv;unfold jP;simp only [hf];cases hc:fn.body with
 |none=>rw [hc]at hb;cases hb
 |some c=>simp only [hc]
theorem iF{P:Program}{g:FuncId}{first fh:Array Value}{args:List Value}{fn:Func}{w:World}{k:Value->World->Prop}{vs:Array Value}{t:TypeId}(hf:P.funcs[g]? =some fn)(hb:fn.body.isSome=true)(hv:(first.toList++args++fh.toList).toArray=vs)
 (ht:fn.resultTypes.toList= [t]) (hk:lE P t=.int .i64):jP P (.func (.func g) first fh) args w k=bm P g vs w fun v w'=>∃e:Int,v=.int .i64 e/\k (.int .i64 e) w':=by
 rw [xO hf hb hv,ht];simp only [LQ,hk,Any]
section
variable{w w' v:World}{K:Value->World->Prop}{n cx n' cx' hb gb ob cb pb:Nat}{A A':Option Addr}{l l':List HT}{F:Nat->Prop}{c k:Nat}{G:GS}{m:CM}{hd:Array Value}{p:PP}
theorem zu(hl:HS w A n l)(Pu:HS w A' n' l')(hn:n<=1000000)(hK:∀w',Kept Nil w w'->K (.bool (decide (l=l'))) w'):
 bm prog aH.id #[.slice A n cx,.slice A' n' cx'] w K:=by
 have hlen:=hl.len;have EC:=Pu.len;refine aH.of ?_;unfold aH.W;by_cases e:n=n'
 ·subst e
  refine Split.no (by simp) ?_;refine aH.cf (I:=fun s v=>∃i:Nat,s=(false,(i:Int))/\i<=n/\Kept Nil w v/\∀t,t<i->l[t]? =l'[t]?) (μ:=fun s _=>((n:Int)-s.2).toNat) (s:=(false,0)) ⟨0,rfl,Nat.zero_le _,Kept.refl _ _,fun t ht=>by omega⟩ ?_;rintro s v ⟨i,rfl,hi,kv,cO⟩;unfold aH.B1;refine Split.dec (fun cJ=>?_) (fun iK=>?_)
  ·simp only at cJ
   have fc:i<n:=by omega
   obtain⟨x,hx⟩:∃x,l[i]? =some x:=⟨_,List.getElem?_eq_getElem (by omega)⟩;obtain⟨y,hy⟩:∃y,l'[i]? =some y:=⟨_,List.getElem?_eq_getElem (by omega)⟩;intro w3;have k3:Kept Nil v w3:=(Kept.refl _ _).drew;clear_value w3;have kl:=kv.tt k3;refine HS.load (hl.same kl) (i:=(i:Int)) (x:=x) (by omega) (by rw [Int.toNat_natCast];exact hx) ?_;refine HS.load (Pu.same kl) (i:=(i:Int)) (x:=y) (by omega) (by rw [Int.toNat_natCast];exact hy) ⟨⟨x.2.ints,y.2.ints⟩,?_⟩;rw [gA];by_cases l9:x=y
   ·refine Split.no (by rw [decide_eq_true l9];rfl) ?_
    simp only;rw [eJ (n:=(i:Int)) (by omega) (by omega)];refine⟨(false,(i:Int)+1),rfl,⟨i+1,rfl,fc,kl,fun t ht=>?_⟩,by simp only;omega⟩;by_cases FJ:t=i
    ·subst FJ
     rw [hx,hy,l9]
    ·exact cO t (by omega)
   ·refine Split.yes (by rw [decide_eq_false l9];rfl) ?_
    have fH:l≠l':=fun e=>by
     subst e;rw [hx]at hy;exact l9 (Option.some.inj hy)
    have:=hK w3 kl;rw [decide_eq_false fH]at this;exact this
  ·simp only at iK
   rw [aX,aH.dA];have el:l=l':=List.ext_getElem? fun t=>by
    by_cases ht:t<i
    ·exact cO t ht
    ·rw [List.getElem?_eq_none (by omega),List.getElem?_eq_none (by omega)]
   have:=hK v kv;rw [decide_eq_true el]at this;exact this
 ·refine Split.yes (by simpa using (fun h:(n:Int)=(n':Int)=>e (by omega))) ?_
  have fH:l≠l':=fun h=>e (by rw [<-hlen,<-EC,h]);have:=hK w (Kept.refl _ _);rw [decide_eq_false fH]at this;exact this
theorem Hq(CZ:w.heap[pb]? =some (.cells p.cells dz (0,0)))(hK:∀w',Kept Nil w w'->K (.int .i64 (if ¬p.ok then 2 else 0)) w'):
 bm prog bW.id #[.pointer (some ⟨pb,0,none⟩)] w K:=by
 refine bW.of ?_;refine⟨p.cells,⟨p.size,Cells.bS CZ⟩,jV p fun w1 k1=>⟨_,rfl,?_⟩⟩;have:=hK w1 k1;by_cases h:p.ok
 ·rw [if_neg (fun e=>e h)]at this
  exact Split.no (by rw [decide_eq_true h];rfl) this
 ·rw [if_pos h]at this
  exact Split.yes (by rw [decide_eq_false h];rfl) this
theorem nP(AN:w.heap[hb]? =some (.cells hd iH (0,0)))(h0:hd[0]? =some (.slice A n cx)):w.cell? ((⟨hb,0,none⟩:Addr).add 0)=some (.slice A n cx):=by
 rw [add_zero,aD AN];exact h0
theorem Hp(AN:w.heap[hb]? =some (.cells hd iH (0,0)))(h0:hd[0]? =some (.slice A n cx))(hl:HS w A n l)(hn:n<=100000)(CZ:w.heap[pb]? =some (.cells p.cells dz (0,0)))
 (hK:∀w' e,Kept Nil w w'->(((l.length<1\/p.mp<(l.length:Int))\/dg l≠l)/\e=9\/¬((l.length<1\/p.mp<(l.length:Int))\/dg l≠l)/\e=0)->K (.int .i64 e) w'):
 bm prog bU.id #[.pointer (some ⟨hb,0,none⟩),.pointer (some ⟨pb,0,none⟩)] w K:=by
 have hlen:=hl.len;refine bU.of ?_;unfold bU.W;refine⟨A,n,cx,nP AN h0,?_⟩;intro w1;have k1:Kept Nil w w1:=(Kept.refl _ _).drew;clear_value w1;have rd:w1.cell? ((⟨pb,0,none⟩:Addr).add 1)=some (.int .i64 p.mp):=by rw [bu,aD (k1.heap CZ (fun h=>h))];exact p.HC
 have OT:=nP (k1.heap AN (fun h=>h)) h0;refine Split.dec (fun h1=>hK w1 9 k1 (.inl ⟨.inl (.inl (by omega)),rfl⟩)) (fun h1=>⟨_,rd,Split.dec (fun h2=>hK w1 9 k1 (.inl ⟨.inl (.inr (by omega)),rfl⟩)) (fun h2=>⟨A,n,cx,OT,A,n,cx,OT,?_⟩)⟩);refine fW (hl.same k1) (by omega) fun A2 c2 w2 r9 k2=>⟨A2,_,c2,rfl,nP ((k1.tt k2).heap AN (fun h=>h)) h0,?_⟩;have oE:=k1.tt k2;have FK:=nZ l;refine zu (cr.hs r9) (hl.same oE) (by omega) fun w3 k3=>⟨_,rfl,?_⟩;have kl:=oE.tt k3;by_cases hs:dg l=l
 ·refine Split.no (by rw [decide_eq_true hs];rfl) (hK w3 0 kl (.inr ⟨fun e=>?_,rfl⟩))
  rcases e with(e|e)|e
  ·omega
  ·omega
  ·exact e hs
 ·exact Split.yes (by rw [decide_eq_false hs];rfl) (hK w3 9 kl (.inl ⟨.inr hs,rfl⟩))
theorem yJ{D:DG}{i:Nat}{x:HT}(hx:l[i]? =some x):eN D (l.take (i+1))=eN D (l.take i)++if x∈ids D then []else [x]:=by
 unfold eN;rw [List.take_add_one,hx,List.filter_append]
 congr 1
 by_cases h:x∈ids D
 ·simp [h]
 ·simp [h]
theorem DR(D:DG)(l:List HT):(eN D l).length<=l.length:=List.length_filter_le _ _
set_option maxHeartbeats 1000000 in
theorem Ho{mx:XM}{P:List Int}{x:Nat}{FX:Nat->Prop}(X:XV w FX x G.D P mx)(C:CV w F c k G m)(hCX:m.x=x)(AN:w.heap[hb]? =some (.cells hd iH (0,0)))(h0:hd[0]? =some (.slice A n cx))(hl:HS w A n l)(hn:n<=100000)
 (PM:w.heap[gb]? =some (.cells #[.pointer (some ⟨mx.g,0,none⟩)] fY (0,0))) (x9:w.heap[ob]? =some (.cells #[.slice none 0 0] aV (0,0))) (fH:gb≠ob) (hhn:hb≠ob) (WD:∀a,A=some a->a.block≠ob) (hX:∀u,Kept (· =ob) w u->XV u FX x G.D P mx)
 (rO:eN G.D l= []->∀w',Kept Nil w w'->K (.int .i64 0) w')
 (Ek:eN G.D l≠ []->∀w' A' c',w'.heap[ob]? =some (.cells #[.slice A' (eN G.D l).length c'] aV (0,0))->cr w' w.heap.size A' (eN G.D l).length c' (eN G.D l)->Kept (· =ob) w w'->K (.int .i64 15) w'):
 bm prog aN.id #[.pointer (some ⟨hb,0,none⟩),.pointer (some ⟨gb,0,none⟩),.pointer (some ⟨ob,0,none⟩)] w K:=by
 have hlen:=hl.len;have lob:=aZ x9;refine aN.of ?_;unfold aN.W;refine⟨A,n,cx,nP AN h0,?_⟩;refine aN.cf (I:=fun s v=>∃(i:Nat) (A':Option Addr) (c':Nat),s=(i:Int)/\i<=n/\v.heap[ob]? =some (.cells #[.slice A' (eN G.D (l.take i)).length c'] aV (0,0))/\cr v w.heap.size A' (eN G.D (l.take i)).length c' (eN G.D (l.take i))/\Kept (· =ob) w v/\(eN G.D (l.take i)= []->Kept Nil w v)) (μ:=fun s _=>((n:Int)-s).toNat) (s:=0) ⟨0,none,0,rfl,Nat.zero_le _,x9,cr.nil _ _,Kept.refl _ _,fun _=>Kept.refl _ _⟩ ?_;rintro s v ⟨i,A',c',rfl,hi,IE,row,kv,Ci⟩;unfold aN.B1;refine Split.dec (fun cJ=>?_) (fun iK=>?_)
 ·have fc:i<n:=by omega
  obtain⟨y,hy⟩:∃y,l[i]? =some y:=⟨_,List.getElem?_eq_getElem (by omega)⟩;have o4:HS v A n l:=hl.aK kv (fun a ha e=>WD a ha e);refine HS.load o4 (i:=(i:Int)) (x:=y) (by omega) (by rw [Int.toNat_natCast];exact hy) ?_;intro w3;obtain⟨t1,t2,t3⟩:=sQ v y;refine⟨t1,?_⟩;intro w4
  replace t2:w4.heap[v.heap.size]? =some (.cells y.1 ax (0,0)):=t2
  replace t3:Kept Nil v w4:=t3
  clear_value w4;have ln:Kept (· =ob) w w4:=kv.trans t3 (fun _ _ h=>h.elim);refine⟨_,by rw [aD (ln.heap PM fH)];rfl,y.1,⟨y.2.1,Cells.bS t2⟩,?_⟩;obtain⟨bl,cc,mb,M,GG⟩:=(hX w4 ln).G;refine pW GG y fun w5 k5=>⟨_,rfl,?_⟩;have FC:=t3.tt k5;have pg:Kept (· =ob) w w5:=ln.trans k5 (fun _ _ h=>h.elim);have KL:=FC.heap IE (fun h=>h);have qo:cr w5 w.heap.size A' (eN G.D (l.take i)).length c' (eN G.D (l.take i)):=Row.aK row FC (fun _ _ h=>h);have ow:=yJ (D:=G.D) hy;by_cases hm:y∈ids G.D
  ·rw [if_pos hm,List.append_nil]at ow
   refine Split.no (by rw [decide_eq_true hm];rfl) ?_;rw [eJ (n:=(i:Int)) (by omega) (by omega)];exact⟨(i:Int)+1,rfl,⟨i+1,A',c',rfl,fc,by rw [ow];exact KL,by rw [ow];exact qo,pg,fun e=>by rw [ow]at e;exact(Ci e).tt FC⟩,by simp only;omega⟩
  ·rw [if_neg hm]at ow
   refine Split.yes (by rw [decide_eq_false hm];rfl) ⟨_,_,_,by rw [aD KL];rfl,y.1,⟨y.2.1,Cells.bS (k5.heap t2 (fun h=>h))⟩,y.2.1,?_⟩;intro w6;have k6:Kept Nil w5 w6:=(Kept.refl _ _).alloc _;have pQ:HS w6 (some ⟨w5.heap.size,0,none⟩) 1 [y]:=lr w5 y;clear_value w6;have BL:cr w6 w.heap.size A' (eN G.D (l.take i)).length c' (eN G.D (l.take i)):=Row.aK qo k6 (fun _ _ h=>h);have s6:=(pg.trans k6 (fun _ _ h=>h.elim)).size;have FO:=DR G.D (l.take i);rw [List.length_take]at FO;obtain⟨A7,c7,w7,Ix,yz,g7,hA7⟩:=gw aV BL (cx:=1) pQ (by omega) s6;have k7:Kept (fun j=>bp A'=some j) w6 w7:=Kept.grown (Kept.refl _ _) g7 fun j hj _=>hj;have nob:bp A'≠some ob:=fun e=>by have:=(Row.bS BL e).1;omega
   have OW:=k7.heap (k6.heap KL (fun h=>h)) nob;refine⟨A7,_,c7,w7,Ix,dK OW (by simp),?_⟩;intro w8;have UJ:w8.heap[ob]? =some (.cells #[.slice A7 ((eN G.D (l.take i)).length+1) c7] aV (0,0)):=cX OW 0 _;have k8:Kept (· =ob) w7 w8:=Kept.setCell (S:=fun j=>j=ob) (Kept.refl _ w7) (p:=⟨ob,0,none⟩) (fun _=>rfl) _;clear_value w8;rw [eJ (n:=(i:Int)) (by omega) (by omega)];have el:(eN G.D (l.take (i+1))).length=(eN G.D (l.take i)).length+1:=by rw [ow,List.length_append];rfl
   refine⟨(i:Int)+1,rfl,⟨i+1,A7,c7,rfl,fc,by rw [el];exact UJ,?_,?_,fun e=>?_⟩,by simp only;omega⟩
   ·rw [el,ow]
    exact Row.aK yz k8 (fun j hj e=>by have:=(Row.bS yz hj).1;omega)
   ·exact((pg.trans k6 (fun _ _ h=>h.elim)).trans k7 (fun j hj e=>by have:=(Row.bS BL e).1;omega)).tt k8
   ·rw [ow]at e
    simp at e
 ·rw [aX,aN.dA]
  unfold aN.cW;rw [List.take_of_length_le (by omega)]at IE row Ci;refine⟨_,_,_,by rw [aD IE];rfl,?_⟩;by_cases he:eN G.D l= []
  ·rw [he]
   exact Split.no rfl (rO he v (Ci he))
  ·have:=List.length_pos_iff.2 he
   exact Split.yes (decide_eq_true (by omega)) (Ek he v A' c' IE row kv)
theorem EG{x y:HT}{xb:Nat}(C:CV w F c k G m)(hD:G.D.length<=5000)(AQ:w.heap[cb]? =some (.cells #[.pointer (some ⟨c,0,none⟩)] cK (0,0)))(TQ:w.heap[xb]? =some (.cells x.1 ax (0,0)))
 (hK:∀w' (r:Bool),(r=true↔fD G.D x y)->Kept Nil w w'->K (.bool r) w'):
 bm prog cD.id #[.agg y.1,.pointer (some ⟨cb,0,none⟩),.pointer (some ⟨xb,0,none⟩)] w K:=by
 refine cD.of ?_;unfold cD.W;intro w1 w2;have k1:Kept Nil w w1:=(Kept.refl _ _).alloc _;have hy1:w1.heap[w.heap.size]? =some (.cells y.1 ax (0,0)):=aR w _;have k2:Kept Nil w1 w2:=(Kept.refl _ _).drew;clear_value w2;have Om:=k2.heap hy1 (fun h=>h);have oE:=k1.tt k2;clear_value w1;have C2:=C.same oE;have Yw:=oE.heap TQ (fun h=>h);refine⟨_,by rw [aD (oE.heap AQ (fun h=>h))];rfl,x.1,⟨x.2.1,Cells.bS Yw⟩,y.1,⟨y.2.1,Cells.bS Om⟩,?_⟩;refine qX C2 ⟨_,rfl,⟨_,rfl,y.2.1,Cells.bS Om⟩,⟨_,rfl,x.2.1,Cells.bS Yw⟩,?_⟩;obtain⟨mx,X,_⟩:=C2.X;exact jr X hD x y fun w3 r hr k3=>⟨r,rfl,hK w3 r hr (oE.tt k3)⟩
theorem Cm{x:HT}{xb:Nat}(C:CV w F c k G m)(hD:G.D.length<=5000)(AQ:w.heap[cb]? =some (.cells #[.pointer (some ⟨c,0,none⟩)] cK (0,0)))(TQ:w.heap[xb]? =some (.cells x.1 ax (0,0)))(hl:HS w A n l)(hn:n<=100000)
 (hK:∀w' (i:Int),(i>=0↔∃y∈l,fD G.D x y)->Kept Nil w w'->K (.int .i64 i) w'):
 bm prog jU.id #[.slice A n cx,.func (.func cD.id) #[] #[.pointer (some ⟨cb,0,none⟩),.pointer (some ⟨xb,0,none⟩)]] w K:=by
 have hlen:=hl.len;refine ai.of ?_;unfold ai.W;refine ai.cf (I:=fun s v=>∃i:Nat,s=(0,(i:Int))/\i<=n/\Kept Nil w v/\∀y∈l.take i,¬fD G.D x y) (μ:=fun s _=>((n:Int)-s.2).toNat) (s:=(0,0)) ⟨0,rfl,Nat.zero_le _,Kept.refl _ _,by simp⟩ ?_;rintro s v ⟨i,rfl,hi,kv,cO⟩;unfold ai.B1;refine Split.dec (fun cJ=>?_) (fun iK=>?_)
 ·simp only at cJ
  have fc:i<n:=by omega
  obtain⟨y,hy⟩:∃y,l[i]? =some y:=⟨_,List.getElem?_eq_getElem (by omega)⟩;refine HS.load (hl.same kv) (i:=(i:Int)) (x:=y) (by omega) (by rw [Int.toNat_natCast];exact hy) ?_;refine EG (C.same kv) hD (kv.heap AQ (fun h=>h)) (kv.heap TQ (fun h=>h)) fun w3 r hr k3=>⟨r,rfl,?_⟩;have kl:=kv.tt k3;cases r with
  |true=>exact Split.yes rfl (hK w3 (i:Int) ⟨fun _=>⟨y,List.mem_of_getElem? hy,hr.1 rfl⟩,fun _=>by omega⟩ kl)
  |false=>
   refine Split.no rfl ?_;simp only;rw [eJ (n:=(i:Int)) (by omega) (by omega)];refine⟨(0,(i:Int)+1),rfl,⟨i+1,rfl,fc,kl,fun z hz e=>?_⟩,by simp only;omega⟩;rcases(bJ hy).1 hz with hz|rfl
   ·exact cO z hz e
   ·have:=hr.2 e
    cases this
 ·simp only at iK
  rw [aX,ai.dA];rw [List.take_of_length_le (by omega)]at cO;exact hK v (-1) ⟨fun e=>by omega,fun⟨y,hy,e⟩=>absurd e (cO y hy)⟩ kv
theorem Hn(C:CV w F c k G m)(hD:G.D.length<=5000)(AN:w.heap[hb]? =some (.cells hd iH (0,0)))(h0:hd[0]? =some (.slice A n cx))(hl:HS w A n l)(hn:n<=100000)(AQ:w.heap[cb]? =some (.cells #[.pointer (some ⟨c,0,none⟩)] cK (0,0)))
 (hK:∀w' e,Kept Nil w w'->(rm G.D l/\e=9\/¬rm G.D l/\e=0)->K (.int .i64 e) w'):
 bm prog aO.id #[.pointer (some ⟨hb,0,none⟩),.pointer (some ⟨cb,0,none⟩)] w K:=by
 have hlen:=hl.len;refine aO.of ?_;unfold aO.W;refine⟨A,n,cx,nP AN h0,?_⟩;refine aO.cf (I:=fun s v=>∃i:Nat,s=(0,(i:Int))/\i<=n/\Kept Nil w v/\∀a∈l.take i,∀b∈l,¬fD G.D a b) (μ:=fun s _=>((n:Int)-s.2).toNat) (s:=(0,0)) ⟨0,rfl,Nat.zero_le _,Kept.refl _ _,by simp⟩ ?_;rintro s v ⟨i,rfl,hi,kv,cO⟩;unfold aO.B1;refine Split.dec (fun cJ=>?_) (fun iK=>?_)
 ·simp only at cJ
  have fc:i<n:=by omega
  obtain⟨y,hy⟩:∃y,l[i]? =some y:=⟨_,List.getElem?_eq_getElem (by omega)⟩;refine HS.load (hl.same kv) (i:=(i:Int)) (x:=y) (by omega) (by rw [Int.toNat_natCast];exact hy) ?_;intro w3;obtain⟨t1,t2,t3⟩:=sQ v y;refine⟨t1,?_⟩;intro w4
  replace t2:w4.heap[v.heap.size]? =some (.cells y.1 ax (0,0)):=t2
  replace t3:Kept Nil v w4:=t3
  clear_value w4;have ln:=kv.tt t3;refine⟨A,n,cx,nP (ln.heap AN (fun h=>h)) h0,?_⟩;refine bD.of ?_;unfold bD.W;refine Cm (C.same ln) hD (ln.heap AQ (fun h=>h)) t2 (hl.same ln) hn fun w5 j hj k5=>⟨j,rfl,_,rfl,?_⟩;have pg:=ln.tt k5;by_cases RZ:j>=0
  ·obtain⟨b,hb,mJ⟩:=hj.1 RZ
   exact Split.yes (decide_eq_true RZ) (hK w5 9 pg (.inl ⟨⟨y,List.mem_of_getElem? hy,b,hb,mJ⟩,rfl⟩))
  ·refine Split.no (decide_eq_false RZ) ?_
   simp only;rw [eJ (n:=(i:Int)) (by omega) (by omega)];refine⟨(0,(i:Int)+1),rfl,⟨i+1,rfl,fc,pg,fun a ha b hb e=>?_⟩,by simp only;omega⟩;rcases(bJ hy).1 ha with ha|rfl
   ·exact cO a ha b hb e
   ·exact RZ (hj.2 ⟨b,hb,e⟩)
 ·simp only at iK
  rw [aX,aO.dA];rw [List.take_of_length_le (by omega)]at cO;exact hK v 0 kv (.inr ⟨fun⟨a,ha,b,hb,e⟩=>cO a ha b hb e,rfl⟩)
theorem Hm(C:CV w F c k G m)(hT:p7 w)(hD:G.D.length<=49)(rP:k<=1000)(AN:w.heap[hb]? =some (.cells hd iH (0,0)))(h0:hd[0]? =some (.slice A n cx))(hl:HS w A n l)(hn:n<=5000)(AQ:w.heap[cb]? =some (.cells #[.pointer (some ⟨c,0,none⟩)] cK (0,0)))
 (CZ:w.heap[pb]? =some (.cells p.cells dz (0,0))) (vC:l≠ []) (gK:∀x∈l,x∈ids G.D)
 (hK:∀w' e,Kept Nil w w'->(p.mm<((cg G (bG G l) l).length:Int)/\e=10\/¬p.mm<((cg G (bG G l) l).length:Int)/\e=0)->K (.int .i64 e) w'):
 bm prog bT.id #[.pointer (some ⟨cb,0,none⟩),.pointer (some ⟨hb,0,none⟩),.pointer (some ⟨pb,0,none⟩)] w K:=by
 have hlen:=hl.len;have m0:ki G.D l=0:=by
  unfold ki;rw [if_neg vC,if_neg (fun⟨x,hx,e⟩=>e (gK x hx))]
 have CT:bG G l∈ids G.D:=gK _ (iY vC);have m1:ki G.D (bG G l::l)=0:=by
  unfold ki;rw [if_neg (by simp),if_neg];rintro⟨x,hx,e⟩;rcases List.mem_cons.1 hx with rfl|hx
  ·exact e CT
  ·exact e (gK x hx)
 refine bT.of ?_;unfold bT.W;refine⟨_,by rw [aD AQ];rfl,A,n,cx,nP AN h0,?_⟩;refine pU C hl (by omega) fun w1 k1=>⟨_,_,rfl,?_⟩;rw [if_pos m0];intro w2;obtain⟨t1,t2,t3⟩:=sQ w1 (bG G l);refine⟨t1,?_⟩;intro w3
 replace t2:w3.heap[w1.heap.size]? =some (.cells (bG G l).1 ax (0,0)):=t2
 replace t3:Kept Nil w1 w3:=t3
 clear_value w3;have kl:=k1.tt t3;refine⟨_,by rw [aD (kl.heap AQ (fun h=>h))];rfl,_,⟨(bG G l).2.1,Cells.bS t2⟩,A,n,cx,nP (kl.heap AN (fun h=>h)) h0,?_⟩;refine zo (C.same kl) (hT.same kl) hD rP (hl.same kl) hn (fun e=>absurd m1 e) fun _ w4 A4 n4 c4 E4 e4 d4 mg4 _ k4 _=>⟨_,_,rfl,?_⟩;have ln:=kl.tt k4;intro w5;obtain⟨u1,u2,u3⟩:=HJ w4 (fM k G (bG G l) l) A4 n4 c4 E4 e4 d4;refine⟨u1,?_⟩;intro w6
 replace u2:w6.heap[w4.heap.size]? =some (.cells (dS (fM k G (bG G l) l) A4 n4 c4 E4 e4 d4) cB (0,0)):=u2
 replace u3:Kept Nil w4 w6:=u3
 clear_value w6;have qx:=ln.tt u3;have Y0:=mg4.len;have hme:(fM k G (bG G l) l).merge=cg G (bG G l) l:=rfl;rw [hme]at Y0;refine⟨A4,n4,c4,(zA u2).2.2.1,p.mm,by rw [bu,aD (qx.heap CZ (fun h=>h))];exact p.Cx,?_⟩;rw [<-Y0];exact Split.dec (fun h=>hK w6 10 qx (.inl ⟨by omega,rfl⟩)) (fun h=>hK w6 0 qx (.inr ⟨by omega,rfl⟩))
end
section
variable{w w' v:World}{K:Value->World->Prop}{n cx hb gb ob cb pb:Nat}{A:Option Addr}{l:List HT}{F:Nat->Prop}{c k:Nat}{G:GS}{m:CM}{hd:Array Value}{p:PP}
set_option maxHeartbeats 4000000 in
theorem mG(C:CV w F c k G m)(hT:p7 w)(hD:G.D.length<=49)(rP:k<=1000)(p:PP)(h0:hd[0]? =some (.slice A n cx))(hl:HS w A n l)(hn:n<=1000)
 (hK:∀w' A' n' c',HS w' A' n' (ig p G l).1->Kept Nil w w'->K (.tuple #[.slice A' n' c',.int .i64 (ig p G l).2]) w'):
 bm prog aF.id #[.agg p.cells,.pointer (some ⟨c,0,none⟩),.agg hd] w K:=by
 have hlen:=hl.len;refine aF.of ?_;unfold aF.W;intro w1 w2 w3 w4;have k1:Kept Nil w w1:=(Kept.refl _ _).alloc _;have OT:w1.heap[w.heap.size]? =some (.cells p.cells dz (0,0)):=aR w _;have k2:Kept Nil w1 w2:=(Kept.refl _ _).alloc _;have EJ:w2.heap[w1.heap.size]? =some (.cells #[.pointer (some ⟨c,0,none⟩)] cK (0,0)):=aR w1 _;have k3:Kept Nil w2 w3:=(Kept.refl _ _).alloc _;have Zk:w3.heap[w2.heap.size]? =some (.cells hd iH (0,0)):=aR w2 _;have k4:Kept Nil w3 w4:=(Kept.refl _ _).alloc _;have UO:w4.heap[w3.heap.size]? =some (.cells #[.slice none 0 0] aV (0,0)):=aR w3 _;clear_value w4;have PJ:=k4.heap Zk (fun h=>h);have IT:=(k3.tt k4).heap EJ (fun h=>h);have Mp:=((k2.tt k3).tt k4).heap OT (fun h=>h);have ln:=((k1.tt k2).tt k3).tt k4;have s1:=k1.size;have l1:=aZ OT;have l2:=aZ EJ;have l3:=aZ Zk;have l4:=aZ UO;generalize CZ:w.heap.size=pb at Mp l1 s1;generalize AQ:w1.heap.size=cb at IT l1 l2 s1;generalize AN:w2.heap.size=hb at PJ l2 l3;generalize x9:w3.heap.size=ob at UO l3 l4;clear_value w3;clear_value w2;clear_value w1;have C4:=C.same ln;refine⟨_,by rw [aD IT];rfl,qX C4 ⟨_,rfl,?_⟩⟩;obtain⟨mx,X4,PW⟩:=C4.X;refine eK.of (Split.no rfl (Is.mk rfl ⟨_,X4.c0,⟨_,rfl,?_⟩⟩));intro w5;have k5:Kept Nil w4 w5:=(Kept.refl _ _).alloc _;have PR:w5.heap[w4.heap.size]? =some (.cells #[.pointer none] fY (0,0)):=aR w4 _;clear_value w5;have l5:=aZ PR;refine⟨dK PR (by simp),?_⟩;intro w6 w7;have Zn:w6.heap[w4.heap.size]? =some (.cells #[.pointer (some ⟨mx.g,0,none⟩)] fY (0,0)):=cX PR 0 _;have k6:Kept (· =w4.heap.size) w5 w6:=Kept.setCell (S:=fun j=>j=w4.heap.size) (Kept.refl _ w5) (p:=⟨w4.heap.size,0,none⟩) (fun _=>rfl) _
 have k7:Kept Nil w6 w7:=(Kept.refl _ _).alloc _;have Ie:Kept Nil w4 w6:=k5.trans k6 (fun j hj e=>by omega);have s46:=Ie.size;generalize PM:w4.heap.size=gb at Zn;have R4:=aR w6 (.cells #[.func (.func b6.id) #[] #[.pointer (some ⟨gb,0,none⟩)],.func (.func bW.id) #[] #[.pointer (some ⟨pb,0,none⟩)],.func (.func bU.id) #[] #[.pointer (some ⟨hb,0,none⟩),.pointer (some ⟨pb,0,none⟩)],.func (.func aN.id) #[] #[.pointer (some ⟨hb,0,none⟩),.pointer (some ⟨gb,0,none⟩),.pointer (some ⟨ob,0,none⟩)],.func (.func aO.id) #[] #[.pointer (some ⟨hb,0,none⟩),.pointer (some ⟨cb,0,none⟩)],.func (.func bT.id) #[] #[.pointer (some ⟨cb,0,none⟩),.pointer (some ⟨hb,0,none⟩),.pointer (some ⟨pb,0,none⟩)]] 110);have e7:w7=w6.alloc (.cells #[.func (.func b6.id) #[] #[.pointer (some ⟨gb,0,none⟩)],.func (.func bW.id) #[] #[.pointer (some ⟨pb,0,none⟩)],.func (.func bU.id) #[] #[.pointer (some ⟨hb,0,none⟩),.pointer (some ⟨pb,0,none⟩)],.func (.func aN.id) #[] #[.pointer (some ⟨hb,0,none⟩),.pointer (some ⟨gb,0,none⟩),.pointer (some ⟨ob,0,none⟩)],.func (.func aO.id) #[] #[.pointer (some ⟨hb,0,none⟩),.pointer (some ⟨cb,0,none⟩)],.func (.func bT.id) #[] #[.pointer (some ⟨cb,0,none⟩),.pointer (some ⟨hb,0,none⟩),.pointer (some ⟨pb,0,none⟩)]] 110):=by
  subst PM;rfl
 rw [<-e7]at R4;clear_value w7;clear e7;have l7:=aZ R4;generalize FL:w6.heap.size=rb at R4 l7;have JU:=Ie.tt k7;have uU:=ln.tt JU;clear_value w6;have hp7:=JU.heap Mp (fun h=>h);have Jf:∀j,mx.jf m.x j\/m.FX j->j<pb:=fun j e=>by
  rw [<-CZ];rcases e with e|e
  ·exact C.low j (.inl (.inl (PW j e)))
  ·exact C.low j (.inr (C.fx j e))
 have hc7:=JU.heap IT (fun h=>h);have hh7:=JU.heap PJ (fun h=>h);have YV:=JU.heap UO (fun h=>h);have PO:=k7.heap Zn (fun h=>h);have C7:=C.same uU;have X7:=X4.same JU;have l7':=hl.same uU;have aaY:=C.low;have WD:∀a,A=some a->n≠0->a.block<w.heap.size:=fun a ha AG=>by
  obtain⟨y,hy⟩:∃y,l[0]? =some y:=⟨_,List.getElem?_eq_getElem (by omega)⟩;obtain⟨a',zi,h1,_⟩:=hl.at_ 0 y hy;rw [ha]at zi;cases zi;exact h1
 refine aF.cf (I:=fun s v=>∃i:Nat,s=(0,(i:Int))/\i<=6/\Kept Nil w7 v/\(2<=i->p.ok)/\(3<=i->¬((l.length<1\/p.mp<(l.length:Int))\/dg l≠l))/\(4<=i->eN G.D l= [])/\(5<=i->¬rm G.D l)/\(6<=i->¬p.mm<((cg G (bG G l) l).length:Int))) (μ:=fun s _=>(6-s.2).toNat) (s:=(0,0)) ⟨0,rfl,by omega,Kept.refl _ _,fun h=>by omega,fun h=>by omega,fun h=>by omega,fun h=>by omega,fun h=>by omega⟩ ?_;rintro⟨_,_⟩ v ⟨i,e,hi,kv,c2,c3,c4,c5,c6⟩;cases e;unfold aF.B1;have vu:=uU.tt kv;have K8:=kv.heap R4 (fun h=>h);have IE:=kv.heap YV (fun h=>h);refine Split.dec (fun cJ=>?_) (fun iK=>?_)
 ·simp only at cJ
  have fc:i<6:=by omega
  have kd:lE prog iB=.int .i64:=by kernel_rfl
  have stop:∀ {u:World} {e:Int} {A':Option Addr} {c':Nat},Kept (· =ob) w7 u->u.heap[ob]? =some (.cells #[.slice A' (ig p G l).1.length c'] aV (0,0))->HS u A' (ig p G l).1.length (ig p G l).1->(ig p G l).2=e->e≠0->(∀a,A'=some a->(ig p G l).1.length≠0->a.block≠ob)->
   aF.J1 ⟨ob,0,none⟩ 0 e (some ⟨rb,0,none⟩) 6 6 6 (i:Int) (bR (aF.e1 ⟨ob,0,none⟩ (some ⟨rb,0,none⟩) 6 6 6) (fun s v=>∃i:Nat,s=(0,(i:Int))/\i<=6/\Kept Nil w7 v/\(2<=i->p.ok)/\(3<=i->¬((l.length<1\/p.mp<(l.length:Int))\/dg l≠l))/\(4<=i->eN G.D l= [])/\(5<=i->¬rm G.D l)/\(6<=i->¬p.mm<((cg G (bG G l) l).length:Int))) (fun s _=>(6-s.2).toNat) (0,(i:Int)) v (aF.q1 K)) u:=by
   intro u e A' c' ku hu hs he fH KN;unfold aF.J1;refine Split.yes (by simpa using fH) ⟨_,_,_,by rw [aD hu];rfl,dK hu (by simp),?_⟩;intro w9;have T5:w9.heap[ob]? =some (.cells #[.slice A' (ig p G l).1.length c'] aV (0,0)):=cX hu 0 _;have k9:Kept (· =ob) u w9:=Kept.setCell (S:=fun j=>j=ob) (Kept.refl _ u) (p:=⟨ob,0,none⟩) (fun _=>rfl) _;clear_value w9;rw [gF,aF.yi];refine⟨_,_,_,by rw [aD T5];rfl,?_⟩;rw [<-he];refine hK w9 A' _ c' ?_ ((uU.trans ku (fun j hj e=>by omega)).trans k9 (fun j hj e=>by omega));by_cases hz:(ig p G l).1.length=0
   ·have e0:=List.eq_nil_of_length_eq_zero hz
    rw [e0];exact HS.nil _ _
   ·exact hs.aK k9 (fun a ha e=>KN a ha hz e)
  have z8:∀ {u:World} {e:Int},Kept Nil w7 u->ig p G l=([],e)->e≠0->
   aF.J1 ⟨ob,0,none⟩ 0 e (some ⟨rb,0,none⟩) 6 6 6 (i:Int) (bR (aF.e1 ⟨ob,0,none⟩ (some ⟨rb,0,none⟩) 6 6 6) (fun s v=>∃i:Nat,s=(0,(i:Int))/\i<=6/\Kept Nil w7 v/\(2<=i->p.ok)/\(3<=i->¬((l.length<1\/p.mp<(l.length:Int))\/dg l≠l))/\(4<=i->eN G.D l= [])/\(5<=i->¬rm G.D l)/\(6<=i->¬p.mm<((cg G (bG G l) l).length:Int))) (fun s _=>(6-s.2).toNat) (0,(i:Int)) v (aF.q1 K)) u:=by
   intro u e ku he fH;have e1:(ig p G l).1= []:=by rw [he]
   refine stop (A':=none) (c':=0) (ku.mono fun _ _ h=>h.elim) (by rw [e1];exact ku.heap YV (fun h=>h)) (by rw [e1];exact HS.nil _ _) (by rw [he]) fH (fun a ha=>by cases ha)
  have go:∀ {u:World},Kept Nil w7 u->(2<=i+1->p.ok)->(3<=i+1->¬((l.length<1\/p.mp<(l.length:Int))\/dg l≠l))->(4<=i+1->eN G.D l= [])->(5<=i+1->¬rm G.D l)->(6<=i+1->¬p.mm<((cg G (bG G l) l).length:Int))->
   aF.J1 ⟨ob,0,none⟩ 0 0 (some ⟨rb,0,none⟩) 6 6 6 (i:Int) (bR (aF.e1 ⟨ob,0,none⟩ (some ⟨rb,0,none⟩) 6 6 6) (fun s v=>∃i:Nat,s=(0,(i:Int))/\i<=6/\Kept Nil w7 v/\(2<=i->p.ok)/\(3<=i->¬((l.length<1\/p.mp<(l.length:Int))\/dg l≠l))/\(4<=i->eN G.D l= [])/\(5<=i->¬rm G.D l)/\(6<=i->¬p.mm<((cg G (bG G l) l).length:Int))) (fun s _=>(6-s.2).toNat) (0,(i:Int)) v (aF.q1 K)) u:=by
   intro u ku d2 d3 d4 d5 d6;unfold aF.J1;refine Split.no rfl ?_;rw [eJ (n:=(i:Int)) (by omega) (by omega)];exact⟨(0,(i:Int)+1),rfl,⟨i+1,rfl,by omega,ku,d2,d3,d4,d5,d6⟩,by simp only;omega⟩
  refine⟨⟨by omega,by omega⟩,Is.mk rfl ?_⟩;simp-zeta only [Int.toNat_natCast];have IS:=kv.heap hc7 (fun h=>h);have R3:=kv.heap hh7 (fun h=>h);have OO:=kv.heap hp7 (fun h=>h);have Zl:=kv.heap PO (fun h=>h);have Cv:=C7.same kv;have Xv:=X7.same kv;have lv:=l7'.same kv;have rd:∀(j:Nat) (z:Value),(#[.func (.func b6.id) #[] #[.pointer (some ⟨gb,0,none⟩)],.func (.func bW.id) #[] #[.pointer (some ⟨pb,0,none⟩)],.func (.func bU.id) #[] #[.pointer (some ⟨hb,0,none⟩),.pointer (some ⟨pb,0,none⟩)],.func (.func aN.id) #[] #[.pointer (some ⟨hb,0,none⟩),.pointer (some ⟨gb,0,none⟩),.pointer (some ⟨ob,0,none⟩)],.func (.func aO.id) #[] #[.pointer (some ⟨hb,0,none⟩),.pointer (some ⟨cb,0,none⟩)],.func (.func bT.id) #[] #[.pointer (some ⟨cb,0,none⟩),.pointer (some ⟨hb,0,none⟩),.pointer (some ⟨pb,0,none⟩)]]:Array Value)[j]? =some z->v.cell? ((⟨rb,0,none⟩:Addr).add (j*1))=some z:=fun j z h=>by rw [Nat.mul_one,bu,aD K8,Nat.zero_add];exact h
  have hz1:b6.fn.body.isSome=true:=by kernel_rfl
  have hz2:bW.fn.body.isSome=true:=by kernel_rfl
  have hz3:bU.fn.body.isSome=true:=by kernel_rfl
  have hz4:aN.fn.body.isSome=true:=by kernel_rfl
  have hz5:aO.fn.body.isSome=true:=by kernel_rfl
  have hz6:bT.fn.body.isSome=true:=by kernel_rfl
  have qA:b6.fn.resultTypes.toList= [iB]:=by kernel_rfl
  have lh:bW.fn.resultTypes.toList= [iB]:=by kernel_rfl
  have CY:bU.fn.resultTypes.toList= [iB]:=by kernel_rfl
  have Ur:aN.fn.resultTypes.toList= [iB]:=by kernel_rfl
  have CX:aO.fn.resultTypes.toList= [iB]:=by kernel_rfl
  have RS:bT.fn.resultTypes.toList= [iB]:=by kernel_rfl
  have R1:i=0\/i=1\/i=2\/i=3\/i=4\/i=5:=by omega
  rcases R1 with rfl|rfl|rfl|rfl|rfl|rfl
  ·refine⟨.func (.func b6.id) #[] #[.pointer (some ⟨gb,0,none⟩)],rd 0 _ rfl,?_⟩
   rw [iF (fn:=b6.fn) b6.at_ hz1 rfl qA kd];refine b6.of ⟨_,by rw [aD Zl];rfl,Split.no rfl (⟨_,rfl,aF.ly (go kv (fun h=>by omega) (fun h=>by omega) (fun h=>by omega) (fun h=>by omega) (fun h=>by omega))⟩)⟩
  ·refine⟨.func (.func bW.id) #[] #[.pointer (some ⟨pb,0,none⟩)],rd 1 _ rfl,?_⟩
   rw [iF (fn:=bW.fn) bW.at_ hz2 rfl lh kd];refine Hq OO fun w8 k8=>⟨_,rfl,aF.ly ?_⟩;have D3:=kv.tt k8;by_cases x8:p.ok
   ·rw [if_neg (fun e=>e x8)]
    exact go D3 (fun _=>x8) (fun h=>by omega) (fun h=>by omega) (fun h=>by omega) (fun h=>by omega)
   ·rw [if_pos x8]
    exact z8 D3 (by unfold ig;rw [if_pos x8]) (by omega)
  ·refine⟨.func (.func bU.id) #[] #[.pointer (some ⟨hb,0,none⟩),.pointer (some ⟨pb,0,none⟩)],rd 2 _ rfl,?_⟩
   rw [iF (fn:=bU.fn) bU.at_ hz3 rfl CY kd];have x8:=c2 (by omega);refine Hp R3 h0 lv (by omega) OO fun w8 e k8 he=>⟨_,rfl,aF.ly ?_⟩;have D3:=kv.tt k8;rcases he with⟨h3,rfl⟩|⟨h3,rfl⟩
   ·exact z8 D3 (by unfold ig;rw [if_neg (fun e=>e x8),if_pos h3]) (by omega)
   ·exact go D3 (fun _=>x8) (fun _=>h3) (fun h=>by omega) (fun h=>by omega) (fun h=>by omega)
  ·refine⟨.func (.func aN.id) #[] #[.pointer (some ⟨hb,0,none⟩),.pointer (some ⟨gb,0,none⟩),.pointer (some ⟨ob,0,none⟩)],rd 3 _ rfl,?_⟩
   rw [iF (fn:=aN.fn) aN.at_ hz4 rfl Ur kd];have x8:=c2 (by omega);have h3:=c3 (by omega);have FN:n≠0:=fun e=>h3 (.inl (.inl (by omega)));have hAn:∀a,A=some a->a.block≠ob:=fun a ha e=>by have:=WD a ha FN;omega
   have XS:∀u,Kept (· =ob) v u->XV u m.FX m.x G.D G.P mx:=fun u ku=>by
    have CV':Kept (· =ob) w u:=(vu.mono fun _ _ h=>h.elim).tt ku;exact X4.aK ((JU.tt kv).mono (S':=fun j=>j=ob) (fun _ _ h=>h.elim) |>.tt ku) (fun j e e'=>by have:=Jf j (.inl e);omega) (fun j e e'=>by have:=Jf j (.inr e);omega)
   refine Ho Xv Cv rfl R3 h0 lv (by omega) Zl IE (by omega) (by omega) hAn XS (fun hm w8 k8=>⟨_,rfl,aF.ly (go (kv.tt k8) (fun _=>x8) (fun _=>h3) (fun _=>hm) (fun h=>by omega) (fun h=>by omega))⟩) fun hm w8 A8 c8 ho8 Gj k8=>⟨_,rfl,aF.ly ?_⟩;have he:ig p G l=(eN G.D l,15):=by unfold ig;rw [if_neg (fun e=>e x8),if_neg h3,if_pos hm]
   have sv:=kv.size;refine stop (A':=A8) (c':=c8) ((kv.mono fun _ _ h=>h.elim).tt k8) (by rw [he];exact ho8) (by rw [he];exact cr.hs Gj) (by rw [he]) (by omega) (fun a ha _ e=>?_);have:=(Row.bS Gj (k:=a.block) (by rw [ha];rfl)).1;omega
  ·refine⟨.func (.func aO.id) #[] #[.pointer (some ⟨hb,0,none⟩),.pointer (some ⟨cb,0,none⟩)],rd 4 _ rfl,?_⟩
   rw [iF (fn:=aO.fn) aO.at_ hz5 rfl CX kd];have x8:=c2 (by omega);have h3:=c3 (by omega);have hm:=c4 (by omega);refine Hn Cv (by omega) R3 h0 lv (by omega) IS fun w8 e k8 he=>⟨_,rfl,aF.ly ?_⟩;have D3:=kv.tt k8;rcases he with⟨h5,rfl⟩|⟨h5,rfl⟩
   ·exact z8 D3 (by unfold ig;rw [if_neg (fun e=>e x8),if_neg h3,if_neg (fun e=>e hm),if_pos h5]) (by omega)
   ·exact go D3 (fun _=>x8) (fun _=>h3) (fun _=>hm) (fun _=>h5) (fun h=>by omega)
  ·refine⟨.func (.func bT.id) #[] #[.pointer (some ⟨cb,0,none⟩),.pointer (some ⟨hb,0,none⟩),.pointer (some ⟨pb,0,none⟩)],rd 5 _ rfl,?_⟩
   rw [iF (fn:=bT.fn) bT.at_ hz6 rfl RS kd];have x8:=c2 (by omega);have h3:=c3 (by omega);have hm:=c4 (by omega);have h5:=c5 (by omega);have vC:l≠ []:=fun e=>h3 (.inl (.inl (by rw [e];simp)));refine Hm Cv (hT.same vu) hD rP R3 h0 lv (by omega) IS OO vC (qt.1 hm) fun w8 e k8 he=>⟨_,rfl,aF.ly ?_⟩;have D3:=kv.tt k8;rcases he with⟨h6,rfl⟩|⟨h6,rfl⟩
   ·exact z8 D3 (by unfold ig;rw [if_neg (fun e=>e x8),if_neg h3,if_neg (fun e=>e hm),if_neg h5,if_pos h6]) (by omega)
   ·exact go D3 (fun _=>x8) (fun _=>h3) (fun _=>hm) (fun _=>h5) (fun _=>h6)
 ·simp only at iK
  rw [aX,aF.dA];unfold aF.cW;refine⟨dK IE (by simp),?_⟩;intro w9;have T5:w9.heap[ob]? =some (.cells #[.slice none 0 0] aV (0,0)):=cX IE 0 _;have k9:Kept (· =ob) v w9:=Kept.setCell (S:=fun j=>j=ob) (Kept.refl _ v) (p:=⟨ob,0,none⟩) (fun _=>rfl) _;clear_value w9;refine⟨none,0,0,by rw [aD T5];rfl,?_⟩;have he:ig p G l=([],0):=by unfold ig;rw [if_neg (fun e=>e (c2 (by omega))),if_neg (c3 (by omega)),if_neg (fun e=>e (c4 (by omega))),if_neg (c5 (by omega)),if_neg (c6 (by omega))]
  have:=hK w9 none 0 0 (by rw [he];exact HS.nil _ _) (vu.trans k9 (fun j hj e=>by omega));rw [he]at this;exact this
end
noncomputable def uF:PP:=⟨2,5,10,0,0,0,0,10,10,fG⟩
theorem yF:uF.ok:=by simp [PP.ok,uF]
theorem zW(v:Value):(Db v)[0]? =some v:=by kernel_rfl
section
variable{r a b:HT}(KH:r≠a)(FL:r≠b)(mJ:a≠b)
include FL mJ in
theorem k2b:eo [⟨r,[]⟩,⟨a,[r]⟩] b [a]=0/\mE [⟨r,[]⟩,⟨a,[r]⟩] b [a]= [⟨r,[]⟩,⟨a,[r]⟩,⟨b,[a]⟩]:=by
 have h:eo [⟨r,[]⟩,⟨a,[r]⟩] b [a]=0:=by
  unfold eo;rw [if_neg (by simp [ids];exact⟨fun e=>FL e.symm,fun e=>mJ e.symm⟩),mf,if_neg (by simp),if_neg (by simp [ids])]
 exact⟨h,by unfold mE;rw [if_pos h,mf];rfl⟩
theorem yG{G:GS}(H:lf 2 G)(D:G.D= [⟨r,[]⟩,⟨a,[r]⟩,⟨b,[a]⟩])(cJ:cJ a b=true):ig uF G [a,b]=([],9)/\ig uF G [b]=([],0):=by
 have mJ:fD G.D a b:=.one ⟨⟨b,[a]⟩,by rw [D];simp,rfl,by simp⟩;have ha:a∈ids G.D:=by rw [D];simp [ids]
 have hb:b∈ids G.D:=by rw [D];simp [ids]
 constructor
 ·have hs:dg [a,b]= [a,b]:=wv (by simp [SS,cJ])
  have hm:eN G.D [a,b]= []:=qt.2 (by simp [ha,hb]);unfold ig;rw [if_neg (fun e=>e yF),if_neg,if_neg (fun e=>e hm),if_pos ⟨a,by simp,b,by simp,mJ⟩];rintro((e|e)|e)
  ·simp at e
  ·simp [uF]at e
  ·exact e hs
 ·have hs:dg [b]= [b]:=mf b
  have hm:eN G.D [b]= []:=qt.2 (by simp [hb]);unfold ig;rw [if_neg (fun e=>e yF),if_neg,if_neg (fun e=>e hm),if_neg,if_neg]
  ·have e1:bG G [b]=b:=rfl
   rw [e1,wU];simp [uF]
  ·rintro⟨x,hx,y,hy,l9⟩
   rw [List.mem_singleton]at hx hy;subst hx hy;exact fD.irrefl H.W _ l9
  ·rintro((e|e)|e)
   ·simp at e
   ·simp [uF]at e
   ·exact e hs
end
section
variable{w w':World}{K:Value->World->Prop}
theorem kN(hK:∀w',Kept Nil w w'->K (.agg uF.cells) w'):bm prog dH.id #[] w K:=by
 refine dH.of ?_;unfold dH.W;intro w1;have FV:w1.heap[w.heap.size]? =some (.cells (#[.int .i64 0,.int .i64 0,.int .i64 0,.int .i64 0,.int .i64 0,.int .i64 0,.int .u64 0,.int .i64 0,.int .i64 0]++fG.1) dz (0,0)):=aR w _;have k1:Kept Nil w w1:=(Kept.refl _ _).alloc _;clear_value w1;obtain⟨t1,t2,t3⟩:=lx FV (cs:=uF.cells) (by rw [uF.size,Array.size_append,fG.2.1];rfl);rw [uF.size]at t1;refine⟨⟨uF.size,uF.one,t1⟩,uF.cells,⟨uF.size,Cells.bS t2⟩,hK _ (k1.trans t3 (fun j hj e=>by omega))⟩
set_option maxHeartbeats 2000000 in
theorem yN(hT:p7 w)(hK:∀w',Kept Nil w w'->K (.bool true) w'):bm prog gB.id #[] w K:=by
 let r:=hx 1 (by omega)
 let a:=hx 2 (by omega)
 let b:=hx 3 (by omega)
 have KH:r≠a:=yS (by omega);have FL:r≠b:=yS (by omega);have mJ:a≠b:=yS (by omega);have cJ:cJ a b=true:=by decide
 refine gB.of ?_;unfold gB.W;intro w1 w2 w3;have ka:Kept Nil w w1:=(Kept.refl _ _).alloc _;have qA:w1.heap[w.heap.size]? =some (.cells fG.1 ax (0,0)):=aR w _;have kb:Kept Nil w1 w2:=(Kept.refl _ _).alloc _;have ZF:w2.heap[w1.heap.size]? =some (.cells fG.1 ax (0,0)):=aR w1 _;have kc:Kept Nil w2 w3:=(Kept.refl _ _).alloc _;have o6:w3.heap[w2.heap.size]? =some (.cells fG.1 ax (0,0)):=aR w2 _;clear_value w3;have ZE:=kc.heap ZF (fun h=>h);have CY:=kc.heap (kb.heap qA (fun h=>h)) (fun h=>h);have kl:=(ka.tt kb).tt kc;have l1:=aZ qA;have l2:=aZ ZF;have l3:=aZ o6;generalize acg:w.heap.size=rb at CY l1;generalize adt:w1.heap.size=ab at ZE l1 l2;generalize adn:w2.heap.size=bb at o6 l2 l3;clear_value w2;clear_value w1;obtain⟨u1,u2,u3⟩:=jt r CY rfl;refine⟨u1,?_⟩;intro w4
 replace u2:w4.heap[rb]? =some (.cells r.1 ax (0,0)):=u2
 replace u3:Kept (· =rb) w3 w4:=u3
 clear_value w4;obtain⟨v1,v2,v3⟩:=jt a (u3.heap ZE (by omega)) rfl;refine⟨v1,?_⟩;intro w5
 replace v2:w5.heap[ab]? =some (.cells a.1 ax (0,0)):=v2
 replace v3:Kept (· =ab) w4 w5:=v3
 clear_value w5;obtain⟨x1,x2,x3⟩:=jt b (v3.heap (u3.heap o6 (by omega)) (by omega)) rfl;refine⟨x1,?_⟩;intro lu
 replace x2:lu.heap[bb]? =some (.cells b.1 ax (0,0)):=x2
 replace x3:Kept (· =bb) w5 lu:=x3
 clear_value lu;have hb:=x2;have ha:=x3.heap v2 (by omega);have hr:=x3.heap (v3.heap u2 (by omega)) (by omega);have k:Kept Nil w lu:=((kl.trans u3 (fun j hj e=>by omega)).trans v3 (fun j hj e=>by omega)).trans x3 (fun j hj e=>by omega);have hTl:=hT.lt;have s16:=k.size;have lb:=aZ hb;have box:∀ {u:World} {S:Nat->Prop},Kept S lu u->(∀k,S k->lu.heap.size<=k)->u.heap[rb]? =some (.cells r.1 ax (0,0))/\u.heap[ab]? =some (.cells a.1 ax (0,0))/\u.heap[bb]? =some (.cells b.1 ax (0,0)):=fun ku hS=>
  ⟨ku.heap hr (fun e=>by have:=hS _ e;omega),ku.heap ha (fun e=>by have:=hS _ e;omega),ku.heap hb (fun e=>by have:=hS _ e;omega)⟩
 obtain⟨c1,d1⟩:=k1 KH;obtain⟨c2,d2⟩:=k2b FL mJ;have H1:=(mo 2 r).add a [r];have H2:=H1.add b [a];have D1:(fE 2 (gv r) a [r]).D= [⟨r,[]⟩,⟨a,[r]⟩]:=by rw [tJ];exact d1
 have D2:(fE 2 (fE 2 (gv r) a [r]) b [a]).D= [⟨r,[]⟩,⟨a,[r]⟩,⟨b,[a]⟩]:=by rw [tJ,D1];exact d2
 obtain⟨P1,P2⟩:=yG H2 D2 cJ;refine⟨r.1,⟨r.2.1,Cells.bS hr⟩,gM r (k:=2) (by omega) fun qc cc q m C hm hq Az=>⟨_,_,rfl,Split.no rfl (Split.no rfl ?_)⟩⟩;obtain⟨b1,b2,b3⟩:=box Az (fun _ h=>h.elim);refine⟨a.1,⟨a.2.1,Cells.bS b2⟩,r.1,⟨r.2.1,Cells.bS b1⟩,r.2.1,?_⟩;intro kr;have rv:Kept Nil qc kr:=(Kept.refl _ _).alloc _;have Hs:HS kr (some ⟨qc.heap.size,0,none⟩) 1 [r]:=lr qc r;clear_value kr;have yP:=Az.tt rv;have Ta:=yP.size;refine sX (C.same rv) (hT.same (k.tt yP)) (fun e=>by have:=hm _ (.inl e);omega) (by simp [gv]) (by omega) Hs (by omega) a fun Bh F2 m2 A2 n2 p2 E2 q2 z2 C2 _ JX Y8 _ _ _ _ _=>⟨_,_,rfl,?_⟩;have XR:∀j,m2.own cc j->lu.heap.size<=j:=fun j e=>(Y8 j e).elim (hm j) (fun h=>by omega);have Ii:Kept (fun q=>lu.heap.size<=q) lu Bh:=(yP.mono (S':=fun q=>lu.heap.size<=q) (fun _ _ h=>h.elim)).trans JX (fun q _ h=>hm q h);obtain⟨b1,b2,b3⟩:=box Ii (fun _ h=>h);refine⟨b.1,⟨b.2.1,Cells.bS b3⟩,a.1,⟨a.2.1,Cells.bS b2⟩,a.2.1,?_⟩;intro MW;have RH:Kept Nil Bh MW:=(Kept.refl _ _).alloc _;have Wa:HS MW (some ⟨Bh.heap.size,0,none⟩) 1 [a]:=lr Bh a;clear_value MW;have Ec:=Ii.trans RH (fun _ _ h=>h.elim);have s31:=Ec.size;refine sX (C2.same RH) ((hT.same k).aK Ec (fun e=>by omega)) (fun e=>by have:=XR _ (.inl e);omega) (by rw [D1];simp) (by omega) Wa (by omega) b fun p9 F3 m3 A3 n3 p3 E3 q3 z3 C3 _ Aw Y7 _ _ _ _ _=>⟨_,_,rfl,?_⟩;have Eb:Kept (fun q=>lu.heap.size<=q) lu p9:=Ec.trans Aw (fun q _ h=>XR q h);have QA:p7 p9:=(hT.same k).aK Eb (fun e=>by omega);have k0:∀ {u:World},Kept Nil p9 u->Kept Nil w u:=fun ku=>k.trans (Eb.trans ku (fun _ _ h=>h.elim)) (fun q hq e=>by omega)
 obtain⟨b1,b2,b3⟩:=box Eb (fun _ h=>h);have Wz:(fE 2 (fE 2 (gv r) a [r]) b [a]).D.length<=49:=by rw [D2];simp
 generalize fE 2 (fE 2 (gv r) a [r]) b [a]=G2 at C3 Wz P1 P2;have P9:∀ {u:World} {A:Option Addr} {K':Value->World->Prop},Kept Nil p9 u->HS u A 2 [a,b]->(∀w' A' n' c',Kept Nil p9 w'->K' (.tuple #[.slice A' n' c',.int .i64 9]) w')->bm prog aF.id #[.agg uF.cells,.pointer (some ⟨cc,0,none⟩),.agg (Db (.slice A 2 2))] u K':=fun ku hs hk=>
  mG (C3.same ku) (QA.same ku) Wz (by omega) uF (zW _) hs (by omega) fun w' A' n' c' _ k'=>by
   rw [P1];exact hk w' A' n' c' (ku.tt k')
 have P8:∀ {u:World} {A:Option Addr} {K':Value->World->Prop},Kept Nil p9 u->HS u A 1 [b]->(∀w' A' n' c',Kept Nil p9 w'->K' (.tuple #[.slice A' n' c',.int .i64 0]) w')->bm prog aF.id #[.agg uF.cells,.pointer (some ⟨cc,0,none⟩),.agg (Db (.slice A 1 1))] u K':=fun ku hs hk=>
  mG (C3.same ku) (QA.same ku) Wz (by omega) uF (zW _) hs (by omega) fun w' A' n' c' _ k'=>by
   rw [P2];exact hk w' A' n' c' (ku.tt k')
 have fin:∀ {u:World},Kept Nil p9 u->bm prog dH.id #[] u fun pe qe=>∃re:Array Value,pe=.agg re/\bm prog bz.id #[.agg re] qe fun te ue=>∃ve:Bool,te=.bool ve/\K (.bool ve) ue:=fun ku=>
  kN fun w1 k1=>⟨_,rfl,jV uF fun w2 k2=>⟨_,rfl,by rw [decide_eq_true yF];exact hK w2 (k0 ((ku.tt k1).tt k2))⟩⟩
 intro mN;have x4:Kept Nil p9 mN:=(Kept.refl _ _).drew;clear_value mN;have Qz:=x4.heap b2 (fun h=>h);have Qs:=x4.heap b3 (fun h=>h);have half:∀ {va:World},Kept Nil p9 va->va.heap[bb]? =some (.cells b.1 ax (0,0))->
  (let be:World:=va.drew;∃ce:Array Value,(ce.size=32/\Cells be (⟨bb,0,none⟩:Addr) ce)/\(bm prog dH.id #[] be fun de ee=>∃fe:Array Value,de=.agg fe/\(∃cs:Array Value,(.agg ce:Value)=.agg cs/\cs.size=32/\Cells ee (⟨bb,0,none⟩:Addr) cs)/\ce.size=32/\(let ge:World:=ee.alloc (.cells (ce.toList++ []).toArray ax);bm prog aF.id #[.agg fe,.pointer (some ⟨cc,0,none⟩),.agg (Db (.slice (some (aU ee.heap.size)) 1 1))] ge fun ie je=>∃ke:Option Addr,∃me ne:Nat,∃oe:Int,ie=.tuple #[.slice ke me ne,.int .i64 oe]/\Split ((9:Int)==(9:Int)) (Split (oe==(0:Int)) (bm prog dH.id #[] je fun pe qe=>∃re:Array Value,pe=.agg re/\bm prog bz.id #[.agg re] qe fun te ue=>∃ve:Bool,te=.bool ve/\K (.bool ve) ue) (K (.bool false) je)) (K (.bool false) je)))/\
    (ce.size=32/\(let xe:World:=be.alloc (.cells (ce.toList++ []).toArray ax);bm prog dH.id #[] xe fun ye ze=>∃aj:Array Value,ye=.agg aj/\bm prog aF.id #[.agg aj,.pointer (some ⟨cc,0,none⟩),.agg (Db (.slice (some (aU be.heap.size)) 1 1))] ze fun bj cj=>∃dj:Option Addr,∃ej fj:Nat,∃gj:Int,bj=.tuple #[.slice dj ej fj,.int .i64 gj]/\Split ((9:Int)==(9:Int)) (Split (gj==(0:Int)) (bm prog dH.id #[] cj fun ij jj=>∃kj:Array Value,ij=.agg kj/\bm prog bz.id #[.agg kj] jj fun mj nj=>∃oj:Bool,mj=.bool oj/\K (.bool oj) nj) (K (.bool false) cj)) (K (.bool false) cj)))):=by
  intro va kva EN be;have Ye:Kept Nil va be:=(Kept.refl _ _).drew;clear_value be;have Aw:=kva.tt Ye;have ZC:=Ye.heap EN (fun h=>h);refine⟨b.1,⟨b.2.1,Cells.bS ZC⟩,?_,b.2.1,?_⟩
  ·refine kN fun ee ke=>⟨_,rfl,⟨_,rfl,b.2.1,Cells.bS (ke.heap ZC (fun h=>h))⟩,b.2.1,?_⟩
   intro ge;have kge:Kept Nil ee ge:=(Kept.refl _ _).alloc _;have iK:HS ge (some ⟨ee.heap.size,0,none⟩) 1 [b]:=lr ee b;clear_value ge;exact P8 ((Aw.tt ke).tt kge) iK fun w' A' n' c' k'=>⟨A',n',c',_,rfl,Split.yes rfl (Split.yes rfl (fin k'))⟩
  ·intro xe
   have kxe:Kept Nil be xe:=(Kept.refl _ _).alloc _;have TP:HS xe (some ⟨be.heap.size,0,none⟩) 1 [b]:=lr be b;clear_value xe;refine kN fun ze ke=>⟨_,rfl,?_⟩;exact P8 ((Aw.tt kxe).tt ke) (TP.same ke) fun w' A' n' c' k'=>⟨A',n',c',_,rfl,Split.yes rfl (Split.yes rfl (fin k'))⟩
 refine⟨a.1,⟨a.2.1,Cells.bS Qz⟩,b.1,⟨b.2.1,Cells.bS Qs⟩,?_,a.2.1,b.2.1,?_⟩
 ·refine kN fun gY lQ=>⟨_,rfl,⟨_,rfl,b.2.1,Cells.bS (lQ.heap Qs (fun h=>h))⟩,⟨_,rfl,a.2.1,Cells.bS (lQ.heap Qz (fun h=>h))⟩,a.2.1,b.2.1,?_⟩
  intro qI;have qw:Kept Nil gY qI:=(Kept.refl _ _).alloc _;have V9:HS qI (some ⟨gY.heap.size,0,none⟩) 2 [a,b]:=HS.lay (l:= [a,b]) (t:=ax) (aR gY (.cells (cC [a,b]).toArray ax));clear_value qI;refine P9 ((x4.tt lQ).tt qw) V9 fun Bg A' n' c' CR=>⟨A',n',c',_,rfl,?_⟩;exact half CR (CR.heap b3 (fun h=>h))
 ·intro gY
  have lQ:Kept Nil mN gY:=(Kept.refl _ _).alloc _;have Hr:HS gY (some ⟨mN.heap.size,0,none⟩) 2 [a,b]:=HS.lay (l:= [a,b]) (t:=ax) (aR mN (.cells (cC [a,b]).toArray ax));clear_value gY;refine kN fun qI qw=>⟨_,rfl,?_⟩;refine P9 ((x4.tt lQ).tt qw) (Hr.same qw) fun Bg A' n' c' CR=>⟨A',n',c',_,rfl,?_⟩;exact half CR (CR.heap b3 (fun h=>h))
end
open Go.ChangeAt Go.ChangeShapes Go.WideShapes
theorem QY:prog.underlying fC=some (.int .i64):=by kernel_rfl
theorem QW:prog.underlying eI=some (.int .u64):=by kernel_rfl
theorem WN:prog.cellsOf fC=1:=by kernel_rfl
theorem WL:prog.cellsOf eI=1:=by kernel_rfl
def JI:Array Field:= #[⟨"K",fC,0,false,"","",0⟩,⟨"MaxParents",fC,1,false,"","",8⟩,⟨"MaxMerge",fC,2,false,"","",16⟩,⟨"Finality",fC,3,false,"","",24⟩,⟨"Pruning",fC,4,false,"","",32⟩,⟨"Maturity",fC,5,false,"","",40⟩,⟨"Subsidy",eI,6,false,"","",48⟩,⟨"Orphans",fC,7,false,"","",56⟩,⟨"Pool",fC,8,false,"","",64⟩,⟨"Genesis",ax,9,false,"","",72⟩]
theorem I8:prog.underlying dz=some (.struct JI):=by kernel_rfl
theorem WM:prog.cellsOf dz=41:=by kernel_rfl
section
variable{H:Type}{enc:TypeId×Value->H}{w:World}{base:Nat}{sp:Nat->Bool}{held:Bool}{fuel:Nat}{cs:List Value}{x:DataW H×List MemPlace}
theorem JH(h:DataW.trod enc prog w base sp held fuel dz cs=some x):∃p:PP,cs.toArray=p.cells:=by
 obtain⟨xs,n,_,_,hl,sJ,cO⟩:=DataW.trod_struct I8 h;rw [WM]at hl;have hx:∀i,i<10->∃y,xs[i]? =some y:=fun i hi=>⟨xs[i]'(by rw [sJ];exact hi),by simp⟩;have gi:∀i (f:Field),JI[i]? =some f->f.type=fC->∃z,(cs.drop f.offset).take 1= [.int .i64 z]:=fun i f hf ht=>by
  obtain⟨y,hy⟩:=hx i (Array.getElem?_eq_some_iff.1 hf).1;have:=cO i f hf;rw [ht,WN,hy]at this;obtain⟨z,hz,_⟩:=DataW.trod_int QY this;exact⟨z,hz⟩
 obtain⟨a0,e0⟩:=gi 0 _ rfl rfl;obtain⟨a1,e1⟩:=gi 1 _ rfl rfl;obtain⟨a2,e2⟩:=gi 2 _ rfl rfl;obtain⟨a3,e3⟩:=gi 3 _ rfl rfl;obtain⟨a4,e4⟩:=gi 4 _ rfl rfl;obtain⟨a5,e5⟩:=gi 5 _ rfl rfl;obtain⟨a7,e7⟩:=gi 7 _ rfl rfl;obtain⟨a8,e8⟩:=gi 8 _ rfl rfl;obtain⟨a6,e6⟩:∃z,(cs.drop 6).take 1= [.int .u64 z]:=by
  obtain⟨y,hy⟩:=hx 6 (by decide);have:DataW.trod enc prog w base sp held n eI ((cs.drop 6).take (prog.cellsOf eI))=xs[6]? :=cO 6 _ rfl;rw [WL,hy]at this;obtain⟨z,hz,_⟩:=DataW.trod_int QW this;exact⟨z,hz⟩
 obtain⟨y9,hy9⟩:=hx 9 (by decide);have e9:DataW.trod enc prog w base sp held n ax ((cs.drop 9).take (prog.cellsOf ax))=xs[9]? :=cO 9 _ rfl;rw [QZ,hy9]at e9;have hh:=Ko e9;have ec:cs=(cs.drop 0).take 1++((cs.drop 1).take 1++((cs.drop 2).take 1++((cs.drop 3).take 1++((cs.drop 4).take 1++((cs.drop 5).take 1++((cs.drop 6).take 1++((cs.drop 7).take 1++((cs.drop 8).take 1++(cs.drop 9).take 32)))))))):=by
  have step:∀k,cs.drop k=(cs.drop k).take 1++cs.drop (k+1):=fun k=>by
   conv=>lhs;rw [<-List.take_append_drop 1 (cs.drop k)]
   rw [List.drop_drop]
  have t9:(cs.drop 9).take 32=cs.drop 9:=List.take_of_length_le (by rw [List.length_drop];omega);rw [t9]
  conv=>lhs;rw [<-List.drop_zero (l:=cs),step 0,step 1,step 2,step 3,step 4,step 5,step 6,step 7,step 8]
 refine⟨⟨a0,a1,a2,a3,a4,a5,a6,a7,a8,⟨_,hh⟩⟩,?_⟩;have f0:(cs.drop 0).take 1= [.int .i64 a0]:=e0;have f1:(cs.drop 1).take 1= [.int .i64 a1]:=e1;have f2:(cs.drop 2).take 1= [.int .i64 a2]:=e2;have f3:(cs.drop 3).take 1= [.int .i64 a3]:=e3;have f4:(cs.drop 4).take 1= [.int .i64 a4]:=e4;have f5:(cs.drop 5).take 1= [.int .i64 a5]:=e5;have f7:(cs.drop 7).take 1= [.int .i64 a7]:=e7;have f8:(cs.drop 8).take 1= [.int .i64 a8]:=e8;rw [f0,f1,f2,f3,f4,f5,e6,f7,f8]at ec;unfold PP.cells
 conv=>lhs;rw [ec]
 simp
end
section
variable{H:Type}{enc:TypeId×Value->H}{w:World}{base:Nat}{sp:Nat->Bool}{held:Bool}{d:DataW H}{p:List MemPlace}{v:Value}
set_option maxRecDepth 100000 in
theorem zJ{t:TypeId}(et:t=dz)(hv:Value.okWide prog w .any base t v)(h:∃fuel,DataW.trod enc prog w 0 sp held fuel t v.cells.toList=some (d,p)):∃q:PP,v=.agg q.cells:=by
 have ht:prog.underlying t=some (.struct JI):=by rw [et];exact I8
 simp only [Value.okWide,ht]at hv;subst et;obtain⟨cs,rfl,h2⟩:=hv;obtain⟨fuel,h⟩:=h;obtain⟨q,hq⟩:=JH h;exact⟨q,by rw [<-hq];simp [Value.cells]⟩
end
end Go.Proofs.YtfleamccglihoaaGreatDoor
namespace Go.Proofs.YtfleamccglihoaaGreatDoor
open Go.Proofs.Tryz
open Go Go.bE Go.RowKit
section
variable{w:World}{K:Value->World->Prop}
theorem wL(p:PP)(hT:p7 w)(hK:∀w',Kept Nil w w'->K (.bool true) w'):bm prog dp.id #[.agg p.cells] w K:=by
 refine dp.of ?_;unfold dp.W;intro w1 w2;have k1:Kept Nil w w1:=(Kept.refl _ _).alloc _;have FV:w1.heap[w.heap.size]? =some (.cells p.cells dz (0,0)):=aR w _;have k2:Kept Nil w1 w2:=(Kept.refl _ _).drew;clear_value w2;clear_value w1;have oE:=k1.tt k2;have oz:=k2.heap FV (fun h=>h);refine⟨p.cells,⟨p.size,Cells.bS oz⟩,p.cells,⟨p.size,Cells.bS oz⟩,?_⟩;refine jV p fun w3 k3=>⟨_,rfl,⟨_,rfl,p.size,Cells.bS (k3.heap oz (fun h=>h))⟩,?_⟩;refine rr p fun w4 k4=>⟨_,rfl,Split.yes (by simp) ?_⟩;have ln:=(oE.tt k3).tt k4;exact yN (hT.same ln) fun w5 k5=>⟨true,rfl,hK w5 (ln.tt k5)⟩
end
end Go.Proofs.YtfleamccglihoaaGreatDoor
