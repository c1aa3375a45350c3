import Derived.Test.YtfleamccglihoaaGreatDoorProg
import Derived.Shelf.SlSortCmp.NoneTotal
import Derived.Shelf.SlMaps.Clone
import Derived.Shelf.Spec.TrailingZeros
import Derived.Shelf.Strconv.Itoa0
import Derived.Shelf.Bits.Mul64
import Derived.Test.YtfleamccglihoaaGreatDoorMA
import Derived.Test.YtfleamccglihoaaGreatDoorMB
import Derived.Lib.BytesEntry
import Derived.Test.YtfleamccglihoaaGreatDoorMC
import Derived.LaidEql
open Go.IntKind (i64 u64)
set_option linter.unusedVariables false
namespace Go.Proofs
open Go.Shelf
def Tryz.ql:Go.Shelf.Ren:=⟨fun|6=>53|15=>98|14=>97|28=>135|29=>136|20=>127|21=>128|22=>129|23=>130|24=>131|25=>132|26=>133|27=>134|46=>152|47=>153|48=>154|49=>155|50=>156|57=>163|n=>n,fun|22=>33|24=>24|25=>106|3=>3|39=>150|0=>0|53=>182|55=>22|4=>4|46=>176|45=>175|50=>162|5=>5|9=>9|66=>204|70=>208|76=>215|77=>216|n=>n,fun|n=>n⟩
theorem Tryz.xE:Go.Proofs.SlLaysF0.n6 prog Tryz.ql:= {
 mixed:=by kernel_rfl
 f6:=⟨f53.name,by decide,func53.trans (congrArg some (by kernel_rfl))⟩
 f14:=⟨f97.name,by decide,func97.trans (congrArg some (by kernel_rfl))⟩
 f15:=func98.trans (congrArg some (by kernel_rfl))
 f20:=⟨f127.name,by decide,func127.trans (congrArg some (by kernel_rfl))⟩
 f21:=⟨f128.name,by decide,func128.trans (congrArg some (by kernel_rfl))⟩
 f22:=⟨Tryz.f129.name,by decide,func129.trans (congrArg some (by kernel_rfl))⟩
 f23:=⟨f130.name,by decide,func130.trans (congrArg some (by kernel_rfl))⟩
 f24:=⟨f131.name,by decide,func131.trans (congrArg some (by kernel_rfl))⟩
 f25:=⟨f132.name,by decide,func132.trans (congrArg some (by kernel_rfl))⟩
 f26:=⟨f133.name,by decide,func133.trans (congrArg some (by kernel_rfl))⟩
 f27:=⟨f134.name,by decide,func134.trans (congrArg some (by kernel_rfl))⟩
 f28:=func135.trans (congrArg some (by kernel_rfl))
 f29:=func136.trans (congrArg some (by kernel_rfl))
 f46:=⟨f152.name,by decide,func152.trans (congrArg some (by kernel_rfl))⟩
 f47:=func153.trans (congrArg some (by kernel_rfl))
 f48:=func154.trans (congrArg some (by kernel_rfl))
 f49:=⟨f155.name,by decide,func155.trans (congrArg some (by kernel_rfl))⟩
 f50:=⟨f156.name,by decide,func156.trans (congrArg some (by kernel_rfl))⟩
 f57:=⟨f163.name,by decide,func163.trans (congrArg some (by kernel_rfl))⟩
 t0:=underlying0
 a0:=isAgg0
 z0:=sizeOf0
 v0:=zeroValue0
 t3:=underlying3
 a3:=isAgg3
 z3:=sizeOf3
 v3:=zeroValue3
 t4:=underlying4
 a4:=isAgg4
 z4:=sizeOf4
 v4:=zeroValue4
 t5:=underlying5
 a5:=isAgg5
 z5:=sizeOf5
 v5:=zeroValue5
 t9:=underlying9
 a9:=isAgg9
 z9:=sizeOf9
 v9:=zeroValue9
 t22:=underlying33
 a22:=isAgg33
 z22:=sizeOf33
 v22:=zeroValue33
 t25:=underlying106
 a25:=isAgg106
 z25:=sizeOf106
 v25:=zeroValue106
 t39:=underlying150
 a39:=isAgg150
 z39:=sizeOf150
 v39:=zeroValue150
 t45:=underlying175
 a45:=isAgg175
 z45:=sizeOf175
 v45:=zeroValue175
 t46:=underlying176
 a46:=isAgg176
 z46:=sizeOf176
 v46:=zeroValue176
 t50:=underlying162
 a50:=isAgg162
 z50:=sizeOf162
 v50:=zeroValue162
 t53:=underlying182
 a53:=isAgg182
 z53:=sizeOf182
 v53:=zeroValue182
 t55:=underlying22
 a55:=isAgg22
 z55:=sizeOf22
 v55:=zeroValue22
 t66:=underlying204
 a66:=isAgg204
 z66:=sizeOf204
 v66:=zeroValue204
 t70:=underlying208
 a70:=isAgg208
 z70:=sizeOf208
 v70:=zeroValue208
 t76:=underlying215
 a76:=isAgg215
 z76:=sizeOf215
 v76:=zeroValue215
 t77:=underlying216
 a77:=isAgg216
 z77:=sizeOf216
 v77:=zeroValue216}
def Tryz.jX:Go.Shelf.Ren:=⟨fun|29=>159|n=>n,fun|22=>22|3=>3|4=>4|25=>150|54=>218|0=>0|5=>5|n=>n,fun|1=>1|n=>n⟩
theorem Tryz.tzL:Go.Proofs.Lays7.n29 prog Tryz.jX:= {
 mixed:=by kernel_rfl
 f29:=func159.trans (congrArg some (by kernel_rfl))
 t0:=underlying0
 a0:=isAgg0
 z0:=sizeOf0
 v0:=zeroValue0
 i0:=by kernel_rfl
 t3:=underlying3
 a3:=isAgg3
 z3:=sizeOf3
 v3:=zeroValue3
 i3:=by kernel_rfl
 t4:=underlying4
 a4:=isAgg4
 z4:=sizeOf4
 v4:=zeroValue4
 i4:=by kernel_rfl
 t5:=underlying5
 a5:=isAgg5
 z5:=sizeOf5
 v5:=zeroValue5
 i5:=by kernel_rfl
 t22:=underlying22
 a22:=isAgg22
 z22:=sizeOf22
 v22:=zeroValue22
 i22:=by kernel_rfl
 t25:=underlying150
 a25:=isAgg150
 z25:=sizeOf150
 v25:=zeroValue150
 i25:=by kernel_rfl
 t54:=underlying218
 a54:=isAgg218
 z54:=sizeOf218
 g1:=by kernel_rfl}
def Tryz.AJ:Go.Shelf.Ren:=⟨fun|129=>136|n=>n,fun|53=>22|3=>3|4=>4|46=>150|5=>5|9=>9|n=>n,fun|n=>n⟩
theorem Tryz.K8:Go.Proofs.Lays.n129 prog Tryz.AJ:= {
 mixed:=by kernel_rfl
 f129:=func136.trans (congrArg some (by kernel_rfl))
 t3:=underlying3
 a3:=isAgg3
 z3:=sizeOf3
 v3:=zeroValue3
 t4:=underlying4
 a4:=isAgg4
 z4:=sizeOf4
 v4:=zeroValue4
 t5:=underlying5
 a5:=isAgg5
 z5:=sizeOf5
 v5:=zeroValue5
 t9:=underlying9
 a9:=isAgg9
 z9:=sizeOf9
 v9:=zeroValue9
 t46:=underlying150
 a46:=isAgg150
 z46:=sizeOf150
 v46:=zeroValue150
 t53:=underlying22
 a53:=isAgg22
 z53:=sizeOf22
 v53:=zeroValue22}
def Tryz.AI:Go.Shelf.Ren:=⟨fun|264=>161|n=>n,fun|53=>22|46=>150|n=>n,fun|n=>n⟩
theorem Tryz.K7:Go.Proofs.Lays.n264 prog Tryz.AI:= {
 mixed:=by kernel_rfl
 f264:=func161.trans (congrArg some (by kernel_rfl))
 t46:=underlying150
 a46:=isAgg150
 z46:=sizeOf150
 v46:=zeroValue150
 t53:=underlying22
 a53:=isAgg22
 z53:=sizeOf22
 v53:=zeroValue22}
end Go.Proofs
namespace Go.bT
open Go.RowKit
theorem jC.mono{P:Program}{l:Nat}{args:Array Value}{w:World}{R R':Bool->World->Prop}(h:jC P l args w R)(hr:∀b w',R b w'->R' b w'):jC P l args w R':=by
 obtain⟨g,tmps,assign,body,h1,h2⟩:=h;exact⟨g,tmps,assign,body,h1,fun r m=>RoundIn.mono (h2 r m) fun e w' ⟨b,he,hb⟩=>⟨b,he,hr _ _ hb⟩⟩
def hU(xs:List Value)(k:Nat)(vs:List Value):List Value:=xs.take k++vs++xs.drop (k+vs.length)
theorem qY(xs:List Value)(k:Nat):hU xs k []=xs:=by simp [hU]
theorem pr{xs:List Value}{k:Nat}(hk:k<xs.length)(v:Value)(vs:List Value):hU xs k (v::vs)=hU (xs.set k v) (k+1) vs:=by
 unfold hU;rw [List.take_add_one,List.take_set_of_le (Nat.le_refl k),List.getElem?_set_self hk,List.drop_set];rw [if_pos (by omega),List.length_cons,show k+(vs.length+1)=k+1+vs.length by omega];simp
theorem mC{xs:List Value}{k:Nat}{vs:List Value}(h:k+vs.length<=xs.length):(hU xs k vs).length=xs.length:=by
 unfold hU;simp;omega
theorem vf{xs vs:List Value}(h:vs.length=xs.length):hU xs 0 vs=vs:=by
 unfold hU;simp [h]
section
variable{w:World}{B:Nat}{e:TypeId}{size n c b:Nat}
theorem rT:∀(vs:List Value) (xs:List Value) (w:World) (o i:Nat),Row w B e size (some ⟨b,0,none⟩) n c xs->o+i+vs.length<=xs.length->
 Row (setCells w ⟨b,o,none⟩ vs i) B e size (some ⟨b,0,none⟩) n c (hU xs (o+i) vs)
 | [],xs,w,o,i,h,_=>by rw [qY];exact h
 |v::vs,xs,w,o,i,h,hl=>by
  rw [List.length_cons]at hl;rw [pr (by omega)];simp only [setCells];rw [br];have h1:=Row.set h (j:=o+i) (by omega) v;have:=rT vs (xs.set (o+i) v) _ o (i+1) h1 (by rw [List.length_set];omega)
  rwa [show o+(i+1)=o+i+1 by omega]at this
theorem fi:∀(vs:List Value) (w:World) (o i:Nat),Kept (· =b) w (setCells w ⟨b,o,none⟩ vs i)
 | [],w,o,i=>Kept.refl _ _
 |v::vs,w,o,i=>by
  simp only [setCells];rw [br];exact(Kept.setCell (S:=fun k=>k=b) (Kept.refl _ w) (p:=⟨b,o+i,none⟩) (fun _=>rfl) v).tt (fi vs _ o (i+1))
theorem kR:∀(vs:List Value) (cur:Array Value) (w:World) (t:TypeId) (o i:Nat),w.heap[b]? =some (.cells cur t (0,0))->o+i+vs.length<=cur.size->
 (setCells w ⟨b,o,none⟩ vs i).heap[b]? =some (.cells (hU cur.toList (o+i) vs).toArray t (0,0))
 | [],cur,w,t,o,i,h,_=>by rw [qY];simpa [setCells]using h
 |v::vs,cur,w,t,o,i,h,hl=>by
  rw [List.length_cons]at hl;rw [pr (by simp;omega)];simp only [setCells];rw [br];have h1:=dh h (o+i) v;have:=kR vs _ _ t o (i+1) h1 (by simp;omega);rw [show o+(i+1)=o+i+1 by omega]at this;rw [this];simp
theorem iu{z cs:Array Value}{t:TypeId}(hz:z.size=cs.size):
 (∀j,j<cs.size->Wr (w.alloc (.cells z t)) ((⟨w.heap.size,0,none⟩:Addr).add j))/\
 (setCells (w.alloc (.cells z t)) ⟨w.heap.size,0,none⟩ cs.toList 0).heap[w.heap.size]? =some (.cells cs t (0,0))/\
 Kept Nil w (setCells (w.alloc (.cells z t)) ⟨w.heap.size,0,none⟩ cs.toList 0):=by
 refine⟨fun j hj=>?_,?_,?_⟩
 ·rw [br,Nat.zero_add]
  exact dY (aI w _) (by omega)
 ·have h:=kR cs.toList z (w.alloc (.cells z t)) t 0 0 (aI w _) (by simp;omega)
  rw [h,vf (by simp [hz])]
 ·exact((Kept.refl Nil w).alloc _).trans (fi cs.toList _ 0 0) (fun k hk e=>absurd hk (by omega))
end
end Go.bT
namespace Go.bT
theorem EM:∀(vs:List Value) (off k:Nat) (cells:Array Value),off+k+vs.length<=cells.size->
 ((vs.zipIdx k).foldl (fun(cs:Array Value) (p:Value×Nat)=>cs.setIfInBounds (off+p.2) p.1) cells)=(hU cells.toList (off+k) vs).toArray
 | [],off,k,cells,_=>by rw [qY];simp
 |v::vs,off,k,cells,h=>by
  rw [List.length_cons]at h;rw [pr (by simp;omega),List.zipIdx_cons,List.foldl_cons];have:=EM vs off (k+1) (cells.setIfInBounds (off+k) v) (by simp;omega);rw [this,Array.toList_setIfInBounds];rfl
theorem jc{place:Nat->Option (Nat×Nat)}{cells:Array Value}{i off size:Nat}{v:Value}{rest:List (Nat×Value)}(hp:place i=some (off,size))(hs:v.cells.size=size)(hle:off+size<=cells.size):
 Instr.fill place cells ((i,v)::rest)=Instr.fill place (hU cells.toList off v.cells.toList).toArray rest:=by
 rw [Instr.fill,hp];simp only;rw [if_neg (by simp;omega)]
 congr 1
 have h:=EM v.cells.toList off 0 cells (by simp;omega);rw [Nat.add_zero]at h;rw [<-h,<-Array.foldl_toList,Array.toList_zipIdx]
def R6(P:Program)(t:TypeId):Option (List (Nat×Nat)×List Value):=
 match P.info? t,P.underlying t with
 |some it,some (.struct fields)=>
  match it.zero,fields.toList.mapM (fun f=>(P.info? f.type).map fun i=>(f.offset,i.size))with
  |some z,some places=>some (places,z.cells.toList)
  |_,_=>none
 |_,_=>none
theorem nV{P:Program}{t:TypeId}{pl:List (Nat×Nat)}{z:List Value}(h:R6 P t=some (pl,z))(parts:List (Nat×Value)):
 P.built t parts=Instr.fill (pl.toArray[·]?) z.toArray parts:=by
 unfold R6 at h;split at h
 ·rename_i it fields h1 h2
  split at h
  ·rename_i z' pl' h3 h4
   simp only [Option.some.injEq,Prod.mk.injEq]at h;obtain⟨rfl,rfl⟩:=h;unfold Program.built;rw [h1,h2];simp only [h3,h4]
  ·cases h
 ·cases h
def pR:List Nat->Array Value
 | []=> #[]
 |D::l=> #[.pointer (some ⟨D,0,none⟩)]++pR l
theorem mw:∀l,marksOf (.agg (pR l))=l
 | []=>rfl
 |D::l=>by
  have ih:=mw l;simp only [pR,marksOf]at*;simp [ih]
theorem lC:∀(l:List Nat) (w:World),l.Nodup->(∀D∈l,w.heap[D]? =some (.deferred (some [])))->lg l w
 | [],_,_,_=>trivial
 |D::l,w,hn,h=>by
  rw [List.nodup_cons]at hn;refine⟨h D (by simp),lC l _ hn.2 fun E hE=>?_⟩;have fL:D≠E:=fun e=>hn.1 (by rw [e];exact hE);exact(World.putObj_heap_other fL.symm).trans (h E (by simp [hE]))
theorem jH:∀(l:List Nat) (w:World),Kept (· ∈l) w (gg l w)
 | [],w=>Kept.refl _ w
 |D::l,w=>((Kept.putAt w D (.deferred none)).mono (S':=fun k=>k∈D::l) (fun k _ e=>by subst e;simp)).trans (jH l _) (fun k _ h=>by simp [h])
open Go.RowKit
def yr{α:Type}(P:Program)(gf:FuncId)(first gI:Array Value)(xs:List α)(E:α->List Value->World->Prop)(DJ:World->Prop):Prop:=
 ∀(l:Nat) (I:Nat->(Nat->Prop)->World->Prop) (D:World->Prop) (w0:World),
  (∀i Pr Of w' jm,I i Pr w'->Kept Nil w' jm->(∀j,Of j->Pr j\/(w'.heap.size<=j/\j<jm.heap.size))->I i Of jm)->
  (∀w' jm,D w'->Kept Nil w' jm->D jm)->
  (∀i Pr w',I i Pr w'->DJ w')->I 0 Nil w0->
  (∀i x vs Pr w',xs[i]? =some x->E x vs w'->I i Pr w'->jC P l vs.toArray w' fun b jm=>(b=true->I (i+1) Pr jm/\Kept (fun j=>¬Pr j) w' jm)/\(b=false->D jm))->
  bu P gf (first++ #[.func (.yield l) #[] #[]]++gI) w0 fun _ w'=>(∃Pr,I xs.length Pr w')\/D w'
section
variable{P:Program}{n:Nat}
theorem Ai(mK:NG P)(mr:P.follows .mixedOrders=true)(C:List Nat){t:Nat}{ps:Array Tmp}{path:Code}{Q:aO}{ρ:Env}{w:World}{gf:FuncId}{first gI:Array Value}{fn:Func}
 (Ja:path=.rangeFunc (.tmp t) ps (rA path) (rB path)) (ht:t≠gN) (hf:find ρ t=some (.func (.func gf) first gI)) (Hf:P.funcs[gf]? =some fn) (hb:fn.body.isSome) (hm:yJ ρ)
 {ρ0:Env} (Z9:∀i v,i≠gN->find ρ0 i=some v->find ρ i=some v) (RV:find ρ0 gN=none)
 {α:Type} (xs:List α) (E:α->List Value->World->Prop) (QD:∀x vs w,E x vs w->vs.length=ps.size) (qU:∀t∈ps.toList,t<n/\t≠gN)
 {DJ:World->Prop} (hit:yr P gf first gI xs E DJ)
 (J:Nat->(Nat->Prop)->World->Prop) (Jd:Code->World->Prop)
 (hJ:∀i Pr Of w' jm R,Live (w.heap.size+1) w.heap.size R w'->J i Pr w'->Kept (· =w.heap.size+1) w' jm->(∀j,Of j->Pr j\/(w'.heap.size<=j/\j<jm.heap.size))->J i Of jm)
 (Jx:∀e w' jm R,Live (w.heap.size+1) w.heap.size R w'->Jd e w'->Kept (· =w.heap.size+1) w' jm->Jd e jm)
 (oE:∀i Pr w',J i Pr w'->DJ w')
 (h0:∀R,J 0 Nil ((w.alloc (.deferred (some []))).alloc (.loop R)))
 (Bl:∀i x vs Pr w' R,xs[i]? =some x->E x vs w'->J i Pr w'->Live (w.heap.size+1) w.heap.size R w'->(∀j,Pr j->w.heap.size+1<j/\j<w'.heap.size)->
   aY (some (w.heap.size+1)) [] P n C (rA path) (cF (rB path)) (fun e Mw w1=>match e with
    | .normal=>Live (w.heap.size+1) w.heap.size R w1/\∀w2 R2,Kept (· =w.heap.size+1) w1 w2->Live (w.heap.size+1) w.heap.size R2 w2->aY (some (w.heap.size+1)) [] P n C (rB path) [] (WZ (w.heap.size+1) w.heap.size R2 (fun u=>J (i+1) Pr u/\Kept (fun j=>¬Pr j) w' u) Jd) Mw w2
    |_=>False) (kX ρ0 (ps.toList.zip vs)) w')
 (Gu:∀Pr w' R,J xs.length Pr w'->Live (w.heap.size+1) w.heap.size R w'->Q .normal (gv ρ w.heap.size) w')
 (CW:∀w' R,Jd .ret w'->Live (w.heap.size+1) w.heap.size R w'->Q .ret (gv ρ w.heap.size) w')
 (sD:∀id w' R,Jd (.exit id) w'->Live (w.heap.size+1) w.heap.size R w'->Q (.exit id) (gv ρ w.heap.size) w'):
 Holds none [] P n path Q ρ w:=by
 rw [Ja];have fL:w.heap.size≠w.heap.size+1:=by omega
 refine vq mK ht hf Hf hb hm fun Bx tmps X0 IQ R hR=>?_;have C5:Live (w.heap.size+1) w.heap.size R ((w.alloc (.deferred (some []))).alloc (.loop R)):=by
  have h1:=aI (w.alloc (.deferred (some []))) (.loop R);simp only [World.alloc,Array.size_push]at h1⊢;exact⟨h1,jl (aI w _) _⟩
 have hRR:({R with state:=.ready,pending:=none}:Loop)=R:=by rw [hR]
 have Je:∀ {w' jm},Kept Nil w' jm->Kept (· =w.heap.size+1) w' jm:=fun h=>h.mono fun _ _ h=>h.elim;have x7:=hit (w.heap.size+1) (fun i Pr w'=>Live (w.heap.size+1) w.heap.size R w'/\J i Pr w'/\∀j,Pr j->w.heap.size+1<j/\j<w'.heap.size)
  (fun w'=>∃e,(e=.ret\/∃id,e=.exit id)/\Live (w.heap.size+1) w.heap.size {R with state:=.done,pending:=some e} w'/\Jd e w')
  ((w.alloc (.deferred (some []))).alloc (.loop R))
  (fun i Pr Of w' jm h k hp=>⟨h.1.aF k (fun h=>h) (fun h=>h),hJ i Pr Of w' jm R h.1 h.2.1 (Je k) hp,fun j hj=>by
    have hl:=aQ h.1.loop;have hs:=k.size;rcases hp j hj with e|e
    ·have:=h.2.2 j e;omega
    ·omega⟩)
  (fun w' jm h k=>by
    obtain⟨e,he,hl,hd⟩:=h;exact⟨e,he,hl.aF k (fun h=>h) (fun h=>h),Jx e w' jm _ hl hd (Je k)⟩)
  (fun i Pr w' h=>oE i Pr w' h.2.1) ⟨C5,h0 R,fun j hj=>hj.elim⟩
  (fun i a vs Pr w' ha hE h=>by
    obtain⟨hl,hj,P6⟩:=h;refine tM (n:=n) (ρ0:=ρ0) hl.loop (by rw [hR]) (by rw [hR];exact X0) (fun i v hi hv=>by rw [hR];exact IQ i v hi (Z9 i v hi hv)) RV (by rw [QD a vs w' hE,hR]) (by rw [hR];exact qU) ?_;have Jq:=Bl i a vs Pr w' R ha hE hj hl P6;rw [<-show R.params=ps by rw [hR],<-show R.assign=rA path by rw [hR],<-show R.body=rB path by rw [hR]]at Jq;refine Holds.mono (fI mK mr _ _ _ _ _ Jq) ?_;rintro e Mw w1 h1;cases e with
    |normal=>
     obtain⟨vV,h1⟩:=h1;refine⟨vV.loop,?_⟩;have rz:=vV.put fL {R with state:=.busy};refine Holds.mono (fI mK mr _ _ _ _ _ (h1 _ _ (Kept.putAt _ _ _) rz)) ?_;rintro e2 ρ2 w2 h2;cases e2 with
     |normal=>
      have LN:=h2.1.put fL {R with state:=.ready,pending:=none};have hrr:Live (w.heap.size+1) w.heap.size R (w2.putObj (w.heap.size+1) (.loop {R with state:=.ready,pending:=none})):=by
       rw [hRR]at LN⊢;exact LN
      have O9:=Kept.putAt w2 (w.heap.size+1) (.loop {R with state:=.ready,pending:=none});have mq:=h2.2.2.size;have qU:=O9.size;refine⟨_,h2.1.loop,fun _=>⟨⟨hrr,hJ _ Pr Pr _ _ _ h2.1 h2.2.1 O9 (fun j hj=>.inl hj),fun j hj=>?_⟩,h2.2.2.trans O9 (fun j _ e hn=>?_)⟩,fun h=>by cases h⟩
      ·have:=P6 j hj;omega
      ·have:=P6 j hn;omega
     |ret=>
      refine⟨_,h2.1.loop,(fun h=>by cases h),fun _=>⟨.ret,.inl rfl,h2.1.put fL _,Jx _ _ _ _ h2.1 h2.2 (Kept.putAt _ _ _)⟩⟩
     |exit id=>
      refine⟨_,h2.1.loop,(fun h=>by cases h),fun _=>⟨.exit id,.inr ⟨id,rfl⟩,h2.1.put fL _,Jx _ _ _ _ h2.1 h2.2 (Kept.putAt _ _ _)⟩⟩
     |_=>exact h2.elim
    |_=>exact h1.elim)
 refine Calls.mono x7 ?_;rintro e w2 ⟨v,rfl,h⟩;refine⟨v,rfl,?_⟩;rcases h with⟨Pr,hl,hj,_⟩|⟨e,he,hl,hj⟩
 ·refine⟨R.state,R.pending,hl.loop,by rw [hR];simp,?_⟩
  have hp:R.pending=none:=by rw [hR]
  rw [hp];have k:Kept (· =w.heap.size+1) w2 (w2.putObj (w.heap.size+1) (.loop {R with state:=.exhausted,pending:=none})):=Kept.putAt _ _ _;exact Gu Pr _ _ (hJ _ Pr Pr _ _ _ hl hj k (fun j hj=>.inl hj)) (hl.put fL _)
 ·refine⟨.done,some e,hl.loop,by simp,?_⟩
  have k:Kept (· =w.heap.size+1) w2 (w2.putObj (w.heap.size+1) (.loop {R with state:=.exhausted,pending:=some e})):=Kept.putAt _ _ _;rcases he with rfl|⟨id,rfl⟩
  ·exact CW _ _ (Jx _ _ _ _ hl hj k) (hl.put fL _)
  ·exact sD id _ _ (Jx _ _ _ _ hl hj k) (hl.put fL _)
end
end Go.bT
namespace Go.Proofs.YtfleamccglihoaaGreatDoor
open Go.Proofs.Tryz
open Go Go.bT Go.RowKit
def RE(cs:Array Value):Prop:=cs.size=32/\∀v∈cs.toList,∃i:Int,v=.int .u8 i/\0<=i/\i<256
abbrev HT:= {cs:Array Value//RE cs}
def key(h:HT):List Int:=h.1.toList.map mB
theorem RE.ints{cs:Array Value}(h:RE cs):dS .u8 32 cs:=⟨h.1,fun v hv=>let ⟨i,e,_⟩:=h.2 v hv;⟨i,e⟩⟩
theorem AZ:∀ {a b:List Value},(∀v∈a,∃i:Int,v=.int .u8 i)->(∀v∈b,∃i:Int,v=.int .u8 i)->a.map mB=b.map mB->a=b
 | [],[],_,_,_=>rfl
 | [],_::_,_,_,h=>by simp at h
 |_::_,[],_,_,h=>by simp at h
 |x::a,y::b,ha,hb,h=>by
  obtain⟨i,rfl⟩:=ha x (by simp);obtain⟨j,rfl⟩:=hb y (by simp);simp only [List.map_cons,List.cons.injEq,mB]at h;rw [h.1,AZ (fun v hv=>ha v (by simp [hv])) (fun v hv=>hb v (by simp [hv])) h.2]
theorem key_inj{a b:HT}(h:key a=key b):a=b:=by
 apply Subtype.ext;apply Array.ext';exact AZ (fun v hv=>a.2.ints.2 v hv) (fun v hv=>b.2.ints.2 v hv) h
instance:DecidableEq HT:=fun a b=>if h:key a=key b then isTrue (key_inj h)else isFalse fun e=>h (by rw [e])
theorem dO(a b:HT):e8 a.1 b.1=decide (a=b):=by
 unfold e8;by_cases e:a=b
 ·subst e;simp
 ·rw [decide_eq_false e]
  have:¬(key a=key b):=fun h=>e (key_inj h);simpa [key]using this
theorem RE.one{cs:Array Value}(h:RE cs):∀v∈cs.toList,v.oneCell'=true:=fun v hv=>by
 obtain⟨i,rfl,_⟩:=h.2 v hv;rfl
def uP:List Int->List Int->Bool
 | [],[]=>false
 | [],_::_=>true
 |_::_,[]=>false
 |x::a,y::b=>if x<y then true else if y<x then false else uP a b
def cU(a b:HT):Bool:=uP (key a) (key b)
theorem vI:∀a,uP a a=false
 | []=>rfl
 |x::a=>by simp [uP,vI a]
theorem xL:∀ {a b c},uP a b=true->uP b c=true->uP a c=true
 | [],[],_,h,_=>by simp [uP]at h
 | [],_::_,[],_,h=>by simp [uP]at h
 | [],_::_,_::_,_,_=>rfl
 |_::_,[],_,h,_=>by simp [uP]at h
 |_::_,_::_,[],_,h=>by simp [uP]at h
 |x::a,y::b,z::c,h,h'=>by
  simp only [uP]at*;by_cases h1:x<y
  ·by_cases h2:y<z
   ·rw [if_pos (by omega)]
   ·rw [if_neg h2]at h'
    by_cases h3:z<y
    ·rw [if_pos h3]at h';cases h'
    ·rw [if_pos (by omega)]
  ·rw [if_neg h1]at h
   by_cases h2:y<x
   ·rw [if_pos h2]at h;cases h
   ·rw [if_neg h2]at h
    by_cases h3:y<z
    ·rw [if_pos (by omega)]
    ·rw [if_neg h3]at h'
     by_cases h4:z<y
     ·rw [if_pos h4]at h';cases h'
     ·rw [if_neg h4]at h'
      rw [if_neg (by omega),if_neg (by omega)];exact xL h h'
theorem xM:∀ {a b},a.length=b.length->uP a b=false->uP b a=false->a=b
 | [],[],_,_,_=>rfl
 | [],_::_,h,_,_=>by simp at h
 |_::_,[],h,_,_=>by simp at h
 |x::a,y::b,hl,h,h'=>by
  simp only [uP]at*;by_cases h1:x<y
  ·rw [if_pos h1]at h;cases h
  ·rw [if_neg h1]at h
   by_cases h2:y<x
   ·rw [if_pos h2]at h';cases h'
   ·rw [if_neg h2]at h h'
    rw [if_neg h1]at h';have:x=y:=by omega
    rw [this,xM (by simpa using hl) h h']
theorem mZ(a:HT):(key a).length=32:=by have:=a.2.1;simpa [key]using this
theorem qv{a b:HT}(h:cU a b=false)(h':cU b a=false):a=b:=key_inj (xM (by rw [mZ,mZ]) h h')
theorem kH{a b c:HT}(h:cU a b=true)(h':cU b c=true):cU a c=true:=xL h h'
theorem iz(a:HT):cU a a=false:=vI _
theorem tz{a b:HT}(h:cU a b=true):cU b a=false:=by
 cases h':cU b a
 ·rfl
 ·have:=kH h h';rw [iz]at this;cases this
end Go.Proofs.YtfleamccglihoaaGreatDoor
namespace Go.Proofs.YtfleamccglihoaaGreatDoor
open Go.Proofs.Tryz
open Go Go.bT
def SS(l:List HT):Prop:=l.Pairwise fun a b=>cU a b=true
theorem SS.nodup{l:List HT}(h:SS l):l.Nodup:=List.Pairwise.imp (fun {a b} lI e=>by subst e;rw [iz]at lI;cases lI) h
theorem SS.cons{x:HT}{l:List HT}:SS (x::l)↔(∀y∈l,cU x y=true)/\SS l:=List.pairwise_cons
theorem zo:∀ {l m:List HT},SS l->SS m->(∀x,x∈l↔x∈m)->l=m
 | [],[],_,_,_=>rfl
 | [],y::m,_,_,h=>by have:=(h y).2 (by simp);simp at this
 |x::l,[],_,_,h=>by have:=(h x).1 (by simp);simp at this
 |x::l,y::m,hl,hm,h=>by
  rw [SS.cons]at hl hm;have oY:x=y:=by
   have h1:=(h x).1 (by simp);have h2:=(h y).2 (by simp);rcases List.mem_cons.1 h1 with h1|h1
   ·exact h1
   ·rcases List.mem_cons.1 h2 with h2|h2
    ·exact h2.symm
    ·have a:=hl.1 _ h2
     have b:=hm.1 _ h1;rw [tz a]at b;cases b
  subst oY
  congr 1
  refine zo hl.2 hm.2 fun z=>?_;have hz:=h z;constructor
  ·intro hzl
   rcases List.mem_cons.1 (hz.1 (by simp [hzl]))with e|e
   ·subst e;have:=hl.1 _ hzl;rw [iz]at this;cases this
   ·exact e
  ·intro hzm
   rcases List.mem_cons.1 (hz.2 (by simp [hzm]))with e|e
   ·subst e;have:=hm.1 _ hzm;rw [iz]at this;cases this
   ·exact e
def ins(x:HT):List HT->List HT
 | []=> [x]
 |y::l=>if cU x y then x::y::l else if x=y then y::l else y::ins x l
theorem yI(x z:HT):∀l,z∈ins x l↔z=x\/z∈l
 | []=>by simp [ins]
 |y::l=>by
  unfold ins;split
  ·simp
  ·split
   ·rename_i e;subst e;simp
   ·simp only [List.mem_cons,yI x z l]
    constructor
    ·rintro(h|h|h)<;>simp [h]
    ·rintro(h|h|h)<;>simp [h]
theorem Kg(x:HT):∀ {l:List HT},SS l->SS (ins x l)
 | [],_=>by simp [ins,SS]
 |y::l,h=>by
  have h':=SS.cons.1 h;unfold ins;split
  ·rename_i oY
   refine SS.cons.2 ⟨fun z hz=>?_,h⟩;rcases List.mem_cons.1 hz with rfl|hz
   ·exact oY
   ·exact kH oY (h'.1 _ hz)
  ·split
   ·exact h
   ·rename_i h1 h2
    refine SS.cons.2 ⟨fun z hz=>?_,Kg x h'.2⟩;rcases(yI x z l).1 hz with rfl|hz
    ·cases RF:cU y z
     ·exact absurd (qv RF (by simpa using h1)).symm h2
     ·rfl
    ·exact h'.1 _ hz
def dw(l:List HT):List HT:=l.foldr ins []
theorem dM{z:HT}:∀ {l:List HT},z∈dw l↔z∈l
 | []=>by simp [dw]
 |x::l=>by
  have:= @dM z l;simp only [dw,List.foldr_cons,yI,List.mem_cons]at this⊢;rw [this]
theorem jh:∀l:List HT,SS (dw l)
 | []=>List.Pairwise.nil
 |x::l=>Kg x (jh l)
theorem DW{l m:List HT}(h:∀x,x∈l↔x∈m):dw l=dw m:=zo (jh l) (jh m) fun x=>by rw [dM,dM,h]
theorem yx{l m:List HT}(hs:SS l)(h:∀x,x∈l↔x∈m):l=dw m:=zo hs (jh m) fun x=>by rw [dM,h]
theorem Et(x:HT):∀l,(ins x l).length<=l.length+1
 | []=>by simp [ins]
 |y::l=>by
  have:=Et x l;unfold ins;split
  ·simp
  ·split<;>simp<;>omega
theorem qi:∀l:List HT,(dw l).length<=l.length
 | []=>by simp [dw]
 |x::l=>by
  have h1:=Et x (dw l);have h2:=qi l;simp only [dw,List.foldr_cons,List.length_cons]at*;omega
theorem rv{x:HT}:∀ {l:List HT},x∉l->(ins x l).length=l.length+1
 | [],_=>by simp [ins]
 |y::l,h=>by
  simp only [List.mem_cons,not_or]at h;have:=rv h.2;unfold ins;split
  ·simp
  ·rw [if_neg h.1];simp;omega
theorem qM:∀ {l:List HT},l.Nodup->(dw l).length=l.length
 | [],_=>by simp [dw]
 |x::l,h=>by
  rw [List.nodup_cons]at h;have h2:=qM h.2;have:=rv (l:=dw l) (x:=x) (fun hm=>h.1 (dM.1 hm));simp only [dw,List.foldr_cons,List.length_cons]at*;omega
theorem ud{x:HT}:∀ {l:List HT},SS l->x∈l->(ins x l).length=l.length
 | [],_,h=>by simp at h
 |y::l,hs,h=>by
  have h':=SS.cons.1 hs;unfold ins;split
  ·rename_i oY
   rcases List.mem_cons.1 h with rfl|h
   ·rw [iz]at oY;cases oY
   ·have:=h'.1 _ h;rw [tz oY]at this;cases this
  ·split
   ·rfl
   ·rename_i h1 h2
    rcases List.mem_cons.1 h with rfl|h
    ·exact absurd rfl h2
    ·simp [ud h'.2 h]
theorem se:∀ {l:List HT},(dw l).length=l.length->l.Nodup
 | [],_=>List.Pairwise.nil
 |x::l,h=>by
  have h2:=qi l;by_cases hm:x∈l
  ·have:=ud (jh l) (dM.2 hm)
   simp only [dw,List.foldr_cons,List.length_cons]at*;omega
  ·have h3:=rv (l:=dw l) (x:=x) (fun h=>hm (dM.1 h))
   simp only [dw,List.foldr_cons,List.length_cons]at*;exact List.nodup_cons.2 ⟨hm,se (by simp only [dw];omega)⟩
theorem KS:dw []= []:=rfl
theorem uM(x:HT):dw [x]= [x]:=rfl
theorem HJ{l:List HT}(h:SS l):dw l=l:=(yx h fun _=>Iff.rfl).symm
theorem Kf{l:List HT}{x:HT}{k:Nat}(hs:SS l)(h1:∀y∈l.take k,cU y x=true)(h2:∀y∈l.drop k,cU x y=true):SS (l.take k++x::l.drop k):=by
 unfold SS at*;rw [<-List.take_append_drop k l,List.pairwise_append]at hs;rw [List.pairwise_append,List.pairwise_cons];refine⟨hs.1,⟨h2,hs.2.1⟩,fun y hy z hz=>?_⟩;rcases List.mem_cons.1 hz with rfl|hz
 ·exact h1 y hy
 ·exact hs.2.2 y hy z hz
theorem SS.get{l:List HT}(h:SS l){i j:Nat}(rM:i<j){x y:HT}(hx:l[i]? =some x)(hy:l[j]? =some y):cU x y=true:=by
 obtain⟨h1,rfl⟩:=lgeS hx;obtain⟨h2,rfl⟩:=lgeS hy;exact List.pairwise_iff_getElem.1 h i j h1 h2 rM
theorem EV{l:List HT}{x:HT}(hs:SS l)(h:∀y∈l,cU y x=true):SS (l++ [x]):=by
 have:=Kf (k:=l.length) hs (x:=x) (by simpa using h) (by simp);simpa using this
def LE(l:List HT):Prop:=l.Pairwise fun a b=>cU b a=false
theorem lt_of_le_ne{a b:HT}(h:cU b a=false)(hn:a≠b):cU a b=true:=by
 cases lI:cU a b
 ·exact absurd (qv lI h) hn
 ·rfl
theorem tZ{a b c:HT}(h:cU b a=false)(h':cU b c=true):cU a c=true:=by
 by_cases e:a=b
 ·subst e;exact h'
 ·exact kH (lt_of_le_ne h e) h'
theorem LE.get{l:List HT}(h:LE l){i j:Nat}(rM:i<j){x y:HT}(hx:l[i]? =some x)(hy:l[j]? =some y):cU y x=false:=by
 obtain⟨h1,rfl⟩:=lgeS hx;obtain⟨h2,rfl⟩:=lgeS hy;exact List.pairwise_iff_getElem.1 h i j h1 h2 rM
theorem bO{l:List HT}{k:Nat}{x z:HT}(hx:l[k]? =some x):z∈l.take (k+1)↔z∈l.take k\/z=x:=by
 rw [List.take_add_one,hx];simp
open Go.RowKit
theorem eW(a:Addr)(k:Nat):(a.add k).block=a.block:=by unfold Addr.add;split<;>rfl
theorem aR{σ:Type}(e:σ->Env)(I:σ->World->Prop)(μ:σ->World->Nat)(s:σ)(w:World)(Q:aO)(l:Nat)(ρ:Env)(w':World):bQ e I μ s w Q (.exit l) ρ w'=Q (.exit l) ρ w':=rfl
theorem iT{σ:Type}(e:σ->Env)(I:σ->World->Prop)(μ:σ->World->Nat)(s:σ)(w:World)(Q:aO)(ρ:Env)(w':World):bQ e I μ s w Q .ret ρ w'=Q .ret ρ w':=rfl
theorem gQ{x:Int}(h0: -9223372036854775808<=x)(h1:x<9223372036854775808):i64.wrap x=x:=by
 simp only [IntKind.wrap,IntKind.bits,IntKind.signed];simp;omega
theorem Cells.aF{S:Nat->Prop}{w w':World}{a:Addr}{cs:Array Value}(h:Cells w a cs)(hk:Kept S w w')(hn:¬S a.block):Cells w' a cs:=
 fun j v hj=>hk.cell (h j v hj) (by rw [eW];exact hn)
theorem Cells.bI{w:World}{b:Nat}{cs:Array Value}{t:TypeId}{fr:Nat×Nat}(h:w.heap[b]? =some (.cells cs t fr)):Cells w ⟨b,0,none⟩ cs:=
 fun j v hj=>by rw [br,Nat.zero_add,aD h];exact hj
structure HS(w:World)(A:Option Addr)(n:Nat)(l:List HT):Prop where
 len:l.length=n
 at_:∀(i:Nat) (h:HT),l[i]? =some h->∃a,A=some a/\a.block<w.heap.size/\Cells w (a.add (i*32)) h.1
theorem HS.aF{S:Nat->Prop}{w w':World}{A:Option Addr}{n:Nat}{l:List HT}(h:HS w A n l)(hk:Kept S w w')(hn:∀a,A=some a->¬S a.block):HS w' A n l:=⟨h.len,fun i x hi=>by
 obtain⟨a,h1,h2,h3⟩:=h.at_ i x hi;exact⟨a,h1,Nat.lt_of_lt_of_le h2 hk.size,Cells.aF h3 hk (by rw [eW];exact hn a h1)⟩⟩
theorem HS.same{w w':World}{A:Option Addr}{n:Nat}{l:List HT}(h:HS w A n l)(hk:Kept Nil w w'):HS w' A n l:=h.aF hk fun _ _ h=>h
section
variable{w:World}{K:Value->World->Prop}
theorem yC{A:Option Addr}{n c:Nat}{l:List HT}(h:HT)(hl:HS w A n l)(hn:n<=1000000)(hK:∀w',Kept Nil w w'->K (.bool (decide (h∈l))) w'):
 bu prog cS.id #[.slice A n c,.agg h.1] w K:=by
 refine cS.of ?_;unfold cS.W;intro w3;have k3:Kept Nil w w3:=(Kept.refl Nil w).alloc _;have nI:w3.heap[w.heap.size]? =some (.cells h.1 ah (0,0)):=aI w _;clear_value w3;have hlen:=hl.len;refine cS.cy (I:=fun s w'=>∃i:Nat,s=(false,(i:Int))/\i<=n/\Kept Nil w3 w'/\h∉l.take i) (μ:=fun s _=>((n:Int)-s.2).toNat) (s:=(false,0)) ⟨0,rfl,Nat.zero_le _,Kept.refl _ _,by simp⟩ ?_;rintro s w' ⟨i,rfl,hi,kw,lH⟩;refine Split.dec (fun cU=>?_) (fun gH=>?_)
 ·simp only at cU
  have dV:i<n:=by omega
  obtain⟨x,hx⟩:∃x,l[i]? =some x:=⟨_,List.getElem?_eq_getElem (by omega)⟩;have kk:Kept Nil w w'.drew:=(k3.tt kw).drew;obtain⟨a,rfl,_,hc⟩:=(hl.same kk).at_ i x hx;intro w8;have k8:Kept Nil w3 w8:=kw.drew;refine⟨⟨by simp only;omega,by simp only;omega⟩,x.1,⟨x.2.1,hc⟩,h.1,⟨h.2.1,Cells.bI (k8.heap nI (fun h=>h))⟩,⟨x.2.ints,h.2.ints⟩,?_⟩;rw [dO];have Rw:Kept Nil w w8:=kk;refine Split.dec (fun he=>?_) (fun he=>?_)
  ·have:=hK w8 Rw
   rw [decide_eq_true (by rw [<-he];exact List.mem_of_getElem? hx)]at this;exact this
  ·simp only
   rw [gQ (x:=(i:Int)+1) (by omega) (by omega)];refine⟨(false,(i:Int)+1),rfl,⟨i+1,rfl,dV,k8,?_⟩,by simp only;omega⟩;rw [List.take_add_one,hx];simp only [Option.toList_some,List.mem_append,List.mem_singleton,not_or];exact⟨lH,fun e=>he e.symm⟩
 ·simp only at gH
  rw [aR,cS.df];have:=hK w' (k3.tt kw);rw [List.take_of_length_le (by omega)]at lH;rw [decide_eq_false lH]at this;exact this
theorem FE{A A':Option Addr}{n n' c c':Nat}{l l':List HT}(hl:HS w A n l)(Vd:HS w A' n' l')(hn:n<=1000000)(hK:∀w',Kept Nil w w'->K (.bool (decide (l=l'))) w'):
 bu prog bZ.id #[.slice A n c,.slice A' n' c'] w K:=by
 have hlen:=hl.len;have Ji:=Vd.len;refine bZ.of ?_;by_cases fL:n=n'
 ·subst fL
  refine Split.no (by simp) ?_;refine bZ.cy (I:=fun s w'=>∃i:Nat,s=(false,(i:Int))/\i<=n/\Kept Nil w w'/\l.take i=l'.take i) (μ:=fun s _=>((n:Int)-s.2).toNat) (s:=(false,0)) ⟨0,rfl,Nat.zero_le _,Kept.refl _ _,by simp⟩ ?_;rintro s w' ⟨i,rfl,hi,kw,heq⟩;refine Split.dec (fun cU=>?_) (fun gH=>?_)
  ·simp only at cU
   have dV:i<n:=by omega
   obtain⟨x,hx⟩:∃x,l[i]? =some x:=⟨_,List.getElem?_eq_getElem (by omega)⟩;obtain⟨y,hy⟩:∃y,l'[i]? =some y:=⟨_,List.getElem?_eq_getElem (by omega)⟩;have kk:Kept Nil w w'.drew:=kw.drew;obtain⟨a,rfl,_,hc⟩:=(hl.same kk).at_ i x hx;obtain⟨a',rfl,_,tB⟩:=(Vd.same kk).at_ i y hy;intro w7;have k7:Kept Nil w w7:=kk;have hb:0<=(i:Int)/\(i:Int)<(n:Int):=⟨by omega,by omega⟩;refine⟨hb,x.1,⟨x.2.1,hc⟩,hb,y.1,⟨y.2.1,tB⟩,⟨x.2.ints,y.2.ints⟩,?_⟩;rw [dO];by_cases he:x=y
   ·refine Split.no (by simp [he]) ?_
    simp only;rw [gQ (x:=(i:Int)+1) (by omega) (by omega)];refine⟨(false,(i:Int)+1),rfl,⟨i+1,rfl,dV,k7,?_⟩,by simp only;omega⟩;rw [List.take_add_one,List.take_add_one,hx,hy,heq,he]
   ·refine Split.yes (by simp [he]) ?_
    have:=hK w7 k7;rw [decide_eq_false (fun e=>he (by rw [e,hy]at hx;exact(Option.some.inj hx).symm))]at this;exact this
  ·simp only at gH
   rw [aR,bZ.df];have:=hK w' kw;rw [List.take_of_length_le (by omega),List.take_of_length_le (by omega)]at heq;rw [decide_eq_true heq]at this;exact this
 ·refine Split.yes (by simp;omega) ?_
  have:=hK w (Kept.refl _ _);rw [decide_eq_false (fun e=>fL (by rw [<-hlen,<-Ji,e]))]at this;exact this
end
def lV(a b:HT):Int:=if cU a b then-1 else if cU b a then 1 else 0
theorem vJ:∀(i:Nat) (a b:List Int),a.take i=b.take i->uP a b=uP (a.drop i) (b.drop i)
 |0,a,b,_=>rfl
 |i+1,[],[],_=>rfl
 |i+1,[],y::b,h=>by simp at h
 |i+1,x::a,[],h=>by simp at h
 |i+1,x::a,y::b,h=>by
  simp only [List.take_succ_cons,List.cons.injEq]at h;obtain⟨rfl,h⟩:=h;simp only [uP,List.drop_succ_cons];rw [if_neg (by omega),if_neg (by omega)];exact vJ i a b h
theorem yL{h:HT}{i:Nat}(hi:i<32):∃x:Int,h.1[i]? =some (.int .u8 x)/\(key h)[i]? =some x/\0<=x/\x<256:=by
 have hs:i<h.1.size:=by rw [h.2.1];exact hi
 obtain⟨x,hx,h1,h2⟩:=h.2.2 h.1[i] (by simp);refine⟨x,by rw [Array.getElem?_eq_getElem hs,hx],?_,h1,h2⟩;unfold key;rw [List.getElem?_map,Array.getElem?_toList,Array.getElem?_eq_getElem hs,hx];rfl
section
variable{w:World}{K:Value->World->Prop}
theorem tU(a b:HT)(hK:∀w',Kept Nil w w'->K (.int .i64 (lV a b)) w'):bu prog bM.id #[.agg a.1,.agg b.1] w K:=by
 refine bM.of ?_;unfold bM.W;intro w3 w4;have k3:Kept Nil w w3:=(Kept.refl Nil w).alloc _;have k4:Kept Nil w w4:=k3.alloc _;have Bm:w4.heap[w.heap.size]? =some (.cells a.1 ah (0,0)):=jl (aI w _) _;have rD:w4.heap[w3.heap.size]? =some (.cells b.1 ah (0,0)):=aI w3 _;clear_value w4;refine bM.cy (I:=fun s w'=>∃i:Nat,s=(0,(i:Int))/\i<=32/\Kept Nil w4 w'/\(key a).take i=(key b).take i) (μ:=fun s _=>(32-s.2).toNat) (s:=(0,0)) ⟨0,rfl,by omega,Kept.refl _ _,by simp⟩ ?_;rintro s w' ⟨i,rfl,hi,kw,heq⟩;refine Split.dec (fun jN=>?_) (fun gH=>?_)
 ·simp only at jN
  have dV:i<32:=by omega
  obtain⟨x,hx,kx,_⟩:=yL (h:=a) dV;obtain⟨y,hy,ky,_⟩:=yL (h:=b) dV;have e1:cU a b=uP ((key a).drop i) ((key b).drop i):=vJ i _ _ heq;have e2:cU b a=uP ((key b).drop i) ((key a).drop i):=vJ i _ _ heq.symm;have da:(key a).drop i=x::(key a).drop (i+1):=by
   obtain⟨h1,h2⟩:=lgeS kx;rw [List.drop_eq_getElem_cons h1,h2]
  have db:(key b).drop i=y::(key b).drop (i+1):=by
   obtain⟨h1,h2⟩:=lgeS ky;rw [List.drop_eq_getElem_cons h1,h2]
  rw [da,db]at e1 e2;simp only [uP]at e1 e2;intro w9;have k9:Kept Nil w4 w9:=kw.drew;clear_value w9;have hb:0<=(i:Int)/\(i:Int)<32:=⟨by omega,by omega⟩;have ca:∀ {w':World},Kept Nil w4 w'->w'.cell? ((⟨w.heap.size,0,none⟩:Addr).add ((i:Int).toNat*1))=some (.int .u8 x):=fun k=>by
   rw [br,Nat.zero_add,Nat.mul_one,Int.toNat_natCast,aD (k.heap Bm (fun h=>h))];exact hx
  have cb:∀ {w':World},Kept Nil w4 w'->w'.cell? ((⟨w3.heap.size,0,none⟩:Addr).add ((i:Int).toNat*1))=some (.int .u8 y):=fun k=>by
   rw [br,Nat.zero_add,Nat.mul_one,Int.toNat_natCast,aD (k.heap rD (fun h=>h))];exact hy
  refine⟨hb,x,ca k9,hb,y,cb k9,Split.dec (fun oY=>?_) (fun oY=>?_)⟩
  ·have:=hK w9 (k4.tt k9)
   rw [show lV a b= -1 by unfold lV;rw [e1,if_pos oY];rfl]at this;exact this
  ·intro lL
   have wI:Kept Nil w4 lL:=k9.drew;clear_value lL;refine⟨hb,x,ca wI,hb,y,cb wI,Split.dec (fun Ev=>?_) (fun Ev=>?_)⟩
   ·have:=hK lL (k4.tt wI)
    rw [show lV a b=1 by unfold lV;rw [e1,e2,if_neg oY,if_pos (show y<x from Ev),if_pos (show y<x from Ev)];rfl]at this;exact this
   ·simp only
    rw [gQ (x:=(i:Int)+1) (by omega) (by omega)];refine⟨(0,(i:Int)+1),rfl,⟨i+1,rfl,dV,wI,?_⟩,by simp only;omega⟩;have:x=y:=by omega
    rw [List.take_add_one,List.take_add_one,kx,ky,heq,this]
 ·simp only at gH
  rw [aR,bM.df];have:=hK w' (k4.tt kw);have lI:a=b:=by
   apply key_inj;rw [List.take_of_length_le (by rw [mZ];omega),List.take_of_length_le (by rw [mZ];omega)]at heq;exact heq
  rw [show lV a b=0 by unfold lV;rw [lI,iz];rfl]at this;exact this
end
theorem EO{x y:Int}(hx:0<=x/\x<256)(hy:0<=y/\y<256):(x.toNat.toUInt8<y.toNat.toUInt8)↔x<y:=by
 rw [UInt8.lt_iff_toNat_lt];simp only [Nat.toUInt8,UInt8.toNat_ofNat'];omega
theorem nU:∀ {a b:List Int},a.length=b.length->(∀x∈a,0<=x/\x<256)->(∀x∈b,0<=x/\x<256)->
 Lib.compareBytes (Lib.bytesOf a) (Lib.bytesOf b)=if uP a b then-1 else if uP b a then 1 else 0
 | [],[],_,_,_=>rfl
 | [],_::_,h,_,_=>by simp at h
 |_::_,[],h,_,_=>by simp at h
 |x::a,y::b,h,ha,hb=>by
  have hx:=ha x (by simp);have hy:=hb y (by simp);have ih:=nU (a:=a) (b:=b) (by simpa using h) (fun z hz=>ha z (by simp [hz])) (fun z hz=>hb z (by simp [hz]));simp only [Lib.bytesOf,List.map_cons,Lib.compareBytes,EO hx hy,EO hy hx,uP];by_cases h1:x<y
  ·simp [h1]
  ·by_cases h2:y<x
   ·simp [h1,h2]
   ·simp only [h1,h2,if_false]
    exact ih
theorem xR(h:HT):∀x∈key h,0<=x/\x<256:=by
 intro x hx;simp only [key,List.mem_map]at hx;obtain⟨v,hv,rfl⟩:=hx;obtain⟨i,rfl,h1,h2⟩:=h.2.2 v hv;exact⟨h1,h2⟩
theorem sF(a b:HT):Lib.compareBytes (Lib.bytesOf (key a)) (Lib.bytesOf (key b))=lV a b:=
 nU (by rw [mZ,mZ]) (xR a) (xR b)
section
variable{w:World}{K:Value->World->Prop}
theorem tD(a b:HT){p q:Addr}{c c':Nat}(ha:Cells w p a.1)(hb:Cells w q b.1)(hK:K (.int .i64 (lV a b)) w):
 bu prog iA.id #[.slice (some p) 32 c,.slice (some q) 32 c'] w K:=by
 refine iA.of ⟨.int .i64 (lV a b),w,?_,_,rfl,hK⟩;have Bj:∀(h:HT) (r:Addr),Cells w r h.1->∀j x,(key h)[j]? =some x->w.cell? (r.add j)=some (.int .u8 x):=by
  intro h r hr j x hx;have hj:j<32:=by have:=(lgeS hx).1;rw [mZ]at this;exact this
  obtain⟨y,hy,ky,_⟩:=yL (h:=h) hj;rw [hx]at ky;cases ky;exact hr j _ hy
 have l1:=Lib.run_loadBytesX (P:=prog) w (key a) p .empty (Bj a p ha);have l2:=Lib.run_loadBytesX (P:=prog) w (key b) q .empty (Bj b q hb);rw [mZ]at l1 l2;rw [run_callFunc_extern uF.at_ (by kernel_rfl) (by kernel_rfl) (by kernel_rfl) (e:=Extern.BytealgCompare.compare) (by kernel_rfl)];have hr:(Extern.BytealgCompare.compare #[.slice (some p) 32 c,.slice (some q) 32 c']).run prog w=.ok (.int .i64 (lV a b)) w:=by
  change Sem.run prog (do pure (goInt (Extern.BytealgCompare.cmp (<-Extern.Bytes.bytesOf (.slice (some p) 32 c)) (<-Extern.Bytes.bytesOf (.slice (some q) 32 c'))))) w=_
  simp only [Extern.Bytes.bytesOf,Sem.run_bind,l1,l2,Result.andThen_ok,Sem.run_pure,Lib.cmp_eq,goInt];rw [<-sF];simp
 rw [hr];rfl
theorem pZ(a b:HT)(hK:K (.int .i64 (lV a b)) ((w.alloc (.cells a.1 ah)).alloc (.cells b.1 ah)).drew):bu prog dD.id #[.agg a.1,.agg b.1] w K:=by
 refine dD.of ?_;unfold dD.W;intro w3 w4 w5;have ha:w5.heap[w.heap.size]? =some (.cells a.1 ah (0,0)):=jl (aI w _) _;have hb:w5.heap[w3.heap.size]? =some (.cells b.1 ah (0,0)):=aI w3 _;simp only [if_neg (show ¬(32:Nat)=0 by omega),Nat.zero_mul,add_zero,Nat.sub_zero];exact tD a b (Cells.bI ha) (Cells.bI hb) ⟨_,rfl,hK⟩
end
theorem lW(a:Addr)(m n:Nat):(a.add m).add n=a.add (m+n):=by
 unfold Addr.add;by_cases hm:m=0<;>by_cases hn:n=0<;>simp [hm,hn,Nat.add_assoc]
def c9(l:List HT):List Value:=l.flatMap fun h=>h.1.toList
theorem lS(h:HT)(l:List HT):c9 (h::l)=h.1.toList++c9 l:=by simp [c9]
theorem mL(l m:List HT):c9 (l++m)=c9 l++c9 m:=by simp [c9]
theorem eV:∀l:List HT,(c9 l).length=l.length*32
 | []=>rfl
 |h::l=>by
  have:=h.2.1;rw [lS,List.length_append,eV l,Array.length_toList,this,List.length_cons];omega
theorem C9(l:List HT):∀u∈c9 l,u.oneCell'=true:=by
 intro u hu;simp only [c9,List.mem_flatMap]at hu;obtain⟨h,_,hu⟩:=hu;exact h.2.one u hu
theorem lE:∀ {l:List HT} {i:Nat} {h:HT},l[i]? =some h->∀ {j:Nat} {v:Value},h.1[j]? =some v->(c9 l)[i*32+j]? =some v
 | [],_,_,hi,_,_,_=>by simp at hi
 |x::l,0,h,hi,j,v,hj=>by
  simp only [List.getElem?_cons_zero,Option.some.injEq]at hi;subst hi;have cU:j<x.1.toList.length:=by simpa using (Array.getElem?_eq_some_iff.1 hj).1
  rw [lS,Nat.zero_mul,Nat.zero_add,List.getElem?_append_left cU,Array.getElem?_toList,hj]
 |x::l,i+1,h,hi,j,v,hj=>by
  simp only [List.getElem?_cons_succ]at hi;have:=x.2.1;rw [lS,List.getElem?_append_right (by simp;omega),Array.length_toList,this,show(i+1)*32+j-32=i*32+j by omega];exact lE hi hj
theorem Gv{l:List HT}{j:Nat}{v:Value}(h:(c9 l)[j]? =some v):∃x,l[j/32]? =some x/\x.1[j%32]? =some v:=by
 have hj:=(lgeS h).1;rw [eV]at hj;have hi:j/32<l.length:=by omega
 refine⟨l[j/32],List.getElem?_eq_getElem hi,?_⟩;have hs:=l[j/32].2.1;have hm:j%32<l[j/32].1.size:=by rw [hs];omega
 obtain⟨u,hu⟩:∃u,l[j/32].1[j%32]? =some u:=⟨_,Array.getElem?_eq_getElem hm⟩;have:=lE (List.getElem?_eq_getElem hi) hu;rw [show j/32*32+j%32=j by omega,h]at this;rw [hu,this]
theorem pw:zD prog ay ah 32 32:=⟨by kernel_rfl,by kernel_rfl⟩
abbrev bK(w:World)(B:Nat)(A:Option Addr)(n c:Nat)(l:List HT):Prop:=Row w B ah 32 A n c (c9 l)
section
variable{w w':World}{B:Nat}{A:Option Addr}{n c:Nat}{l:List HT}
theorem bK.len(h:bK w B A n c l):l.length=n:=by
 have:=Row.len h;rw [eV]at this;omega
theorem bK.hs(h:bK w B A n c l):HS w A n l:=⟨h.len,fun i x hi=>by
 have hlen:=h.len;have dV:=(lgeS hi).1;obtain⟨b,rfl⟩:=Row.some h (by omega);obtain⟨_,cur,jy⟩:=Row.bI h (k:=b) rfl;refine⟨_,rfl,aQ jy,fun j v hj=>?_⟩;rw [lW];exact Row.cells h _ _ (lE hi hj)⟩
theorem bK.nil(w:World)(B:Nat):bK w B none 0 0 []:=Row.nil _ _ _ _
theorem HS.cells{a:Addr}(h:HS w (some a) n l):∀j u,(c9 l)[j]? =some u->w.cell? (a.add j)=some u:=by
 intro j u hj;obtain⟨x,hx,hu⟩:=Gv hj;obtain⟨a',ha,_,hc⟩:=h.at_ _ x hx;cases ha;have:=hc _ _ hu
 rwa [lW,show j/32*32+j%32=j by omega]at this
theorem HS.nil(w:World)(A:Option Addr):HS w A 0 []:=⟨rfl,fun i x hi=>by simp at hi⟩
theorem HS.none(h:HS w none n l):n=0/\l= []:=by
 cases l with
 |nil=>exact⟨h.len.symm,rfl⟩
 |cons x l=>obtain⟨a,ha,_⟩:=h.at_ 0 x rfl;cases ha
theorem HS.take(h:HS w A n l){k:Nat}(hk:k<=n):HS w A k (l.take k):=⟨by have:=h.len;simp;omega,fun i x hi=>by
 rw [List.getElem?_take]at hi;split at hi
 ·exact h.at_ i x hi
 ·cases hi⟩
theorem HS.drop(h:HS w A n l){k:Nat}(hc:n<=c)(hk:k<=n):HS w (if c=k then A else A.map (·.add (k*32))) (n-k) (l.drop k):=⟨by have:=h.len;simp;omega,fun i x hi=>by
 rw [List.getElem?_drop]at hi;have hlen:=h.len;have:=(lgeS hi).1;obtain⟨a,rfl,hb,qH⟩:=h.at_ _ x hi;rw [if_neg (by omega)];refine⟨_,rfl,by rw [eW];exact hb,?_⟩;rw [lW,<-Nat.add_mul];exact qH⟩
theorem HS.one{w:World}{b:Nat}{h:HT}{t:TypeId}{fr:Nat×Nat}(hb:w.heap[b]? =some (.cells h.1 t fr)):HS w (some ⟨b,0,Option.none⟩) 1 [h]:=⟨rfl,fun i x hi=>by
 cases i with
 |zero=>
  simp only [List.getElem?_cons_zero,Option.some.injEq]at hi;subst hi;exact⟨_,rfl,aQ hb,by rw [Nat.zero_mul,add_zero];exact Cells.bI hb⟩
 |succ i=>simp at hi⟩
theorem ct(ty:Nat)(h:bK w B A n c l){A2:Option Addr}{m cx:Nat}{l2:List HT}(h2:HS w A2 m l2)(hm:n+m<=1000000)(hB:B<=w.heap.size):
 ∃A' c' w',(Builtin.append_ #[ay,ay] ty #[.slice A n c,.slice A2 m cx]).run prog w=.ok (.slice A' (n+m) c') w'/\
  bK w' B A' (n+m) c' (l++l2)/\w.grownBy w' (a8 A)/\(∀k,a8 A'=some k->a8 A=some k\/w.heap.size<=k):=by
 cases A2 with
 |some a=>
  have rz:=h2.len;obtain⟨A',c',w',hr,fE,hg,hb⟩:=fP (P:=prog) (t:=ay) (bytes:=32) (ty:=ty) pw h (a:=a) (m:=m) (cx:=cx) (news:=c9 l2) (by rw [eV,rz]) h2.cells (C9 l2) (by omega) (by unfold maxLen;omega) hB;refine⟨A',c',w',hr,?_,hg,hb⟩;rw [<-mL]at fE;exact fE
 |none=>
  obtain⟨rfl,rfl⟩:=h2.none;refine⟨A,c,w,?_,by simpa using h,⟨rfl,rfl,rfl,Nat.le_refl _,fun _ _ _=>rfl⟩,fun k hk=>.inl hk⟩;obtain⟨i,z,hi,hz,hs,KC,Eu⟩:=pw.inf;have hn:n<=c:=by rcases Row.own h with⟨_,h1,h2,_⟩|⟨_,_,_,_,_,h1,_⟩<;>omega
  simp [Builtin.append_,run_underlying pw.pg,sizeOf,typeInfo,hi,Builtin.lenOf,Builtin.firstCells,hn];cases A<;>simp [storeCells]
end
theorem HS.load{w:World}{A:Option Addr}{n:Nat}{l:List HT}(hl:HS w A n l){i:Int}{x:HT}(h0:0<=i)(hx:l[i.toNat]? =some x){k:Array Value->Prop}(hk:k x.1):
 (0<=i/\i<(n:Int))/\Is A fun a=>∃t:Array Value,(t.size=32/\Cells w (a.add (i.toNat*32)) t)/\k t:=by
 obtain⟨a,rfl,_,hc⟩:=hl.at_ _ x hx;have:=(lgeS hx).1;have:=hl.len;exact⟨⟨h0,by omega⟩,x.1,⟨x.2.1,hc⟩,hk⟩
theorem sG{a b:HT}:(lV a b<0)↔cU a b=true:=by
 unfold lV;by_cases h:cU a b=true
 ·simp [h]
 ·by_cases h':cU b a=true<;>simp [h,h']
theorem dW{n:Int}(h0:0<=n)(h1:n<=2000000):i64.wrap (n+1)=n+1:=gQ (by omega) (by omega)
theorem wrapM{n:Int}(h0:0<=n)(h1:n<=2000000):i64.wrap (n-1)=n-1:=gQ (by omega) (by omega)
theorem Kept.dA{w w' jm:World}{A:Option Addr}(h:Kept Nil w w')(hg:w'.grownBy jm (a8 A))(hr:∀k,a8 A=some k->w.heap.size<=k):Kept Nil w jm:=
 Kept.grown h hg fun k hk cU=>absurd (hr k hk) (by omega)
section
variable{w:World}{K:Value->World->Prop}
theorem qZ{A:Option Addr}{n c:Nat}{l:List HT}(hl:HS w A n l)(hn:n<=400000)
 (hK:∀A' c' w',bK w' w.heap.size A' (dw l).length c' (dw l)->Kept Nil w w'->K (.slice A' (dw l).length c') w'):
 bu prog aM.id #[.slice A n c] w K:=by
 refine aM.of ?_;have hlen:=hl.len;refine aM.cy (I:=fun s w'=>∃(i:Nat) (out:List HT) (B:Option Addr) (m:Nat),s=(B,out.length,m,(i:Int))/\i<=n/\bK w' w.heap.size B out.length m out/\SS out/\(∀x,x∈out↔x∈l.take i)/\out.length<=i/\Kept Nil w w')
  (μ:=fun s _=>((n:Int)-s.2.2.2).toNat) (s:=(none,0,0,0)) ⟨0,[],none,0,rfl,Nat.zero_le _,bK.nil _ _,List.Pairwise.nil,by simp,by simp,Kept.refl _ _⟩ ?_
 rintro s w' ⟨i,out,B,m,rfl,hi,row,uR,iV,RN,kw⟩;refine Split.dec (fun jN=>?_) (fun gH=>?_)
 ·simp only at jN
  have dV:i<n:=by omega
  obtain⟨x,hx⟩:∃x,l[i]? =some x:=⟨_,List.getElem?_eq_getElem (by omega)⟩;refine(hl.same kw).load (i:=(i:Int)) (by omega) hx (yC x row.hs (by simp only;omega) fun w9 k9=>⟨_,rfl,?_⟩);simp only;have Ti:Kept Nil w w9:=kw.tt k9;have Sz:bK w9 w.heap.size B out.length m out:=Row.aF row k9 (fun _ _ h=>h);have zw:l.take (i+1)=l.take i++ [x]:=by rw [List.take_add_one,hx];rfl
  refine Split.dec (fun fJ=>?_) (fun lH=>?_)
  ·rw [dW (n:=(i:Int)) (by omega) (by omega)]
   refine⟨(B,out.length,m,(i:Int)+1),rfl,⟨i+1,out,B,m,rfl,dV,Sz,uR,fun y=>?_,by omega,Ti⟩,by simp only;omega⟩;rw [zw,List.mem_append,List.mem_singleton,<-iV y];constructor
   ·exact .inl
   ·rintro(h|rfl)
    ·exact h
    ·exact fJ
  ·refine aM.iq (I:=fun s w'=>∃k:Nat,s=(k:Int)/\k<=out.length/\(∀y∈out.drop k,cU x y=true)/\Kept Nil w9 w') (μ:=fun s _=>s.toNat) (s:=(out.length:Int)) ⟨out.length,rfl,Nat.le_refl _,by simp,Kept.refl _ _⟩ ?_
   rintro s w1 ⟨k,rfl,hk,vY,k1⟩;have Nw:HS w1 A n l:=(hl.same Ti).same k1;have vn:bK w1 w.heap.size B out.length m out:=Row.aF Sz k1 (fun _ _ h=>h);have kx:Kept Nil w w1:=Ti.tt k1;have sD:∀w1,HS w1 A n l->bK w1 w.heap.size B out.length m out->Kept Nil w w1->(∀y∈out.take k,cU y x=true)->
    aM.iZ A n c none 0 0 B out.length m (i:Int) (k:Int) (bQ (aM.e1 A n c none 0 0) (fun s w'=>∃(i:Nat) (out:List HT) (B:Option Addr) (m:Nat),s=(B,out.length,m,(i:Int))/\i<=n/\bK w' w.heap.size B out.length m out/\SS out/\(∀x,x∈out↔x∈l.take i)/\out.length<=i/\Kept Nil w w') (fun s _=>((n:Int)-s.2.2.2).toNat) (B,out.length,m,(i:Int)) w' (aM.q1 K)) w1:=by
    intro w1 Nw vn kx IX;have Da:out.length<=m:=by rcases Row.own vn with⟨_,h1,h2,_⟩|⟨_,_,_,_,_,h1,_⟩<;>omega
    have mq:=kx.size;unfold aM.iZ;refine⟨⟨by omega,by omega⟩,?_⟩;have sO:HS w1 (if m=0 then B else B.map (·.add (0*32))) ((k:Int).toNat -0) (out.take k):=by
     have h:=vn.hs.take hk;rw [Nat.sub_zero,Int.toNat_natCast];have e:(if m=0 then B else B.map (·.add (0*32)))=B:=by
      split
      ·rfl
      ·cases B<;>simp [add_zero]
     rw [e];exact h
    obtain⟨A1,c1,w2,mU,fD,LX,lT⟩:=ct (cx:=m-0) ay (bK.nil w1 w.heap.size) sO (by simp;omega) mq;have k2:Kept Nil w1 w2:=Kept.dA (Kept.refl _ _) LX (fun k hk=>by cases hk);rw [Nat.zero_add,Nat.sub_zero,Int.toNat_natCast]at mU fD;rw [List.nil_append]at fD;refine⟨A1,_,c1,w2,by rw [Nat.sub_zero,Int.toNat_natCast];exact mU,?_⟩;have rz:=Nw.same k2;refine rz.load (i:=(i:Int)) (by omega) hx ⟨x.2.1,?_⟩;intro w3;have k3:Kept Nil w2 w3:=(Kept.refl _ _).alloc _;have iL:HS w3 (some ⟨w2.heap.size,0,none⟩) 1 [x]:=by
     refine HS.one (t:=ah) (fr:=(0,0)) ?_;have e3:w3=w2.alloc (.cells x.1 ah):=by
      show w2.alloc (.cells (x.1.toList++ []).toArray ah)=_
      simp
     rw [e3];exact aI w2 _
    clear_value w3;have jR:bK w3 w.heap.size A1 k c1 (out.take k):=Row.aF fD k3 (fun _ _ h=>h);have aaB:w.heap.size<=w3.heap.size:=Nat.le_trans (Nat.le_trans mq k2.size) k3.size;obtain⟨A4,c4,w4,wJ,iG,EF,rD⟩:=ct (cx:=1) ay jR iL (by omega) aaB;have k4:Kept Nil w1 w4:=Kept.dA (k2.tt k3) EF (fun k hk=>by rcases lT k hk with h|h;cases h;exact h);refine⟨A4,_,c4,w4,wJ,⟨by omega,by omega⟩,?_⟩;have Hb:HS w4 (if m=(k:Int).toNat then B else B.map (·.add ((k:Int).toNat*32))) (out.length-(k:Int).toNat) (out.drop k):=by
     rw [Int.toNat_natCast];exact(vn.hs.same k4).drop Da hk
    have Yk:(out.length-(k:Int).toNat)=out.length-k:=by rw [Int.toNat_natCast]
    obtain⟨A5,c5,w5,sA,jr,Vx,oS⟩:=ct (cx:=m-(k:Int).toNat) ay iG Hb (by omega) (Nat.le_trans mq k4.size);have k5:Kept Nil w1 w5:=Kept.dA k4 Vx (fun b hb=>by
     rcases rD b hb with h|h
     ·rcases lT b h with h|h
      ·cases h
      ·exact h
     ·exact Nat.le_trans (Nat.le_trans k2.size k3.size) h)
    refine⟨A5,_,c5,w5,sA,?_⟩;rw [dW (n:=(i:Int)) (by omega) (by omega)];have nu:out.take k++ [x]++out.drop k=out.take k++x::out.drop k:=by simp
    have zx:(out.take k++x::out.drop k).length=out.length+1:=by simp;omega
    rw [nu]at jr;have e5:k+1+(out.length-(k:Int).toNat)=(out.take k++x::out.drop k).length:=by rw [zx];omega
    rw [e5]at jr⊢;refine⟨(A5,(out.take k++x::out.drop k).length,c5,(i:Int)+1),rfl,⟨i+1,_,A5,c5,rfl,dV,jr,Kf uR IX vY,fun y=>?_,by omega,kx.tt k5⟩,by simp only;omega⟩;rw [show y∈l.take (i+1)↔y∈out\/y=x by rw [zw,List.mem_append,List.mem_singleton,iV y],List.mem_append,List.mem_cons];constructor
    ·rintro(h|rfl|h)
     ·exact .inl (List.mem_of_mem_take h)
     ·exact .inr rfl
     ·exact .inl (List.mem_of_mem_drop h)
    ·rintro(h|rfl)
     ·rw [<-List.take_append_drop k out,List.mem_append]at h
      rcases h with h|h
      ·exact .inl h
      ·exact .inr (.inr h)
     ·exact .inr (.inl rfl)
   unfold aM.B2;intro w2;have k2:Kept Nil w1 w2:=(Kept.refl _ _).drew;clear_value w2;have rz:=Nw.same k2;have fD:bK w2 w.heap.size B out.length m out:=Row.aF vn k2 (fun _ _ h=>h);have kx2:=kx.tt k2;refine Split.dec (fun jK=>?_) (fun yV=>?_)
   ·have qw:0<k:=by omega
    obtain⟨y,hy⟩:∃y,out[k-1]? =some y:=⟨_,List.getElem?_eq_getElem (by omega)⟩;rw [wrapM (n:=(k:Int)) (by omega) (by omega)];refine rz.load (i:=(i:Int)) (by omega) hx (fD.hs.load (by omega) (by rw [show((k:Int)-1).toNat=k-1 by omega];exact hy) (tU x y fun w3 k3=>⟨_,rfl,?_⟩));refine Split.dec (fun hc=>?_) (fun hc=>?_)
    ·refine⟨(k:Int)-1,rfl,⟨k-1,by omega,by omega,fun z hz=>?_,(k1.tt k2).tt k3⟩,by simp only;omega⟩
     have hd:out.drop (k-1)=y::out.drop k:=by
      obtain⟨h1,h2⟩:=lgeS hy;rw [List.drop_eq_getElem_cons h1,h2,show k-1+1=k by omega]
     rw [hd]at hz;rcases List.mem_cons.1 hz with rfl|hz
     ·exact sG.1 hc
     ·exact vY z hz
    ·rw [aR,aM.kL]
     refine sD w3 (rz.same k3) (Row.aF fD k3 (fun _ _ h=>h)) (kx2.tt k3) fun z hz=>?_;have Ev:cU y x=true:=by
      have h1:cU x y=false:=by
       cases h:cU x y
       ·rfl
       ·exact absurd (sG.2 h) hc
      refine lt_of_le_ne h1 fun e=>lH ?_;rw [<-e];exact List.mem_of_getElem? hy
     obtain⟨j,hj⟩:=List.mem_iff_getElem?.1 hz;rw [List.getElem?_take]at hj;split at hj
     ·rename_i Vl
      by_cases e:j=k-1
      ·subst e;rw [hy]at hj;cases hj;exact Ev
      ·exact kH (uR.get (by omega) hj hy) Ev
     ·cases hj
   ·rw [aR,aM.kL]
    have qw:k=0:=by omega
    refine sD w2 rz fD kx2 fun z hz=>?_;rw [qw]at hz;simp at hz
 ·simp only at gH
  have:i=n:=by omega
  subst this;rw [aR,aM.df];have e:out=dw l:=yx uR fun x=>by rw [iV,List.take_of_length_le (by omega)]
  rw [e]at row;have:=hK B m w' row kw;rw [<-e]at this;exact this
end
theorem kY{w:World}{k l:Nat}{cs:Array Value}{t:TypeId}{fr:Nat×Nat}{R:Loop}(h:w.heap[k]? =some (.cells cs t fr))(h':w.heap[l]? =some (.loop R)):k≠l:=by
 rintro rfl;rw [h]at h';cases h'
theorem sh{w:World}{k l:Nat}{cs:Array Value}{t:TypeId}{fr:Nat×Nat}{d:Option (List Deferred)}(h:w.heap[k]? =some (.cells cs t fr))(h':w.heap[l]? =some (.deferred d)):k≠l:=by
 rintro rfl;rw [h]at h';cases h'
theorem Row.apart{w w':World}{B:Nat}{e:TypeId}{size:Nat}{A:Option Addr}{n c:Nat}{xs:List Value}(h:Row w B e size A n c xs){l:Nat}(hk:Kept (· =l) w w')
 (hl:∀cs t fr,w.heap[l]? ≠some (.cells cs t fr)):Row w' B e size A n c xs:=Row.aF h hk fun k hb e=>by
 subst e;obtain⟨_,cur,hc⟩:=Row.bI h hb;exact hl _ _ _ hc
abbrev sE(h:HT):List Value:= [.agg h.1]
section
variable{w:World}{K:Value->World->Prop}
theorem zM(p:Addr){A:Option Addr}{n c:Nat}{l:List HT}(hn:n<=1000000):
 om prog aG.id #[] #[.pointer (some p)] (l.map sE) (fun w=>HS w A n l/\w.cell? p=some (.slice A n c)):=by
 intro y I D w0 hI hD oE h0 oD;refine aG.of ?_;obtain⟨Bh,LF⟩:=oE 0 w0 h0;have hlen:=Bh.len;refine⟨A,n,c,LF,?_⟩;refine aG.cy (I:=fun s w'=>∃i:Nat,s=(i:Int)/\i<=n/\I i w') (μ:=fun s _=>((n:Int)-s).toNat) (s:=0) ⟨0,rfl,Nat.zero_le _,h0⟩ ?_;rintro s w' ⟨i,rfl,hi,hw⟩;refine Split.dec (fun jN=>?_) (fun gH=>?_)
 ·have dV:i<n:=by omega
  obtain⟨x,hx⟩:∃x,l[i]? =some x:=⟨_,List.getElem?_eq_getElem (by omega)⟩;have hl:=(oE i w' hw).1;refine hl.load (i:=(i:Int)) (by omega) hx ?_;intro w10;obtain⟨tu,hb,hk⟩:=iu (w:=w') (z:=(#[.int .u8 0,.int .u8 0,.int .u8 0,.int .u8 0,.int .u8 0,.int .u8 0,.int .u8 0,.int .u8 0,.int .u8 0,.int .u8 0,.int .u8 0,.int .u8 0,.int .u8 0,.int .u8 0,.int .u8 0,.int .u8 0,.int .u8 0,.int .u8 0,.int .u8 0,.int .u8 0,.int .u8 0,.int .u8 0,.int .u8 0,.int .u8 0,.int .u8 0,.int .u8 0,.int .u8 0,.int .u8 0,.int .u8 0,.int .u8 0,.int .u8 0,.int .u8 0]:Array Value)) (cs:=x.1) (t:=ah) (by rw [x.2.1];rfl);refine⟨⟨x.2.1,x.2.one,fun j hj=>tu j (by rw [x.2.1];exact hj)⟩,?_⟩;intro mz
  replace hb:mz.heap[w'.heap.size]? =some (.cells x.1 ah (0,0)):=hb
  replace hk:Kept Nil w' mz:=hk
  clear_value mz;refine⟨x.1,⟨x.2.1,Cells.bI hb⟩,?_⟩;refine(oD i (sE x) mz (by rw [List.getElem?_map,hx];rfl) (hI i w' mz hw hk)).mono ?_;rintro b jm ⟨ht,hf⟩;cases b with
  |true=>
   refine Split.no rfl ?_;rw [dW (n:=(i:Int)) (by omega) (by omega)];exact⟨(i:Int)+1,rfl,⟨i+1,rfl,dV,ht rfl⟩,by simp only;omega⟩
  |false=>
   refine Split.yes rfl ?_;exact Or.inr (hf rfl)
 ·rw [aR,aG.df]
  have e:i=n:=by omega
  subst e;refine Or.inl ?_;rw [List.length_map,hlen];exact hw
theorem xq{gf:FuncId}{gI:Array Value}{xs:List HT}{fn:Func}(Hf:prog.funcs[gf]? =some fn)(hb:fn.body.isSome){DJ:World->Prop}
 (hit:om prog gf #[] gI (xs.map sE) DJ) (hp:∀w',Kept Nil w w'->DJ w') (Ls:xs.length<=1000000)
 (hK:∀A c w',bK w' w.heap.size A xs.length c xs->Kept Nil w w'->K (.slice A xs.length c) w'):
 bu prog aL.id #[.slice none 0 0,.func (.func gf) #[] gI] w K:=by
 refine aL.of ?_;unfold aL.W;intro w3;have k3:Kept Nil w w3:=(Kept.refl Nil w).alloc _;have nI:w3.heap[w.heap.size]? =some (.cells #[.slice none 0 0] ay (0,0)):=aI w _;have CR:w.heap.size<w3.heap.size:=aQ nI;clear_value w3
 let ρ0:Env:= [(2,.pointer (some (⟨w.heap.size,0,none⟩:Addr))),(4,.slice none 0 0),(6,.func (.func gf) #[] gI)]
 let J:Nat->World->Prop:=fun i w'=>∃A c,w'.heap[w.heap.size]? =some (.cells #[.slice A i c] ay (0,0))/\bK w' w.heap.size A i c (xs.take i)/\Kept Nil w w'/\i<=xs.length/\∀k,a8 A=some k->k≠w.heap.size
 refine oB (ρ:=ρ0) (ρ0:=ρ0) ng mix aL.k (t:=6) (ps:= #[7]) (by kernel_rfl) (by decide) rfl Hf hb (.inl rfl) (fun i v _ h=>h) rfl sE xs (fun _=>rfl) (by simp [gN]) hit J (fun _ _=>False) ?_ (fun _ _ _ _ _ h=>h.elim) (fun i w' h=>hp w' (let ⟨_,_,_,_,h,_⟩:=h;h)) ?_ ?_ ?_ (fun _ _ h=>h.elim) (fun _ _ _ h=>h.elim)
 ·rintro i w' jm R hl ⟨A,c,h1,h2,h3,h4,h5⟩ hk
  exact⟨A,c,hk.heap h1 (kY h1 hl.loop),Row.apart h2 hk (fun cs t fr h=>by rw [hl.loop]at h;cases h),h3.trans hk (fun k hk e=>by omega),h4,h5⟩
 ·intro R
  exact⟨none,0,jl (jl nI _) _,bK.nil _ _,(k3.alloc _).alloc _,Nat.zero_le _,fun k hk=>by cases hk⟩
 ·rintro i x w' R hx ⟨A,c,h1,h2,h3,h4,h5⟩ hl
  have dV:i<xs.length:=(lgeS hx).1;have e7:kX ρ0 ((#[7]:Array Nat).toList.zip (sE x))= [(2,.pointer (some (⟨w.heap.size,0,none⟩:Addr))),(4,.slice none 0 0),(6,.func (.func gf) #[] gI),(7,.agg x.1)]:=rfl;rw [e7,aL.a1];unfold aL.A1;intro w8;obtain⟨tu,jP,ko⟩:=iu (w:=w') (z:=(#[.int .u8 0,.int .u8 0,.int .u8 0,.int .u8 0,.int .u8 0,.int .u8 0,.int .u8 0,.int .u8 0,.int .u8 0,.int .u8 0,.int .u8 0,.int .u8 0,.int .u8 0,.int .u8 0,.int .u8 0,.int .u8 0,.int .u8 0,.int .u8 0,.int .u8 0,.int .u8 0,.int .u8 0,.int .u8 0,.int .u8 0,.int .u8 0,.int .u8 0,.int .u8 0,.int .u8 0,.int .u8 0,.int .u8 0,.int .u8 0,.int .u8 0,.int .u8 0]:Array Value)) (cs:=x.1) (t:=ah) (by rw [x.2.1];rfl);refine⟨⟨x.2.1,x.2.one,fun j hj=>tu j (by rw [x.2.1];exact hj)⟩,?_⟩;intro nM
  replace jP:nM.heap[w'.heap.size]? =some (.cells x.1 ah (0,0)):=jP
  replace ko:Kept Nil w' nM:=ko
  clear_value nM;have LO:=hl.aF ko (fun h=>h) (fun h=>h);refine⟨LO,fun w2 R2 mX rz=>?_⟩;have acr:=mX.heap jP (kY jP LO.loop);have h1b:=ko.heap h1 (fun h=>h);have Bn:=mX.heap h1b (kY h1b LO.loop);have zz:bK w2 w.heap.size A i c (xs.take i):=Row.apart (Row.aF h2 ko (fun _ _ h=>h)) mX (fun cs t fr h=>by rw [LO.loop]at h;cases h);have Hi:Kept Nil w w2:=(h3.tt ko).trans mX (fun k hk e=>by omega);have cU:w.heap.size<w2.heap.size:=aQ Bn;rw [aL.y1];unfold aL.Y1;refine⟨A,i,c,by rw [aD Bn];rfl,x.1,⟨x.2.1,Cells.bI acr⟩,x.2.1,?_⟩;intro jM;have ns:Kept Nil w2 jM:=(Kept.refl _ _).alloc _;have iL:HS jM (some ⟨w2.heap.size,0,none⟩) 1 [x]:=by
   refine HS.one (t:=ah) (fr:=(0,0)) ?_;have e3:jM=w2.alloc (.cells x.1 ah):=by
    show w2.alloc (.cells (x.1.toList++ []).toArray ah)=_
    simp
   rw [e3];exact aI w2 _
  clear_value jM;have Md:bK jM w.heap.size A i c (xs.take i):=Row.aF zz ns (fun _ _ h=>h);have adt:=ns.heap Bn (fun h=>h);have aiR:=ns.size;obtain⟨A',c',sN,hr,kV,hg,xh⟩:=ct (cx:=1) ay Md iL (by omega) (by omega);have Qu:Kept (fun k=>a8 A=some k) jM sN:=Kept.grown (Kept.refl _ _) hg (fun k hk _=>hk);have Me:=Qu.heap adt (fun h=>h5 _ h rfl);have Qg:Live (w3.heap.size+1) w3.heap.size R2 sN:=by
   have Qh:=rz.aF ns (fun h=>h) (fun h=>h);refine Qh.aF Qu ?_ ?_
   ·intro h
    obtain⟨_,cur,hc⟩:=Row.bI Md h;exact kY hc Qh.loop rfl
   ·intro h
    obtain⟨_,cur,hc⟩:=Row.bI Md h;exact sh hc Qh.mark rfl
  have Ge:Kept Nil w sN:=(Hi.tt ns).trans Qu (fun k hk e=>by
   obtain⟨h,_⟩:=Row.bI Md e;omega)
  refine⟨A',_,c',sN,hr,dY Me (by simp),?_⟩;intro pf;have xW:Kept (· =w.heap.size) sN pf:=Kept.setCell (S:=fun k=>k=w.heap.size) (Kept.refl _ sN) (p:=⟨w.heap.size,0,none⟩) (fun _=>rfl) _;have acI:pf.heap[w.heap.size]? =some (.cells #[.slice A' (i+1) c'] ay (0,0)):=dh Me 0 _;clear_value pf;have EK:∀k,a8 A'=some k->k≠w.heap.size:=fun k hk=>by
   rcases xh k hk with h|h
   ·exact h5 k h
   ·omega
  refine⟨Qg.aF xW (kY Me Qg.loop).symm (sh Me Qg.mark).symm,A',c',acI,?_,Ge.trans xW (fun k hk e=>by omega),dV,EK⟩;rw [List.take_add_one,hx];exact Row.aF kV xW EK
 ·rintro w' R ⟨A,c,h1,h2,h3,h4,h5⟩ hl
  have e7:gv ρ0 w3.heap.size= [(2,.pointer (some (⟨w.heap.size,0,none⟩:Addr))),(4,.slice none 0 0),(6,.func (.func gf) #[] gI),(4294967296,.agg #[.pointer (some ⟨w3.heap.size,0,none⟩)])]:=rfl;rw [e7,aL.jG];refine⟨A,xs.length,c,by rw [aD h1];rfl,⟨hl.mark,trivial⟩,?_⟩;have kp:Kept (· =w3.heap.size) w' (w'.putObj w3.heap.size (.deferred none)):=Kept.putAt _ _ _;refine hK A c _ ?_ (h3.trans kp (fun k hk e=>by omega));have:=Row.apart h2 kp (fun cs t fr h=>by rw [hl.mark]at h;cases h)
  rwa [List.take_of_length_le (Nat.le_refl _)]at this
theorem wy{gf:FuncId}{gI:Array Value}{xs:List HT}{fn:Func}(Hf:prog.funcs[gf]? =some fn)(hb:fn.body.isSome){DJ:World->Prop}
 (hit:om prog gf #[] gI (xs.map sE) DJ) (hp:∀w',Kept Nil w w'->DJ w') (Ls:xs.length<=1000000)
 (hK:∀A c w',bK w' w.heap.size A xs.length c xs->Kept Nil w w'->K (.slice A xs.length c) w'):
 bu prog cZ.id #[.func (.func gf) #[] gI] w K:=by
 refine cZ.of (xq Hf hb hit hp Ls fun A c w' h1 h2=>⟨_,_,_,rfl,hK A c w' h1 h2⟩)
end
open Go.Sort
instance:Inhabited HT:=⟨⟨Array.replicate 32 (.int .u8 0),by simp,fun v hv=>⟨0,by simpa using hv,by omega,by omega⟩⟩⟩
abbrev nC(h:HT):List Value:=h.1.toList
theorem BA(h:HT):(nC h).length=32:=by have:=h.2.1;simpa using this
theorem wk(d:Array HT):(flatK nC 32 d).toList=c9 d.toList:=by
 apply List.ext_getElem?;intro t;by_cases ht:t<d.size*32
 ·have hi:t/32<d.size:=by omega
  have hx:d.toList[t/32]? =some d[t/32]:=by rw [Array.getElem?_toList,Array.getElem?_eq_getElem hi]
  have hs:t%32<d[t/32].1.size:=by rw [d[t/32].2.1];omega
  have h1:=lE hx (Array.getElem?_eq_getElem hs);rw [show t/32*32+t%32=t by omega]at h1;rw [h1];have h2:t<(flatK nC 32 d).size:=by rw [size_flatK];exact ht
  have h3:=get_flatK nC 32 d t ht;rw [getElem!_pos _ t h2]at h3;rw [Array.getElem?_toList,Array.getElem?_eq_getElem h2,h3,getElem!_pos d _ hi];rw [getElem!_pos _ _ (by rw [BA];omega)];simp [nC]
 ·rw [List.getElem?_eq_none (by simp;omega),List.getElem?_eq_none (by rw [eV];simp;omega)]
theorem HY{F cur:Array Value}{k:Nat}(hk:F.size=k)(h:k<=cur.size):(putCells id 0 F cur).toList.take k=F.toList:=by
 apply List.ext_getElem?;intro i;rw [List.getElem?_take];split
 ·rename_i hi
  have h1:i<cur.size:=by omega
  have h2:i<F.size:=by omega
  rw [Array.getElem?_toList,Array.getElem?_toList,putCells,Array.getElem?_mapIdx,Array.getElem?_eq_getElem h1,Array.getElem?_eq_getElem h2];simp [h2]
 ·rw [List.getElem?_eq_none (by simp;omega)]
theorem wS{w:World}{b:Nat}{f:Array Value->Array Value}{cur:Array Value}{t:TypeId}{fr:Nat×Nat}(h:w.heap[b]? =some (.cells cur t fr)):(mapBlock w b f).heap[b]? =some (.cells (f cur) t fr):=by
 simp [mapBlock,Array.getElem?_modify,h,onCells]
theorem wR(w:World)(b:Nat)(f:Array Value->Array Value):Kept (· =b) w (mapBlock w b f):=
 ⟨rfl,rfl,rfl,by simp [mapBlock],fun k _ hn=>by simp [mapBlock,Array.getElem?_modify,Ne.symm hn]⟩
theorem Gy(w:World)(os:Array Obj):Kept Nil w (grow w os):=
 ⟨rfl,rfl,rfl,by simp,fun k hk _=>heap_grow_old w os hk⟩
theorem DD(w:World)(m:Nat):Kept Nil w (Sort.ahead w m):=⟨rfl,rfl,rfl,Nat.le_refl _,fun _ _ _=>rfl⟩
section
variable{w:World}{B n c b:Nat}{l:List HT}
theorem wM(row:bK w B (some ⟨b,0,none⟩) n c l)(m:Nat)(dk:Array HT)(os:Array Obj)(hd:dk.size=n):
 bK (sortWorldK nC 32 w b 0 m dk os) B (some ⟨b,0,none⟩) n c dk.toList/\Kept (· =b) w (sortWorldK nC 32 w b 0 m dk os):=by
 have hka:=DD w m;have k1:=wR (Sort.ahead w m) b (putCells id 0 (flatK nC 32 dk));have kk:=((hka.mono (S':=fun k=>k=b) (fun _ _ h=>h.elim)).tt k1).trans (Gy _ os) (fun _ _ h=>h.elim);refine⟨?_,?_⟩
 ·rcases Row.own row with⟨h,_⟩|⟨b',cur,hA,hB,hg,Gp,nz,ny,zw⟩
  ·cases h
  ·cases hA
   refine⟨by rw [eV,Array.length_toList,hd],.inr ⟨b,c,putCells id 0 (flatK nC 32 dk) cur,rfl,hB,?_,Gp,nz,by simp [putCells,ny],?_⟩⟩
   ·have h1:(mapBlock (Sort.ahead w m) b (putCells id 0 (flatK nC 32 dk))).heap[b]? =some (.cells (putCells id 0 (flatK nC 32 dk) cur) ah (0,0)):=wS hg
    exact(heap_grow_old _ os (aQ h1)).trans h1
   ·rw [<-wk]
    refine HY (by rw [size_flatK,hd]) ?_;rw [ny];exact Nat.mul_le_mul_right _ Gp
 ·exact kk
theorem C0(row:bK w B (some ⟨b,0,none⟩) n c l):HoldsK nC 32 w b 0 l.toArray:=by
 intro j hj;rw [size_flatK]at hj;have vW:j<l.length*32:=by simpa using hj
 rw [Nat.zero_add];have hlen:=Row.len row;have hx:(flatK nC 32 l.toArray).toList[j]? =(c9 l)[j]? :=by rw [wk]
 have hjs:j<(flatK nC 32 l.toArray).size:=by rw [size_flatK];exact hj
 rw [Array.getElem?_toList,Array.getElem?_eq_getElem hjs]at hx;have hc:=Row.cell row hx.symm;refine⟨?_,?_⟩
 ·rw [hc,getElem!_pos _ j hjs];rfl
 ·exact(Row.wr row (j:=j) (by rw [eV];exact vW)).2
theorem pS(x y:HT):ltOf lV x y=cU x y:=by
 unfold ltOf;cases h:cU x y
 ·exact decide_eq_false fun h'=>by rw [sG.1 h']at h;cases h
 ·exact decide_eq_true (sG.2 h)
theorem le_trans'{x y z:HT}(h:cU y x=false)(h':cU z y=false):cU z x=false:=by
 cases TY:cU z x
 ·rfl
 ·exfalso
  by_cases e:y=z
  ·subst e;rw [h]at TY;cases TY
  ·have RF:=lt_of_le_ne h' e
   have:=kH RF TY;rw [h]at this;cases this
theorem Ze:SWO (ltOf lV) where
 irrefl x:=by rw [pS];exact iz x
 trans x y z h h':=by rw [pS]at*;exact kH h h'
 ntrans x y z h h':=by
  rw [pS]at*;exact le_trans' h' h
theorem KU{A:Option Addr}{K:Value->World->Prop}(row:bK w B A n c l)(hn:n<=1000000)
 (hK:∀l' w',LE l'->(∀x,x∈l'↔x∈l)->bK w' B A n c l'->Kept (fun k=>a8 A=some k) w w'->K (.tuple #[]) w'):
 bu prog ji.id #[.slice A n c,.func (.func dD.id) #[] #[]] w K:=by
 have hlen:=row.len;by_cases h0:n=0
 ·subst h0
  have h:=AnyF.slices_SortFunc_none Tryz.xE A c (.func (.func dD.id) #[] #[]) w;refine Calls.mono h ?_;rintro e w' ⟨rfl,rfl⟩;have:l= []:=List.eq_nil_of_length_eq_zero hlen;subst this;exact⟨_,rfl,hK [] _ List.Pairwise.nil (fun _=>Iff.rfl) row (Kept.refl _ _)⟩
 ·obtain⟨b,rfl⟩:=Row.some row (by omega)
  have hblk:b<w.heap.size:=by
   obtain⟨_,cur,hc⟩:=Row.bI row (k:=b) rfl;exact aQ hc
  have mq:l.toArray.size=n:=by simpa using hlen
  have eg:∀args w,(callFunc dD.id args).run prog w=.ok (.enter dD.id args) w:=enters_of dD.at_ (by kernel_rfl) rfl;have hk:oC prog ah=.agg 32:=by kernel_rfl
  obtain⟨e32,ha⟩:=sx hk;obtain⟨i,hi⟩:=Go.bT.info_of_underlying (P:=prog) (t:=ah) (by kernel_rfl);have acf:CmpLays prog dD.id #[] nC 32 lV b 0 l.toArray.size w:=fun m os dk _ x y=>by
   have e:(#[.agg (nC x).toArray,.agg (nC y).toArray]++ #[]:Array Value)= #[.agg x.1,.agg y.1]:=by simp [nC]
   rw [e];have h:=pZ (w:=sortWorldK nC 32 w b 0 m dk os) x y (K:=fun v w'=>v=.int .i64 (lV x y)/\w'=(((sortWorldK nC 32 w b 0 m dk os).alloc (.cells x.1 ah)).alloc (.cells y.1 ah)).drew) ⟨rfl,rfl⟩;refine Calls.mono h ?_;rintro e w' ⟨v,rfl,rfl,rfl⟩;refine⟨rfl,1,#[.cells x.1 ah,.cells y.1 ah],?_⟩;rw [alloc_eq_grow,alloc_eq_grow,grow_grow,drew_grow];rfl
  have h:=AnyQ.slices_SortFunc_total Tryz.xE 32 ha (fun w=>by rw [e32];exact Go.bT.run_sizeOf hi w) nC BA (fun x=>x.2.one) lV Ze dD.id #[] b 0 c l.toArray w eg acf (C0 row) hblk (by omega)
   (fun x y h1 h2=>by rw [pS]at h1 h2;exact qv h1 h2)
  rw [mq]at h;refine Calls.mono h ?_;rintro e w' ⟨rfl,m,os,rfl⟩;have hp:=List.mergeSort_perm l.toArray.toList (fun x y=> !(ltOf lV) y x);have He:(l.toArray.toList.mergeSort fun x y=> !(ltOf lV) y x).toArray.size=n:=by
   have:=hp.length_eq;simp only [List.size_toArray];rw [this];simpa using hlen
  obtain⟨h1,h2⟩:=wM row m _ os He;refine⟨_,rfl,hK _ _ ?_ (fun x=>?_) h1 (h2.mono fun k _ e=>by rw [e];rfl)⟩
  ·have hs:=List.pairwise_mergeSort (le:=fun x y=> !(ltOf lV) y x) (fun a b c h h'=>by
    rw [pS]at*;simp only [Bool.not_eq_true']at*;exact le_trans' h h') (fun a b=>by
    rw [pS,pS];cases lI:cU b a
    ·rfl
    ·rw [tz lI];rfl) l.toArray.toList
   refine List.Pairwise.imp ?_ hs;intro a b lI;rw [pS]at lI;simpa using lI
  ·simp
end
end Go.Proofs.YtfleamccglihoaaGreatDoor
namespace Go.Proofs.YtfleamccglihoaaGreatDoor
open Go.Proofs.Tryz
open Go Go.bT Go.RowKit
theorem C8{l:List HT}{k:Nat}(hk:k<l.length)(x:HT):c9 (l.set k x)=hU (c9 l) (k*32) x.1.toList:=by
 have h1:l=l.take k++l[k]::l.drop (k+1):=by rw [<-List.drop_eq_getElem_cons hk,List.take_append_drop]
 have e1:(c9 (l.take k)).length=k*32:=by rw [eV,List.length_take];omega
 have hx:=x.2.1;have hl:=l[k].2.1;have hs:l.set k x=l.take k++x::l.drop (k+1):=List.set_eq_take_append_cons_drop .. |>.trans (if_pos hk)
 rw [hs]
 conv=>rhs;rw [h1]
 rw [mL,mL,lS,lS];generalize c9 (l.take k)=p at e1;generalize c9 (l.drop (k+1))=r;have eq:l[k].1.toList.length=32:=by simpa using hl
 have ev:x.1.toList.length=32:=by simpa using hx
 generalize l[k].1.toList=q at eq;generalize x.1.toList=v at ev;unfold hU;rw [List.take_left' e1,ev,show p++(q++r)=(p++q)++r by simp,List.drop_left' (by rw [List.length_append,e1,eq])];simp
theorem bK.setAt{w:World}{B n c b:Nat}{l:List HT}(row:bK w B (some ⟨b,0,none⟩) n c l){k:Nat}(hk:k<n)(x:HT):
 bK (setCells w ⟨b,k*32,none⟩ x.1.toList 0) B (some ⟨b,0,none⟩) n c (l.set k x):=by
 have hlen:=row.len;have hx:=x.2.1;have:=rT x.1.toList (c9 l) w (k*32) 0 row (by rw [eV];simp;omega);rw [Nat.add_zero]at this;rw [<-C8 (by omega)]at this;exact this
theorem bK.Hr{w:World}{B n c b:Nat}{l:List HT}(row:bK w B (some ⟨b,0,none⟩) n c l){k:Nat}(hk:k<n)(j:Nat)(hj:j<32):Wr w ((⟨b,k*32,none⟩:Addr).add j):=by
 rw [br];refine Row.wr row ?_;rw [eV,row.len];omega
theorem bK.cap{w:World}{B:Nat}{A:Option Addr}{n c:Nat}{l:List HT}(row:bK w B A n c l):n<=c:=by
 rcases Row.own row with⟨_,h1,h2,_⟩|⟨_,_,_,_,_,h1,_⟩<;>omega
theorem bK.cut{w w':World}{B n c b:Nat}{l:List HT}(row:bK w B (some ⟨b,0,none⟩) n c l){k:Nat}(hk:k<=n)(vs:List Value)(hv:vs.length=(n-k)*32)(hw:w'=setCells w ⟨b,k*32,none⟩ vs 0):
 bK w' B (some ⟨b,0,none⟩) k c (l.take k):=by
 subst hw;have hlen:=row.len;rcases Row.own row with⟨h,_⟩|⟨b',cur,hA,hB,hg,Gp,nz,ny,zw⟩
 ·cases h
 ·cases hA
  have hle:n*32<=c*32:=Nat.mul_le_mul_right _ Gp;have mq:k*32+0+vs.length<=cur.size:=by omega
  have h1:=kR vs cur w ah (k*32) 0 hg mq;refine⟨by rw [eV,List.length_take];omega,.inr ⟨b,c,_,rfl,hB,h1,by omega,nz,?_,?_⟩⟩
  ·have:=mC (xs:=cur.toList) (k:=k*32+0) (vs:=vs) (by simpa using mq)
   rw [List.size_toArray,this];simpa using ny
  ·have e1:(c9 (l.take k)).length=k*32:=by rw [eV,List.length_take];omega
   have e2:(c9 l).take (k*32)=c9 (l.take k):=by
    conv=>lhs;rw [<-List.take_append_drop k l,mL]
    rw [<-e1,List.take_left'];rfl
   rw [<-e2,<-zw,List.take_take,Nat.min_eq_left (by omega)];unfold hU;simp only [Nat.add_zero];rw [List.append_assoc,List.take_append_of_le_length (by simp;omega),List.take_take,Nat.min_self]
def DO(P:Program)(e:TypeId):Bool:=
 match P.info? e with
 |some i=>match i.zero with
  |some z=>z.cells.toList.all fun v=>v.oneCell'
  |none=>false
 |none=>false
theorem vm{w:World}{B n c b:Nat}{l:List HT}(row:bK w B (some ⟨b,0,none⟩) n c l){k:Nat}(hk:k<=n)(ty:Nat){A:Option Addr}{cx:Nat}(hA:k<n->A=some ⟨b,k*32,none⟩):
 ∃w',(Builtin.clear_ #[ay] ty #[.slice A (n-k) cx]).run prog w=.ok (.tuple #[]) w'/\bK w' B (some ⟨b,0,none⟩) k c (l.take k)/\Kept (· =b) w w':=by
 have hlen:=row.len;by_cases xc:k<n
 ·obtain⟨i,z,hi,hz,hs,_,Eu⟩:=pw.inf
  have LH:DO prog ah=true:=by kernel_rfl
  unfold DO at LH;rw [hi]at LH;simp only [hz,List.all_eq_true]at LH;rw [hA xc];obtain⟨m,hm⟩:∃m,n-k=m+1:=⟨n-k-1,by omega⟩;have XY:(Builtin.zeroCells z.cells (n-k)).toList.length=(n-k)*32:=by simp [Builtin.zeroCells,Eu]
  have qG:=iR (P:=prog) ⟨b,k*32,none⟩ (Builtin.zeroCells z.cells (n-k)).toList 0 w (fun v hv=>by
   simp only [Builtin.zeroCells,Array.toList_map,List.mem_map]at hv;obtain⟨t,ht,rfl⟩:=hv;have:t%z.cells.size<z.cells.size:=Nat.mod_lt _ (by omega);rw [getElem!_pos z.cells _ this];exact LH _ (by simp)) (fun j hj=>by
   rw [Nat.zero_add,br];refine Row.wr row ?_;rw [eV];omega)
  refine⟨_,?_,row.cut hk _ XY rfl,fi _ _ _ _⟩;simp only [Builtin.clear_,hm];rw [hm]at qG;simp [run_underlying pw.pg,zeroValue,typeInfo,hi,hz,qG]
 ·have:n=k:=by omega
  subst this;refine⟨w,?_,by rw [List.take_of_length_le (by omega)];exact row,Kept.refl _ _⟩;rw [Nat.sub_self];cases A<;>simp [Builtin.clear_,run_underlying pw.pg]
theorem Fm:∀ {l:List HT},l.length<2->dw l=l
 | [],_=>rfl
 | [_],_=>rfl
 |_::_::_,h=>by simp only [List.length_cons]at h;omega
section
variable{w:World}{B n c:Nat}{A:Option Addr}{l:List HT}{K:Value->World->Prop}
theorem Dn(row:bK w B A n c l)(hle:LE l)(hn:n<=400000)
 (hK:∀A' c' w',bK w' B A' (dw l).length c' (dw l)->(∀k,a8 A'=some k->a8 A=some k)->Kept (fun k=>a8 A=some k) w w'->K (.slice A' (dw l).length c') w'):
 bu prog ai.id #[.slice A n c] w K:=by
 have hlen:=row.len;refine ai.of ?_;refine Split.dec (fun h2=>?_) (fun h2=>?_)
 ·have e:dw l=l:=Fm (by omega)
  have:=hK A c w (by rw [e,hlen];exact row) (fun k h=>h) (Kept.refl _ _);rw [e,hlen]at this;exact this
 obtain⟨b,rfl⟩:=Row.some row (by omega);have Da:=row.cap;refine ai.cy (I:=fun s w'=>∃k:Nat,s=(none,0,0,(k:Int))/\1<=k/\k<=n/\SS (l.take k)/\Kept Nil w w') (μ:=fun s _=>((n:Int)-s.2.2.2).toNat) (s:=(none,0,0,1))
  ⟨1,rfl,Nat.le_refl _,by omega,?_,Kept.refl _ _⟩ ?_
 ·cases l with
  |nil=>exact List.Pairwise.nil
  |cons x l=>simp [SS]
 rintro s w' ⟨k,rfl,Kz,xc,uR,kw⟩;refine Split.dec (fun jN=>?_) (fun gH=>?_)
 ·simp only at jN
  have B8:k<n:=by omega
  obtain⟨x,hx⟩:∃x,l[k]? =some x:=⟨_,List.getElem?_eq_getElem (by omega)⟩;obtain⟨y,hy⟩:∃y,l[k-1]? =some y:=⟨_,List.getElem?_eq_getElem (by omega)⟩;intro w5;have k5:Kept Nil w w5:=kw.drew;clear_value w5;have jr:bK w5 B (some ⟨b,0,none⟩) n c l:=Row.aF row k5 (fun _ _ h=>h);simp only;rw [wrapM (n:=(k:Int)) (by omega) (by omega)];have oY:cU x y=false:=hle.get (by omega) hy hx;refine jr.hs.load (i:=(k:Int)) (by omega) hx (jr.hs.load (i:=(k:Int)-1) (by omega) (by rw [show((k:Int)-1).toNat=k-1 by omega];exact hy) ⟨⟨x.2.ints,y.2.ints⟩,?_⟩);rw [dO];refine Split.dec (fun he=>?_) (fun he=>?_)
  ·refine⟨⟨by omega,by omega⟩,?_⟩
   rw [Int.toNat_natCast];rw [if_neg (show ¬c=k by omega)];simp only [Option.map_some,br,Nat.zero_add];refine ai.iq (I:=fun s w'=>∃(p j:Nat) (l':List HT),s=((p:Int),(j:Int))/\1<=j/\k<=p/\p<k+j/\k+j<=n/\bK w' B (some ⟨b,0,none⟩) n c l'/\l'.drop (k+j-1)=l.drop (k+j-1)/\SS (l'.take p)/\(∀z,z∈l'.take p↔z∈l.take (k+j))/\Kept (· =b) w w')
    (μ:=fun s _=>((n:Int)-s.2).toNat) (s:=((k:Int),1)) ⟨k,1,l,rfl,Nat.le_refl _,Nat.le_refl _,by omega,by omega,jr,rfl,uR,fun z=>?_,k5.mono fun _ _ h=>h.elim⟩ ?_
   ·rw [bO hx]
    constructor
    ·exact .inl
    ·rintro(h|rfl)
     ·exact h
     ·rw [he]
      have:=bO (z:=y) hy;rw [show k-1+1=k by omega]at this;exact this.2 (.inr rfl)
   rintro s w1 ⟨p,j,l',rfl,hj1,Ve,hpj,hjn,lN,VO,sO,Nv,k1⟩;have Ji:=lN.len;refine Split.dec (fun Qm=>?_) (fun Qv=>?_)
   ·simp only at Qm
    have uT:k+j<n:=by omega
    obtain⟨u,hu⟩:∃u,l[k+j]? =some u:=⟨_,List.getElem?_eq_getElem (by omega)⟩;obtain⟨v,hv⟩:∃v,l[k+j-1]? =some v:=⟨_,List.getElem?_eq_getElem (by omega)⟩;have IS:l'[k+j]? =some u:=by
     have h:=congrArg (fun m:List HT=>m[1]?) VO;simp only [List.getElem?_drop]at h;rw [show k+j-1+1=k+j by omega]at h;rw [h,hu]
    have hv':l'[k+j-1]? =some v:=by
     have h:=congrArg (fun m:List HT=>m[0]?) VO;simp only [List.getElem?_drop,Nat.add_zero]at h;rw [h,hv]
    intro sN;have Ge:Kept (· =b) w sN:=k1.drew;have kV:bK sN B (some ⟨b,0,none⟩) n c l':=Row.aF lN ((Kept.refl Nil w1).drew) (fun _ _ h=>h);clear_value sN;have vS:HS sN (some ⟨b,k*32,none⟩) (n-k) (l'.drop k):=by
     have h:=kV.hs.drop (c:=c) Da (k:=k) (by omega);rw [if_neg (show ¬c=k by omega)]at h;simpa [br]using h
    have hsu:(l'.drop k)[(j:Int).toNat]? =some u:=by rw [Int.toNat_natCast,List.getElem?_drop];exact IS
    have Gj:(l'.drop k)[((j:Int)-1).toNat]? =some v:=by
     rw [show((j:Int)-1).toNat=j-1 by omega,List.getElem?_drop,show k+(j-1)=k+j-1 by omega];exact hv'
    simp-zeta only;rw [wrapM (n:=(j:Int)) (by omega) (by omega)];have huv:cU u v=false:=hle.get (by omega) hv hu;refine vS.load (i:=(j:Int)) (by omega) hsu (vS.load (i:=(j:Int)-1) (by omega) Gj ⟨⟨u.2.ints,v.2.ints⟩,?_⟩);rw [dO,dW (n:=(j:Int)) (by omega) (by omega)];have hmu:∀z,z∈l.take (k+(j+1))↔z∈l'.take p\/z=u:=fun z=>by
     rw [show k+(j+1)=k+j+1 by omega,bO hu,Nv z]
    by_cases heq:u=v
    ·refine Split.no (by rw [decide_eq_true heq];rfl) ?_
     refine⟨((p:Int),(j:Int)+1),rfl,⟨p,j+1,l',rfl,by omega,Ve,by omega,by omega,kV,?_,sO,fun z=>?_,Ge⟩,by simp only;omega⟩
     ·have h:=congrArg (fun m:List HT=>m.drop 1) VO
      simp only [List.drop_drop]at h;rw [show k+(j+1)-1=k+j-1+1 by omega];exact h
     ·rw [hmu z]
      constructor
      ·exact .inl
      ·rintro(h|rfl)
       ·exact h
       ·refine(Nv _).2 ?_
        rw [heq];exact List.mem_of_getElem? (i:=k+j-1) (by rw [List.getElem?_take,if_pos (by omega)];exact hv)
    ·refine Split.yes (by rw [decide_eq_false heq];rfl) ?_
     refine vS.load (i:=(j:Int)) (by omega) hsu ⟨⟨by omega,by omega⟩,⟨u.2.1,u.2.one,fun i hi=>?_⟩,?_⟩
     ·rw [Int.toNat_natCast,br,Nat.zero_add]
      exact kV.Hr (by omega) i hi
     intro G5;have T6:G5=setCells sN ⟨b,p*32,none⟩ u.1.toList 0:=by
      show setCells sN ((⟨b,0,none⟩:Addr).add ((p:Int).toNat*32)) u.1.toList 0=_
      rw [Int.toNat_natCast,br,Nat.zero_add]
     have SD:bK G5 B (some ⟨b,0,none⟩) n c (l'.set p u):=by rw [T6];exact kV.setAt (by omega) u
     have Ix:Kept (· =b) w G5:=by rw [T6];exact Ge.tt (fi _ _ _ _)
     clear_value G5;rw [dW (n:=(p:Int)) (by omega) (by omega)];have zw:(l'.set p u).take (p+1)=l'.take p++ [u]:=by
      rw [List.take_add_one,List.take_set_of_le (Nat.le_refl p),List.getElem?_set_self (by omega)];rfl
     refine⟨((p:Int)+1,(j:Int)+1),rfl,⟨p+1,j+1,l'.set p u,rfl,by omega,by omega,by omega,by omega,SD,?_,?_,fun z=>?_,Ix⟩,by simp only;omega⟩
     ·have h:=congrArg (fun m:List HT=>m.drop 1) VO
      simp only [List.drop_drop]at h;rw [List.drop_set,if_pos (by omega),show k+(j+1)-1=k+j-1+1 by omega];exact h
     ·rw [zw]
      refine EV sO fun z hz=>?_;obtain⟨i,hi⟩:=List.mem_iff_getElem?.1 ((Nv z).1 hz);rw [List.getElem?_take]at hi;split at hi
      ·rename_i hik
       have hvu:cU v u=true:=lt_of_le_ne huv (fun e=>heq e.symm);by_cases e:i=k+j-1
       ·subst e;rw [hv]at hi;cases hi;exact hvu
       ·exact tZ (hle.get (by omega) hi hv) hvu
      ·cases hi
     ·rw [zw,hmu z]
      simp
   ·simp only at Qv
    have hj:k+j=n:=by omega
    rw [aR,ai.kL];unfold ai.iZ;refine⟨⟨by omega,by omega⟩,?_⟩;rw [Int.toNat_natCast];obtain⟨w2,hr,fD,k2⟩:=vm lN (k:=p) (by omega) 0 (A:=if c=p then some ⟨b,0,none⟩else(some ⟨b,0,none⟩:Option Addr).map (·.add (p*32))) (cx:=c-p) (fun hp=>by
     rw [if_neg (by omega)];simp [br])
    refine⟨_,w2,hr,⟨by omega,by omega⟩,?_⟩;have e:l'.take p=dw l:=yx sO fun z=>by rw [Nv z,hj,List.take_of_length_le (by omega)]
    have el:p=(dw l).length:=by
     have h:=fD.len;rw [e]at h;exact h.symm
    have e0:(if c=0 then(some ⟨b,0,none⟩:Option Addr)else(some ⟨b,0,none⟩:Option Addr).map (·.add (0*32)))=some ⟨b,0,none⟩:=by
     rw [if_neg (by omega)];simp [add_zero]
    rw [e0,Nat.sub_zero,Nat.sub_zero];rw [e,el]at fD;have:=hK (some ⟨b,0,none⟩) c w2 fD (fun k h=>h) ((k1.tt k2).mono fun i _ h=>by rw [h];rfl);rw [<-el]at this;exact this
  ·rw [dW (n:=(k:Int)) (by omega) (by omega)]
   refine⟨(none,0,0,(k:Int)+1),rfl,⟨k+1,rfl,by omega,by omega,?_,k5⟩,by simp only;omega⟩;rw [List.take_add_one,hx];refine EV uR fun z hz=>?_;have Ev:cU y x=true:=lt_of_le_ne oY (fun e=>he e.symm);obtain⟨i,hi⟩:=List.mem_iff_getElem?.1 hz;rw [List.getElem?_take]at hi;split at hi
   ·by_cases e:i=k-1
    ·subst e;rw [hy]at hi;cases hi;exact Ev
    ·exact tZ (hle.get (by omega) hi hy) Ev
   ·cases hi
 ·simp only at gH
  have e:k=n:=by omega
  subst e;rw [aR,ai.df];rw [List.take_of_length_le (by omega)]at uR;have e:dw l=l:=HJ uR;have:=hK (some ⟨b,0,none⟩) c w' (by rw [e,hlen];exact Row.aF row kw (fun _ _ h=>h)) (fun k h=>h) (kw.mono fun _ _ h=>h.elim);rw [e,hlen]at this;exact this
theorem jf(hl:HS w A n l)(hn:n<=400000)
 (hK:∀A' c' w',bK w' w.heap.size A' (dw l).length c' (dw l)->Kept Nil w w'->K (.slice A' (dw l).length c') w'):
 bu prog jA.id #[.slice A n c] w K:=by
 have hlen:=hl.len;refine jA.of ?_;refine dv.of ?_;unfold dv.W;intro w2;have k2:Kept Nil w w2:=(Kept.refl _ _).alloc _;have lT:w2.heap[w.heap.size]? =some (.cells #[.slice A n c] ay (0,0)):=aI w _;clear_value w2;refine⟨_,rfl,?_⟩;refine dt.of ?_;refine wy (xs:=l) aG.at_ (by rfl) (zM (l:=l) ⟨w.heap.size,0,none⟩ (A:=A) (n:=n) (c:=c) (by omega)) (fun w' hk=>⟨(hl.same k2).same hk,by rw [aD (hk.heap lT (fun h=>h))];rfl⟩) (by omega) ?_;intro A4 c4 w4 iG k4;refine⟨A4,_,c4,rfl,?_⟩;refine KU iG (by omega) fun l5 w5 hle iV jr k5=>⟨rfl,?_⟩;refine⟨A4,_,c4,rfl,?_⟩;refine Dn jr hle (by omega) fun A6 c6 w6 Cv qJ k6=>⟨A6,_,c6,rfl,?_⟩;have e:dw l5=dw l:=DW iV;rw [e]at Cv⊢;have NW:∀k,a8 A4=some k->w.heap.size<=k:=fun k hk=>Nat.le_trans k2.size (Row.bI iG hk).1;refine hK A6 c6 w6 (Row.base Cv fun k hk=>NW k (qJ k hk)) ?_;exact((k2.tt k4).trans k5 (fun k hk h=>absurd (NW k h) (by omega))).trans k6 (fun k hk h=>absurd (NW k h) (by omega))
end
theorem jW{x:Nat}(h:x<18446744073709551616):u64.wrap (x:Int)=(x:Int):=by
 simp only [IntKind.wrap,IntKind.bits,IntKind.signed];simp;omega
theorem orU{x y:Nat}(hx:x<18446744073709551616)(hy:y<18446744073709551616):
 u64.wrap ((BitVec.ofInt 64 (x:Int)|||BitVec.ofInt 64 (y:Int)).toNat:Int)=((x|||y:Nat):Int):=by
 have h:(BitVec.ofInt 64 (x:Int)|||BitVec.ofInt 64 (y:Int)).toNat=x|||y:=by
  rw [BitVec.ofInt_natCast,BitVec.ofInt_natCast,BitVec.toNat_or,BitVec.toNat_ofNat,BitVec.toNat_ofNat,Nat.mod_eq_of_lt (by omega),Nat.mod_eq_of_lt (by omega)]
 rw [h];exact jW (Nat.or_lt_two_pow (n:=64) hx hy)
theorem adJ{x y:Nat}(hx:x<18446744073709551616)(hy:y<18446744073709551616):
 u64.wrap ((BitVec.ofInt 64 (x:Int)&&& BitVec.ofInt 64 (y:Int)).toNat:Int)=((x&&& y:Nat):Int):=by
 have h:(BitVec.ofInt 64 (x:Int)&&& BitVec.ofInt 64 (y:Int)).toNat=x&&& y:=by
  rw [BitVec.ofInt_natCast,BitVec.ofInt_natCast,BitVec.toNat_and,BitVec.toNat_ofNat,BitVec.toNat_ofNat,Nat.mod_eq_of_lt (by omega),Nat.mod_eq_of_lt (by omega)]
 rw [h];exact jW (Nat.lt_of_le_of_lt Nat.and_le_left hx)
theorem Zv{i:Nat}(hi:i<64):u64.wrap ((1:Int)*2 ^ (min i 64))=((2 ^ i:Nat):Int):=by
 rw [Nat.min_eq_left (by omega),Int.one_mul];have h:2 ^ i<18446744073709551616:=Nat.pow_lt_pow_right (by omega) (n:=64) hi;have:=jW h;rw [<-this];simp
def bit(ws:List Nat)(i:Nat):Bool:=(ws.getD (i/64) 0).testBit (i%64)
def okW(ws:List Nat):Prop:=∀x∈ws,x<18446744073709551616
theorem zg(i:Nat):bit [] i=false:=by simp [bit]
theorem BJ(ws:List Nat)(i:Nat):bit (ws++ [0]) i=bit ws i:=by
 unfold bit
 congr 1
 simp only [List.getD_eq_getElem?_getD,List.getElem?_append];split
 ·rfl
 ·rename_i h
  rw [List.getElem?_eq_none (l:=ws) (by omega)];cases i/64-ws.length<;>simp
theorem ER{ws:List Nat}{q:Nat}(hq:q<ws.length)(v i:Nat):bit (ws.set q v) i=if i/64=q then v.testBit (i%64)else bit ws i:=by
 unfold bit;simp only [List.getD_eq_getElem?_getD,List.getElem?_set];by_cases h:i/64=q
 ·subst h;simp [hq]
 ·rw [if_neg (fun e=>h e.symm),if_neg h]
theorem Ee{ws:List Nat}(h:okW ws){x:Nat}(hx:x<18446744073709551616):okW (ws++ [x]):=fun y hy=>by
 rw [List.mem_append,List.mem_singleton]at hy;rcases hy with hy|rfl
 ·exact h y hy
 ·exact hx
theorem Ed{ws:List Nat}(h:okW ws){x:Nat}(hx:x<18446744073709551616)(q:Nat):okW (ws.set q x):=fun y hy=>by
 rcases List.mem_or_eq_of_mem_set hy with hy|rfl
 ·exact h y hy
 ·exact hx
def us(l:List Nat):List Value:=l.map fun x:Nat=>.int .u64 (x:Int)
theorem po(l:List Nat):(us l).length=l.length:=by simp [us]
theorem pq{l:List Nat}{j x:Nat}(h:l[j]? =some x):(us l)[j]? =some (.int .u64 (x:Int)):=by simp [us,h]
theorem yu(l:List Nat)(q v:Nat):(us l).set q (.int .u64 (v:Int))=us (l.set q v):=by simp [us,List.map_set]
theorem OB(l m:List Nat):us (l++m)=us l++us m:=by simp [us]
structure US(w:World)(A:Option Addr)(n:Nat)(l:List Nat):Prop where
 len:l.length=n
 at_:∀(i x:Nat),l[i]? =some x->∃a,A=some a/\a.block<w.heap.size/\w.cell? (a.add i)=some (.int .u64 (x:Int))
theorem US.aF{S:Nat->Prop}{w w':World}{A:Option Addr}{n:Nat}{l:List Nat}(h:US w A n l)(hk:Kept S w w')(hn:∀a,A=some a->¬S a.block):US w' A n l:=⟨h.len,fun i x hi=>by
 obtain⟨a,h1,h2,h3⟩:=h.at_ i x hi;exact⟨a,h1,Nat.lt_of_lt_of_le h2 hk.size,hk.cell h3 (by rw [eW];exact hn a h1)⟩⟩
theorem US.load{w:World}{A:Option Addr}{n:Nat}{l:List Nat}(hl:US w A n l){i:Int}{x:Nat}(h0:0<=i)(hx:l[i.toNat]? =some x){k:Int->Prop}(hk:k x):
 (0<=i/\i<(n:Int))/\Is A fun a=>∃t:Int,w.cell? (a.add (i.toNat*1))=some (.int .u64 t)/\k t:=by
 obtain⟨a,rfl,_,hc⟩:=hl.at_ _ x hx;have:=(lgeS hx).1;have:=hl.len;exact⟨⟨h0,by omega⟩,x,by rw [Nat.mul_one];exact hc,hk⟩
theorem OJ:zD prog lF jb 1 8:=⟨by kernel_rfl,by kernel_rfl⟩
abbrev ln(w:World)(B:Nat)(A:Option Addr)(n c:Nat)(l:List Nat):Prop:=Row w B jb 1 A n c (us l)
section
variable{w w':World}{B n c:Nat}{A:Option Addr}{l:List Nat}
theorem ln.len(h:ln w B A n c l):l.length=n:=by have:=Row.len h;rw [po]at this;omega
theorem ln.us(h:ln w B A n c l):US w A n l:=⟨h.len,fun i x hi=>by
 have hlen:=h.len;have:=(lgeS hi).1;obtain⟨b,rfl⟩:=Row.some h (by omega);obtain⟨_,cur,jy⟩:=Row.bI h (k:=b) rfl;exact⟨_,rfl,aQ jy,by rw [br,Nat.zero_add];exact Row.cell h (pq hi)⟩⟩
theorem HH(i:Nat):((i:Int).tdiv 64)=((i/64:Nat):Int):=by
 rw [Int.tdiv_eq_ediv_of_nonneg (by omega)];omega
theorem OG(i:Nat):((i:Int).tmod 64)=((i%64:Nat):Int):=by
 rw [Int.tmod_eq_emod_of_nonneg (by omega)];omega
theorem ur(h:ln w B A n c l)(hn:n<=1000000)(hB:B<=w.heap.size){t:Nat}(x:Nat):
 ∃A' c' w',(Builtin.append_ #[lF,lF] lF #[.slice A n c,.slice (some ⟨w.heap.size,0,none⟩) 1 1]).run prog (w.alloc (.cells #[.int .u64 (x:Int)] t))=.ok (.slice A' (n+1) c') w'/\
  ln w' B A' (n+1) c' (l++ [x])/\Kept (fun k=>a8 A=some k) w w'/\(∀k,a8 A'=some k->a8 A=some k\/w.heap.size<=k):=by
 have k1:Kept Nil w (w.alloc (.cells #[.int .u64 (x:Int)] t)):=(Kept.refl _ _).alloc _;have hb:=aI w (.cells #[.int .u64 (x:Int)] t);have h1:ln (w.alloc (.cells #[.int .u64 (x:Int)] t)) B A n c l:=Row.aF h k1 (fun _ _ h=>h);obtain⟨A',c',w',hr,fE,hg,xh⟩:=fP (P:=prog) (t:=lF) (ty:=lF) (bytes:=8) OJ h1 (a:=⟨w.heap.size,0,none⟩) (m:=1) (cx:=1) (news:=us [x]) rfl
  (fun j u hj=>by rw [br,Nat.zero_add,aD hb];simpa [us]using hj) (fun u hu=>by simp [us]at hu;subst hu;rfl) (by omega) (by unfold maxLen;omega) (by have:=k1.size;omega)
 refine⟨A',c',w',hr,?_,?_,fun k hk=>?_⟩
 ·show Row w' B jb 1 A' (n+1) c' (Proofs.YtfleamccglihoaaGreatDoor.us (l++ [x]))
  rw [OB];exact fE
 ·exact(k1.mono (S':=fun k=>a8 A=some k) (fun _ _ h=>h.elim)).tt (Kept.grown (S:=fun k=>a8 A=some k) (Kept.refl _ _) hg (fun k hk _=>hk))
 ·rcases xh k hk with h|h
  ·exact .inl h
  ·have:=k1.size;exact .inr (by omega)
theorem zV{b:Nat}(h:ln w B (some ⟨b,0,none⟩) n c l){q:Nat}(hq:q<n)(x:Nat):
 ln (w.setCell ⟨b,q,none⟩ (.int .u64 (x:Int))) B (some ⟨b,0,none⟩) n c (l.set q x):=by
 have:=Row.set h (j:=q) (by rw [po,h.len];exact hq) (.int .u64 (x:Int));rw [yu]at this;exact this
theorem z8{K:Value->World->Prop}(h:ln w B A n c l)(ho:okW l)(hn:n<=100000)(hB:B<=w.heap.size){i:Nat}(hi:i<=1000000)
 (hK:∀A' n' c' l' w',ln w' B A' n' c' l'->okW l'->(n'<=n\/n'<=i/64+1)->(∀j,bit l' j=(bit l j||decide (j=i)))->Kept (fun k=>a8 A=some k) w w'->(∀k,a8 A'=some k->a8 A=some k\/w.heap.size<=k)->K (.slice A' n' c') w'):
 bu prog bP.id #[.slice A n c,.int .i64 (i:Int)] w K:=by
 refine bP.of ?_;refine bP.cy (I:=fun s w'=>∃A' n' c' l',s=(A',n',c')/\ln w' B A' n' c' l'/\okW l'/\(n'<=n\/n'<=i/64+1)/\(∀j,bit l' j=bit l j)/\Kept (fun k=>a8 A=some k) w w'/\(∀k,a8 A'=some k->a8 A=some k\/w.heap.size<=k))
  (μ:=fun s _=>i/64+1-s.2.1) (s:=(A,n,c)) ⟨A,n,c,l,rfl,h,ho,.inl (Nat.le_refl _),fun _=>rfl,Kept.refl _ _,fun k hk=>.inl hk⟩ ?_
 rintro s w' ⟨A',n',c',l',rfl,row,Kx,hn',qI,kw,hb⟩;unfold bP.B1;rw [HH,gQ (by omega) (by omega)];refine⟨by omega,?_⟩;refine Split.dec (fun hle=>?_) (fun xZ=>?_)
 ·simp only at hle
  have ajs:n'<=i/64:=by omega
  obtain⟨A2,c2,w2,hr,fD,k2,lT⟩:=ur row (by omega) (Nat.le_trans hB kw.size) (t:=jb) 0;intro w6;refine⟨A2,n'+1,c2,w2,hr,?_⟩;refine⟨(A2,n'+1,c2),rfl,⟨A2,n'+1,c2,l'++ [0],rfl,fD,Ee Kx (by omega),by omega,fun j=>by rw [BJ,qI],?_,fun k hk=>?_⟩,by simp only;omega⟩
  ·exact kw.trans k2 (fun k hk e=>by
    rcases hb k e with h|h
    ·exact h
    ·omega)
  ·rcases lT k hk with h|h
   ·exact hb k h
   ·exact .inr (Nat.le_trans kw.size h)
 ·simp only at xZ
  have dV:i/64<n':=by omega
  rw [aR,bP.df];unfold bP.cV;intro lL;have wI:Kept Nil w' lL:=(Kept.refl _ _).drew;have VO:lL=w'.drew:=rfl;clear_value lL;have pC:ln lL B A' n' c' l':=Row.aF row wI (fun _ _ h=>h);have hlen:=row.len;rw [HH,OG,gQ (by omega) (by omega)];obtain⟨b,rfl⟩:=Row.some pC (by omega);obtain⟨x,hx⟩:∃x,l'[i/64]? =some x:=⟨_,List.getElem?_eq_getElem (by omega)⟩;refine⟨by omega,pC.us.load (by omega) (by rw [Int.toNat_natCast];exact hx) ⟨by omega,by omega,⟨⟨by omega,by simp only;omega⟩,?_⟩⟩⟩;have uB:=Kx x (List.mem_of_getElem? hx);have hp:2 ^ (i%64)<18446744073709551616:=Nat.pow_lt_pow_right (by omega) (n:=64) (Nat.mod_lt _ (by omega));simp only [Is,Int.toNat_natCast,Nat.mul_one,br,Nat.zero_add];rw [Zv (Nat.mod_lt _ (by omega)),orU uB hp];refine⟨Row.wr pC (by rw [po,hlen];exact dV),?_⟩;have qF:Kept (fun k=>a8 A=some k) w (lL.setCell ⟨b,i/64,none⟩ (.int .u64 ((x|||2 ^ (i%64):Nat):Int))):=
   Kept.setCell (kw.trans wI (fun _ _ h=>h.elim)) (p:=⟨b,i/64,none⟩) (fun cU=>by
    rcases hb b rfl with h|h
    ·exact h
    ·exact absurd cU (by simp only;omega)) _
  refine hK _ _ _ _ _ (zV pC dV _) (Ed Kx (Nat.or_lt_two_pow (n:=64) uB hp) _) hn' (fun j=>?_) qF hb;rw [ER (by omega),qI];have hbi:bit l' i=x.testBit (i%64):=by unfold bit;rw [List.getD_eq_getElem?_getD,hx];rfl
  by_cases e:j/64=i/64
  ·rw [if_pos e,Nat.testBit_or,Nat.testBit_two_pow]
   have hbj:bit l' j=x.testBit (j%64):=by unfold bit;rw [e,List.getD_eq_getElem?_getD,hx];rfl
   rw [<-hbj,qI]
   congr 1
   exact decide_eq_decide.2 ⟨fun h=>by omega,fun h=>by rw [h]⟩
  ·rw [if_neg e,decide_eq_false (fun h=>e (by rw [h]))]
   simp
end
section
variable{w w':World}{B n c:Nat}{A:Option Addr}{l:List Nat}
theorem xF{K:Value->World->Prop}(h:ln w B A n c l)(ho:okW l)(hn:n<=100000)(hB:B<=w.heap.size){A2:Option Addr}{n2 c2:Nat}{v:List Nat}(hv:US w A2 n2 v)(hv':okW v)(Yg:n2<=100000)
 (Wu:∀a,A2=some a->∀k,a8 A=some k->a.block≠k)
 (hK:∀A' n' c' l' w',ln w' B A' n' c' l'->okW l'->(n'<=n\/n'<=n2)->(∀j,bit l' j=(bit l j||bit v j))->Kept (fun k=>a8 A=some k) w w'->(∀k,a8 A'=some k->a8 A=some k\/w.heap.size<=k)->K (.slice A' n' c') w'):
 bu prog cD.id #[.slice A n c,.slice A2 n2 c2] w K:=by
 have afd:=hv.len;refine cD.of ?_;refine cD.cy (I:=fun s w'=>∃(i:Nat) (A':Option Addr) (n' c':Nat) (l':List Nat),s=(A',n',c',(i:Int))/\i<=n2/\ln w' B A' n' c' l'/\okW l'/\i<=n'/\n<=n'/\(n'<=n\/n'<=i)/\(∀j,bit l' j=(bit l j||(decide (j/64<i)&&bit v j)))/\Kept (fun k=>a8 A=some k) w w'/\(∀k,a8 A'=some k->a8 A=some k\/w.heap.size<=k))
  (μ:=fun s _=>((n2:Int)-s.2.2.2).toNat) (s:=(A,n,c,0)) ⟨0,A,n,c,l,rfl,Nat.zero_le _,h,ho,Nat.zero_le _,Nat.le_refl _,.inl (Nat.le_refl _),by simp,Kept.refl _ _,fun k hk=>.inl hk⟩ ?_
 rintro s w' ⟨i,A',n',c',l',rfl,hi,row,Kx,fJ,UM,Yf,qI,kw,hb⟩;have Ji:=row.len;refine Split.dec (fun jN=>?_) (fun gH=>?_)
 ·simp only at jN
  have dV:i<n2:=by omega
  obtain⟨x,hx⟩:∃x,v[i]? =some x:=⟨_,List.getElem?_eq_getElem (by omega)⟩;have uB:=hv' x (List.mem_of_getElem? hx);have hvw:US w' A2 n2 v:=hv.aF kw (fun a ha e=>Wu a ha _ e rfl);refine hvw.load (i:=(i:Int)) (by omega) hx ?_;have step:∀(A2:Option Addr) (n3 c3:Nat) (l3:List Nat) (w3:World),ln w3 B A2 n3 c3 l3->okW l3->i<n3->n<=n3->(n3<=n\/n3<=i+1)->(∀j,bit l3 j=(bit l j||(decide (j/64<i)&&bit v j)))->Kept (fun k=>a8 A=some k) w w3->(∀k,a8 A2=some k->a8 A=some k\/w.heap.size<=k)->
   (0<=(i:Int)/\(i:Int)<(n3:Int))/\Is A2 fun a=>∃t:Int,w3.cell? (a.add ((i:Int).toNat*1))=some (.int .u64 t)/\(0<=(i:Int)/\(i:Int)<(n3:Int))/\Is A2 fun a'=>Wr w3 (a'.add ((i:Int).toNat*1))/\
     ∃(l4:List Nat),
     ln (w3.setCell (a'.add ((i:Int).toNat*1)) (.int .u64 (u64.wrap ((BitVec.ofInt 64 t|||BitVec.ofInt 64 (x:Int)).toNat)))) B A2 n3 c3 l4/\okW l4/\(∀j,bit l4 j=(bit l j||(decide (j/64<i+1)&&bit v j)))/\Kept (fun k=>a8 A=some k) w (w3.setCell (a'.add ((i:Int).toNat*1)) (.int .u64 (u64.wrap ((BitVec.ofInt 64 t|||BitVec.ofInt 64 (x:Int)).toNat)))):=by
   intro A2 n3 c3 l3 w3 jR ho3 hi3 hn3 ajg NL k3 nI;have afG:=jR.len;obtain⟨b,rfl⟩:=Row.some jR (by omega);obtain⟨y,hy⟩:∃y,l3[i]? =some y:=⟨_,List.getElem?_eq_getElem (by omega)⟩;have hyl:=ho3 y (List.mem_of_getElem? hy);refine jR.us.load (i:=(i:Int)) (by omega) hy ⟨⟨by omega,by omega⟩,?_⟩;simp only [Is,Int.toNat_natCast,Nat.mul_one,br,Nat.zero_add];rw [orU hyl uB];refine⟨Row.wr jR (by rw [po];omega),l3.set i (y|||x),zV jR hi3 _,Ed ho3 (Nat.or_lt_two_pow (n:=64) hyl uB) _,fun j=>?_,?_⟩
   ·rw [ER (by omega),NL]
    have EI:j/64=i->bit v j=x.testBit (j%64):=fun e=>by unfold bit;rw [e,List.getD_eq_getElem?_getD,hx];rfl
    have KC:j/64=i->bit l3 j=y.testBit (j%64):=fun e=>by unfold bit;rw [e,List.getD_eq_getElem?_getD,hy];rfl
    by_cases e:j/64=i
    ·rw [if_pos e,Nat.testBit_or,<-KC e,<-EI e,NL]
     rw [decide_eq_false (show ¬j/64<i by omega),decide_eq_true (show j/64<i+1 by omega)];simp
    ·rw [if_neg e]
     congr 2
     exact decide_eq_decide.2 (by omega)
   ·refine Kept.setCell k3 (p:=⟨b,i,none⟩) (fun cU=>?_) _
    rcases nI b rfl with h|h
    ·exact h
    ·exact absurd cU (by simp only;omega)
  by_cases he:i=n'
  ·refine Split.yes (by simp [he]) ?_
   obtain⟨Hn,zB,w2,hr,fD,k2,lT⟩:=ur row (by omega) (Nat.le_trans hB kw.size) (t:=jb) 0;intro w10;refine⟨Hn,n'+1,zB,w2,hr,?_⟩;have st:=step Hn (n'+1) zB (l'++ [0]) w2 fD (Ee Kx (by omega)) (by omega) (by omega) (by omega) (fun j=>by rw [BJ,qI])
    (kw.trans k2 (fun k hk e=>by
      rcases hb k e with h|h
      ·exact h
      ·omega)) (fun k hk=>by
      rcases lT k hk with h|h
      ·exact hb k h
      ·exact .inr (Nat.le_trans kw.size h))
   clear step;obtain⟨s1,s2⟩:=st;refine⟨s1,?_⟩;cases Hn with
   |none=>exact s2.elim
   |some a=>
    obtain⟨t,s3,s4,s5,l4,s6,s7,s8,s9⟩:=s2;refine⟨t,s3,s4,s5,?_⟩;intro jM;simp only;rw [dW (n:=(i:Int)) (by omega) (by omega)];exact⟨(some a,n'+1,zB,(i:Int)+1),rfl,⟨i+1,some a,n'+1,zB,l4,rfl,dV,s6,s7,by omega,by omega,by omega,s8,s9,fun k hk=>by
     rcases lT k hk with h|h
     ·exact hb k h
     ·exact .inr (Nat.le_trans kw.size h)⟩,by simp only;omega⟩
  ·refine Split.no (beq_eq_false_iff_ne.2 (by simp only;omega)) ?_
   have st:=step A' n' c' l' w' row Kx (by omega) UM (by omega) qI kw hb;clear step;obtain⟨s1,s2⟩:=st;refine⟨s1,?_⟩;cases A' with
   |none=>exact s2.elim
   |some a=>
    obtain⟨t,s3,s4,s5,l4,s6,s7,s8,s9⟩:=s2;refine⟨t,s3,s4,s5,?_⟩;intro jM;simp only;rw [dW (n:=(i:Int)) (by omega) (by omega)];exact⟨(some a,n',c',(i:Int)+1),rfl,⟨i+1,some a,n',c',l4,rfl,dV,s6,s7,by omega,UM,by omega,s8,s9,hb⟩,by simp only;omega⟩
 ·simp only at gH
  have:i=n2:=by omega
  subst this;rw [aR,cD.df];refine hK A' n' c' l' w' row Kx (by omega) (fun j=>?_) kw hb;rw [qI]
  congr 1
  by_cases e:j/64<i
  ·rw [decide_eq_true e];simp
  ·rw [decide_eq_false e]
   unfold bit;rw [List.getD_eq_getElem?_getD,List.getElem?_eq_none (by omega)];simp
end
theorem BO:∀k m:Nat,(2 ^ k*(2*m+1))&&& (2 ^ k*(2*m+1)-1)=2 ^ (k+1)*m
 |0,m=>by
  apply Nat.eq_of_testBit_eq;intro i;rw [Nat.testBit_and];cases i with
  |zero=>simp [Nat.testBit_zero]
  |succ i=>
   simp only [Nat.testBit_succ];rw [show(2 ^ 0*(2*m+1))/2=m by omega,show(2 ^ 0*(2*m+1)-1)/2=m by omega,show 2 ^ (0+1)*m/2=m by omega];simp
 |k+1,m=>by
  have ih:=BO k m;have hp:0<2 ^ k*(2*m+1):=Nat.mul_pos (Nat.pow_pos (by omega)) (by omega);rw [show 2 ^ (k+1)*(2*m+1)=2*(2 ^ k*(2*m+1))by rw [Nat.pow_succ];ac_rfl,show 2 ^ (k+1+1)*m=2*(2 ^ (k+1)*m)by rw [Nat.pow_succ 2 (k+1)];ac_rfl];generalize 2 ^ k*(2*m+1)=x at ih hp⊢;rw [<-ih];apply Nat.eq_of_testBit_eq;intro i;rw [Nat.testBit_and];cases i with
  |zero=>simp [Nat.testBit_zero]
  |succ i=>
   simp only [Nat.testBit_succ];rw [show 2*x/2=x by omega,show(2*x-1)/2=x-1 by omega,show 2*(x&&& (x-1))/2=x&&& (x-1)by omega,Nat.testBit_and]
theorem Eg{x:Nat}(h0:x≠0)(hx:x<18446744073709551616):Lib.ctz 64 x<64/\x.testBit (Lib.ctz 64 x)=true/\∀t,(x&&& (x-1)).testBit t=(x.testBit t&&decide (t≠Lib.ctz 64 x)):=by
 obtain⟨m,h1,h2⟩:=Lib.ctzFrom_spec 64 x (by omega) hx;have e:Lib.ctz 64 x=Lib.ctzFrom 64 x:=by unfold Lib.ctz;rw [if_neg h0]
 rw [e];generalize Lib.ctzFrom 64 x=k at h1 h2⊢;have hand:x&&& (x-1)=2 ^ (k+1)*m:=by rw [h1];exact BO k m
 have hb:∀t,x.testBit t=(decide (t>=k)&&(2*m+1).testBit (t-k)):=fun t=>by rw [h1,Nat.testBit_two_pow_mul]
 refine⟨h2,by rw [hb];simp,fun t=>?_⟩;rw [hand,Nat.testBit_two_pow_mul,hb];by_cases ht:t=k
 ·subst ht
  simp;intro h;omega
 ·rw [decide_eq_true ht,Bool.and_true]
  by_cases hk:t>=k
  ·obtain⟨d,hd⟩:∃d,t-k=d+1:=⟨t-k-1,by omega⟩
   rw [decide_eq_true hk,decide_eq_true (show t>=k+1 by omega),hd,show t-(k+1)=d by omega,Nat.testBit_succ,show(2*m+1)/2=m by omega]
  ·rw [decide_eq_false hk,decide_eq_false (show ¬t>=k+1 by omega)]
   simp
theorem zl{x:Nat}(h0:x≠0):x&&& (x-1)<x:=Nat.lt_of_le_of_lt Nat.and_le_right (by omega)
def vK(x:Nat):List Nat:=if h:x=0 then []else Lib.ctz 64 x::vK (x&&& (x-1))
termination_by x
decreasing_by exact zl h
theorem xN:vK 0= []:=by rw [vK];simp
theorem xP{x:Nat}(h0:x≠0):vK x=Lib.ctz 64 x::vK (x&&& (x-1)):=by rw [vK,dif_neg h0]
theorem xO:∀(x:Nat),x<18446744073709551616->(∀t,t∈vK x↔x.testBit t=true)/\(vK x).Nodup/\∀t∈vK x,t<64:=by
 intro x
 induction x using Nat.strongRecOn with
 |_ x ih=>
  intro hx;by_cases h0:x=0
  ·subst h0;rw [xN];simp
  ·obtain⟨h1,h2,h3⟩:=Eg h0 hx
   obtain⟨i1,i2,i3⟩:=ih _ (zl h0) (Nat.lt_trans (zl h0) hx);rw [xP h0];refine⟨fun t=>?_,?_,fun t ht=>?_⟩
   ·rw [List.mem_cons,i1,h3]
    by_cases e:t=Lib.ctz 64 x
    ·rw [e,h2];simp
    ·simp [e]
   ·rw [List.nodup_cons,i1,h3]
    exact⟨by simp,i2⟩
   ·rcases List.mem_cons.1 ht with rfl|ht
    ·exact h1
    ·exact i3 t ht
def pN:Nat->List Nat->List Nat
 |_,[]=> []
 |k,x::ws=>(vK x).map (64*k+ ·)++pN (k+1) ws
theorem JV(x:Nat)(ws:List Nat)(j:Nat):bit (x::ws) j=if j<64 then x.testBit j else bit ws (j-64):=by
 unfold bit;split
 ·rename_i h
  rw [show j/64=0 by omega,show j%64=j by omega];rfl
 ·rename_i h
  rw [show j/64=(j-64)/64+1 by omega,show j%64=(j-64)%64 by omega];rfl
theorem pP:∀(ws:List Nat) (k j:Nat),okW ws->(j∈pN k ws↔64*k<=j/\bit ws (j-64*k)=true)
 | [],k,j,_=>by simp [pN,bit]
 |x::ws,k,j,ho=>by
  obtain⟨h1,_,h3⟩:=xO x (ho x (by simp));have ih:=pP ws (k+1) j (fun y hy=>ho y (by simp [hy]));rw [pN,List.mem_append,ih,JV,List.mem_map];constructor
  ·rintro(⟨t,ht,rfl⟩|⟨h,hb⟩)
   ·have:=h3 t ht
    refine⟨by omega,?_⟩;rw [if_pos (by omega),show 64*k+t-64*k=t by omega];exact(h1 t).1 ht
   ·refine⟨by omega,?_⟩
    rw [if_neg (by omega),show j-64*k-64=j-64*(k+1)by omega];exact hb
  ·rintro⟨h,hb⟩
   split at hb
   ·exact .inl ⟨j-64*k,(h1 _).2 hb,by omega⟩
   ·refine .inr ⟨by omega,?_⟩
    rw [show j-64*(k+1)=j-64*k-64 by omega];exact hb
theorem vC:∀ {l m:List Nat},l.Nodup->(∀x∈l,x∈m)->l.length<=m.length
 | [],_,_,_=>Nat.zero_le _
 |x::l,m,hn,h=>by
  rw [List.nodup_cons]at hn;have hx:=h x (by simp);have:=vC (l:=l) (m:=m.erase x) hn.2 (fun y hy=>by
   have fL:y≠x:=fun e=>hn.1 (e▸hy);exact(List.mem_erase_of_ne fL).2 (h y (by simp [hy])))
  rw [List.length_erase_of_mem hx]at this;have jK:0<m.length:=List.length_pos_of_mem hx;simp only [List.length_cons];omega
def tJ(w:World):Prop:=TabAt (Tryz.jX.g 1) Lib.deBruijn64tab w
theorem tJ.aF{S:Nat->Prop}{w w':World}(h:tJ w)(hk:Kept S w w')(hn:¬S (Tryz.jX.g 1)):tJ w':=fun j hj=>hk.cell (h j hj) hn
theorem tJ.same{w w':World}(h:tJ w)(hk:Kept Nil w w'):tJ w':=h.aF hk fun h=>h
theorem tJ.lt{w:World}(h:tJ w):Tryz.jX.g 1<w.heap.size:=World.block_lt_of_cell? w _ (h 0 (by decide))
section
variable{w:World}{K:Value->World->Prop}
theorem Sn{x:Nat}(hx:x<18446744073709551616)(hT:tJ w)(hK:K (.int .i64 (Lib.ctz 64 x:Nat)) w):bu prog bits_TrailingZeros64.id #[.int .u64 (x:Int)] w K:=by
 refine Calls.mono (Any7.bits_TrailingZeros64 Tryz.tzL x hx w (fun _=>hT)) ?_;rintro e w' ⟨rfl,rfl⟩;exact⟨_,rfl,hK⟩
abbrev encI(i:Nat):List Value:= [.int .i64 (i:Int)]
theorem JX(p:Addr){A:Option Addr}{n c:Nat}{l:List Nat}(hn:n<=100000)(ho:okW l):
 om prog aJ.id #[] #[.pointer (some p)] ((pN 0 l).map encI) (fun w=>US w A n l/\w.cell? p=some (.slice A n c)/\tJ w):=by
 intro y I D w0 hI hD oE h0 oD;refine aJ.of ?_;obtain⟨Bh,LF,_⟩:=oE 0 w0 h0;have hlen:=Bh.len;refine⟨A,n,c,LF,?_⟩;refine aJ.cy (I:=fun s w'=>∃(i:Nat) (dn:List Nat),s=(i:Int)/\i<=n/\dn++pN i (l.drop i)=pN 0 l/\I dn.length w') (μ:=fun s _=>((n:Int)-s).toNat) (s:=0) ⟨0,[],rfl,Nat.zero_le _,rfl,h0⟩ ?_;rintro s w' ⟨i,dn,rfl,hi,Jm,hw⟩;refine Split.dec (fun jN=>?_) (fun gH=>?_)
 ·have dV:i<n:=by omega
  obtain⟨x,hx⟩:∃x,l[i]? =some x:=⟨_,List.getElem?_eq_getElem (by omega)⟩;have uB:=ho x (List.mem_of_getElem? hx);have hl:=(oE _ w' hw).1;have vY:l.drop i=x::l.drop (i+1):=by
   obtain⟨h1,h2⟩:=lgeS hx;rw [List.drop_eq_getElem_cons h1,h2]
  rw [vY,pN]at Jm;refine hl.load (i:=(i:Int)) (by omega) hx ?_;refine aJ.iq (I:=fun s w'=>∃(v:Nat) (dn:List Nat),s=(v:Int)/\v<18446744073709551616/\dn++((vK v).map (64*i+ ·)++pN (i+1) (l.drop (i+1)))=pN 0 l/\I dn.length w') (μ:=fun s _=>s.toNat) (s:=(x:Int)) ⟨x,dn,rfl,uB,Jm,hw⟩ ?_;clear hw Jm;rintro s w1 ⟨v,YK,rfl,hv,Jl,Ks⟩;by_cases h0:v=0
  ·refine Split.no (by subst h0;rfl) ?_
   rw [aR,aJ.kL];unfold aJ.iZ;rw [dW (n:=(i:Int)) (by omega) (by omega)];rw [h0,xN,List.map_nil,List.nil_append]at Jl;exact⟨(i:Int)+1,rfl,⟨i+1,YK,rfl,dV,Jl,Ks⟩,by simp only;omega⟩
  ·refine Split.yes (bne_iff_ne.2 (by omega)) ?_
   have P6:=oE _ w1 Ks;obtain⟨hk,Ny,hkr⟩:=Eg h0 hv;rw [xP h0,List.map_cons,List.cons_append]at Jl;refine Sn hv P6.2.2 ⟨_,rfl,?_⟩;have gS:((pN 0 l).map encI)[YK.length]? =some (encI (64*i+Lib.ctz 64 v)):=by
    rw [List.getElem?_map,<-Jl,List.getElem?_append_right (Nat.le_refl _),Nat.sub_self];rfl
   have Ba:i64.wrap (i64.wrap ((64:Int)*(i:Int))+((Lib.ctz 64 v:Nat):Int))=((64*i+Lib.ctz 64 v:Nat):Int):=by
    rw [gQ (x:=(64:Int)*(i:Int)) (by omega) (by omega),gQ (by omega) (by omega)];omega
   rw [Ba];refine(oD YK.length _ w1 gS Ks).mono ?_;rintro b jm ⟨ht,hf⟩;have nu:u64.wrap ((BitVec.ofInt 64 (v:Int)&&& BitVec.ofInt 64 (u64.wrap ((v:Int)-(1:Int)))).toNat:Int)=((v&&& (v-1):Nat):Int):=by
    have e1:(v:Int)-1=((v-1:Nat):Int):=by omega
    rw [e1,jW (x:=v-1) (by omega),adJ hv (by omega)]
   cases b with
   |true=>
    refine Split.no rfl ?_;rw [nu];have cU:=zl h0;refine⟨((v&&& (v-1):Nat):Int),rfl,⟨v&&& (v-1),YK++ [64*i+Lib.ctz 64 v],rfl,by omega,by rw [List.append_assoc];exact Jl,?_⟩,by simp only;omega⟩;rw [List.length_append];exact ht rfl
   |false=>
    refine Split.yes rfl ?_;exact Or.inr (hf rfl)
 ·rw [aR,aJ.df]
  have e:i=n:=by omega
  subst e;refine Or.inl ?_;rw [List.drop_eq_nil_of_le (by omega),pN,List.append_nil]at Jm;rw [List.length_map,<-Jm];exact hw
end
def pos(h:HT):List HT->Nat->Option Nat
 | [],_=>none
 |x::l,i=>if h=x then some i else pos h l (i+1)
theorem pJ{h:HT}:∀ {l:List HT} {i:Nat},pos h l i=none↔h∉l
 | [],i=>by simp [pos]
 |x::l,i=>by
  unfold pos;split
  ·rename_i e;simp [e]
  ·rename_i e
   rw [pJ (l:=l)];simp [e]
theorem vv{h:HT}:∀ {l:List HT} {i j:Nat},pos h l i=some j->i<=j/\l[j-i]? =some h
 | [],i,j,e=>by simp [pos]at e
 |x::l,i,j,e=>by
  unfold pos at e;split at e
  ·rename_i hx
   cases e;subst hx;exact⟨Nat.le_refl _,by rw [Nat.sub_self];rfl⟩
  ·obtain⟨h1,h2⟩:=vv e
   refine⟨by omega,?_⟩;rw [show j-i=(j-(i+1))+1 by omega];exact h2
theorem lA{h:HT}:∀ {l:List HT} (i j:Nat),l.Nodup->l[j]? =some h->pos h l i=some (i+j)
 | [],i,j,_,e=>by simp at e
 |x::l,i,0,_,e=>by
  simp only [List.getElem?_cons_zero,Option.some.injEq]at e;unfold pos;rw [if_pos e.symm];simp
 |x::l,i,j+1,hn,e=>by
  simp only [List.getElem?_cons_succ]at e;rw [List.nodup_cons]at hn;unfold pos;rw [if_neg (fun hx=>hn.1 (by rw [<-hx];exact List.mem_of_getElem? e)),lA (i+1) j hn.2 e]
  congr 1
  omega
section
variable{w:World}
theorem KP:prog.underlying ah=some (.array 32 iX):=by kernel_rfl
theorem OC:prog.underlying iX=some (.int .u8):=by kernel_rfl
theorem M1:∃i,prog.info? iX=some i/\i.size=1:=by
 have h:(match prog.info? iX with|some i=>Nat.beq i.size 1|none=>false)=true:=by kernel_rfl
 split at h
 ·rename_i i hi;exact⟨i,hi,Nat.eq_of_beq_eq_true h⟩
 ·cases h
theorem OD:prog.underlying cK=some (.map ah jV):=by kernel_rfl
theorem vi(a b:HT)(w:World):(Op.equal ah (.agg a.1) (.agg b.1)).run prog w=.ok (decide (a=b)) w:=by
 obtain⟨i,hi,h1⟩:=M1;have:=pB (P:=prog) 9998 w KP OC hi h1 a.2.ints b.2.ints;rw [dO]at this;simp only [Op.equal,Op.maxDepth];exact this
theorem ju(h:HT)(em:Bool)(w:World):(Instr.checkKey em 10000 ah (.agg h.1)).run prog w=.ok () w:=by
 obtain⟨i,hi,h1⟩:=M1;have hc:prog.cellsOf iX=1:=by simp [Program.cellsOf,hi,h1]
 rw [show(10000:Nat)=9999+1 from rfl,Instr.checkKey];simp only [Sem.run_bind,run_underlying KP,Result.andThen_ok];simp only [Std.Legacy.Range.forIn_eq_forIn_range',Std.Legacy.Range.size,Nat.sub_zero,Nat.add_one_sub_one,Nat.div_one];have each:∀j∈List.range' 0 32,∃v,h.1[j]? =some v/\∃x:Int,v=.int .u8 x:=fun j hj=>by
  have vW:j<h.1.size:=by rw [h.2.1];simpa using hj
  obtain⟨x,hx,_⟩:=h.2.2 h.1[j] (by simp);exact⟨_,Array.getElem?_eq_getElem vW,x,hx⟩
 generalize List.range' 0 32=is at each
 induction is with
 |nil=>simp
 |cons j is ih=>
  obtain⟨v,hv,x,rfl⟩:=each j (by simp);have L8:(isAgg iX).run prog w=.ok false w:=by simp [isAgg,run_underlying OC]
  have p1:(part iX h.1 (j*1)).run prog w=.ok (.int .u8 x) w:=by simp [part,L8,hv]
  have p2:(Instr.checkKey em 9999 iX (.int .u8 x)).run prog w=.ok () w:=by
   rw [show(9999:Nat)=9998+1 from rfl,Instr.checkKey];simp [run_underlying OC]
  simp only [List.forIn_cons,Sem.run_bind,Go.bT.run_sizeOf hi w,hc,Result.andThen_ok,p1,p2,Sem.run_pure];exact ih (fun y hy=>each y (by simp [hy]))
def BU(es:List MapEntry)(l:List HT)(i:Nat):Prop:=match es,l with
 | [],[]=>True
 |e::es,h::l=>(e.key=.agg h.1/\e.val=.int .i64 (i:Int))/\BU es l (i+1)
 |_,_=>False
theorem BU.snoc:∀ {es:List MapEntry} {l:List HT} {i:Nat} {e:MapEntry} {h:HT},BU es l i->e.key=.agg h.1->e.val=.int .i64 ((i+l.length:Nat):Int)->BU (es++ [e]) (l++ [h]) i
 | [],[],i,e,h,_,h1,h2=>⟨⟨h1,by simpa using h2⟩,trivial⟩
 |x::es,y::l,i,e,h,he,h1,h2=>⟨he.1,BU.snoc he.2 h1 (by rw [h2];congr 2;simp;omega)⟩
 | [],_::_,_,_,_,he,_,_=>he.elim
 |_::_,[],_,_,_,he,_,_=>he.elim
theorem rV(h:HT)(w:World):∀(es:List MapEntry) (l:List HT) (i:Nat),BU es l i->
 (Instr.findAsking ah (.agg h.1) es i).run prog w=.ok ((pos h l i).map fun j=>(j,.int .i64 (j:Int))) w
 | [],[],i,_=>by simp [Instr.findAsking,pos]
 |e::es,x::l,i,he=>by
  have hq:=vi h x w;have ih:=rV h w es l (i+1) he.2;simp only [Instr.findAsking,he.1.1,Sem.run_bind,hq,Result.andThen_ok];by_cases hx:h=x
  ·simp [hx,pos,he.1.2]
  ·simp [hx,pos,ih]
 | [],_::_,_,he=>he.elim
 |_::_,[],_,he=>he.elim
theorem oz(h:HT)(w:World){es:List MapEntry}{l:List HT}(he:BU es l 0):
 (Instr.findKey ah (.agg h.1) es).run prog w=.ok ((pos h l 0).map fun j=>(j,.int .i64 (j:Int))) w:=by
 have h1:=rV h w es l 0 he;simp only [Instr.findKey,Sem.run_bind,run_underlying KP,Result.andThen_ok];cases es with
 |nil=>
  cases l with
  |nil=>simp [Instr.findNow,pos]
  |cons x l=>exact he.elim
 |cons e es=>
  have:Instr.findNow (.array 32 iX) (.agg h.1) (e::es) 0=none:=by
   simp only [Instr.findNow,Instr.sameNow]
  rw [this];exact h1
theorem pX{r:Nat}{es:Array MapEntry}{clock:Nat}(hb:w.heap[r]? =some (.map es clock)):(getObj r).run prog w=.ok (.map es clock) w:=by
 simp [getObj,Sem.run,hb]
theorem Ct{r:Nat}{es:Array MapEntry}{clock:Nat}(o:Obj)(hb:w.heap[r]? =some (.map es clock)):(setObj r o).run prog w=.ok () {w with heap:=w.heap.setIfInBounds r o}:=by
 simp [setObj,Sem.run,hb]
structure IsMap(w:World)(m:Nat)(l:List HT):Prop where
 ex:∃es clock,w.heap[m]? =some (.map es clock)/\BU es.toList l 0
theorem IsMap.aF{S:Nat->Prop}{w w':World}{m:Nat}{l:List HT}(h:IsMap w m l)(hk:Kept S w w')(hn:¬S m):IsMap w' m l:=by
 obtain⟨es,clock,h1,h2⟩:=h.ex;exact⟨es,clock,hk.heap h1 hn,h2⟩
theorem IsMap.lt{w:World}{m:Nat}{l:List HT}(h:IsMap w m l):m<w.heap.size:=by
 obtain⟨es,clock,h1,_⟩:=h.ex;exact aQ h1
theorem IsMap.look{m:Nat}{l:List HT}(hm:IsMap w m l)(h:HT):
 (Instr.lookup cK (.map (some m)) (.agg h.1) true).run prog w=.ok (.tuple #[.int .i64 (((pos h l 0).getD 0:Nat):Int),.bool (pos h l 0).isSome]) w:=by
 obtain⟨es,clock,h1,h2⟩:=hm.ex;have h3:=oz h w h2;simp only [Instr.lookup,Sem.run_bind,run_underlying OD,pX h1,Result.andThen_ok,Sem.run_pure,ju,h3];cases hp:pos h l 0<;>simp
theorem IsMap.xQ{m:Nat}{l:List HT}(hm:IsMap w m l)(h:HT):
 (Instr.lookup cK (.map (some m)) (.agg h.1) false).run prog w=.ok (.int .i64 (((pos h l 0).getD 0:Nat):Int)) w:=by
 obtain⟨es,clock,h1,h2⟩:=hm.ex;have h3:=oz h w h2;simp only [Instr.lookup,Sem.run_bind,run_underlying OD,pX h1,Result.andThen_ok,Sem.run_pure,ju,h3];cases hp:pos h l 0<;>simp
theorem IsMap.put{m:Nat}{l:List HT}(hm:IsMap w m l){h:HT}(hn:h∉l):
 ∃w',(Instr.mapUpdate cK (.map (some m)) (.agg h.1) (.int .i64 ((l.length:Nat):Int))).run prog w=.ok () w'/\IsMap w' m (l++ [h])/\Kept (· =m) w w':=by
 obtain⟨es,clock,h1,h2⟩:=hm.ex;have h3:=oz h w h2;rw [pJ.2 hn]at h3;refine⟨{w with heap:=w.heap.setIfInBounds m (.map (es.push {key:=.agg h.1,val:=.int .i64 ((l.length:Nat):Int),born:=clock}) (clock+1))},?_,⟨es.push {key:=.agg h.1,val:=.int .i64 ((l.length:Nat):Int),born:=clock},clock+1,?_,?_⟩,?_⟩
 ·simp only [Instr.mapUpdate,Sem.run_bind,run_underlying OD,pX h1,Result.andThen_ok,ju,h3,Option.map_none,Ct _ h1]
 ·simp [aQ h1]
 ·have:=h2.snoc (e:= {key:=.agg h.1,val:=.int .i64 ((l.length:Nat):Int),born:=clock}) (h:=h) rfl (by simp)
  simpa using this
 ·exact⟨rfl,rfl,rfl,by simp,fun k _ hk=>by simp [Ne.symm hk]⟩
end
end Go.Proofs.YtfleamccglihoaaGreatDoor
namespace Go.Proofs.YtfleamccglihoaaGreatDoor
open Go.Proofs.Tryz
open Go Go.bT
structure DN where
 id:HT
 ps:List HT
abbrev DG:=List DN
def ids(D:DG):List HT:=D.map (·.id)
def nJ(D:DG)(p h:HT):Prop:=∃nd∈D,nd.id=h/\p∈nd.ps
inductive fy (D:DG):HT->HT->Prop
 |one {p h:HT}:nJ D p h->fy D p h
 |more {a p h:HT}:fy D a p->nJ D p h->fy D a h
theorem fy.trans{D:DG}{a b c:HT}(h:fy D a b)(h':fy D b c):fy D a c:=by
 induction h' with
 |one hp=>exact .more h hp
 |more _ hp ih=>exact .more ih hp
structure j0(D:DG):Prop where
 pos:0<D.length
 nodup:(ids D).Nodup
 ss:∀nd∈D,SS nd.ps
 up:∀(i:Nat) nd p,D[i]? =some nd->p∈nd.ps->∃(j:Nat) (m:DN),j<i/\D[j]? =some m/\m.id=p
theorem gq(D:DG):(ids D).length=D.length:=by simp [ids]
theorem qu{D:DG}{i:Nat}{nd:DN}(h:D[i]? =some nd):(ids D)[i]? =some nd.id:=by simp [ids,h]
theorem IM{D:DG}{i:Nat}{h:HT}(e:(ids D)[i]? =some h):∃nd,D[i]? =some nd/\nd.id=h:=by
 unfold ids at e;rw [List.getElem?_map]at e;cases hd:D[i]? with
 |none=>rw [hd]at e;cases e
 |some nd=>rw [hd]at e;exact⟨nd,rfl,by simpa using e⟩
theorem dp{D:DG}{h:HT}:h∈ids D↔∃nd∈D,nd.id=h:=by simp [ids]
section
variable{D:DG}
theorem j0.inj(W:j0 D){i j:Nat}{a b:DN}(ha:D[i]? =some a)(hb:D[j]? =some b)(e:a.id=b.id):i=j:=by
 have h1:=lA 0 i W.nodup (qu ha);have h2:=lA 0 j W.nodup (qu hb);rw [e,h2]at h1;simpa using h1.symm
theorem j0.pos_eq(W:j0 D){i:Nat}{nd:DN}(h:D[i]? =some nd):Proofs.YtfleamccglihoaaGreatDoor.pos nd.id (ids D) 0=some i:=by
 have:=lA 0 i W.nodup (qu h)
 rwa [Nat.zero_add]at this
theorem nJ.at_(W:j0 D){p h:HT}(hp:nJ D p h):∃(i j:Nat) (m nd:DN),i<j/\D[i]? =some m/\D[j]? =some nd/\m.id=p/\nd.id=h/\p∈nd.ps:=by
 obtain⟨nd,gB,rfl,qU⟩:=hp;obtain⟨j,hj⟩:=List.mem_iff_getElem?.1 gB;obtain⟨i,m,rM,hm,e⟩:=W.up j nd p hj qU;exact⟨i,j,m,nd,rM,hm,hj,e,rfl,qU⟩
theorem fy.at_(W:j0 D){a h:HT}(hp:fy D a h):∃(i j:Nat) (m nd:DN),i<j/\D[i]? =some m/\D[j]? =some nd/\m.id=a/\nd.id=h:=by
 induction hp with
 |one hp=>
  obtain⟨i,j,m,nd,h1,h2,h3,h4,h5,_⟩:=hp.at_ W;exact⟨i,j,m,nd,h1,h2,h3,h4,h5⟩
 |more _ hp ih=>
  obtain⟨i,j,m,nd,h1,h2,h3,h4,h5⟩:=ih;obtain⟨i',j',m',nd',rN,uE,Cc,Yy,h5',_⟩:=hp.at_ W;have e:=W.inj h3 uE (by rw [h5,Yy]);exact⟨i,j',m,nd',by omega,h2,Cc,h4,h5'⟩
theorem fy.irrefl(W:j0 D)(a:HT):¬fy D a a:=fun h=>by
 obtain⟨i,j,m,nd,h1,h2,h3,h4,h5⟩:=h.at_ W;have:=W.inj h2 h3 (by rw [h4,h5]);omega
theorem fy.mem(W:j0 D){a h:HT}(hp:fy D a h):a∈ids D/\h∈ids D:=by
 obtain⟨i,j,m,nd,_,h2,h3,h4,h5⟩:=hp.at_ W;exact⟨dp.2 ⟨m,List.mem_of_getElem? h2,h4⟩,dp.2 ⟨nd,List.mem_of_getElem? h3,h5⟩⟩
theorem sJ(W:j0 D){i:Nat}{nd:DN}(h:D[i]? =some nd)(a:HT):fy D a nd.id↔∃p∈nd.ps,a=p\/fy D a p:=by
 have key:∀ {p},nJ D p nd.id->p∈nd.ps:=fun⟨nd',hm,e,hp⟩=>by
  obtain⟨j,hj⟩:=List.mem_iff_getElem?.1 hm;have:=W.inj h hj e.symm;subst this;rw [h]at hj;cases hj;exact hp
 constructor
 ·intro ha
  generalize he:nd.id=x at ha;cases ha with
  |one hp=>subst he;exact⟨a,key hp,.inl rfl⟩
  |more Cb hp=>subst he;exact⟨_,key hp,.inr Cb⟩
 ·rintro⟨p,hp,e⟩
  have lj:nJ D p nd.id:=⟨nd,List.mem_of_getElem? h,rfl,hp⟩;rcases e with rfl|e
  ·exact .one lj
  ·exact .more e lj
theorem nP{nd:DN}{p h:HT}:nJ (D++ [nd]) p h↔nJ D p h\/(nd.id=h/\p∈nd.ps):=by
 unfold nJ;constructor
 ·rintro⟨m,hm,e,hp⟩
  rw [List.mem_append,List.mem_singleton]at hm;rcases hm with hm|rfl
  ·exact .inl ⟨m,hm,e,hp⟩
  ·exact .inr ⟨e,hp⟩
 ·rintro(⟨m,hm,e,hp⟩|⟨e,hp⟩)
  ·exact⟨m,by simp [hm],e,hp⟩
  ·exact⟨nd,by simp,e,hp⟩
theorem jB(W:j0 D){nd:DN}(hn:nd.id∉ids D){a h:HT}(hh:h∈ids D):fy (D++ [nd]) a h↔fy D a h:=by
 constructor
 ·intro ha
  induction ha with
  |one hp=>
   rcases nP.1 hp with hp|⟨e,_⟩
   ·exact .one hp
   ·subst e;exact absurd hh hn
  |more _ hp ih=>
   rcases nP.1 hp with hp|⟨e,_⟩
   ·exact .more (ih (fy.mem W (.one hp)).1) hp
   ·subst e;exact absurd hh hn
 ·intro ha
  induction ha with
  |one hp=>exact .one (nP.2 (.inl hp))
  |more Cb hp ih=>exact .more (ih (fy.mem W Cb).2) (nP.2 (.inl hp))
theorem lR(D:DG)(nd:DN):ids (D++ [nd])=ids D++ [nd.id]:=by simp [ids]
theorem j0.snoc(W:j0 D){nd:DN}(hn:nd.id∉ids D)(qU:∀p∈nd.ps,p∈ids D)(hs:SS nd.ps):j0 (D++ [nd]) where
 pos:=by simp
 nodup:=by
  rw [lR,List.nodup_append];refine⟨W.nodup,by simp,fun a ha b hb=>?_⟩;rw [List.mem_singleton]at hb;subst hb;exact fun e=>hn (e▸ha)
 ss:=fun m hm=>by
  rw [List.mem_append,List.mem_singleton]at hm;rcases hm with hm|rfl
  ·exact W.ss m hm
  ·exact hs
 up:=fun i m p hi hp=>by
  rw [List.getElem?_append]at hi;split at hi
  ·rename_i cU
   obtain⟨j,q,h1,h2,h3⟩:=W.up i m p hi hp;exact⟨j,q,h1,by rw [List.getElem?_append_left (by omega)];exact h2,h3⟩
  ·rename_i gH
   have:m=nd:=by
    cases hk:i-D.length with
    |zero=>rw [hk]at hi;simpa using hi.symm
    |succ k=>rw [hk]at hi;simp at hi
   subst this;obtain⟨q,hq,e⟩:=dp.1 (qU p hp);obtain⟨j,hj⟩:=List.mem_iff_getElem?.1 hq;have uT:=(lgeS hj).1;exact⟨j,q,by omega,by rw [List.getElem?_append_left uT];exact hj,e⟩
end
theorem j0.root(r:HT):j0 [⟨r,[]⟩] where
 pos:=by simp
 nodup:=by simp [ids]
 ss:=fun nd h=>by simp at h;subst h;exact List.Pairwise.nil
 up:=fun i nd p h hp=>by
  cases i with
  |zero=>simp at h;subst h;simp at hp
  |succ i=>simp at h
def dF(D:DG)(h:HT)(l:List HT):Int:=
 if h∈ids D then 7 else if(dw l).length=0\/(dw l).length≠l.length then 9 else if ∃p∈dw l,p∉ids D then 6 else 0
def mY(D:DG)(h:HT)(l:List HT):DG:=if dF D h l=0 then D++ [⟨h,dw l⟩]else D
theorem lJ{D:DG}{h:HT}{l:List HT}(e:dF D h l=0):h∉ids D/\l≠ []/\l.Nodup/\∀p∈dw l,p∈ids D:=by
 unfold dF at e;split at e
 ·cases e
 ·rename_i h1
  split at e
  ·cases e
  ·rename_i h2
   split at e
   ·cases e
   ·rename_i h3
    simp only [not_or,Decidable.not_not]at h2;refine⟨h1,fun hl=>h2.1 (by rw [hl];rfl),se h2.2,fun p hp=>Classical.byContradiction fun hn=>h3 ⟨p,hp,hn⟩⟩
theorem j0.add{D:DG}(W:j0 D)(h:HT)(l:List HT):j0 (mY D h l):=by
 unfold mY;split
 ·rename_i e
  obtain⟨h1,_,_,h4⟩:=lJ e;exact W.snoc h1 h4 (jh l)
 ·exact W
open Classical in
noncomputable def pick(D:DG)(is:HT->Prop):List HT:=dw ((ids D).filter fun a=>decide (is a))
theorem jS{D:DG}{is:HT->Prop}{a:HT}:a∈pick D is↔a∈ids D/\is a:=by
 unfold pick;rw [dM,List.mem_filter];simp
theorem Eb{D:DG}{is:HT->Prop}{l:List HT}(h:∀a,a∈l↔a∈ids D/\is a):dw l=pick D is:=DW fun x=>by
 rw [h,List.mem_filter];simp
theorem nO(D:DG)(is:HT->Prop):(pick D is).length<=D.length:=by
 unfold pick;refine Nat.le_trans (qi _) (Nat.le_trans (List.length_filter_le _ _) ?_);rw [gq];exact Nat.le_refl _
noncomputable def eB(D:DG)(l:List HT):List HT:=pick D fun a=>∃h∈l,fy D a h
noncomputable def gU(D:DG)(h:HT):List HT:=pick D fun a=>nJ D h a
open Go.RowKit
structure NS(w:World)(F:Nat->Prop)(A:Option Addr)(n:Nat)(l:List DN):Prop where
 len:l.length=n
 at_:∀(i:Nat) nd,l[i]? =some nd->∃a pA pn pc,A=some a/\a.block<w.heap.size/\F a.block/\Cells w (a.add (i*33)) (nd.id.1.push (.slice pA pn pc))/\HS w pA pn nd.ps/\∀b,pA=some b->F b.block
section
variable{w w':World}{F F' S:Nat->Prop}{A:Option Addr}{n:Nat}{l:List DN}
theorem NS.aF(h:NS w F A n l)(hk:Kept S w w')(hn:∀k,F k->¬S k):NS w' F A n l:=⟨h.len,fun i nd hi=>by
 obtain⟨a,pA,pn,pc,h1,h2,h3,h4,h5,h6⟩:=h.at_ i nd hi;exact⟨a,pA,pn,pc,h1,Nat.lt_of_lt_of_le h2 hk.size,h3,Cells.aF h4 hk (by rw [eW];exact hn _ h3),h5.aF hk (fun b hb=>hn _ (h6 b hb)),h6⟩⟩
theorem NS.mono(h:NS w F A n l)(hf:∀k,F k->F' k):NS w F' A n l:=⟨h.len,fun i nd hi=>by
 obtain⟨a,pA,pn,pc,h1,h2,h3,h4,h5,h6⟩:=h.at_ i nd hi;exact⟨a,pA,pn,pc,h1,h2,hf _ h3,h4,h5,fun b hb=>hf _ (h6 b hb)⟩⟩
theorem vu{h:HT}{v:Value}{j:Nat}{u:Value}(hj:h.1[j]? =some u):(h.1.push v)[j]? =some u:=by
 have cU:=(Array.getElem?_eq_some_iff.1 hj).1;rw [Array.getElem?_push,if_neg (by omega),hj]
theorem qq(h:HT)(v:Value):(h.1.push v)[32]? =some v:=by
 have:=h.2.1;rw [Array.getElem?_push,if_pos (by omega)]
theorem NS.id(h:NS w F A n l){i:Int}{nd:DN}(h0:0<=i)(hx:l[i.toNat]? =some nd){k:Array Value->Prop}(hk:k nd.id.1):
 (0<=i/\i<(n:Int))/\Is A fun a=>∃t:Array Value,(t.size=32/\Cells w ((a.add (i.toNat*33)).add 0) t)/\k t:=by
 obtain⟨a,pA,pn,pc,rfl,_,_,h4,_,_⟩:=h.at_ _ nd hx;have:=(lgeS hx).1;have:=h.len;refine⟨⟨h0,by omega⟩,nd.id.1,⟨nd.id.2.1,fun j v hj=>?_⟩,hk⟩;rw [add_zero];exact h4 j v (vu hj)
theorem NS.ps(h:NS w F A n l){i:Int}{nd:DN}(h0:0<=i)(hx:l[i.toNat]? =some nd){k:Option Addr->Nat->Nat->Prop}(hk:∀pA pn pc,HS w pA pn nd.ps->(∀b,pA=some b->F b.block)->k pA pn pc):
 (0<=i/\i<(n:Int))/\Is A fun a=>∃pA pn pc,w.cell? ((a.add (i.toNat*33)).add 32)=some (.slice pA pn pc)/\k pA pn pc:=by
 obtain⟨a,pA,pn,pc,rfl,_,_,h4,h5,h6⟩:=h.at_ _ nd hx;have:=(lgeS hx).1;have:=h.len;exact⟨⟨h0,by omega⟩,pA,pn,pc,h4 32 _ (qq _ _),hk _ _ _ h5 h6⟩
theorem NS.cells(h:NS w F A n l):∀k,k<=n->∃news:List Value,news.length=k*33/\(∀a,A=some a->∀j u,news[j]? =some u->w.cell? (a.add j)=some u)/\(∀u∈news,u.oneCell'=true)/\
 ∀(i:Nat) nd,i<k->l[i]? =some nd->∃pA pn pc,HS w pA pn nd.ps/\(∀b,pA=some b->F b.block)/\∀(j:Nat) v,(nd.id.1.push (.slice pA pn pc))[j]? =some v->news[i*33+j]? =some v
 |0,_=>⟨[],rfl,by simp,by simp,by intro i nd hi;omega⟩
 |k+1,hk=>by
  obtain⟨news,e1,e2,e3,e4⟩:=h.cells k (by omega);have hlen:=h.len;obtain⟨nd,gB⟩:∃nd,l[k]? =some nd:=⟨_,List.getElem?_eq_getElem (by omega)⟩;obtain⟨a,pA,pn,pc,hA,h2,h3,h4,h5,h6⟩:=h.at_ _ nd gB;have mq:(nd.id.1.push (.slice pA pn pc)).size=33:=by rw [Array.size_push,nd.id.2.1]
  refine⟨news++(nd.id.1.push (.slice pA pn pc)).toList,by rw [List.length_append,e1,Array.length_toList,mq];omega,fun a' Cb j u hj=>?_,fun u hu=>?_,fun i md hi xY=>?_⟩
  ·rw [List.getElem?_append]at hj
   split at hj
   ·exact e2 a' Cb j u hj
   ·rename_i gH
    rw [hA]at Cb;cases Cb;have:=h4 (j-news.length) u (by rw [<-Array.getElem?_toList];exact hj)
    rwa [lW,show k*33+(j-news.length)=j by omega]at this
  ·rw [List.mem_append]at hu
   rcases hu with hu|hu
   ·exact e3 u hu
   ·simp only [Array.toList_push,List.mem_append,List.mem_singleton]at hu
    rcases hu with hu|rfl
    ·exact nd.id.2.one u hu
    ·rfl
  ·by_cases hik:i<k
   ·obtain⟨qA,qn,qc,f1,f2,f3⟩:=e4 i md hik xY
    exact⟨qA,qn,qc,f1,f2,fun j v hj=>by
     have:=f3 j v hj;rw [List.getElem?_append_left (lgeS this).1];exact this⟩
   ·have:i=k:=by omega
    subst this;rw [gB]at xY;cases xY;exact⟨pA,pn,pc,h5,h6,fun j v hj=>by
     rw [List.getElem?_append_right (by omega),e1,show i*33+j-i*33=j by omega,Array.getElem?_toList];exact hj⟩
theorem yy:zD prog cM bS 33 56:=⟨by kernel_rfl,by kernel_rfl⟩
theorem EP:R6 prog bS=some ([(0,32),(32,1)],List.replicate 32 (.int .u8 0)++ [.slice none 0 0]):=by kernel_rfl
theorem GJ(h:HT)(A:Option Addr)(n c:Nat):prog.built bS [(0,.agg h.1),(1,.slice A n c)]=some (h.1.push (.slice A n c)):=by
 have hs:=h.2.1;rw [nV EP,jc (off:=0) (size:=32) rfl (by simpa [Value.cells]using hs) (by simp),jc (off:=32) (size:=1) rfl rfl (by
  rw [List.size_toArray,mC (by simp [Value.cells,hs])];simp)]
 simp only [Instr.fill,Option.some.injEq];apply Array.ext';unfold hU;simp [Value.cells,hs]
structure uJ(w:World)(F:Nat->Prop)(r:Nat)(D:DG):Prop where
 ex:∃(A:Option Addr) (c:Nat) (cs:Array Value) (t:TypeId),w.heap[r]? =some (.cells cs t (0,0))/\cs[0]? =some (.slice A D.length c)/\NS w F A D.length D
 iC:¬F r
theorem uJ.aF{r:Nat}{D:DG}(h:uJ w F r D)(hk:Kept S w w')(hr:¬S r)(hn:∀k,F k->¬S k):uJ w' F r D:=by
 obtain⟨A,c,cs,t,h1,h0,h2⟩:=h.ex;exact⟨⟨A,c,cs,t,hk.heap h1 hr,h0,h2.aF hk hn⟩,h.iC⟩
theorem uJ.same{r:Nat}{D:DG}(h:uJ w F r D)(hk:Kept Nil w w'):uJ w' F r D:=h.aF hk (fun h=>h) (fun _ _ h=>h)
theorem uJ.lt{r:Nat}{D:DG}(h:uJ w F r D):r<w.heap.size:=by obtain⟨A,c,cs,t,h1,_⟩:=h.ex;exact aQ h1
theorem uJ.go{r:Nat}{D:DG}(h:uJ w F r D){k:Option Addr->Nat->Nat->Prop}(hk:∀A c,NS w F A D.length D->k A D.length c):
 ∃A n m,w.cell? ((⟨r,0,none⟩:Addr).add 0)=some (.slice A n m)/\k A n m:=by
 obtain⟨A,c,cs,t,h1,h0,h2⟩:=h.ex;exact⟨A,_,c,by rw [add_zero,aD h1];exact h0,hk A c h2⟩
theorem uJ.go'{r:Nat}{D:DG}(h:uJ w F r D)(kw:Kept Nil w w'){k:Option Addr->Nat->Nat->Prop}(hk:∀A c,NS w F A D.length D->k A D.length c):
 ∃A n m,w'.cell? ((⟨r,0,none⟩:Addr).add 0)=some (.slice A n m)/\k A n m:=by
 obtain⟨A,c,cs,t,h1,h0,h2⟩:=h.ex;exact⟨A,_,c,by rw [add_zero,aD (kw.heap h1 (fun h=>h))];exact h0,hk A c h2⟩
theorem NS.ps'(h:NS w F A n l)(kw:Kept Nil w w'){i:Int}{nd:DN}(h0:0<=i)(hx:l[i.toNat]? =some nd){k:Option Addr->Nat->Nat->Prop}(hk:∀pA pn pc,HS w pA pn nd.ps->k pA pn pc):
 (0<=i/\i<(n:Int))/\Is A fun a=>∃pA pn pc,w'.cell? ((a.add (i.toNat*33)).add 32)=some (.slice pA pn pc)/\k pA pn pc:=by
 obtain⟨a,pA,pn,pc,rfl,_,_,h4,h5,h6⟩:=h.at_ _ nd hx;have:=(lgeS hx).1;have:=h.len;exact⟨⟨h0,by omega⟩,pA,pn,pc,(kw.cell (h4 32 _ (qq _ _)) (fun h=>h)),hk _ _ _ h5⟩
def yn(D:DG)(h:HT):Int:=match pos h (ids D) 0 with|some j=>(j:Int)|none=> -1
theorem qz{D:DG}{h:HT}:yn D h<0↔h∉ids D:=by
 unfold yn;rw [<-pJ (l:=ids D) (i:=0)];cases hp:pos h (ids D) 0<;>simp
theorem tG{D:DG}{h:HT}:yn D h>=0↔h∈ids D:=by
 have:= @qz D h;constructor
 ·intro hg;exact Classical.byContradiction fun hn=>by have:=this.2 hn;omega
 ·intro hm;exact Classical.byContradiction fun hn=>this.1 (by omega) hm
theorem ES{D:DG}{h:HT}(hm:h∈ids D):∃nd,yn D h>=0/\D[(yn D h).toNat]? =some nd/\nd.id=h:=by
 have h1:=tG.2 hm;unfold yn at*;cases hp:pos h (ids D) 0 with
 |none=>rw [hp]at h1;simp at h1
 |some j=>
  obtain⟨_,h2⟩:=vv hp;obtain⟨nd,h3,h4⟩:=IM h2;exact⟨nd,by simp,by simpa using h3,h4⟩
theorem yP{D:DG}{i:Nat}{nd:DN}(h:D[i]? =some nd):(ids D).take (i+1)=(ids D).take i++ [nd.id]:=by
 rw [List.take_add_one,qu h];rfl
theorem xI{h:HT}:∀ {l:List HT} {i k:Nat},h∉l.take k->l[k]? =some h->pos h l i=some (i+k)
 | [],_,_,_,e=>by simp at e
 |x::l,i,0,_,e=>by
  simp only [List.getElem?_cons_zero,Option.some.injEq]at e;unfold pos;rw [if_pos e.symm,Nat.add_zero]
 |x::l,i,k+1,hn,e=>by
  simp only [List.getElem?_cons_succ]at e;rw [List.take_succ_cons,List.mem_cons,not_or]at hn;unfold pos;rw [if_neg hn.1,xI (i:=i+1) hn.2 e]
  congr 1
  omega
variable{r:Nat}{D:DG}{K:Value->World->Prop}
theorem mc(H:uJ w F r D)(hD:D.length<=1000000)(h:HT)(hK:∀w',Kept Nil w w'->K (.int .i64 (yn D h)) w'):
 bu prog bJ.id #[.pointer (some ⟨r,0,none⟩),.agg h.1] w K:=by
 refine bJ.of ?_;unfold bJ.W;intro w3;have k3:Kept Nil w w3:=(Kept.refl Nil w).alloc _;have nI:w3.heap[w.heap.size]? =some (.cells h.1 ah (0,0)):=aI w _;clear_value w3;refine bJ.cy (I:=fun s w'=>∃i:Nat,s=(0,(i:Int))/\i<=D.length/\Kept Nil w3 w'/\h∉(ids D).take i) (μ:=fun s _=>((D.length:Int)-s.2).toNat) (s:=(0,0)) ⟨0,rfl,Nat.zero_le _,Kept.refl _ _,by simp⟩ ?_;rintro s w' ⟨i,rfl,hi,kw,lH⟩;have kk:Kept Nil w w':=k3.tt kw;refine(H.same kk).go fun A c ug=>?_;refine Split.dec (fun jN=>?_) (fun gH=>?_)
 ·simp only at jN
  have dV:i<D.length:=by omega
  obtain⟨nd,gB⟩:∃nd,D[i]? =some nd:=⟨_,List.getElem?_eq_getElem dV⟩;intro w10;have lh:Kept Nil w3 w10:=kw.drew;have F7:Kept Nil w w10:=k3.tt lh;clear_value w10;refine(H.same F7).go fun A c ug=>?_;refine ug.id (i:=(i:Int)) (by omega) (by rw [Int.toNat_natCast];exact gB) ⟨h.1,⟨h.2.1,Cells.bI (lh.heap nI (fun h=>h))⟩,⟨nd.id.2.ints,h.2.ints⟩,?_⟩;rw [dO];refine Split.dec (fun he=>?_) (fun he=>?_)
  ·have:=hK w10 F7
   unfold yn at this;rw [xI (i:=0) lH (by rw [<-he];exact qu gB),Nat.zero_add]at this;exact this
  ·simp only
   rw [dW (n:=(i:Int)) (by omega) (by omega)];refine⟨(0,(i:Int)+1),rfl,⟨i+1,rfl,dV,lh,?_⟩,by simp only;omega⟩;rw [yP gB,List.mem_append,List.mem_singleton,not_or];exact⟨lH,fun e=>he e.symm⟩
 ·simp only at gH
  rw [aR,bJ.df];rw [List.take_of_length_le (by rw [gq];omega)]at lH;have:=hK w' kk;unfold yn at this;rw [pJ.2 lH]at this;exact this
end
section
variable{w w':World}{F F' S:Nat->Prop}{A:Option Addr}{n c B:Nat}{l:List DN}{news:List Value}{r:Nat}{D:DG}{K:Value->World->Prop}
theorem FT(h:Row w B bS 33 A n c news)(hl:l.length=n)(hF:∀k,a8 A=some k->F k)
 (hc:∀(i:Nat) nd,l[i]? =some nd->∃pA pn pc,HS w pA pn nd.ps/\(∀b,pA=some b->F b.block)/\∀(j:Nat) v,(nd.id.1.push (.slice pA pn pc))[j]? =some v->news[i*33+j]? =some v):NS w F A n l:=
 ⟨hl,fun i nd hi=>by
   obtain⟨pA,pn,pc,h1,h2,h3⟩:=hc i nd hi;have:=(lgeS hi).1;obtain⟨b,rfl⟩:=Row.some h (by omega);obtain⟨_,cur,jy⟩:=Row.bI h (k:=b) rfl;exact⟨_,pA,pn,pc,rfl,aQ jy,hF b rfl,fun j v hj=>by rw [lW];exact Row.cells h _ _ (h3 j v hj),h1,h2⟩⟩
theorem yp(h:NS w F A n l){cx:Nat}(h0:0<n)(hn:n<=100000):
 ∃A' c' w' news,(Builtin.append_ #[cM,cM] cM #[.slice none 0 0,.slice A n cx]).run prog w=.ok (.slice A' n c') w'/\
  Row w' w.heap.size bS 33 A' n c' news/\Kept Nil w w'/\
  ∀(i:Nat) nd,l[i]? =some nd->∃pA pn pc,HS w pA pn nd.ps/\(∀b,pA=some b->F b.block)/\∀(j:Nat) v,(nd.id.1.push (.slice pA pn pc))[j]? =some v->news[i*33+j]? =some v:=by
 obtain⟨news,e1,e2,e3,e4⟩:=h.cells n (Nat.le_refl _);have hlen:=h.len;obtain⟨nd,gB⟩:∃nd,l[0]? =some nd:=⟨_,List.getElem?_eq_getElem (by omega)⟩;obtain⟨a,_,_,_,rfl,_⟩:=h.at_ _ nd gB;obtain⟨A',c',w',hr,fE,hg,hb⟩:=fP (P:=prog) (t:=cM) (ty:=cM) (bytes:=56) yy (Row.nil w w.heap.size _ _) (a:=a) (m:=n) (cx:=cx) (news:=news) e1 (e2 a rfl) e3 (by omega) (by unfold maxLen;omega) (Nat.le_refl _);rw [Nat.zero_add]at hr fE;rw [List.nil_append]at fE;exact⟨A',c',w',news,hr,fE,Kept.dA (Kept.refl _ _) hg (fun k hk=>by cases hk),fun i nd hi=>e4 i nd (by have:=(lgeS hi).1;omega) hi⟩
theorem yq(h:Row w B bS 33 A n c news)(hn:n<=100000)(hB:B<=w.heap.size){b:Nat}{arr:Array Value}(hb:w.heap[b]? =some (.cells arr bS (0,0)))(hs:arr.size=33)(h1:∀u∈arr.toList,u.oneCell'=true):
 ∃A' c' w',(Builtin.append_ #[cM,cM] cM #[.slice A n c,.slice (some ⟨b,0,none⟩) 1 1]).run prog w=.ok (.slice A' (n+1) c') w'/\
  Row w' B bS 33 A' (n+1) c' (news++arr.toList)/\w.grownBy w' (a8 A):=by
 obtain⟨A',c',w',hr,fE,hg,hb⟩:=fP (P:=prog) (t:=cM) (ty:=cM) (bytes:=56) yy h (a:=⟨b,0,none⟩) (m:=1) (cx:=1) (news:=arr.toList) (by simpa using hs)
  (fun j u hj=>by rw [br,Nat.zero_add,aD hb];simpa using hj) h1 (by omega) (by unfold maxLen;omega) hB
 exact⟨A',c',w',hr,fE,hg⟩
theorem K3{nd:DN}{pA:Option Addr}{pn pc:Nat}(h:Row w B bS 33 A (n+1) c (news++(nd.id.1.push (.slice pA pn pc)).toList))(zx:news.length=n*33)(hl:l.length=n)(hF:∀k,a8 A=some k->F k)
 (hc:∀(i:Nat) nd,l[i]? =some nd->∃pA pn pc,HS w pA pn nd.ps/\(∀b,pA=some b->F b.block)/\∀(j:Nat) v,(nd.id.1.push (.slice pA pn pc))[j]? =some v->news[i*33+j]? =some v)
 (hp:HS w pA pn nd.ps) (Kw:∀b,pA=some b->F b.block):NS w F A (n+1) (l++ [nd]):=by
 refine FT h (by simp [hl]) hF fun i md hi=>?_;rw [List.getElem?_append]at hi;split at hi
 ·obtain⟨qA,qn,qc,h1,h2,h3⟩:=hc i md hi
  exact⟨qA,qn,qc,h1,h2,fun j v hj=>by
   have:=h3 j v hj;rw [List.getElem?_append_left (lgeS this).1];exact this⟩
 ·rename_i gH
  have Gs:i=n/\md=nd:=by
   cases hk:i-l.length with
   |zero=>rw [hk]at hi;exact⟨by omega,by simpa using hi.symm⟩
   |succ k=>rw [hk]at hi;simp at hi
  obtain⟨rfl,rfl⟩:=Gs;exact⟨pA,pn,pc,hp,Kw,fun j v hj=>by
   rw [List.getElem?_append_right (by omega),zx,show i*33+j-i*33=j by omega,Array.getElem?_toList];exact hj⟩
theorem NS.same(h:NS w F A n l)(hk:Kept Nil w w'):NS w' F A n l:=h.aF hk fun _ _ h=>h
theorem uJ.mono(h:uJ w F r D)(hf:∀k,F k->F' k)(hr:¬F' r):uJ w F' r D:=by
 obtain⟨A,c,cs,t,h1,h0,h2⟩:=h.ex;exact⟨⟨A,c,cs,t,h1,h0,h2.mono hf⟩,hr⟩
theorem Aj(h:HT)(A:Option Addr)(n c:Nat):∀u∈(h.1.push (.slice A n c)).toList,u.oneCell'=true:=fun u hu=>by
 simp only [Array.toList_push,List.mem_append,List.mem_singleton]at hu;rcases hu with hu|rfl
 ·exact h.2.one u hu
 ·rfl
theorem D8(H:uJ w F r D)(W:j0 D)(hD:D.length<=10000){h:HT}{lp:List HT}{A:Option Addr}{n c:Nat}(hl:HS w A n lp)(hn:n<=400000)
 (hK:∀w',uJ w' (fun k=>F k\/(w.heap.size<=k/\k<w'.heap.size)) r (mY D h lp)->Kept (· =r) w w'->K (.int .i64 (dF D h lp)) w'):
 bu prog bC.id #[.pointer (some ⟨r,0,none⟩),.agg h.1,.slice A n c] w K:=by
 have aaI:=H.lt;have hlen:=hl.len;have lH:∀w',Kept Nil w w'->∀e,dF D h lp=e->e≠0->K (.int .i64 e) w':=fun w' k e he fL=>by
  have:=hK w' ?_ (k.mono fun _ _ h=>h.elim)
  ·rw [he]at this;exact this
  ·unfold mY
   rw [if_neg (by rw [he];exact fL)];exact(H.same k).mono (fun _ h=>.inl h) (fun e=>e.elim H.iC (fun h=>absurd h.1 (by omega)))
 refine bC.of ?_;unfold bC.W;intro w4;have k4:Kept Nil w w4:=(Kept.refl _ _).alloc _;have rD:w4.heap[w.heap.size]? =some (.cells h.1 ah (0,0)):=aI w _;clear_value w4;refine⟨h.1,⟨h.2.1,Cells.bI rD⟩,mc (H.same k4) (by omega) h fun w7 k7=>⟨_,rfl,Split.dec (fun gH=>?_) (fun Qe=>?_)⟩⟩
 ·refine lH w7 (k4.tt k7) 7 ?_ (by omega)
  unfold dF;rw [if_pos (tG.1 gH)]
 have yU:h∉ids D:=fun hm=>Qe (tG.2 hm);have CE:Kept Nil w w7:=k4.tt k7;refine qZ (hl.same CE) hn fun Hp KH w10 oN lh=>⟨Hp,_,KH,rfl,?_⟩;have F7:Kept Nil w w10:=CE.tt lh;have CQ:(dw lp).length<=n:=by have:=qi lp;omega
 by_cases h0:(dw lp).length=0
 ·refine Split.yes (by simp [h0]) ?_
  refine lH w10 F7 9 ?_ (by omega);unfold dF;rw [if_neg yU,if_pos (.inl h0)]
 refine Split.no (beq_eq_false_iff_ne.2 (by omega)) ?_;by_cases h1:(dw lp).length≠n
 ·refine Split.yes (bne_iff_ne.2 (by omega)) ?_
  refine lH w10 F7 9 ?_ (by omega);unfold dF;rw [if_neg yU,if_pos (.inr (by omega))]
 replace h1:(dw lp).length=n:=by omega
 refine Split.no (by rw [h1];simp) ?_;refine bC.cy (I:=fun s w'=>∃i:Nat,s=(0,(i:Int))/\i<=(dw lp).length/\(∀p∈(dw lp).take i,p∈ids D)/\Kept Nil w10 w') (μ:=fun s _=>(((dw lp).length:Int)-s.2).toNat) (s:=(0,0)) ⟨0,rfl,Nat.zero_le _,by simp,Kept.refl _ _⟩ ?_;rintro s w' ⟨i,rfl,hi,di,kw⟩;have kk:Kept Nil w w':=F7.tt kw;have OQ:bK w' w7.heap.size Hp (dw lp).length KH (dw lp):=Row.aF oN kw (fun _ _ h=>h);refine Split.dec (fun jN=>?_) (fun gH=>?_)
 ·simp only at jN
  have dV:i<(dw lp).length:=by omega
  obtain⟨x,hx⟩:∃x,(dw lp)[i]? =some x:=⟨_,List.getElem?_eq_getElem dV⟩;refine OQ.hs.load (i:=(i:Int)) (by omega) hx (mc (H.same kk) (by omega) x fun w2 k2=>⟨_,rfl,Split.dec (fun yV=>?_) (fun jK=>?_)⟩)
  ·have PJ:=qz.1 yV
   refine lH w2 (kk.tt k2) 6 ?_ (by omega);unfold dF;rw [if_neg yU,if_neg (by omega),if_pos ⟨x,List.mem_of_getElem? hx,PJ⟩]
  ·simp only
   rw [dW (n:=(i:Int)) (by omega) (by omega)];refine⟨(0,(i:Int)+1),rfl,⟨i+1,rfl,dV,fun p hp=>?_,kw.tt k2⟩,by simp only;omega⟩;rcases(bO hx).1 hp with hp|rfl
   ·exact di p hp
   ·exact tG.1 (by omega)
 ·simp only at gH
  rw [List.take_of_length_le (by omega)]at di;have VZ:dF D h lp=0:=by
   unfold dF;rw [if_neg yU,if_neg (by omega),if_neg (fun⟨p,hp,LC⟩=>LC (di p hp))]
  have hD':mY D h lp=D++ [⟨h,dw lp⟩]:=by unfold mY;rw [if_pos VZ]
  rw [VZ,hD']at hK;have NV:=W.pos;rw [aR,bC.df];unfold bC.cV;intro DR;have Pf:Kept Nil w DR:=kk.drew;have IH:Kept Nil w10 DR:=kw.drew;have ail:DR.heap=w'.heap:=rfl;clear_value DR;have Wn:DR.heap[w.heap.size]? =some (.cells h.1 ah (0,0)):=(IH.heap (lh.heap (k7.heap rD (fun h=>h)) (fun h=>h)) (fun h=>h));obtain⟨A,c,ak9,t27,IV,VW,ug⟩:=(H.same Pf).ex;refine⟨A,_,c,by rw [add_zero,aD IV];exact VW,h.1,⟨h.2.1,Cells.bI Wn⟩,?_⟩;rw [GJ];have mq:(h.1.push (.slice Hp (dw lp).length KH)).size=33:=by rw [Array.size_push,h.2.1]
  have ajn:∀ {v},Kept Nil w v->w.heap.size<=v.heap.size:=fun k=>k.size;have adn:∀b,Hp=some b->w.heap.size<=b.block:=fun b hb=>Nat.le_trans CE.size (Row.bI oN (k:=b.block) (by rw [hb];rfl)).1;have Gu:∀(A':Option Addr) (c':Nat) (v:World) (news:List Value),Row v DR.heap.size bS 33 A' (D.length+1) c' (news++(h.1.push (.slice Hp (dw lp).length KH)).toList)->news.length=D.length*33->Kept Nil DR v->
   (∀(i:Nat) nd,D[i]? =some nd->∃pA pn pc,HS v pA pn nd.ps/\(∀b,pA=some b->F b.block)/\∀(j:Nat) u,(nd.id.1.push (.slice pA pn pc))[j]? =some u->news[i*33+j]? =some u)->
   Wr v ((⟨r,0,none⟩:Addr).add 0)/\K (.int .i64 0) (v.setCell ((⟨r,0,none⟩:Addr).add 0) (.slice A' (D.length+1) c')):=by
   intro A' c' v news fE zx kv vZ;have O2:Kept Nil w v:=Pf.tt kv;obtain⟨A0,c0,cs0,t0,jx,acq,_⟩:=(H.same O2).ex;have Nx:=(Array.getElem?_eq_some_iff.1 acq).1;rw [add_zero];have k3:Kept (· =r) v (v.setCell ⟨r,0,none⟩ (.slice A' (D.length+1) c')):=Kept.setCell (S:=fun k=>k=r) (Kept.refl _ v) (p:=⟨r,0,none⟩) (fun _=>rfl) _;refine⟨dY jx Nx,hK _ ⟨⟨A',c',cs0.setIfInBounds 0 (.slice A' (D.length+1) c'),t0,?_,?_,?_⟩,fun e=>e.elim H.iC (fun h=>absurd h.1 (by omega))⟩ ((O2.mono (S':=fun k=>k=r) (fun _ _ h=>h.elim)).tt k3)⟩
   ·rw [dh jx 0]
   ·rw [List.length_append]
    simp [Nx]
   ·have CR:=k3.size
    have WQ:∀b,Hp=some b->b.block<v.heap.size:=fun b hb=>by
     obtain⟨_,cur,hc⟩:=Row.bI oN (k:=b.block) (by rw [hb];rfl);have:=aQ hc;have:=IH.size;have:=kv.size;omega
    have P8:=K3 (F:=fun k=>F k\/(w.heap.size<=k/\k<(v.setCell ⟨r,0,none⟩ (.slice A' (D.length+1) c')).heap.size)) (nd:=⟨h,dw lp⟩) fE zx rfl (fun k hk=>by
     obtain⟨h1,cur,hc⟩:=Row.bI fE hk;have:=aQ hc;have:=Pf.size;exact .inr ⟨by omega,by omega⟩) (fun i nd hi=>by
     obtain⟨pA,pn,pc,h1,h2,h3⟩:=vZ i nd hi;exact⟨pA,pn,pc,h1,fun b hb=>.inl (h2 b hb),h3⟩) ((oN.hs.same IH).same kv) (fun b hb=>.inr ⟨adn b hb,by have:=WQ b hb;omega⟩)
    have:=P8.aF k3 (fun k hk e=>by
     subst e;rcases hk with hk|hk
     ·exact H.iC hk
     ·omega)
    rw [List.length_append];exact this
  refine⟨?_,?_⟩
  ·obtain⟨A1,c1,sM,news,mU,lN,CI,vZ⟩:=yp ug (cx:=c) NV (by omega)
   refine⟨A1,_,c1,sM,mU,⟨h.1,rfl,h.2.1,Cells.bI (CI.heap Wn (fun h=>h))⟩,mq,?_⟩;intro oq;have aar:oq=sM.alloc (.cells (h.1.push (.slice Hp (dw lp).length KH)) bS):=by
    show sM.alloc (.cells ((h.1.push (.slice Hp (dw lp).length KH)).toList++ []).toArray bS)=_
    rw [List.append_nil,Array.toArray_toList]
   have AR:Kept Nil sM oq:=(Kept.refl _ _).alloc _;have Wl:oq.heap[sM.heap.size]? =some (.cells (h.1.push (.slice Hp (dw lp).length KH)) bS (0,0)):=by rw [aar];exact aI sM _
   clear_value oq;have Ae:=Row.aF lN AR (fun _ _ h=>h);obtain⟨A2,c2,uv,jF,fD,LX⟩:=yq Ae (by omega) (Nat.le_trans CI.size AR.size) Wl mq (Aj _ _ _ _);have uA:Kept Nil DR uv:=Kept.dA (CI.tt AR) LX (fun k hk=>(Row.bI lN hk).1);refine⟨A2,_,c2,uv,jF,?_⟩;exact Gu A2 c2 uv news fD (Row.len lN) uA (fun i nd hi=>by
    obtain⟨pA,pn,pc,h1,h2,h3⟩:=vZ i nd hi;exact⟨pA,pn,pc,h1.same uA,h2,h3⟩)
  ·refine⟨mq,?_⟩
   intro G4;have aaq:G4=DR.alloc (.cells (h.1.push (.slice Hp (dw lp).length KH)) bS):=by
    show DR.alloc (.cells ((h.1.push (.slice Hp (dw lp).length KH)).toList++ []).toArray bS)=_
    rw [List.append_nil,Array.toArray_toList]
   have Iu:Kept Nil DR G4:=(Kept.refl _ _).alloc _;have L5:G4.heap[DR.heap.size]? =some (.cells (h.1.push (.slice Hp (dw lp).length KH)) bS (0,0)):=by rw [aaq];exact aI DR _
   clear_value G4;refine⟨by rw [add_zero,aD (Iu.heap IV (fun h=>h))];exact VW,?_⟩;obtain⟨A1,c1,Ov,news,mU,lN,Pd,vZ⟩:=yp (ug.same Iu) (cx:=c) NV (by omega);have Wj:=Pd.heap L5 (fun h=>h);obtain⟨A2,c2,Km,jF,fD,LX⟩:=yq lN (by omega) Pd.size Wj mq (Aj _ _ _ _);have TE:Kept Nil G4 Km:=Kept.dA Pd LX (fun k hk=>(Row.bI lN hk).1);have XQ:Kept Nil DR Km:=Iu.tt TE;refine⟨A1,_,c1,Ov,mU,A2,_,c2,Km,jF,?_⟩;exact Gu A2 c2 Km news (Row.base fD fun k hk=>Nat.le_trans Iu.size (Row.bI fD hk).1) (Row.len lN) XQ (fun i nd hi=>by
    obtain⟨pA,pn,pc,h1,h2,h3⟩:=vZ i nd hi;exact⟨pA,pn,pc,h1.same TE,h2,h3⟩)
end
theorem tf:∀ {l m:List HT},l.Nodup->(∀x∈l,x∈m)->l.length<=m.length
 | [],_,_,_=>Nat.zero_le _
 |x::l,m,hn,h=>by
  rw [List.nodup_cons]at hn;have hx:=h x (by simp);have:=tf (l:=l) (m:=m.erase x) hn.2 (fun y hy=>by
   have fL:y≠x:=fun e=>hn.1 (e▸hy);exact(List.mem_erase_of_ne fL).2 (h y (by simp [hy])))
  rw [List.length_erase_of_mem hx]at this;have jK:0<m.length:=List.length_pos_of_mem hx;simp only [List.length_cons];omega
structure PB(w0 w':World)(D:DG)(l out:List HT)(A1:Option Addr)(c1:Nat)(A2:Option Addr)(c2:Nat):Prop where
 r1:bK w' w0.heap.size A1 out.length c1 out
 r2:bK w' w0.heap.size A2 (l.length+out.length) c2 (l++out)
 ap:∀k,a8 A1=some k->a8 A2≠some k
 nd:out.Nodup
 GP:∀x∈out,∃h∈l,fy D x h
 kp:Kept Nil w0 w'
section
variable{w w' jm:World}{F S:Nat->Prop}{D:DG}{l out:List HT}{A1 A2:Option Addr}{c1 c2 r:Nat}{K:Value->World->Prop}
theorem PB.same(h:PB w w' D l out A1 c1 A2 c2)(k:Kept Nil w' jm):PB w jm D l out A1 c1 A2 c2:=
 ⟨Row.aF h.r1 k (fun _ _ h=>h),Row.aF h.r2 k (fun _ _ h=>h),h.ap,h.nd,h.GP,h.kp.tt k⟩
theorem PB.len(h:PB w w' D l out A1 c1 A2 c2)(W:j0 D):out.length<=D.length:=by
 rw [<-gq D];exact tf h.nd fun x hx=>by obtain⟨_,_,ha⟩:=h.GP x hx;exact(ha.mem W).1
theorem iL(w:World)(x:HT):HS (w.alloc (.cells (x.1.toList++ []).toArray ah)) (some ⟨w.heap.size,0,none⟩) 1 [x]:=by
 refine HS.one (t:=ah) (fr:=(0,0)) ?_;rw [List.append_nil,Array.toArray_toList];exact aI w _
theorem PB.add(h:PB w w' D l out A1 c1 A2 c2){x:HT}(hx:x∉out)(ha:∃h∈l,fy D x h)(hb:l.length+out.length<=500000):
 ∃Kj Hl v,(Builtin.append_ #[ay,ay] ay #[.slice A1 out.length c1,.slice (some ⟨w'.heap.size,0,none⟩) 1 1]).run prog (w'.alloc (.cells (x.1.toList++ []).toArray ah))=.ok (.slice Kj (out.length+1) Hl) v/\Kept (fun k=>w.heap.size<=k) w' v/\
 ∃Hn zB u,(Builtin.append_ #[ay,ay] ay #[.slice A2 (l.length+out.length) c2,.slice (some ⟨v.heap.size,0,none⟩) 1 1]).run prog (v.alloc (.cells (x.1.toList++ []).toArray ah))=.ok (.slice Hn (l.length+out.length+1) zB) u/\
  PB w u D l (out++ [x]) Kj Hl Hn zB:=by
 have hkw:=h.kp.size;have k1:Kept Nil w' (w'.alloc (.cells (x.1.toList++ []).toArray ah)):=(Kept.refl _ _).alloc _;have sO:=iL w' x;generalize w'.alloc (.cells (x.1.toList++ []).toArray ah)=w1 at k1 sO⊢;have r1:bK w1 w.heap.size A1 out.length c1 out:=Row.aF h.r1 k1 (fun _ _ h=>h);have aiS:=k1.size;obtain⟨Kj,Hl,v,mU,lN,hg1,yY⟩:=ct (cx:=1) ay r1 sO (by omega) (by omega);have ZR:Kept (fun k=>a8 A1=some k) w1 v:=Kept.grown (Kept.refl _ _) hg1 (fun k hk _=>hk);have hA1:∀k,a8 A1=some k->w.heap.size<=k/\k<w'.heap.size:=fun k hk=>by
  obtain⟨h1,cur,hc⟩:=Row.bI h.r1 hk;exact⟨h1,aQ hc⟩
 have NX:∀k,a8 A2=some k->w.heap.size<=k/\k<w'.heap.size:=fun k hk=>by
  obtain⟨h1,cur,hc⟩:=Row.bI h.r2 hk;exact⟨h1,aQ hc⟩
 have kv:Kept (fun k=>w.heap.size<=k) w' v:=(k1.mono (fun _ _ h=>h.elim)).trans ZR (fun k _ e=>(hA1 k e).1);refine⟨Kj,Hl,v,mU,kv,?_⟩;have k2:Kept Nil v (v.alloc (.cells (x.1.toList++ []).toArray ah)):=(Kept.refl _ _).alloc _;have uS:=iL v x;generalize v.alloc (.cells (x.1.toList++ []).toArray ah)=w2 at k2 uS⊢;have r2v:bK v w.heap.size A2 (l.length+out.length) c2 (l++out):=Row.aF (Row.aF h.r2 k1 (fun _ _ h=>h)) ZR (fun k hk e=>h.ap k e hk);have r2:bK w2 w.heap.size A2 (l.length+out.length) c2 (l++out):=Row.aF r2v k2 (fun _ _ h=>h);have Gj:=ZR.size;have aiP:=k2.size;obtain⟨Hn,zB,u,jF,fD,LX,lT⟩:=ct (cx:=1) ay r2 uS (by omega) (by omega);have ku:Kept (fun k=>a8 A2=some k) w2 u:=Kept.grown (Kept.refl _ _) LX (fun k hk _=>hk);have adl:∀k,a8 Kj=some k->k<v.heap.size:=fun k hk=>by
  obtain⟨_,cur,hc⟩:=Row.bI lN hk;exact aQ hc
 have Wt:∀k,a8 Kj=some k->a8 A2≠some k:=fun k hk e=>by
  rcases yY k hk with h'|h'
  ·exact h.ap k h' e
  ·have:=(NX k e).2;omega
 have SH:bK u w.heap.size Kj (out.length+1) Hl (out++ [x]):=Row.aF (Row.aF lN k2 (fun _ _ h=>h)) ku (fun k hk e=>Wt k hk e);refine⟨Hn,zB,u,jF,?_⟩;refine⟨?_,?_,fun k hk e=>?_,?_,fun y hy=>?_,?_⟩
 ·rw [List.length_append];exact SH
 ·rw [List.length_append,<-List.append_assoc,List.length_singleton,<-Nat.add_assoc];exact fD
 ·rcases lT k e with h'|h'
  ·exact Wt k hk h'
  ·have:=adl k hk;omega
 ·rw [List.nodup_append]
  exact⟨h.nd,by simp,fun u hu v hv e=>hx (by rw [List.mem_singleton]at hv;rw [<-hv,<-e];exact hu)⟩
 ·rw [List.mem_append,List.mem_singleton]at hy
  rcases hy with hy|rfl
  ·exact h.GP y hy
  ·exact ha
 ·exact((h.kp.trans kv (fun k hk e=>absurd hk (by omega))).tt k2).trans ku (fun k hk e=>absurd (NX k e).1 (by omega))
theorem FJ(W:j0 D){l out:List HT}(ha:∀x∈out,∃h∈l,fy D x h)(hc:∀h∈l++out,∀p,nJ D p h->p∈out):dw out=eB D l:=by
 refine Eb fun a=>⟨fun h=>?_,fun⟨_,h,hl,han⟩=>?_⟩
 ·obtain⟨b,hb,lI⟩:=ha a h
  exact⟨(lI.mem W).1,b,hb,lI⟩
 ·have key:∀ {a h},fy D a h->h∈l++out->a∈out:=by
   intro a h han
   induction han with
   |one hp=>exact fun hm=>hc _ hm _ hp
   |more _ hp ih=>exact fun hm=>ih (by rw [List.mem_append];exact .inr (hc _ hm _ hp))
  exact key han (by rw [List.mem_append];exact .inl hl)
theorem Ah(H:uJ w F r D)(W:j0 D)(hD:D.length<=10000){A:Option Addr}{n c:Nat}(hl:HS w A n l)(hn:n<=10000)
 (hK:∀A' c' w',bK w' w.heap.size A' (eB D l).length c' (eB D l)->Kept Nil w w'->K (.slice A' (eB D l).length c') w'):
 bu prog aH.id #[.pointer (some ⟨r,0,none⟩),.slice A n c] w K:=by
 refine aH.of ?_;unfold aH.W;have hlen:=hl.len;obtain⟨A4,c4,w4,wJ,iG,EF,rD⟩:=ct (cx:=c) ay (bK.nil w w.heap.size) hl (by omega) (Nat.le_refl _);rw [Nat.zero_add]at wJ iG;rw [List.nil_append]at iG;have k4:Kept Nil w w4:=Kept.dA (Kept.refl _ _) EF (fun k hk=>by cases hk);refine⟨A4,n,c4,w4,wJ,?_⟩;refine aH.cy (I:=fun s w'=>∃(i:Nat) (out:List HT) (A1:Option Addr) (c1:Nat) (A2:Option Addr) (c2:Nat),s=(A1,out.length,c1,A2,n+out.length,c2,(i:Int))/\PB w w' D l out A1 c1 A2 c2/\i<=n+out.length/\∀h∈(l++out).take i,∀p,nJ D p h->p∈out)
  (μ:=fun s _=>((n:Int)+D.length-s.2.2.2.2.2.2).toNat) (s:=(none,0,0,A4,n,c4,0))
  ⟨0,[],none,0,A4,c4,by simp,⟨bK.nil _ _,by simpa [hlen]using iG,(fun k hk=>by cases hk),List.Pairwise.nil,by simp,k4⟩,by omega,by simp⟩ ?_
 rintro s w' ⟨i,out,A1,c1,A2,c2,rfl,Bf,hi,qH⟩;have RN:=Bf.len W;have jF:=Bf.r2;rw [hlen]at jF;refine Split.dec (fun jN=>?_) (fun gH=>?_)
 ·simp only at jN
  have dV:i<n+out.length:=by omega
  obtain⟨h,hh⟩:∃h,(l++out)[i]? =some h:=⟨_,List.getElem?_eq_getElem (by simp;omega)⟩;refine jF.hs.load (i:=(i:Int)) (by omega) hh (mc (H.same Bf.kp) (by omega) h fun mz ru=>⟨_,rfl,Split.dec (fun yV=>?_) (fun jK=>?_)⟩)
  ·simp only
   rw [dW (n:=(i:Int)) (by omega) (by omega)];refine⟨(A1,out.length,c1,A2,n+out.length,c2,(i:Int)+1),rfl,⟨i+1,out,A1,c1,A2,c2,rfl,Bf.same ru,by omega,fun x hx p hp=>?_⟩,by simp only;omega⟩;rcases(bO hh).1 hx with hx|rfl
   ·exact qH x hx p hp
   ·exact absurd (fy.mem W (.one hp)).2 (qz.1 yV)
  ·have iV:h∈ids D:=tG.1 (by omega)
   obtain⟨nd,h1,h2,h3⟩:=ES iV;have Ey:=Bf.same ru;have H13:=H.same Ey.kp;have Dc:∃b∈l,h=b\/fy D h b:=by
    have hm:=List.mem_of_getElem? hh;rw [List.mem_append]at hm;rcases hm with hm|hm
    ·exact⟨h,hm,.inl rfl⟩
    ·obtain⟨b,hb,lI⟩:=Bf.GP h hm
     exact⟨b,hb,.inr lI⟩
   have lj:∀p,nJ D p h↔p∈nd.ps:=fun p=>by
    constructor
    ·rintro⟨md,xY,e,hp⟩
     obtain⟨j,hj⟩:=List.mem_iff_getElem?.1 xY;have:=W.inj hj h2 (by rw [e,h3]);subst this;rw [h2]at hj;cases hj;exact hp
    ·exact fun hp=>⟨nd,List.mem_of_getElem? h2,h3,hp⟩
   have rL:nd.ps.length<=D.length:=by
    rw [<-gq D];exact tf (W.ss nd (List.mem_of_getElem? h2)).nodup fun x hx=>(fy.mem W (.one ((lj x).2 hx))).1
   refine H.go' Ey.kp fun A c ug=>ug.ps' Ey.kp h1 h2 fun pA pn pc qU=>?_;have LC:=qU.len;refine aH.iq (I:=fun s w'=>∃(k:Nat) (np:List HT) (A1:Option Addr) (c1:Nat) (A2:Option Addr) (c2:Nat),s=(A1,np.length,c1,A2,n+np.length,c2,(k:Int))/\PB w w' D l np A1 c1 A2 c2/\k<=pn/\(∃m,np=out++m)/\(∀p∈nd.ps.take k,p∈np))
    (μ:=fun s _=>((pn:Int)-s.2.2.2.2.2.2).toNat) (s:=(A1,out.length,c1,A2,n+out.length,c2,0)) ⟨0,out,A1,c1,A2,c2,rfl,Ey,Nat.zero_le _,⟨[],by simp⟩,by simp⟩ ?_
   rintro s w1 ⟨k,np,B1,d1,B2,d2,rfl,hq,hk,⟨m,hm⟩,fJ⟩;have ai5:=hq.len W;refine Split.dec (fun Qm=>?_) (fun Qv=>?_)
   ·simp only at Qm
    have B8:k<pn:=by omega
    obtain⟨p,hp⟩:∃p,nd.ps[k]? =some p:=⟨_,List.getElem?_eq_getElem (by omega)⟩;have Ux:=List.mem_of_getElem? hp;refine(qU.same hq.kp).load (i:=(k:Int)) (by omega) hp (yC p hq.r1.hs (by simp only;omega) fun xA Gd=>⟨_,rfl,?_⟩);have LA:=hq.same Gd;have ai0:(nd.ps.length:Int)<=10000:=by omega
    by_cases xf:p∈np
    ·refine Split.no (by rw [decide_eq_true xf];rfl) ?_
     simp only;rw [dW (n:=(k:Int)) (by omega) (by omega)];refine⟨(B1,np.length,d1,B2,n+np.length,d2,(k:Int)+1),rfl,⟨k+1,np,B1,d1,B2,d2,rfl,LA,B8,⟨m,hm⟩,fun q Be=>?_⟩,by simp only;omega⟩;rcases(bO hp).1 Be with Be|rfl
     ·exact fJ q Be
     ·exact xf
    ·refine Split.yes (by rw [decide_eq_false xf];rfl) ?_
     have Wu:∃b∈l,fy D p b:=by
      obtain⟨b,hb,e|e⟩:=Dc
      ·subst e;exact⟨_,hb,.one ((lj p).2 Ux)⟩
      ·exact⟨b,hb,fy.trans (.one ((lj p).2 Ux)) e⟩
     obtain⟨Kj,Hl,v,mU,kv,Hn,zB,u,Ly,hqu⟩:=LA.add xf Wu (by omega);rw [hlen]at Ly;refine(qU.same LA.kp).load (i:=(k:Int)) (by omega) hp ⟨p.2.1,?_⟩;refine⟨Kj,_,Hl,v,mU,?_⟩;have O2:Kept Nil w v:=LA.kp.trans kv (fun k hk e=>absurd hk (by omega));refine(qU.same O2).load (i:=(k:Int)) (by omega) hp ⟨p.2.1,?_⟩;refine⟨Hn,_,zB,u,Ly,?_⟩;simp only;rw [dW (n:=(k:Int)) (by omega) (by omega)];have e1:np.length+1=(np++ [p]).length:=by simp
     rw [e1,show n+np.length+1=n+(np++ [p]).length by simp;omega];refine⟨(Kj,(np++ [p]).length,Hl,Hn,n+(np++ [p]).length,zB,(k:Int)+1),rfl,⟨k+1,np++ [p],Kj,Hl,Hn,zB,rfl,hqu,B8,⟨m++ [p],by rw [hm];simp⟩,fun q Be=>?_⟩,by simp only;omega⟩;rw [List.mem_append,List.mem_singleton];rcases(bO hp).1 Be with Be|rfl
     ·exact .inl (fJ q Be)
     ·exact .inr rfl
   ·simp only at Qv
    rw [aR,aH.kL];unfold aH.iZ;rw [dW (n:=(i:Int)) (by omega) (by omega)];rw [List.take_of_length_le (by omega)]at fJ;refine⟨(B1,np.length,d1,B2,n+np.length,d2,(i:Int)+1),rfl,⟨i+1,np,B1,d1,B2,d2,rfl,hq,by rw [hm];simp;omega,fun x hx q IN=>?_⟩,by simp only;omega⟩;have hh':(l++np)[i]? =some h:=by
     rw [hm,<-List.append_assoc,List.getElem?_append_left (lgeS hh).1];exact hh
    rcases(bO hh').1 hx with hx|rfl
    ·have XX:x∈(l++out).take i:=by
      rw [hm,<-List.append_assoc,List.take_append_of_le_length (by simp;omega)]at hx;exact hx
     rw [hm,List.mem_append];exact .inl (qH x XX q IN)
    ·exact fJ q ((lj q).1 IN)
 ·simp only at gH
  have hie:i=n+out.length:=by omega
  rw [aR,aH.df];rw [List.take_of_length_le (by simp;omega)]at qH;have e:=FJ W Bf.GP qH;refine qZ Bf.r1.hs (by simp only;omega) fun A' c' w2 row k2=>⟨A',_,c',rfl,?_⟩;rw [e]at row⊢;exact hK A' c' w2 (Row.base row fun b hb=>Nat.le_trans Bf.kp.size (Row.bI row hb).1) (Bf.kp.tt k2)
end
section
variable{w w' jm:World}{F S:Nat->Prop}{D:DG}{is:HT->Prop}{i:Nat}{l out:List HT}{A:Option Addr}{c r:Nat}{K:Value->World->Prop}
theorem q9(H:uJ w F r D)(W:j0 D)(hD:D.length<=10000)(a b:HT)(hK:∀w' (x:Bool),(x=true↔fy D a b)->Kept Nil w w'->K (.bool x) w'):
 bu prog dQ.id #[.pointer (some ⟨r,0,none⟩),.agg a.1,.agg b.1] w K:=by
 refine dQ.of ?_;unfold dQ.W;intro w4 w5 w6;have k4:Kept Nil w w4:=(Kept.refl _ _).alloc _;have Bm:w4.heap[w.heap.size]? =some (.cells a.1 ah (0,0)):=aI w _;have k5:Kept Nil w4 w5:=(Kept.refl _ _).alloc _;have oS:w5.heap[w4.heap.size]? =some (.cells b.1 ah (0,0)):=aI w4 _;have k6:Kept Nil w5 w6:=(Kept.refl _ _).drew;have xi:=k6.heap (k5.heap Bm (fun h=>h)) (fun h=>h);have qJ:=k6.heap oS (fun h=>h);have ZN:Kept Nil w w6:=(k4.tt k5).tt k6;clear_value w6;refine⟨a.1,⟨a.2.1,Cells.bI xi⟩,mc (H.same ZN) (by omega) a fun w9 k9=>⟨_,rfl,Split.dec (fun gH=>?_) (fun Qe=>?_)⟩⟩
 ·have ha9:=k9.heap xi (fun h=>h)
  have Ti:Kept Nil w w9:=ZN.tt k9;refine⟨b.1,⟨b.2.1,Cells.bI (k9.heap qJ (fun h=>h))⟩,a.1,⟨a.2.1,Cells.bI ha9⟩,b.2.1,?_⟩;intro mz;have ru:Kept Nil w9 mz:=(Kept.refl _ _).alloc _;have jP:HS mz (some ⟨w9.heap.size,0,none⟩) 1 [b]:=iL w9 b;clear_value mz;have Tm:Kept Nil w mz:=Ti.tt ru;have Ww:=ru.heap ha9 (fun h=>h);refine⟨⟨a.1,rfl,a.2.1,Cells.bI Ww⟩,Ah (H.same Tm) W hD jP (by omega) fun A15 c15 nK SI uc=>⟨A15,_,c15,rfl,?_⟩⟩;have rL:=nO D fun x=>∃h∈ [b],fy D x h;refine⟨⟨a.1,rfl,a.2.1,Cells.bI (uc.heap Ww (fun h=>h))⟩,yC a SI.hs (by unfold eB;omega) fun sN Ge=>⟨_,rfl,?_⟩⟩;refine hK sN _ ?_ ((Tm.tt uc).tt Ge);rw [decide_eq_true_iff];unfold eB;rw [jS];constructor
  ·rintro⟨_,h,hh,ha⟩
   rw [List.mem_singleton]at hh;subst hh;exact ha
  ·intro ha
   exact⟨(ha.mem W).1,b,by simp,ha⟩
 ·refine hK w9 false ?_ (ZN.tt k9)
  constructor
  ·intro h;cases h
  ·intro ha;exact absurd (tG.2 (ha.mem W).1) Qe
theorem H5(W:j0 D){j:Nat}{nd:DN}(h2:D[j]? =some nd)(p:HT):nJ D p nd.id↔p∈nd.ps:=by
 constructor
 ·rintro⟨md,xY,e,hp⟩
  obtain⟨k,hk⟩:=List.mem_iff_getElem?.1 xY;have:=W.inj hk h2 e;subst this;rw [h2]at hk;cases hk;exact hp
 ·exact fun hp=>⟨nd,List.mem_of_getElem? h2,rfl,hp⟩
theorem FF(H:uJ w F r D)(W:j0 D)(hD:D.length<=10000)(a b:HT)(hK:∀w' (x:Bool),(x=true↔a≠b/\¬fy D a b/\¬fy D b a)->Kept Nil w w'->K (.bool x) w'):
 bu prog eI.id #[.pointer (some ⟨r,0,none⟩),.agg a.1,.agg b.1] w K:=by
 refine eI.of ?_;unfold eI.W;intro w4 w5;have k4:Kept Nil w w4:=(Kept.refl _ _).alloc _;have Bm:w4.heap[w.heap.size]? =some (.cells a.1 ah (0,0)):=aI w _;have k5:Kept Nil w4 w5:=(Kept.refl _ _).alloc _;have oS:w5.heap[w4.heap.size]? =some (.cells b.1 ah (0,0)):=aI w4 _;have L9:=k5.heap Bm (fun h=>h);have ML:Kept Nil w w5:=k4.tt k5;clear_value w5;refine⟨a.1,⟨a.2.1,Cells.bI L9⟩,b.1,⟨b.2.1,Cells.bI oS⟩,⟨a.2.ints,b.2.ints⟩,?_⟩;rw [dO];by_cases e:a=b
 ·refine Split.no (by rw [decide_eq_true e];rfl) ?_
  exact hK w5 false (by simp [e]) ML
 ·refine Split.yes (by rw [decide_eq_false e];rfl) ?_
  refine⟨a.1,⟨a.2.1,Cells.bI L9⟩,b.1,⟨b.2.1,Cells.bI oS⟩,q9 (H.same ML) W hD a b fun nM x hx tm=>⟨x,rfl,?_⟩⟩;cases x with
  |true=>
   refine Split.no rfl ?_;exact hK nM false (by simp [hx.1 rfl]) (ML.tt tm)
  |false=>
   refine Split.yes rfl ?_;have hn:¬fy D a b:=fun h=>by have:=hx.2 h;cases this
   have Tn:=ML.tt tm;refine⟨b.1,⟨b.2.1,Cells.bI (tm.heap oS (fun h=>h))⟩,a.1,⟨a.2.1,Cells.bI (tm.heap L9 (fun h=>h))⟩,q9 (H.same Tn) W hD b a fun jM y hy ns=>⟨y,rfl,?_⟩⟩;refine hK jM _ ?_ (Tn.tt ns);rw [Bool.not_eq_true',<-Bool.not_eq_true,hy];exact⟨fun h=>⟨e,hn,h⟩,fun h=>h.2.2⟩
end
structure NM where
 b:Nat
 pA:Option Addr
 pn:Nat
 pc:Nat
 cA:Option Addr
 cn:Nat
 cc:Nat
 rA:Option Addr
 rn:Nat
 rc:Nat
 ws:List Nat
def gm(h:HT)(m:NM):Array Value:=h.1++ #[.slice m.pA m.pn m.pc,.slice m.cA m.cn m.cc,.slice m.rA m.rn m.rc]
theorem vF(h:HT)(m:NM):(gm h m).size=35:=by unfold gm;rw [Array.size_append,h.2.1];rfl
theorem H8(h:HT)(m:NM){j:Nat}{v:Value}(hj:h.1[j]? =some v):(gm h m)[j]? =some v:=by
 unfold gm;rw [Array.getElem?_append_left (Array.getElem?_eq_some_iff.1 hj).1];exact hj
theorem H9(h:HT)(m:NM):(gm h m)[33]? =some (.slice m.cA m.cn m.cc):=by
 unfold gm;rw [Array.getElem?_append_right (by rw [h.2.1];omega),h.2.1];rfl
theorem AB(h:HT)(m:NM):(gm h m)[34]? =some (.slice m.rA m.rn m.rc):=by
 unfold gm;rw [Array.getElem?_append_right (by rw [h.2.1];omega),h.2.1];rfl
theorem FU{h h':HT}{m m':NM}(e:gm h m=gm h' m'):h=h':=by
 apply Subtype.ext;have h1:=h.2.1;have h2:=h'.2.1;have:=congrArg (fun a:Array Value=>a.toList.take 32) e;unfold gm at this;simp only [Array.toList_append]at this;rw [List.take_left' (by simpa using h1),List.take_left' (by simpa using h2)]at this;exact Array.ext' this
structure rJ(w:World)(S F:Nat->Prop)(D:DG)(ch:List HT)(nd:DN)(m:NM):Prop where
 bI:w.heap[m.b]? =some (.cells (gm nd.id m) dU (0,0))
 gD:S m.b
 ps:HS w m.pA m.pn nd.ps
 KY:∀a,m.pA=some a->F a.block
 ch:bK w 0 m.cA m.cn m.cc ch
 Q9:∀k,a8 m.cA=some k->S k
 past:US w m.rA m.rn m.ws
 pK:∀a,m.rA=some a->F a.block
 ok:okW m.ws
 bits:∀j,bit m.ws j=true↔∃nj,D[j]? =some nj/\fy D nj.id nd.id
 small:m.rn<=200
structure GV(w:World)(S F:Nat->Prop)(g:Nat)(D:DG)(C:HT->List HT)(bl c mb:Nat)(M:List NM):Prop where
 top:w.heap[g]? =some (.cells #[.slice (some ⟨bl,0,none⟩) D.length c,.map (some mb)] iw (0,0))
 row:Row w 0 fw 1 (some ⟨bl,0,none⟩) D.length c (M.map fun m=>.pointer (some ⟨m.b,0,none⟩))
 map:IsMap w mb (ids D)
 len:M.length=D.length
 node:∀(i:Nat) nd m,D[i]? =some nd->M[i]? =some m->rJ w S F D (C nd.id) nd m
 apart:∀(i j:Nat) m m',M[i]? =some m->M[j]? =some m'->i≠j->∀k,a8 m.cA=some k->a8 m'.cA≠some k
 iB:S g
 ui:S bl
 wi:S mb
 Hk:∀k,S k->¬F k
 low:∀k,S k\/F k->k<w.heap.size
def DL(w:World)(S F:Nat->Prop)(g:Nat)(D:DG):Prop:=∃bl c mb M,GV w S F g D (gU D) bl c mb M
section
variable{w w':World}{S F S' F':Nat->Prop}{g bl c mb:Nat}{D:DG}{C:HT->List HT}{M:List NM}{K:Value->World->Prop}
theorem rJ.aF{ch:List HT}{nd:DN}{m:NM}{S0:Nat->Prop}(h:rJ w S F D ch nd m)(hk:Kept S0 w w')(hS:∀k,S k->¬S0 k)(hF:∀k,F k->¬S0 k):rJ w' S F D ch nd m:=
 ⟨hk.heap h.bI (hS _ h.gD),h.gD,h.ps.aF hk (fun a ha=>hF _ (h.KY a ha)),h.KY,Row.aF h.ch hk (fun k hb=>hS k (h.Q9 k hb)),h.Q9,h.past.aF hk (fun a ha=>hF _ (h.pK a ha)),h.pK,h.ok,h.bits,h.small⟩
theorem GV.aF{S0:Nat->Prop}(h:GV w S F g D C bl c mb M)(hk:Kept S0 w w')(hS:∀k,S k->¬S0 k)(hF:∀k,F k->¬S0 k):GV w' S F g D C bl c mb M:=
 ⟨hk.heap h.top (hS _ h.iB),Row.aF h.row hk (fun k e=>by cases e;exact hS _ h.ui),h.map.aF hk (hS _ h.wi),h.len,fun i nd m h1 h2=>(h.node i nd m h1 h2).aF hk hS hF,h.apart,h.iB,h.ui,h.wi,h.Hk,fun k oR=>Nat.lt_of_lt_of_le (h.low k oR) hk.size⟩
theorem GV.same(h:GV w S F g D C bl c mb M)(hk:Kept Nil w w'):GV w' S F g D C bl c mb M:=h.aF hk (fun _ _ h=>h) (fun _ _ h=>h)
theorem DL.aF{S0:Nat->Prop}(h:DL w S F g D)(hk:Kept S0 w w')(hS:∀k,S k->¬S0 k)(hF:∀k,F k->¬S0 k):DL w' S F g D:=let ⟨bl,c,mb,M,h⟩:=h;⟨bl,c,mb,M,h.aF hk hS hF⟩
theorem DL.same(h:DL w S F g D)(hk:Kept Nil w w'):DL w' S F g D:=h.aF hk (fun _ _ h=>h) (fun _ _ h=>h)
theorem GV.get(h:GV w S F g D C bl c mb M){i:Nat}{nd:DN}(hi:D[i]? =some nd):∃m,M[i]? =some m/\rJ w S F D (C nd.id) nd m:=by
 have:=(lgeS hi).1;have hl:=h.len;exact⟨M[i],List.getElem?_eq_getElem (by omega),h.node i nd _ hi (List.getElem?_eq_getElem (by omega))⟩
theorem GV.nodes(h:GV w S F g D C bl c mb M):w.cell? ((⟨g,0,none⟩:Addr).add 0)=some (.slice (some ⟨bl,0,none⟩) D.length c):=by rw [add_zero,aD h.top];rfl
theorem GV.at_(h:GV w S F g D C bl c mb M):w.cell? ((⟨g,0,none⟩:Addr).add 1)=some (.map (some mb)):=by rw [br,aD h.top];rfl
theorem GV.ptr(h:GV w S F g D C bl c mb M){i:Nat}{m:NM}(hm:M[i]? =some m):w.cell? ((⟨bl,0,none⟩:Addr).add (i*1))=some (.pointer (some ⟨m.b,0,none⟩)):=by
 rw [br,Nat.zero_add,Nat.mul_one];exact Row.cell h.row (by rw [List.getElem?_map,hm];rfl)
theorem yi(h:GV w S F g D C bl c mb M)(hK:K (.bool true) w):bu prog gz.id #[.pointer (some ⟨g,0,none⟩)] w K:=
 gz.of (Split.yes rfl ⟨some mb,h.at_,hK⟩)
def Found(D:DG)(M:List NM)(h:HT)(x:Option Addr):Prop:=(x=none/\h∉ids D)\/∃(i:Nat) (nd:DN) (m:NM),D[i]? =some nd/\nd.id=h/\M[i]? =some m/\x=some ⟨m.b,0,none⟩
theorem Found.isSome{h:HT}{x:Option Addr}(f:Found D M h x):(!x.isNone)=decide (h∈ids D):=by
 rcases f with⟨rfl,hn⟩|⟨i,nd,m,h1,h2,_,rfl⟩
 ·rw [decide_eq_false hn];rfl
 ·rw [decide_eq_true (dp.2 ⟨nd,List.mem_of_getElem? h1,h2⟩)];rfl
theorem wu(G:GV w S F g D C bl c mb M)(h:HT)(hK:∀w' x,Kept Nil w w'->Found D M h x->K (.pointer x) w'):
 bu prog fZ.id #[.pointer (some ⟨g,0,none⟩),.agg h.1] w K:=by
 refine fZ.of ?_;unfold fZ.W;intro w3;have k3:Kept Nil w w3:=(Kept.refl _ _).alloc _;have nI:w3.heap[w.heap.size]? =some (.cells h.1 ah (0,0)):=aI w _;clear_value w3;refine yi (G.same k3) ⟨true,rfl,Split.yes rfl ?_⟩;intro w7;have k7:Kept Nil w3 w7:=(Kept.refl _ _).drew;clear_value w7;have kw:Kept Nil w w7:=k3.tt k7;have G7:=G.same kw;refine⟨some mb,G7.at_,h.1,⟨h.2.1,Cells.bI (k7.heap nI (fun h=>h))⟩,_,_,G7.map.look h,?_⟩;cases hp:pos h (ids D) 0 with
 |none=>exact Split.no rfl (hK w7 none kw (.inl ⟨rfl,pJ.1 hp⟩))
 |some i=>
  obtain⟨_,hi⟩:=vv hp;obtain⟨nd,h1,h2⟩:=IM hi;rw [Nat.sub_zero]at h1;obtain⟨m,hm,_⟩:=G7.get h1;have dV:=(lgeS h1).1;refine Split.yes rfl ⟨_,_,_,G7.nodes,⟨by simp,by simp only [Option.getD_some];omega⟩,some ⟨m.b,0,none⟩,?_,hK w7 _ kw (.inr ⟨i,nd,m,h1,h2,hm,rfl⟩)⟩;rw [Option.getD_some,Int.toNat_natCast];exact G7.ptr hm
theorem uV(G:GV w S F g D C bl c mb M)(h:HT)(hK:∀w',Kept Nil w w'->K (.bool (decide (h∈ids D))) w'):
 bu prog gM.id #[.pointer (some ⟨g,0,none⟩),.agg h.1] w K:=by
 refine gM.of ?_;unfold gM.W;intro w3;have k3:Kept Nil w w3:=(Kept.refl _ _).alloc _;have nI:w3.heap[w.heap.size]? =some (.cells h.1 ah (0,0)):=aI w _;clear_value w3;refine⟨h.1,⟨h.2.1,Cells.bI nI⟩,wu (G.same k3) h fun w6 x k6 hx=>⟨x,rfl,?_⟩⟩;rw [hx.isSome];exact hK w6 (k3.tt k6)
end
section
variable{w w':World}{S F:Nat->Prop}{g bl c mb:Nat}{D:DG}{C:HT->List HT}{M:List NM}{K:Value->World->Prop}
end
section
variable{w w':World}{S F:Nat->Prop}{g bl c mb:Nat}{D:DG}{C:HT->List HT}{M:List NM}{K:Value->World->Prop}
theorem Dr{A:Option Addr}{n c:Nat}{l:List HT}(hl:HS w A n l)(hn:n<=400000)(hK:∀A' c' w',bK w' w.heap.size A' n c' l->Kept Nil w w'->K (.slice A' n c') w'):
 bu prog dg.id #[.slice A n c] w K:=by
 refine dg.of ?_;cases A with
 |none=>
  obtain⟨rfl,rfl⟩:=hl.none;exact Split.yes rfl (hK none 0 w (bK.nil _ _) (Kept.refl _ _))
 |some a=>
  refine Split.no rfl ?_;intro w2;have k2:Kept Nil w w2:=(Kept.refl _ _).alloc _;have r0:bK w2 w.heap.size (some ⟨w.heap.size,0,none⟩) 0 0 []:=Row.made (n:=0) (cur:= #[]) (aI w _) (Nat.le_refl _) rfl (Nat.zero_le _);clear_value w2;obtain⟨A',c',w4,hr,row,hg,_⟩:=ct (cx:=c) ay r0 (hl.same k2) (by omega) k2.size;rw [Nat.zero_add]at hr row;rw [List.nil_append]at row;exact⟨A',n,c',w4,hr,hK A' c' w4 row (Kept.dA k2 hg (fun k hk=>by cases hk;exact Nat.le_refl _))⟩
theorem xK{D:DG}{nd:DN}{m:NM}{ch:List HT}(N:rJ w S F D ch nd m):w.cell? ((⟨m.b,0,none⟩:Addr).add 34)=some (.slice m.rA m.rn m.rc):=by
 rw [br,Nat.zero_add,aD N.bI];exact AB _ _
theorem Ef{D:DG}{nd:DN}{m:NM}{ch:List HT}(N:rJ w S F D ch nd m):w.cell? ((⟨m.b,0,none⟩:Addr).add 33)=some (.slice m.cA m.cn m.cc):=by
 rw [br,Nat.zero_add,aD N.bI];exact H9 _ _
end
def mJ(D:DG)(j:Nat):HT:=match D[j]? with|some nd=>nd.id|none=>default
theorem vB:∀(ws:List Nat) (k:Nat),okW ws->(pN k ws).Nodup
 | [],_,_=>List.Pairwise.nil
 |x::ws,k,ho=>by
  have hx:=ho x (by simp);have Kx:okW ws:=fun y hy=>ho y (by simp [hy]);obtain⟨_,h2,h3⟩:=xO x hx;rw [pN,List.nodup_append];refine⟨List.Pairwise.map _ (fun a b lI e=>lI (by omega)) h2,vB ws (k+1) Kx,fun a ha b hb e=>?_⟩;rw [List.mem_map]at ha;obtain⟨t,ht,rfl⟩:=ha;have:=((pP ws (k+1) b Kx).1 hb).1;have:=h3 t ht;omega
section
variable{w w':World}{S F:Nat->Prop}{g bl c mb:Nat}{D:DG}{C:HT->List HT}{M:List NM}{K:Value->World->Prop}
theorem wv(G:GV w S F g D C bl c mb M)(W:j0 D)(hD:D.length<=10000)(hT:tJ w){A:Option Addr}{n cx:Nat}{l:List HT}(hl:HS w A n l)(hn:n<=10000)
 (hK:∀A' c' w',bK w' w.heap.size A' (eB D l).length c' (eB D l)->Kept Nil w w'->K (.slice A' (eB D l).length c') w'):
 bu prog aS.id #[.pointer (some ⟨g,0,none⟩),.slice A n cx] w K:=by
 have hlen:=hl.len;refine aS.of ?_;unfold aS.W;intro w3;have k3:Kept Nil w w3:=(Kept.refl _ _).alloc _;have Vz:w3.heap[w.heap.size]? =some (.cells #[.pointer (some ⟨g,0,none⟩)] lK (0,0)):=aI w _;have CR:w.heap.size<w3.heap.size:=aQ Vz;clear_value w3;refine aS.cy (I:=fun s w'=>∃(i:Nat) (A':Option Addr) (n' c':Nat) (ws:List Nat),s=(A',n',c',(i:Int))/\i<=n/\ln w' w3.heap.size A' n' c' ws/\okW ws/\n'<=200/\(∀j,bit ws j=true↔∃h∈l.take i,∃nj,D[j]? =some nj/\fy D nj.id h)/\Kept Nil w3 w')
  (μ:=fun s _=>((n:Int)-s.2.2.2).toNat) (s:=(none,0,0,0)) ⟨0,none,0,0,[],rfl,Nat.zero_le _,Row.nil _ _ _ _,by simp [okW],by omega,by simp [zg],Kept.refl _ _⟩ ?_
 rintro s w' ⟨i,A',n',c',ws,rfl,hi,row,ho,hn',qI,kw⟩;have kk:Kept Nil w w':=k3.tt kw;refine Split.dec (fun jN=>?_) (fun gH=>?_)
 ·simp only at jN
  have dV:i<n:=by omega
  obtain⟨h,hh⟩:∃h,l[i]? =some h:=⟨_,List.getElem?_eq_getElem (by omega)⟩;refine(hl.same kk).load (i:=(i:Int)) (by omega) hh ?_;intro lL;obtain⟨tu,jP,ko⟩:=iu (w:=w') (z:=(#[.int .u8 0,.int .u8 0,.int .u8 0,.int .u8 0,.int .u8 0,.int .u8 0,.int .u8 0,.int .u8 0,.int .u8 0,.int .u8 0,.int .u8 0,.int .u8 0,.int .u8 0,.int .u8 0,.int .u8 0,.int .u8 0,.int .u8 0,.int .u8 0,.int .u8 0,.int .u8 0,.int .u8 0,.int .u8 0,.int .u8 0,.int .u8 0,.int .u8 0,.int .u8 0,.int .u8 0,.int .u8 0,.int .u8 0,.int .u8 0,.int .u8 0,.int .u8 0]:Array Value)) (cs:=h.1) (t:=ah) (by rw [h.2.1];rfl);refine⟨⟨h.2.1,h.2.one,fun j hj=>tu j (by rw [h.2.1];exact hj)⟩,?_⟩;intro nK
  replace jP:nK.heap[w'.heap.size]? =some (.cells h.1 ah (0,0)):=jP
  replace ko:Kept Nil w' nK:=ko
  clear_value nK;have uc:Kept Nil w3 nK:=kw.tt ko;refine⟨some ⟨g,0,none⟩,by rw [aD (uc.heap Vz (fun h=>h))];rfl,h.1,⟨h.2.1,Cells.bI jP⟩,?_⟩;refine wu (G.same (k3.tt uc)) h fun pf x xW hx=>⟨x,rfl,?_⟩;have Lm:Kept Nil w3 pf:=uc.tt xW;have Il:Kept Nil w pf:=k3.tt Lm;have xH:ln pf w3.heap.size A' n' c' ws:=Row.aF row (ko.tt xW) (fun _ _ h=>h);rcases hx with⟨rfl,lH⟩|⟨q,nd,m',hq,rfl,nv,rfl⟩
  ·refine Split.no rfl ?_
   simp only;rw [dW (n:=(i:Int)) (by omega) (by omega)];refine⟨(A',n',c',(i:Int)+1),rfl,⟨i+1,A',n',c',ws,rfl,dV,xH,ho,hn',fun j=>?_,Lm⟩,by simp only;omega⟩;rw [qI];constructor
   ·rintro⟨h',h1,h2⟩;exact⟨h',(bO hh).2 (.inl h1),h2⟩
   ·rintro⟨h',h1,nj,h2,h3⟩
    rcases(bO hh).1 h1 with h1|rfl
    ·exact⟨h',h1,nj,h2,h3⟩
    ·exact absurd (h3.mem W).2 lH
  ·obtain⟨m,hm,N⟩:=(G.same Il).get hq
   rw [nv]at hm;cases hm;refine Split.yes rfl ⟨_,_,_,xK N,?_⟩;have vT:=N.small;have EK:∀k,a8 A'=some k->w3.heap.size<=k:=fun k hk=>(Row.bI xH hk).1;refine xF xH ho (by omega) Lm.size N.past N.ok (by omega) (fun a ha k hk e=>?_) fun A2 n2 c2 l2 mu SF abk UT QN pT L6=>⟨A2,n2,c2,rfl,?_⟩
   ·have h1:=G.low a.block (.inr (N.pK a ha))
    have h2:=EK k hk;omega
   ·simp only
    rw [dW (n:=(i:Int)) (by omega) (by omega)];refine⟨(A2,n2,c2,(i:Int)+1),rfl,⟨i+1,A2,n2,c2,l2,rfl,dV,SF,abk,by omega,fun j=>?_,Lm.trans pT (fun k hk e=>absurd (EK k e) (by omega))⟩,by simp only;omega⟩;rw [QN,Bool.or_eq_true,qI,N.bits];constructor
    ·rintro(⟨h',h1,h2⟩|h2)
     ·exact⟨h',(bO hh).2 (.inl h1),h2⟩
     ·exact⟨nd.id,(bO hh).2 (.inr rfl),h2⟩
    ·rintro⟨h',h1,h2⟩
     rcases(bO hh).1 h1 with h1|rfl
     ·exact .inl ⟨h',h1,h2⟩
     ·exact .inr h2
 ·simp only at gH
  have hie:i=n:=by omega
  subst hie;rw [List.take_of_length_le (by omega)]at qI;rw [aR,aS.df];unfold aS.cV;intro uL;have G6:Kept Nil w' uL:=(Kept.refl _ _).alloc _;have UH:uL.heap[w'.heap.size]? =some (.cells #[.slice none 0 0] ay (0,0)):=aI w' _;clear_value uL;refine kK.of ?_;unfold kK.W;intro oq;have AR:Kept Nil uL oq:=(Kept.refl _ _).alloc _;have Lx:oq.heap[uL.heap.size]? =some (.cells #[.slice A' n' c'] lF (0,0)):=aI uL _;clear_value oq;refine⟨_,rfl,?_⟩;have UG:=AR.heap UH (fun h=>h);have TI:Kept Nil w3 oq:=(kw.tt G6).tt AR;have Lb:Kept Nil w oq:=k3.tt TI;have Ae:ln oq w3.heap.size A' n' c' ws:=Row.aF (Row.aF row G6 (fun _ _ h=>h)) AR (fun _ _ h=>h);have Qy:=TI.heap Vz (fun h=>h);have Gn:w.heap.size<w'.heap.size:=Nat.lt_of_lt_of_le CR kw.size;have aiN:w'.heap.size<oq.heap.size:=aQ UG;have aiO:uL.heap.size<oq.heap.size:=aQ Lx;have I9:∀j∈pN 0 ws,∃nj,D[j]? =some nj:=fun j hj=>by
   have:=((pP ws 0 j ho).1 hj).2;rw [Nat.mul_zero,Nat.sub_zero]at this;obtain⟨_,_,nj,h1,_⟩:=(qI j).1 this;exact⟨nj,h1⟩
  have zx:(pN 0 ws).length<=D.length:=by
   have:=vC (m:=List.range D.length) (vB ws 0 ho) (fun j hj=>by
    obtain⟨nj,h1⟩:=I9 j hj;exact List.mem_range.2 (lgeS h1).1)
   rwa [List.length_range]at this
  let xs:=pN 0 ws
  let ρ0:Env:= [(2,.pointer (some (⟨w.heap.size,0,none⟩:Addr))),(4,.slice none 0 0),(9,.pointer (some (⟨w'.heap.size,0,none⟩:Addr))),(30,.func (.func aJ.id) #[] #[.pointer (some (⟨uL.heap.size,0,none⟩:Addr))])]
  let J:Nat->World->Prop:=fun i v=>∃A c,v.heap[w'.heap.size]? =some (.cells #[.slice A i c] ay (0,0))/\bK v oq.heap.size A i c ((xs.take i).map (mJ D))/\Kept (· =w'.heap.size) oq v/\i<=xs.length
  have oE:∀i v,J i v->US v A' n' ws/\v.cell? ⟨uL.heap.size,0,none⟩=some (.slice A' n' c')/\tJ v:=by
   rintro i v ⟨A,c,h1,h2,h3,h4⟩;refine⟨Ae.us.aF h3 (fun a ha e=>?_),by rw [aD (h3.heap Lx (by have:=aQ UH;omega))];rfl,(hT.same Lb).aF h3 (fun e=>by have:=hT.lt;omega)⟩;have hk:a8 A'=some a.block:=by rw [ha];rfl
   obtain⟨_,cur,hc⟩:=Row.bI row hk;have:=aQ hc;omega
  refine oB (ρ:=ρ0) (ρ0:=ρ0) ng mix aS.k (t:=30) (ps:= #[31]) (by kernel_rfl) (by decide) rfl aJ.at_ rfl (.inl rfl) (fun i v _ h=>h) rfl encI xs (fun _=>rfl) (by simp [gN]) (JX ⟨uL.heap.size,0,none⟩ (c:=c') (by omega) ho) J (fun _ _=>False) ?_ (fun _ _ _ _ _ h=>h.elim) oE ?_ ?_ ?_ (fun _ _ h=>h.elim) (fun _ _ _ h=>h.elim)
  ·rintro i v v' R oQ ⟨A,c,h1,h2,h3,h4⟩ hk
   exact⟨A,c,hk.heap h1 (kY h1 oQ.loop),Row.apart h2 hk (fun cs t fr h=>by rw [oQ.loop]at h;cases h),h3.trans hk (fun k hk e=>by omega),h4⟩
  ·intro R
   exact⟨none,0,jl (jl UG _) _,bK.nil _ _,(((Kept.refl _ _).alloc _).alloc _),Nat.zero_le _⟩
  ·rintro i x v R hx hj oQ
   have hJ:=hj;obtain⟨A,c,h1,h2,h3,h4⟩:=hj;have dV:i<xs.length:=(lgeS hx).1;have e7:kX ρ0 ((#[31]:Array Nat).toList.zip (encI x))= [(2,.pointer (some (⟨w.heap.size,0,none⟩:Addr))),(4,.slice none 0 0),(9,.pointer (some (⟨w'.heap.size,0,none⟩:Addr))),(30,.func (.func aJ.id) #[] #[.pointer (some (⟨uL.heap.size,0,none⟩:Addr))]),(31,.int .i64 (x:Int))]:=rfl;rw [e7,aS.a1];unfold aS.A1;refine⟨oQ,fun w2 R2 mX rz=>?_⟩;have Bn:=mX.heap h1 (kY h1 oQ.loop);have zz:bK w2 oq.heap.size A i c ((xs.take i).map (mJ D)):=Row.apart h2 mX (fun cs t fr h=>by rw [oQ.loop]at h;cases h);have Hi:Kept (· =w'.heap.size) oq w2:=h3.trans mX (fun k hk e=>by omega);clear hJ h1 h2 h3;rw [aS.y1];unfold aS.Y1;intro Ou;have XP:Kept Nil w2 Ou:=(Kept.refl _ _).drew;clear_value Ou;have WT:=XP.heap Bn (fun h=>h);have El:Kept (· =w'.heap.size) oq Ou:=Hi.trans XP (fun _ _ h=>h.elim);obtain⟨nj,Hc⟩:=I9 x (List.mem_of_getElem? hx);have uB:=(lgeS Hc).1;have ZL:Kept Nil w Ou:=Lb.trans El (fun k hk e=>by omega);obtain⟨m,hm,N⟩:=(G.same ZL).get Hc;refine⟨A,i,c,by rw [aD WT];rfl,some ⟨g,0,none⟩,by rw [aD (El.heap Qy (by omega))];rfl,?_⟩;refine⟨_,_,_,(G.same ZL).nodes,⟨by omega,by omega⟩,some ⟨m.b,0,none⟩,by rw [Int.toNat_natCast];exact(G.same ZL).ptr hm,?_⟩;refine⟨nj.id.1,⟨nj.id.2.1,fun j v hj=>?_⟩,nj.id.2.1,?_⟩
   ·rw [add_zero,br,Nat.zero_add,aD N.bI]
    exact H8 _ _ hj
   intro Rr;have TC:Kept Nil Ou Rr:=(Kept.refl _ _).alloc _;have iL:HS Rr (some ⟨Ou.heap.size,0,none⟩) 1 [nj.id]:=iL Ou nj.id;clear_value Rr;have WS:=TC.heap WT (fun h=>h);refine⟨by rw [aD WS];rfl,?_⟩;have Mc:bK Rr oq.heap.size A i c ((xs.take i).map (mJ D)):=Row.aF (Row.aF zz XP (fun _ _ h=>h)) TC (fun _ _ h=>h);have Ub:oq.heap.size<=Rr.heap.size:=Nat.le_trans El.size TC.size;have Ls:xs.length<=D.length:=zx;obtain⟨A2,c2,qX,hr,xG,LW,QO⟩:=ct (cx:=1) ay Mc iL (by omega) Ub;have Qu:Kept (fun k=>a8 A=some k) Rr qX:=Kept.grown (Kept.refl _ _) LW (fun k hk _=>hk);have WO:∀k,a8 A=some k->oq.heap.size<=k:=fun k hk=>(Row.bI Mc hk).1;have WR:=Qu.heap WS (fun e=>by have:=WO _ e;omega);have abF:Live (oq.heap.size+1) oq.heap.size R2 qX:=by
    have Qf:=(rz.aF XP (fun h=>h) (fun h=>h)).aF TC (fun h=>h) (fun h=>h);refine Qf.aF Qu ?_ ?_
    ·intro h
     obtain⟨_,cur,hc⟩:=Row.bI Mc h;exact kY hc Qf.loop rfl
    ·intro h
     obtain⟨_,cur,hc⟩:=Row.bI Mc h;exact sh hc Qf.mark rfl
   refine⟨A2,_,c2,qX,hr,dY WR (by simp),?_⟩;intro Zb;have Z1:Kept (· =w'.heap.size) qX Zb:=Kept.setCell (S:=fun k=>k=w'.heap.size) (Kept.refl _ qX) (p:=⟨w'.heap.size,0,none⟩) (fun _=>rfl) _;have acF:Zb.heap[w'.heap.size]? =some (.cells #[.slice A2 (i+1) c2] ay (0,0)):=dh WR 0 _;clear_value Zb;refine⟨abF.aF Z1 (by omega) (by omega),A2,c2,acF,?_,((El.trans TC (fun _ _ h=>h.elim)).trans Qu (fun k hk e=>absurd (WO k e) (by omega))).tt Z1,dV⟩;have e:(xs.take (i+1)).map (mJ D)=(xs.take i).map (mJ D)++ [nj.id]:=by
    rw [List.take_add_one,hx];simp [mJ,Hc]
   rw [e];exact Row.aF xG Z1 (fun k hk e=>by have:=(Row.bI xG hk).1;omega)
  ·rintro v R ⟨A,c,h1,h2,h3,h4⟩ oQ
   have e7:gv ρ0 oq.heap.size= [(2,.pointer (some (⟨w.heap.size,0,none⟩:Addr))),(4,.slice none 0 0),(9,.pointer (some (⟨w'.heap.size,0,none⟩:Addr))),(30,.func (.func aJ.id) #[] #[.pointer (some (⟨uL.heap.size,0,none⟩:Addr))]),(4294967296,.agg #[.pointer (some ⟨oq.heap.size,0,none⟩)])]:=rfl;rw [e7,aS.jG];rw [List.take_of_length_le (Nat.le_refl _)]at h2;have Ls:xs.length<=D.length:=zx;refine⟨A,xs.length,c,by rw [aD h1];rfl,jf h2.hs (by omega) fun A2 c2 Za HR CH=>⟨A2,_,c2,rfl,⟨CH.heap oQ.mark (fun h=>h),trivial⟩,?_⟩⟩;have hmk:=CH.heap oQ.mark (fun h=>h);have kp:Kept (· =oq.heap.size) Za (Za.putObj oq.heap.size (.deferred none)):=Kept.putAt _ _ _;have e:dw (xs.map (mJ D))=eB D l:=Eb fun a=>by
    rw [List.mem_map];constructor
    ·rintro⟨j,hj,rfl⟩
     have hb:=((pP ws 0 j ho).1 hj).2;rw [Nat.mul_zero,Nat.sub_zero]at hb;obtain⟨h',rN,nj,uE,Cc⟩:=(qI j).1 hb;have:mJ D j=nj.id:=by unfold mJ;rw [uE]
     rw [this];exact⟨(Cc.mem W).1,h',rN,Cc⟩
    ·rintro⟨ha,h',hh',Dc⟩
     obtain⟨nj,hnm,rfl⟩:=dp.1 ha;obtain⟨j,hj⟩:=List.mem_iff_getElem?.1 hnm;refine⟨j,(pP ws 0 j ho).2 ⟨by omega,?_⟩,by unfold mJ;rw [hj]⟩;rw [Nat.mul_zero,Nat.sub_zero];exact(qI j).2 ⟨h',hh',nj,hj,Dc⟩
   rw [e]at HR⊢;have lQ:Kept Nil w Za:=(Lb.trans h3 (fun k hk e=>by omega)).tt CH;have hws:w.heap.size<=v.heap.size:=Nat.le_trans Lb.size h3.size;refine hK A2 c2 _ (Row.base (Row.apart HR kp (fun cs t fr h=>by rw [hmk]at h;cases h)) fun b hb=>Nat.le_trans hws (Row.bI HR hb).1) (lQ.trans kp (fun k hk e=>by omega))
end
section
variable{w w':World}{S F:Nat->Prop}{g bl c mb gb:Nat}{D:DG}{C:HT->List HT}{M:List NM}{K:Value->World->Prop}
theorem BG(G:GV w S F g D C bl c mb M)(hg:w.heap[gb]? =some (.cells #[.pointer (some ⟨g,0,none⟩)] lK (0,0))){A:Option Addr}{n cx:Nat}{l:List HT}(hl:HS w A n l)(hn:n<=400000)
 (hK:∀w' (x:Bool),(x=true↔∃p∈l,p∉ids D)->Kept Nil w w'->K (.bool x) w'):
 bu prog dL.id #[.slice A n cx,.func (.func eM.id) #[] #[.pointer (some ⟨gb,0,none⟩)]] w K:=by
 have hlen:=hl.len;refine cr.of (aw.of ?_);refine aw.cy (I:=fun s w'=>∃i:Nat,s=(0,(i:Int))/\i<=n/\(∀p∈l.take i,p∈ids D)/\Kept Nil w w') (μ:=fun s _=>((n:Int)-s.2).toNat) (s:=(0,0)) ⟨0,rfl,Nat.zero_le _,by simp,Kept.refl _ _⟩ ?_;rintro s w' ⟨i,rfl,hi,di,kw⟩;refine Split.dec (fun jN=>?_) (fun gH=>?_)
 ·simp only at jN
  have dV:i<n:=by omega
  obtain⟨x,hx⟩:∃x,l[i]? =some x:=⟨_,List.getElem?_eq_getElem (by omega)⟩;refine(hl.same kw).load (i:=(i:Int)) (by omega) hx ?_;refine eM.of ?_;unfold eM.W;intro w3;have k3:Kept Nil w' w3:=(Kept.refl _ _).alloc _;have nI:w3.heap[w'.heap.size]? =some (.cells x.1 ah (0,0)):=aI w' _;clear_value w3;have MM:=kw.tt k3;refine⟨some ⟨g,0,none⟩,by rw [aD (MM.heap hg (fun h=>h))];rfl,x.1,⟨x.2.1,Cells.bI nI⟩,uV (G.same MM) x fun w7 k7=>⟨_,rfl,_,rfl,?_⟩⟩;have CE:=MM.tt k7;by_cases hm:x∈ids D
  ·refine Split.no (by rw [decide_eq_true hm];rfl) ?_
   simp only;rw [dW (n:=(i:Int)) (by omega) (by omega)];refine⟨(0,(i:Int)+1),rfl,⟨i+1,rfl,dV,fun p hp=>?_,CE⟩,by simp only;omega⟩;rcases(bO hx).1 hp with hp|rfl
   ·exact di p hp
   ·exact hm
  ·refine Split.yes (by rw [decide_eq_false hm];rfl) ?_
   refine⟨(i:Int),rfl,?_⟩;exact hK w7 _ ⟨fun _=>⟨x,List.mem_of_getElem? hx,hm⟩,fun _=>decide_eq_true (by omega)⟩ CE
 ·simp only at gH
  rw [aR,aw.df];rw [List.take_of_length_le (by omega)]at di;exact⟨-1,rfl,hK w' _ ⟨fun h=>absurd (of_decide_eq_true h) (by omega),fun⟨p,hp,hn⟩=>absurd (di p hp) hn⟩ kw⟩
theorem km{w:World}{a b:Nat}{ca cb:Array Value}{ta tb:TypeId}{fa fb:Nat×Nat}(ha:w.heap[a]? =some (.cells ca ta fa))(hb:w.heap[b]? =some (.cells cb tb fb))(fL:ta≠tb):a≠b:=by
 rintro rfl;rw [ha]at hb;simp only [Option.some.injEq,Obj.cells.injEq]at hb;exact fL hb.2.1
theorem GV.upd(G:GV w S F g D C bl c mb M)(W:j0 D){q:Nat}{nd:DN}{m:NM}(hq:D[q]? =some nd)(hm:M[q]? =some m){A5:Option Addr}{n5 c5:Nat}{ch':List HT}
 (kT:Kept (fun k=>a8 m.cA=some k\/k=m.b) w w') (hb:w'.heap[m.b]? =some (.cells (gm nd.id {m with cA:=A5,cn:=n5,cc:=c5}) dU (0,0))) (fE:bK w' w.heap.size A5 n5 c5 ch'):
 GV w' (fun k=>S k\/a8 A5=some k) F g D (fun x=>if x=nd.id then ch' else C x) bl c mb (M.set q {m with cA:=A5,cn:=n5,cc:=c5}):=by
 have N:=G.node q nd m hq hm;have Lz:q<M.length:=(lgeS hm).1;have nH:∀k,a8 m.cA=some k->∃cur,w.heap[k]? =some (.cells cur ah (0,0)):=fun k hk=>(Row.bI N.ch hk).2;have hF:∀k,F k->¬(a8 m.cA=some k\/k=m.b):=fun k hk e=>by
  rcases e with e|rfl
  ·exact G.Hk k (N.Q9 k e) hk
  ·exact G.Hk _ N.gD hk
 have typ:∀ {k:Nat} {cs:Array Value} {t:TypeId},w.heap[k]? =some (.cells cs t (0,0))->t≠ah->t≠dU->¬(a8 m.cA=some k\/k=m.b):=fun h h1 h2 e=>by
  rcases e with e|rfl
  ·obtain⟨cur,hc⟩:=nH _ e
   exact km h hc h1 rfl
  ·exact km h N.bI h2 rfl
 have Gx:∀k,a8 A5=some k->w.heap.size<=k:=fun k hk=>(Row.bI fE hk).1;have gS:∀(i:Nat) m',(M.set q {m with cA:=A5,cn:=n5,cc:=c5})[i]? =some m'->(i=q/\m'= {m with cA:=A5,cn:=n5,cc:=c5})\/(i≠q/\M[i]? =some m'):=fun i m' h=>by
  by_cases e:i=q
  ·subst e
   rw [List.getElem?_set_self Lz]at h;exact .inl ⟨rfl,(Option.some.inj h).symm⟩
  ·rw [List.getElem?_set_ne (Ne.symm e)]at h
   exact .inr ⟨e,h⟩
 refine⟨?_,?_,?_,by simpa using G.len,?_,?_,.inl G.iB,.inl G.ui,.inl G.wi,?_,?_⟩
 ·exact kT.heap G.top (typ G.top (by decide) (by decide))
 ·have Qd:(M.set q {m with cA:=A5,cn:=n5,cc:=c5}).map (fun m=>Value.pointer (some ⟨m.b,0,none⟩))=M.map fun m=>Value.pointer (some ⟨m.b,0,none⟩):=by
   apply List.ext_getElem?;intro i;rw [List.getElem?_map,List.getElem?_map];by_cases e:i=q
   ·subst e
    rw [List.getElem?_set_self Lz,hm];rfl
   ·rw [List.getElem?_set_ne (Ne.symm e)]
  rw [Qd];refine Row.aF G.row kT (fun k e=>?_);cases e;obtain⟨_,cur,hc⟩:=Row.bI G.row (k:=bl) rfl;exact typ hc (by decide) (by decide)
 ·refine G.map.aF kT (fun e=>?_)
  obtain⟨es,clock,LM,_⟩:=G.map.ex;rcases e with e|e
  ·obtain⟨cur,hc⟩:=nH _ e
   rw [hc]at LM;cases LM
  ·rw [e,N.bI]at LM;cases LM
 ·intro i nd' m' hi nv
  rcases gS i m' nv with⟨rfl,rfl⟩|⟨fL,U2⟩
  ·rw [hq]at hi
   cases hi;rw [if_pos rfl];exact⟨hb,.inl N.gD,N.ps.aF kT (fun a ha=>hF _ (N.KY a ha)),N.KY,Row.base fE (fun _ _=>Nat.zero_le _),fun k hk=>.inr hk,N.past.aF kT (fun a ha=>hF _ (N.pK a ha)),N.pK,N.ok,N.bits,N.small⟩
  ·have N':=G.node i nd' m' hi U2
   have hid:nd'.id≠nd.id:=fun e=>fL (W.inj hi hq e);rw [if_neg hid];have acs:m'.b≠m.b:=fun e=>by
    have h1:=N'.bI;rw [e,N.bI]at h1;simp only [Option.some.injEq,Obj.cells.injEq]at h1;exact hid (FU h1.1).symm
   refine⟨kT.heap N'.bI (fun e=>?_),.inl N'.gD,N'.ps.aF kT (fun a ha=>hF _ (N'.KY a ha)),N'.KY,Row.aF N'.ch kT (fun k hk e=>?_),fun k hk=>.inl (N'.Q9 k hk),N'.past.aF kT (fun a ha=>hF _ (N'.pK a ha)),N'.pK,N'.ok,N'.bits,N'.small⟩
   ·rcases e with e|e
    ·obtain⟨cur,hc⟩:=nH _ e
     exact km N'.bI hc (by decide) rfl
    ·exact acs e
   ·rcases e with e|rfl
    ·exact G.apart i q m' m U2 hm fL k hk e
    ·obtain⟨cur,hc⟩:=(Row.bI N'.ch hk).2
     exact km hc N.bI (by decide) rfl
 ·intro i j m1 m2 h1 h2 rM k Kz mX
  rcases gS i m1 h1 with⟨rfl,rfl⟩|⟨hi,rN⟩
  ·rcases gS j m2 h2 with⟨rfl,rfl⟩|⟨hj,uE⟩
   ·exact rM rfl
   ·have:=Gx k Kz
    have uT:j<D.length:=by rw [<-G.len];exact(lgeS uE).1
    obtain⟨cur,hc⟩:=(Row.bI (G.node j _ m2 (List.getElem?_eq_getElem uT) uE).ch mX).2;have:=aQ hc;omega
  ·rcases gS j m2 h2 with⟨rfl,rfl⟩|⟨hj,uE⟩
   ·have:=Gx k mX
    have dV:i<D.length:=by rw [<-G.len];exact(lgeS rN).1
    obtain⟨cur,hc⟩:=(Row.bI (G.node i _ m1 (List.getElem?_eq_getElem dV) rN).ch Kz).2;have:=aQ hc;omega
   ·exact G.apart i j m1 m2 rN uE rM k Kz mX
 ·intro k hk hf
  rcases hk with hk|hk
  ·exact G.Hk k hk hf
  ·have:=Gx k hk
   have:=G.low k (.inr hf);omega
 ·intro k hk
  rcases hk with(hk|hk)|hk
  ·exact Nat.lt_of_lt_of_le (G.low k (.inl hk)) kT.size
  ·obtain⟨cur,hc⟩:=(Row.bI fE hk).2
   exact aQ hc
  ·exact Nat.lt_of_lt_of_le (G.low k (.inr hk)) kT.size
end
theorem Az(h:HT)(m:NM)(A:Option Addr)(n c:Nat):(gm h m).setIfInBounds 33 (.slice A n c)=gm h {m with cA:=A,cn:=n,cc:=c}:=by
 have hs:=h.2.1;apply Array.ext_getElem?;intro i;unfold gm;rw [Array.getElem?_setIfInBounds,Array.getElem?_append,Array.getElem?_append];by_cases h1:i<h.1.size
 ·rw [if_neg (by omega),if_pos h1,if_pos h1]
 ·rw [if_neg h1,if_neg h1]
  by_cases h2:i=33
  ·subst h2
   rw [if_pos rfl,if_pos (by simp;omega),hs];rfl
  ·rw [if_neg (Ne.symm h2),hs]
   match i-32,show i-32≠1 by omega with
   |0,_=>rfl
   |2,_=>rfl
   |(k+3),_=>rfl
theorem Ay(h:HT)(m:NM)(A:Option Addr)(n c:Nat):(gm h m).setIfInBounds 34 (.slice A n c)=gm h {m with rA:=A,rn:=n,rc:=c}:=by
 have hs:=h.2.1;apply Array.ext_getElem?;intro i;unfold gm;rw [Array.getElem?_setIfInBounds,Array.getElem?_append,Array.getElem?_append];by_cases h1:i<h.1.size
 ·rw [if_neg (by omega),if_pos h1,if_pos h1]
 ·rw [if_neg h1,if_neg h1]
  by_cases h2:i=34
  ·subst h2
   rw [if_pos rfl,if_pos (by simp;omega),hs];rfl
  ·rw [if_neg (Ne.symm h2),hs]
   match i-32,show i-32≠2 by omega with
   |0,_=>rfl
   |1,_=>rfl
   |(k+3),_=>rfl
section
variable{w w0 w':World}{S F F1 S':Nat->Prop}{g bl c mb gb ib nb:Nat}{D:DG}{C:HT->List HT}{M:List NM}{K:Value->World->Prop}
noncomputable def jg(D:DG)(h:HT)(l:List HT):HT->List HT:=fun x=>if x∈l then dw (gU D x++ [h])else gU D x
structure AL(w0 w':World)(S F1 S':Nat->Prop)(g:Nat)(D:DG)(h:HT)(l:List HT)(gb ib nb:Nat)(pA:Option Addr)(pc i bl c mb:Nat)(M:List NM)(rA:Option Addr)(rn rc:Nat)(ws:List Nat):Prop where
 G:GV w' S' F1 g D (jg D h (l.take i)) bl c mb M
 sub:∀k,S k->S' k
 new:∀k,S' k->S k\/w0.heap.size<=k
 node:w'.heap[nb]? =some (.cells (gm h ⟨nb,pA,l.length,pc,none,0,0,rA,rn,rc,ws⟩) dU (0,0))
 ZA:¬S' nb
 row:ln w' nb rA rn rc ws
 ok:okW ws
 small:rn<=200
 Zz:∀k,a8 rA=some k->¬S' k
 bits:∀j,bit ws j=true↔∃p∈l.take i,∃nj,D[j]? =some nj/\(nj.id=p\/fy D nj.id p)
 YC:w'.heap[gb]? =some (.cells #[.pointer (some ⟨g,0,none⟩)] lK (0,0))
 ibx:w'.heap[ib]? =some (.cells h.1 ah (0,0))
 noG:¬S' gb
 noI:¬S' ib
 hl:HS w' pA l.length l
 kp:Kept S w0 w'
theorem GR{h:HT}{l:List HT}{pA:Option Addr}{pc i:Nat}{rA:Option Addr}{rn rc:Nat}{ws:List Nat}{Q:aO}
 (L:AL w0 w' S F1 S' g D h l gb ib nb pA pc i bl c mb M rA rn rc ws) (W:j0 D) (hD:D.length<=10000) (uR:SS l) (fJ:∀p∈l,p∈ids D) (Hh:∀k,F1 k->k<nb) (Kw:∀a,pA=some a->F1 a.block) (h0:w0.heap.size<=nb) (dV:i<l.length) (hll:l.length<=10000)
 (hQ:∀S2 M rA rn rc ws v,AL w0 v S F1 S2 g D h l gb ib nb pA pc (i+1) bl c mb M rA rn rc ws->Q .normal (bH.e1 ⟨gb,0,none⟩ ⟨ib,0,none⟩ 0 ⟨nb,0,none⟩ pA l.length pc (l.length:Int) ((i:Int)+1)) v):
 bH.B1 ⟨gb,0,none⟩ ⟨ib,0,none⟩ 0 ⟨nb,0,none⟩ pA l.length pc (l.length:Int) (i:Int) Q w':=by
 obtain⟨p,hp⟩:∃p,l[i]? =some p:=⟨_,List.getElem?_eq_getElem dV⟩;have rL:=List.mem_of_getElem? hp;have aa9:=fJ p rL;refine Split.yes (decide_eq_true (by omega)) ?_;refine L.hl.load (i:=(i:Int)) (by omega) hp ?_;intro sM;obtain⟨tu,jP,ko⟩:=iu (w:=w') (z:=(#[.int .u8 0,.int .u8 0,.int .u8 0,.int .u8 0,.int .u8 0,.int .u8 0,.int .u8 0,.int .u8 0,.int .u8 0,.int .u8 0,.int .u8 0,.int .u8 0,.int .u8 0,.int .u8 0,.int .u8 0,.int .u8 0,.int .u8 0,.int .u8 0,.int .u8 0,.int .u8 0,.int .u8 0,.int .u8 0,.int .u8 0,.int .u8 0,.int .u8 0,.int .u8 0,.int .u8 0,.int .u8 0,.int .u8 0,.int .u8 0,.int .u8 0,.int .u8 0]:Array Value)) (cs:=p.1) (t:=ah) (by rw [p.2.1];rfl);refine⟨⟨p.2.1,p.2.one,fun j hj=>tu j (by rw [p.2.1];exact hj)⟩,?_⟩;intro uv
 replace jP:uv.heap[w'.heap.size]? =some (.cells p.1 ah (0,0)):=jP
 replace uA:Kept Nil w' uv:=ko
 clear_value uv;refine⟨some ⟨g,0,none⟩,by rw [aD (uA.heap L.YC (fun h=>h))];rfl,p.1,⟨p.2.1,Cells.bI jP⟩,?_⟩;refine wu (L.G.same uA) p fun w40 x k40 hx=>⟨x,rfl,?_⟩;rcases hx with⟨rfl,lH⟩|⟨q,nd,m',hq,gB,nv,rfl⟩
 ·exact absurd aa9 lH
 intro E0;have It:Kept Nil w' E0:=(uA.tt k40).drew;have Jo:E0.heap[w'.heap.size]? =some (.cells p.1 ah (0,0)):=k40.heap jP (fun h=>h);clear_value E0;have aiM:=It.size;have YV:=L.G.same It;obtain⟨m,hm,R9⟩:=YV.get hq;rw [nv]at hm;cases hm;have Qa:=It.heap L.node (fun h=>h);have Ad:ln E0 nb rA rn rc ws:=Row.aF L.row It (fun _ _ h=>h);refine⟨rA,rn,rc,by rw [br,Nat.zero_add,aD Qa];exact AB _ _,?_⟩;refine⟨_,_,_,xK R9,some ⟨g,0,none⟩,by rw [aD (It.heap L.YC (fun h=>h))];rfl,?_⟩;refine⟨some mb,YV.at_,p.1,⟨p.2.1,Cells.bI Jo⟩,_,YV.map.xQ p,?_⟩;rw [show pos p (ids D) 0=some q by rw [<-gB];exact W.pos_eq hq,Option.getD_some];have Lz:=(lgeS hq).1;have vT:=R9.small;have aiz:=L.small;have hrA:∀k,a8 rA=some k->nb<=k/\k<w'.heap.size:=fun k hk=>by
  obtain⟨h1,cur,hc⟩:=Row.bI L.row hk;exact⟨h1,aQ hc⟩
 have abn:nb<w'.heap.size:=aQ L.node;have Mz:∀ {v:World} {A:Option Addr} {n c:Nat} {l:List Nat} {B:Nat},ln v B A n c l->∀ {k:Nat} {cs:Array Value} {t:TypeId},v.heap[k]? =some (.cells cs t (0,0))->t≠jb->¬a8 A=some k:=fun hr _ _ _ hk fL e=>by
  obtain⟨_,cur,hc⟩:=Row.bI hr e;exact km hk hc fL rfl
 refine xF Ad L.ok (by omega) (by omega) R9.past R9.ok (by omega) (fun a ha k hk e=>?_) fun A2 n2 c2 l2 Mx tR abi ajf QM Ir acG=>⟨A2,n2,c2,rfl,?_⟩
 ·have h1:=Hh a.block (R9.pK a ha)
  have h2:=(hrA k hk).1;omega
 have hnF:∀k,F1 k->¬a8 rA=some k:=fun k hk e=>by have:=Hh k hk;have:=(hrA k e).1;omega
 have G52:=YV.aF Ir (fun k hk e=>L.Zz k e hk) hnF;have V0:=Ir.heap Jo (Mz Ad Jo (by decide));have Vy:=It.heap L.YC (fun h=>h);have Qx:=Ir.heap Vy (Mz Ad Vy (by decide));have Vp:=It.heap L.ibx (fun h=>h);have Vo:=Ir.heap Vp (Mz Ad Vp (by decide));have Nu:=Ir.heap Qa (Mz Ad Qa (by decide));have aiL:=Ir.size;have Vb:=G52.map.xQ p;rw [show pos p (ids D) 0=some q by rw [<-gB];exact W.pos_eq hq,Option.getD_some]at Vb;refine⟨Vb,⟨p.1,rfl,p.2.1,Cells.bI V0⟩,G52.at_,by rw [aD Qx];rfl,?_⟩;have NX:∀k,a8 A2=some k->a8 rA=some k\/E0.heap.size<=k:=acG;refine z8 tR abi (by omega) (by omega) (by omega) fun A3 n3 c3 l3 qX xG abh aje QL Gc QO=>⟨A3,n3,c3,rfl,?_⟩;have C1:∀k,a8 A2=some k->¬S' k:=fun k hk hs=>by
  rcases NX k hk with h|h
  ·exact L.Zz k h hs
  ·have:=L.G.low k (.inl hs);omega
 have Jc:∀k,F1 k->¬a8 A2=some k:=fun k hf hk=>by
  have:=Hh k hf;have:=(Row.bI tR hk).1;omega
 have G55:=G52.aF Gc (fun k hk e=>C1 k e hk) Jc;have LW:=Gc.heap Qx (Mz tR Qx (by decide));have Vn:=Gc.heap Vo (Mz tR Vo (by decide));have Bg:=Gc.heap Nu (Mz tR Nu (by decide));have aiK:=Gc.size;have afl:=vF h ⟨nb,pA,l.length,pc,none,0,0,rA,rn,rc,ws⟩;refine⟨by rw [br,Nat.zero_add];exact dY Bg (by omega),?_⟩;intro w57 Hu;have Lk:Kept (· =nb) qX w57:=by
  show Kept (· =nb) qX (qX.setCell ((⟨nb,0,none⟩:Addr).add 34) (.slice A3 n3 c3))
  exact Kept.setCell (S:=fun k=>k=nb) (Kept.refl _ qX) (by rw [eW];exact fun _=>rfl) _
 have UR:w57.heap[nb]? =some (.cells (gm h ⟨nb,pA,l.length,pc,none,0,0,A3,n3,c3,l3⟩) dU (0,0)):=by
  show(qX.setCell ((⟨nb,0,none⟩:Addr).add 34) (.slice A3 n3 c3)).heap[nb]? =_;rw [br,Nat.zero_add,dh Bg 34,Ay];rfl
 have Iq:Kept (· =nb) qX Hu:=Lk.drew;have UQ:Hu.heap[nb]? =some (.cells (gm h ⟨nb,pA,l.length,pc,none,0,0,A3,n3,c3,l3⟩) dU (0,0)):=UR;clear_value Hu;clear UR Lk;have aiJ:=Iq.size;have G58:=G55.aF Iq (fun k hk e=>L.ZA (e▸hk)) (fun k hk e=>by have:=Hh k hk;omega);have Vw:=Iq.heap LW (km LW Bg (by decide));have Qs:=Iq.heap Vn (km Vn Bg (by decide));have SC:ln Hu nb A3 n3 c3 l3:=Row.aF xG Iq (fun k hk e=>by
  subst e;exact Mz xG Bg (by decide) hk)
 obtain⟨m,hm,N58⟩:=G58.get hq;rw [nv]at hm;cases hm;refine⟨m'.cA,m'.cn,m'.cc,Ef N58,h.1,⟨h.2.1,Cells.bI Qs⟩,h.2.1,?_⟩;intro XA;have ZZ:Kept Nil Hu XA:=(Kept.refl _ _).alloc _;have QK:HS XA (some ⟨Hu.heap.size,0,none⟩) 1 [h]:=iL Hu h;clear_value XA;have G62:=G58.same ZZ;obtain⟨m,hm,R8⟩:=G62.get hq;rw [nv]at hm;cases hm;refine⟨Ef R8,?_⟩;have VU:=R8.ch.len;have EC:jg D h (l.take i) nd.id=gU D p:=by
  unfold jg;rw [gB,if_neg];intro iV;obtain⟨j,hj⟩:=List.mem_iff_getElem?.1 iV;rw [List.getElem?_take]at hj;split at hj
  ·have:=uR.get (by omega) hj hp
   rw [iz]at this;cases this
  ·cases hj
 have qH:=nO D fun a=>nJ D p a;have Ym:m'.cn<=10000:=by
  rw [<-VU,EC];unfold gU;omega
 obtain⟨A7,c7,G0,aaP,SB,abW,acE⟩:=ct (cx:=1) ay R8.ch QK (by omega) (Nat.zero_le _);have Gb:Kept (fun k=>a8 m'.cA=some k) XA G0:=Kept.grown (Kept.refl _ _) abW (fun k hk _=>hk);refine⟨A7,_,c7,G0,aaP,?_⟩;have aiI:=ZZ.size;have Uf:=Gb.size;refine jf SB.hs (by omega) fun A5 c5 Ot HQ ZY=>⟨A5,_,c5,rfl,?_⟩;have aiH:=ZY.size;have UZ:=Gb.heap R8.bI (fun e=>by
  obtain⟨_,cur,hc⟩:=Row.bI R8.ch e;exact km R8.bI hc (by decide) rfl)
 have Jg:=ZY.heap UZ (fun h=>h);refine⟨by rw [br,Nat.zero_add];exact dY Jg (by rw [vF];omega),?_⟩;intro DQ;have BW:Kept (· =m'.b) Ot DQ:=by
  show Kept (· =m'.b) Ot (Ot.setCell ((⟨m'.b,0,none⟩:Addr).add 33) (.slice A5 (dw (jg D h (l.take i) nd.id++ [h])).length c5))
  exact Kept.setCell (S:=fun k=>k=m'.b) (Kept.refl _ Ot) (by rw [eW];exact fun _=>rfl) _
 have UY:DQ.heap[m'.b]? =some (.cells (gm nd.id {m' with cA:=A5,cn:=(dw (jg D h (l.take i) nd.id++ [h])).length,cc:=c5}) dU (0,0)):=by
  show(Ot.setCell ((⟨m'.b,0,none⟩:Addr).add 33) (.slice A5 (dw (jg D h (l.take i) nd.id++ [h])).length c5)).heap[m'.b]? =_;rw [br,Nat.zero_add,dh Jg 33,Az]
 clear_value DQ;have kT:Kept (fun k=>a8 m'.cA=some k\/k=m'.b) Hu DQ:=
  (((ZZ.mono (S':=fun k=>a8 m'.cA=some k\/k=m'.b) (fun _ _ h=>h.elim)).trans Gb (fun _ _ h=>.inl h)).trans ZY (fun _ _ h=>h.elim)).trans BW (fun _ _ h=>.inr h)
 have I3:bK DQ Hu.heap.size A5 (dw (jg D h (l.take i) nd.id++ [h])).length c5 (dw (jg D h (l.take i) nd.id++ [h])):=
  Row.base (Row.aF HQ BW (fun k hk e=>by
   subst e;obtain⟨_,cur,hc⟩:=Row.bI HQ hk;exact km Jg hc (by decide) rfl)) (fun k hk=>by have:=(Row.bI HQ hk).1;omega)
 have G69:=G58.upd W hq nv kT UY I3;have Gx:∀k,a8 A5=some k->Hu.heap.size<=k:=fun k hk=>(Row.bI I3 hk).1;have RX:∀k,(a8 m'.cA=some k\/k=m'.b)->S' k:=fun k e=>by
  rcases e with e|rfl
  ·exact N58.Q9 k e
  ·exact N58.gD
 have hkf:(fun x=>if x=nd.id then dw (jg D h (l.take i) nd.id++ [h])else jg D h (l.take i) x)=jg D h (l.take (i+1)):=by
  funext x
  by_cases hx:x=nd.id
  ·rw [if_pos hx,EC,hx,gB]
   unfold jg;rw [if_pos ((bO hp).2 (.inr rfl))]
  ·rw [if_neg hx]
   unfold jg;have:x∈l.take (i+1)↔x∈l.take i:=by
    rw [bO hp];exact⟨fun e=>e.resolve_right (fun e=>hx (by rw [gB];exact e)),.inl⟩
   by_cases hm:x∈l.take i
   ·rw [if_pos hm,if_pos (this.2 hm)]
   ·rw [if_neg hm,if_neg (fun e=>hm (this.1 e))]
 rw [hkf]at G69;rw [dW (n:=(i:Int)) (by omega) (by omega)];have afw:nb<Hu.heap.size:=aQ UQ;have lQ:Kept S w0 DQ:=by
  have k1:=L.kp.trans It (fun _ _ h=>h.elim);have k2:=k1.trans Ir (fun k hk e=>absurd (hrA k e).1 (by omega));have k3:=k2.trans Gc (fun k hk e=>absurd (Row.bI tR e).1 (by omega));have k4:=k3.trans Iq (fun k hk e=>by omega);exact k4.trans kT (fun k hk e=>by
   rcases L.new k (RX k e)with h|h
   ·exact h
   ·omega)
 refine hQ _ _ A3 n3 c3 l3 DQ ⟨G69,fun k hk=>.inl (L.sub k hk),fun k hk=>?_,kT.heap UQ (fun e=>L.ZA (RX _ e)),fun e=>?_,Row.aF SC kT (fun k hk e=>?_),abh,by omega,fun k hk e=>?_,fun j=>?_,
  kT.heap Vw (fun e=>L.noG (RX _ e)),kT.heap Qs (fun e=>L.noI (RX _ e)),fun e=>?_,fun e=>?_,?_,lQ⟩
 ·rcases hk with hk|hk
  ·exact L.new k hk
  ·have:=Gx k hk
   have:=L.kp.size;exact .inr (by omega)
 ·rcases e with e|e
  ·exact L.ZA e
  ·have:=Gx _ e;omega
 ·have hs:=RX k e
  rcases QO k hk with h|h
  ·exact C1 k h hs
  ·have:=L.G.low k (.inl hs);omega
 ·have hk3:k<qX.heap.size:=by
   obtain⟨_,cur,hc⟩:=Row.bI xG hk;exact aQ hc
  rcases e with e|e
  ·rcases QO k hk with h|h
   ·exact C1 k h e
   ·have:=L.G.low k (.inl e);omega
  ·have:=Gx _ e;omega
 ·rw [QL,Bool.or_eq_true,QM,Bool.or_eq_true,L.bits,R9.bits,decide_eq_true_iff]
  constructor
  ·rintro((⟨p',h1,h2⟩|⟨nj,h1,h2⟩)|rfl)
   ·exact⟨p',(bO hp).2 (.inl h1),h2⟩
   ·exact⟨p,(bO hp).2 (.inr rfl),nj,h1,.inr (gB▸h2)⟩
   ·exact⟨p,(bO hp).2 (.inr rfl),nd,hq,.inl gB⟩
  ·rintro⟨p',h1,nj,h2,h3⟩
   rcases(bO hp).1 h1 with h1|rfl
   ·exact .inl (.inl ⟨p',h1,nj,h2,h3⟩)
   ·rcases h3 with h3|h3
    ·exact .inr (W.inj h2 hq (h3.trans gB.symm))
    ·exact .inl (.inr ⟨nj,h2,gB▸h3⟩)
 ·rcases e with e|e
  ·exact L.noG e
  ·have:=Gx _ e;have:=aQ Vw;omega
 ·rcases e with e|e
  ·exact L.noI e
  ·have:=Gx _ e;have:=aQ Qs;omega
 ·have hb:∀a,pA=some a->F1 a.block/\a.block<nb:=fun a ha=>⟨Kw a ha,Hh _ (Kw a ha)⟩
  have k1:=L.hl.same It;have k2:=k1.aF Ir (fun a ha=>hnF _ (hb a ha).1);have k3:=k2.aF Gc (fun a ha=>Jc _ (hb a ha).1);have k4:=k3.aF Iq (fun a ha e=>by have:=(hb a ha).2;omega);exact k4.aF kT (fun a ha e=>L.G.Hk _ (RX _ e) (hb a ha).1)
end
theorem St:zD prog mf fw 1 8:=⟨by kernel_rfl,by kernel_rfl⟩
theorem JS:R6 prog dU=some ([(0,32),(32,1),(33,1),(34,1)],List.replicate 32 (.int .u8 0)++ [.slice none 0 0,.slice none 0 0,.slice none 0 0]):=by kernel_rfl
theorem JQ(h:HT)(b:Nat)(A:Option Addr)(n c:Nat):prog.built dU [(0,.agg h.1),(1,.slice A n c)]=some (gm h ⟨b,A,n,c,none,0,0,none,0,0,[]⟩):=by
 have hs:=h.2.1;rw [nV JS,jc (off:=0) (size:=32) rfl (by simpa [Value.cells]using hs) (by simp),jc (off:=32) (size:=1) rfl rfl (by
  rw [List.size_toArray,mC (by simp [Value.cells,hs])];simp)]
 simp only [Instr.fill,Option.some.injEq];apply Array.ext';unfold hU gm;simp [Value.cells,hs];rw [List.drop_append];simp [hs]
theorem GI(h:HT)(b:Nat):prog.built dU [(0,.agg h.1)]=some (gm h ⟨b,none,0,0,none,0,0,none,0,0,[]⟩):=by
 have hs:=h.2.1;rw [nV JS,jc (off:=0) (size:=32) rfl (by simpa [Value.cells]using hs) (by simp)];simp only [Instr.fill,Option.some.injEq];apply Array.ext';unfold hU gm;simp [Value.cells,hs]
section
variable{D:DG}{h:HT}{l:List HT}
theorem Dt(W:j0 D)(hn:h∉ids D){x:HT}:jg D h l x=gU (D++ [⟨h,l⟩]) x:=by
 have iV:∀a,a∈gU (D++ [⟨h,l⟩]) x↔(a∈gU D x\/(a=h/\x∈l)):=fun a=>by
  unfold gU;rw [jS,jS,nP,lR,List.mem_append,List.mem_singleton];constructor
  ·rintro⟨h1,h2|⟨h2,h3⟩⟩
   ·exact .inl ⟨(fy.mem W (.one h2)).2,h2⟩
   ·exact .inr ⟨h2.symm,h3⟩
  ·rintro(⟨h1,h2⟩|⟨rfl,h2⟩)
   ·exact⟨.inl h1,.inl h2⟩
   ·exact⟨.inr rfl,.inr ⟨rfl,h2⟩⟩
 unfold jg;by_cases uB:x∈l
 ·rw [if_pos uB]
  refine(yx (l:=gU (D++ [⟨h,l⟩]) x) (jh _) fun a=>?_).symm;rw [iV,List.mem_append,List.mem_singleton];exact⟨fun e=>e.imp (fun e=>e) (fun e=>e.1),fun e=>e.imp (fun e=>e) (fun e=>⟨e,uB⟩)⟩
 ·rw [if_neg uB]
  refine zo (jh _) (jh _) fun a=>?_;have:=iV a;unfold gU pick at this⊢;rw [this];exact⟨.inl,fun e=>e.resolve_right (fun e=>uB e.2)⟩
theorem GH(W:j0 D)(hn:h∉ids D)(fJ:∀p∈l,p∈ids D):gU (D++ [⟨h,l⟩]) h= []:=by
 cases hc:gU (D++ [⟨h,l⟩]) h with
 |nil=>rfl
 |cons b t=>
  exfalso;have:b∈gU (D++ [⟨h,l⟩]) h:=by rw [hc];simp
  rcases nP.1 (jS.1 this).2 with h1|⟨_,h2⟩
  ·exact hn (fy.mem W (.one h1)).1
  ·exact hn (fJ h h2)
theorem JT(W:j0 D)(hn:h∉ids D){x:HT}(hx:x∈ids D)(j:Nat):(∃nj,(D++ [⟨h,l⟩])[j]? =some nj/\fy (D++ [⟨h,l⟩]) nj.id x)↔∃nj,D[j]? =some nj/\fy D nj.id x:=by
 constructor
 ·rintro⟨nj,h1,h2⟩
  have uE:=(jB W (nd:=⟨h,l⟩) hn hx).1 h2;rw [List.getElem?_append]at h1;split at h1
  ·exact⟨nj,h1,uE⟩
  ·exfalso
   have:nj=⟨h,l⟩:=by
    cases hk:j-D.length with
    |zero=>rw [hk]at h1;simpa using h1.symm
    |succ k=>rw [hk]at h1;simp at h1
   subst this;exact hn (uE.mem W).1
 ·rintro⟨nj,h1,h2⟩
  exact⟨nj,by rw [List.getElem?_append_left (lgeS h1).1];exact h1,(jB W (nd:=⟨h,l⟩) hn hx).2 h2⟩
theorem JU(W:j0 D)(hn:h∉ids D)(fJ:∀p∈l,p∈ids D)(hs:SS l)(j:Nat):
 (∃nj,(D++ [⟨h,l⟩])[j]? =some nj/\fy (D++ [⟨h,l⟩]) nj.id h)↔∃p∈l,∃nj,D[j]? =some nj/\(nj.id=p\/fy D nj.id p):=by
 have W':j0 (D++ [⟨h,l⟩]):=W.snoc (nd:=⟨h,l⟩) hn fJ hs;have gS:(D++ [⟨h,l⟩])[D.length]? =some ⟨h,l⟩:=by rw [List.getElem?_append_right (Nat.le_refl _),Nat.sub_self];rfl
 have key:∀a,fy (D++ [⟨h,l⟩]) a h↔∃p∈l,a=p\/fy D a p:=fun a=>by
  rw [sJ W' gS a];constructor
  ·rintro⟨p,hp,e⟩
   exact⟨p,hp,e.imp (fun e=>e) (fun e=>(jB W (nd:=⟨h,l⟩) hn (fJ p hp)).1 e)⟩
  ·rintro⟨p,hp,e⟩
   exact⟨p,hp,e.imp (fun e=>e) (fun e=>(jB W (nd:=⟨h,l⟩) hn (fJ p hp)).2 e)⟩
 constructor
 ·rintro⟨nj,h1,h2⟩
  obtain⟨p,hp,e⟩:=(key _).1 h2;have hid:nj.id∈ids D:=by
   rcases e with e|e
   ·rw [e];exact fJ p hp
   ·exact(e.mem W).1
  rw [List.getElem?_append]at h1;split at h1
  ·exact⟨p,hp,nj,h1,e⟩
  ·exfalso
   have:nj=⟨h,l⟩:=by
    cases hk:j-D.length with
    |zero=>rw [hk]at h1;simpa using h1.symm
    |succ k=>rw [hk]at h1;simp at h1
   subst this;exact hn hid
 ·rintro⟨p,hp,nj,h1,e⟩
  exact⟨nj,by rw [List.getElem?_append_left (lgeS h1).1];exact h1,(key _).2 ⟨p,hp,e⟩⟩
end
section
variable{w w':World}{S F F':Nat->Prop}{g bl c mb:Nat}{D:DG}{C:HT->List HT}{M:List NM}{K:Value->World->Prop}
theorem GV.S5(G:GV w S F g D C bl c mb M)(hf:∀k,F k->F' k)(hd:∀k,S k->¬F' k)(hl:∀k,F' k->k<w.heap.size):GV w S F' g D C bl c mb M:=
 ⟨G.top,G.row,G.map,G.len,fun i nd m h1 h2=>by
   have N:=G.node i nd m h1 h2;exact⟨N.bI,N.gD,N.ps,fun a ha=>hf _ (N.KY a ha),N.ch,N.Q9,N.past,fun a ha=>hf _ (N.pK a ha),N.ok,N.bits,N.small⟩,G.apart,G.iB,G.ui,G.wi,hd,fun k hk=>hk.elim (fun h=>G.low k (.inl h)) (hl k)⟩
theorem Mt{w0:World}{F1 S':Nat->Prop}{h:HT}{l:List HT}{gb ib nb:Nat}{pA:Option Addr}{pc i:Nat}{rA:Option Addr}{rn rc:Nat}{ws:List Nat}
 (L:AL w0 w S F1 S' g D h l gb ib nb pA pc i bl c mb M rA rn rc ws) (W:j0 D) (hD:D.length<=5000) (uR:SS l) (fJ:∀p∈l,p∈ids D) (hn:h∉ids D) (Hh:∀k,F1 k->k<nb) (Kw:∀a,pA=some a->F1 a.block) (h0:w0.heap.size<=nb) (dV:l.length<=i)
 (hK:∀v S2 F2,DL v S2 F2 g (D++ [⟨h,l⟩])->Kept S w0 v->(∀k,S2 k->S k\/w0.heap.size<=k)->(∀k,F2 k->F1 k\/w0.heap.size<=k)->K (.int .i64 0) v):
 bH.GX ⟨gb,0,none⟩ ⟨ib,0,none⟩ 0 ⟨nb,0,none⟩ pA l.length pc (l.length:Int) (i:Int) K w:=by
 have Ua:l.take i=l:=List.take_of_length_le dV;have hG:=L.G;rw [Ua]at hG;have NK:=L.bits;rw [Ua]at NK;unfold bH.GX;intro Rq;have MQ:Kept Nil w Rq:=(Kept.refl _ _).drew;clear_value Rq;have uY:=hG.same MQ;have LV:=MQ.heap L.YC (fun h=>h);have Jf:=MQ.heap L.node (fun h=>h);have D0:ln Rq nb rA rn rc ws:=Row.aF L.row MQ (fun _ _ h=>h);refine⟨some ⟨g,0,none⟩,by rw [aD LV];rfl,some mb,uY.at_,h.1,⟨h.2.1,Cells.bI (MQ.heap L.ibx (fun h=>h))⟩,some ⟨g,0,none⟩,by rw [aD LV];rfl,?_⟩;refine⟨_,_,_,uY.nodes,?_⟩;obtain⟨w85,Un,Tb,k85⟩:=uY.map.put hn;rw [gq]at Un;refine⟨w85,Un,?_⟩;intro KM;have Pa:Kept (· =mb) Rq KM:=k85.drew;have MJ:IsMap KM mb (ids D++ [h]):=Tb.aF ((Kept.refl Nil w85).drew) (fun h=>h);clear_value KM;have KQ:∀ {v:World} {k:Nat} {cs:Array Value} {t:TypeId},IsMap v mb (ids D)->v.heap[k]? =some (.cells cs t (0,0))->k≠mb:=fun hm hk e=>by
  obtain⟨es,clock,LM,_⟩:=hm.ex;rw [e,LM]at hk;cases hk
 have Qw:=Pa.heap LV (KQ uY.map LV);have ajc:=Pa.heap Jf (KQ uY.map Jf);have IT:=Pa.heap uY.top (KQ uY.map uY.top);have SA:Row KM 0 fw 1 (some ⟨bl,0,none⟩) D.length c (M.map fun m=>.pointer (some ⟨m.b,0,none⟩)):=Row.aF uY.row Pa (fun k hk e=>by
  obtain⟨_,cur,hc⟩:=Row.bI uY.row hk;exact KQ uY.map hc e)
 have Zs:ln KM nb rA rn rc ws:=Row.aF D0 Pa (fun k hk e=>by
  obtain⟨_,cur,hc⟩:=Row.bI D0 hk;exact KQ uY.map hc e)
 refine⟨some ⟨g,0,none⟩,by rw [aD Qw];rfl,some ⟨g,0,none⟩,by rw [aD Qw];rfl,?_⟩;refine⟨some ⟨bl,0,none⟩,D.length,c,by rw [add_zero,aD IT];rfl,?_⟩;intro Oo;have RB:Kept Nil KM Oo:=(Kept.refl _ _).alloc _;have acC:Oo.heap[KM.heap.size]? =some (.cells #[.pointer (some ⟨nb,0,none⟩)] fw (0,0)):=aI KM _;clear_value Oo;have LU:=RB.heap Qw (fun h=>h);have CP:=RB.heap IT (fun h=>h);refine⟨by rw [add_zero,aD CP];rfl,by rw [aD LU];rfl,by rw [aD LU];rfl,?_⟩;have HO:Row Oo 0 fw 1 (some ⟨bl,0,none⟩) D.length c (M.map fun m=>.pointer (some ⟨m.b,0,none⟩)):=Row.aF SA RB (fun _ _ h=>h);obtain⟨YY,R5,On,aaN,HN,Vr,acB⟩:=fP (P:=prog) (t:=mf) (ty:=mf) (bytes:=8) St HO (a:=⟨KM.heap.size,0,none⟩) (m:=1) (cx:=1) (news:= [.pointer (some ⟨nb,0,none⟩)]) rfl
  (fun j u hj=>by rw [br,Nat.zero_add,aD acC];simpa using hj) (fun u hu=>by simp at hu;subst hu;rfl) (by omega) (by unfold maxLen;omega) (Nat.zero_le _)
 have XI:Kept (· =bl) Oo On:=Kept.grown (S:=fun k=>k=bl) (Kept.refl _ _) Vr (fun k hk _=>by cases hk;rfl);refine⟨YY,_,R5,On,aaN,?_⟩;have tyL:∀ {k:Nat} {cs:Array Value} {t:TypeId},Oo.heap[k]? =some (.cells cs t (0,0))->t≠fw->k≠bl:=fun hk fL=>by
  obtain⟨_,cur,hc⟩:=Row.bI HO (k:=bl) rfl;exact km hk hc fL
 have abU:=XI.heap LU (tyL LU (by decide));have yQ:=XI.heap CP (tyL CP (by decide));refine⟨by rw [aD abU];rfl,by rw [add_zero];exact dY yQ (by simp),?_⟩;intro Kk;have ZW:Kept (· =g) On Kk:=by
  show Kept (· =g) On (On.setCell ((⟨g,0,none⟩:Addr).add 0) (.slice YY (D.length+1) R5))
  exact Kept.setCell (S:=fun k=>k=g) (Kept.refl _ On) (by rw [eW];exact fun _=>rfl) _
 have PR:Kk.heap[g]? =some (.cells #[.slice YY (D.length+1) R5,.map (some mb)] iw (0,0)):=by
  show(On.setCell ((⟨g,0,none⟩:Addr).add 0) (.slice YY (D.length+1) R5)).heap[g]? =_;rw [add_zero,dh yQ 0];rfl
 clear_value Kk;obtain⟨R7,rfl⟩:=Row.some HN (by omega);have aiF:=Pa.size;have aiE:=RB.size;have lQ:Kept (fun k=>k=g\/k=bl\/k=mb) Rq Kk:=
  (((Pa.mono (S':=fun k=>k=g\/k=bl\/k=mb) (fun _ _ h=>.inr (.inr h))).trans RB (fun _ _ h=>h.elim)).trans XI (fun _ _ h=>.inr (.inl h))).trans ZW (fun _ _ h=>.inl h)
 have hTF:∀k,F1 k->¬(k=g\/k=bl\/k=mb):=fun k hk e=>by
  rcases e with rfl|rfl|rfl
  ·exact uY.Hk _ uY.iB hk
  ·exact uY.Hk _ uY.ui hk
  ·exact uY.Hk _ uY.wi hk
 have ty:∀ {k:Nat} {cs:Array Value} {t:TypeId},Rq.heap[k]? =some (.cells cs t (0,0))->t≠iw->t≠fw->¬(k=g\/k=bl\/k=mb):=fun hk h1 h2 e=>by
  rcases e with e|e|e
  ·rw [e]at hk
   exact km hk uY.top h1 rfl
  ·rw [e]at hk
   obtain⟨_,cur,hc⟩:=Row.bI uY.row (k:=bl) rfl;exact km hk hc h2 rfl
  ·exact KQ uY.map hk e
 have CS:Row Kk 0 fw 1 (some ⟨R7,0,none⟩) (D.length+1) R5 ((M.map fun m=>.pointer (some ⟨m.b,0,none⟩))++ [.pointer (some ⟨nb,0,none⟩)]):=Row.aF HN ZW (fun k hk e=>by
  obtain⟨_,cur,hc⟩:=Row.bI HN hk;exact km hc yQ (by decide) e)
 have Ta:IsMap Kk mb (ids D++ [h]):=by
  obtain⟨es,clock,LM,_⟩:=MJ.ex;have h1:=MJ.aF RB (fun h=>h);have h2:=h1.aF XI (fun e=>by
   obtain⟨_,cur,hc⟩:=Row.bI HO (k:=bl) rfl;obtain⟨_,_,nv,_⟩:=h1.ex;rw [e,hc]at nv;cases nv)
  exact h2.aF ZW (fun e=>by
   obtain⟨_,_,nv,_⟩:=h2.ex;rw [e,yQ]at nv;cases nv)
 have P9:=lQ.heap Jf (ty Jf (by decide) (by decide));have yz:ln Kk nb rA rn rc ws:=Row.aF D0 lQ (fun k hk e=>by
  obtain⟨_,cur,hc⟩:=Row.bI D0 hk;exact ty hc (by decide) (by decide) e)
 have Jh:(D++ [(⟨h,l⟩:DN)]).length=D.length+1:=by simp
 have Wi:R7=bl\/Oo.heap.size<=R7:=by
  rcases acB R7 rfl with e|e
  ·exact .inl (by cases e;rfl)
  ·exact .inr e
 have mq:=L.kp.size;have aiG:=MQ.size;have abn:=aQ Jf;have Um:∀k,a8 rA=some k->nb<=k/\k<Kk.heap.size:=fun k hk=>by
  obtain⟨h1,cur,hc⟩:=Row.bI yz hk;exact⟨h1,aQ hc⟩
 have gS:∀ {X:Type} (xs:List X) (y:X) (j:Nat) (z:X),(xs++ [y])[j]? =some z->(j<xs.length/\xs[j]? =some z)\/(j=xs.length/\z=y):=fun xs y j z e=>by
  rw [List.getElem?_append]at e;split at e
  ·rename_i cU;exact .inl ⟨cU,e⟩
  ·rename_i gH
   cases hk:j-xs.length with
   |zero=>rw [hk]at e;exact .inr ⟨by omega,by simpa using e.symm⟩
   |succ k=>rw [hk]at e;simp at e
 refine hK Kk (fun k=>S' k\/k=nb\/k=R7) (fun k=>F1 k\/a8 rA=some k) ⟨R7,R5,mb,M++ [⟨nb,pA,l.length,pc,none,0,0,rA,rn,rc,ws⟩],?_⟩ ?_ ?_ ?_
 ·refine⟨by rw [Jh];exact PR,?_,by rw [lR];exact Ta,by simp [hG.len],fun j nd m h1 h2=>?_,fun j j' m m' h1 h2 fL k hk oR=>?_,.inl hG.iB,.inr (.inr rfl),.inl hG.wi,fun k hk hf=>?_,fun k hk=>?_⟩
  ·rw [Jh,List.map_append]
   exact CS
  ·rcases gS _ _ _ _ h1 with⟨hj,rN⟩|⟨hj,rfl⟩
   ·rcases gS _ _ _ _ h2 with⟨_,uE⟩|⟨vW,_⟩
    ·have N:=uY.node j nd m rN uE
     have hid:nd.id∈ids D:=dp.2 ⟨nd,List.mem_of_getElem? rN,rfl⟩;have hF:∀k,F1 k->¬(k=g\/k=bl\/k=mb):=hTF;rw [<-Dt W hn];refine⟨lQ.heap N.bI (ty N.bI (by decide) (by decide)),.inl N.gD,N.ps.aF lQ (fun a ha=>hF _ (N.KY a ha)),fun a ha=>.inl (N.KY a ha),Row.aF N.ch lQ (fun k hk e=>?_),fun k hk=>.inl (N.Q9 k hk),N.past.aF lQ (fun a ha=>hF _ (N.pK a ha)),fun a ha=>.inl (N.pK a ha),N.ok,fun j=>?_,N.small⟩
     ·obtain⟨cur,hc⟩:=(Row.bI N.ch hk).2
      exact ty hc (by decide) (by decide) e
     ·rw [N.bits,JT W hn hid]
    ·rw [hG.len]at vW;omega
   ·rcases gS _ _ _ _ h2 with⟨vW,_⟩|⟨_,rfl⟩
    ·rw [hG.len]at vW;omega
    ·rw [GH W hn fJ]
     refine⟨P9,.inr (.inl rfl),(L.hl.same MQ).aF lQ (fun a ha=>hTF _ (Kw a ha)),fun a ha=>.inl (Kw a ha),bK.nil _ _,(fun k hk=>by cases hk),yz.us,fun a ha=>.inr (congrArg a8 ha),L.ok,fun j=>?_,L.small⟩;rw [NK,JU W hn fJ uR]
  ·rcases gS _ _ _ _ h1 with⟨_,rN⟩|⟨_,rfl⟩
   ·rcases gS _ _ _ _ h2 with⟨_,uE⟩|⟨_,rfl⟩
    ·exact hG.apart j j' m m' rN uE fL k hk oR
    ·cases oR
   ·cases hk
  ·rcases hk with hk|rfl|rfl
   ·rcases hf with hf|hf
    ·exact hG.Hk k hk hf
    ·exact L.Zz k hf hk
   ·rcases hf with hf|hf
    ·have:=Hh k hf;omega
    ·obtain⟨_,cur,hc⟩:=Row.bI yz hf
     exact km P9 hc (by decide) rfl
   ·rcases hf with hf|hf
    ·rcases Wi with e|e
     ·rw [e]at hf;exact hG.Hk _ hG.ui hf
     ·have:=Hh _ hf;omega
    ·obtain⟨_,cur,hc⟩:=Row.bI yz hf
     obtain⟨_,W8,tB⟩:=Row.bI CS (k:=k) rfl;exact km tB hc (by decide) rfl
  ·have aiD:=lQ.size
   rcases hk with(hk|rfl|rfl)|hk|hk
   ·have:=uY.low k (.inl hk);omega
   ·exact aQ P9
   ·obtain⟨_,W8,tB⟩:=Row.bI CS (k:=k) rfl
    exact aQ tB
   ·have:=uY.low k (.inr hk);omega
   ·exact(Um k hk).2
 ·exact(L.kp.trans MQ (fun _ _ h=>h.elim)).trans lQ (fun k hk e=>by
   have hs:S' k:=by
    rcases e with rfl|rfl|rfl
    ·exact hG.iB
    ·exact hG.ui
    ·exact hG.wi
   rcases L.new k hs with h|h
   ·exact h
   ·omega)
 ·intro k hk
  rcases hk with hk|rfl|rfl
  ·exact L.new k hk
  ·exact .inr h0
  ·rcases Wi with e|e
   ·rw [e];exact L.new _ hG.ui
   ·exact .inr (by omega)
 ·intro k hk
  rcases hk with hk|hk
  ·exact .inl hk
  ·exact .inr (by have:=(Um k hk).1;omega)
theorem Ml(G:GV w S F g D (gU D) bl c mb M)(W:j0 D)(hD:D.length<=5000){A:Option Addr}{n cx:Nat}{lp:List HT}(hl:HS w A n lp)(hn:n<=10000)(h:HT)
 (hK:∀v S2 F2,DL v S2 F2 g (mY D h lp)->Kept S w v->(∀k,S2 k->S k\/w.heap.size<=k)->(∀k,F2 k->F k\/w.heap.size<=k)->K (.int .i64 (dF D h lp)) v):
 bu prog bH.id #[.pointer (some ⟨g,0,none⟩),.agg h.1,.slice A n cx] w K:=by
 have hlen:=hl.len;have lH:∀v,Kept Nil w v->∀e,dF D h lp=e->e≠0->K (.int .i64 e) v:=fun v k e he fL=>by
  have:=hK v S F ?_ (k.mono fun _ _ h=>h.elim) (fun _ h=>.inl h) (fun _ h=>.inl h)
  ·rw [he]at this;exact this
  ·unfold mY
   rw [if_neg (by rw [he];exact fL)];exact⟨bl,c,mb,M,G.same k⟩
 refine bH.of ?_;unfold bH.W;intro w4 w5;have k4:Kept Nil w w4:=(Kept.refl _ _).alloc _;have EF:w4.heap[w.heap.size]? =some (.cells #[.pointer (some ⟨g,0,none⟩)] lK (0,0)):=aI w _;have k5:Kept Nil w4 w5:=(Kept.refl _ _).alloc _;have LR:w5.heap[w4.heap.size]? =some (.cells h.1 ah (0,0)):=aI w4 _;have Vx:=k5.heap EF (fun h=>h);clear_value w5;have ML:Kept Nil w w5:=k4.tt k5;have Qt:w.heap.size<w4.heap.size:=aQ EF;have ajF:w4.heap.size<w5.heap.size:=aQ LR;clear_value w4;refine jf (hl.same ML) (by omega) fun Ho Xc w7 KV k7=>⟨Ho,_,Xc,rfl,?_⟩;have CE:Kept Nil w w7:=ML.tt k7;have hg7:=k7.heap Vx (fun h=>h);have hi7:=k7.heap LR (fun h=>h);have G7:=G.same CE;have CQ:(dw lp).length<=n:=by have:=qi lp;omega
 refine⟨some ⟨g,0,none⟩,by rw [aD hg7];rfl,yi G7 ⟨true,rfl,Split.no rfl ?_⟩⟩;refine⟨some ⟨g,0,none⟩,by rw [aD hg7];rfl,h.1,⟨h.2.1,Cells.bI hi7⟩,uV G7 h fun jM ns=>⟨_,rfl,?_⟩⟩;have Im:=CE.tt ns;by_cases hm:h∈ids D
 ·refine Split.yes (decide_eq_true hm) (lH jM Im 7 ?_ (by omega))
  unfold dF;rw [if_pos hm]
 refine Split.no (decide_eq_false hm) ?_;by_cases h0:(dw lp).length=0
 ·refine Split.yes (by simp [h0]) (lH jM Im 9 ?_ (by omega))
  unfold dF;rw [if_neg hm,if_pos (.inl h0)]
 refine Split.no (beq_eq_false_iff_ne.2 (by omega)) ?_;by_cases h1:(dw lp).length≠n
 ·refine Split.yes (bne_iff_ne.2 (by omega)) (lH jM Im 9 ?_ (by omega))
  unfold dF;rw [if_neg hm,if_pos (.inr (by omega))]
 replace h1:(dw lp).length=n:=by omega
 refine Split.no (by rw [h1];simp) ?_;have VC:=ns.heap hg7 (fun h=>h);have MG:=Row.aF KV ns (fun _ _ h=>h);refine BG (G.same Im) VC (bK.hs MG) (by omega) fun pf x hx xW=>⟨x,rfl,?_⟩;have Il:=Im.tt xW;cases x with
 |true=>
  refine Split.yes rfl (lH pf Il 6 ?_ (by omega));unfold dF;rw [if_neg hm,if_neg (by omega),if_pos (hx.1 rfl)]
 |false=>
  have fJ:∀p∈dw lp,p∈ids D:=fun p hp=>Classical.byContradiction fun abl=>by have:=hx.2 ⟨p,hp,abl⟩;cases this
  have VZ:dF D h lp=0:=by
   unfold dF;rw [if_neg hm,if_neg (by omega),if_neg (fun⟨p,hp,LC⟩=>LC (fJ p hp))]
  have hD':mY D h lp=D++ [⟨h,dw lp⟩]:=by unfold mY;rw [if_pos VZ]
  rw [VZ,hD']at hK;refine Split.no rfl ?_;have Vq:=xW.heap (ns.heap hi7 (fun h=>h)) (fun h=>h);have Qz:=xW.heap VC (fun h=>h);have xH:bK pf w5.heap.size Ho (dw lp).length Xc (dw lp):=Row.aF MG xW (fun _ _ h=>h);refine⟨h.1,⟨h.2.1,Cells.bI Vq⟩,?_⟩;rw [JQ h pf.heap.size];refine Is.mk rfl ?_;intro Kn;have Kq:Kept Nil pf Kn:=(Kept.refl _ _).alloc _;have abo:Kn.heap[pf.heap.size]? =some (.cells (gm h ⟨pf.heap.size,Ho,(dw lp).length,Xc,none,0,0,none,0,0,[]⟩) dU (0,0)):=aI pf _;clear_value Kn;have Tk:=Il.tt Kq;have Q4:∀k,a8 Ho=some k->w5.heap.size<=k/\k<pf.heap.size:=fun k hk=>by
   obtain⟨e1,cur,hc⟩:=Row.bI xH hk;exact⟨e1,aQ hc⟩
  have hs5:=ML.size;have aiQ:=Il.size;have Hh:∀k,(F k\/a8 Ho=some k)->k<pf.heap.size:=fun k hk=>by
   rcases hk with hk|hk
   ·have:=G.low k (.inr hk);omega
   ·exact(Q4 k hk).2
  have Mb:∀k,S k->k<w.heap.size:=fun k hk=>G.low k (.inl hk);have G23:GV Kn S (fun k=>F k\/a8 Ho=some k) g D (gU D) bl c mb M:=(G.same Tk).S5 (fun _ h=>.inl h) (fun k hs e=>by
   rcases e with e|e
   ·exact G.Hk k hs e
   ·have:=Mb k hs;have:=(Q4 k e).1;omega) (fun k hk=>by have:=Hh k hk;have:=Kq.size;omega)
  have EC:jg D h ((dw lp).take 0)=gU D:=by
   funext y
   unfold jg;rw [if_neg (by simp)]
  have L0:AL w Kn S (fun k=>F k\/a8 Ho=some k) S g D h (dw lp) w.heap.size w4.heap.size pf.heap.size Ho Xc 0 bl c mb M none 0 0 []:=
   ⟨by rw [EC];exact G23,fun _ h=>h,fun _ h=>.inl h,abo,fun e=>by have:=Mb _ e;omega,Row.nil _ _ _ _,by simp [okW],by omega,(fun k hk=>by cases hk),fun j=>by simp [zg],Kq.heap Qz (fun h=>h),Kq.heap Vq (fun h=>h),
     fun e=>by have:=Mb _ e;omega,fun e=>by have:=Mb _ e;omega,(xH.hs).same Kq,Tk.mono fun _ _ h=>h.elim⟩
  refine bH.cy (I:=fun s v=>∃(i:Nat) (S2:Nat->Prop) (M2:List NM) (rA:Option Addr) (rn rc:Nat) (ws:List Nat),s=(i:Int)/\i<=(dw lp).length/\AL w v S (fun k=>F k\/a8 Ho=some k) S2 g D h (dw lp) w.heap.size w4.heap.size pf.heap.size Ho Xc i bl c mb M2 rA rn rc ws)
   (μ:=fun s _=>(((dw lp).length:Int)-s).toNat) (s:=0) ⟨0,S,M,none,0,0,[],rfl,Nat.zero_le _,L0⟩ ?_
  rintro s v ⟨i,S2,M2,rA,rn,rc,ws,rfl,hi,L⟩;have Kw:∀a,Ho=some a->F a.block\/a8 Ho=some a.block:=fun a ha=>.inr (by rw [ha];rfl);by_cases dV:i<(dw lp).length
  ·refine GR L W (by omega) (jh _) fJ Hh Kw (by omega) dV (by omega) fun S3 M3 rA3 rn3 rc3 ws3 v3 L3=>?_
   exact⟨(i:Int)+1,rfl,⟨i+1,S3,M3,rA3,rn3,rc3,ws3,rfl,dV,L3⟩,by simp only;omega⟩
  ·refine Split.no (decide_eq_false (by omega)) ?_
   rw [aR,bH.Om];refine Mt L W hD (jh _) fJ hm Hh Kw (by omega) (by omega) fun v2 S4 F4 hI Ve hS4 hF4=>hK v2 S4 F4 hI Ve hS4 (fun k hk=>?_);rcases hF4 k hk with(e|e)|e
   ·exact .inl e
   ·exact .inr (by have:=(Q4 k e).1;omega)
   ·exact .inr e
end
def pD(nb:Nat):NM:=⟨nb,none,0,0,none,0,0,none,0,0,[]⟩
structure NP(w v:World)(r:HT)(A B E:Option Nat)(l:List HT):Prop where
 kp:Kept Nil w v
 node:∀b,A=some b->w.heap.size<=b/\v.heap[b]? =some (.cells (gm r (pD b)) dU (0,0))
 list:∀b,B=some b->w.heap.size<=b/\∃nb,A=some nb/\v.heap[b]? =some (.cells #[.pointer (some ⟨nb,0,none⟩)] fw (0,0))
 map:∀b,E=some b->w.heap.size<=b/\IsMap v b l
section
variable{w v:World}{r:HT}{A B E:Option Nat}{l:List HT}{K:Value->World->Prop}
theorem NP.grow(h:NP w v r A B E l)(o:Obj):NP w (v.alloc o) r A B E l:=
 ⟨h.kp.alloc o,fun b e=>⟨(h.node b e).1,jl (h.node b e).2 o⟩,fun b e=>⟨(h.list b e).1,let ⟨nb,h1,h2⟩:=(h.list b e).2;⟨nb,h1,jl h2 o⟩⟩,fun b e=>⟨(h.map b e).1,(h.map b e).2.aF ((Kept.refl Nil v).alloc o) (fun h=>h)⟩⟩
theorem NP.addNode(h:NP w v r none none E l):NP w (v.alloc (.cells (gm r (pD v.heap.size)) dU)) r (some v.heap.size) none E l:=
 have g:=h.grow (.cells (gm r (pD v.heap.size)) dU)
 ⟨g.kp,fun b e=>by cases e;exact⟨h.kp.size,aI v _⟩,fun b e=>(by cases e),g.map⟩
theorem NP.qD{nb:Nat}(h:NP w v r (some nb) none E l):NP w (v.alloc (.cells #[.pointer (some ⟨nb,0,none⟩)] fw)) r (some nb) (some v.heap.size) E l:=
 have g:=h.grow (.cells #[.pointer (some ⟨nb,0,none⟩)] fw)
 ⟨g.kp,g.node,fun b e=>by cases e;exact⟨h.kp.size,nb,rfl,aI v _⟩,g.map⟩
theorem NP.DF(h:NP w v r A B none []):NP w (v.alloc (.map #[] 0)) r A B (some v.heap.size) []:=
 have g:=h.grow (.map #[] 0)
 ⟨g.kp,g.node,g.list,fun b e=>by cases e;exact⟨h.kp.size,⟨#[],0,aI v _,trivial⟩⟩⟩
theorem NP.put{mb:Nat}(h:NP w v r A B (some mb) []):∃v',(Instr.mapUpdate cK (.map (some mb)) (.agg r.1) (.int .i64 0)).run prog v=.ok () v'/\NP w v' r A B (some mb) [r]:=by
 obtain⟨h1,h2⟩:=h.map mb rfl;obtain⟨v',hr,hm,hk⟩:=h2.put (h:=r) (by simp);have KQ:∀ {k:Nat} {cs:Array Value} {t:TypeId},v.heap[k]? =some (.cells cs t (0,0))->¬(k=mb):=fun hk e=>by
  obtain⟨es,clock,LM,_⟩:=h2.ex;rw [e,LM]at hk;cases hk
 refine⟨v',hr,h.kp.trans hk (fun k hk e=>by omega),fun b e=>⟨(h.node b e).1,hk.heap (h.node b e).2 (KQ (h.node b e).2)⟩,fun b e=>⟨(h.list b e).1,?_⟩,fun b e=>by cases e;exact⟨h1,hm⟩⟩;obtain⟨nb,e1,e2⟩:=(h.list b e).2;exact⟨nb,e1,hk.heap e2 (KQ e2)⟩
theorem sZ(r:HT){a b:HT}:¬nJ [(⟨r,[]⟩:DN)] a b:=fun⟨nd,h1,_,h2⟩=>by
 simp at h1;subst h1;simp at h2
theorem Af(r:HT){a b:HT}:¬fy [(⟨r,[]⟩:DN)] a b:=fun h=>by
 cases h with
 |one h=>exact sZ r h
 |more _ h=>exact sZ r h
theorem NP.fin{w0:World}{nb lb mb:Nat}(h:NP w v r (some nb) (some lb) (some mb) [r])(hw:w0.heap.size<=w.heap.size):
 DL (v.alloc (.cells #[.slice (some ⟨lb,0,none⟩) 1 1,.map (some mb)] iw)) (fun k=>w0.heap.size<=k/\k<(v.alloc (.cells #[.slice (some ⟨lb,0,none⟩) 1 1,.map (some mb)] iw)).heap.size) (fun _=>False) v.heap.size [⟨r,[]⟩]:=by
 have g:=h.grow (.cells #[.slice (some ⟨lb,0,none⟩) 1 1,.map (some mb)] iw);have jx:=aI v (.cells #[.slice (some ⟨lb,0,none⟩) 1 1,.map (some mb)] iw);generalize v.alloc (.cells #[.slice (some ⟨lb,0,none⟩) 1 1,.map (some mb)] iw)=u at g jx;have hs:=h.kp.size;obtain⟨n1,n2⟩:=g.node nb rfl;obtain⟨l1,nb',e,l2⟩:=g.list lb rfl;cases e;obtain⟨m1,m2⟩:=g.map mb rfl;have nH:gU [⟨r,[]⟩] r= []:=by
  cases hc:gU [⟨r,[]⟩] r with
  |nil=>rfl
  |cons b t=>exact absurd (jS.1 (show b∈gU [⟨r,[]⟩] r by rw [hc];simp)).2 (sZ r)
 refine⟨lb,1,mb,[pD nb],jx,Row.made (n:=1) (cur:= #[.pointer (some ⟨nb,0,none⟩)]) l2 (Nat.zero_le _) rfl (by decide),m2,rfl,fun i nd m hi hm=>?_,fun i j m m' h1 h2 fL k hk=>?_,⟨by omega,aQ jx⟩,⟨by omega,aQ l2⟩,⟨by omega,m2.lt⟩,fun _ _ h=>h,fun k hk=>hk.elim (fun h=>h.2) (fun h=>h.elim)⟩
 ·cases i with
  |zero=>
   simp at hi hm;subst hi;subst hm;refine⟨n2,⟨Nat.le_trans hw n1,aQ n2⟩,HS.nil _ _,(fun a ha=>by cases ha),?_,(fun k hk=>by cases hk),⟨rfl,fun i x hx=>by simp [pD]at hx⟩,(fun a ha=>by cases ha),by simp [okW,pD],fun j=>?_,by simp [pD]⟩
   ·show bK u 0 none 0 0 (gU [⟨r,[]⟩] r)
    rw [nH];exact bK.nil _ _
   ·show bit [] j=true↔_
    rw [zg];exact⟨(fun h=>by cases h),fun⟨nj,_,h⟩=>absurd h (Af r)⟩
  |succ i=>simp at hi
 ·have hm:m=pD nb:=by
   have:=List.mem_of_getElem? h1;simpa using this
  subst hm;cases hk
theorem gw(r:HT)(hK:∀v gb,DL v (fun k=>w.heap.size<=k/\k<v.heap.size) (fun _=>False) gb [⟨r,[]⟩]->Kept Nil w v->K (.pointer (some ⟨gb,0,none⟩)) v):
 bu prog nn.id #[.agg r.1] w K:=by
 refine nn.of ?_;unfold nn.W;intro w2 w3;have k2:Kept Nil w w2:=(Kept.refl _ _).alloc _;have lT:w2.heap[w.heap.size]? =some (.cells r.1 ah (0,0)):=aI w _;have k3:Kept Nil w w3:=k2.drew;have nI:w3.heap[w.heap.size]? =some (.cells r.1 ah (0,0)):=lT;clear_value w3;have N3:NP w3 w3 r none none none []:=⟨Kept.refl _ _,(fun b e=>by cases e),(fun b e=>by cases e),(fun b e=>by cases e)⟩;have ny:∀ {v:World},Kept Nil w3 v->∃cs:Array Value,(.agg r.1:Value)=.agg cs/\cs.size=32/\Cells v (⟨w.heap.size,0,none⟩:Addr) cs:=fun k=>⟨r.1,rfl,r.2.1,Cells.bI (k.heap nI (fun h=>h))⟩;have vX:∀ {v:World} {nb lb mb:Nat},NP w3 v r (some nb) (some lb) (some mb) [r]->K (.pointer (some ⟨v.heap.size,0,none⟩)) (v.alloc (.cells #[.slice (some ⟨lb,0,none⟩) 1 1,.map (some mb)] iw)):=fun h=>hK _ _ (h.fin k3.size) ((k3.tt h.kp).alloc _);refine⟨r.1,⟨r.2.1,Cells.bI nI⟩,?_⟩;have UL:∀b,prog.built dU [(0,.agg r.1)]=some (gm r (pD b)):=fun b=>GI r b;rw [UL 0];refine Is.mk rfl ?_;refine⟨r.1,⟨r.2.1,Cells.bI nI⟩,?_⟩;refine⟨?_,?_⟩
 ·have N7:NP w3 (w3.alloc (.cells (gm r (pD w3.heap.size)) dU)) r (some w3.heap.size) none none []:=N3.addNode
  refine⟨ny N7.kp,?_,?_⟩
  ·have N8:=N7.qD
   have N9:=N8.DF;obtain⟨v,hr,Sd⟩:=N9.put;exact⟨ny N8.kp,ny N9.kp,v,hr,vX Sd⟩
  ·have Rm:=N7.DF
   refine⟨ny Rm.kp,?_,?_⟩
   ·have Mv:=Rm.qD
    obtain⟨v,hr,Rl⟩:=Mv.put;exact⟨ny Mv.kp,v,hr,vX Rl⟩
   ·obtain⟨v,hr,Sc⟩:=Rm.put
    exact⟨v,hr,vX Sc.qD⟩
 ·have KI:=N3.DF
  refine⟨ny KI.kp,ny KI.kp,?_,?_⟩
  ·have Oh:NP w3 ((w3.alloc (.map #[] 0)).alloc (.cells (gm r (pD (w3.alloc (.map #[] 0)).heap.size)) dU)) r (some (w3.alloc (.map #[] 0)).heap.size) none (some w3.heap.size) []:=KI.addNode
   refine⟨ny Oh.kp,?_,?_⟩
   ·have Og:=Oh.qD
    obtain⟨v,hr,Sa⟩:=Og.put;exact⟨ny Og.kp,v,hr,vX Sa⟩
   ·obtain⟨v,hr,Xq⟩:=Oh.put
    exact⟨v,hr,vX Xq.qD⟩
  ·obtain⟨v,hr,Rk⟩:=KI.put
   exact⟨v,hr,ny Rk.kp,vX Rk.addNode.qD⟩
end
section
variable{w w':World}{S S' F:Nat->Prop}{g bl c mb:Nat}{D:DG}{C:HT->List HT}{M:List NM}{K:Value->World->Prop}
end
section
variable{w w':World}{S S' F:Nat->Prop}{g bl c mb:Nat}{D:DG}{C:HT->List HT}{M:List NM}{K:Value->World->Prop}
end
theorem dG{w:World}{b:Nat}{z cs:Array Value}{t:TypeId}(h:w.heap[b]? =some (.cells z t (0,0)))(hz:z.size=cs.size):
 (∀j,j<cs.size->Wr w ((⟨b,0,none⟩:Addr).add j))/\(setCells w ⟨b,0,none⟩ cs.toList 0).heap[b]? =some (.cells cs t (0,0))/\Kept (· =b) w (setCells w ⟨b,0,none⟩ cs.toList 0):=by
 refine⟨fun j hj=>?_,?_,fi _ _ _ _⟩
 ·rw [br,Nat.zero_add]
  exact dY h (by omega)
 ·have h1:=kR cs.toList z w t 0 0 h (by simp;omega)
  rw [h1,vf (by simp [hz])]
def hx(i:Nat)(hi:i<256):HT:=⟨#[.int .u8 (i:Int),.int .u8 0,.int .u8 0,.int .u8 0,.int .u8 0,.int .u8 0,.int .u8 0,.int .u8 0,.int .u8 0,.int .u8 0,.int .u8 0,.int .u8 0,.int .u8 0,.int .u8 0,.int .u8 0,.int .u8 0,.int .u8 0,.int .u8 0,.int .u8 0,.int .u8 0,.int .u8 0,.int .u8 0,.int .u8 0,.int .u8 0,.int .u8 0,.int .u8 0,.int .u8 0,.int .u8 0,.int .u8 0,.int .u8 0,.int .u8 0,.int .u8 0],rfl,fun v hv=>by
 simp only [List.mem_cons,List.not_mem_nil,or_false]at hv;rcases hv with rfl|hv
 ·exact⟨i,rfl,by omega,by omega⟩
 ·exact⟨0,by simpa using hv,by omega,by omega⟩⟩
theorem tq{i j:Nat}{hi:i<256}{hj:j<256}(h:i≠j):hx i hi≠hx j hj:=fun e=>by
 have:=congrArg (fun a:HT=>a.1[0]?) e;simp [hx]at this;omega
section
variable{w w':World}{K:Value->World->Prop}
end
theorem HS.lay{w:World}{b:Nat}{l:List HT}{t:TypeId}(hb:w.heap[b]? =some (.cells (c9 l).toArray t (0,0))):HS w (some ⟨b,0,Option.none⟩) l.length l:=
 ⟨rfl,fun i x hi=>⟨_,rfl,aQ hb,fun j v hj=>by
   rw [br,br,Nat.zero_add,aD hb];simpa using lE hi hj⟩⟩
section
variable{r a b c:HT}(yS:r≠a)(wY:r≠b)(Ex:r≠c)(lI:a≠b)(EJ:a≠c)(Ca:b≠c)
abbrev kD(r a b c:HT):DG:= [⟨r,[]⟩,⟨a,[r]⟩,⟨b,[r]⟩,⟨c,dw [a,b]⟩]
include yS in
theorem k1:dF [⟨r,[]⟩] a [r]=0/\mY [⟨r,[]⟩] a [r]= [⟨r,[]⟩,⟨a,[r]⟩]:=by
 have h:dF [⟨r,[]⟩] a [r]=0:=by
  unfold dF;rw [if_neg (by simp [ids];exact fun e=>yS e.symm),uM,if_neg (by simp),if_neg (by simp [ids])]
 exact⟨h,by unfold mY;rw [if_pos h,uM];rfl⟩
include wY lI in
theorem k2:dF [⟨r,[]⟩,⟨a,[r]⟩] b [r]=0/\mY [⟨r,[]⟩,⟨a,[r]⟩] b [r]= [⟨r,[]⟩,⟨a,[r]⟩,⟨b,[r]⟩]:=by
 have h:dF [⟨r,[]⟩,⟨a,[r]⟩] b [r]=0:=by
  unfold dF;rw [if_neg (by simp [ids];exact⟨fun e=>wY e.symm,fun e=>lI e.symm⟩),uM,if_neg (by simp),if_neg (by simp [ids])]
 exact⟨h,by unfold mY;rw [if_pos h,uM];rfl⟩
include Ex lI EJ Ca in
theorem k3:dF [⟨r,[]⟩,⟨a,[r]⟩,⟨b,[r]⟩] c [a,b]=0/\mY [⟨r,[]⟩,⟨a,[r]⟩,⟨b,[r]⟩] c [a,b]=kD r a b c:=by
 have hl:(dw [a,b]).length=2:=qM (by simp [lI]);have h:dF [⟨r,[]⟩,⟨a,[r]⟩,⟨b,[r]⟩] c [a,b]=0:=by
  unfold dF;rw [if_neg (by simp [ids];exact⟨fun e=>Ex e.symm,fun e=>EJ e.symm,fun e=>Ca e.symm⟩),hl,if_neg (by simp),if_neg];rintro⟨p,hp,hn⟩;rw [dM]at hp;simp at hp;simp [ids]at hn;rcases hp with rfl|rfl
  ·exact hn.2.1 rfl
  ·exact hn.2.2 rfl
 exact⟨h,by unfold mY;rw [if_pos h];rfl⟩
end
section
variable{w w':World}{K:Value->World->Prop}
end
structure alD(w:World)(S F:Nat->Prop)(g:Nat)(FR:Nat->Prop)(r:Nat)(D:DG):Prop where
 G:DL w S F g D
 R:uJ w FR r D
 rS:¬S r
 rF:¬F r
 fS:∀k,FR k->¬S k
 low:∀k,FR k->k<w.heap.size
section
variable{w v w':World}{S F S2 F2 FR:Nat->Prop}{g r:Nat}{D D':DG}{K:Value->World->Prop}
theorem JP(h:HT):prog.built bS [(0,.agg h.1)]=some (h.1.push (.slice none 0 0)):=by
 have hs:=h.2.1;rw [nV EP,jc (off:=0) (size:=32) rfl (by simpa [Value.cells]using hs) (by simp)];simp only [Instr.fill,Option.some.injEq];apply Array.ext';unfold hU;simp [Value.cells,hs]
end
end Go.Proofs.YtfleamccglihoaaGreatDoor
