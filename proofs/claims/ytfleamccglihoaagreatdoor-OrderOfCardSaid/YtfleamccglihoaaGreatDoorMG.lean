import Derived.Test.YtfleamccglihoaaGreatDoorProg
import Derived.Shelf.SlSortCmp.NoneTotal
import Derived.Shelf.SlMaps.Clone
import Derived.Shelf.Spec.TrailingZeros
import Derived.Shelf.Strconv.Itoa0
import Derived.Shelf.Bits.Mul64
import Derived.Test.YtfleamccglihoaaGreatDoorMA
import Derived.Test.YtfleamccglihoaaGreatDoorMB
import Derived.Lib.BytesEntry
import Derived.Test.YtfleamccglihoaaGreatDoorMC
import Derived.LaidEql
open Go.IntKind (i64 u64)
set_option linter.unusedVariables false
namespace Go.Proofs
open Go.Shelf
def Tryz.qi:Go.Shelf.Ren:=⟨fun|6=>53|15=>98|14=>97|28=>135|29=>136|20=>127|21=>128|22=>129|23=>130|24=>131|25=>132|26=>133|27=>134|46=>152|47=>153|48=>154|49=>155|50=>156|57=>163|n=>n,fun|22=>33|24=>24|25=>106|3=>3|39=>150|0=>0|53=>182|55=>22|4=>4|46=>176|45=>175|50=>162|5=>5|9=>9|66=>204|70=>208|76=>215|77=>216|n=>n,fun|n=>n⟩
theorem Tryz.xD:Go.Proofs.SlLaysF0.n6 prog Tryz.qi:= {
 mixed:=by kernel_rfl
 f6:=⟨f53.name,by decide,func53.trans (congrArg some (by kernel_rfl))⟩
 f14:=⟨f97.name,by decide,func97.trans (congrArg some (by kernel_rfl))⟩
 f15:=func98.trans (congrArg some (by kernel_rfl))
 f20:=⟨f127.name,by decide,func127.trans (congrArg some (by kernel_rfl))⟩
 f21:=⟨f128.name,by decide,func128.trans (congrArg some (by kernel_rfl))⟩
 f22:=⟨Tryz.f129.name,by decide,func129.trans (congrArg some (by kernel_rfl))⟩
 f23:=⟨f130.name,by decide,func130.trans (congrArg some (by kernel_rfl))⟩
 f24:=⟨f131.name,by decide,func131.trans (congrArg some (by kernel_rfl))⟩
 f25:=⟨f132.name,by decide,func132.trans (congrArg some (by kernel_rfl))⟩
 f26:=⟨f133.name,by decide,func133.trans (congrArg some (by kernel_rfl))⟩
 f27:=⟨f134.name,by decide,func134.trans (congrArg some (by kernel_rfl))⟩
 f28:=func135.trans (congrArg some (by kernel_rfl))
 f29:=func136.trans (congrArg some (by kernel_rfl))
 f46:=⟨f152.name,by decide,func152.trans (congrArg some (by kernel_rfl))⟩
 f47:=func153.trans (congrArg some (by kernel_rfl))
 f48:=func154.trans (congrArg some (by kernel_rfl))
 f49:=⟨f155.name,by decide,func155.trans (congrArg some (by kernel_rfl))⟩
 f50:=⟨f156.name,by decide,func156.trans (congrArg some (by kernel_rfl))⟩
 f57:=⟨f163.name,by decide,func163.trans (congrArg some (by kernel_rfl))⟩
 t0:=underlying0
 a0:=isAgg0
 z0:=sizeOf0
 v0:=zeroValue0
 t3:=underlying3
 a3:=isAgg3
 z3:=sizeOf3
 v3:=zeroValue3
 t4:=underlying4
 a4:=isAgg4
 z4:=sizeOf4
 v4:=zeroValue4
 t5:=underlying5
 a5:=isAgg5
 z5:=sizeOf5
 v5:=zeroValue5
 t9:=underlying9
 a9:=isAgg9
 z9:=sizeOf9
 v9:=zeroValue9
 t22:=underlying33
 a22:=isAgg33
 z22:=sizeOf33
 v22:=zeroValue33
 t25:=underlying106
 a25:=isAgg106
 z25:=sizeOf106
 v25:=zeroValue106
 t39:=underlying150
 a39:=isAgg150
 z39:=sizeOf150
 v39:=zeroValue150
 t45:=underlying175
 a45:=isAgg175
 z45:=sizeOf175
 v45:=zeroValue175
 t46:=underlying176
 a46:=isAgg176
 z46:=sizeOf176
 v46:=zeroValue176
 t50:=underlying162
 a50:=isAgg162
 z50:=sizeOf162
 v50:=zeroValue162
 t53:=underlying182
 a53:=isAgg182
 z53:=sizeOf182
 v53:=zeroValue182
 t55:=underlying22
 a55:=isAgg22
 z55:=sizeOf22
 v55:=zeroValue22
 t66:=underlying204
 a66:=isAgg204
 z66:=sizeOf204
 v66:=zeroValue204
 t70:=underlying208
 a70:=isAgg208
 z70:=sizeOf208
 v70:=zeroValue208
 t76:=underlying215
 a76:=isAgg215
 z76:=sizeOf215
 v76:=zeroValue215
 t77:=underlying216
 a77:=isAgg216
 z77:=sizeOf216
 v77:=zeroValue216}
def Tryz.jV:Go.Shelf.Ren:=⟨fun|29=>159|n=>n,fun|22=>22|3=>3|4=>4|25=>150|54=>218|0=>0|5=>5|n=>n,fun|1=>1|n=>n⟩
theorem Tryz.tzL:Go.Proofs.Lays7.n29 prog Tryz.jV:= {
 mixed:=by kernel_rfl
 f29:=func159.trans (congrArg some (by kernel_rfl))
 t0:=underlying0
 a0:=isAgg0
 z0:=sizeOf0
 v0:=zeroValue0
 i0:=by kernel_rfl
 t3:=underlying3
 a3:=isAgg3
 z3:=sizeOf3
 v3:=zeroValue3
 i3:=by kernel_rfl
 t4:=underlying4
 a4:=isAgg4
 z4:=sizeOf4
 v4:=zeroValue4
 i4:=by kernel_rfl
 t5:=underlying5
 a5:=isAgg5
 z5:=sizeOf5
 v5:=zeroValue5
 i5:=by kernel_rfl
 t22:=underlying22
 a22:=isAgg22
 z22:=sizeOf22
 v22:=zeroValue22
 i22:=by kernel_rfl
 t25:=underlying150
 a25:=isAgg150
 z25:=sizeOf150
 v25:=zeroValue150
 i25:=by kernel_rfl
 t54:=underlying218
 a54:=isAgg218
 z54:=sizeOf218
 g1:=by kernel_rfl}
def Tryz.AH:Go.Shelf.Ren:=⟨fun|129=>136|n=>n,fun|53=>22|3=>3|4=>4|46=>150|5=>5|9=>9|n=>n,fun|n=>n⟩
theorem Tryz.Ld:Go.Proofs.Lays.n129 prog Tryz.AH:= {
 mixed:=by kernel_rfl
 f129:=func136.trans (congrArg some (by kernel_rfl))
 t3:=underlying3
 a3:=isAgg3
 z3:=sizeOf3
 v3:=zeroValue3
 t4:=underlying4
 a4:=isAgg4
 z4:=sizeOf4
 v4:=zeroValue4
 t5:=underlying5
 a5:=isAgg5
 z5:=sizeOf5
 v5:=zeroValue5
 t9:=underlying9
 a9:=isAgg9
 z9:=sizeOf9
 v9:=zeroValue9
 t46:=underlying150
 a46:=isAgg150
 z46:=sizeOf150
 v46:=zeroValue150
 t53:=underlying22
 a53:=isAgg22
 z53:=sizeOf22
 v53:=zeroValue22}
def Tryz.AG:Go.Shelf.Ren:=⟨fun|264=>161|n=>n,fun|53=>22|46=>150|n=>n,fun|n=>n⟩
theorem Tryz.Lc:Go.Proofs.Lays.n264 prog Tryz.AG:= {
 mixed:=by kernel_rfl
 f264:=func161.trans (congrArg some (by kernel_rfl))
 t46:=underlying150
 a46:=isAgg150
 z46:=sizeOf150
 v46:=zeroValue150
 t53:=underlying22
 a53:=isAgg22
 z53:=sizeOf22
 v53:=zeroValue22}
end Go.Proofs
namespace Go.bW
open Go.RowKit
theorem jz.mono{P:Program}{l:Nat}{args:Array Value}{w:World}{R R':Bool->World->Prop}(h:jz P l args w R)(hr:∀b w',R b w'->R' b w'):jz P l args w R':=by
 obtain⟨g,tmps,assign,body,h1,h2⟩:=h;exact⟨g,tmps,assign,body,h1,fun r m=>RoundIn.mono (h2 r m) fun e w' ⟨b,he,hb⟩=>⟨b,he,hr _ _ hb⟩⟩
def im(xs:List Value)(k:Nat)(vs:List Value):List Value:=xs.take k++vs++xs.drop (k+vs.length)
theorem qR(xs:List Value)(k:Nat):im xs k []=xs:=by simp [im]
theorem pw{xs:List Value}{k:Nat}(hk:k<xs.length)(v:Value)(vs:List Value):im xs k (v::vs)=im (xs.set k v) (k+1) vs:=by
 unfold im;rw [List.take_add_one,List.take_set_of_le (Nat.le_refl k),List.getElem?_set_self hk,List.drop_set];rw [if_pos (by omega),List.length_cons,show k+(vs.length+1)=k+1+vs.length by omega];simp
theorem mv{xs:List Value}{k:Nat}{vs:List Value}(h:k+vs.length<=xs.length):(im xs k vs).length=xs.length:=by
 unfold im;simp;omega
theorem u7{xs vs:List Value}(h:vs.length=xs.length):im xs 0 vs=vs:=by
 unfold im;simp [h]
section
variable{w:World}{B:Nat}{e:TypeId}{size n c b:Nat}
theorem rJ:∀(vs:List Value) (xs:List Value) (w:World) (o i:Nat),Row w B e size (some ⟨b,0,none⟩) n c xs->o+i+vs.length<=xs.length->
 Row (setCells w ⟨b,o,none⟩ vs i) B e size (some ⟨b,0,none⟩) n c (im xs (o+i) vs)
 | [],xs,w,o,i,h,_=>by rw [qR];exact h
 |v::vs,xs,w,o,i,h,hl=>by
  rw [List.length_cons]at hl;rw [pw (by omega)];simp only [setCells];rw [bt];have h1:=Row.set h (j:=o+i) (by omega) v;have:=rJ vs (xs.set (o+i) v) _ o (i+1) h1 (by rw [List.length_set];omega)
  rwa [show o+(i+1)=o+i+1 by omega]at this
theorem fp:∀(vs:List Value) (w:World) (o i:Nat),Kept (· =b) w (setCells w ⟨b,o,none⟩ vs i)
 | [],w,o,i=>Kept.refl _ _
 |v::vs,w,o,i=>by
  simp only [setCells];rw [bt];exact(Kept.setCell (S:=fun k=>k=b) (Kept.refl _ w) (p:=⟨b,o+i,none⟩) (fun _=>rfl) v).tt (fp vs _ o (i+1))
theorem kZ:∀(vs:List Value) (cur:Array Value) (w:World) (t:TypeId) (o i:Nat),w.heap[b]? =some (.cells cur t (0,0))->o+i+vs.length<=cur.size->
 (setCells w ⟨b,o,none⟩ vs i).heap[b]? =some (.cells (im cur.toList (o+i) vs).toArray t (0,0))
 | [],cur,w,t,o,i,h,_=>by rw [qR];simpa [setCells]using h
 |v::vs,cur,w,t,o,i,h,hl=>by
  rw [List.length_cons]at hl;rw [pw (by simp;omega)];simp only [setCells];rw [bt];have h1:=cV h (o+i) v;have:=kZ vs _ _ t o (i+1) h1 (by simp;omega);rw [show o+(i+1)=o+i+1 by omega]at this;rw [this];simp
theorem iy{z cs:Array Value}{t:TypeId}(hz:z.size=cs.size):
 (∀j,j<cs.size->Wr (w.alloc (.cells z t)) ((aP w.heap.size).add j))/\
 (setCells (w.alloc (.cells z t)) ⟨w.heap.size,0,none⟩ cs.toList 0).heap[w.heap.size]? =some (.cells cs t (0,0))/\
 Kept Nil w (setCells (w.alloc (.cells z t)) ⟨w.heap.size,0,none⟩ cs.toList 0):=by
 refine⟨fun j hj=>?_,?_,?_⟩
 ·rw [bt,Nat.zero_add]
  exact dm (aH w _) (by omega)
 ·have h:=kZ cs.toList z (w.alloc (.cells z t)) t 0 0 (aH w _) (by simp;omega)
  rw [h,u7 (by simp [hz])]
 ·exact((Kept.refl Nil w).alloc _).trans (fp cs.toList _ 0 0) (fun k hk e=>absurd hk (by omega))
end
end Go.bW
namespace Go.bW
theorem EK:∀(vs:List Value) (off k:Nat) (cells:Array Value),off+k+vs.length<=cells.size->
 ((vs.zipIdx k).foldl (fun(cs:Array Value) (p:Value×Nat)=>cs.setIfInBounds (off+p.2) p.1) cells)=(im cells.toList (off+k) vs).toArray
 | [],off,k,cells,_=>by rw [qR];simp
 |v::vs,off,k,cells,h=>by
  rw [List.length_cons]at h;rw [pw (by simp;omega),List.zipIdx_cons,List.foldl_cons];have:=EK vs off (k+1) (cells.setIfInBounds (off+k) v) (by simp;omega);rw [this,Array.toList_setIfInBounds];rfl
theorem jh{place:Nat->Option (Nat×Nat)}{cells:Array Value}{i off size:Nat}{v:Value}{rest:List (Nat×Value)}(hp:place i=some (off,size))(hs:v.cells.size=size)(hle:off+size<=cells.size):
 Instr.fill place cells ((i,v)::rest)=Instr.fill place (im cells.toList off v.cells.toList).toArray rest:=by
 rw [Instr.fill,hp];simp only;rw [if_neg (by simp;omega)]
 congr 1
 have h:=EK v.cells.toList off 0 cells (by simp;omega);rw [Nat.add_zero]at h;rw [<-h,<-Array.foldl_toList,Array.toList_zipIdx]
def Sy(P:Program)(t:TypeId):Option (List (Nat×Nat)×List Value):=
 match P.info? t,P.underlying t with
 |some it,some (.struct fields)=>
  match it.zero,fields.toList.mapM (fun f=>(P.info? f.type).map fun i=>(f.offset,i.size))with
  |some z,some places=>some (places,z.cells.toList)
  |_,_=>none
 |_,_=>none
theorem nW{P:Program}{t:TypeId}{pl:List (Nat×Nat)}{z:List Value}(h:Sy P t=some (pl,z))(parts:List (Nat×Value)):
 P.built t parts=Instr.fill (pl.toArray[·]?) z.toArray parts:=by
 unfold Sy at h;split at h
 ·rename_i it fields h1 h2
  split at h
  ·rename_i z' pl' h3 h4
   simp only [Option.some.injEq,Prod.mk.injEq]at h;obtain⟨rfl,rfl⟩:=h;unfold Program.built;rw [h1,h2];simp only [h3,h4]
  ·cases h
 ·cases h
theorem yf{ρ:Env}{k i:Nat}(v:Value)(h:i≠k):find (ρ++ [(k,v)]) i=find ρ i:=by
 induction ρ with
 |nil=>
  simp only [List.nil_append,find];cases hb:Nat.beq k i
  ·rfl
  ·exact absurd (Nat.eq_of_beq_eq_true hb).symm h
 |cons p ρ ih=>
  obtain⟨j,u⟩:=p;simp only [List.cons_append,find];cases Nat.beq j i
  ·exact ih
  ·rfl
theorem wo{ρ:Env}{k:Nat}(v:Value)(h:find ρ k=none):find (ρ++ [(k,v)]) k=some v:=by
 induction ρ with
 |nil=>simp [find]
 |cons p ρ ih=>
  obtain⟨j,u⟩:=p;simp only [List.cons_append,find]at*;cases hb:Nat.beq j k
  ·rw [hb]at h
   exact ih h
  ·rw [hb]at h
   cases h
theorem Holds.TF{r:Option Nat}{ds:List Deferred}{P:Program}{n:Nat}{c:Code}{Q:aO}{ρ:Env}{w:World}(hd:find ρ gm=none)(h:Holds r ds P n c Q (ρ++ [(gm,.agg #[])]) w):Holds r ds P n c Q ρ w:=fun a hs=>h a ⟨hs.size,by
 have:=hs.defers;unfold marks at*;rw [wo _ hd];rw [hd]at this;exact this,fun i v hi hv=>hs.yp i v hi (by rw [<-hv,yf _ hi])⟩
def gS:List Nat->Array Value
 | []=> #[]
 |D::l=> #[.pointer (some ⟨D,0,none⟩)]++gS l
theorem lA:∀l,marksOf (.agg (gS l))=l
 | []=>rfl
 |D::l=>by
  have ih:=lA l;simp only [gS,marksOf]at*;simp [ih]
theorem kr:∀(l:List Nat) (w:World),l.Nodup->(∀D∈l,w.heap[D]? =some (.deferred (some [])))->jZ l w
 | [],_,_,_=>trivial
 |D::l,w,hn,h=>by
  rw [List.nodup_cons]at hn;refine⟨h D (by simp),kr l _ hn.2 fun E hE=>?_⟩;have fM:D≠E:=fun e=>hn.1 (by rw [e];exact hE);exact(World.putObj_heap_other fM.symm).trans (h E (by simp [hE]))
theorem iT:∀(l:List Nat) (w:World),Kept (· ∈l) w (fL l w)
 | [],w=>Kept.refl _ w
 |D::l,w=>((Kept.putAt w D (.deferred none)).mono (S':=fun k=>k∈D::l) (fun k _ e=>by subst e;simp)).trans (iT l _) (fun k _ h=>by simp [h])
open Go.RowKit
def yo{α:Type}(P:Program)(gf:FuncId)(first gL:Array Value)(xs:List α)(E:α->List Value->World->Prop)(DC:World->Prop):Prop:=
 ∀(l:Nat) (I:Nat->(Nat->Prop)->World->Prop) (D:World->Prop) (w0:World),
  (∀i Pr MI w' jn,I i Pr w'->Kept Nil w' jn->(∀j,MI j->Pr j\/(w'.heap.size<=j/\j<jn.heap.size))->I i MI jn)->
  (∀w' jn,D w'->Kept Nil w' jn->D jn)->
  (∀i Pr w',I i Pr w'->DC w')->I 0 Nil w0->
  (∀i x vs Pr w',xs[i]? =some x->E x vs w'->I i Pr w'->jz P l vs.toArray w' fun b jn=>(b=true->I (i+1) Pr jn/\Kept (fun j=>¬Pr j) w' jn)/\(b=false->D jn))->
  bC P gf (first++ #[.func (.yield l) #[] #[]]++gL) w0 fun _ w'=>(∃Pr,I xs.length Pr w')\/D w'
section
variable{P:Program}{n:Nat}
theorem tK(mI:NG P)(mn:P.follows .mixedOrders=true)(C:List Nat){t:Nat}{ps:Array Tmp}{path:Code}{Q:aO}{ρ:Env}{w:World}{gf:FuncId}{first gL:Array Value}{fn:Func}
 (I8:path=.rangeFunc (.tmp t) ps (rA path) (rB path)) (ht:t≠gm) (hf:find ρ t=some (.func (.func gf) first gL)) (Ha:P.funcs[gf]? =some fn) (hb:fn.body.isSome) (hm:yK ρ)
 {ρ0:Env} (hρ:∀i v,i≠gm->find ρ0 i=some v->find ρ i=some v) (Sp:find ρ0 gm=none)
 {α:Type} (xs:List α) (E:α->List Value->World->Prop) (QR:∀x vs w,E x vs w->vs.length=ps.size) (qN:∀t∈ps.toList,t<n/\t≠gm)
 {DC:World->Prop} (hit:yo P gf first gL xs E DC)
 (J:Nat->(Nat->Prop)->World->Prop) (Jd:Code->World->Prop)
 (hJ:∀i Pr MI w' jn R,Live (w.heap.size+1) w.heap.size R w'->J i Pr w'->Kept (· =w.heap.size+1) w' jn->(∀j,MI j->Pr j\/(w'.heap.size<=j/\j<jn.heap.size))->J i MI jn)
 (Jz:∀e w' jn R,Live (w.heap.size+1) w.heap.size R w'->Jd e w'->Kept (· =w.heap.size+1) w' jn->Jd e jn)
 (oG:∀i Pr w',J i Pr w'->DC w')
 (h0:∀R,J 0 Nil ((w.alloc (.deferred (some []))).alloc (.loop R)))
 (Bi:∀i x vs Pr w' R,xs[i]? =some x->E x vs w'->J i Pr w'->Live (w.heap.size+1) w.heap.size R w'->(∀j,Pr j->w.heap.size+1<j/\j<w'.heap.size)->
   aW (some (w.heap.size+1)) [] P n C (rA path) (ck (rB path)) (fun e MK w1=>match e with
    | .normal=>Live (w.heap.size+1) w.heap.size R w1/\∀w2 R2,Kept (· =w.heap.size+1) w1 w2->Live (w.heap.size+1) w.heap.size R2 w2->aW (some (w.heap.size+1)) [] P n C (rB path) [] (Xz (w.heap.size+1) w.heap.size R2 (fun u=>J (i+1) Pr u/\Kept (fun j=>¬Pr j) w' u) Jd) MK w2
    |_=>False) (kl ρ0 (ps.toList.zip vs)) w')
 (Gr:∀Pr w' R,J xs.length Pr w'->Live (w.heap.size+1) w.heap.size R w'->Q .normal (fY ρ w.heap.size) w')
 (CP:∀w' R,Jd .ret w'->Live (w.heap.size+1) w.heap.size R w'->Q .ret (fY ρ w.heap.size) w')
 (r9:∀id w' R,Jd (.exit id) w'->Live (w.heap.size+1) w.heap.size R w'->Q (.exit id) (fY ρ w.heap.size) w'):
 Holds none [] P n path Q ρ w:=by
 rw [I8];have fM:w.heap.size≠w.heap.size+1:=by omega
 refine vp mI ht hf Ha hb hm fun Br tmps Yw IM R hR=>?_;have CW:Live (w.heap.size+1) w.heap.size R ((w.alloc (.deferred (some []))).alloc (.loop R)):=by
  have h1:=aH (w.alloc (.deferred (some []))) (.loop R);simp only [World.alloc,Array.size_push]at h1⊢;exact⟨h1,iI (aH w _) _⟩
 have hRR:({R with state:=.ready,pending:=none}:Loop)=R:=by rw [hR]
 have Jc:∀ {w' jn},Kept Nil w' jn->Kept (· =w.heap.size+1) w' jn:=fun h=>h.mono fun _ _ h=>h.elim;have x6:=hit (w.heap.size+1) (fun i Pr w'=>Live (w.heap.size+1) w.heap.size R w'/\J i Pr w'/\∀j,Pr j->w.heap.size+1<j/\j<w'.heap.size)
  (fun w'=>∃e,(e=.ret\/∃id,e=.exit id)/\Live (w.heap.size+1) w.heap.size {R with state:=.done,pending:=some e} w'/\Jd e w')
  ((w.alloc (.deferred (some []))).alloc (.loop R))
  (fun i Pr MI w' jn h k hp=>⟨h.1.aF k (fun h=>h) (fun h=>h),hJ i Pr MI w' jn R h.1 h.2.1 (Jc k) hp,fun j hj=>by
    have hl:=aU h.1.loop;have hs:=k.size;rcases hp j hj with e|e
    ·have:=h.2.2 j e;omega
    ·omega⟩)
  (fun w' jn h k=>by
    obtain⟨e,he,hl,hd⟩:=h;exact⟨e,he,hl.aF k (fun h=>h) (fun h=>h),Jz e w' jn _ hl hd (Jc k)⟩)
  (fun i Pr w' h=>oG i Pr w' h.2.1) ⟨CW,h0 R,fun j hj=>hj.elim⟩
  (fun i a vs Pr w' ha hE h=>by
    obtain⟨hl,hj,LN⟩:=h;refine tB (n:=n) (ρ0:=ρ0) hl.loop (by rw [hR]) (by rw [hR];exact Yw) (fun i v hi hv=>by rw [hR];exact IM i v hi (hρ i v hi hv)) Sp (by rw [QR a vs w' hE,hR]) (by rw [hR];exact qN) ?_;have Js:=Bi i a vs Pr w' R ha hE hj hl LN;rw [<-show R.params=ps by rw [hR],<-show R.assign=rA path by rw [hR],<-show R.body=rB path by rw [hR]]at Js;refine Holds.mono (fJ mI mn _ _ _ _ _ Js) ?_;rintro e MK w1 h1;cases e with
    |normal=>
     obtain⟨uN,h1⟩:=h1;refine⟨uN.loop,?_⟩;have qz:=uN.put fM {R with state:=.busy};refine Holds.mono (fJ mI mn _ _ _ _ _ (h1 _ _ (Kept.putAt _ _ _) qz)) ?_;rintro e2 ρ2 w2 h2;cases e2 with
     |normal=>
      have LZ:=h2.1.put fM {R with state:=.ready,pending:=none};have hrr:Live (w.heap.size+1) w.heap.size R (w2.putObj (w.heap.size+1) (.loop {R with state:=.ready,pending:=none})):=by
       rw [hRR]at LZ⊢;exact LZ
      have Po:=Kept.putAt w2 (w.heap.size+1) (.loop {R with state:=.ready,pending:=none});have ml:=h2.2.2.size;have qN:=Po.size;refine⟨_,h2.1.loop,fun _=>⟨⟨hrr,hJ _ Pr Pr _ _ _ h2.1 h2.2.1 Po (fun j hj=>.inl hj),fun j hj=>?_⟩,h2.2.2.trans Po (fun j _ e hn=>?_)⟩,fun h=>by cases h⟩
      ·have:=LN j hj;omega
      ·have:=LN j hn;omega
     |ret=>
      refine⟨_,h2.1.loop,(fun h=>by cases h),fun _=>⟨.ret,.inl rfl,h2.1.put fM _,Jz _ _ _ _ h2.1 h2.2 (Kept.putAt _ _ _)⟩⟩
     |exit id=>
      refine⟨_,h2.1.loop,(fun h=>by cases h),fun _=>⟨.exit id,.inr ⟨id,rfl⟩,h2.1.put fM _,Jz _ _ _ _ h2.1 h2.2 (Kept.putAt _ _ _)⟩⟩
     |_=>exact h2.elim
    |_=>exact h1.elim)
 refine Calls.mono x6 ?_;rintro e w2 ⟨v,rfl,h⟩;refine⟨v,rfl,?_⟩;rcases h with⟨Pr,hl,hj,_⟩|⟨e,he,hl,hj⟩
 ·refine⟨R.state,R.pending,hl.loop,by rw [hR];simp,?_⟩
  have hp:R.pending=none:=by rw [hR]
  rw [hp];have k:Kept (· =w.heap.size+1) w2 (w2.putObj (w.heap.size+1) (.loop {R with state:=.exhausted,pending:=none})):=Kept.putAt _ _ _;exact Gr Pr _ _ (hJ _ Pr Pr _ _ _ hl hj k (fun j hj=>.inl hj)) (hl.put fM _)
 ·refine⟨.done,some e,hl.loop,by simp,?_⟩
  have k:Kept (· =w.heap.size+1) w2 (w2.putObj (w.heap.size+1) (.loop {R with state:=.exhausted,pending:=some e})):=Kept.putAt _ _ _;rcases he with rfl|⟨id,rfl⟩
  ·exact CP _ _ (Jz _ _ _ _ hl hj k) (hl.put fM _)
  ·exact r9 id _ _ (Jz _ _ _ _ hl hj k) (hl.put fM _)
end
end Go.bW
namespace Go.Proofs.YtfleamccglihoaaGreatDoor
open Go.Proofs.Tryz
open Go Go.bW Go.RowKit
def RW(cs:Array Value):Prop:=cs.size=32/\∀v∈cs.toList,∃i:Int,v=.int .u8 i/\0<=i/\i<256
abbrev HT:= {cs:Array Value//RW cs}
def key(h:HT):List Int:=h.1.toList.map mu
theorem RW.ints{cs:Array Value}(h:RW cs):dJ .u8 32 cs:=⟨h.1,fun v hv=>let ⟨i,e,_⟩:=h.2 v hv;⟨i,e⟩⟩
theorem AU:∀ {a b:List Value},(∀v∈a,∃i:Int,v=.int .u8 i)->(∀v∈b,∃i:Int,v=.int .u8 i)->a.map mu=b.map mu->a=b
 | [],[],_,_,_=>rfl
 | [],_::_,_,_,h=>by simp at h
 |_::_,[],_,_,h=>by simp at h
 |x::a,y::b,ha,hb,h=>by
  obtain⟨i,rfl⟩:=ha x (by simp);obtain⟨j,rfl⟩:=hb y (by simp);simp only [List.map_cons,List.cons.injEq,mu]at h;rw [h.1,AU (fun v hv=>ha v (by simp [hv])) (fun v hv=>hb v (by simp [hv])) h.2]
theorem key_inj{a b:HT}(h:key a=key b):a=b:=by
 apply Subtype.ext;apply Array.ext';exact AU (fun v hv=>a.2.ints.2 v hv) (fun v hv=>b.2.ints.2 v hv) h
instance:DecidableEq HT:=fun a b=>if h:key a=key b then isTrue (key_inj h)else isFalse fun e=>h (by rw [e])
theorem dF(a b:HT):eU a.1 b.1=decide (a=b):=by
 unfold eU;by_cases e:a=b
 ·subst e;simp
 ·rw [decide_eq_false e]
  have:¬(key a=key b):=fun h=>e (key_inj h);simpa [key]using this
theorem RW.one{cs:Array Value}(h:RW cs):∀v∈cs.toList,v.oneCell'=true:=fun v hv=>by
 obtain⟨i,rfl,_⟩:=h.2 v hv;rfl
def uK:List Int->List Int->Bool
 | [],[]=>false
 | [],_::_=>true
 |_::_,[]=>false
 |x::a,y::b=>if x<y then true else if y<x then false else uK a b
def cY(a b:HT):Bool:=uK (key a) (key b)
theorem vI:∀a,uK a a=false
 | []=>rfl
 |x::a=>by simp [uK,vI a]
theorem xK:∀ {a b c},uK a b=true->uK b c=true->uK a c=true
 | [],[],_,h,_=>by simp [uK]at h
 | [],_::_,[],_,h=>by simp [uK]at h
 | [],_::_,_::_,_,_=>rfl
 |_::_,[],_,h,_=>by simp [uK]at h
 |_::_,_::_,[],_,h=>by simp [uK]at h
 |x::a,y::b,z::c,h,h'=>by
  simp only [uK]at*;by_cases h1:x<y
  ·by_cases h2:y<z
   ·rw [if_pos (by omega)]
   ·rw [if_neg h2]at h'
    by_cases h3:z<y
    ·rw [if_pos h3]at h';cases h'
    ·rw [if_pos (by omega)]
  ·rw [if_neg h1]at h
   by_cases h2:y<x
   ·rw [if_pos h2]at h;cases h
   ·rw [if_neg h2]at h
    by_cases h3:y<z
    ·rw [if_pos (by omega)]
    ·rw [if_neg h3]at h'
     by_cases h4:z<y
     ·rw [if_pos h4]at h';cases h'
     ·rw [if_neg h4]at h'
      rw [if_neg (by omega),if_neg (by omega)];exact xK h h'
theorem xL:∀ {a b},a.length=b.length->uK a b=false->uK b a=false->a=b
 | [],[],_,_,_=>rfl
 | [],_::_,h,_,_=>by simp at h
 |_::_,[],h,_,_=>by simp at h
 |x::a,y::b,hl,h,h'=>by
  simp only [uK]at*;by_cases h1:x<y
  ·rw [if_pos h1]at h;cases h
  ·rw [if_neg h1]at h
   by_cases h2:y<x
   ·rw [if_pos h2]at h';cases h'
   ·rw [if_neg h2]at h h'
    rw [if_neg h1]at h';have:x=y:=by omega
    rw [this,xL (by simpa using hl) h h']
theorem mZ(a:HT):(key a).length=32:=by have:=a.2.1;simpa [key]using this
theorem qq{a b:HT}(h:cY a b=false)(h':cY b a=false):a=b:=key_inj (xL (by rw [mZ,mZ]) h h')
theorem kM{a b c:HT}(h:cY a b=true)(h':cY b c=true):cY a c=true:=xK h h'
theorem iD(a:HT):cY a a=false:=vI _
theorem tk{a b:HT}(h:cY a b=true):cY b a=false:=by
 cases h':cY b a
 ·rfl
 ·have:=kM h h';rw [iD]at this;cases this
end Go.Proofs.YtfleamccglihoaaGreatDoor
namespace Go.Proofs.YtfleamccglihoaaGreatDoor
open Go.Proofs.Tryz
open Go Go.bW
def SS(l:List HT):Prop:=l.Pairwise fun a b=>cY a b=true
theorem SS.nodup{l:List HT}(h:SS l):l.Nodup:=List.Pairwise.imp (fun {a b} jT e=>by subst e;rw [iD]at jT;cases jT) h
theorem SS.cons{x:HT}{l:List HT}:SS (x::l)↔(∀y∈l,cY x y=true)/\SS l:=List.pairwise_cons
theorem zr:∀ {l m:List HT},SS l->SS m->(∀x,x∈l↔x∈m)->l=m
 | [],[],_,_,_=>rfl
 | [],y::m,_,_,h=>by have:=(h y).2 (by simp);simp at this
 |x::l,[],_,_,h=>by have:=(h x).1 (by simp);simp at this
 |x::l,y::m,hl,hm,h=>by
  rw [SS.cons]at hl hm;have oY:x=y:=by
   have h1:=(h x).1 (by simp);have h2:=(h y).2 (by simp);rcases List.mem_cons.1 h1 with h1|h1
   ·exact h1
   ·rcases List.mem_cons.1 h2 with h2|h2
    ·exact h2.symm
    ·have a:=hl.1 _ h2
     have b:=hm.1 _ h1;rw [tk a]at b;cases b
  subst oY
  congr 1
  refine zr hl.2 hm.2 fun z=>?_;have hz:=h z;constructor
  ·intro hzl
   rcases List.mem_cons.1 (hz.1 (by simp [hzl]))with e|e
   ·subst e;have:=hl.1 _ hzl;rw [iD]at this;cases this
   ·exact e
  ·intro hzm
   rcases List.mem_cons.1 (hz.2 (by simp [hzm]))with e|e
   ·subst e;have:=hm.1 _ hzm;rw [iD]at this;cases this
   ·exact e
def ins(x:HT):List HT->List HT
 | []=> [x]
 |y::l=>if cY x y then x::y::l else if x=y then y::l else y::ins x l
theorem yJ(x z:HT):∀l,z∈ins x l↔z=x\/z∈l
 | []=>by simp [ins]
 |y::l=>by
  unfold ins;split
  ·simp
  ·split
   ·rename_i e;subst e;simp
   ·simp only [List.mem_cons,yJ x z l]
    constructor
    ·rintro(h|h|h)<;>simp [h]
    ·rintro(h|h|h)<;>simp [h]
theorem Kj(x:HT):∀ {l:List HT},SS l->SS (ins x l)
 | [],_=>by simp [ins,SS]
 |y::l,h=>by
  have h':=SS.cons.1 h;unfold ins;split
  ·rename_i oY
   refine SS.cons.2 ⟨fun z hz=>?_,h⟩;rcases List.mem_cons.1 hz with rfl|hz
   ·exact oY
   ·exact kM oY (h'.1 _ hz)
  ·split
   ·exact h
   ·rename_i h1 h2
    refine SS.cons.2 ⟨fun z hz=>?_,Kj x h'.2⟩;rcases(yJ x z l).1 hz with rfl|hz
    ·cases RX:cY y z
     ·exact absurd (qq RX (by simpa using h1)).symm h2
     ·rfl
    ·exact h'.1 _ hz
def dD(l:List HT):List HT:=l.foldr ins []
theorem dV{z:HT}:∀ {l:List HT},z∈dD l↔z∈l
 | []=>by simp [dD]
 |x::l=>by
  have:= @dV z l;simp only [dD,List.foldr_cons,yJ,List.mem_cons]at this⊢;rw [this]
theorem jl:∀l:List HT,SS (dD l)
 | []=>List.Pairwise.nil
 |x::l=>Kj x (jl l)
theorem DP{l m:List HT}(h:∀x,x∈l↔x∈m):dD l=dD m:=zr (jl l) (jl m) fun x=>by rw [dV,dV,h]
theorem yv{l m:List HT}(hs:SS l)(h:∀x,x∈l↔x∈m):l=dD m:=zr hs (jl m) fun x=>by rw [dV,h]
theorem En(x:HT):∀l,(ins x l).length<=l.length+1
 | []=>by simp [ins]
 |y::l=>by
  have:=En x l;unfold ins;split
  ·simp
  ·split<;>simp<;>omega
theorem qh:∀l:List HT,(dD l).length<=l.length
 | []=>by simp [dD]
 |x::l=>by
  have h1:=En x (dD l);have h2:=qh l;simp only [dD,List.foldr_cons,List.length_cons]at*;omega
theorem rf{x:HT}:∀ {l:List HT},x∉l->(ins x l).length=l.length+1
 | [],_=>by simp [ins]
 |y::l,h=>by
  simp only [List.mem_cons,not_or]at h;have:=rf h.2;unfold ins;split
  ·simp
  ·rw [if_neg h.1];simp;omega
theorem qH:∀ {l:List HT},l.Nodup->(dD l).length=l.length
 | [],_=>by simp [dD]
 |x::l,h=>by
  rw [List.nodup_cons]at h;have h2:=qH h.2;have:=rf (l:=dD l) (x:=x) (fun hm=>h.1 (dV.1 hm));simp only [dD,List.foldr_cons,List.length_cons]at*;omega
theorem tR{x:HT}:∀ {l:List HT},SS l->x∈l->(ins x l).length=l.length
 | [],_,h=>by simp at h
 |y::l,hs,h=>by
  have h':=SS.cons.1 hs;unfold ins;split
  ·rename_i oY
   rcases List.mem_cons.1 h with rfl|h
   ·rw [iD]at oY;cases oY
   ·have:=h'.1 _ h;rw [tk oY]at this;cases this
  ·split
   ·rfl
   ·rename_i h1 h2
    rcases List.mem_cons.1 h with rfl|h
    ·exact absurd rfl h2
    ·simp [tR h'.2 h]
theorem rU:∀ {l:List HT},(dD l).length=l.length->l.Nodup
 | [],_=>List.Pairwise.nil
 |x::l,h=>by
  have h2:=qh l;by_cases hm:x∈l
  ·have:=tR (jl l) (dV.2 hm)
   simp only [dD,List.foldr_cons,List.length_cons]at*;omega
  ·have h3:=rf (l:=dD l) (x:=x) (fun h=>hm (dV.1 h))
   simp only [dD,List.foldr_cons,List.length_cons]at*;exact List.nodup_cons.2 ⟨hm,rU (by simp only [dD];omega)⟩
theorem KU:dD []= []:=rfl
theorem uF(x:HT):dD [x]= [x]:=rfl
theorem HE{l:List HT}(h:SS l):dD l=l:=(yv h fun _=>Iff.rfl).symm
theorem Ki{l:List HT}{x:HT}{k:Nat}(hs:SS l)(h1:∀y∈l.take k,cY y x=true)(h2:∀y∈l.drop k,cY x y=true):SS (l.take k++x::l.drop k):=by
 unfold SS at*;rw [<-List.take_append_drop k l,List.pairwise_append]at hs;rw [List.pairwise_append,List.pairwise_cons];refine⟨hs.1,⟨h2,hs.2.1⟩,fun y hy z hz=>?_⟩;rcases List.mem_cons.1 hz with rfl|hz
 ·exact h1 y hy
 ·exact hs.2.2 y hy z hz
theorem SS.get{l:List HT}(h:SS l){i j:Nat}(rC:i<j){x y:HT}(hx:l[i]? =some x)(hy:l[j]? =some y):cY x y=true:=by
 obtain⟨h1,rfl⟩:=lgeS hx;obtain⟨h2,rfl⟩:=lgeS hy;exact List.pairwise_iff_getElem.1 h i j h1 h2 rC
theorem ET{l:List HT}{x:HT}(hs:SS l)(h:∀y∈l,cY y x=true):SS (l++ [x]):=by
 have:=Ki (k:=l.length) hs (x:=x) (by simpa using h) (by simp);simpa using this
def LE(l:List HT):Prop:=l.Pairwise fun a b=>cY b a=false
theorem lt_of_le_ne{a b:HT}(h:cY b a=false)(hn:a≠b):cY a b=true:=by
 cases jT:cY a b
 ·exact absurd (qq jT h) hn
 ·rfl
theorem tN{a b c:HT}(h:cY b a=false)(h':cY b c=true):cY a c=true:=by
 by_cases e:a=b
 ·subst e;exact h'
 ·exact kM (lt_of_le_ne h e) h'
theorem LE.get{l:List HT}(h:LE l){i j:Nat}(rC:i<j){x y:HT}(hx:l[i]? =some x)(hy:l[j]? =some y):cY y x=false:=by
 obtain⟨h1,rfl⟩:=lgeS hx;obtain⟨h2,rfl⟩:=lgeS hy;exact List.pairwise_iff_getElem.1 h i j h1 h2 rC
theorem bP{l:List HT}{k:Nat}{x z:HT}(hx:l[k]? =some x):z∈l.take (k+1)↔z∈l.take k\/z=x:=by
 rw [List.take_add_one,hx];simp
open Go.RowKit
theorem fg(a:Addr)(k:Nat):(a.add k).block=a.block:=by unfold Addr.add;split<;>rfl
theorem aR{σ:Type}(e:σ->Env)(I:σ->World->Prop)(μ:σ->World->Nat)(s:σ)(w:World)(Q:aO)(l:Nat)(ρ:Env)(w':World):bR e I μ s w Q (.exit l) ρ w'=Q (.exit l) ρ w':=rfl
theorem iW{σ:Type}(e:σ->Env)(I:σ->World->Prop)(μ:σ->World->Nat)(s:σ)(w:World)(Q:aO)(ρ:Env)(w':World):bR e I μ s w Q .ret ρ w'=Q .ret ρ w':=rfl
theorem gF{x:Int}(h0: -9223372036854775808<=x)(h1:x<9223372036854775808):i64.wrap x=x:=by
 simp only [IntKind.wrap,IntKind.bits,IntKind.signed];simp;omega
theorem Cells.aF{S:Nat->Prop}{w w':World}{a:Addr}{cs:Array Value}(h:Cells w a cs)(hk:Kept S w w')(hn:¬S a.block):Cells w' a cs:=
 fun j v hj=>hk.cell (h j v hj) (by rw [fg];exact hn)
theorem Cells.bL{w:World}{b:Nat}{cs:Array Value}{t:TypeId}{fr:Nat×Nat}(h:w.heap[b]? =some (.cells cs t fr)):Cells w ⟨b,0,none⟩ cs:=
 fun j v hj=>by rw [bt,Nat.zero_add,aD h];exact hj
structure HS(w:World)(A:Option Addr)(n:Nat)(l:List HT):Prop where
 len:l.length=n
 at_:∀(i:Nat) (h:HT),l[i]? =some h->∃a,A=some a/\a.block<w.heap.size/\Cells w (a.add (i*32)) h.1
theorem HS.aF{S:Nat->Prop}{w w':World}{A:Option Addr}{n:Nat}{l:List HT}(h:HS w A n l)(hk:Kept S w w')(hn:∀a,A=some a->¬S a.block):HS w' A n l:=⟨h.len,fun i x hi=>by
 obtain⟨a,h1,h2,h3⟩:=h.at_ i x hi;exact⟨a,h1,Nat.lt_of_lt_of_le h2 hk.size,Cells.aF h3 hk (by rw [fg];exact hn a h1)⟩⟩
theorem HS.same{w w':World}{A:Option Addr}{n:Nat}{l:List HT}(h:HS w A n l)(hk:Kept Nil w w'):HS w' A n l:=h.aF hk fun _ _ h=>h
section
variable{w:World}{K:Value->World->Prop}
theorem yA{A:Option Addr}{n c:Nat}{l:List HT}(h:HT)(hl:HS w A n l)(hn:n<=1000000)(hK:∀w',Kept Nil w w'->K (.bool (decide (h∈l))) w'):
 bC prog cX.id #[.slice A n c,.agg h.1] w K:=by
 refine cX.of ?_;unfold cX.W;intro w3;have k3:Kept Nil w w3:=(Kept.refl Nil w).alloc _;have mK:w3.heap[w.heap.size]? =some (.cells h.1 ag (0,0)):=aH w _;clear_value w3;have hlen:=hl.len;refine cX.cC (I:=fun s w'=>∃i:Nat,s=(false,(i:Int))/\i<=n/\Kept Nil w3 w'/\h∉l.take i) (μ:=fun s _=>((n:Int)-s.2).toNat) (s:=(false,0)) ⟨0,rfl,Nat.zero_le _,Kept.refl _ _,by simp⟩ ?_;rintro s w' ⟨i,rfl,hi,kw,lH⟩;refine Split.dec (fun cY=>?_) (fun gA=>?_)
 ·simp only at cY
  have dS:i<n:=by omega
  obtain⟨x,hx⟩:∃x,l[i]? =some x:=⟨_,List.getElem?_eq_getElem (by omega)⟩;have kk:Kept Nil w w'.drew:=(k3.tt kw).drew;obtain⟨a,rfl,_,hc⟩:=(hl.same kk).at_ i x hx;intro w8;have k8:Kept Nil w3 w8:=kw.drew;refine⟨⟨by simp only;omega,by simp only;omega⟩,x.1,⟨x.2.1,hc⟩,h.1,⟨h.2.1,Cells.bL (k8.heap mK (fun h=>h))⟩,⟨x.2.ints,h.2.ints⟩,?_⟩;rw [dF];have RN:Kept Nil w w8:=kk;refine Split.dec (fun he=>?_) (fun he=>?_)
  ·have:=hK w8 RN
   rw [decide_eq_true (by rw [<-he];exact List.mem_of_getElem? hx)]at this;exact this
  ·simp only
   rw [gF (x:=(i:Int)+1) (by omega) (by omega)];refine⟨(false,(i:Int)+1),rfl,⟨i+1,rfl,dS,k8,?_⟩,by simp only;omega⟩;rw [List.take_add_one,hx];simp only [Option.toList_some,List.mem_append,List.mem_singleton,not_or];exact⟨lH,fun e=>he e.symm⟩
 ·simp only at gA
  rw [aR,cX.df];have:=hK w' (k3.tt kw);rw [List.take_of_length_le (by omega)]at lH;rw [decide_eq_false lH]at this;exact this
theorem sP{A A':Option Addr}{n n' c c':Nat}{l l':List HT}(hl:HS w A n l)(hl':HS w A' n' l')(hn:n<=1000000)(hK:∀w',Kept Nil w w'->K (.bool (decide (l=l'))) w'):
 bC prog cf.id #[.slice A n c,.slice A' n' c'] w K:=by
 have hlen:=hl.len;have Ji:=hl'.len;refine cf.of ?_;by_cases fM:n=n'
 ·subst fM
  refine Split.no (by simp) ?_;refine cf.cC (I:=fun s w'=>∃i:Nat,s=(false,(i:Int))/\i<=n/\Kept Nil w w'/\l.take i=l'.take i) (μ:=fun s _=>((n:Int)-s.2).toNat) (s:=(false,0)) ⟨0,rfl,Nat.zero_le _,Kept.refl _ _,by simp⟩ ?_;rintro s w' ⟨i,rfl,hi,kw,heq⟩;refine Split.dec (fun cY=>?_) (fun gA=>?_)
  ·simp only at cY
   have dS:i<n:=by omega
   obtain⟨x,hx⟩:∃x,l[i]? =some x:=⟨_,List.getElem?_eq_getElem (by omega)⟩;obtain⟨y,hy⟩:∃y,l'[i]? =some y:=⟨_,List.getElem?_eq_getElem (by omega)⟩;have kk:Kept Nil w w'.drew:=kw.drew;obtain⟨a,rfl,_,hc⟩:=(hl.same kk).at_ i x hx;obtain⟨a',rfl,_,tm⟩:=(hl'.same kk).at_ i y hy;intro w7;have k7:Kept Nil w w7:=kk;have hb:0<=(i:Int)/\(i:Int)<(n:Int):=⟨by omega,by omega⟩;refine⟨hb,x.1,⟨x.2.1,hc⟩,hb,y.1,⟨y.2.1,tm⟩,⟨x.2.ints,y.2.ints⟩,?_⟩;rw [dF];by_cases he:x=y
   ·refine Split.no (by simp [he]) ?_
    simp only;rw [gF (x:=(i:Int)+1) (by omega) (by omega)];refine⟨(false,(i:Int)+1),rfl,⟨i+1,rfl,dS,k7,?_⟩,by simp only;omega⟩;rw [List.take_add_one,List.take_add_one,hx,hy,heq,he]
   ·refine Split.yes (by simp [he]) ?_
    have:=hK w7 k7;rw [decide_eq_false (fun e=>he (by rw [e,hy]at hx;exact(Option.some.inj hx).symm))]at this;exact this
  ·simp only at gA
   rw [aR,cf.df];have:=hK w' kw;rw [List.take_of_length_le (by omega),List.take_of_length_le (by omega)]at heq;rw [decide_eq_true heq]at this;exact this
 ·refine Split.yes (by simp;omega) ?_
  have:=hK w (Kept.refl _ _);rw [decide_eq_false (fun e=>fM (by rw [<-hlen,<-Ji,e]))]at this;exact this
end
def lT(a b:HT):Int:=if cY a b then-1 else if cY b a then 1 else 0
theorem vJ:∀(i:Nat) (a b:List Int),a.take i=b.take i->uK a b=uK (a.drop i) (b.drop i)
 |0,a,b,_=>rfl
 |i+1,[],[],_=>rfl
 |i+1,[],y::b,h=>by simp at h
 |i+1,x::a,[],h=>by simp at h
 |i+1,x::a,y::b,h=>by
  simp only [List.take_succ_cons,List.cons.injEq]at h;obtain⟨rfl,h⟩:=h;simp only [uK,List.drop_succ_cons];rw [if_neg (by omega),if_neg (by omega)];exact vJ i a b h
theorem yM{h:HT}{i:Nat}(hi:i<32):∃x:Int,h.1[i]? =some (.int .u8 x)/\(key h)[i]? =some x/\0<=x/\x<256:=by
 have hs:i<h.1.size:=by rw [h.2.1];exact hi
 obtain⟨x,hx,h1,h2⟩:=h.2.2 h.1[i] (by simp);refine⟨x,by rw [Array.getElem?_eq_getElem hs,hx],?_,h1,h2⟩;unfold key;rw [List.getElem?_map,Array.getElem?_toList,Array.getElem?_eq_getElem hs,hx];rfl
section
variable{w:World}{K:Value->World->Prop}
theorem tH(a b:HT)(hK:∀w',Kept Nil w w'->K (.int .i64 (lT a b)) w'):bC prog bN.id #[.agg a.1,.agg b.1] w K:=by
 refine bN.of ?_;unfold bN.W;intro w3 w4;have k3:Kept Nil w w3:=(Kept.refl Nil w).alloc _;have k4:Kept Nil w w4:=k3.alloc _;have Bj:w4.heap[w.heap.size]? =some (.cells a.1 ag (0,0)):=iI (aH w _) _;have ph:w4.heap[w3.heap.size]? =some (.cells b.1 ag (0,0)):=aH w3 _;clear_value w4;refine bN.cC (I:=fun s w'=>∃i:Nat,s=(0,(i:Int))/\i<=32/\Kept Nil w4 w'/\(key a).take i=(key b).take i) (μ:=fun s _=>(32-s.2).toNat) (s:=(0,0)) ⟨0,rfl,by omega,Kept.refl _ _,by simp⟩ ?_;rintro s w' ⟨i,rfl,hi,kw,heq⟩;refine Split.dec (fun jK=>?_) (fun gA=>?_)
 ·simp only at jK
  have dS:i<32:=by omega
  obtain⟨x,hx,kx,_⟩:=yM (h:=a) dS;obtain⟨y,hy,ky,_⟩:=yM (h:=b) dS;have e1:cY a b=uK ((key a).drop i) ((key b).drop i):=vJ i _ _ heq;have e2:cY b a=uK ((key b).drop i) ((key a).drop i):=vJ i _ _ heq.symm;have da:(key a).drop i=x::(key a).drop (i+1):=by
   obtain⟨h1,h2⟩:=lgeS kx;rw [List.drop_eq_getElem_cons h1,h2]
  have db:(key b).drop i=y::(key b).drop (i+1):=by
   obtain⟨h1,h2⟩:=lgeS ky;rw [List.drop_eq_getElem_cons h1,h2]
  rw [da,db]at e1 e2;simp only [uK]at e1 e2;intro w9;have k9:Kept Nil w4 w9:=kw.drew;clear_value w9;have hb:0<=(i:Int)/\(i:Int)<32:=⟨by omega,by omega⟩;have ca:∀ {w':World},Kept Nil w4 w'->w'.cell? ((aP w.heap.size).add ((i:Int).toNat*1))=some (.int .u8 x):=fun k=>by
   rw [bt,Nat.zero_add,Nat.mul_one,Int.toNat_natCast,aD (k.heap Bj (fun h=>h))];exact hx
  have cb:∀ {w':World},Kept Nil w4 w'->w'.cell? ((aP w3.heap.size).add ((i:Int).toNat*1))=some (.int .u8 y):=fun k=>by
   rw [bt,Nat.zero_add,Nat.mul_one,Int.toNat_natCast,aD (k.heap ph (fun h=>h))];exact hy
  refine⟨hb,x,ca k9,hb,y,cb k9,Split.dec (fun oY=>?_) (fun oY=>?_)⟩
  ·have:=hK w9 (k4.tt k9)
   rw [show lT a b= -1 by unfold lT;rw [e1,if_pos oY];rfl]at this;exact this
  ·intro lK
   have um:Kept Nil w4 lK:=k9.drew;clear_value lK;refine⟨hb,x,ca um,hb,y,cb um,Split.dec (fun Ep=>?_) (fun Ep=>?_)⟩
   ·have:=hK lK (k4.tt um)
    rw [show lT a b=1 by unfold lT;rw [e1,e2,if_neg oY,if_pos (show y<x from Ep),if_pos (show y<x from Ep)];rfl]at this;exact this
   ·simp only
    rw [gF (x:=(i:Int)+1) (by omega) (by omega)];refine⟨(0,(i:Int)+1),rfl,⟨i+1,rfl,dS,um,?_⟩,by simp only;omega⟩;have:x=y:=by omega
    rw [List.take_add_one,List.take_add_one,kx,ky,heq,this]
 ·simp only at gA
  rw [aR,bN.df];have:=hK w' (k4.tt kw);have jT:a=b:=by
   apply key_inj;rw [List.take_of_length_le (by rw [mZ];omega),List.take_of_length_le (by rw [mZ];omega)]at heq;exact heq
  rw [show lT a b=0 by unfold lT;rw [jT,iD];rfl]at this;exact this
end
theorem EM{x y:Int}(hx:0<=x/\x<256)(hy:0<=y/\y<256):(x.toNat.toUInt8<y.toNat.toUInt8)↔x<y:=by
 rw [UInt8.lt_iff_toNat_lt];simp only [Nat.toUInt8,UInt8.toNat_ofNat'];omega
theorem nU:∀ {a b:List Int},a.length=b.length->(∀x∈a,0<=x/\x<256)->(∀x∈b,0<=x/\x<256)->
 Lib.compareBytes (Lib.bytesOf a) (Lib.bytesOf b)=if uK a b then-1 else if uK b a then 1 else 0
 | [],[],_,_,_=>rfl
 | [],_::_,h,_,_=>by simp at h
 |_::_,[],h,_,_=>by simp at h
 |x::a,y::b,h,ha,hb=>by
  have hx:=ha x (by simp);have hy:=hb y (by simp);have ih:=nU (a:=a) (b:=b) (by simpa using h) (fun z hz=>ha z (by simp [hz])) (fun z hz=>hb z (by simp [hz]));simp only [Lib.bytesOf,List.map_cons,Lib.compareBytes,EM hx hy,EM hy hx,uK];by_cases h1:x<y
  ·simp [h1]
  ·by_cases h2:y<x
   ·simp [h1,h2]
   ·simp only [h1,h2,if_false]
    exact ih
theorem xQ(h:HT):∀x∈key h,0<=x/\x<256:=by
 intro x hx;simp only [key,List.mem_map]at hx;obtain⟨v,hv,rfl⟩:=hx;obtain⟨i,rfl,h1,h2⟩:=h.2.2 v hv;exact⟨h1,h2⟩
theorem sh(a b:HT):Lib.compareBytes (Lib.bytesOf (key a)) (Lib.bytesOf (key b))=lT a b:=
 nU (by rw [mZ,mZ]) (xQ a) (xQ b)
section
variable{w:World}{K:Value->World->Prop}
theorem tp(a b:HT){p q:Addr}{c c':Nat}(ha:Cells w p a.1)(hb:Cells w q b.1)(hK:K (.int .i64 (lT a b)) w):
 bC prog iE.id #[.slice (some p) 32 c,.slice (some q) 32 c'] w K:=by
 refine iE.of ⟨.int .i64 (lT a b),w,?_,_,rfl,hK⟩;have Bg:∀(h:HT) (r:Addr),Cells w r h.1->∀j x,(key h)[j]? =some x->w.cell? (r.add j)=some (.int .u8 x):=by
  intro h r hr j x hx;have hj:j<32:=by have:=(lgeS hx).1;rw [mZ]at this;exact this
  obtain⟨y,hy,ky,_⟩:=yM (h:=h) hj;rw [hx]at ky;cases ky;exact hr j _ hy
 have l1:=Lib.run_loadBytesX (P:=prog) w (key a) p .empty (Bg a p ha);have l2:=Lib.run_loadBytesX (P:=prog) w (key b) q .empty (Bg b q hb);rw [mZ]at l1 l2;rw [run_callFunc_extern ux.at_ (by kernel_rfl) (by kernel_rfl) (by kernel_rfl) (e:=Extern.BytealgCompare.compare) (by kernel_rfl)];have hr:(Extern.BytealgCompare.compare #[.slice (some p) 32 c,.slice (some q) 32 c']).run prog w=.ok (.int .i64 (lT a b)) w:=by
  change Sem.run prog (do pure (goInt (Extern.BytealgCompare.cmp (<-Extern.Bytes.bytesOf (.slice (some p) 32 c)) (<-Extern.Bytes.bytesOf (.slice (some q) 32 c'))))) w=_
  simp only [Extern.Bytes.bytesOf,Sem.run_bind,l1,l2,Result.andThen_ok,Sem.run_pure,Lib.cmp_eq,goInt];rw [<-sh];simp
 rw [hr];rfl
theorem pX(a b:HT)(hK:K (.int .i64 (lT a b)) ((w.alloc (.cells a.1 ag)).alloc (.cells b.1 ag)).drew):bC prog dI.id #[.agg a.1,.agg b.1] w K:=by
 refine dI.of ?_;unfold dI.W;intro w3 w4 w5;have ha:w5.heap[w.heap.size]? =some (.cells a.1 ag (0,0)):=iI (aH w _) _;have hb:w5.heap[w3.heap.size]? =some (.cells b.1 ag (0,0)):=aH w3 _;simp only [if_neg (show ¬(32:Nat)=0 by omega),Nat.zero_mul,add_zero,Nat.sub_zero];exact tp a b (Cells.bL ha) (Cells.bL hb) ⟨_,rfl,hK⟩
end
theorem lU(a:Addr)(m n:Nat):(a.add m).add n=a.add (m+n):=by
 unfold Addr.add;by_cases hm:m=0<;>by_cases hn:n=0<;>simp [hm,hn,Nat.add_assoc]
def dh(l:List HT):List Value:=l.flatMap fun h=>h.1.toList
theorem lR(h:HT)(l:List HT):dh (h::l)=h.1.toList++dh l:=by simp [dh]
theorem mJ(l m:List HT):dh (l++m)=dh l++dh m:=by simp [dh]
theorem e9:∀l:List HT,(dh l).length=l.length*32
 | []=>rfl
 |h::l=>by
  have:=h.2.1;rw [lR,List.length_append,e9 l,Array.length_toList,this,List.length_cons];omega
theorem C1(l:List HT):∀u∈dh l,u.oneCell'=true:=by
 intro u hu;simp only [dh,List.mem_flatMap]at hu;obtain⟨h,_,hu⟩:=hu;exact h.2.one u hu
theorem lD:∀ {l:List HT} {i:Nat} {h:HT},l[i]? =some h->∀ {j:Nat} {v:Value},h.1[j]? =some v->(dh l)[i*32+j]? =some v
 | [],_,_,hi,_,_,_=>by simp at hi
 |x::l,0,h,hi,j,v,hj=>by
  simp only [List.getElem?_cons_zero,Option.some.injEq]at hi;subst hi;have cY:j<x.1.toList.length:=by simpa using (Array.getElem?_eq_some_iff.1 hj).1
  rw [lR,Nat.zero_mul,Nat.zero_add,List.getElem?_append_left cY,Array.getElem?_toList,hj]
 |x::l,i+1,h,hi,j,v,hj=>by
  simp only [List.getElem?_cons_succ]at hi;have:=x.2.1;rw [lR,List.getElem?_append_right (by simp;omega),Array.length_toList,this,show(i+1)*32+j-32=i*32+j by omega];exact lD hi hj
theorem Gt{l:List HT}{j:Nat}{v:Value}(h:(dh l)[j]? =some v):∃x,l[j/32]? =some x/\x.1[j%32]? =some v:=by
 have hj:=(lgeS h).1;rw [e9]at hj;have hi:j/32<l.length:=by omega
 refine⟨l[j/32],List.getElem?_eq_getElem hi,?_⟩;have hs:=l[j/32].2.1;have hm:j%32<l[j/32].1.size:=by rw [hs];omega
 obtain⟨u,hu⟩:∃u,l[j/32].1[j%32]? =some u:=⟨_,Array.getElem?_eq_getElem hm⟩;have:=lD (List.getElem?_eq_getElem hi) hu;rw [show j/32*32+j%32=j by omega,h]at this;rw [hu,this]
theorem pB:zE prog ay ag 32 32:=⟨by kernel_rfl,by kernel_rfl⟩
abbrev bI(w:World)(B:Nat)(A:Option Addr)(n c:Nat)(l:List HT):Prop:=Row w B ag 32 A n c (dh l)
section
variable{w w':World}{B:Nat}{A:Option Addr}{n c:Nat}{l:List HT}
theorem bI.len(h:bI w B A n c l):l.length=n:=by
 have:=Row.len h;rw [e9]at this;omega
theorem bI.hs(h:bI w B A n c l):HS w A n l:=⟨h.len,fun i x hi=>by
 have hlen:=h.len;have dS:=(lgeS hi).1;obtain⟨b,rfl⟩:=Row.some h (by omega);obtain⟨_,cur,kF⟩:=Row.bL h (k:=b) rfl;refine⟨_,rfl,aU kF,fun j v hj=>?_⟩;rw [lU];exact Row.cells h _ _ (lD hi hj)⟩
theorem bI.nil(w:World)(B:Nat):bI w B none 0 0 []:=Row.nil _ _ _ _
theorem HS.cells{a:Addr}(h:HS w (some a) n l):∀j u,(dh l)[j]? =some u->w.cell? (a.add j)=some u:=by
 intro j u hj;obtain⟨x,hx,hu⟩:=Gt hj;obtain⟨a',ha,_,hc⟩:=h.at_ _ x hx;cases ha;have:=hc _ _ hu
 rwa [lU,show j/32*32+j%32=j by omega]at this
theorem HS.nil(w:World)(A:Option Addr):HS w A 0 []:=⟨rfl,fun i x hi=>by simp at hi⟩
theorem HS.none(h:HS w none n l):n=0/\l= []:=by
 cases l with
 |nil=>exact⟨h.len.symm,rfl⟩
 |cons x l=>obtain⟨a,ha,_⟩:=h.at_ 0 x rfl;cases ha
theorem HS.take(h:HS w A n l){k:Nat}(hk:k<=n):HS w A k (l.take k):=⟨by have:=h.len;simp;omega,fun i x hi=>by
 rw [List.getElem?_take]at hi;split at hi
 ·exact h.at_ i x hi
 ·cases hi⟩
theorem HS.drop(h:HS w A n l){k:Nat}(hc:n<=c)(hk:k<=n):HS w (if c=k then A else A.map (·.add (k*32))) (n-k) (l.drop k):=⟨by have:=h.len;simp;omega,fun i x hi=>by
 rw [List.getElem?_drop]at hi;have hlen:=h.len;have:=(lgeS hi).1;obtain⟨a,rfl,hb,qC⟩:=h.at_ _ x hi;rw [if_neg (by omega)];refine⟨_,rfl,by rw [fg];exact hb,?_⟩;rw [lU,<-Nat.add_mul];exact qC⟩
theorem HS.one{w:World}{b:Nat}{h:HT}{t:TypeId}{fr:Nat×Nat}(hb:w.heap[b]? =some (.cells h.1 t fr)):HS w (some ⟨b,0,Option.none⟩) 1 [h]:=⟨rfl,fun i x hi=>by
 cases i with
 |zero=>
  simp only [List.getElem?_cons_zero,Option.some.injEq]at hi;subst hi;exact⟨_,rfl,aU hb,by rw [Nat.zero_mul,add_zero];exact Cells.bL hb⟩
 |succ i=>simp at hi⟩
theorem cK(ty:Nat)(h:bI w B A n c l){A2:Option Addr}{m cx:Nat}{l2:List HT}(h2:HS w A2 m l2)(hm:n+m<=1000000)(hB:B<=w.heap.size):
 ∃A' c' w',(Builtin.append_ #[ay,ay] ty #[.slice A n c,.slice A2 m cx]).run prog w=.ok (.slice A' (n+m) c') w'/\
  bI w' B A' (n+m) c' (l++l2)/\w.grownBy w' (bn A)/\(∀k,bn A'=some k->bn A=some k\/w.heap.size<=k):=by
 cases A2 with
 |some a=>
  have qz:=h2.len;obtain⟨A',c',w',hr,fF,hg,hb⟩:=fP (P:=prog) (t:=ay) (bytes:=32) (ty:=ty) pB h (a:=a) (m:=m) (cx:=cx) (news:=dh l2) (by rw [e9,qz]) h2.cells (C1 l2) (by omega) (by unfold maxLen;omega) hB;refine⟨A',c',w',hr,?_,hg,hb⟩;rw [<-mJ]at fF;exact fF
 |none=>
  obtain⟨rfl,rfl⟩:=h2.none;refine⟨A,c,w,?_,by simpa using h,⟨rfl,rfl,rfl,Nat.le_refl _,fun _ _ _=>rfl⟩,fun k hk=>.inl hk⟩;obtain⟨i,z,hi,hz,hs,KD,Eo⟩:=pB.inf;have hn:n<=c:=by rcases Row.own h with⟨_,h1,h2,_⟩|⟨_,_,_,_,_,h1,_⟩<;>omega
  simp [Builtin.append_,run_underlying pB.pg,sizeOf,typeInfo,hi,Builtin.lenOf,Builtin.firstCells,hn];cases A<;>simp [storeCells]
end
theorem HS.load{w:World}{A:Option Addr}{n:Nat}{l:List HT}(hl:HS w A n l){i:Int}{x:HT}(h0:0<=i)(hx:l[i.toNat]? =some x){k:Array Value->Prop}(hk:k x.1):
 (0<=i/\i<(n:Int))/\Is A fun a=>∃t:Array Value,(t.size=32/\Cells w (a.add (i.toNat*32)) t)/\k t:=by
 obtain⟨a,rfl,_,hc⟩:=hl.at_ _ x hx;have:=(lgeS hx).1;have:=hl.len;exact⟨⟨h0,by omega⟩,x.1,⟨x.2.1,hc⟩,hk⟩
theorem si{a b:HT}:(lT a b<0)↔cY a b=true:=by
 unfold lT;by_cases h:cY a b=true
 ·simp [h]
 ·by_cases h':cY b a=true<;>simp [h,h']
theorem dM{n:Int}(h0:0<=n)(h1:n<=2000000):i64.wrap (n+1)=n+1:=gF (by omega) (by omega)
theorem wrapM{n:Int}(h0:0<=n)(h1:n<=2000000):i64.wrap (n-1)=n-1:=gF (by omega) (by omega)
theorem Kept.dO{w w' jn:World}{A:Option Addr}(h:Kept Nil w w')(hg:w'.grownBy jn (bn A))(hr:∀k,bn A=some k->w.heap.size<=k):Kept Nil w jn:=
 Kept.grown h hg fun k hk cY=>absurd (hr k hk) (by omega)
section
variable{w:World}{K:Value->World->Prop}
theorem qS{A:Option Addr}{n c:Nat}{l:List HT}(hl:HS w A n l)(hn:n<=400000)
 (hK:∀A' c' w',bI w' w.heap.size A' (dD l).length c' (dD l)->Kept Nil w w'->K (.slice A' (dD l).length c') w'):
 bC prog aN.id #[.slice A n c] w K:=by
 refine aN.of ?_;have hlen:=hl.len;refine aN.cC (I:=fun s w'=>∃(i:Nat) (out:List HT) (B:Option Addr) (m:Nat),s=(B,out.length,m,(i:Int))/\i<=n/\bI w' w.heap.size B out.length m out/\SS out/\(∀x,x∈out↔x∈l.take i)/\out.length<=i/\Kept Nil w w')
  (μ:=fun s _=>((n:Int)-s.2.2.2).toNat) (s:=(none,0,0,0)) ⟨0,[],none,0,rfl,Nat.zero_le _,bI.nil _ _,List.Pairwise.nil,by simp,by simp,Kept.refl _ _⟩ ?_
 rintro s w' ⟨i,out,B,m,rfl,hi,row,uM,iY,Vh,kw⟩;refine Split.dec (fun jK=>?_) (fun gA=>?_)
 ·simp only at jK
  have dS:i<n:=by omega
  obtain⟨x,hx⟩:∃x,l[i]? =some x:=⟨_,List.getElem?_eq_getElem (by omega)⟩;refine(hl.same kw).load (i:=(i:Int)) (by omega) hx (yA x row.hs (by simp only;omega) fun w9 k9=>⟨_,rfl,?_⟩);simp only;have TP:Kept Nil w w9:=kw.tt k9;have Te:bI w9 w.heap.size B out.length m out:=Row.aF row k9 (fun _ _ h=>h);have zy:l.take (i+1)=l.take i++ [x]:=by rw [List.take_add_one,hx];rfl
  refine Split.dec (fun gK=>?_) (fun lH=>?_)
  ·rw [dM (n:=(i:Int)) (by omega) (by omega)]
   refine⟨(B,out.length,m,(i:Int)+1),rfl,⟨i+1,out,B,m,rfl,dS,Te,uM,fun y=>?_,by omega,TP⟩,by simp only;omega⟩;rw [zy,List.mem_append,List.mem_singleton,<-iY y];constructor
   ·exact .inl
   ·rintro(h|rfl)
    ·exact h
    ·exact gK
  ·refine aN.gU (I:=fun s w'=>∃k:Nat,s=(k:Int)/\k<=out.length/\(∀y∈out.drop k,cY x y=true)/\Kept Nil w9 w') (μ:=fun s _=>s.toNat) (s:=(out.length:Int)) ⟨out.length,rfl,Nat.le_refl _,by simp,Kept.refl _ _⟩ ?_
   rintro s w1 ⟨k,rfl,hk,vY,k1⟩;have NK:HS w1 A n l:=(hl.same TP).same k1;have vh:bI w1 w.heap.size B out.length m out:=Row.aF Te k1 (fun _ _ h=>h);have kx:Kept Nil w w1:=TP.tt k1;have r9:∀w1,HS w1 A n l->bI w1 w.heap.size B out.length m out->Kept Nil w w1->(∀y∈out.take k,cY y x=true)->
    aN.iN A n c none 0 0 B out.length m (i:Int) (k:Int) (bR (aN.e1 A n c none 0 0) (fun s w'=>∃(i:Nat) (out:List HT) (B:Option Addr) (m:Nat),s=(B,out.length,m,(i:Int))/\i<=n/\bI w' w.heap.size B out.length m out/\SS out/\(∀x,x∈out↔x∈l.take i)/\out.length<=i/\Kept Nil w w') (fun s _=>((n:Int)-s.2.2.2).toNat) (B,out.length,m,(i:Int)) w' (aN.q1 K)) w1:=by
    intro w1 NK vh kx IV;have C5:out.length<=m:=by rcases Row.own vh with⟨_,h1,h2,_⟩|⟨_,_,_,_,_,h1,_⟩<;>omega
    have ml:=kx.size;unfold aN.iN;refine⟨⟨by omega,by omega⟩,?_⟩;have yT:HS w1 (if m=0 then B else B.map (·.add (0*32))) ((k:Int).toNat -0) (out.take k):=by
     have h:=vh.hs.take hk;rw [Nat.sub_zero,Int.toNat_natCast];have e:(if m=0 then B else B.map (·.add (0*32)))=B:=by
      split
      ·rfl
      ·cases B<;>simp [add_zero]
     rw [e];exact h
    obtain⟨A1,c1,w2,mU,fV,Md,lE⟩:=cK (cx:=m-0) ay (bI.nil w1 w.heap.size) yT (by simp;omega) ml;have k2:Kept Nil w1 w2:=Kept.dO (Kept.refl _ _) Md (fun k hk=>by cases hk);rw [Nat.zero_add,Nat.sub_zero,Int.toNat_natCast]at mU fV;rw [List.nil_append]at fV;refine⟨A1,_,c1,w2,by rw [Nat.sub_zero,Int.toNat_natCast];exact mU,?_⟩;have qz:=NK.same k2;refine qz.load (i:=(i:Int)) (by omega) hx ⟨x.2.1,?_⟩;intro w3;have k3:Kept Nil w2 w3:=(Kept.refl _ _).alloc _;have jf:HS w3 (some ⟨w2.heap.size,0,none⟩) 1 [x]:=by
     refine HS.one (t:=ag) (fr:=(0,0)) ?_;have e3:w3=w2.alloc (.cells x.1 ag):=by
      show w2.alloc (.cells (x.1.toList++ []).toArray ag)=_
      simp
     rw [e3];exact aH w2 _
    clear_value w3;have lj:bI w3 w.heap.size A1 k c1 (out.take k):=Row.aF fV k3 (fun _ _ h=>h);have aa0:w.heap.size<=w3.heap.size:=Nat.le_trans (Nat.le_trans ml k2.size) k3.size;obtain⟨A4,c4,w4,wJ,iC,EC,ph⟩:=cK (cx:=1) ay lj jf (by omega) aa0;have k4:Kept Nil w1 w4:=Kept.dO (k2.tt k3) EC (fun k hk=>by rcases lE k hk with h|h;cases h;exact h);refine⟨A4,_,c4,w4,wJ,⟨by omega,by omega⟩,?_⟩;have Sa:HS w4 (if m=(k:Int).toNat then B else B.map (·.add ((k:Int).toNat*32))) (out.length-(k:Int).toNat) (out.drop k):=by
     rw [Int.toNat_natCast];exact(vh.hs.same k4).drop C5 hk
    have YM:(out.length-(k:Int).toNat)=out.length-k:=by rw [Int.toNat_natCast]
    obtain⟨A5,c5,w5,th,ju,Wc,oS⟩:=cK (cx:=m-(k:Int).toNat) ay iC Sa (by omega) (Nat.le_trans ml k4.size);have k5:Kept Nil w1 w5:=Kept.dO k4 Wc (fun b hb=>by
     rcases ph b hb with h|h
     ·rcases lE b h with h|h
      ·cases h
      ·exact h
     ·exact Nat.le_trans (Nat.le_trans k2.size k3.size) h)
    refine⟨A5,_,c5,w5,th,?_⟩;rw [dM (n:=(i:Int)) (by omega) (by omega)];have nz:out.take k++ [x]++out.drop k=out.take k++x::out.drop k:=by simp
    have yX:(out.take k++x::out.drop k).length=out.length+1:=by simp;omega
    rw [nz]at ju;have e5:k+1+(out.length-(k:Int).toNat)=(out.take k++x::out.drop k).length:=by rw [yX];omega
    rw [e5]at ju⊢;refine⟨(A5,(out.take k++x::out.drop k).length,c5,(i:Int)+1),rfl,⟨i+1,_,A5,c5,rfl,dS,ju,Ki uM IV vY,fun y=>?_,by omega,kx.tt k5⟩,by simp only;omega⟩;rw [show y∈l.take (i+1)↔y∈out\/y=x by rw [zy,List.mem_append,List.mem_singleton,iY y],List.mem_append,List.mem_cons];constructor
    ·rintro(h|rfl|h)
     ·exact .inl (List.mem_of_mem_take h)
     ·exact .inr rfl
     ·exact .inl (List.mem_of_mem_drop h)
    ·rintro(h|rfl)
     ·rw [<-List.take_append_drop k out,List.mem_append]at h
      rcases h with h|h
      ·exact .inl h
      ·exact .inr (.inr h)
     ·exact .inr (.inl rfl)
   unfold aN.B2;intro w2;have k2:Kept Nil w1 w2:=(Kept.refl _ _).drew;clear_value w2;have qz:=NK.same k2;have fV:bI w2 w.heap.size B out.length m out:=Row.aF vh k2 (fun _ _ h=>h);have kx2:=kx.tt k2;refine Split.dec (fun jF=>?_) (fun yY=>?_)
   ·have rz:0<k:=by omega
    obtain⟨y,hy⟩:∃y,out[k-1]? =some y:=⟨_,List.getElem?_eq_getElem (by omega)⟩;rw [wrapM (n:=(k:Int)) (by omega) (by omega)];refine qz.load (i:=(i:Int)) (by omega) hx (fV.hs.load (by omega) (by rw [show((k:Int)-1).toNat=k-1 by omega];exact hy) (tH x y fun w3 k3=>⟨_,rfl,?_⟩));refine Split.dec (fun hc=>?_) (fun hc=>?_)
    ·refine⟨(k:Int)-1,rfl,⟨k-1,by omega,by omega,fun z hz=>?_,(k1.tt k2).tt k3⟩,by simp only;omega⟩
     have hd:out.drop (k-1)=y::out.drop k:=by
      obtain⟨h1,h2⟩:=lgeS hy;rw [List.drop_eq_getElem_cons h1,h2,show k-1+1=k by omega]
     rw [hd]at hz;rcases List.mem_cons.1 hz with rfl|hz
     ·exact si.1 hc
     ·exact vY z hz
    ·rw [aR,aN.jN]
     refine r9 w3 (qz.same k3) (Row.aF fV k3 (fun _ _ h=>h)) (kx2.tt k3) fun z hz=>?_;have Ep:cY y x=true:=by
      have h1:cY x y=false:=by
       cases h:cY x y
       ·rfl
       ·exact absurd (si.2 h) hc
      refine lt_of_le_ne h1 fun e=>lH ?_;rw [<-e];exact List.mem_of_getElem? hy
     obtain⟨j,hj⟩:=List.mem_iff_getElem?.1 hz;rw [List.getElem?_take]at hj;split at hj
     ·rename_i V0
      by_cases e:j=k-1
      ·subst e;rw [hy]at hj;cases hj;exact Ep
      ·exact kM (uM.get (by omega) hj hy) Ep
     ·cases hj
   ·rw [aR,aN.jN]
    have rz:k=0:=by omega
    refine r9 w2 qz fV kx2 fun z hz=>?_;rw [rz]at hz;simp at hz
 ·simp only at gA
  have:i=n:=by omega
  subst this;rw [aR,aN.df];have e:out=dD l:=yv uM fun x=>by rw [iY,List.take_of_length_le (by omega)]
  rw [e]at row;have:=hK B m w' row kw;rw [<-e]at this;exact this
end
theorem jW{w:World}{k l:Nat}{cs:Array Value}{t:TypeId}{fr:Nat×Nat}{R:Loop}(h:w.heap[k]? =some (.cells cs t fr))(h':w.heap[l]? =some (.loop R)):k≠l:=by
 rintro rfl;rw [h]at h';cases h'
theorem rV{w:World}{k l:Nat}{cs:Array Value}{t:TypeId}{fr:Nat×Nat}{d:Option (List Deferred)}(h:w.heap[k]? =some (.cells cs t fr))(h':w.heap[l]? =some (.deferred d)):k≠l:=by
 rintro rfl;rw [h]at h';cases h'
theorem Row.apart{w w':World}{B:Nat}{e:TypeId}{size:Nat}{A:Option Addr}{n c:Nat}{xs:List Value}(h:Row w B e size A n c xs){l:Nat}(hk:Kept (· =l) w w')
 (hl:∀cs t fr,w.heap[l]? ≠some (.cells cs t fr)):Row w' B e size A n c xs:=Row.aF h hk fun k hb e=>by
 subst e;obtain⟨_,cur,hc⟩:=Row.bL h hb;exact hl _ _ _ hc
abbrev se(h:HT):List Value:= [.agg h.1]
section
variable{w:World}{K:Value->World->Prop}
theorem zN(p:Addr){A:Option Addr}{n c:Nat}{l:List HT}(hn:n<=1000000):
 oo prog aG.id #[] #[.pointer (some p)] (l.map se) (fun w=>HS w A n l/\w.cell? p=some (.slice A n c)):=by
 intro y I D w0 hI hD oG h0 oF;refine aG.of ?_;obtain⟨Be,LQ⟩:=oG 0 w0 h0;have hlen:=Be.len;refine⟨A,n,c,LQ,?_⟩;refine aG.cC (I:=fun s w'=>∃i:Nat,s=(i:Int)/\i<=n/\I i w') (μ:=fun s _=>((n:Int)-s).toNat) (s:=0) ⟨0,rfl,Nat.zero_le _,h0⟩ ?_;rintro s w' ⟨i,rfl,hi,hw⟩;refine Split.dec (fun jK=>?_) (fun gA=>?_)
 ·have dS:i<n:=by omega
  obtain⟨x,hx⟩:∃x,l[i]? =some x:=⟨_,List.getElem?_eq_getElem (by omega)⟩;have hl:=(oG i w' hw).1;refine hl.load (i:=(i:Int)) (by omega) hx ?_;intro w10;obtain⟨tf,hb,hk⟩:=iy (w:=w') (z:=(zx 0)) (cs:=x.1) (t:=ag) (by rw [x.2.1];rfl);refine⟨⟨x.2.1,x.2.one,fun j hj=>tf j (by rw [x.2.1];exact hj)⟩,?_⟩;intro mT
  replace hb:mT.heap[w'.heap.size]? =some (.cells x.1 ag (0,0)):=hb
  replace hk:Kept Nil w' mT:=hk
  clear_value mT;refine⟨x.1,⟨x.2.1,Cells.bL hb⟩,?_⟩;refine(oF i (se x) mT (by rw [List.getElem?_map,hx];rfl) (hI i w' mT hw hk)).mono ?_;rintro b jn ⟨ht,hf⟩;cases b with
  |true=>
   refine Split.no rfl ?_;rw [dM (n:=(i:Int)) (by omega) (by omega)];exact⟨(i:Int)+1,rfl,⟨i+1,rfl,dS,ht rfl⟩,by simp only;omega⟩
  |false=>
   refine Split.yes rfl ?_;exact Or.inr (hf rfl)
 ·rw [aR,aG.df]
  have e:i=n:=by omega
  subst e;refine Or.inl ?_;rw [List.length_map,hlen];exact hw
theorem xp{gf:FuncId}{gL:Array Value}{xs:List HT}{fn:Func}(Ha:prog.funcs[gf]? =some fn)(hb:fn.body.isSome){DC:World->Prop}
 (hit:oo prog gf #[] gL (xs.map se) DC) (hp:∀w',Kept Nil w w'->DC w') (LB:xs.length<=1000000)
 (hK:∀A c w',bI w' w.heap.size A xs.length c xs->Kept Nil w w'->K (.slice A xs.length c) w'):
 bC prog aM.id #[.slice none 0 0,.func (.func gf) #[] gL] w K:=by
 refine aM.of ?_;unfold aM.W;intro w3;have k3:Kept Nil w w3:=(Kept.refl Nil w).alloc _;have mK:w3.heap[w.heap.size]? =some (.cells #[.slice none 0 0] ay (0,0)):=aH w _;have CK:w.heap.size<w3.heap.size:=aU mK;clear_value w3
 let ρ0:Env:= [(2,.pointer (some (aP w.heap.size))),(4,.slice none 0 0),(6,.func (.func gf) #[] gL)]
 let J:Nat->World->Prop:=fun i w'=>∃A c,w'.heap[w.heap.size]? =some (.cells #[.slice A i c] ay (0,0))/\bI w' w.heap.size A i c (xs.take i)/\Kept Nil w w'/\i<=xs.length/\∀k,bn A=some k->k≠w.heap.size
 refine oB (ρ:=ρ0) (ρ0:=ρ0) ng mix aM.k (t:=6) (ps:= #[7]) (by kernel_rfl) (by decide) rfl Ha hb (.inl rfl) (fun i v _ h=>h) rfl se xs (fun _=>rfl) (by simp [gm]) hit J (fun _ _=>False) ?_ (fun _ _ _ _ _ h=>h.elim) (fun i w' h=>hp w' (let ⟨_,_,_,_,h,_⟩:=h;h)) ?_ ?_ ?_ (fun _ _ h=>h.elim) (fun _ _ _ h=>h.elim)
 ·rintro i w' jn R hl ⟨A,c,h1,h2,h3,h4,h5⟩ hk
  exact⟨A,c,hk.heap h1 (jW h1 hl.loop),Row.apart h2 hk (fun cs t fr h=>by rw [hl.loop]at h;cases h),h3.trans hk (fun k hk e=>by omega),h4,h5⟩
 ·intro R
  exact⟨none,0,iI (iI mK _) _,bI.nil _ _,(k3.alloc _).alloc _,Nat.zero_le _,fun k hk=>by cases hk⟩
 ·rintro i x w' R hx ⟨A,c,h1,h2,h3,h4,h5⟩ hl
  have dS:i<xs.length:=(lgeS hx).1;have e7:kl ρ0 ((#[7]:Array Nat).toList.zip (se x))= [(2,.pointer (some (aP w.heap.size))),(4,.slice none 0 0),(6,.func (.func gf) #[] gL),(7,.agg x.1)]:=rfl;rw [e7,aM.a1];unfold aM.A1;intro w8;obtain⟨tf,jM,kz⟩:=iy (w:=w') (z:=(zx 0)) (cs:=x.1) (t:=ag) (by rw [x.2.1];rfl);refine⟨⟨x.2.1,x.2.one,fun j hj=>tf j (by rw [x.2.1];exact hj)⟩,?_⟩;intro po
  replace jM:po.heap[w'.heap.size]? =some (.cells x.1 ag (0,0)):=jM
  replace kz:Kept Nil w' po:=kz
  clear_value po;have L4:=hl.aF kz (fun h=>h) (fun h=>h);refine⟨L4,fun w2 R2 l9 qz=>?_⟩;have acQ:=l9.heap jM (jW jM L4.loop);have h1b:=kz.heap h1 (fun h=>h);have EJ:=l9.heap h1b (jW h1b L4.loop);have zz:bI w2 w.heap.size A i c (xs.take i):=Row.apart (Row.aF h2 kz (fun _ _ h=>h)) l9 (fun cs t fr h=>by rw [L4.loop]at h;cases h);have Hd:Kept Nil w w2:=(h3.tt kz).trans l9 (fun k hk e=>by omega);have cY:w.heap.size<w2.heap.size:=aU EJ;rw [aM.y1];unfold aM.Y1;refine⟨A,i,c,by rw [aD EJ];rfl,x.1,⟨x.2.1,Cells.bL acQ⟩,x.2.1,?_⟩;intro jH;have nt:Kept Nil w2 jH:=(Kept.refl _ _).alloc _;have jf:HS jH (some ⟨w2.heap.size,0,none⟩) 1 [x]:=by
   refine HS.one (t:=ag) (fr:=(0,0)) ?_;have e3:jH=w2.alloc (.cells x.1 ag):=by
    show w2.alloc (.cells (x.1.toList++ []).toArray ag)=_
    simp
   rw [e3];exact aH w2 _
  clear_value jH;have Mo:bI jH w.heap.size A i c (xs.take i):=Row.aF zz nt (fun _ _ h=>h);have adO:=nt.heap EJ (fun h=>h);have ai8:=nt.size;obtain⟨A',c',sy,hr,la,hg,xh⟩:=cK (cx:=1) ay Mo jf (by omega) (by omega);have QI:Kept (fun k=>bn A=some k) jH sy:=Kept.grown (Kept.refl _ _) hg (fun k hk _=>hk);have Mp:=QI.heap adO (fun h=>h5 _ h rfl);have Qv:Live (w3.heap.size+1) w3.heap.size R2 sy:=by
   have Qw:=qz.aF nt (fun h=>h) (fun h=>h);refine Qw.aF QI ?_ ?_
   ·intro h
    obtain⟨_,cur,hc⟩:=Row.bL Mo h;exact jW hc Qw.loop rfl
   ·intro h
    obtain⟨_,cur,hc⟩:=Row.bL Mo h;exact rV hc Qw.mark rfl
  have Gb:Kept Nil w sy:=(Hd.tt nt).trans QI (fun k hk e=>by
   obtain⟨h,_⟩:=Row.bL Mo e;omega)
  refine⟨A',_,c',sy,hr,dm Mp (by simp),?_⟩;intro pf;have xV:Kept (· =w.heap.size) sy pf:=Kept.setCell (S:=fun k=>k=w.heap.size) (Kept.refl _ sy) (p:=⟨w.heap.size,0,none⟩) (fun _=>rfl) _;have ac5:pf.heap[w.heap.size]? =some (.cells #[.slice A' (i+1) c'] ay (0,0)):=cV Mp 0 _;clear_value pf;have EH:∀k,bn A'=some k->k≠w.heap.size:=fun k hk=>by
   rcases xh k hk with h|h
   ·exact h5 k h
   ·omega
  refine⟨Qv.aF xV (jW Mp Qv.loop).symm (rV Mp Qv.mark).symm,A',c',ac5,?_,Gb.trans xV (fun k hk e=>by omega),dS,EH⟩;rw [List.take_add_one,hx];exact Row.aF la xV EH
 ·rintro w' R ⟨A,c,h1,h2,h3,h4,h5⟩ hl
  have e7:fY ρ0 w3.heap.size= [(2,.pointer (some (aP w.heap.size))),(4,.slice none 0 0),(6,.func (.func gf) #[] gL),(4294967296,.agg #[.pointer (some ⟨w3.heap.size,0,none⟩)])]:=rfl;rw [e7,aM.iL];refine⟨A,xs.length,c,by rw [aD h1];rfl,⟨hl.mark,trivial⟩,?_⟩;have kp:Kept (· =w3.heap.size) w' (w'.putObj w3.heap.size (.deferred none)):=Kept.putAt _ _ _;refine hK A c _ ?_ (h3.trans kp (fun k hk e=>by omega));have:=Row.apart h2 kp (fun cs t fr h=>by rw [hl.mark]at h;cases h)
  rwa [List.take_of_length_le (Nat.le_refl _)]at this
theorem wz{gf:FuncId}{gL:Array Value}{xs:List HT}{fn:Func}(Ha:prog.funcs[gf]? =some fn)(hb:fn.body.isSome){DC:World->Prop}
 (hit:oo prog gf #[] gL (xs.map se) DC) (hp:∀w',Kept Nil w w'->DC w') (LB:xs.length<=1000000)
 (hK:∀A c w',bI w' w.heap.size A xs.length c xs->Kept Nil w w'->K (.slice A xs.length c) w'):
 bC prog dd.id #[.func (.func gf) #[] gL] w K:=by
 refine dd.of (xp Ha hb hit hp LB fun A c w' h1 h2=>⟨_,_,_,rfl,hK A c w' h1 h2⟩)
end
open Go.Sort
instance:Inhabited HT:=⟨⟨Array.replicate 32 (.int .u8 0),by simp,fun v hv=>⟨0,by simpa using hv,by omega,by omega⟩⟩⟩
abbrev nH(h:HT):List Value:=h.1.toList
theorem Bt(h:HT):(nH h).length=32:=by have:=h.2.1;simpa using this
theorem wk(d:Array HT):(flatK nH 32 d).toList=dh d.toList:=by
 apply List.ext_getElem?;intro t;by_cases ht:t<d.size*32
 ·have hi:t/32<d.size:=by omega
  have hx:d.toList[t/32]? =some d[t/32]:=by rw [Array.getElem?_toList,Array.getElem?_eq_getElem hi]
  have hs:t%32<d[t/32].1.size:=by rw [d[t/32].2.1];omega
  have h1:=lD hx (Array.getElem?_eq_getElem hs);rw [show t/32*32+t%32=t by omega]at h1;rw [h1];have h2:t<(flatK nH 32 d).size:=by rw [size_flatK];exact ht
  have h3:=get_flatK nH 32 d t ht;rw [getElem!_pos _ t h2]at h3;rw [Array.getElem?_toList,Array.getElem?_eq_getElem h2,h3,getElem!_pos d _ hi];rw [getElem!_pos _ _ (by rw [Bt];omega)];simp [nH]
 ·rw [List.getElem?_eq_none (by simp;omega),List.getElem?_eq_none (by rw [e9];simp;omega)]
theorem HR{F cur:Array Value}{k:Nat}(hk:F.size=k)(h:k<=cur.size):(putCells id 0 F cur).toList.take k=F.toList:=by
 apply List.ext_getElem?;intro i;rw [List.getElem?_take];split
 ·rename_i hi
  have h1:i<cur.size:=by omega
  have h2:i<F.size:=by omega
  rw [Array.getElem?_toList,Array.getElem?_toList,putCells,Array.getElem?_mapIdx,Array.getElem?_eq_getElem h1,Array.getElem?_eq_getElem h2];simp [h2]
 ·rw [List.getElem?_eq_none (by simp;omega)]
theorem wS{w:World}{b:Nat}{f:Array Value->Array Value}{cur:Array Value}{t:TypeId}{fr:Nat×Nat}(h:w.heap[b]? =some (.cells cur t fr)):(mapBlock w b f).heap[b]? =some (.cells (f cur) t fr):=by
 simp [mapBlock,Array.getElem?_modify,h,onCells]
theorem wR(w:World)(b:Nat)(f:Array Value->Array Value):Kept (· =b) w (mapBlock w b f):=
 ⟨rfl,rfl,rfl,by simp [mapBlock],fun k _ hn=>by simp [mapBlock,Array.getElem?_modify,Ne.symm hn]⟩
theorem Gw(w:World)(os:Array Obj):Kept Nil w (grow w os):=
 ⟨rfl,rfl,rfl,by simp,fun k hk _=>heap_grow_old w os hk⟩
theorem Dx(w:World)(m:Nat):Kept Nil w (Sort.ahead w m):=⟨rfl,rfl,rfl,Nat.le_refl _,fun _ _ _=>rfl⟩
section
variable{w:World}{B n c b:Nat}{l:List HT}
theorem wM(row:bI w B (some ⟨b,0,none⟩) n c l)(m:Nat)(dk:Array HT)(os:Array Obj)(hd:dk.size=n):
 bI (sortWorldK nH 32 w b 0 m dk os) B (some ⟨b,0,none⟩) n c dk.toList/\Kept (· =b) w (sortWorldK nH 32 w b 0 m dk os):=by
 have hka:=Dx w m;have k1:=wR (Sort.ahead w m) b (putCells id 0 (flatK nH 32 dk));have kk:=((hka.mono (S':=fun k=>k=b) (fun _ _ h=>h.elim)).tt k1).trans (Gw _ os) (fun _ _ h=>h.elim);refine⟨?_,?_⟩
 ·rcases Row.own row with⟨h,_⟩|⟨b',cur,hA,hB,hg,Gl,nD,nf,zy⟩
  ·cases h
  ·cases hA
   refine⟨by rw [e9,Array.length_toList,hd],.inr ⟨b,c,putCells id 0 (flatK nH 32 dk) cur,rfl,hB,?_,Gl,nD,by simp [putCells,nf],?_⟩⟩
   ·have h1:(mapBlock (Sort.ahead w m) b (putCells id 0 (flatK nH 32 dk))).heap[b]? =some (.cells (putCells id 0 (flatK nH 32 dk) cur) ag (0,0)):=wS hg
    exact(heap_grow_old _ os (aU h1)).trans h1
   ·rw [<-wk]
    refine HR (by rw [size_flatK,hd]) ?_;rw [nf];exact Nat.mul_le_mul_right _ Gl
 ·exact kk
theorem CT(row:bI w B (some ⟨b,0,none⟩) n c l):HoldsK nH 32 w b 0 l.toArray:=by
 intro j hj;rw [size_flatK]at hj;have vW:j<l.length*32:=by simpa using hj
 rw [Nat.zero_add];have hlen:=Row.len row;have hx:(flatK nH 32 l.toArray).toList[j]? =(dh l)[j]? :=by rw [wk]
 have hjs:j<(flatK nH 32 l.toArray).size:=by rw [size_flatK];exact hj
 rw [Array.getElem?_toList,Array.getElem?_eq_getElem hjs]at hx;have hc:=Row.cell row hx.symm;refine⟨?_,?_⟩
 ·rw [hc,getElem!_pos _ j hjs];rfl
 ·exact(Row.wr row (j:=j) (by rw [e9];exact vW)).2
theorem pR(x y:HT):ltOf lT x y=cY x y:=by
 unfold ltOf;cases h:cY x y
 ·exact decide_eq_false fun h'=>by rw [si.1 h']at h;cases h
 ·exact decide_eq_true (si.2 h)
theorem le_trans'{x y z:HT}(h:cY y x=false)(h':cY z y=false):cY z x=false:=by
 cases Uy:cY z x
 ·rfl
 ·exfalso
  by_cases e:y=z
  ·subst e;rw [h]at Uy;cases Uy
  ·have RX:=lt_of_le_ne h' e
   have:=kM RX Uy;rw [h]at this;cases this
theorem ZG:SWO (ltOf lT) where
 irrefl x:=by rw [pR];exact iD x
 trans x y z h h':=by rw [pR]at*;exact kM h h'
 ntrans x y z h h':=by
  rw [pR]at*;exact le_trans' h' h
theorem KV{A:Option Addr}{K:Value->World->Prop}(row:bI w B A n c l)(hn:n<=1000000)
 (hK:∀l' w',LE l'->(∀x,x∈l'↔x∈l)->bI w' B A n c l'->Kept (fun k=>bn A=some k) w w'->K (.tuple #[]) w'):
 bC prog jm.id #[.slice A n c,.func (.func dI.id) #[] #[]] w K:=by
 have hlen:=row.len;by_cases h0:n=0
 ·subst h0
  have h:=AnyF.slices_SortFunc_none Tryz.xD A c (.func (.func dI.id) #[] #[]) w;refine Calls.mono h ?_;rintro e w' ⟨rfl,rfl⟩;have:l= []:=List.eq_nil_of_length_eq_zero hlen;subst this;exact⟨_,rfl,hK [] _ List.Pairwise.nil (fun _=>Iff.rfl) row (Kept.refl _ _)⟩
 ·obtain⟨b,rfl⟩:=Row.some row (by omega)
  have hblk:b<w.heap.size:=by
   obtain⟨_,cur,hc⟩:=Row.bL row (k:=b) rfl;exact aU hc
  have ml:l.toArray.size=n:=by simpa using hlen
  have eg:∀args w,(callFunc dI.id args).run prog w=.ok (.enter dI.id args) w:=enters_of dI.at_ (by kernel_rfl) rfl;have hk:oD prog ag=.agg 32:=by kernel_rfl
  obtain⟨e32,ha⟩:=r7 hk;obtain⟨i,hi⟩:=Go.bW.info_of_underlying (P:=prog) (t:=ag) (by kernel_rfl);have acG:CmpLays prog dI.id #[] nH 32 lT b 0 l.toArray.size w:=fun m os dk _ x y=>by
   have e:(#[.agg (nH x).toArray,.agg (nH y).toArray]++ #[]:Array Value)= #[.agg x.1,.agg y.1]:=by simp [nH]
   rw [e];have h:=pX (w:=sortWorldK nH 32 w b 0 m dk os) x y (K:=fun v w'=>v=.int .i64 (lT x y)/\w'=(((sortWorldK nH 32 w b 0 m dk os).alloc (.cells x.1 ag)).alloc (.cells y.1 ag)).drew) ⟨rfl,rfl⟩;refine Calls.mono h ?_;rintro e w' ⟨v,rfl,rfl,rfl⟩;refine⟨rfl,1,#[.cells x.1 ag,.cells y.1 ag],?_⟩;rw [alloc_eq_grow,alloc_eq_grow,grow_grow,drew_grow];rfl
  have h:=AnyQ.slices_SortFunc_total Tryz.xD 32 ha (fun w=>by rw [e32];exact Go.bW.run_sizeOf hi w) nH Bt (fun x=>x.2.one) lT ZG dI.id #[] b 0 c l.toArray w eg acG (CT row) hblk (by omega)
   (fun x y h1 h2=>by rw [pR]at h1 h2;exact qq h1 h2)
  rw [ml]at h;refine Calls.mono h ?_;rintro e w' ⟨rfl,m,os,rfl⟩;have hp:=List.mergeSort_perm l.toArray.toList (fun x y=> !(ltOf lT) y x);have LY:(l.toArray.toList.mergeSort fun x y=> !(ltOf lT) y x).toArray.size=n:=by
   have:=hp.length_eq;simp only [List.size_toArray];rw [this];simpa using hlen
  obtain⟨h1,h2⟩:=wM row m _ os LY;refine⟨_,rfl,hK _ _ ?_ (fun x=>?_) h1 (h2.mono fun k _ e=>by rw [e];rfl)⟩
  ·have hs:=List.pairwise_mergeSort (le:=fun x y=> !(ltOf lT) y x) (fun a b c h h'=>by
    rw [pR]at*;simp only [Bool.not_eq_true']at*;exact le_trans' h h') (fun a b=>by
    rw [pR,pR];cases jT:cY b a
    ·rfl
    ·rw [tk jT];rfl) l.toArray.toList
   refine List.Pairwise.imp ?_ hs;intro a b jT;rw [pR]at jT;simpa using jT
  ·simp
end
end Go.Proofs.YtfleamccglihoaaGreatDoor
namespace Go.Proofs.YtfleamccglihoaaGreatDoor
open Go.Proofs.Tryz
open Go Go.bW Go.RowKit
theorem C0{l:List HT}{k:Nat}(hk:k<l.length)(x:HT):dh (l.set k x)=im (dh l) (k*32) x.1.toList:=by
 have h1:l=l.take k++l[k]::l.drop (k+1):=by rw [<-List.drop_eq_getElem_cons hk,List.take_append_drop]
 have e1:(dh (l.take k)).length=k*32:=by rw [e9,List.length_take];omega
 have hx:=x.2.1;have hl:=l[k].2.1;have hs:l.set k x=l.take k++x::l.drop (k+1):=List.set_eq_take_append_cons_drop .. |>.trans (if_pos hk)
 rw [hs]
 conv=>rhs;rw [h1]
 rw [mJ,mJ,lR,lR];generalize dh (l.take k)=p at e1;generalize dh (l.drop (k+1))=r;have eq:l[k].1.toList.length=32:=by simpa using hl
 have ev:x.1.toList.length=32:=by simpa using hx
 generalize l[k].1.toList=q at eq;generalize x.1.toList=v at ev;unfold im;rw [List.take_left' e1,ev,show p++(q++r)=(p++q)++r by simp,List.drop_left' (by rw [List.length_append,e1,eq])];simp
theorem bI.setAt{w:World}{B n c b:Nat}{l:List HT}(row:bI w B (some ⟨b,0,none⟩) n c l){k:Nat}(hk:k<n)(x:HT):
 bI (setCells w ⟨b,k*32,none⟩ x.1.toList 0) B (some ⟨b,0,none⟩) n c (l.set k x):=by
 have hlen:=row.len;have hx:=x.2.1;have:=rJ x.1.toList (dh l) w (k*32) 0 row (by rw [e9];simp;omega);rw [Nat.add_zero]at this;rw [<-C0 (by omega)]at this;exact this
theorem bI.Hl{w:World}{B n c b:Nat}{l:List HT}(row:bI w B (some ⟨b,0,none⟩) n c l){k:Nat}(hk:k<n)(j:Nat)(hj:j<32):Wr w ((⟨b,k*32,none⟩:Addr).add j):=by
 rw [bt];refine Row.wr row ?_;rw [e9,row.len];omega
theorem bI.cap{w:World}{B:Nat}{A:Option Addr}{n c:Nat}{l:List HT}(row:bI w B A n c l):n<=c:=by
 rcases Row.own row with⟨_,h1,h2,_⟩|⟨_,_,_,_,_,h1,_⟩<;>omega
theorem bI.cut{w w':World}{B n c b:Nat}{l:List HT}(row:bI w B (some ⟨b,0,none⟩) n c l){k:Nat}(hk:k<=n)(vs:List Value)(hv:vs.length=(n-k)*32)(hw:w'=setCells w ⟨b,k*32,none⟩ vs 0):
 bI w' B (some ⟨b,0,none⟩) k c (l.take k):=by
 subst hw;have hlen:=row.len;rcases Row.own row with⟨h,_⟩|⟨b',cur,hA,hB,hg,Gl,nD,nf,zy⟩
 ·cases h
 ·cases hA
  have hle:n*32<=c*32:=Nat.mul_le_mul_right _ Gl;have ml:k*32+0+vs.length<=cur.size:=by omega
  have h1:=kZ vs cur w ag (k*32) 0 hg ml;refine⟨by rw [e9,List.length_take];omega,.inr ⟨b,c,_,rfl,hB,h1,by omega,nD,?_,?_⟩⟩
  ·have:=mv (xs:=cur.toList) (k:=k*32+0) (vs:=vs) (by simpa using ml)
   rw [List.size_toArray,this];simpa using nf
  ·have e1:(dh (l.take k)).length=k*32:=by rw [e9,List.length_take];omega
   have e2:(dh l).take (k*32)=dh (l.take k):=by
    conv=>lhs;rw [<-List.take_append_drop k l,mJ]
    rw [<-e1,List.take_left'];rfl
   rw [<-e2,<-zy,List.take_take,Nat.min_eq_left (by omega)];unfold im;simp only [Nat.add_zero];rw [List.append_assoc,List.take_append_of_le_length (by simp;omega),List.take_take,Nat.min_self]
def DF(P:Program)(e:TypeId):Bool:=
 match P.info? e with
 |some i=>match i.zero with
  |some z=>z.cells.toList.all fun v=>v.oneCell'
  |none=>false
 |none=>false
theorem vg{w:World}{B n c b:Nat}{l:List HT}(row:bI w B (some ⟨b,0,none⟩) n c l){k:Nat}(hk:k<=n)(ty:Nat){A:Option Addr}{cx:Nat}(hA:k<n->A=some ⟨b,k*32,none⟩):
 ∃w',(Builtin.clear_ #[ay] ty #[.slice A (n-k) cx]).run prog w=.ok (.tuple #[]) w'/\bI w' B (some ⟨b,0,none⟩) k c (l.take k)/\Kept (· =b) w w':=by
 have hlen:=row.len;by_cases xc:k<n
 ·obtain⟨i,z,hi,hz,hs,_,Eo⟩:=pB.inf
  have LR:DF prog ag=true:=by kernel_rfl
  unfold DF at LR;rw [hi]at LR;simp only [hz,List.all_eq_true]at LR;rw [hA xc];obtain⟨m,hm⟩:∃m,n-k=m+1:=⟨n-k-1,by omega⟩;have Yu:(Builtin.zeroCells z.cells (n-k)).toList.length=(n-k)*32:=by simp [Builtin.zeroCells,Eo]
  have qy:=iU (P:=prog) ⟨b,k*32,none⟩ (Builtin.zeroCells z.cells (n-k)).toList 0 w (fun v hv=>by
   simp only [Builtin.zeroCells,Array.toList_map,List.mem_map]at hv;obtain⟨t,ht,rfl⟩:=hv;have:t%z.cells.size<z.cells.size:=Nat.mod_lt _ (by omega);rw [getElem!_pos z.cells _ this];exact LR _ (by simp)) (fun j hj=>by
   rw [Nat.zero_add,bt];refine Row.wr row ?_;rw [e9];omega)
  refine⟨_,?_,row.cut hk _ Yu rfl,fp _ _ _ _⟩;simp only [Builtin.clear_,hm];rw [hm]at qy;simp [run_underlying pB.pg,zeroValue,typeInfo,hi,hz,qy]
 ·have:n=k:=by omega
  subst this;refine⟨w,?_,by rw [List.take_of_length_le (by omega)];exact row,Kept.refl _ _⟩;rw [Nat.sub_self];cases A<;>simp [Builtin.clear_,run_underlying pB.pg]
theorem Fj:∀ {l:List HT},l.length<2->dD l=l
 | [],_=>rfl
 | [_],_=>rfl
 |_::_::_,h=>by simp only [List.length_cons]at h;omega
section
variable{w:World}{B n c:Nat}{A:Option Addr}{l:List HT}{K:Value->World->Prop}
theorem Dh(row:bI w B A n c l)(hle:LE l)(hn:n<=400000)
 (hK:∀A' c' w',bI w' B A' (dD l).length c' (dD l)->(∀k,bn A'=some k->bn A=some k)->Kept (fun k=>bn A=some k) w w'->K (.slice A' (dD l).length c') w'):
 bC prog ai.id #[.slice A n c] w K:=by
 have hlen:=row.len;refine ai.of ?_;refine Split.dec (fun h2=>?_) (fun h2=>?_)
 ·have e:dD l=l:=Fj (by omega)
  have:=hK A c w (by rw [e,hlen];exact row) (fun k h=>h) (Kept.refl _ _);rw [e,hlen]at this;exact this
 obtain⟨b,rfl⟩:=Row.some row (by omega);have C5:=row.cap;refine ai.cC (I:=fun s w'=>∃k:Nat,s=(none,0,0,(k:Int))/\1<=k/\k<=n/\SS (l.take k)/\Kept Nil w w') (μ:=fun s _=>((n:Int)-s.2.2.2).toNat) (s:=(none,0,0,1))
  ⟨1,rfl,Nat.le_refl _,by omega,?_,Kept.refl _ _⟩ ?_
 ·cases l with
  |nil=>exact List.Pairwise.nil
  |cons x l=>simp [SS]
 rintro s w' ⟨k,rfl,KA,xc,uM,kw⟩;refine Split.dec (fun jK=>?_) (fun gA=>?_)
 ·simp only at jK
  have BW:k<n:=by omega
  obtain⟨x,hx⟩:∃x,l[k]? =some x:=⟨_,List.getElem?_eq_getElem (by omega)⟩;obtain⟨y,hy⟩:∃y,l[k-1]? =some y:=⟨_,List.getElem?_eq_getElem (by omega)⟩;intro w5;have k5:Kept Nil w w5:=kw.drew;clear_value w5;have ju:bI w5 B (some ⟨b,0,none⟩) n c l:=Row.aF row k5 (fun _ _ h=>h);simp only;rw [wrapM (n:=(k:Int)) (by omega) (by omega)];have oY:cY x y=false:=hle.get (by omega) hy hx;refine ju.hs.load (i:=(k:Int)) (by omega) hx (ju.hs.load (i:=(k:Int)-1) (by omega) (by rw [show((k:Int)-1).toNat=k-1 by omega];exact hy) ⟨⟨x.2.ints,y.2.ints⟩,?_⟩);rw [dF];refine Split.dec (fun he=>?_) (fun he=>?_)
  ·refine⟨⟨by omega,by omega⟩,?_⟩
   rw [Int.toNat_natCast];rw [if_neg (show ¬c=k by omega)];simp only [Option.map_some,bt,Nat.zero_add];refine ai.gU (I:=fun s w'=>∃(p j:Nat) (l':List HT),s=((p:Int),(j:Int))/\1<=j/\k<=p/\p<k+j/\k+j<=n/\bI w' B (some ⟨b,0,none⟩) n c l'/\l'.drop (k+j-1)=l.drop (k+j-1)/\SS (l'.take p)/\(∀z,z∈l'.take p↔z∈l.take (k+j))/\Kept (· =b) w w')
    (μ:=fun s _=>((n:Int)-s.2).toNat) (s:=((k:Int),1)) ⟨k,1,l,rfl,Nat.le_refl _,Nat.le_refl _,by omega,by omega,ju,rfl,uM,fun z=>?_,k5.mono fun _ _ h=>h.elim⟩ ?_
   ·rw [bP hx]
    constructor
    ·exact .inl
    ·rintro(h|rfl)
     ·exact h
     ·rw [he]
      have:=bP (z:=y) hy;rw [show k-1+1=k by omega]at this;exact this.2 (.inr rfl)
   rintro s w1 ⟨p,j,l',rfl,hj1,VU,hpj,hjn,lM,Wt,yT,NJ,k1⟩;have Ji:=lM.len;refine Split.dec (fun QB=>?_) (fun QJ=>?_)
   ·simp only at QB
    have tU:k+j<n:=by omega
    obtain⟨u,hu⟩:∃u,l[k+j]? =some u:=⟨_,List.getElem?_eq_getElem (by omega)⟩;obtain⟨v,hv⟩:∃v,l[k+j-1]? =some v:=⟨_,List.getElem?_eq_getElem (by omega)⟩;have IP:l'[k+j]? =some u:=by
     have h:=congrArg (fun m:List HT=>m[1]?) Wt;simp only [List.getElem?_drop]at h;rw [show k+j-1+1=k+j by omega]at h;rw [h,hu]
    have hv':l'[k+j-1]? =some v:=by
     have h:=congrArg (fun m:List HT=>m[0]?) Wt;simp only [List.getElem?_drop,Nat.add_zero]at h;rw [h,hv]
    intro sy;have Gb:Kept (· =b) w sy:=k1.drew;have la:bI sy B (some ⟨b,0,none⟩) n c l':=Row.aF lM ((Kept.refl Nil w1).drew) (fun _ _ h=>h);clear_value sy;have vT:HS sy (some ⟨b,k*32,none⟩) (n-k) (l'.drop k):=by
     have h:=la.hs.drop (c:=c) C5 (k:=k) (by omega);rw [if_neg (show ¬c=k by omega)]at h;simpa [bt]using h
    have hsu:(l'.drop k)[(j:Int).toNat]? =some u:=by rw [Int.toNat_natCast,List.getElem?_drop];exact IP
    have P9:(l'.drop k)[((j:Int)-1).toNat]? =some v:=by
     rw [show((j:Int)-1).toNat=j-1 by omega,List.getElem?_drop,show k+(j-1)=k+j-1 by omega];exact hv'
    simp-zeta only;rw [wrapM (n:=(j:Int)) (by omega) (by omega)];have huv:cY u v=false:=hle.get (by omega) hv hu;refine vT.load (i:=(j:Int)) (by omega) hsu (vT.load (i:=(j:Int)-1) (by omega) P9 ⟨⟨u.2.ints,v.2.ints⟩,?_⟩);rw [dF,dM (n:=(j:Int)) (by omega) (by omega)];have hmu:∀z,z∈l.take (k+(j+1))↔z∈l'.take p\/z=u:=fun z=>by
     rw [show k+(j+1)=k+j+1 by omega,bP hu,NJ z]
    by_cases heq:u=v
    ·refine Split.no (by rw [decide_eq_true heq];rfl) ?_
     refine⟨((p:Int),(j:Int)+1),rfl,⟨p,j+1,l',rfl,by omega,VU,by omega,by omega,la,?_,yT,fun z=>?_,Gb⟩,by simp only;omega⟩
     ·have h:=congrArg (fun m:List HT=>m.drop 1) Wt
      simp only [List.drop_drop]at h;rw [show k+(j+1)-1=k+j-1+1 by omega];exact h
     ·rw [hmu z]
      constructor
      ·exact .inl
      ·rintro(h|rfl)
       ·exact h
       ·refine(NJ _).2 ?_
        rw [heq];exact List.mem_of_getElem? (i:=k+j-1) (by rw [List.getElem?_take,if_pos (by omega)];exact hv)
    ·refine Split.yes (by rw [decide_eq_false heq];rfl) ?_
     refine vT.load (i:=(j:Int)) (by omega) hsu ⟨⟨by omega,by omega⟩,⟨u.2.1,u.2.one,fun i hi=>?_⟩,?_⟩
     ·rw [Int.toNat_natCast,bt,Nat.zero_add]
      exact la.Hl (by omega) i hi
     intro G5;have UC:G5=setCells sy ⟨b,p*32,none⟩ u.1.toList 0:=by
      show setCells sy ((⟨b,0,none⟩:Addr).add ((p:Int).toNat*32)) u.1.toList 0=_
      rw [Int.toNat_natCast,bt,Nat.zero_add]
     have Ti:bI G5 B (some ⟨b,0,none⟩) n c (l'.set p u):=by rw [UC];exact la.setAt (by omega) u
     have It:Kept (· =b) w G5:=by rw [UC];exact Gb.tt (fp _ _ _ _)
     clear_value G5;rw [dM (n:=(p:Int)) (by omega) (by omega)];have zy:(l'.set p u).take (p+1)=l'.take p++ [u]:=by
      rw [List.take_add_one,List.take_set_of_le (Nat.le_refl p),List.getElem?_set_self (by omega)];rfl
     refine⟨((p:Int)+1,(j:Int)+1),rfl,⟨p+1,j+1,l'.set p u,rfl,by omega,by omega,by omega,by omega,Ti,?_,?_,fun z=>?_,It⟩,by simp only;omega⟩
     ·have h:=congrArg (fun m:List HT=>m.drop 1) Wt
      simp only [List.drop_drop]at h;rw [List.drop_set,if_pos (by omega),show k+(j+1)-1=k+j-1+1 by omega];exact h
     ·rw [zy]
      refine ET yT fun z hz=>?_;obtain⟨i,hi⟩:=List.mem_iff_getElem?.1 ((NJ z).1 hz);rw [List.getElem?_take]at hi;split at hi
      ·rename_i hik
       have hvu:cY v u=true:=lt_of_le_ne huv (fun e=>heq e.symm);by_cases e:i=k+j-1
       ·subst e;rw [hv]at hi;cases hi;exact hvu
       ·exact tN (hle.get (by omega) hi hv) hvu
      ·cases hi
     ·rw [zy,hmu z]
      simp
   ·simp only at QJ
    have hj:k+j=n:=by omega
    rw [aR,ai.jN];unfold ai.iN;refine⟨⟨by omega,by omega⟩,?_⟩;rw [Int.toNat_natCast];obtain⟨w2,hr,fV,k2⟩:=vg lM (k:=p) (by omega) 0 (A:=if c=p then some ⟨b,0,none⟩else(some ⟨b,0,none⟩:Option Addr).map (·.add (p*32))) (cx:=c-p) (fun hp=>by
     rw [if_neg (by omega)];simp [bt])
    refine⟨_,w2,hr,⟨by omega,by omega⟩,?_⟩;have e:l'.take p=dD l:=yv yT fun z=>by rw [NJ z,hj,List.take_of_length_le (by omega)]
    have el:p=(dD l).length:=by
     have h:=fV.len;rw [e]at h;exact h.symm
    have e0:(if c=0 then(some ⟨b,0,none⟩:Option Addr)else(some ⟨b,0,none⟩:Option Addr).map (·.add (0*32)))=some ⟨b,0,none⟩:=by
     rw [if_neg (by omega)];simp [add_zero]
    rw [e0,Nat.sub_zero,Nat.sub_zero];rw [e,el]at fV;have:=hK (some ⟨b,0,none⟩) c w2 fV (fun k h=>h) ((k1.tt k2).mono fun i _ h=>by rw [h];rfl);rw [<-el]at this;exact this
  ·rw [dM (n:=(k:Int)) (by omega) (by omega)]
   refine⟨(none,0,0,(k:Int)+1),rfl,⟨k+1,rfl,by omega,by omega,?_,k5⟩,by simp only;omega⟩;rw [List.take_add_one,hx];refine ET uM fun z hz=>?_;have Ep:cY y x=true:=lt_of_le_ne oY (fun e=>he e.symm);obtain⟨i,hi⟩:=List.mem_iff_getElem?.1 hz;rw [List.getElem?_take]at hi;split at hi
   ·by_cases e:i=k-1
    ·subst e;rw [hy]at hi;cases hi;exact Ep
    ·exact tN (hle.get (by omega) hi hy) Ep
   ·cases hi
 ·simp only at gA
  have e:k=n:=by omega
  subst e;rw [aR,ai.df];rw [List.take_of_length_le (by omega)]at uM;have e:dD l=l:=HE uM;have:=hK (some ⟨b,0,none⟩) c w' (by rw [e,hlen];exact Row.aF row kw (fun _ _ h=>h)) (fun k h=>h) (kw.mono fun _ _ h=>h.elim);rw [e,hlen]at this;exact this
theorem ji(hl:HS w A n l)(hn:n<=400000)
 (hK:∀A' c' w',bI w' w.heap.size A' (dD l).length c' (dD l)->Kept Nil w w'->K (.slice A' (dD l).length c') w'):
 bC prog jx.id #[.slice A n c] w K:=by
 have hlen:=hl.len;refine jx.of ?_;refine dC.of ?_;unfold dC.W;intro w2;have k2:Kept Nil w w2:=(Kept.refl _ _).alloc _;have lE:w2.heap[w.heap.size]? =some (.cells #[.slice A n c] ay (0,0)):=aH w _;clear_value w2;refine⟨_,rfl,?_⟩;refine dA.of ?_;refine wz (xs:=l) aG.at_ (by rfl) (zN (l:=l) ⟨w.heap.size,0,none⟩ (A:=A) (n:=n) (c:=c) (by omega)) (fun w' hk=>⟨(hl.same k2).same hk,by rw [aD (hk.heap lE (fun h=>h))];rfl⟩) (by omega) ?_;intro A4 c4 w4 iC k4;refine⟨A4,_,c4,rfl,?_⟩;refine KV iC (by omega) fun l5 w5 hle iY ju k5=>⟨rfl,?_⟩;refine⟨A4,_,c4,rfl,?_⟩;refine Dh ju hle (by omega) fun A6 c6 w6 rN qE k6=>⟨A6,_,c6,rfl,?_⟩;have e:dD l5=dD l:=DP iY;rw [e]at rN⊢;have Rk:∀k,bn A4=some k->w.heap.size<=k:=fun k hk=>Nat.le_trans k2.size (Row.bL iC hk).1;refine hK A6 c6 w6 (Row.base rN fun k hk=>Rk k (qE k hk)) ?_;exact((k2.tt k4).trans k5 (fun k hk h=>absurd (Rk k h) (by omega))).trans k6 (fun k hk h=>absurd (Rk k h) (by omega))
end
theorem jU{x:Nat}(h:x<18446744073709551616):u64.wrap (x:Int)=(x:Int):=by
 simp only [IntKind.wrap,IntKind.bits,IntKind.signed];simp;omega
theorem orU{x y:Nat}(hx:x<18446744073709551616)(hy:y<18446744073709551616):
 u64.wrap ((BitVec.ofInt 64 (x:Int)|||BitVec.ofInt 64 (y:Int)).toNat:Int)=((x|||y:Nat):Int):=by
 have h:(BitVec.ofInt 64 (x:Int)|||BitVec.ofInt 64 (y:Int)).toNat=x|||y:=by
  rw [BitVec.ofInt_natCast,BitVec.ofInt_natCast,BitVec.toNat_or,BitVec.toNat_ofNat,BitVec.toNat_ofNat,Nat.mod_eq_of_lt (by omega),Nat.mod_eq_of_lt (by omega)]
 rw [h];exact jU (Nat.or_lt_two_pow (n:=64) hx hy)
theorem ad3{x y:Nat}(hx:x<18446744073709551616)(hy:y<18446744073709551616):
 u64.wrap ((BitVec.ofInt 64 (x:Int)&&& BitVec.ofInt 64 (y:Int)).toNat:Int)=((x&&& y:Nat):Int):=by
 have h:(BitVec.ofInt 64 (x:Int)&&& BitVec.ofInt 64 (y:Int)).toNat=x&&& y:=by
  rw [BitVec.ofInt_natCast,BitVec.ofInt_natCast,BitVec.toNat_and,BitVec.toNat_ofNat,BitVec.toNat_ofNat,Nat.mod_eq_of_lt (by omega),Nat.mod_eq_of_lt (by omega)]
 rw [h];exact jU (Nat.lt_of_le_of_lt Nat.and_le_left hx)
theorem ZU{i:Nat}(hi:i<64):u64.wrap ((1:Int)*2 ^ (min i 64))=((2 ^ i:Nat):Int):=by
 rw [Nat.min_eq_left (by omega),Int.one_mul];have h:2 ^ i<18446744073709551616:=Nat.pow_lt_pow_right (by omega) (n:=64) hi;have:=jU h;rw [<-this];simp
def bit(ws:List Nat)(i:Nat):Bool:=(ws.getD (i/64) 0).testBit (i%64)
def okW(ws:List Nat):Prop:=∀x∈ws,x<18446744073709551616
theorem zk(i:Nat):bit [] i=false:=by simp [bit]
theorem BE(ws:List Nat)(i:Nat):bit (ws++ [0]) i=bit ws i:=by
 unfold bit
 congr 1
 simp only [List.getD_eq_getElem?_getD,List.getElem?_append];split
 ·rfl
 ·rename_i h
  rw [List.getElem?_eq_none (l:=ws) (by omega)];cases i/64-ws.length<;>simp
theorem EO{ws:List Nat}{q:Nat}(hq:q<ws.length)(v i:Nat):bit (ws.set q v) i=if i/64=q then v.testBit (i%64)else bit ws i:=by
 unfold bit;simp only [List.getD_eq_getElem?_getD,List.getElem?_set];by_cases h:i/64=q
 ·subst h;simp [hq]
 ·rw [if_neg (fun e=>h e.symm),if_neg h]
theorem D5{ws:List Nat}(h:okW ws){x:Nat}(hx:x<18446744073709551616):okW (ws++ [x]):=fun y hy=>by
 rw [List.mem_append,List.mem_singleton]at hy;rcases hy with hy|rfl
 ·exact h y hy
 ·exact hx
theorem D4{ws:List Nat}(h:okW ws){x:Nat}(hx:x<18446744073709551616)(q:Nat):okW (ws.set q x):=fun y hy=>by
 rcases List.mem_or_eq_of_mem_set hy with hy|rfl
 ·exact h y hy
 ·exact hx
def us(l:List Nat):List Value:=l.map fun x:Nat=>.int .u64 (x:Int)
theorem pq(l:List Nat):(us l).length=l.length:=by simp [us]
theorem pr{l:List Nat}{j x:Nat}(h:l[j]? =some x):(us l)[j]? =some (.int .u64 (x:Int)):=by simp [us,h]
theorem yq(l:List Nat)(q v:Nat):(us l).set q (.int .u64 (v:Int))=us (l.set q v):=by simp [us,List.map_set]
theorem OP(l m:List Nat):us (l++m)=us l++us m:=by simp [us]
structure US(w:World)(A:Option Addr)(n:Nat)(l:List Nat):Prop where
 len:l.length=n
 at_:∀(i x:Nat),l[i]? =some x->∃a,A=some a/\a.block<w.heap.size/\w.cell? (a.add i)=some (.int .u64 (x:Int))
theorem US.aF{S:Nat->Prop}{w w':World}{A:Option Addr}{n:Nat}{l:List Nat}(h:US w A n l)(hk:Kept S w w')(hn:∀a,A=some a->¬S a.block):US w' A n l:=⟨h.len,fun i x hi=>by
 obtain⟨a,h1,h2,h3⟩:=h.at_ i x hi;exact⟨a,h1,Nat.lt_of_lt_of_le h2 hk.size,hk.cell h3 (by rw [fg];exact hn a h1)⟩⟩
theorem US.load{w:World}{A:Option Addr}{n:Nat}{l:List Nat}(hl:US w A n l){i:Int}{x:Nat}(h0:0<=i)(hx:l[i.toNat]? =some x){k:Int->Prop}(hk:k x):
 (0<=i/\i<(n:Int))/\Is A fun a=>∃t:Int,w.cell? (a.add (i.toNat*1))=some (.int .u64 t)/\k t:=by
 obtain⟨a,rfl,_,hc⟩:=hl.at_ _ x hx;have:=(lgeS hx).1;have:=hl.len;exact⟨⟨h0,by omega⟩,x,by rw [Nat.mul_one];exact hc,hk⟩
theorem OY:zE prog lG jg 1 8:=⟨by kernel_rfl,by kernel_rfl⟩
abbrev lr(w:World)(B:Nat)(A:Option Addr)(n c:Nat)(l:List Nat):Prop:=Row w B jg 1 A n c (us l)
section
variable{w w':World}{B n c:Nat}{A:Option Addr}{l:List Nat}
theorem lr.len(h:lr w B A n c l):l.length=n:=by have:=Row.len h;rw [pq]at this;omega
theorem lr.us(h:lr w B A n c l):US w A n l:=⟨h.len,fun i x hi=>by
 have hlen:=h.len;have:=(lgeS hi).1;obtain⟨b,rfl⟩:=Row.some h (by omega);obtain⟨_,cur,kF⟩:=Row.bL h (k:=b) rfl;exact⟨_,rfl,aU kF,by rw [bt,Nat.zero_add];exact Row.cell h (pr hi)⟩⟩
theorem HB(i:Nat):((i:Int).tdiv 64)=((i/64:Nat):Int):=by
 rw [Int.tdiv_eq_ediv_of_nonneg (by omega)];omega
theorem OU(i:Nat):((i:Int).tmod 64)=((i%64:Nat):Int):=by
 rw [Int.tmod_eq_emod_of_nonneg (by omega)];omega
theorem ud(h:lr w B A n c l)(hn:n<=1000000)(hB:B<=w.heap.size){t:Nat}(x:Nat):
 ∃A' c' w',(Builtin.append_ #[lG,lG] lG #[.slice A n c,.slice (some ⟨w.heap.size,0,none⟩) 1 1]).run prog (w.alloc (.cells #[.int .u64 (x:Int)] t))=.ok (.slice A' (n+1) c') w'/\
  lr w' B A' (n+1) c' (l++ [x])/\Kept (fun k=>bn A=some k) w w'/\(∀k,bn A'=some k->bn A=some k\/w.heap.size<=k):=by
 have k1:Kept Nil w (w.alloc (.cells #[.int .u64 (x:Int)] t)):=(Kept.refl _ _).alloc _;have hb:=aH w (.cells #[.int .u64 (x:Int)] t);have h1:lr (w.alloc (.cells #[.int .u64 (x:Int)] t)) B A n c l:=Row.aF h k1 (fun _ _ h=>h);obtain⟨A',c',w',hr,fF,hg,xh⟩:=fP (P:=prog) (t:=lG) (ty:=lG) (bytes:=8) OY h1 (a:=⟨w.heap.size,0,none⟩) (m:=1) (cx:=1) (news:=us [x]) rfl
  (fun j u hj=>by rw [bt,Nat.zero_add,aD hb];simpa [us]using hj) (fun u hu=>by simp [us]at hu;subst hu;rfl) (by omega) (by unfold maxLen;omega) (by have:=k1.size;omega)
 refine⟨A',c',w',hr,?_,?_,fun k hk=>?_⟩
 ·show Row w' B jg 1 A' (n+1) c' (Proofs.YtfleamccglihoaaGreatDoor.us (l++ [x]))
  rw [OP];exact fF
 ·exact(k1.mono (S':=fun k=>bn A=some k) (fun _ _ h=>h.elim)).tt (Kept.grown (S:=fun k=>bn A=some k) (Kept.refl _ _) hg (fun k hk _=>hk))
 ·rcases xh k hk with h|h
  ·exact .inl h
  ·have:=k1.size;exact .inr (by omega)
theorem zT{b:Nat}(h:lr w B (some ⟨b,0,none⟩) n c l){q:Nat}(hq:q<n)(x:Nat):
 lr (w.setCell ⟨b,q,none⟩ (.int .u64 (x:Int))) B (some ⟨b,0,none⟩) n c (l.set q x):=by
 have:=Row.set h (j:=q) (by rw [pq,h.len];exact hq) (.int .u64 (x:Int));rw [yq]at this;exact this
theorem zY{K:Value->World->Prop}(h:lr w B A n c l)(ho:okW l)(hn:n<=100000)(hB:B<=w.heap.size){i:Nat}(hi:i<=1000000)
 (hK:∀A' n' c' l' w',lr w' B A' n' c' l'->okW l'->(n'<=n\/n'<=i/64+1)->(∀j,bit l' j=(bit l j||decide (j=i)))->Kept (fun k=>bn A=some k) w w'->(∀k,bn A'=some k->bn A=some k\/w.heap.size<=k)->K (.slice A' n' c') w'):
 bC prog bT.id #[.slice A n c,.int .i64 (i:Int)] w K:=by
 refine bT.of ?_;refine bT.cC (I:=fun s w'=>∃A' n' c' l',s=(A',n',c')/\lr w' B A' n' c' l'/\okW l'/\(n'<=n\/n'<=i/64+1)/\(∀j,bit l' j=bit l j)/\Kept (fun k=>bn A=some k) w w'/\(∀k,bn A'=some k->bn A=some k\/w.heap.size<=k))
  (μ:=fun s _=>i/64+1-s.2.1) (s:=(A,n,c)) ⟨A,n,c,l,rfl,h,ho,.inl (Nat.le_refl _),fun _=>rfl,Kept.refl _ _,fun k hk=>.inl hk⟩ ?_
 rintro s w' ⟨A',n',c',l',rfl,row,Kz,hn',qD,kw,hb⟩;unfold bT.B1;rw [HB,gF (by omega) (by omega)];refine⟨by omega,?_⟩;refine Split.dec (fun hle=>?_) (fun xY=>?_)
 ·simp only at hle
  have ajN:n'<=i/64:=by omega
  obtain⟨A2,c2,w2,hr,fV,k2,lE⟩:=ud row (by omega) (Nat.le_trans hB kw.size) (t:=jg) 0;intro w6;refine⟨A2,n'+1,c2,w2,hr,?_⟩;refine⟨(A2,n'+1,c2),rfl,⟨A2,n'+1,c2,l'++ [0],rfl,fV,D5 Kz (by omega),by omega,fun j=>by rw [BE,qD],?_,fun k hk=>?_⟩,by simp only;omega⟩
  ·exact kw.trans k2 (fun k hk e=>by
    rcases hb k e with h|h
    ·exact h
    ·omega)
  ·rcases lE k hk with h|h
   ·exact hb k h
   ·exact .inr (Nat.le_trans kw.size h)
 ·simp only at xY
  have dS:i/64<n':=by omega
  rw [aR,bT.df];unfold bT.cU;intro lK;have um:Kept Nil w' lK:=(Kept.refl _ _).drew;have Wt:lK=w'.drew:=rfl;clear_value lK;have vi:lr lK B A' n' c' l':=Row.aF row um (fun _ _ h=>h);have hlen:=row.len;rw [HB,OU,gF (by omega) (by omega)];obtain⟨b,rfl⟩:=Row.some vi (by omega);obtain⟨x,hx⟩:∃x,l'[i/64]? =some x:=⟨_,List.getElem?_eq_getElem (by omega)⟩;refine⟨by omega,vi.us.load (by omega) (by rw [Int.toNat_natCast];exact hx) ⟨by omega,by omega,⟨⟨by omega,by simp only;omega⟩,?_⟩⟩⟩;have sZ:=Kz x (List.mem_of_getElem? hx);have hp:2 ^ (i%64)<18446744073709551616:=Nat.pow_lt_pow_right (by omega) (n:=64) (Nat.mod_lt _ (by omega));simp only [Is,Int.toNat_natCast,Nat.mul_one,bt,Nat.zero_add];rw [ZU (Nat.mod_lt _ (by omega)),orU sZ hp];refine⟨Row.wr vi (by rw [pq,hlen];exact dS),?_⟩;have qx:Kept (fun k=>bn A=some k) w (lK.setCell ⟨b,i/64,none⟩ (.int .u64 ((x|||2 ^ (i%64):Nat):Int))):=
   Kept.setCell (kw.trans um (fun _ _ h=>h.elim)) (p:=⟨b,i/64,none⟩) (fun cY=>by
    rcases hb b rfl with h|h
    ·exact h
    ·exact absurd cY (by simp only;omega)) _
  refine hK _ _ _ _ _ (zT vi dS _) (D4 Kz (Nat.or_lt_two_pow (n:=64) sZ hp) _) hn' (fun j=>?_) qx hb;rw [EO (by omega),qD];have hbi:bit l' i=x.testBit (i%64):=by unfold bit;rw [List.getD_eq_getElem?_getD,hx];rfl
  by_cases e:j/64=i/64
  ·rw [if_pos e,Nat.testBit_or,Nat.testBit_two_pow]
   have hbj:bit l' j=x.testBit (j%64):=by unfold bit;rw [e,List.getD_eq_getElem?_getD,hx];rfl
   rw [<-hbj,qD]
   congr 1
   exact decide_eq_decide.2 ⟨fun h=>by omega,fun h=>by rw [h]⟩
  ·rw [if_neg e,decide_eq_false (fun h=>e (by rw [h]))]
   simp
end
section
variable{w w':World}{B n c:Nat}{A:Option Addr}{l:List Nat}
theorem xE{K:Value->World->Prop}(h:lr w B A n c l)(ho:okW l)(hn:n<=100000)(hB:B<=w.heap.size){A2:Option Addr}{n2 c2:Nat}{v:List Nat}(hv:US w A2 n2 v)(hv':okW v)(YF:n2<=100000)
 (W6:∀a,A2=some a->∀k,bn A=some k->a.block≠k)
 (hK:∀A' n' c' l' w',lr w' B A' n' c' l'->okW l'->(n'<=n\/n'<=n2)->(∀j,bit l' j=(bit l j||bit v j))->Kept (fun k=>bn A=some k) w w'->(∀k,bn A'=some k->bn A=some k\/w.heap.size<=k)->K (.slice A' n' c') w'):
 bC prog cG.id #[.slice A n c,.slice A2 n2 c2] w K:=by
 have afw:=hv.len;refine cG.of ?_;refine cG.cC (I:=fun s w'=>∃(i:Nat) (A':Option Addr) (n' c':Nat) (l':List Nat),s=(A',n',c',(i:Int))/\i<=n2/\lr w' B A' n' c' l'/\okW l'/\i<=n'/\n<=n'/\(n'<=n\/n'<=i)/\(∀j,bit l' j=(bit l j||(decide (j/64<i)&&bit v j)))/\Kept (fun k=>bn A=some k) w w'/\(∀k,bn A'=some k->bn A=some k\/w.heap.size<=k))
  (μ:=fun s _=>((n2:Int)-s.2.2.2).toNat) (s:=(A,n,c,0)) ⟨0,A,n,c,l,rfl,Nat.zero_le _,h,ho,Nat.zero_le _,Nat.le_refl _,.inl (Nat.le_refl _),by simp,Kept.refl _ _,fun k hk=>.inl hk⟩ ?_
 rintro s w' ⟨i,A',n',c',l',rfl,hi,row,Kz,gK,Vr,YE,qD,kw,hb⟩;have Ji:=row.len;refine Split.dec (fun jK=>?_) (fun gA=>?_)
 ·simp only at jK
  have dS:i<n2:=by omega
  obtain⟨x,hx⟩:∃x,v[i]? =some x:=⟨_,List.getElem?_eq_getElem (by omega)⟩;have sZ:=hv' x (List.mem_of_getElem? hx);have hvw:US w' A2 n2 v:=hv.aF kw (fun a ha e=>W6 a ha _ e rfl);refine hvw.load (i:=(i:Int)) (by omega) hx ?_;have step:∀(A2:Option Addr) (n3 c3:Nat) (l3:List Nat) (w3:World),lr w3 B A2 n3 c3 l3->okW l3->i<n3->n<=n3->(n3<=n\/n3<=i+1)->(∀j,bit l3 j=(bit l j||(decide (j/64<i)&&bit v j)))->Kept (fun k=>bn A=some k) w w3->(∀k,bn A2=some k->bn A=some k\/w.heap.size<=k)->
   (0<=(i:Int)/\(i:Int)<(n3:Int))/\Is A2 fun a=>∃t:Int,w3.cell? (a.add ((i:Int).toNat*1))=some (.int .u64 t)/\(0<=(i:Int)/\(i:Int)<(n3:Int))/\Is A2 fun a'=>Wr w3 (a'.add ((i:Int).toNat*1))/\
     ∃(l4:List Nat),
     lr (w3.setCell (a'.add ((i:Int).toNat*1)) (.int .u64 (u64.wrap ((BitVec.ofInt 64 t|||BitVec.ofInt 64 (x:Int)).toNat)))) B A2 n3 c3 l4/\okW l4/\(∀j,bit l4 j=(bit l j||(decide (j/64<i+1)&&bit v j)))/\Kept (fun k=>bn A=some k) w (w3.setCell (a'.add ((i:Int).toNat*1)) (.int .u64 (u64.wrap ((BitVec.ofInt 64 t|||BitVec.ofInt 64 (x:Int)).toNat)))):=by
   intro A2 n3 c3 l3 w3 lj Vl hi3 hn3 ajC Ob k3 mK;have afX:=lj.len;obtain⟨b,rfl⟩:=Row.some lj (by omega);obtain⟨y,hy⟩:∃y,l3[i]? =some y:=⟨_,List.getElem?_eq_getElem (by omega)⟩;have hyl:=Vl y (List.mem_of_getElem? hy);refine lj.us.load (i:=(i:Int)) (by omega) hy ⟨⟨by omega,by omega⟩,?_⟩;simp only [Is,Int.toNat_natCast,Nat.mul_one,bt,Nat.zero_add];rw [orU hyl sZ];refine⟨Row.wr lj (by rw [pq];omega),l3.set i (y|||x),zT lj hi3 _,D4 Vl (Nat.or_lt_two_pow (n:=64) hyl sZ) _,fun j=>?_,?_⟩
   ·rw [EO (by omega),Ob]
    have EF:j/64=i->bit v j=x.testBit (j%64):=fun e=>by unfold bit;rw [e,List.getD_eq_getElem?_getD,hx];rfl
    have KD:j/64=i->bit l3 j=y.testBit (j%64):=fun e=>by unfold bit;rw [e,List.getD_eq_getElem?_getD,hy];rfl
    by_cases e:j/64=i
    ·rw [if_pos e,Nat.testBit_or,<-KD e,<-EF e,Ob]
     rw [decide_eq_false (show ¬j/64<i by omega),decide_eq_true (show j/64<i+1 by omega)];simp
    ·rw [if_neg e]
     congr 2
     exact decide_eq_decide.2 (by omega)
   ·refine Kept.setCell k3 (p:=⟨b,i,none⟩) (fun cY=>?_) _
    rcases mK b rfl with h|h
    ·exact h
    ·exact absurd cY (by simp only;omega)
  by_cases he:i=n'
  ·refine Split.yes (by simp [he]) ?_
   obtain⟨Hi,zB,w2,hr,fV,k2,lE⟩:=ud row (by omega) (Nat.le_trans hB kw.size) (t:=jg) 0;intro w10;refine⟨Hi,n'+1,zB,w2,hr,?_⟩;have st:=step Hi (n'+1) zB (l'++ [0]) w2 fV (D5 Kz (by omega)) (by omega) (by omega) (by omega) (fun j=>by rw [BE,qD])
    (kw.trans k2 (fun k hk e=>by
      rcases hb k e with h|h
      ·exact h
      ·omega)) (fun k hk=>by
      rcases lE k hk with h|h
      ·exact hb k h
      ·exact .inr (Nat.le_trans kw.size h))
   clear step;obtain⟨s1,s2⟩:=st;refine⟨s1,?_⟩;cases Hi with
   |none=>exact s2.elim
   |some a=>
    obtain⟨t,s3,s4,s5,l4,s6,s7,s8,s9⟩:=s2;refine⟨t,s3,s4,s5,?_⟩;intro jH;simp only;rw [dM (n:=(i:Int)) (by omega) (by omega)];exact⟨(some a,n'+1,zB,(i:Int)+1),rfl,⟨i+1,some a,n'+1,zB,l4,rfl,dS,s6,s7,by omega,by omega,by omega,s8,s9,fun k hk=>by
     rcases lE k hk with h|h
     ·exact hb k h
     ·exact .inr (Nat.le_trans kw.size h)⟩,by simp only;omega⟩
  ·refine Split.no (beq_eq_false_iff_ne.2 (by simp only;omega)) ?_
   have st:=step A' n' c' l' w' row Kz (by omega) Vr (by omega) qD kw hb;clear step;obtain⟨s1,s2⟩:=st;refine⟨s1,?_⟩;cases A' with
   |none=>exact s2.elim
   |some a=>
    obtain⟨t,s3,s4,s5,l4,s6,s7,s8,s9⟩:=s2;refine⟨t,s3,s4,s5,?_⟩;intro jH;simp only;rw [dM (n:=(i:Int)) (by omega) (by omega)];exact⟨(some a,n',c',(i:Int)+1),rfl,⟨i+1,some a,n',c',l4,rfl,dS,s6,s7,by omega,Vr,by omega,s8,s9,hb⟩,by simp only;omega⟩
 ·simp only at gA
  have:i=n2:=by omega
  subst this;rw [aR,cG.df];refine hK A' n' c' l' w' row Kz (by omega) (fun j=>?_) kw hb;rw [qD]
  congr 1
  by_cases e:j/64<i
  ·rw [decide_eq_true e];simp
  ·rw [decide_eq_false e]
   unfold bit;rw [List.getD_eq_getElem?_getD,List.getElem?_eq_none (by omega)];simp
end
theorem BJ:∀k m:Nat,(2 ^ k*(2*m+1))&&& (2 ^ k*(2*m+1)-1)=2 ^ (k+1)*m
 |0,m=>by
  apply Nat.eq_of_testBit_eq;intro i;rw [Nat.testBit_and];cases i with
  |zero=>simp [Nat.testBit_zero]
  |succ i=>
   simp only [Nat.testBit_succ];rw [show(2 ^ 0*(2*m+1))/2=m by omega,show(2 ^ 0*(2*m+1)-1)/2=m by omega,show 2 ^ (0+1)*m/2=m by omega];simp
 |k+1,m=>by
  have ih:=BJ k m;have hp:0<2 ^ k*(2*m+1):=Nat.mul_pos (Nat.pow_pos (by omega)) (by omega);rw [show 2 ^ (k+1)*(2*m+1)=2*(2 ^ k*(2*m+1))by rw [Nat.pow_succ];ac_rfl,show 2 ^ (k+1+1)*m=2*(2 ^ (k+1)*m)by rw [Nat.pow_succ 2 (k+1)];ac_rfl];generalize 2 ^ k*(2*m+1)=x at ih hp⊢;rw [<-ih];apply Nat.eq_of_testBit_eq;intro i;rw [Nat.testBit_and];cases i with
  |zero=>simp [Nat.testBit_zero]
  |succ i=>
   simp only [Nat.testBit_succ];rw [show 2*x/2=x by omega,show(2*x-1)/2=x-1 by omega,show 2*(x&&& (x-1))/2=x&&& (x-1)by omega,Nat.testBit_and]
theorem D7{x:Nat}(h0:x≠0)(hx:x<18446744073709551616):Lib.ctz 64 x<64/\x.testBit (Lib.ctz 64 x)=true/\∀t,(x&&& (x-1)).testBit t=(x.testBit t&&decide (t≠Lib.ctz 64 x)):=by
 obtain⟨m,h1,h2⟩:=Lib.ctzFrom_spec 64 x (by omega) hx;have e:Lib.ctz 64 x=Lib.ctzFrom 64 x:=by unfold Lib.ctz;rw [if_neg h0]
 rw [e];generalize Lib.ctzFrom 64 x=k at h1 h2⊢;have hand:x&&& (x-1)=2 ^ (k+1)*m:=by rw [h1];exact BJ k m
 have hb:∀t,x.testBit t=(decide (t>=k)&&(2*m+1).testBit (t-k)):=fun t=>by rw [h1,Nat.testBit_two_pow_mul]
 refine⟨h2,by rw [hb];simp,fun t=>?_⟩;rw [hand,Nat.testBit_two_pow_mul,hb];by_cases ht:t=k
 ·subst ht
  simp;intro h;omega
 ·rw [decide_eq_true ht,Bool.and_true]
  by_cases hk:t>=k
  ·obtain⟨d,hd⟩:∃d,t-k=d+1:=⟨t-k-1,by omega⟩
   rw [decide_eq_true hk,decide_eq_true (show t>=k+1 by omega),hd,show t-(k+1)=d by omega,Nat.testBit_succ,show(2*m+1)/2=m by omega]
  ·rw [decide_eq_false hk,decide_eq_false (show ¬t>=k+1 by omega)]
   simp
theorem zo{x:Nat}(h0:x≠0):x&&& (x-1)<x:=Nat.lt_of_le_of_lt Nat.and_le_right (by omega)
def vK(x:Nat):List Nat:=if h:x=0 then []else Lib.ctz 64 x::vK (x&&& (x-1))
termination_by x
decreasing_by exact zo h
theorem xM:vK 0= []:=by rw [vK];simp
theorem xO{x:Nat}(h0:x≠0):vK x=Lib.ctz 64 x::vK (x&&& (x-1)):=by rw [vK,dif_neg h0]
theorem xN:∀(x:Nat),x<18446744073709551616->(∀t,t∈vK x↔x.testBit t=true)/\(vK x).Nodup/\∀t∈vK x,t<64:=by
 intro x
 induction x using Nat.strongRecOn with
 |_ x ih=>
  intro hx;by_cases h0:x=0
  ·subst h0;rw [xM];simp
  ·obtain⟨h1,h2,h3⟩:=D7 h0 hx
   obtain⟨i1,i2,i3⟩:=ih _ (zo h0) (Nat.lt_trans (zo h0) hx);rw [xO h0];refine⟨fun t=>?_,?_,fun t ht=>?_⟩
   ·rw [List.mem_cons,i1,h3]
    by_cases e:t=Lib.ctz 64 x
    ·rw [e,h2];simp
    ·simp [e]
   ·rw [List.nodup_cons,i1,h3]
    exact⟨by simp,i2⟩
   ·rcases List.mem_cons.1 ht with rfl|ht
    ·exact h1
    ·exact i3 t ht
def pO:Nat->List Nat->List Nat
 |_,[]=> []
 |k,x::ws=>(vK x).map (64*k+ ·)++pO (k+1) ws
theorem JY(x:Nat)(ws:List Nat)(j:Nat):bit (x::ws) j=if j<64 then x.testBit j else bit ws (j-64):=by
 unfold bit;split
 ·rename_i h
  rw [show j/64=0 by omega,show j%64=j by omega];rfl
 ·rename_i h
  rw [show j/64=(j-64)/64+1 by omega,show j%64=(j-64)%64 by omega];rfl
theorem pQ:∀(ws:List Nat) (k j:Nat),okW ws->(j∈pO k ws↔64*k<=j/\bit ws (j-64*k)=true)
 | [],k,j,_=>by simp [pO,bit]
 |x::ws,k,j,ho=>by
  obtain⟨h1,_,h3⟩:=xN x (ho x (by simp));have ih:=pQ ws (k+1) j (fun y hy=>ho y (by simp [hy]));rw [pO,List.mem_append,ih,JY,List.mem_map];constructor
  ·rintro(⟨t,ht,rfl⟩|⟨h,hb⟩)
   ·have:=h3 t ht
    refine⟨by omega,?_⟩;rw [if_pos (by omega),show 64*k+t-64*k=t by omega];exact(h1 t).1 ht
   ·refine⟨by omega,?_⟩
    rw [if_neg (by omega),show j-64*k-64=j-64*(k+1)by omega];exact hb
  ·rintro⟨h,hb⟩
   split at hb
   ·exact .inl ⟨j-64*k,(h1 _).2 hb,by omega⟩
   ·refine .inr ⟨by omega,?_⟩
    rw [show j-64*(k+1)=j-64*k-64 by omega];exact hb
theorem vC:∀ {l m:List Nat},l.Nodup->(∀x∈l,x∈m)->l.length<=m.length
 | [],_,_,_=>Nat.zero_le _
 |x::l,m,hn,h=>by
  rw [List.nodup_cons]at hn;have hx:=h x (by simp);have:=vC (l:=l) (m:=m.erase x) hn.2 (fun y hy=>by
   have fM:y≠x:=fun e=>hn.1 (e▸hy);exact(List.mem_erase_of_ne fM).2 (h y (by simp [hy])))
  rw [List.length_erase_of_mem hx]at this;have jF:0<m.length:=List.length_pos_of_mem hx;simp only [List.length_cons];omega
def uA(w:World):Prop:=TabAt (Tryz.jV.g 1) Lib.deBruijn64tab w
theorem uA.aF{S:Nat->Prop}{w w':World}(h:uA w)(hk:Kept S w w')(hn:¬S (Tryz.jV.g 1)):uA w':=fun j hj=>hk.cell (h j hj) hn
theorem uA.same{w w':World}(h:uA w)(hk:Kept Nil w w'):uA w':=h.aF hk fun h=>h
theorem uA.lt{w:World}(h:uA w):Tryz.jV.g 1<w.heap.size:=World.block_lt_of_cell? w _ (h 0 (by decide))
section
variable{w:World}{K:Value->World->Prop}
theorem SV{x:Nat}(hx:x<18446744073709551616)(hT:uA w)(hK:K (.int .i64 (Lib.ctz 64 x:Nat)) w):bC prog bits_TrailingZeros64.id #[.int .u64 (x:Int)] w K:=by
 refine Calls.mono (Any7.bits_TrailingZeros64 Tryz.tzL x hx w (fun _=>hT)) ?_;rintro e w' ⟨rfl,rfl⟩;exact⟨_,rfl,hK⟩
abbrev encI(i:Nat):List Value:= [.int .i64 (i:Int)]
theorem J0(p:Addr){A:Option Addr}{n c:Nat}{l:List Nat}(hn:n<=100000)(ho:okW l):
 oo prog aJ.id #[] #[.pointer (some p)] ((pO 0 l).map encI) (fun w=>US w A n l/\w.cell? p=some (.slice A n c)/\uA w):=by
 intro y I D w0 hI hD oG h0 oF;refine aJ.of ?_;obtain⟨Be,LQ,_⟩:=oG 0 w0 h0;have hlen:=Be.len;refine⟨A,n,c,LQ,?_⟩;refine aJ.cC (I:=fun s w'=>∃(i:Nat) (dn:List Nat),s=(i:Int)/\i<=n/\dn++pO i (l.drop i)=pO 0 l/\I dn.length w') (μ:=fun s _=>((n:Int)-s).toNat) (s:=0) ⟨0,[],rfl,Nat.zero_le _,rfl,h0⟩ ?_;rintro s w' ⟨i,dn,rfl,hi,Jn,hw⟩;refine Split.dec (fun jK=>?_) (fun gA=>?_)
 ·have dS:i<n:=by omega
  obtain⟨x,hx⟩:∃x,l[i]? =some x:=⟨_,List.getElem?_eq_getElem (by omega)⟩;have sZ:=ho x (List.mem_of_getElem? hx);have hl:=(oG _ w' hw).1;have vY:l.drop i=x::l.drop (i+1):=by
   obtain⟨h1,h2⟩:=lgeS hx;rw [List.drop_eq_getElem_cons h1,h2]
  rw [vY,pO]at Jn;refine hl.load (i:=(i:Int)) (by omega) hx ?_;refine aJ.gU (I:=fun s w'=>∃(v:Nat) (dn:List Nat),s=(v:Int)/\v<18446744073709551616/\dn++((vK v).map (64*i+ ·)++pO (i+1) (l.drop (i+1)))=pO 0 l/\I dn.length w') (μ:=fun s _=>s.toNat) (s:=(x:Int)) ⟨x,dn,rfl,sZ,Jn,hw⟩ ?_;clear hw Jn;rintro s w1 ⟨v,Ze,rfl,hv,Jm,Kw⟩;by_cases h0:v=0
  ·refine Split.no (by subst h0;rfl) ?_
   rw [aR,aJ.jN];unfold aJ.iN;rw [dM (n:=(i:Int)) (by omega) (by omega)];rw [h0,xM,List.map_nil,List.nil_append]at Jm;exact⟨(i:Int)+1,rfl,⟨i+1,Ze,rfl,dS,Jm,Kw⟩,by simp only;omega⟩
  ·refine Split.yes (bne_iff_ne.2 (by omega)) ?_
   have LN:=oG _ w1 Kw;obtain⟨hk,NN,hkr⟩:=D7 h0 hv;rw [xO h0,List.map_cons,List.cons_append]at Jm;refine SV hv LN.2.2 ⟨_,rfl,?_⟩;have gV:((pO 0 l).map encI)[Ze.length]? =some (encI (64*i+Lib.ctz 64 v)):=by
    rw [List.getElem?_map,<-Jm,List.getElem?_append_right (Nat.le_refl _),Nat.sub_self];rfl
   have CH:i64.wrap (i64.wrap ((64:Int)*(i:Int))+((Lib.ctz 64 v:Nat):Int))=((64*i+Lib.ctz 64 v:Nat):Int):=by
    rw [gF (x:=(64:Int)*(i:Int)) (by omega) (by omega),gF (by omega) (by omega)];omega
   rw [CH];refine(oF Ze.length _ w1 gV Kw).mono ?_;rintro b jn ⟨ht,hf⟩;have nz:u64.wrap ((BitVec.ofInt 64 (v:Int)&&& BitVec.ofInt 64 (u64.wrap ((v:Int)-(1:Int)))).toNat:Int)=((v&&& (v-1):Nat):Int):=by
    have e1:(v:Int)-1=((v-1:Nat):Int):=by omega
    rw [e1,jU (x:=v-1) (by omega),ad3 hv (by omega)]
   cases b with
   |true=>
    refine Split.no rfl ?_;rw [nz];have cY:=zo h0;refine⟨((v&&& (v-1):Nat):Int),rfl,⟨v&&& (v-1),Ze++ [64*i+Lib.ctz 64 v],rfl,by omega,by rw [List.append_assoc];exact Jm,?_⟩,by simp only;omega⟩;rw [List.length_append];exact ht rfl
   |false=>
    refine Split.yes rfl ?_;exact Or.inr (hf rfl)
 ·rw [aR,aJ.df]
  have e:i=n:=by omega
  subst e;refine Or.inl ?_;rw [List.drop_eq_nil_of_le (by omega),pO,List.append_nil]at Jn;rw [List.length_map,<-Jn];exact hw
end
def pos(h:HT):List HT->Nat->Option Nat
 | [],_=>none
 |x::l,i=>if h=x then some i else pos h l (i+1)
theorem pJ{h:HT}:∀ {l:List HT} {i:Nat},pos h l i=none↔h∉l
 | [],i=>by simp [pos]
 |x::l,i=>by
  unfold pos;split
  ·rename_i e;simp [e]
  ·rename_i e
   rw [pJ (l:=l)];simp [e]
theorem vu{h:HT}:∀ {l:List HT} {i j:Nat},pos h l i=some j->i<=j/\l[j-i]? =some h
 | [],i,j,e=>by simp [pos]at e
 |x::l,i,j,e=>by
  unfold pos at e;split at e
  ·rename_i hx
   cases e;subst hx;exact⟨Nat.le_refl _,by rw [Nat.sub_self];rfl⟩
  ·obtain⟨h1,h2⟩:=vu e
   refine⟨by omega,?_⟩;rw [show j-i=(j-(i+1))+1 by omega];exact h2
theorem ly{h:HT}:∀ {l:List HT} (i j:Nat),l.Nodup->l[j]? =some h->pos h l i=some (i+j)
 | [],i,j,_,e=>by simp at e
 |x::l,i,0,_,e=>by
  simp only [List.getElem?_cons_zero,Option.some.injEq]at e;unfold pos;rw [if_pos e.symm];simp
 |x::l,i,j+1,hn,e=>by
  simp only [List.getElem?_cons_succ]at e;rw [List.nodup_cons]at hn;unfold pos;rw [if_neg (fun hx=>hn.1 (by rw [<-hx];exact List.mem_of_getElem? e)),ly (i+1) j hn.2 e]
  congr 1
  omega
section
variable{w:World}
theorem KQ:prog.underlying ag=some (.array 32 jb):=by kernel_rfl
theorem OQ:prog.underlying jb=some (.int .u8):=by kernel_rfl
theorem Nf:∃i,prog.info? jb=some i/\i.size=1:=by
 have h:(match prog.info? jb with|some i=>Nat.beq i.size 1|none=>false)=true:=by kernel_rfl
 split at h
 ·rename_i i hi;exact⟨i,hi,Nat.eq_of_beq_eq_true h⟩
 ·cases h
theorem OR:prog.underlying cO=some (.map ag eW):=by kernel_rfl
theorem vd(a b:HT)(w:World):(Op.equal ag (.agg a.1) (.agg b.1)).run prog w=.ok (decide (a=b)) w:=by
 obtain⟨i,hi,h1⟩:=Nf;have:=pD (P:=prog) 9998 w KQ OQ hi h1 a.2.ints b.2.ints;rw [dF]at this;simp only [Op.equal,Op.maxDepth];exact this
theorem jt(h:HT)(em:Bool)(w:World):(Instr.checkKey em 10000 ag (.agg h.1)).run prog w=.ok () w:=by
 obtain⟨i,hi,h1⟩:=Nf;have hc:prog.cellsOf jb=1:=by simp [Program.cellsOf,hi,h1]
 rw [show(10000:Nat)=9999+1 from rfl,Instr.checkKey];simp only [Sem.run_bind,run_underlying KQ,Result.andThen_ok];simp only [Std.Legacy.Range.forIn_eq_forIn_range',Std.Legacy.Range.size,Nat.sub_zero,Nat.add_one_sub_one,Nat.div_one];have each:∀j∈List.range' 0 32,∃v,h.1[j]? =some v/\∃x:Int,v=.int .u8 x:=fun j hj=>by
  have vW:j<h.1.size:=by rw [h.2.1];simpa using hj
  obtain⟨x,hx,_⟩:=h.2.2 h.1[j] (by simp);exact⟨_,Array.getElem?_eq_getElem vW,x,hx⟩
 generalize List.range' 0 32=is at each
 induction is with
 |nil=>simp
 |cons j is ih=>
  obtain⟨v,hv,x,rfl⟩:=each j (by simp);have Mj:(isAgg jb).run prog w=.ok false w:=by simp [isAgg,run_underlying OQ]
  have p1:(part jb h.1 (j*1)).run prog w=.ok (.int .u8 x) w:=by simp [part,Mj,hv]
  have p2:(Instr.checkKey em 9999 jb (.int .u8 x)).run prog w=.ok () w:=by
   rw [show(9999:Nat)=9998+1 from rfl,Instr.checkKey];simp [run_underlying OQ]
  simp only [List.forIn_cons,Sem.run_bind,Go.bW.run_sizeOf hi w,hc,Result.andThen_ok,p1,p2,Sem.run_pure];exact ih (fun y hy=>each y (by simp [hy]))
def BP(es:List MapEntry)(l:List HT)(i:Nat):Prop:=match es,l with
 | [],[]=>True
 |e::es,h::l=>(e.key=.agg h.1/\e.val=.int .i64 (i:Int))/\BP es l (i+1)
 |_,_=>False
theorem BP.snoc:∀ {es:List MapEntry} {l:List HT} {i:Nat} {e:MapEntry} {h:HT},BP es l i->e.key=.agg h.1->e.val=.int .i64 ((i+l.length:Nat):Int)->BP (es++ [e]) (l++ [h]) i
 | [],[],i,e,h,_,h1,h2=>⟨⟨h1,by simpa using h2⟩,trivial⟩
 |x::es,y::l,i,e,h,he,h1,h2=>⟨he.1,BP.snoc he.2 h1 (by rw [h2];congr 2;simp;omega)⟩
 | [],_::_,_,_,_,he,_,_=>he.elim
 |_::_,[],_,_,_,he,_,_=>he.elim
theorem rL(h:HT)(w:World):∀(es:List MapEntry) (l:List HT) (i:Nat),BP es l i->
 (Instr.findAsking ag (.agg h.1) es i).run prog w=.ok ((pos h l i).map fun j=>(j,.int .i64 (j:Int))) w
 | [],[],i,_=>by simp [Instr.findAsking,pos]
 |e::es,x::l,i,he=>by
  have hq:=vd h x w;have ih:=rL h w es l (i+1) he.2;simp only [Instr.findAsking,he.1.1,Sem.run_bind,hq,Result.andThen_ok];by_cases hx:h=x
  ·simp [hx,pos,he.1.2]
  ·simp [hx,pos,ih]
 | [],_::_,_,he=>he.elim
 |_::_,[],_,he=>he.elim
theorem oz(h:HT)(w:World){es:List MapEntry}{l:List HT}(he:BP es l 0):
 (Instr.findKey ag (.agg h.1) es).run prog w=.ok ((pos h l 0).map fun j=>(j,.int .i64 (j:Int))) w:=by
 have h1:=rL h w es l 0 he;simp only [Instr.findKey,Sem.run_bind,run_underlying KQ,Result.andThen_ok];cases es with
 |nil=>
  cases l with
  |nil=>simp [Instr.findNow,pos]
  |cons x l=>exact he.elim
 |cons e es=>
  have:Instr.findNow (.array 32 jb) (.agg h.1) (e::es) 0=none:=by
   simp only [Instr.findNow,Instr.sameNow]
  rw [this];exact h1
theorem pV{r:Nat}{es:Array MapEntry}{clock:Nat}(hb:w.heap[r]? =some (.map es clock)):(getObj r).run prog w=.ok (.map es clock) w:=by
 simp [getObj,Sem.run,hb]
theorem Cm{r:Nat}{es:Array MapEntry}{clock:Nat}(o:Obj)(hb:w.heap[r]? =some (.map es clock)):(setObj r o).run prog w=.ok () {w with heap:=w.heap.setIfInBounds r o}:=by
 simp [setObj,Sem.run,hb]
structure IsMap(w:World)(m:Nat)(l:List HT):Prop where
 ex:∃es clock,w.heap[m]? =some (.map es clock)/\BP es.toList l 0
theorem IsMap.aF{S:Nat->Prop}{w w':World}{m:Nat}{l:List HT}(h:IsMap w m l)(hk:Kept S w w')(hn:¬S m):IsMap w' m l:=by
 obtain⟨es,clock,h1,h2⟩:=h.ex;exact⟨es,clock,hk.heap h1 hn,h2⟩
theorem IsMap.lt{w:World}{m:Nat}{l:List HT}(h:IsMap w m l):m<w.heap.size:=by
 obtain⟨es,clock,h1,_⟩:=h.ex;exact aU h1
theorem IsMap.look{m:Nat}{l:List HT}(hm:IsMap w m l)(h:HT):
 (Instr.lookup cO (.map (some m)) (.agg h.1) true).run prog w=.ok (.tuple #[.int .i64 (((pos h l 0).getD 0:Nat):Int),.bool (pos h l 0).isSome]) w:=by
 obtain⟨es,clock,h1,h2⟩:=hm.ex;have h3:=oz h w h2;simp only [Instr.lookup,Sem.run_bind,run_underlying OR,pV h1,Result.andThen_ok,Sem.run_pure,jt,h3];cases hp:pos h l 0<;>simp
theorem IsMap.xP{m:Nat}{l:List HT}(hm:IsMap w m l)(h:HT):
 (Instr.lookup cO (.map (some m)) (.agg h.1) false).run prog w=.ok (.int .i64 (((pos h l 0).getD 0:Nat):Int)) w:=by
 obtain⟨es,clock,h1,h2⟩:=hm.ex;have h3:=oz h w h2;simp only [Instr.lookup,Sem.run_bind,run_underlying OR,pV h1,Result.andThen_ok,Sem.run_pure,jt,h3];cases hp:pos h l 0<;>simp
theorem IsMap.put{m:Nat}{l:List HT}(hm:IsMap w m l){h:HT}(hn:h∉l):
 ∃w',(Instr.mapUpdate cO (.map (some m)) (.agg h.1) (.int .i64 ((l.length:Nat):Int))).run prog w=.ok () w'/\IsMap w' m (l++ [h])/\Kept (· =m) w w':=by
 obtain⟨es,clock,h1,h2⟩:=hm.ex;have h3:=oz h w h2;rw [pJ.2 hn]at h3;refine⟨{w with heap:=w.heap.setIfInBounds m (.map (es.push {key:=.agg h.1,val:=.int .i64 ((l.length:Nat):Int),born:=clock}) (clock+1))},?_,⟨es.push {key:=.agg h.1,val:=.int .i64 ((l.length:Nat):Int),born:=clock},clock+1,?_,?_⟩,?_⟩
 ·simp only [Instr.mapUpdate,Sem.run_bind,run_underlying OR,pV h1,Result.andThen_ok,jt,h3,Option.map_none,Cm _ h1]
 ·simp [aU h1]
 ·have:=h2.snoc (e:= {key:=.agg h.1,val:=.int .i64 ((l.length:Nat):Int),born:=clock}) (h:=h) rfl (by simp)
  simpa using this
 ·exact⟨rfl,rfl,rfl,by simp,fun k _ hk=>by simp [Ne.symm hk]⟩
end
end Go.Proofs.YtfleamccglihoaaGreatDoor
namespace Go.Proofs.YtfleamccglihoaaGreatDoor
open Go.Proofs.Tryz
open Go Go.bW
structure DN where
 id:HT
 ps:List HT
abbrev DG:=List DN
def ids(D:DG):List HT:=D.map (·.id)
def nK(D:DG)(p h:HT):Prop:=∃nd∈D,nd.id=h/\p∈nd.ps
inductive fz (D:DG):HT->HT->Prop
 |one {p h:HT}:nK D p h->fz D p h
 |more {a p h:HT}:fz D a p->nK D p h->fz D a h
theorem fz.trans{D:DG}{a b c:HT}(h:fz D a b)(h':fz D b c):fz D a c:=by
 induction h' with
 |one hp=>exact .more h hp
 |more _ hp ih=>exact .more ih hp
structure jY(D:DG):Prop where
 pos:0<D.length
 nodup:(ids D).Nodup
 ss:∀nd∈D,SS nd.ps
 up:∀(i:Nat) nd p,D[i]? =some nd->p∈nd.ps->∃(j:Nat) (m:DN),j<i/\D[j]? =some m/\m.id=p
theorem gz(D:DG):(ids D).length=D.length:=by simp [ids]
theorem oE{D:DG}{i:Nat}{nd:DN}(h:D[i]? =some nd):(ids D)[i]? =some nd.id:=by simp [ids,h]
theorem IJ{D:DG}{i:Nat}{h:HT}(e:(ids D)[i]? =some h):∃nd,D[i]? =some nd/\nd.id=h:=by
 unfold ids at e;rw [List.getElem?_map]at e;cases hd:D[i]? with
 |none=>rw [hd]at e;cases e
 |some nd=>rw [hd]at e;exact⟨nd,rfl,by simpa using e⟩
theorem dr{D:DG}{h:HT}:h∈ids D↔∃nd∈D,nd.id=h:=by simp [ids]
section
variable{D:DG}
theorem jY.inj(W:jY D){i j:Nat}{a b:DN}(ha:D[i]? =some a)(hb:D[j]? =some b)(e:a.id=b.id):i=j:=by
 have h1:=ly 0 i W.nodup (oE ha);have h2:=ly 0 j W.nodup (oE hb);rw [e,h2]at h1;simpa using h1.symm
theorem jY.pos_eq(W:jY D){i:Nat}{nd:DN}(h:D[i]? =some nd):Proofs.YtfleamccglihoaaGreatDoor.pos nd.id (ids D) 0=some i:=by
 have:=ly 0 i W.nodup (oE h)
 rwa [Nat.zero_add]at this
theorem nK.at_(W:jY D){p h:HT}(hp:nK D p h):∃(i j:Nat) (m nd:DN),i<j/\D[i]? =some m/\D[j]? =some nd/\m.id=p/\nd.id=h/\p∈nd.ps:=by
 obtain⟨nd,gu,rfl,qN⟩:=hp;obtain⟨j,hj⟩:=List.mem_iff_getElem?.1 gu;obtain⟨i,m,rC,hm,e⟩:=W.up j nd p hj qN;exact⟨i,j,m,nd,rC,hm,hj,e,rfl,qN⟩
theorem fz.at_(W:jY D){a h:HT}(hp:fz D a h):∃(i j:Nat) (m nd:DN),i<j/\D[i]? =some m/\D[j]? =some nd/\m.id=a/\nd.id=h:=by
 induction hp with
 |one hp=>
  obtain⟨i,j,m,nd,h1,h2,h3,h4,h5,_⟩:=hp.at_ W;exact⟨i,j,m,nd,h1,h2,h3,h4,h5⟩
 |more _ hp ih=>
  obtain⟨i,j,m,nd,h1,h2,h3,h4,h5⟩:=ih;obtain⟨i',j',m',nd',rD,uv,BZ,Y2,h5',_⟩:=hp.at_ W;have e:=W.inj h3 uv (by rw [h5,Y2]);exact⟨i,j',m,nd',by omega,h2,BZ,h4,h5'⟩
theorem fz.irrefl(W:jY D)(a:HT):¬fz D a a:=fun h=>by
 obtain⟨i,j,m,nd,h1,h2,h3,h4,h5⟩:=h.at_ W;have:=W.inj h2 h3 (by rw [h4,h5]);omega
theorem fz.mem(W:jY D){a h:HT}(hp:fz D a h):a∈ids D/\h∈ids D:=by
 obtain⟨i,j,m,nd,_,h2,h3,h4,h5⟩:=hp.at_ W;exact⟨dr.2 ⟨m,List.mem_of_getElem? h2,h4⟩,dr.2 ⟨nd,List.mem_of_getElem? h3,h5⟩⟩
theorem sn(W:jY D){i:Nat}{nd:DN}(h:D[i]? =some nd)(a:HT):fz D a nd.id↔∃p∈nd.ps,a=p\/fz D a p:=by
 have key:∀ {p},nK D p nd.id->p∈nd.ps:=fun⟨nd',hm,e,hp⟩=>by
  obtain⟨j,hj⟩:=List.mem_iff_getElem?.1 hm;have:=W.inj h hj e.symm;subst this;rw [h]at hj;cases hj;exact hp
 constructor
 ·intro ha
  generalize he:nd.id=x at ha;cases ha with
  |one hp=>subst he;exact⟨a,key hp,.inl rfl⟩
  |more BY hp=>subst he;exact⟨_,key hp,.inr BY⟩
 ·rintro⟨p,hp,e⟩
  have ln:nK D p nd.id:=⟨nd,List.mem_of_getElem? h,rfl,hp⟩;rcases e with rfl|e
  ·exact .one ln
  ·exact .more e ln
theorem nP{nd:DN}{p h:HT}:nK (D++ [nd]) p h↔nK D p h\/(nd.id=h/\p∈nd.ps):=by
 unfold nK;constructor
 ·rintro⟨m,hm,e,hp⟩
  rw [List.mem_append,List.mem_singleton]at hm;rcases hm with hm|rfl
  ·exact .inl ⟨m,hm,e,hp⟩
  ·exact .inr ⟨e,hp⟩
 ·rintro(⟨m,hm,e,hp⟩|⟨e,hp⟩)
  ·exact⟨m,by simp [hm],e,hp⟩
  ·exact⟨nd,by simp,e,hp⟩
theorem jy(W:jY D){nd:DN}(hn:nd.id∉ids D){a h:HT}(hh:h∈ids D):fz (D++ [nd]) a h↔fz D a h:=by
 constructor
 ·intro ha
  induction ha with
  |one hp=>
   rcases nP.1 hp with hp|⟨e,_⟩
   ·exact .one hp
   ·subst e;exact absurd hh hn
  |more _ hp ih=>
   rcases nP.1 hp with hp|⟨e,_⟩
   ·exact .more (ih (fz.mem W (.one hp)).1) hp
   ·subst e;exact absurd hh hn
 ·intro ha
  induction ha with
  |one hp=>exact .one (nP.2 (.inl hp))
  |more BY hp ih=>exact .more (ih (fz.mem W BY).2) (nP.2 (.inl hp))
theorem lQ(D:DG)(nd:DN):ids (D++ [nd])=ids D++ [nd.id]:=by simp [ids]
theorem jY.snoc(W:jY D){nd:DN}(hn:nd.id∉ids D)(qN:∀p∈nd.ps,p∈ids D)(hs:SS nd.ps):jY (D++ [nd]) where
 pos:=by simp
 nodup:=by
  rw [lQ,List.nodup_append];refine⟨W.nodup,by simp,fun a ha b hb=>?_⟩;rw [List.mem_singleton]at hb;subst hb;exact fun e=>hn (e▸ha)
 ss:=fun m hm=>by
  rw [List.mem_append,List.mem_singleton]at hm;rcases hm with hm|rfl
  ·exact W.ss m hm
  ·exact hs
 up:=fun i m p hi hp=>by
  rw [List.getElem?_append]at hi;split at hi
  ·rename_i cY
   obtain⟨j,q,h1,h2,h3⟩:=W.up i m p hi hp;exact⟨j,q,h1,by rw [List.getElem?_append_left (by omega)];exact h2,h3⟩
  ·rename_i gA
   have:m=nd:=by
    cases hk:i-D.length with
    |zero=>rw [hk]at hi;simpa using hi.symm
    |succ k=>rw [hk]at hi;simp at hi
   subst this;obtain⟨q,hq,e⟩:=dr.1 (qN p hp);obtain⟨j,hj⟩:=List.mem_iff_getElem?.1 hq;have tU:=(lgeS hj).1;exact⟨j,q,by omega,by rw [List.getElem?_append_left tU];exact hj,e⟩
end
theorem jY.root(r:HT):jY [⟨r,[]⟩] where
 pos:=by simp
 nodup:=by simp [ids]
 ss:=fun nd h=>by simp at h;subst h;exact List.Pairwise.nil
 up:=fun i nd p h hp=>by
  cases i with
  |zero=>simp at h;subst h;simp at hp
  |succ i=>simp at h
def dL(D:DG)(h:HT)(l:List HT):Int:=
 if h∈ids D then 7 else if(dD l).length=0\/(dD l).length≠l.length then 9 else if ∃p∈dD l,p∉ids D then 6 else 0
def mY(D:DG)(h:HT)(l:List HT):DG:=if dL D h l=0 then D++ [⟨h,dD l⟩]else D
theorem lI{D:DG}{h:HT}{l:List HT}(e:dL D h l=0):h∉ids D/\l≠ []/\l.Nodup/\∀p∈dD l,p∈ids D:=by
 unfold dL at e;split at e
 ·cases e
 ·rename_i h1
  split at e
  ·cases e
  ·rename_i h2
   split at e
   ·cases e
   ·rename_i h3
    simp only [not_or,Decidable.not_not]at h2;refine⟨h1,fun hl=>h2.1 (by rw [hl];rfl),rU h2.2,fun p hp=>Classical.byContradiction fun hn=>h3 ⟨p,hp,hn⟩⟩
theorem jY.add{D:DG}(W:jY D)(h:HT)(l:List HT):jY (mY D h l):=by
 unfold mY;split
 ·rename_i e
  obtain⟨h1,_,_,h4⟩:=lI e;exact W.snoc h1 h4 (jl l)
 ·exact W
open Classical in
noncomputable def pick(D:DG)(is:HT->Prop):List HT:=dD ((ids D).filter fun a=>decide (is a))
theorem jQ{D:DG}{is:HT->Prop}{a:HT}:a∈pick D is↔a∈ids D/\is a:=by
 unfold pick;rw [dV,List.mem_filter];simp
theorem D0{D:DG}{is:HT->Prop}{l:List HT}(h:∀a,a∈l↔a∈ids D/\is a):dD l=pick D is:=DP fun x=>by
 rw [h,List.mem_filter];simp
theorem nO(D:DG)(is:HT->Prop):(pick D is).length<=D.length:=by
 unfold pick;refine Nat.le_trans (qh _) (Nat.le_trans (List.length_filter_le _ _) ?_);rw [gz];exact Nat.le_refl _
noncomputable def eF(D:DG)(l:List HT):List HT:=pick D fun a=>∃h∈l,fz D a h
noncomputable def gX(D:DG)(h:HT):List HT:=pick D fun a=>nK D h a
open Go.RowKit
structure NS(w:World)(F:Nat->Prop)(A:Option Addr)(n:Nat)(l:List DN):Prop where
 len:l.length=n
 at_:∀(i:Nat) nd,l[i]? =some nd->∃a pA pn pc,A=some a/\a.block<w.heap.size/\F a.block/\Cells w (a.add (i*33)) (nd.id.1.push (.slice pA pn pc))/\HS w pA pn nd.ps/\∀b,pA=some b->F b.block
section
variable{w w':World}{F F' S:Nat->Prop}{A:Option Addr}{n:Nat}{l:List DN}
theorem NS.aF(h:NS w F A n l)(hk:Kept S w w')(hn:∀k,F k->¬S k):NS w' F A n l:=⟨h.len,fun i nd hi=>by
 obtain⟨a,pA,pn,pc,h1,h2,h3,h4,h5,h6⟩:=h.at_ i nd hi;exact⟨a,pA,pn,pc,h1,Nat.lt_of_lt_of_le h2 hk.size,h3,Cells.aF h4 hk (by rw [fg];exact hn _ h3),h5.aF hk (fun b hb=>hn _ (h6 b hb)),h6⟩⟩
theorem NS.mono(h:NS w F A n l)(hf:∀k,F k->F' k):NS w F' A n l:=⟨h.len,fun i nd hi=>by
 obtain⟨a,pA,pn,pc,h1,h2,h3,h4,h5,h6⟩:=h.at_ i nd hi;exact⟨a,pA,pn,pc,h1,h2,hf _ h3,h4,h5,fun b hb=>hf _ (h6 b hb)⟩⟩
theorem vt{h:HT}{v:Value}{j:Nat}{u:Value}(hj:h.1[j]? =some u):(h.1.push v)[j]? =some u:=by
 have cY:=(Array.getElem?_eq_some_iff.1 hj).1;rw [Array.getElem?_push,if_neg (by omega),hj]
theorem qo(h:HT)(v:Value):(h.1.push v)[32]? =some v:=by
 have:=h.2.1;rw [Array.getElem?_push,if_pos (by omega)]
theorem NS.id(h:NS w F A n l){i:Int}{nd:DN}(h0:0<=i)(hx:l[i.toNat]? =some nd){k:Array Value->Prop}(hk:k nd.id.1):
 (0<=i/\i<(n:Int))/\Is A fun a=>∃t:Array Value,(t.size=32/\Cells w ((a.add (i.toNat*33)).add 0) t)/\k t:=by
 obtain⟨a,pA,pn,pc,rfl,_,_,h4,_,_⟩:=h.at_ _ nd hx;have:=(lgeS hx).1;have:=h.len;refine⟨⟨h0,by omega⟩,nd.id.1,⟨nd.id.2.1,fun j v hj=>?_⟩,hk⟩;rw [add_zero];exact h4 j v (vt hj)
theorem NS.ps(h:NS w F A n l){i:Int}{nd:DN}(h0:0<=i)(hx:l[i.toNat]? =some nd){k:Option Addr->Nat->Nat->Prop}(hk:∀pA pn pc,HS w pA pn nd.ps->(∀b,pA=some b->F b.block)->k pA pn pc):
 (0<=i/\i<(n:Int))/\Is A fun a=>∃pA pn pc,w.cell? ((a.add (i.toNat*33)).add 32)=some (.slice pA pn pc)/\k pA pn pc:=by
 obtain⟨a,pA,pn,pc,rfl,_,_,h4,h5,h6⟩:=h.at_ _ nd hx;have:=(lgeS hx).1;have:=h.len;exact⟨⟨h0,by omega⟩,pA,pn,pc,h4 32 _ (qo _ _),hk _ _ _ h5 h6⟩
theorem NS.cells(h:NS w F A n l):∀k,k<=n->∃news:List Value,news.length=k*33/\(∀a,A=some a->∀j u,news[j]? =some u->w.cell? (a.add j)=some u)/\(∀u∈news,u.oneCell'=true)/\
 ∀(i:Nat) nd,i<k->l[i]? =some nd->∃pA pn pc,HS w pA pn nd.ps/\(∀b,pA=some b->F b.block)/\∀(j:Nat) v,(nd.id.1.push (.slice pA pn pc))[j]? =some v->news[i*33+j]? =some v
 |0,_=>⟨[],rfl,by simp,by simp,by intro i nd hi;omega⟩
 |k+1,hk=>by
  obtain⟨news,e1,e2,e3,e4⟩:=h.cells k (by omega);have hlen:=h.len;obtain⟨nd,gu⟩:∃nd,l[k]? =some nd:=⟨_,List.getElem?_eq_getElem (by omega)⟩;obtain⟨a,pA,pn,pc,hA,h2,h3,h4,h5,h6⟩:=h.at_ _ nd gu;have ml:(nd.id.1.push (.slice pA pn pc)).size=33:=by rw [Array.size_push,nd.id.2.1]
  refine⟨news++(nd.id.1.push (.slice pA pn pc)).toList,by rw [List.length_append,e1,Array.length_toList,ml];omega,fun a' BY j u hj=>?_,fun u hu=>?_,fun i md hi xX=>?_⟩
  ·rw [List.getElem?_append]at hj
   split at hj
   ·exact e2 a' BY j u hj
   ·rename_i gA
    rw [hA]at BY;cases BY;have:=h4 (j-news.length) u (by rw [<-Array.getElem?_toList];exact hj)
    rwa [lU,show k*33+(j-news.length)=j by omega]at this
  ·rw [List.mem_append]at hu
   rcases hu with hu|hu
   ·exact e3 u hu
   ·simp only [Array.toList_push,List.mem_append,List.mem_singleton]at hu
    rcases hu with hu|rfl
    ·exact nd.id.2.one u hu
    ·rfl
  ·by_cases hik:i<k
   ·obtain⟨qA,qn,qc,f1,f2,f3⟩:=e4 i md hik xX
    exact⟨qA,qn,qc,f1,f2,fun j v hj=>by
     have:=f3 j v hj;rw [List.getElem?_append_left (lgeS this).1];exact this⟩
   ·have:i=k:=by omega
    subst this;rw [gu]at xX;cases xX;exact⟨pA,pn,pc,h5,h6,fun j v hj=>by
     rw [List.getElem?_append_right (by omega),e1,show i*33+j-i*33=j by omega,Array.getElem?_toList];exact hj⟩
theorem yw:zE prog cP bX 33 56:=⟨by kernel_rfl,by kernel_rfl⟩
theorem EN:Sy prog bX=some ([(0,32),(32,1)],List.replicate 32 (.int .u8 0)++ [.slice none 0 0]):=by kernel_rfl
theorem GJ(h:HT)(A:Option Addr)(n c:Nat):prog.built bX [(0,.agg h.1),(1,.slice A n c)]=some (h.1.push (.slice A n c)):=by
 have hs:=h.2.1;rw [nW EN,jh (off:=0) (size:=32) rfl (by simpa [Value.cells]using hs) (by simp),jh (off:=32) (size:=1) rfl rfl (by
  rw [List.size_toArray,mv (by simp [Value.cells,hs])];simp)]
 simp only [Instr.fill,Option.some.injEq];apply Array.ext';unfold im;simp [Value.cells,hs]
structure uR(w:World)(F:Nat->Prop)(r:Nat)(D:DG):Prop where
 ex:∃(A:Option Addr) (c:Nat) (cs:Array Value) (t:TypeId),w.heap[r]? =some (.cells cs t (0,0))/\cs[0]? =some (.slice A D.length c)/\NS w F A D.length D
 iG:¬F r
theorem uR.aF{r:Nat}{D:DG}(h:uR w F r D)(hk:Kept S w w')(hr:¬S r)(hn:∀k,F k->¬S k):uR w' F r D:=by
 obtain⟨A,c,cs,t,h1,h0,h2⟩:=h.ex;exact⟨⟨A,c,cs,t,hk.heap h1 hr,h0,h2.aF hk hn⟩,h.iG⟩
theorem uR.same{r:Nat}{D:DG}(h:uR w F r D)(hk:Kept Nil w w'):uR w' F r D:=h.aF hk (fun h=>h) (fun _ _ h=>h)
theorem uR.lt{r:Nat}{D:DG}(h:uR w F r D):r<w.heap.size:=by obtain⟨A,c,cs,t,h1,_⟩:=h.ex;exact aU h1
theorem uR.go{r:Nat}{D:DG}(h:uR w F r D){k:Option Addr->Nat->Nat->Prop}(hk:∀A c,NS w F A D.length D->k A D.length c):
 ∃A n m,w.cell? ((⟨r,0,none⟩:Addr).add 0)=some (.slice A n m)/\k A n m:=by
 obtain⟨A,c,cs,t,h1,h0,h2⟩:=h.ex;exact⟨A,_,c,by rw [add_zero,aD h1];exact h0,hk A c h2⟩
theorem uR.go'{r:Nat}{D:DG}(h:uR w F r D)(kw:Kept Nil w w'){k:Option Addr->Nat->Nat->Prop}(hk:∀A c,NS w F A D.length D->k A D.length c):
 ∃A n m,w'.cell? ((⟨r,0,none⟩:Addr).add 0)=some (.slice A n m)/\k A n m:=by
 obtain⟨A,c,cs,t,h1,h0,h2⟩:=h.ex;exact⟨A,_,c,by rw [add_zero,aD (kw.heap h1 (fun h=>h))];exact h0,hk A c h2⟩
theorem NS.ps'(h:NS w F A n l)(kw:Kept Nil w w'){i:Int}{nd:DN}(h0:0<=i)(hx:l[i.toNat]? =some nd){k:Option Addr->Nat->Nat->Prop}(hk:∀pA pn pc,HS w pA pn nd.ps->k pA pn pc):
 (0<=i/\i<(n:Int))/\Is A fun a=>∃pA pn pc,w'.cell? ((a.add (i.toNat*33)).add 32)=some (.slice pA pn pc)/\k pA pn pc:=by
 obtain⟨a,pA,pn,pc,rfl,_,_,h4,h5,h6⟩:=h.at_ _ nd hx;have:=(lgeS hx).1;have:=h.len;exact⟨⟨h0,by omega⟩,pA,pn,pc,(kw.cell (h4 32 _ (qo _ _)) (fun h=>h)),hk _ _ _ h5⟩
def sE(D:DG)(h:HT):Int:=match pos h (ids D) 0 with|some j=>(j:Int)|none=> -1
theorem oM{D:DG}{h:HT}:sE D h<0↔h∉ids D:=by
 unfold sE;rw [<-pJ (l:=ids D) (i:=0)];cases hp:pos h (ids D) 0<;>simp
theorem pZ{D:DG}{h:HT}:sE D h>=0↔h∈ids D:=by
 have:= @oM D h;constructor
 ·intro hg;exact Classical.byContradiction fun hn=>by have:=this.2 hn;omega
 ·intro hm;exact Classical.byContradiction fun hn=>this.1 (by omega) hm
theorem EP{D:DG}{h:HT}(hm:h∈ids D):∃nd,sE D h>=0/\D[(sE D h).toNat]? =some nd/\nd.id=h:=by
 have h1:=pZ.2 hm;unfold sE at*;cases hp:pos h (ids D) 0 with
 |none=>rw [hp]at h1;simp at h1
 |some j=>
  obtain⟨_,h2⟩:=vu hp;obtain⟨nd,h3,h4⟩:=IJ h2;exact⟨nd,by simp,by simpa using h3,h4⟩
theorem yP{D:DG}{i:Nat}{nd:DN}(h:D[i]? =some nd):(ids D).take (i+1)=(ids D).take i++ [nd.id]:=by
 rw [List.take_add_one,oE h];rfl
theorem xH{h:HT}:∀ {l:List HT} {i k:Nat},h∉l.take k->l[k]? =some h->pos h l i=some (i+k)
 | [],_,_,_,e=>by simp at e
 |x::l,i,0,_,e=>by
  simp only [List.getElem?_cons_zero,Option.some.injEq]at e;unfold pos;rw [if_pos e.symm,Nat.add_zero]
 |x::l,i,k+1,hn,e=>by
  simp only [List.getElem?_cons_succ]at e;rw [List.take_succ_cons,List.mem_cons,not_or]at hn;unfold pos;rw [if_neg hn.1,xH (i:=i+1) hn.2 e]
  congr 1
  omega
variable{r:Nat}{D:DG}{K:Value->World->Prop}
theorem jI(H:uR w F r D)(hD:D.length<=1000000)(h:HT)(hK:∀w',Kept Nil w w'->K (.int .i64 (sE D h)) w'):
 bC prog bK.id #[.pointer (some ⟨r,0,none⟩),.agg h.1] w K:=by
 refine bK.of ?_;unfold bK.W;intro w3;have k3:Kept Nil w w3:=(Kept.refl Nil w).alloc _;have mK:w3.heap[w.heap.size]? =some (.cells h.1 ag (0,0)):=aH w _;clear_value w3;refine bK.cC (I:=fun s w'=>∃i:Nat,s=(0,(i:Int))/\i<=D.length/\Kept Nil w3 w'/\h∉(ids D).take i) (μ:=fun s _=>((D.length:Int)-s.2).toNat) (s:=(0,0)) ⟨0,rfl,Nat.zero_le _,Kept.refl _ _,by simp⟩ ?_;rintro s w' ⟨i,rfl,hi,kw,lH⟩;have kk:Kept Nil w w':=k3.tt kw;refine(H.same kk).go fun A c sA=>?_;refine Split.dec (fun jK=>?_) (fun gA=>?_)
 ·simp only at jK
  have dS:i<D.length:=by omega
  obtain⟨nd,gu⟩:∃nd,D[i]? =some nd:=⟨_,List.getElem?_eq_getElem dS⟩;intro w10;have lX:Kept Nil w3 w10:=kw.drew;have F5:Kept Nil w w10:=k3.tt lX;clear_value w10;refine(H.same F5).go fun A c sA=>?_;refine sA.id (i:=(i:Int)) (by omega) (by rw [Int.toNat_natCast];exact gu) ⟨h.1,⟨h.2.1,Cells.bL (lX.heap mK (fun h=>h))⟩,⟨nd.id.2.ints,h.2.ints⟩,?_⟩;rw [dF];refine Split.dec (fun he=>?_) (fun he=>?_)
  ·have:=hK w10 F5
   unfold sE at this;rw [xH (i:=0) lH (by rw [<-he];exact oE gu),Nat.zero_add]at this;exact this
  ·simp only
   rw [dM (n:=(i:Int)) (by omega) (by omega)];refine⟨(0,(i:Int)+1),rfl,⟨i+1,rfl,dS,lX,?_⟩,by simp only;omega⟩;rw [yP gu,List.mem_append,List.mem_singleton,not_or];exact⟨lH,fun e=>he e.symm⟩
 ·simp only at gA
  rw [aR,bK.df];rw [List.take_of_length_le (by rw [gz];omega)]at lH;have:=hK w' kk;unfold sE at this;rw [pJ.2 lH]at this;exact this
end
section
variable{w w':World}{F F' S:Nat->Prop}{A:Option Addr}{n c B:Nat}{l:List DN}{news:List Value}{r:Nat}{D:DG}{K:Value->World->Prop}
theorem FN(h:Row w B bX 33 A n c news)(hl:l.length=n)(hF:∀k,bn A=some k->F k)
 (hc:∀(i:Nat) nd,l[i]? =some nd->∃pA pn pc,HS w pA pn nd.ps/\(∀b,pA=some b->F b.block)/\∀(j:Nat) v,(nd.id.1.push (.slice pA pn pc))[j]? =some v->news[i*33+j]? =some v):NS w F A n l:=
 ⟨hl,fun i nd hi=>by
   obtain⟨pA,pn,pc,h1,h2,h3⟩:=hc i nd hi;have:=(lgeS hi).1;obtain⟨b,rfl⟩:=Row.some h (by omega);obtain⟨_,cur,kF⟩:=Row.bL h (k:=b) rfl;exact⟨_,pA,pn,pc,rfl,aU kF,hF b rfl,fun j v hj=>by rw [lU];exact Row.cells h _ _ (h3 j v hj),h1,h2⟩⟩
theorem ym(h:NS w F A n l){cx:Nat}(h0:0<n)(hn:n<=100000):
 ∃A' c' w' news,(Builtin.append_ #[cP,cP] cP #[.slice none 0 0,.slice A n cx]).run prog w=.ok (.slice A' n c') w'/\
  Row w' w.heap.size bX 33 A' n c' news/\Kept Nil w w'/\
  ∀(i:Nat) nd,l[i]? =some nd->∃pA pn pc,HS w pA pn nd.ps/\(∀b,pA=some b->F b.block)/\∀(j:Nat) v,(nd.id.1.push (.slice pA pn pc))[j]? =some v->news[i*33+j]? =some v:=by
 obtain⟨news,e1,e2,e3,e4⟩:=h.cells n (Nat.le_refl _);have hlen:=h.len;obtain⟨nd,gu⟩:∃nd,l[0]? =some nd:=⟨_,List.getElem?_eq_getElem (by omega)⟩;obtain⟨a,_,_,_,rfl,_⟩:=h.at_ _ nd gu;obtain⟨A',c',w',hr,fF,hg,hb⟩:=fP (P:=prog) (t:=cP) (ty:=cP) (bytes:=56) yw (Row.nil w w.heap.size _ _) (a:=a) (m:=n) (cx:=cx) (news:=news) e1 (e2 a rfl) e3 (by omega) (by unfold maxLen;omega) (Nat.le_refl _);rw [Nat.zero_add]at hr fF;rw [List.nil_append]at fF;exact⟨A',c',w',news,hr,fF,Kept.dO (Kept.refl _ _) hg (fun k hk=>by cases hk),fun i nd hi=>e4 i nd (by have:=(lgeS hi).1;omega) hi⟩
theorem yn(h:Row w B bX 33 A n c news)(hn:n<=100000)(hB:B<=w.heap.size){b:Nat}{arr:Array Value}(hb:w.heap[b]? =some (.cells arr bX (0,0)))(hs:arr.size=33)(h1:∀u∈arr.toList,u.oneCell'=true):
 ∃A' c' w',(Builtin.append_ #[cP,cP] cP #[.slice A n c,.slice (some ⟨b,0,none⟩) 1 1]).run prog w=.ok (.slice A' (n+1) c') w'/\
  Row w' B bX 33 A' (n+1) c' (news++arr.toList)/\w.grownBy w' (bn A):=by
 obtain⟨A',c',w',hr,fF,hg,hb⟩:=fP (P:=prog) (t:=cP) (ty:=cP) (bytes:=56) yw h (a:=⟨b,0,none⟩) (m:=1) (cx:=1) (news:=arr.toList) (by simpa using hs)
  (fun j u hj=>by rw [bt,Nat.zero_add,aD hb];simpa using hj) h1 (by omega) (by unfold maxLen;omega) hB
 exact⟨A',c',w',hr,fF,hg⟩
theorem K9{nd:DN}{pA:Option Addr}{pn pc:Nat}(h:Row w B bX 33 A (n+1) c (news++(nd.id.1.push (.slice pA pn pc)).toList))(yX:news.length=n*33)(hl:l.length=n)(hF:∀k,bn A=some k->F k)
 (hc:∀(i:Nat) nd,l[i]? =some nd->∃pA pn pc,HS w pA pn nd.ps/\(∀b,pA=some b->F b.block)/\∀(j:Nat) v,(nd.id.1.push (.slice pA pn pc))[j]? =some v->news[i*33+j]? =some v)
 (hp:HS w pA pn nd.ps) (Ky:∀b,pA=some b->F b.block):NS w F A (n+1) (l++ [nd]):=by
 refine FN h (by simp [hl]) hF fun i md hi=>?_;rw [List.getElem?_append]at hi;split at hi
 ·obtain⟨qA,qn,qc,h1,h2,h3⟩:=hc i md hi
  exact⟨qA,qn,qc,h1,h2,fun j v hj=>by
   have:=h3 j v hj;rw [List.getElem?_append_left (lgeS this).1];exact this⟩
 ·rename_i gA
  have CY:i=n/\md=nd:=by
   cases hk:i-l.length with
   |zero=>rw [hk]at hi;exact⟨by omega,by simpa using hi.symm⟩
   |succ k=>rw [hk]at hi;simp at hi
  obtain⟨rfl,rfl⟩:=CY;exact⟨pA,pn,pc,hp,Ky,fun j v hj=>by
   rw [List.getElem?_append_right (by omega),yX,show i*33+j-i*33=j by omega,Array.getElem?_toList];exact hj⟩
theorem NS.same(h:NS w F A n l)(hk:Kept Nil w w'):NS w' F A n l:=h.aF hk fun _ _ h=>h
theorem uR.mono(h:uR w F r D)(hf:∀k,F k->F' k)(hr:¬F' r):uR w F' r D:=by
 obtain⟨A,c,cs,t,h1,h0,h2⟩:=h.ex;exact⟨⟨A,c,cs,t,h1,h0,h2.mono hf⟩,hr⟩
theorem Ag(h:HT)(A:Option Addr)(n c:Nat):∀u∈(h.1.push (.slice A n c)).toList,u.oneCell'=true:=fun u hu=>by
 simp only [Array.toList_push,List.mem_append,List.mem_singleton]at hu;rcases hu with hu|rfl
 ·exact h.2.one u hu
 ·rfl
theorem DX(H:uR w F r D)(W:jY D)(hD:D.length<=10000){h:HT}{lp:List HT}{A:Option Addr}{n c:Nat}(hl:HS w A n lp)(hn:n<=400000)
 (hK:∀w',uR w' (fun k=>F k\/(w.heap.size<=k/\k<w'.heap.size)) r (mY D h lp)->Kept (· =r) w w'->K (.int .i64 (dL D h lp)) w'):
 bC prog bD.id #[.pointer (some ⟨r,0,none⟩),.agg h.1,.slice A n c] w K:=by
 have aa8:=H.lt;have hlen:=hl.len;have lH:∀w',Kept Nil w w'->∀e,dL D h lp=e->e≠0->K (.int .i64 e) w':=fun w' k e he fM=>by
  have:=hK w' ?_ (k.mono fun _ _ h=>h.elim)
  ·rw [he]at this;exact this
  ·unfold mY
   rw [if_neg (by rw [he];exact fM)];exact(H.same k).mono (fun _ h=>.inl h) (fun e=>e.elim H.iG (fun h=>absurd h.1 (by omega)))
 refine bD.of ?_;unfold bD.W;intro w4;have k4:Kept Nil w w4:=(Kept.refl _ _).alloc _;have ph:w4.heap[w.heap.size]? =some (.cells h.1 ag (0,0)):=aH w _;clear_value w4;refine⟨h.1,⟨h.2.1,Cells.bL ph⟩,jI (H.same k4) (by omega) h fun w7 k7=>⟨_,rfl,Split.dec (fun gA=>?_) (fun Qt=>?_)⟩⟩
 ·refine lH w7 (k4.tt k7) 7 ?_ (by omega)
  unfold dL;rw [if_pos (pZ.1 gA)]
 have yW:h∉ids D:=fun hm=>Qt (pZ.2 hm);have Cw:Kept Nil w w7:=k4.tt k7;refine qS (hl.same Cw) hn fun Hj KI w10 vj lX=>⟨Hj,_,KI,rfl,?_⟩;have F5:Kept Nil w w10:=Cw.tt lX;have BU:(dD lp).length<=n:=by have:=qh lp;omega
 by_cases h0:(dD lp).length=0
 ·refine Split.yes (by simp [h0]) ?_
  refine lH w10 F5 9 ?_ (by omega);unfold dL;rw [if_neg yW,if_pos (.inl h0)]
 refine Split.no (beq_eq_false_iff_ne.2 (by omega)) ?_;by_cases h1:(dD lp).length≠n
 ·refine Split.yes (bne_iff_ne.2 (by omega)) ?_
  refine lH w10 F5 9 ?_ (by omega);unfold dL;rw [if_neg yW,if_pos (.inr (by omega))]
 replace h1:(dD lp).length=n:=by omega
 refine Split.no (by rw [h1];simp) ?_;refine bD.cC (I:=fun s w'=>∃i:Nat,s=(0,(i:Int))/\i<=(dD lp).length/\(∀p∈(dD lp).take i,p∈ids D)/\Kept Nil w10 w') (μ:=fun s _=>(((dD lp).length:Int)-s.2).toNat) (s:=(0,0)) ⟨0,rfl,Nat.zero_le _,by simp,Kept.refl _ _⟩ ?_;rintro s w' ⟨i,rfl,hi,dt,kw⟩;have kk:Kept Nil w w':=F5.tt kw;have O5:bI w' w7.heap.size Hj (dD lp).length KI (dD lp):=Row.aF vj kw (fun _ _ h=>h);refine Split.dec (fun jK=>?_) (fun gA=>?_)
 ·simp only at jK
  have dS:i<(dD lp).length:=by omega
  obtain⟨x,hx⟩:∃x,(dD lp)[i]? =some x:=⟨_,List.getElem?_eq_getElem dS⟩;refine O5.hs.load (i:=(i:Int)) (by omega) hx (jI (H.same kk) (by omega) x fun w2 k2=>⟨_,rfl,Split.dec (fun yY=>?_) (fun jF=>?_)⟩)
  ·have Yr:=oM.1 yY
   refine lH w2 (kk.tt k2) 6 ?_ (by omega);unfold dL;rw [if_neg yW,if_neg (by omega),if_pos ⟨x,List.mem_of_getElem? hx,Yr⟩]
  ·simp only
   rw [dM (n:=(i:Int)) (by omega) (by omega)];refine⟨(0,(i:Int)+1),rfl,⟨i+1,rfl,dS,fun p hp=>?_,kw.tt k2⟩,by simp only;omega⟩;rcases(bP hx).1 hp with hp|rfl
   ·exact dt p hp
   ·exact pZ.1 (by omega)
 ·simp only at gA
  rw [List.take_of_length_le (by omega)]at dt;have WC:dL D h lp=0:=by
   unfold dL;rw [if_neg yW,if_neg (by omega),if_neg (fun⟨p,hp,LO⟩=>LO (dt p hp))]
  have hD':mY D h lp=D++ [⟨h,dD lp⟩]:=by unfold mY;rw [if_pos WC]
  rw [WC,hD']at hK;have Oj:=W.pos;rw [aR,bD.df];unfold bD.cU;intro DJ;have Pw:Kept Nil w DJ:=kk.drew;have IE:Kept Nil w10 DJ:=kw.drew;have aiE:DJ.heap=w'.heap:=rfl;clear_value DJ;have WW:DJ.heap[w.heap.size]? =some (.cells h.1 ag (0,0)):=(IE.heap (lX.heap (k7.heap ph (fun h=>h)) (fun h=>h)) (fun h=>h));obtain⟨A,c,alv,t27,IT,Wz,sA⟩:=(H.same Pw).ex;refine⟨A,_,c,by rw [add_zero,aD IT];exact Wz,h.1,⟨h.2.1,Cells.bL WW⟩,?_⟩;rw [GJ];have ml:(h.1.push (.slice Hj (dD lp).length KI)).size=33:=by rw [Array.size_push,h.2.1]
  have ajI:∀ {v},Kept Nil w v->w.heap.size<=v.heap.size:=fun k=>k.size;have adI:∀b,Hj=some b->w.heap.size<=b.block:=fun b hb=>Nat.le_trans Cw.size (Row.bL vj (k:=b.block) (by rw [hb];rfl)).1;have Gr:∀(A':Option Addr) (c':Nat) (v:World) (news:List Value),Row v DJ.heap.size bX 33 A' (D.length+1) c' (news++(h.1.push (.slice Hj (dD lp).length KI)).toList)->news.length=D.length*33->Kept Nil DJ v->
   (∀(i:Nat) nd,D[i]? =some nd->∃pA pn pc,HS v pA pn nd.ps/\(∀b,pA=some b->F b.block)/\∀(j:Nat) u,(nd.id.1.push (.slice pA pn pc))[j]? =some u->news[i*33+j]? =some u)->
   Wr v ((⟨r,0,none⟩:Addr).add 0)/\K (.int .i64 0) (v.setCell ((⟨r,0,none⟩:Addr).add 0) (.slice A' (D.length+1) c')):=by
   intro A' c' v news fF yX kv vZ;have Pf:Kept Nil w v:=Pw.tt kv;obtain⟨A0,c0,cs0,t0,jv,acP,_⟩:=(H.same Pf).ex;have NL:=(Array.getElem?_eq_some_iff.1 acP).1;rw [add_zero];have k3:Kept (· =r) v (v.setCell ⟨r,0,none⟩ (.slice A' (D.length+1) c')):=Kept.setCell (S:=fun k=>k=r) (Kept.refl _ v) (p:=⟨r,0,none⟩) (fun _=>rfl) _;refine⟨dm jv NL,hK _ ⟨⟨A',c',cs0.setIfInBounds 0 (.slice A' (D.length+1) c'),t0,?_,?_,?_⟩,fun e=>e.elim H.iG (fun h=>absurd h.1 (by omega))⟩ ((Pf.mono (S':=fun k=>k=r) (fun _ _ h=>h.elim)).tt k3)⟩
   ·rw [cV jv 0]
   ·rw [List.length_append]
    simp [NL]
   ·have CK:=k3.size
    have Xq:∀b,Hj=some b->b.block<v.heap.size:=fun b hb=>by
     obtain⟨_,cur,hc⟩:=Row.bL vj (k:=b.block) (by rw [hb];rfl);have:=aU hc;have:=IE.size;have:=kv.size;omega
    have Ql:=K9 (F:=fun k=>F k\/(w.heap.size<=k/\k<(v.setCell ⟨r,0,none⟩ (.slice A' (D.length+1) c')).heap.size)) (nd:=⟨h,dD lp⟩) fF yX rfl (fun k hk=>by
     obtain⟨h1,cur,hc⟩:=Row.bL fF hk;have:=aU hc;have:=Pw.size;exact .inr ⟨by omega,by omega⟩) (fun i nd hi=>by
     obtain⟨pA,pn,pc,h1,h2,h3⟩:=vZ i nd hi;exact⟨pA,pn,pc,h1,fun b hb=>.inl (h2 b hb),h3⟩) ((vj.hs.same IE).same kv) (fun b hb=>.inr ⟨adI b hb,by have:=Xq b hb;omega⟩)
    have:=Ql.aF k3 (fun k hk e=>by
     subst e;rcases hk with hk|hk
     ·exact H.iG hk
     ·omega)
    rw [List.length_append];exact this
  refine⟨?_,?_⟩
  ·obtain⟨A1,c1,sx,news,mU,lM,Cy,vZ⟩:=ym sA (cx:=c) Oj (by omega)
   refine⟨A1,_,c1,sx,mU,⟨h.1,rfl,h.2.1,Cells.bL (Cy.heap WW (fun h=>h))⟩,ml,?_⟩;intro ot;have aaR:ot=sx.alloc (.cells (h.1.push (.slice Hj (dD lp).length KI)) bX):=by
    show sx.alloc (.cells ((h.1.push (.slice Hj (dD lp).length KI)).toList++ []).toArray bX)=_
    rw [List.append_nil,Array.toArray_toList]
   have BR:Kept Nil sx ot:=(Kept.refl _ _).alloc _;have WU:ot.heap[sx.heap.size]? =some (.cells (h.1.push (.slice Hj (dD lp).length KI)) bX (0,0)):=by rw [aaR];exact aH sx _
   clear_value ot;have Ac:=Row.aF lM BR (fun _ _ h=>h);obtain⟨A2,c2,ug,jJ,fV,Md⟩:=yn Ac (by omega) (Nat.le_trans Cy.size BR.size) WU ml (Ag _ _ _ _);have uk:Kept Nil DJ ug:=Kept.dO (Cy.tt BR) Md (fun k hk=>(Row.bL lM hk).1);refine⟨A2,_,c2,ug,jJ,?_⟩;exact Gr A2 c2 ug news fV (Row.len lM) uk (fun i nd hi=>by
    obtain⟨pA,pn,pc,h1,h2,h3⟩:=vZ i nd hi;exact⟨pA,pn,pc,h1.same uk,h2,h3⟩)
  ·refine⟨ml,?_⟩
   intro G4;have aaQ:G4=DJ.alloc (.cells (h.1.push (.slice Hj (dD lp).length KI)) bX):=by
    show DJ.alloc (.cells ((h.1.push (.slice Hj (dD lp).length KI)).toList++ []).toArray bX)=_
    rw [List.append_nil,Array.toArray_toList]
   have Iq:Kept Nil DJ G4:=(Kept.refl _ _).alloc _;have Mg:G4.heap[DJ.heap.size]? =some (.cells (h.1.push (.slice Hj (dD lp).length KI)) bX (0,0)):=by rw [aaQ];exact aH DJ _
   clear_value G4;refine⟨by rw [add_zero,aD (Iq.heap IT (fun h=>h))];exact Wz,?_⟩;obtain⟨A1,c1,OK,news,mU,lM,Pu,vZ⟩:=ym (sA.same Iq) (cx:=c) Oj (by omega);have WS:=Pu.heap Mg (fun h=>h);obtain⟨A2,c2,Kp,jJ,fV,Md⟩:=yn lM (by omega) Pu.size WS ml (Ag _ _ _ _);have Ue:Kept Nil G4 Kp:=Kept.dO Pu Md (fun k hk=>(Row.bL lM hk).1);have Yp:Kept Nil DJ Kp:=Iq.tt Ue;refine⟨A1,_,c1,OK,mU,A2,_,c2,Kp,jJ,?_⟩;exact Gr A2 c2 Kp news (Row.base fV fun k hk=>Nat.le_trans Iq.size (Row.bL fV hk).1) (Row.len lM) Yp (fun i nd hi=>by
    obtain⟨pA,pn,pc,h1,h2,h3⟩:=vZ i nd hi;exact⟨pA,pn,pc,h1.same Ue,h2,h3⟩)
end
theorem sS:∀ {l m:List HT},l.Nodup->(∀x∈l,x∈m)->l.length<=m.length
 | [],_,_,_=>Nat.zero_le _
 |x::l,m,hn,h=>by
  rw [List.nodup_cons]at hn;have hx:=h x (by simp);have:=sS (l:=l) (m:=m.erase x) hn.2 (fun y hy=>by
   have fM:y≠x:=fun e=>hn.1 (e▸hy);exact(List.mem_erase_of_ne fM).2 (h y (by simp [hy])))
  rw [List.length_erase_of_mem hx]at this;have jF:0<m.length:=List.length_pos_of_mem hx;simp only [List.length_cons];omega
structure PB(w0 w':World)(D:DG)(l out:List HT)(A1:Option Addr)(c1:Nat)(A2:Option Addr)(c2:Nat):Prop where
 r1:bI w' w0.heap.size A1 out.length c1 out
 r2:bI w' w0.heap.size A2 (l.length+out.length) c2 (l++out)
 ap:∀k,bn A1=some k->bn A2≠some k
 nd:out.Nodup
 GP:∀x∈out,∃h∈l,fz D x h
 kp:Kept Nil w0 w'
section
variable{w w' jn:World}{F S:Nat->Prop}{D:DG}{l out:List HT}{A1 A2:Option Addr}{c1 c2 r:Nat}{K:Value->World->Prop}
theorem PB.same(h:PB w w' D l out A1 c1 A2 c2)(k:Kept Nil w' jn):PB w jn D l out A1 c1 A2 c2:=
 ⟨Row.aF h.r1 k (fun _ _ h=>h),Row.aF h.r2 k (fun _ _ h=>h),h.ap,h.nd,h.GP,h.kp.tt k⟩
theorem PB.len(h:PB w w' D l out A1 c1 A2 c2)(W:jY D):out.length<=D.length:=by
 rw [<-gz D];exact sS h.nd fun x hx=>by obtain⟨_,_,ha⟩:=h.GP x hx;exact(ha.mem W).1
theorem jf(w:World)(x:HT):HS (w.alloc (.cells (x.1.toList++ []).toArray ag)) (some ⟨w.heap.size,0,none⟩) 1 [x]:=by
 refine HS.one (t:=ag) (fr:=(0,0)) ?_;rw [List.append_nil,Array.toArray_toList];exact aH w _
theorem PB.add(h:PB w w' D l out A1 c1 A2 c2){x:HT}(hx:x∉out)(ha:∃h∈l,fz D x h)(hb:l.length+out.length<=500000):
 ∃Km Hg v,(Builtin.append_ #[ay,ay] ay #[.slice A1 out.length c1,.slice (some ⟨w'.heap.size,0,none⟩) 1 1]).run prog (w'.alloc (.cells (x.1.toList++ []).toArray ag))=.ok (.slice Km (out.length+1) Hg) v/\Kept (fun k=>w.heap.size<=k) w' v/\
 ∃Hi zB u,(Builtin.append_ #[ay,ay] ay #[.slice A2 (l.length+out.length) c2,.slice (some ⟨v.heap.size,0,none⟩) 1 1]).run prog (v.alloc (.cells (x.1.toList++ []).toArray ag))=.ok (.slice Hi (l.length+out.length+1) zB) u/\
  PB w u D l (out++ [x]) Km Hg Hi zB:=by
 have hkw:=h.kp.size;have k1:Kept Nil w' (w'.alloc (.cells (x.1.toList++ []).toArray ag)):=(Kept.refl _ _).alloc _;have yT:=jf w' x;generalize w'.alloc (.cells (x.1.toList++ []).toArray ag)=w1 at k1 yT⊢;have r1:bI w1 w.heap.size A1 out.length c1 out:=Row.aF h.r1 k1 (fun _ _ h=>h);have ai9:=k1.size;obtain⟨Km,Hg,v,mU,lM,hg1,y7⟩:=cK (cx:=1) ay r1 yT (by omega) (by omega);have Pn:Kept (fun k=>bn A1=some k) w1 v:=Kept.grown (Kept.refl _ _) hg1 (fun k hk _=>hk);have hA1:∀k,bn A1=some k->w.heap.size<=k/\k<w'.heap.size:=fun k hk=>by
  obtain⟨h1,cur,hc⟩:=Row.bL h.r1 hk;exact⟨h1,aU hc⟩
 have Ol:∀k,bn A2=some k->w.heap.size<=k/\k<w'.heap.size:=fun k hk=>by
  obtain⟨h1,cur,hc⟩:=Row.bL h.r2 hk;exact⟨h1,aU hc⟩
 have kv:Kept (fun k=>w.heap.size<=k) w' v:=(k1.mono (fun _ _ h=>h.elim)).trans Pn (fun k _ e=>(hA1 k e).1);refine⟨Km,Hg,v,mU,kv,?_⟩;have k2:Kept Nil v (v.alloc (.cells (x.1.toList++ []).toArray ag)):=(Kept.refl _ _).alloc _;have yS:=jf v x;generalize v.alloc (.cells (x.1.toList++ []).toArray ag)=w2 at k2 yS⊢;have r2v:bI v w.heap.size A2 (l.length+out.length) c2 (l++out):=Row.aF (Row.aF h.r2 k1 (fun _ _ h=>h)) Pn (fun k hk e=>h.ap k e hk);have r2:bI w2 w.heap.size A2 (l.length+out.length) c2 (l++out):=Row.aF r2v k2 (fun _ _ h=>h);have P9:=Pn.size;have ai6:=k2.size;obtain⟨Hi,zB,u,jJ,fV,Md,lE⟩:=cK (cx:=1) ay r2 yS (by omega) (by omega);have ku:Kept (fun k=>bn A2=some k) w2 u:=Kept.grown (Kept.refl _ _) Md (fun k hk _=>hk);have adH:∀k,bn Km=some k->k<v.heap.size:=fun k hk=>by
  obtain⟨_,cur,hc⟩:=Row.bL lM hk;exact aU hc
 have W5:∀k,bn Km=some k->bn A2≠some k:=fun k hk e=>by
  rcases y7 k hk with h'|h'
  ·exact h.ap k h' e
  ·have:=(Ol k e).2;omega
 have Tk:bI u w.heap.size Km (out.length+1) Hg (out++ [x]):=Row.aF (Row.aF lM k2 (fun _ _ h=>h)) ku (fun k hk e=>W5 k hk e);refine⟨Hi,zB,u,jJ,?_⟩;refine⟨?_,?_,fun k hk e=>?_,?_,fun y hy=>?_,?_⟩
 ·rw [List.length_append];exact Tk
 ·rw [List.length_append,<-List.append_assoc,List.length_singleton,<-Nat.add_assoc];exact fV
 ·rcases lE k e with h'|h'
  ·exact W5 k hk h'
  ·have:=adH k hk;omega
 ·rw [List.nodup_append]
  exact⟨h.nd,by simp,fun u hu v hv e=>hx (by rw [List.mem_singleton]at hv;rw [<-hv,<-e];exact hu)⟩
 ·rw [List.mem_append,List.mem_singleton]at hy
  rcases hy with hy|rfl
  ·exact h.GP y hy
  ·exact ha
 ·exact((h.kp.trans kv (fun k hk e=>absurd hk (by omega))).tt k2).trans ku (fun k hk e=>absurd (Ol k e).1 (by omega))
theorem FG(W:jY D){l out:List HT}(ha:∀x∈out,∃h∈l,fz D x h)(hc:∀h∈l++out,∀p,nK D p h->p∈out):dD out=eF D l:=by
 refine D0 fun a=>⟨fun h=>?_,fun⟨_,h,hl,han⟩=>?_⟩
 ·obtain⟨b,hb,jT⟩:=ha a h
  exact⟨(jT.mem W).1,b,hb,jT⟩
 ·have key:∀ {a h},fz D a h->h∈l++out->a∈out:=by
   intro a h han
   induction han with
   |one hp=>exact fun hm=>hc _ hm _ hp
   |more _ hp ih=>exact fun hm=>ih (by rw [List.mem_append];exact .inr (hc _ hm _ hp))
  exact key han (by rw [List.mem_append];exact .inl hl)
theorem Af(H:uR w F r D)(W:jY D)(hD:D.length<=10000){A:Option Addr}{n c:Nat}(hl:HS w A n l)(hn:n<=10000)
 (hK:∀A' c' w',bI w' w.heap.size A' (eF D l).length c' (eF D l)->Kept Nil w w'->K (.slice A' (eF D l).length c') w'):
 bC prog aI.id #[.pointer (some ⟨r,0,none⟩),.slice A n c] w K:=by
 refine aI.of ?_;unfold aI.W;have hlen:=hl.len;obtain⟨A4,c4,w4,wJ,iC,EC,ph⟩:=cK (cx:=c) ay (bI.nil w w.heap.size) hl (by omega) (Nat.le_refl _);rw [Nat.zero_add]at wJ iC;rw [List.nil_append]at iC;have k4:Kept Nil w w4:=Kept.dO (Kept.refl _ _) EC (fun k hk=>by cases hk);refine⟨A4,n,c4,w4,wJ,?_⟩;refine aI.cC (I:=fun s w'=>∃(i:Nat) (out:List HT) (A1:Option Addr) (c1:Nat) (A2:Option Addr) (c2:Nat),s=(A1,out.length,c1,A2,n+out.length,c2,(i:Int))/\PB w w' D l out A1 c1 A2 c2/\i<=n+out.length/\∀h∈(l++out).take i,∀p,nK D p h->p∈out)
  (μ:=fun s _=>((n:Int)+D.length-s.2.2.2.2.2.2).toNat) (s:=(none,0,0,A4,n,c4,0))
  ⟨0,[],none,0,A4,c4,by simp,⟨bI.nil _ _,by simpa [hlen]using iC,(fun k hk=>by cases hk),List.Pairwise.nil,by simp,k4⟩,by omega,by simp⟩ ?_
 rintro s w' ⟨i,out,A1,c1,A2,c2,rfl,Bc,hi,qC⟩;have Vh:=Bc.len W;have jJ:=Bc.r2;rw [hlen]at jJ;refine Split.dec (fun jK=>?_) (fun gA=>?_)
 ·simp only at jK
  have dS:i<n+out.length:=by omega
  obtain⟨h,hh⟩:∃h,(l++out)[i]? =some h:=⟨_,List.getElem?_eq_getElem (by simp;omega)⟩;refine jJ.hs.load (i:=(i:Int)) (by omega) hh (jI (H.same Bc.kp) (by omega) h fun mT tQ=>⟨_,rfl,Split.dec (fun yY=>?_) (fun jF=>?_)⟩)
  ·simp only
   rw [dM (n:=(i:Int)) (by omega) (by omega)];refine⟨(A1,out.length,c1,A2,n+out.length,c2,(i:Int)+1),rfl,⟨i+1,out,A1,c1,A2,c2,rfl,Bc.same tQ,by omega,fun x hx p hp=>?_⟩,by simp only;omega⟩;rcases(bP hh).1 hx with hx|rfl
   ·exact qC x hx p hp
   ·exact absurd (fz.mem W (.one hp)).2 (oM.1 yY)
  ·have iY:h∈ids D:=pZ.1 (by omega)
   obtain⟨nd,h1,h2,h3⟩:=EP iY;have Eu:=Bc.same tQ;have H13:=H.same Eu.kp;have C7:∃b∈l,h=b\/fz D h b:=by
    have hm:=List.mem_of_getElem? hh;rw [List.mem_append]at hm;rcases hm with hm|hm
    ·exact⟨h,hm,.inl rfl⟩
    ·obtain⟨b,hb,jT⟩:=Bc.GP h hm
     exact⟨b,hb,.inr jT⟩
   have ln:∀p,nK D p h↔p∈nd.ps:=fun p=>by
    constructor
    ·rintro⟨md,xX,e,hp⟩
     obtain⟨j,hj⟩:=List.mem_iff_getElem?.1 xX;have:=W.inj hj h2 (by rw [e,h3]);subst this;rw [h2]at hj;cases hj;exact hp
    ·exact fun hp=>⟨nd,List.mem_of_getElem? h2,h3,hp⟩
   have ry:nd.ps.length<=D.length:=by
    rw [<-gz D];exact sS (W.ss nd (List.mem_of_getElem? h2)).nodup fun x hx=>(fz.mem W (.one ((ln x).2 hx))).1
   refine H.go' Eu.kp fun A c sA=>sA.ps' Eu.kp h1 h2 fun pA pn pc qN=>?_;have LO:=qN.len;refine aI.gU (I:=fun s w'=>∃(k:Nat) (ns:List HT) (A1:Option Addr) (c1:Nat) (A2:Option Addr) (c2:Nat),s=(A1,ns.length,c1,A2,n+ns.length,c2,(k:Int))/\PB w w' D l ns A1 c1 A2 c2/\k<=pn/\(∃m,ns=out++m)/\(∀p∈nd.ps.take k,p∈ns))
    (μ:=fun s _=>((pn:Int)-s.2.2.2.2.2.2).toNat) (s:=(A1,out.length,c1,A2,n+out.length,c2,0)) ⟨0,out,A1,c1,A2,c2,rfl,Eu,Nat.zero_le _,⟨[],by simp⟩,by simp⟩ ?_
   rintro s w1 ⟨k,ns,B1,d1,B2,d2,rfl,hq,hk,⟨m,hm⟩,gK⟩;have ajo:=hq.len W;refine Split.dec (fun QB=>?_) (fun QJ=>?_)
   ·simp only at QB
    have BW:k<pn:=by omega
    obtain⟨p,hp⟩:∃p,nd.ps[k]? =some p:=⟨_,List.getElem?_eq_getElem (by omega)⟩;have U6:=List.mem_of_getElem? hp;refine(qN.same hq.kp).load (i:=(k:Int)) (by omega) hp (yA p hq.r1.hs (by simp only;omega) fun xz Ga=>⟨_,rfl,?_⟩);have LL:=hq.same Ga;have ajk:(nd.ps.length:Int)<=10000:=by omega
    by_cases xf:p∈ns
    ·refine Split.no (by rw [decide_eq_true xf];rfl) ?_
     simp only;rw [dM (n:=(k:Int)) (by omega) (by omega)];refine⟨(B1,ns.length,d1,B2,n+ns.length,d2,(k:Int)+1),rfl,⟨k+1,ns,B1,d1,B2,d2,rfl,LL,BW,⟨m,hm⟩,fun q Bb=>?_⟩,by simp only;omega⟩;rcases(bP hp).1 Bb with Bb|rfl
     ·exact gK q Bb
     ·exact xf
    ·refine Split.yes (by rw [decide_eq_false xf];rfl) ?_
     have W6:∃b∈l,fz D p b:=by
      obtain⟨b,hb,e|e⟩:=C7
      ·subst e;exact⟨_,hb,.one ((ln p).2 U6)⟩
      ·exact⟨b,hb,fz.trans (.one ((ln p).2 U6)) e⟩
     obtain⟨Km,Hg,v,mU,kv,Hi,zB,u,LJ,hqu⟩:=LL.add xf W6 (by omega);rw [hlen]at LJ;refine(qN.same LL.kp).load (i:=(k:Int)) (by omega) hp ⟨p.2.1,?_⟩;refine⟨Km,_,Hg,v,mU,?_⟩;have Pf:Kept Nil w v:=LL.kp.trans kv (fun k hk e=>absurd hk (by omega));refine(qN.same Pf).load (i:=(k:Int)) (by omega) hp ⟨p.2.1,?_⟩;refine⟨Hi,_,zB,u,LJ,?_⟩;simp only;rw [dM (n:=(k:Int)) (by omega) (by omega)];have e1:ns.length+1=(ns++ [p]).length:=by simp
     rw [e1,show n+ns.length+1=n+(ns++ [p]).length by simp;omega];refine⟨(Km,(ns++ [p]).length,Hg,Hi,n+(ns++ [p]).length,zB,(k:Int)+1),rfl,⟨k+1,ns++ [p],Km,Hg,Hi,zB,rfl,hqu,BW,⟨m++ [p],by rw [hm];simp⟩,fun q Bb=>?_⟩,by simp only;omega⟩;rw [List.mem_append,List.mem_singleton];rcases(bP hp).1 Bb with Bb|rfl
     ·exact .inl (gK q Bb)
     ·exact .inr rfl
   ·simp only at QJ
    rw [aR,aI.jN];unfold aI.iN;rw [dM (n:=(i:Int)) (by omega) (by omega)];rw [List.take_of_length_le (by omega)]at gK;refine⟨(B1,ns.length,d1,B2,n+ns.length,d2,(i:Int)+1),rfl,⟨i+1,ns,B1,d1,B2,d2,rfl,hq,by rw [hm];simp;omega,fun x hx q IK=>?_⟩,by simp only;omega⟩;have hh':(l++ns)[i]? =some h:=by
     rw [hm,<-List.append_assoc,List.getElem?_append_left (lgeS hh).1];exact hh
    rcases(bP hh').1 hx with hx|rfl
    ·have Yt:x∈(l++out).take i:=by
      rw [hm,<-List.append_assoc,List.take_append_of_le_length (by simp;omega)]at hx;exact hx
     rw [hm,List.mem_append];exact .inl (qC x Yt q IK)
    ·exact gK q ((ln q).1 IK)
 ·simp only at gA
  have hie:i=n+out.length:=by omega
  rw [aR,aI.df];rw [List.take_of_length_le (by simp;omega)]at qC;have e:=FG W Bc.GP qC;refine qS Bc.r1.hs (by simp only;omega) fun A' c' w2 row k2=>⟨A',_,c',rfl,?_⟩;rw [e]at row⊢;exact hK A' c' w2 (Row.base row fun b hb=>Nat.le_trans Bc.kp.size (Row.bL row hb).1) (Bc.kp.tt k2)
end
section
variable{w w' jn:World}{F S:Nat->Prop}{D:DG}{is:HT->Prop}{i:Nat}{l out:List HT}{A:Option Addr}{c r:Nat}{K:Value->World->Prop}
theorem qT(H:uR w F r D)(W:jY D)(hD:D.length<=10000)(a b:HT)(hK:∀w' (x:Bool),(x=true↔fz D a b)->Kept Nil w w'->K (.bool x) w'):
 bC prog dY.id #[.pointer (some ⟨r,0,none⟩),.agg a.1,.agg b.1] w K:=by
 refine dY.of ?_;unfold dY.W;intro w4 w5 w6;have k4:Kept Nil w w4:=(Kept.refl _ _).alloc _;have Bj:w4.heap[w.heap.size]? =some (.cells a.1 ag (0,0)):=aH w _;have k5:Kept Nil w4 w5:=(Kept.refl _ _).alloc _;have oS:w5.heap[w4.heap.size]? =some (.cells b.1 ag (0,0)):=aH w4 _;have k6:Kept Nil w5 w6:=(Kept.refl _ _).drew;have xi:=k6.heap (k5.heap Bj (fun h=>h)) (fun h=>h);have qE:=k6.heap oS (fun h=>h);have kw6:Kept Nil w w6:=(k4.tt k5).tt k6;clear_value w6;refine⟨a.1,⟨a.2.1,Cells.bL xi⟩,jI (H.same kw6) (by omega) a fun w9 k9=>⟨_,rfl,Split.dec (fun gA=>?_) (fun Qt=>?_)⟩⟩
 ·have ha9:=k9.heap xi (fun h=>h)
  have TP:Kept Nil w w9:=kw6.tt k9;refine⟨b.1,⟨b.2.1,Cells.bL (k9.heap qE (fun h=>h))⟩,a.1,⟨a.2.1,Cells.bL ha9⟩,b.2.1,?_⟩;intro mT;have tQ:Kept Nil w9 mT:=(Kept.refl _ _).alloc _;have jM:HS mT (some ⟨w9.heap.size,0,none⟩) 1 [b]:=jf w9 b;clear_value mT;have TT:Kept Nil w mT:=TP.tt tQ;have W8:=tQ.heap ha9 (fun h=>h);refine⟨⟨a.1,rfl,a.2.1,Cells.bL W8⟩,Af (H.same TT) W hD jM (by omega) fun A15 c15 nM Tl tP=>⟨A15,_,c15,rfl,?_⟩⟩;have ry:=nO D fun x=>∃h∈ [b],fz D x h;refine⟨⟨a.1,rfl,a.2.1,Cells.bL (tP.heap W8 (fun h=>h))⟩,yA a Tl.hs (by unfold eF;omega) fun sy Gb=>⟨_,rfl,?_⟩⟩;refine hK sy _ ?_ ((TT.tt tP).tt Gb);rw [decide_eq_true_iff];unfold eF;rw [jQ];constructor
  ·rintro⟨_,h,hh,ha⟩
   rw [List.mem_singleton]at hh;subst hh;exact ha
  ·intro ha
   exact⟨(ha.mem W).1,b,by simp,ha⟩
 ·refine hK w9 false ?_ (kw6.tt k9)
  constructor
  ·intro h;cases h
  ·intro ha;exact absurd (pZ.2 (ha.mem W).1) Qt
theorem HW(W:jY D){j:Nat}{nd:DN}(h2:D[j]? =some nd)(p:HT):nK D p nd.id↔p∈nd.ps:=by
 constructor
 ·rintro⟨md,xX,e,hp⟩
  obtain⟨k,hk⟩:=List.mem_iff_getElem?.1 xX;have:=W.inj hk h2 e;subst this;rw [h2]at hk;cases hk;exact hp
 ·exact fun hp=>⟨nd,List.mem_of_getElem? h2,rfl,hp⟩
theorem FC(H:uR w F r D)(W:jY D)(hD:D.length<=10000)(a b:HT)(hK:∀w' (x:Bool),(x=true↔a≠b/\¬fz D a b/\¬fz D b a)->Kept Nil w w'->K (.bool x) w'):
 bC prog eK.id #[.pointer (some ⟨r,0,none⟩),.agg a.1,.agg b.1] w K:=by
 refine eK.of ?_;unfold eK.W;intro w4 w5;have k4:Kept Nil w w4:=(Kept.refl _ _).alloc _;have Bj:w4.heap[w.heap.size]? =some (.cells a.1 ag (0,0)):=aH w _;have k5:Kept Nil w4 w5:=(Kept.refl _ _).alloc _;have oS:w5.heap[w4.heap.size]? =some (.cells b.1 ag (0,0)):=aH w4 _;have Mk:=k5.heap Bj (fun h=>h);have MX:Kept Nil w w5:=k4.tt k5;clear_value w5;refine⟨a.1,⟨a.2.1,Cells.bL Mk⟩,b.1,⟨b.2.1,Cells.bL oS⟩,⟨a.2.ints,b.2.ints⟩,?_⟩;rw [dF];by_cases e:a=b
 ·refine Split.no (by rw [decide_eq_true e];rfl) ?_
  exact hK w5 false (by simp [e]) MX
 ·refine Split.yes (by rw [decide_eq_false e];rfl) ?_
  refine⟨a.1,⟨a.2.1,Cells.bL Mk⟩,b.1,⟨b.2.1,Cells.bL oS⟩,qT (H.same MX) W hD a b fun po x hx CA=>⟨x,rfl,?_⟩⟩;cases x with
  |true=>
   refine Split.no rfl ?_;exact hK po false (by simp [hx.1 rfl]) (MX.tt CA)
  |false=>
   refine Split.yes rfl ?_;have hn:¬fz D a b:=fun h=>by have:=hx.2 h;cases this
   have TU:=MX.tt CA;refine⟨b.1,⟨b.2.1,Cells.bL (CA.heap oS (fun h=>h))⟩,a.1,⟨a.2.1,Cells.bL (CA.heap Mk (fun h=>h))⟩,qT (H.same TU) W hD b a fun jH y hy nt=>⟨y,rfl,?_⟩⟩;refine hK jH _ ?_ (TU.tt nt);rw [Bool.not_eq_true',<-Bool.not_eq_true,hy];exact⟨fun h=>⟨e,hn,h⟩,fun h=>h.2.2⟩
end
structure NM where
 b:Nat
 pA:Option Addr
 pn:Nat
 pc:Nat
 cA:Option Addr
 cn:Nat
 cc:Nat
 rA:Option Addr
 rn:Nat
 rc:Nat
 ws:List Nat
def gw(h:HT)(m:NM):Array Value:=h.1++ #[.slice m.pA m.pn m.pc,.slice m.cA m.cn m.cc,.slice m.rA m.rn m.rc]
theorem vF(h:HT)(m:NM):(gw h m).size=35:=by unfold gw;rw [Array.size_append,h.2.1];rfl
theorem H4(h:HT)(m:NM){j:Nat}{v:Value}(hj:h.1[j]? =some v):(gw h m)[j]? =some v:=by
 unfold gw;rw [Array.getElem?_append_left (Array.getElem?_eq_some_iff.1 hj).1];exact hj
theorem H5(h:HT)(m:NM):(gw h m)[33]? =some (.slice m.cA m.cn m.cc):=by
 unfold gw;rw [Array.getElem?_append_right (by rw [h.2.1];omega),h.2.1];rfl
theorem Az(h:HT)(m:NM):(gw h m)[34]? =some (.slice m.rA m.rn m.rc):=by
 unfold gw;rw [Array.getElem?_append_right (by rw [h.2.1];omega),h.2.1];rfl
theorem FO{h h':HT}{m m':NM}(e:gw h m=gw h' m'):h=h':=by
 apply Subtype.ext;have h1:=h.2.1;have h2:=h'.2.1;have:=congrArg (fun a:Array Value=>a.toList.take 32) e;unfold gw at this;simp only [Array.toList_append]at this;rw [List.take_left' (by simpa using h1),List.take_left' (by simpa using h2)]at this;exact Array.ext' this
structure ru(w:World)(S F:Nat->Prop)(D:DG)(ch:List HT)(nd:DN)(m:NM):Prop where
 bL:w.heap[m.b]? =some (.cells (gw nd.id m) ek (0,0))
 gI:S m.b
 ps:HS w m.pA m.pn nd.ps
 K1:∀a,m.pA=some a->F a.block
 ch:bI w 0 m.cA m.cn m.cc ch
 Rr:∀k,bn m.cA=some k->S k
 past:US w m.rA m.rn m.ws
 pK:∀a,m.rA=some a->F a.block
 ok:okW m.ws
 bits:∀j,bit m.ws j=true↔∃nj,D[j]? =some nj/\fz D nj.id nd.id
 small:m.rn<=200
structure GV(w:World)(S F:Nat->Prop)(g:Nat)(D:DG)(C:HT->List HT)(bl c mb:Nat)(M:List NM):Prop where
 top:w.heap[g]? =some (.cells #[.slice (some ⟨bl,0,none⟩) D.length c,.map (some mb)] iz (0,0))
 row:Row w 0 fy 1 (some ⟨bl,0,none⟩) D.length c (M.map fun m=>.pointer (some ⟨m.b,0,none⟩))
 map:IsMap w mb (ids D)
 len:M.length=D.length
 node:∀(i:Nat) nd m,D[i]? =some nd->M[i]? =some m->ru w S F D (C nd.id) nd m
 apart:∀(i j:Nat) m m',M[i]? =some m->M[j]? =some m'->i≠j->∀k,bn m.cA=some k->bn m'.cA≠some k
 iF:S g
 tW:S bl
 wi:S mb
 Hf:∀k,S k->¬F k
 low:∀k,S k\/F k->k<w.heap.size
def EV(w:World)(S F:Nat->Prop)(g:Nat)(D:DG):Prop:=∃bl c mb M,GV w S F g D (gX D) bl c mb M
section
variable{w w':World}{S F S' F':Nat->Prop}{g bl c mb:Nat}{D:DG}{C:HT->List HT}{M:List NM}{K:Value->World->Prop}
theorem ru.aF{ch:List HT}{nd:DN}{m:NM}{S0:Nat->Prop}(h:ru w S F D ch nd m)(hk:Kept S0 w w')(hS:∀k,S k->¬S0 k)(hF:∀k,F k->¬S0 k):ru w' S F D ch nd m:=
 ⟨hk.heap h.bL (hS _ h.gI),h.gI,h.ps.aF hk (fun a ha=>hF _ (h.K1 a ha)),h.K1,Row.aF h.ch hk (fun k hb=>hS k (h.Rr k hb)),h.Rr,h.past.aF hk (fun a ha=>hF _ (h.pK a ha)),h.pK,h.ok,h.bits,h.small⟩
theorem GV.aF{S0:Nat->Prop}(h:GV w S F g D C bl c mb M)(hk:Kept S0 w w')(hS:∀k,S k->¬S0 k)(hF:∀k,F k->¬S0 k):GV w' S F g D C bl c mb M:=
 ⟨hk.heap h.top (hS _ h.iF),Row.aF h.row hk (fun k e=>by cases e;exact hS _ h.tW),h.map.aF hk (hS _ h.wi),h.len,fun i nd m h1 h2=>(h.node i nd m h1 h2).aF hk hS hF,h.apart,h.iF,h.tW,h.wi,h.Hf,fun k oR=>Nat.lt_of_lt_of_le (h.low k oR) hk.size⟩
theorem GV.same(h:GV w S F g D C bl c mb M)(hk:Kept Nil w w'):GV w' S F g D C bl c mb M:=h.aF hk (fun _ _ h=>h) (fun _ _ h=>h)
theorem EV.aF{S0:Nat->Prop}(h:EV w S F g D)(hk:Kept S0 w w')(hS:∀k,S k->¬S0 k)(hF:∀k,F k->¬S0 k):EV w' S F g D:=let ⟨bl,c,mb,M,h⟩:=h;⟨bl,c,mb,M,h.aF hk hS hF⟩
theorem EV.same(h:EV w S F g D)(hk:Kept Nil w w'):EV w' S F g D:=h.aF hk (fun _ _ h=>h) (fun _ _ h=>h)
theorem GV.get(h:GV w S F g D C bl c mb M){i:Nat}{nd:DN}(hi:D[i]? =some nd):∃m,M[i]? =some m/\ru w S F D (C nd.id) nd m:=by
 have:=(lgeS hi).1;have hl:=h.len;exact⟨M[i],List.getElem?_eq_getElem (by omega),h.node i nd _ hi (List.getElem?_eq_getElem (by omega))⟩
theorem GV.nodes(h:GV w S F g D C bl c mb M):w.cell? ((⟨g,0,none⟩:Addr).add 0)=some (.slice (some ⟨bl,0,none⟩) D.length c):=by rw [add_zero,aD h.top];rfl
theorem GV.at_(h:GV w S F g D C bl c mb M):w.cell? ((⟨g,0,none⟩:Addr).add 1)=some (.map (some mb)):=by rw [bt,aD h.top];rfl
theorem GV.ptr(h:GV w S F g D C bl c mb M){i:Nat}{m:NM}(hm:M[i]? =some m):w.cell? ((⟨bl,0,none⟩:Addr).add (i*1))=some (.pointer (some ⟨m.b,0,none⟩)):=by
 rw [bt,Nat.zero_add,Nat.mul_one];exact Row.cell h.row (by rw [List.getElem?_map,hm];rfl)
theorem yh(h:GV w S F g D C bl c mb M)(hK:K (.bool true) w):bC prog gD.id #[.pointer (some ⟨g,0,none⟩)] w K:=
 gD.of (Split.yes rfl ⟨some mb,h.at_,hK⟩)
def Found(D:DG)(M:List NM)(h:HT)(x:Option Addr):Prop:=(x=none/\h∉ids D)\/∃(i:Nat) (nd:DN) (m:NM),D[i]? =some nd/\nd.id=h/\M[i]? =some m/\x=some ⟨m.b,0,none⟩
theorem Found.isSome{h:HT}{x:Option Addr}(f:Found D M h x):(!x.isNone)=decide (h∈ids D):=by
 rcases f with⟨rfl,hn⟩|⟨i,nd,m,h1,h2,_,rfl⟩
 ·rw [decide_eq_false hn];rfl
 ·rw [decide_eq_true (dr.2 ⟨nd,List.mem_of_getElem? h1,h2⟩)];rfl
theorem wv(G:GV w S F g D C bl c mb M)(h:HT)(hK:∀w' x,Kept Nil w w'->Found D M h x->K (.pointer x) w'):
 bC prog gq.id #[.pointer (some ⟨g,0,none⟩),.agg h.1] w K:=by
 refine gq.of ?_;unfold gq.W;intro w3;have k3:Kept Nil w w3:=(Kept.refl _ _).alloc _;have mK:w3.heap[w.heap.size]? =some (.cells h.1 ag (0,0)):=aH w _;clear_value w3;refine yh (G.same k3) ⟨true,rfl,Split.yes rfl ?_⟩;intro w7;have k7:Kept Nil w3 w7:=(Kept.refl _ _).drew;clear_value w7;have kw:Kept Nil w w7:=k3.tt k7;have G7:=G.same kw;refine⟨some mb,G7.at_,h.1,⟨h.2.1,Cells.bL (k7.heap mK (fun h=>h))⟩,_,_,G7.map.look h,?_⟩;cases hp:pos h (ids D) 0 with
 |none=>exact Split.no rfl (hK w7 none kw (.inl ⟨rfl,pJ.1 hp⟩))
 |some i=>
  obtain⟨_,hi⟩:=vu hp;obtain⟨nd,h1,h2⟩:=IJ hi;rw [Nat.sub_zero]at h1;obtain⟨m,hm,_⟩:=G7.get h1;have dS:=(lgeS h1).1;refine Split.yes rfl ⟨_,_,_,G7.nodes,⟨by simp,by simp only [Option.getD_some];omega⟩,some ⟨m.b,0,none⟩,?_,hK w7 _ kw (.inr ⟨i,nd,m,h1,h2,hm,rfl⟩)⟩;rw [Option.getD_some,Int.toNat_natCast];exact G7.ptr hm
theorem uP(G:GV w S F g D C bl c mb M)(h:HT)(hK:∀w',Kept Nil w w'->K (.bool (decide (h∈ids D))) w'):
 bC prog gP.id #[.pointer (some ⟨g,0,none⟩),.agg h.1] w K:=by
 refine gP.of ?_;unfold gP.W;intro w3;have k3:Kept Nil w w3:=(Kept.refl _ _).alloc _;have mK:w3.heap[w.heap.size]? =some (.cells h.1 ag (0,0)):=aH w _;clear_value w3;refine⟨h.1,⟨h.2.1,Cells.bL mK⟩,wv (G.same k3) h fun w6 x k6 hx=>⟨x,rfl,?_⟩⟩;rw [hx.isSome];exact hK w6 (k3.tt k6)
end
section
variable{w w':World}{S F:Nat->Prop}{g bl c mb:Nat}{D:DG}{C:HT->List HT}{M:List NM}{K:Value->World->Prop}
end
section
variable{w w':World}{S F:Nat->Prop}{g bl c mb:Nat}{D:DG}{C:HT->List HT}{M:List NM}{K:Value->World->Prop}
theorem Dk{A:Option Addr}{n c:Nat}{l:List HT}(hl:HS w A n l)(hn:n<=400000)(hK:∀A' c' w',bI w' w.heap.size A' n c' l->Kept Nil w w'->K (.slice A' n c') w'):
 bC prog dp.id #[.slice A n c] w K:=by
 refine dp.of ?_;cases A with
 |none=>
  obtain⟨rfl,rfl⟩:=hl.none;exact Split.yes rfl (hK none 0 w (bI.nil _ _) (Kept.refl _ _))
 |some a=>
  refine Split.no rfl ?_;intro w2;have k2:Kept Nil w w2:=(Kept.refl _ _).alloc _;have r0:bI w2 w.heap.size (some ⟨w.heap.size,0,none⟩) 0 0 []:=Row.made (n:=0) (cur:= #[]) (aH w _) (Nat.le_refl _) rfl (Nat.zero_le _);clear_value w2;obtain⟨A',c',w4,hr,row,hg,_⟩:=cK (cx:=c) ay r0 (hl.same k2) (by omega) k2.size;rw [Nat.zero_add]at hr row;rw [List.nil_append]at row;exact⟨A',n,c',w4,hr,hK A' c' w4 row (Kept.dO k2 hg (fun k hk=>by cases hk;exact Nat.le_refl _))⟩
theorem xJ{D:DG}{nd:DN}{m:NM}{ch:List HT}(N:ru w S F D ch nd m):w.cell? ((⟨m.b,0,none⟩:Addr).add 34)=some (.slice m.rA m.rn m.rc):=by
 rw [bt,Nat.zero_add,aD N.bL];exact Az _ _
theorem D6{D:DG}{nd:DN}{m:NM}{ch:List HT}(N:ru w S F D ch nd m):w.cell? ((⟨m.b,0,none⟩:Addr).add 33)=some (.slice m.cA m.cn m.cc):=by
 rw [bt,Nat.zero_add,aD N.bL];exact H5 _ _
end
def mH(D:DG)(j:Nat):HT:=match D[j]? with|some nd=>nd.id|none=>default
theorem vB:∀(ws:List Nat) (k:Nat),okW ws->(pO k ws).Nodup
 | [],_,_=>List.Pairwise.nil
 |x::ws,k,ho=>by
  have hx:=ho x (by simp);have Kz:okW ws:=fun y hy=>ho y (by simp [hy]);obtain⟨_,h2,h3⟩:=xN x hx;rw [pO,List.nodup_append];refine⟨List.Pairwise.map _ (fun a b jT e=>jT (by omega)) h2,vB ws (k+1) Kz,fun a ha b hb e=>?_⟩;rw [List.mem_map]at ha;obtain⟨t,ht,rfl⟩:=ha;have:=((pQ ws (k+1) b Kz).1 hb).1;have:=h3 t ht;omega
section
variable{w w':World}{S F:Nat->Prop}{g bl c mb:Nat}{D:DG}{C:HT->List HT}{M:List NM}{K:Value->World->Prop}
theorem wx(G:GV w S F g D C bl c mb M)(W:jY D)(hD:D.length<=10000)(hT:uA w){A:Option Addr}{n cx:Nat}{l:List HT}(hl:HS w A n l)(hn:n<=10000)
 (hK:∀A' c' w',bI w' w.heap.size A' (eF D l).length c' (eF D l)->Kept Nil w w'->K (.slice A' (eF D l).length c') w'):
 bC prog aV.id #[.pointer (some ⟨g,0,none⟩),.slice A n cx] w K:=by
 have hlen:=hl.len;refine aV.of ?_;unfold aV.W;intro w3;have k3:Kept Nil w w3:=(Kept.refl _ _).alloc _;have Wf:w3.heap[w.heap.size]? =some (.cells #[.pointer (some ⟨g,0,none⟩)] lJ (0,0)):=aH w _;have CK:w.heap.size<w3.heap.size:=aU Wf;clear_value w3;refine aV.cC (I:=fun s w'=>∃(i:Nat) (A':Option Addr) (n' c':Nat) (ws:List Nat),s=(A',n',c',(i:Int))/\i<=n/\lr w' w3.heap.size A' n' c' ws/\okW ws/\n'<=200/\(∀j,bit ws j=true↔∃h∈l.take i,∃nj,D[j]? =some nj/\fz D nj.id h)/\Kept Nil w3 w')
  (μ:=fun s _=>((n:Int)-s.2.2.2).toNat) (s:=(none,0,0,0)) ⟨0,none,0,0,[],rfl,Nat.zero_le _,Row.nil _ _ _ _,by simp [okW],by omega,by simp [zk],Kept.refl _ _⟩ ?_
 rintro s w' ⟨i,A',n',c',ws,rfl,hi,row,ho,hn',qD,kw⟩;have kk:Kept Nil w w':=k3.tt kw;refine Split.dec (fun jK=>?_) (fun gA=>?_)
 ·simp only at jK
  have dS:i<n:=by omega
  obtain⟨h,hh⟩:∃h,l[i]? =some h:=⟨_,List.getElem?_eq_getElem (by omega)⟩;refine(hl.same kk).load (i:=(i:Int)) (by omega) hh ?_;intro lK;obtain⟨tf,jM,kz⟩:=iy (w:=w') (z:=(zx 0)) (cs:=h.1) (t:=ag) (by rw [h.2.1];rfl);refine⟨⟨h.2.1,h.2.one,fun j hj=>tf j (by rw [h.2.1];exact hj)⟩,?_⟩;intro nM
  replace jM:nM.heap[w'.heap.size]? =some (.cells h.1 ag (0,0)):=jM
  replace kz:Kept Nil w' nM:=kz
  clear_value nM;have tP:Kept Nil w3 nM:=kw.tt kz;refine⟨some ⟨g,0,none⟩,by rw [aD (tP.heap Wf (fun h=>h))];rfl,h.1,⟨h.2.1,Cells.bL jM⟩,?_⟩;refine wv (G.same (k3.tt tP)) h fun pf x xV hx=>⟨x,rfl,?_⟩;have Lt:Kept Nil w3 pf:=tP.tt xV;have Ih:Kept Nil w pf:=k3.tt Lt;have xG:lr pf w3.heap.size A' n' c' ws:=Row.aF row (kz.tt xV) (fun _ _ h=>h);rcases hx with⟨rfl,lH⟩|⟨q,nd,m',hq,rfl,nA,rfl⟩
  ·refine Split.no rfl ?_
   simp only;rw [dM (n:=(i:Int)) (by omega) (by omega)];refine⟨(A',n',c',(i:Int)+1),rfl,⟨i+1,A',n',c',ws,rfl,dS,xG,ho,hn',fun j=>?_,Lt⟩,by simp only;omega⟩;rw [qD];constructor
   ·rintro⟨h',h1,h2⟩;exact⟨h',(bP hh).2 (.inl h1),h2⟩
   ·rintro⟨h',h1,nj,h2,h3⟩
    rcases(bP hh).1 h1 with h1|rfl
    ·exact⟨h',h1,nj,h2,h3⟩
    ·exact absurd (h3.mem W).2 lH
  ·obtain⟨m,hm,N⟩:=(G.same Ih).get hq
   rw [nA]at hm;cases hm;refine Split.yes rfl ⟨_,_,_,xJ N,?_⟩;have vU:=N.small;have EH:∀k,bn A'=some k->w3.heap.size<=k:=fun k hk=>(Row.bL xG hk).1;refine xE xG ho (by omega) Lt.size N.past N.ok (by omega) (fun a ha k hk e=>?_) fun A2 n2 c2 l2 mo Tj abH Vz Q1 mX Mh=>⟨A2,n2,c2,rfl,?_⟩
   ·have h1:=G.low a.block (.inr (N.pK a ha))
    have h2:=EH k hk;omega
   ·simp only
    rw [dM (n:=(i:Int)) (by omega) (by omega)];refine⟨(A2,n2,c2,(i:Int)+1),rfl,⟨i+1,A2,n2,c2,l2,rfl,dS,Tj,abH,by omega,fun j=>?_,Lt.trans mX (fun k hk e=>absurd (EH k e) (by omega))⟩,by simp only;omega⟩;rw [Q1,Bool.or_eq_true,qD,N.bits];constructor
    ·rintro(⟨h',h1,h2⟩|h2)
     ·exact⟨h',(bP hh).2 (.inl h1),h2⟩
     ·exact⟨nd.id,(bP hh).2 (.inr rfl),h2⟩
    ·rintro⟨h',h1,h2⟩
     rcases(bP hh).1 h1 with h1|rfl
     ·exact .inl ⟨h',h1,h2⟩
     ·exact .inr h2
 ·simp only at gA
  have hie:i=n:=by omega
  subst hie;rw [List.take_of_length_le (by omega)]at qD;rw [aR,aV.df];unfold aV.cU;intro uE;have G6:Kept Nil w' uE:=(Kept.refl _ _).alloc _;have Vk:uE.heap[w'.heap.size]? =some (.cells #[.slice none 0 0] ay (0,0)):=aH w' _;clear_value uE;refine kN.of ?_;unfold kN.W;intro ot;have BR:Kept Nil uE ot:=(Kept.refl _ _).alloc _;have LI:ot.heap[uE.heap.size]? =some (.cells #[.slice A' n' c'] lG (0,0)):=aH uE _;clear_value ot;refine⟨_,rfl,?_⟩;have Vj:=BR.heap Vk (fun h=>h);have Ui:Kept Nil w3 ot:=(kw.tt G6).tt BR;have Lh:Kept Nil w ot:=k3.tt Ui;have Ac:lr ot w3.heap.size A' n' c' ws:=Row.aF (Row.aF row G6 (fun _ _ h=>h)) BR (fun _ _ h=>h);have QM:=Ui.heap Wf (fun h=>h);have Gk:w.heap.size<w'.heap.size:=Nat.lt_of_lt_of_le CK kw.size;have ai4:w'.heap.size<ot.heap.size:=aU Vj;have ai5:uE.heap.size<ot.heap.size:=aU LI;have I7:∀j∈pO 0 ws,∃nj,D[j]? =some nj:=fun j hj=>by
   have:=((pQ ws 0 j ho).1 hj).2;rw [Nat.mul_zero,Nat.sub_zero]at this;obtain⟨_,_,nj,h1,_⟩:=(qD j).1 this;exact⟨nj,h1⟩
  have yX:(pO 0 ws).length<=D.length:=by
   have:=vC (m:=List.range D.length) (vB ws 0 ho) (fun j hj=>by
    obtain⟨nj,h1⟩:=I7 j hj;exact List.mem_range.2 (lgeS h1).1)
   rwa [List.length_range]at this
  let xs:=pO 0 ws
  let ρ0:Env:= [(2,.pointer (some (aP w.heap.size))),(4,.slice none 0 0),(9,.pointer (some (aP w'.heap.size))),(30,.func (.func aJ.id) #[] #[.pointer (some (aP uE.heap.size))])]
  let J:Nat->World->Prop:=fun i v=>∃A c,v.heap[w'.heap.size]? =some (.cells #[.slice A i c] ay (0,0))/\bI v ot.heap.size A i c ((xs.take i).map (mH D))/\Kept (· =w'.heap.size) ot v/\i<=xs.length
  have oG:∀i v,J i v->US v A' n' ws/\v.cell? ⟨uE.heap.size,0,none⟩=some (.slice A' n' c')/\uA v:=by
   rintro i v ⟨A,c,h1,h2,h3,h4⟩;refine⟨Ac.us.aF h3 (fun a ha e=>?_),by rw [aD (h3.heap LI (by have:=aU Vk;omega))];rfl,(hT.same Lh).aF h3 (fun e=>by have:=hT.lt;omega)⟩;have hk:bn A'=some a.block:=by rw [ha];rfl
   obtain⟨_,cur,hc⟩:=Row.bL row hk;have:=aU hc;omega
  refine oB (ρ:=ρ0) (ρ0:=ρ0) ng mix aV.k (t:=30) (ps:= #[31]) (by kernel_rfl) (by decide) rfl aJ.at_ rfl (.inl rfl) (fun i v _ h=>h) rfl encI xs (fun _=>rfl) (by simp [gm]) (J0 ⟨uE.heap.size,0,none⟩ (c:=c') (by omega) ho) J (fun _ _=>False) ?_ (fun _ _ _ _ _ h=>h.elim) oG ?_ ?_ ?_ (fun _ _ h=>h.elim) (fun _ _ _ h=>h.elim)
  ·rintro i v v' R nC ⟨A,c,h1,h2,h3,h4⟩ hk
   exact⟨A,c,hk.heap h1 (jW h1 nC.loop),Row.apart h2 hk (fun cs t fr h=>by rw [nC.loop]at h;cases h),h3.trans hk (fun k hk e=>by omega),h4⟩
  ·intro R
   exact⟨none,0,iI (iI Vj _) _,bI.nil _ _,(((Kept.refl _ _).alloc _).alloc _),Nat.zero_le _⟩
  ·rintro i x v R hx hj nC
   have hJ:=hj;obtain⟨A,c,h1,h2,h3,h4⟩:=hj;have dS:i<xs.length:=(lgeS hx).1;have e7:kl ρ0 ((#[31]:Array Nat).toList.zip (encI x))= [(2,.pointer (some (aP w.heap.size))),(4,.slice none 0 0),(9,.pointer (some (aP w'.heap.size))),(30,.func (.func aJ.id) #[] #[.pointer (some (aP uE.heap.size))]),(31,.int .i64 (x:Int))]:=rfl;rw [e7,aV.a1];unfold aV.A1;refine⟨nC,fun w2 R2 l9 qz=>?_⟩;have EJ:=l9.heap h1 (jW h1 nC.loop);have zz:bI w2 ot.heap.size A i c ((xs.take i).map (mH D)):=Row.apart h2 l9 (fun cs t fr h=>by rw [nC.loop]at h;cases h);have Hd:Kept (· =w'.heap.size) ot w2:=h3.trans l9 (fun k hk e=>by omega);clear hJ h1 h2 h3;rw [aV.y1];unfold aV.Y1;intro OJ;have Yo:Kept Nil w2 OJ:=(Kept.refl _ _).drew;clear_value OJ;have Xt:=Yo.heap EJ (fun h=>h);have Ee:Kept (· =w'.heap.size) ot OJ:=Hd.trans Yo (fun _ _ h=>h.elim);obtain⟨nj,G8⟩:=I7 x (List.mem_of_getElem? hx);have sZ:=(lgeS G8).1;have Z9:Kept Nil w OJ:=Lh.trans Ee (fun k hk e=>by omega);obtain⟨m,hm,N⟩:=(G.same Z9).get G8;refine⟨A,i,c,by rw [aD Xt];rfl,some ⟨g,0,none⟩,by rw [aD (Ee.heap QM (by omega))];rfl,?_⟩;refine⟨_,_,_,(G.same Z9).nodes,⟨by omega,by omega⟩,some ⟨m.b,0,none⟩,by rw [Int.toNat_natCast];exact(G.same Z9).ptr hm,?_⟩;refine⟨nj.id.1,⟨nj.id.2.1,fun j v hj=>?_⟩,nj.id.2.1,?_⟩
   ·rw [add_zero,bt,Nat.zero_add,aD N.bL]
    exact H4 _ _ hj
   intro RI;have Ud:Kept Nil OJ RI:=(Kept.refl _ _).alloc _;have jf:HS RI (some ⟨OJ.heap.size,0,none⟩) 1 [nj.id]:=jf OJ nj.id;clear_value RI;have Xs:=Ud.heap Xt (fun h=>h);refine⟨by rw [aD Xs];rfl,?_⟩;have Mn:bI RI ot.heap.size A i c ((xs.take i).map (mH D)):=Row.aF (Row.aF zz Yo (fun _ _ h=>h)) Ud (fun _ _ h=>h);have UG:ot.heap.size<=RI.heap.size:=Nat.le_trans Ee.size Ud.size;have LB:xs.length<=D.length:=yX;obtain⟨A2,c2,qQ,hr,xF,Mc,Q2⟩:=cK (cx:=1) ay Mn jf (by omega) UG;have QI:Kept (fun k=>bn A=some k) RI qQ:=Kept.grown (Kept.refl _ _) Mc (fun k hk _=>hk);have Xp:∀k,bn A=some k->ot.heap.size<=k:=fun k hk=>(Row.bL Mn hk).1;have Xr:=QI.heap Xs (fun e=>by have:=Xp _ e;omega);have ab4:Live (ot.heap.size+1) ot.heap.size R2 qQ:=by
    have Qu:=(qz.aF Yo (fun h=>h) (fun h=>h)).aF Ud (fun h=>h) (fun h=>h);refine Qu.aF QI ?_ ?_
    ·intro h
     obtain⟨_,cur,hc⟩:=Row.bL Mn h;exact jW hc Qu.loop rfl
    ·intro h
     obtain⟨_,cur,hc⟩:=Row.bL Mn h;exact rV hc Qu.mark rfl
   refine⟨A2,_,c2,qQ,hr,dm Xr (by simp),?_⟩;intro ZD;have k56:Kept (· =w'.heap.size) qQ ZD:=Kept.setCell (S:=fun k=>k=w'.heap.size) (Kept.refl _ qQ) (p:=⟨w'.heap.size,0,none⟩) (fun _=>rfl) _;have ac2:ZD.heap[w'.heap.size]? =some (.cells #[.slice A2 (i+1) c2] ay (0,0)):=cV Xr 0 _;clear_value ZD;refine⟨ab4.aF k56 (by omega) (by omega),A2,c2,ac2,?_,((Ee.trans Ud (fun _ _ h=>h.elim)).trans QI (fun k hk e=>absurd (Xp k e) (by omega))).tt k56,dS⟩;have e:(xs.take (i+1)).map (mH D)=(xs.take i).map (mH D)++ [nj.id]:=by
    rw [List.take_add_one,hx];simp [mH,G8]
   rw [e];exact Row.aF xF k56 (fun k hk e=>by have:=(Row.bL xF hk).1;omega)
  ·rintro v R ⟨A,c,h1,h2,h3,h4⟩ nC
   have e7:fY ρ0 ot.heap.size= [(2,.pointer (some (aP w.heap.size))),(4,.slice none 0 0),(9,.pointer (some (aP w'.heap.size))),(30,.func (.func aJ.id) #[] #[.pointer (some (aP uE.heap.size))]),(4294967296,.agg #[.pointer (some ⟨ot.heap.size,0,none⟩)])]:=rfl;rw [e7,aV.iL];rw [List.take_of_length_le (Nat.le_refl _)]at h2;have LB:xs.length<=D.length:=yX;refine⟨A,xs.length,c,by rw [aD h1];rfl,ji h2.hs (by omega) fun A2 c2 ZC HN Il=>⟨A2,_,c2,rfl,⟨Il.heap nC.mark (fun h=>h),trivial⟩,?_⟩⟩;have hmk:=Il.heap nC.mark (fun h=>h);have kp:Kept (· =ot.heap.size) ZC (ZC.putObj ot.heap.size (.deferred none)):=Kept.putAt _ _ _;have e:dD (xs.map (mH D))=eF D l:=D0 fun a=>by
    rw [List.mem_map];constructor
    ·rintro⟨j,hj,rfl⟩
     have hb:=((pQ ws 0 j ho).1 hj).2;rw [Nat.mul_zero,Nat.sub_zero]at hb;obtain⟨h',rD,nj,uv,BZ⟩:=(qD j).1 hb;have:mH D j=nj.id:=by unfold mH;rw [uv]
     rw [this];exact⟨(BZ.mem W).1,h',rD,BZ⟩
    ·rintro⟨ha,h',hh',C7⟩
     obtain⟨nj,hnm,rfl⟩:=dr.1 ha;obtain⟨j,hj⟩:=List.mem_iff_getElem?.1 hnm;refine⟨j,(pQ ws 0 j ho).2 ⟨by omega,?_⟩,by unfold mH;rw [hj]⟩;rw [Nat.mul_zero,Nat.sub_zero];exact(qD j).2 ⟨h',hh',nj,hj,C7⟩
   rw [e]at HN⊢;have lP:Kept Nil w ZC:=(Lh.trans h3 (fun k hk e=>by omega)).tt Il;have hws:w.heap.size<=v.heap.size:=Nat.le_trans Lh.size h3.size;refine hK A2 c2 _ (Row.base (Row.apart HN kp (fun cs t fr h=>by rw [hmk]at h;cases h)) fun b hb=>Nat.le_trans hws (Row.bL HN hb).1) (lP.trans kp (fun k hk e=>by omega))
end
section
variable{w w':World}{S F:Nat->Prop}{g bl c mb gb:Nat}{D:DG}{C:HT->List HT}{M:List NM}{K:Value->World->Prop}
theorem BB(G:GV w S F g D C bl c mb M)(hg:w.heap[gb]? =some (.cells #[.pointer (some ⟨g,0,none⟩)] lJ (0,0))){A:Option Addr}{n cx:Nat}{l:List HT}(hl:HS w A n l)(hn:n<=400000)
 (hK:∀w' (x:Bool),(x=true↔∃p∈l,p∉ids D)->Kept Nil w w'->K (.bool x) w'):
 bC prog dT.id #[.slice A n cx,.func (.func eR.id) #[] #[.pointer (some ⟨gb,0,none⟩)]] w K:=by
 have hlen:=hl.len;refine cD.of (aw.of ?_);refine aw.cC (I:=fun s w'=>∃i:Nat,s=(0,(i:Int))/\i<=n/\(∀p∈l.take i,p∈ids D)/\Kept Nil w w') (μ:=fun s _=>((n:Int)-s.2).toNat) (s:=(0,0)) ⟨0,rfl,Nat.zero_le _,by simp,Kept.refl _ _⟩ ?_;rintro s w' ⟨i,rfl,hi,dt,kw⟩;refine Split.dec (fun jK=>?_) (fun gA=>?_)
 ·simp only at jK
  have dS:i<n:=by omega
  obtain⟨x,hx⟩:∃x,l[i]? =some x:=⟨_,List.getElem?_eq_getElem (by omega)⟩;refine(hl.same kw).load (i:=(i:Int)) (by omega) hx ?_;refine eR.of ?_;unfold eR.W;intro w3;have k3:Kept Nil w' w3:=(Kept.refl _ _).alloc _;have mK:w3.heap[w'.heap.size]? =some (.cells x.1 ag (0,0)):=aH w' _;clear_value w3;have MY:=kw.tt k3;refine⟨some ⟨g,0,none⟩,by rw [aD (MY.heap hg (fun h=>h))];rfl,x.1,⟨x.2.1,Cells.bL mK⟩,uP (G.same MY) x fun w7 k7=>⟨_,rfl,_,rfl,?_⟩⟩;have Cw:=MY.tt k7;by_cases hm:x∈ids D
  ·refine Split.no (by rw [decide_eq_true hm];rfl) ?_
   simp only;rw [dM (n:=(i:Int)) (by omega) (by omega)];refine⟨(0,(i:Int)+1),rfl,⟨i+1,rfl,dS,fun p hp=>?_,Cw⟩,by simp only;omega⟩;rcases(bP hx).1 hp with hp|rfl
   ·exact dt p hp
   ·exact hm
  ·refine Split.yes (by rw [decide_eq_false hm];rfl) ?_
   refine⟨(i:Int),rfl,?_⟩;exact hK w7 _ ⟨fun _=>⟨x,List.mem_of_getElem? hx,hm⟩,fun _=>decide_eq_true (by omega)⟩ Cw
 ·simp only at gA
  rw [aR,aw.df];rw [List.take_of_length_le (by omega)]at dt;exact⟨-1,rfl,hK w' _ ⟨fun h=>absurd (of_decide_eq_true h) (by omega),fun⟨p,hp,hn⟩=>absurd (dt p hp) hn⟩ kw⟩
theorem km{w:World}{a b:Nat}{ca cb:Array Value}{ta tb:TypeId}{fa fb:Nat×Nat}(ha:w.heap[a]? =some (.cells ca ta fa))(hb:w.heap[b]? =some (.cells cb tb fb))(fM:ta≠tb):a≠b:=by
 rintro rfl;rw [ha]at hb;simp only [Option.some.injEq,Obj.cells.injEq]at hb;exact fM hb.2.1
theorem GV.upd(G:GV w S F g D C bl c mb M)(W:jY D){q:Nat}{nd:DN}{m:NM}(hq:D[q]? =some nd)(hm:M[q]? =some m){A5:Option Addr}{n5 c5:Nat}{Zg:List HT}
 (kT:Kept (fun k=>bn m.cA=some k\/k=m.b) w w') (hb:w'.heap[m.b]? =some (.cells (gw nd.id {m with cA:=A5,cn:=n5,cc:=c5}) ek (0,0))) (fF:bI w' w.heap.size A5 n5 c5 Zg):
 GV w' (fun k=>S k\/bn A5=some k) F g D (fun x=>if x=nd.id then Zg else C x) bl c mb (M.set q {m with cA:=A5,cn:=n5,cc:=c5}):=by
 have N:=G.node q nd m hq hm;have LK:q<M.length:=(lgeS hm).1;have kQ:∀k,bn m.cA=some k->∃cur,w.heap[k]? =some (.cells cur ag (0,0)):=fun k hk=>(Row.bL N.ch hk).2;have hF:∀k,F k->¬(bn m.cA=some k\/k=m.b):=fun k hk e=>by
  rcases e with e|rfl
  ·exact G.Hf k (N.Rr k e) hk
  ·exact G.Hf _ N.gI hk
 have typ:∀ {k:Nat} {cs:Array Value} {t:TypeId},w.heap[k]? =some (.cells cs t (0,0))->t≠ag->t≠ek->¬(bn m.cA=some k\/k=m.b):=fun h h1 h2 e=>by
  rcases e with e|rfl
  ·obtain⟨cur,hc⟩:=kQ _ e
   exact km h hc h1 rfl
  ·exact km h N.bL h2 rfl
 have Gv:∀k,bn A5=some k->w.heap.size<=k:=fun k hk=>(Row.bL fF hk).1;have gV:∀(i:Nat) m',(M.set q {m with cA:=A5,cn:=n5,cc:=c5})[i]? =some m'->(i=q/\m'= {m with cA:=A5,cn:=n5,cc:=c5})\/(i≠q/\M[i]? =some m'):=fun i m' h=>by
  by_cases e:i=q
  ·subst e
   rw [List.getElem?_set_self LK]at h;exact .inl ⟨rfl,(Option.some.inj h).symm⟩
  ·rw [List.getElem?_set_ne (Ne.symm e)]at h
   exact .inr ⟨e,h⟩
 refine⟨?_,?_,?_,by simpa using G.len,?_,?_,.inl G.iF,.inl G.tW,.inl G.wi,?_,?_⟩
 ·exact kT.heap G.top (typ G.top (by decide) (by decide))
 ·have Qs:(M.set q {m with cA:=A5,cn:=n5,cc:=c5}).map (fun m=>Value.pointer (some ⟨m.b,0,none⟩))=M.map fun m=>Value.pointer (some ⟨m.b,0,none⟩):=by
   apply List.ext_getElem?;intro i;rw [List.getElem?_map,List.getElem?_map];by_cases e:i=q
   ·subst e
    rw [List.getElem?_set_self LK,hm];rfl
   ·rw [List.getElem?_set_ne (Ne.symm e)]
  rw [Qs];refine Row.aF G.row kT (fun k e=>?_);cases e;obtain⟨_,cur,hc⟩:=Row.bL G.row (k:=bl) rfl;exact typ hc (by decide) (by decide)
 ·refine G.map.aF kT (fun e=>?_)
  obtain⟨es,clock,LX,_⟩:=G.map.ex;rcases e with e|e
  ·obtain⟨cur,hc⟩:=kQ _ e
   rw [hc]at LX;cases LX
  ·rw [e,N.bL]at LX;cases LX
 ·intro i nd' m' hi nA
  rcases gV i m' nA with⟨rfl,rfl⟩|⟨fM,VI⟩
  ·rw [hq]at hi
   cases hi;rw [if_pos rfl];exact⟨hb,.inl N.gI,N.ps.aF kT (fun a ha=>hF _ (N.K1 a ha)),N.K1,Row.base fF (fun _ _=>Nat.zero_le _),fun k hk=>.inr hk,N.past.aF kT (fun a ha=>hF _ (N.pK a ha)),N.pK,N.ok,N.bits,N.small⟩
  ·have N':=G.node i nd' m' hi VI
   have hid:nd'.id≠nd.id:=fun e=>fM (W.inj hi hq e);rw [if_neg hid];have acR:m'.b≠m.b:=fun e=>by
    have h1:=N'.bL;rw [e,N.bL]at h1;simp only [Option.some.injEq,Obj.cells.injEq]at h1;exact hid (FO h1.1).symm
   refine⟨kT.heap N'.bL (fun e=>?_),.inl N'.gI,N'.ps.aF kT (fun a ha=>hF _ (N'.K1 a ha)),N'.K1,Row.aF N'.ch kT (fun k hk e=>?_),fun k hk=>.inl (N'.Rr k hk),N'.past.aF kT (fun a ha=>hF _ (N'.pK a ha)),N'.pK,N'.ok,N'.bits,N'.small⟩
   ·rcases e with e|e
    ·obtain⟨cur,hc⟩:=kQ _ e
     exact km N'.bL hc (by decide) rfl
    ·exact acR e
   ·rcases e with e|rfl
    ·exact G.apart i q m' m VI hm fM k hk e
    ·obtain⟨cur,hc⟩:=(Row.bL N'.ch hk).2
     exact km hc N.bL (by decide) rfl
 ·intro i j m1 m2 h1 h2 rC k KA l9
  rcases gV i m1 h1 with⟨rfl,rfl⟩|⟨hi,rD⟩
  ·rcases gV j m2 h2 with⟨rfl,rfl⟩|⟨hj,uv⟩
   ·exact rC rfl
   ·have:=Gv k KA
    have tU:j<D.length:=by rw [<-G.len];exact(lgeS uv).1
    obtain⟨cur,hc⟩:=(Row.bL (G.node j _ m2 (List.getElem?_eq_getElem tU) uv).ch l9).2;have:=aU hc;omega
  ·rcases gV j m2 h2 with⟨rfl,rfl⟩|⟨hj,uv⟩
   ·have:=Gv k l9
    have dS:i<D.length:=by rw [<-G.len];exact(lgeS rD).1
    obtain⟨cur,hc⟩:=(Row.bL (G.node i _ m1 (List.getElem?_eq_getElem dS) rD).ch KA).2;have:=aU hc;omega
   ·exact G.apart i j m1 m2 rD uv rC k KA l9
 ·intro k hk hf
  rcases hk with hk|hk
  ·exact G.Hf k hk hf
  ·have:=Gv k hk
   have:=G.low k (.inr hf);omega
 ·intro k hk
  rcases hk with(hk|hk)|hk
  ·exact Nat.lt_of_lt_of_le (G.low k (.inl hk)) kT.size
  ·obtain⟨cur,hc⟩:=(Row.bL fF hk).2
   exact aU hc
  ·exact Nat.lt_of_lt_of_le (G.low k (.inr hk)) kT.size
end
theorem Av(h:HT)(m:NM)(A:Option Addr)(n c:Nat):(gw h m).setIfInBounds 33 (.slice A n c)=gw h {m with cA:=A,cn:=n,cc:=c}:=by
 have hs:=h.2.1;apply Array.ext_getElem?;intro i;unfold gw;rw [Array.getElem?_setIfInBounds,Array.getElem?_append,Array.getElem?_append];by_cases h1:i<h.1.size
 ·rw [if_neg (by omega),if_pos h1,if_pos h1]
 ·rw [if_neg h1,if_neg h1]
  by_cases h2:i=33
  ·subst h2
   rw [if_pos rfl,if_pos (by simp;omega),hs];rfl
  ·rw [if_neg (Ne.symm h2),hs]
   match i-32,show i-32≠1 by omega with
   |0,_=>rfl
   |2,_=>rfl
   |(k+3),_=>rfl
theorem Ar(h:HT)(m:NM)(A:Option Addr)(n c:Nat):(gw h m).setIfInBounds 34 (.slice A n c)=gw h {m with rA:=A,rn:=n,rc:=c}:=by
 have hs:=h.2.1;apply Array.ext_getElem?;intro i;unfold gw;rw [Array.getElem?_setIfInBounds,Array.getElem?_append,Array.getElem?_append];by_cases h1:i<h.1.size
 ·rw [if_neg (by omega),if_pos h1,if_pos h1]
 ·rw [if_neg h1,if_neg h1]
  by_cases h2:i=34
  ·subst h2
   rw [if_pos rfl,if_pos (by simp;omega),hs];rfl
  ·rw [if_neg (Ne.symm h2),hs]
   match i-32,show i-32≠2 by omega with
   |0,_=>rfl
   |1,_=>rfl
   |(k+3),_=>rfl
section
variable{w w0 w':World}{S F F1 S':Nat->Prop}{g bl c mb gb ib nb:Nat}{D:DG}{C:HT->List HT}{M:List NM}{K:Value->World->Prop}
noncomputable def jk(D:DG)(h:HT)(l:List HT):HT->List HT:=fun x=>if x∈l then dD (gX D x++ [h])else gX D x
structure AL(w0 w':World)(S F1 S':Nat->Prop)(g:Nat)(D:DG)(h:HT)(l:List HT)(gb ib nb:Nat)(pA:Option Addr)(pc i bl c mb:Nat)(M:List NM)(rA:Option Addr)(rn rc:Nat)(ws:List Nat):Prop where
 G:GV w' S' F1 g D (jk D h (l.take i)) bl c mb M
 sub:∀k,S k->S' k
 new:∀k,S' k->S k\/w0.heap.size<=k
 node:w'.heap[nb]? =some (.cells (gw h ⟨nb,pA,l.length,pc,none,0,0,rA,rn,rc,ws⟩) ek (0,0))
 ZZ:¬S' nb
 row:lr w' nb rA rn rc ws
 ok:okW ws
 small:rn<=200
 ZY:∀k,bn rA=some k->¬S' k
 bits:∀j,bit ws j=true↔∃p∈l.take i,∃nj,D[j]? =some nj/\(nj.id=p\/fz D nj.id p)
 Y6:w'.heap[gb]? =some (.cells #[.pointer (some ⟨g,0,none⟩)] lJ (0,0))
 ibx:w'.heap[ib]? =some (.cells h.1 ag (0,0))
 noG:¬S' gb
 noI:¬S' ib
 hl:HS w' pA l.length l
 kp:Kept S w0 w'
theorem GR{h:HT}{l:List HT}{pA:Option Addr}{pc i:Nat}{rA:Option Addr}{rn rc:Nat}{ws:List Nat}{Q:aO}
 (L:AL w0 w' S F1 S' g D h l gb ib nb pA pc i bl c mb M rA rn rc ws) (W:jY D) (hD:D.length<=10000) (uM:SS l) (gK:∀p∈l,p∈ids D) (Hc:∀k,F1 k->k<nb) (Ky:∀a,pA=some a->F1 a.block) (h0:w0.heap.size<=nb) (dS:i<l.length) (hll:l.length<=10000)
 (hQ:∀S2 M rA rn rc ws v,AL w0 v S F1 S2 g D h l gb ib nb pA pc (i+1) bl c mb M rA rn rc ws->Q .normal (bJ.e1 ⟨gb,0,none⟩ ⟨ib,0,none⟩ 0 ⟨nb,0,none⟩ pA l.length pc (l.length:Int) ((i:Int)+1)) v):
 bJ.B1 ⟨gb,0,none⟩ ⟨ib,0,none⟩ 0 ⟨nb,0,none⟩ pA l.length pc (l.length:Int) (i:Int) Q w':=by
 obtain⟨p,hp⟩:∃p,l[i]? =some p:=⟨_,List.getElem?_eq_getElem dS⟩;have ry:=List.mem_of_getElem? hp;have aby:=gK p ry;refine Split.yes (decide_eq_true (by omega)) ?_;refine L.hl.load (i:=(i:Int)) (by omega) hp ?_;intro sx;obtain⟨tf,jM,kz⟩:=iy (w:=w') (z:=(zx 0)) (cs:=p.1) (t:=ag) (by rw [p.2.1];rfl);refine⟨⟨p.2.1,p.2.one,fun j hj=>tf j (by rw [p.2.1];exact hj)⟩,?_⟩;intro ug
 replace jM:ug.heap[w'.heap.size]? =some (.cells p.1 ag (0,0)):=jM
 replace uk:Kept Nil w' ug:=kz
 clear_value ug;refine⟨some ⟨g,0,none⟩,by rw [aD (uk.heap L.Y6 (fun h=>h))];rfl,p.1,⟨p.2.1,Cells.bL jM⟩,?_⟩;refine wv (L.G.same uk) p fun w40 x k40 hx=>⟨x,rfl,?_⟩;rcases hx with⟨rfl,lH⟩|⟨q,nd,m',hq,gu,nA,rfl⟩
 ·exact absurd aby lH
 intro EZ;have Ip:Kept Nil w' EZ:=(uk.tt k40).drew;have Jq:EZ.heap[w'.heap.size]? =some (.cells p.1 ag (0,0)):=k40.heap jM (fun h=>h);clear_value EZ;have ai3:=Ip.size;have Zp:=L.G.same Ip;obtain⟨m,hm,SB⟩:=Zp.get hq;rw [nA]at hm;cases hm;have Qn:=Ip.heap L.node (fun h=>h);have z8:lr EZ nb rA rn rc ws:=Row.aF L.row Ip (fun _ _ h=>h);refine⟨rA,rn,rc,by rw [bt,Nat.zero_add,aD Qn];exact Az _ _,?_⟩;refine⟨_,_,_,xJ SB,some ⟨g,0,none⟩,by rw [aD (Ip.heap L.Y6 (fun h=>h))];rfl,?_⟩;refine⟨some mb,Zp.at_,p.1,⟨p.2.1,Cells.bL Jq⟩,_,Zp.map.xP p,?_⟩;rw [show pos p (ids D) 0=some q by rw [<-gu];exact W.pos_eq hq,Option.getD_some];have LK:=(lgeS hq).1;have vU:=SB.small;have aiR:=L.small;have hrA:∀k,bn rA=some k->nb<=k/\k<w'.heap.size:=fun k hk=>by
  obtain⟨h1,cur,hc⟩:=Row.bL L.row hk;exact⟨h1,aU hc⟩
 have abK:nb<w'.heap.size:=aU L.node;have MN:∀ {v:World} {A:Option Addr} {n c:Nat} {l:List Nat} {B:Nat},lr v B A n c l->∀ {k:Nat} {cs:Array Value} {t:TypeId},v.heap[k]? =some (.cells cs t (0,0))->t≠jg->¬bn A=some k:=fun hr _ _ _ hk fM e=>by
  obtain⟨_,cur,hc⟩:=Row.bL hr e;exact km hk hc fM rfl
 refine xE z8 L.ok (by omega) (by omega) SB.past SB.ok (by omega) (fun a ha k hk e=>?_) fun A2 n2 c2 l2 ML tG abF ajA Q0 Io ac3=>⟨A2,n2,c2,rfl,?_⟩
 ·have h1:=Hc a.block (SB.pK a ha)
  have h2:=(hrA k hk).1;omega
 have hnF:∀k,F1 k->¬bn rA=some k:=fun k hk e=>by have:=Hc k hk;have:=(hrA k e).1;omega
 have G52:=Zp.aF Io (fun k hk e=>L.ZY k e hk) hnF;have WD:=Io.heap Jq (MN z8 Jq (by decide));have We:=Ip.heap L.Y6 (fun h=>h);have QL:=Io.heap We (MN z8 We (by decide));have V8:=Ip.heap L.ibx (fun h=>h);have V7:=Io.heap V8 (MN z8 V8 (by decide));have NI:=Io.heap Qn (MN z8 Qn (by decide));have ai2:=Io.size;have VR:=G52.map.xP p;rw [show pos p (ids D) 0=some q by rw [<-gu];exact W.pos_eq hq,Option.getD_some]at VR;refine⟨VR,⟨p.1,rfl,p.2.1,Cells.bL WD⟩,G52.at_,by rw [aD QL];rfl,?_⟩;have Ol:∀k,bn A2=some k->bn rA=some k\/EZ.heap.size<=k:=ac3;refine zY tG abF (by omega) (by omega) (by omega) fun A3 n3 c3 l3 qQ xF abE ajz QZ F9 Q2=>⟨A3,n3,c3,rfl,?_⟩;have CU:∀k,bn A2=some k->¬S' k:=fun k hk hs=>by
  rcases Ol k hk with h|h
  ·exact L.ZY k h hs
  ·have:=L.G.low k (.inl hs);omega
 have Jb:∀k,F1 k->¬bn A2=some k:=fun k hf hk=>by
  have:=Hc k hf;have:=(Row.bL tG hk).1;omega
 have G55:=G52.aF F9 (fun k hk e=>CU k e hk) Jb;have Mc:=F9.heap QL (MN tG QL (by decide));have V1:=F9.heap V7 (MN tG V7 (by decide));have Bd:=F9.heap NI (MN tG NI (by decide));have ai1:=F9.size;have afF:=vF h ⟨nb,pA,l.length,pc,none,0,0,rA,rn,rc,ws⟩;refine⟨by rw [bt,Nat.zero_add];exact dm Bd (by omega),?_⟩;intro w57 Ho;have Lr:Kept (· =nb) qQ w57:=by
  show Kept (· =nb) qQ (qQ.setCell ((⟨nb,0,none⟩:Addr).add 34) (.slice A3 n3 c3))
  exact Kept.setCell (S:=fun k=>k=nb) (Kept.refl _ qQ) (by rw [fg];exact fun _=>rfl) _
 have Vy:w57.heap[nb]? =some (.cells (gw h ⟨nb,pA,l.length,pc,none,0,0,A3,n3,c3,l3⟩) ek (0,0)):=by
  show(qQ.setCell ((⟨nb,0,none⟩:Addr).add 34) (.slice A3 n3 c3)).heap[nb]? =_;rw [bt,Nat.zero_add,cV Bd 34,Ar];rfl
 have Im:Kept (· =nb) qQ Ho:=Lr.drew;have Vx:Ho.heap[nb]? =some (.cells (gw h ⟨nb,pA,l.length,pc,none,0,0,A3,n3,c3,l3⟩) ek (0,0)):=Vy;clear_value Ho;clear Vy Lr;have ai0:=Im.size;have G58:=G55.aF Im (fun k hk e=>L.ZZ (e▸hk)) (fun k hk e=>by have:=Hc k hk;omega);have Wb:=Im.heap Mc (km Mc Bd (by decide));have QG:=Im.heap V1 (km V1 Bd (by decide));have Th:lr Ho nb A3 n3 c3 l3:=Row.aF xF Im (fun k hk e=>by
  subst e;exact MN xF Bd (by decide) hk)
 obtain⟨m,hm,N58⟩:=G58.get hq;rw [nA]at hm;cases hm;refine⟨m'.cA,m'.cn,m'.cc,D6 N58,h.1,⟨h.2.1,Cells.bL QG⟩,h.2.1,?_⟩;intro Ya;have k62:Kept Nil Ho Ya:=(Kept.refl _ _).alloc _;have QY:HS Ya (some ⟨Ho.heap.size,0,none⟩) 1 [h]:=jf Ho h;clear_value Ya;have G62:=G58.same k62;obtain⟨m,hm,SA⟩:=G62.get hq;rw [nA]at hm;cases hm;refine⟨D6 SA,?_⟩;have Gs:=SA.ch.len;have Ez:jk D h (l.take i) nd.id=gX D p:=by
  unfold jk;rw [gu,if_neg];intro iY;obtain⟨j,hj⟩:=List.mem_iff_getElem?.1 iY;rw [List.getElem?_take]at hj;split at hj
  ·have:=uM.get (by omega) hj hp
   rw [iD]at this;cases this
  ·cases hj
 have qC:=nO D fun a=>nK D p a;have YO:m'.cn<=10000:=by
  rw [<-Gs,Ez];unfold gX;omega
 obtain⟨A7,c7,G0,abf,Tg,acn,ac1⟩:=cK (cx:=1) ay SA.ch QY (by omega) (Nat.zero_le _);have F8:Kept (fun k=>bn m'.cA=some k) Ya G0:=Kept.grown (Kept.refl _ _) acn (fun k hk _=>hk);refine⟨A7,_,c7,G0,abf,?_⟩;have aiZ:=k62.size;have UL:=F8.size;refine ji Tg.hs (by omega) fun A5 c5 OI HM k66=>⟨A5,_,c5,rfl,?_⟩;have aiY:=k66.size;have VF:=F8.heap SA.bL (fun e=>by
  obtain⟨_,cur,hc⟩:=Row.bL SA.ch e;exact km SA.bL hc (by decide) rfl)
 have Jg:=k66.heap VF (fun h=>h);refine⟨by rw [bt,Nat.zero_add];exact dm Jg (by rw [vF];omega),?_⟩;intro DI;have Lm:Kept (· =m'.b) OI DI:=by
  show Kept (· =m'.b) OI (OI.setCell ((⟨m'.b,0,none⟩:Addr).add 33) (.slice A5 (dD (jk D h (l.take i) nd.id++ [h])).length c5))
  exact Kept.setCell (S:=fun k=>k=m'.b) (Kept.refl _ OI) (by rw [fg];exact fun _=>rfl) _
 have VE:DI.heap[m'.b]? =some (.cells (gw nd.id {m' with cA:=A5,cn:=(dD (jk D h (l.take i) nd.id++ [h])).length,cc:=c5}) ek (0,0)):=by
  show(OI.setCell ((⟨m'.b,0,none⟩:Addr).add 33) (.slice A5 (dD (jk D h (l.take i) nd.id++ [h])).length c5)).heap[m'.b]? =_;rw [bt,Nat.zero_add,cV Jg 33,Av]
 clear_value DI;have kT:Kept (fun k=>bn m'.cA=some k\/k=m'.b) Ho DI:=
  (((k62.mono (S':=fun k=>bn m'.cA=some k\/k=m'.b) (fun _ _ h=>h.elim)).trans F8 (fun _ _ h=>.inl h)).trans k66 (fun _ _ h=>h.elim)).trans Lm (fun _ _ h=>.inr h)
 have I2:bI DI Ho.heap.size A5 (dD (jk D h (l.take i) nd.id++ [h])).length c5 (dD (jk D h (l.take i) nd.id++ [h])):=
  Row.base (Row.aF HM Lm (fun k hk e=>by
   subst e;obtain⟨_,cur,hc⟩:=Row.bL HM hk;exact km Jg hc (by decide) rfl)) (fun k hk=>by have:=(Row.bL HM hk).1;omega)
 have G69:=G58.upd W hq nA kT VE I2;have Gv:∀k,bn A5=some k->Ho.heap.size<=k:=fun k hk=>(Row.bL I2 hk).1;have Sr:∀k,(bn m'.cA=some k\/k=m'.b)->S' k:=fun k e=>by
  rcases e with e|rfl
  ·exact N58.Rr k e
  ·exact N58.gI
 have hkf:(fun x=>if x=nd.id then dD (jk D h (l.take i) nd.id++ [h])else jk D h (l.take i) x)=jk D h (l.take (i+1)):=by
  funext x
  by_cases hx:x=nd.id
  ·rw [if_pos hx,Ez,hx,gu]
   unfold jk;rw [if_pos ((bP hp).2 (.inr rfl))]
  ·rw [if_neg hx]
   unfold jk;have:x∈l.take (i+1)↔x∈l.take i:=by
    rw [bP hp];exact⟨fun e=>e.resolve_right (fun e=>hx (by rw [gu];exact e)),.inl⟩
   by_cases hm:x∈l.take i
   ·rw [if_pos hm,if_pos (this.2 hm)]
   ·rw [if_neg hm,if_neg (fun e=>hm (this.1 e))]
 rw [hkf]at G69;rw [dM (n:=(i:Int)) (by omega) (by omega)];have afN:nb<Ho.heap.size:=aU Vx;have lP:Kept S w0 DI:=by
  have k1:=L.kp.trans Ip (fun _ _ h=>h.elim);have k2:=k1.trans Io (fun k hk e=>absurd (hrA k e).1 (by omega));have k3:=k2.trans F9 (fun k hk e=>absurd (Row.bL tG e).1 (by omega));have k4:=k3.trans Im (fun k hk e=>by omega);exact k4.trans kT (fun k hk e=>by
   rcases L.new k (Sr k e)with h|h
   ·exact h
   ·omega)
 refine hQ _ _ A3 n3 c3 l3 DI ⟨G69,fun k hk=>.inl (L.sub k hk),fun k hk=>?_,kT.heap Vx (fun e=>L.ZZ (Sr _ e)),fun e=>?_,Row.aF Th kT (fun k hk e=>?_),abE,by omega,fun k hk e=>?_,fun j=>?_,
  kT.heap Wb (fun e=>L.noG (Sr _ e)),kT.heap QG (fun e=>L.noI (Sr _ e)),fun e=>?_,fun e=>?_,?_,lP⟩
 ·rcases hk with hk|hk
  ·exact L.new k hk
  ·have:=Gv k hk
   have:=L.kp.size;exact .inr (by omega)
 ·rcases e with e|e
  ·exact L.ZZ e
  ·have:=Gv _ e;omega
 ·have hs:=Sr k e
  rcases Q2 k hk with h|h
  ·exact CU k h hs
  ·have:=L.G.low k (.inl hs);omega
 ·have hk3:k<qQ.heap.size:=by
   obtain⟨_,cur,hc⟩:=Row.bL xF hk;exact aU hc
  rcases e with e|e
  ·rcases Q2 k hk with h|h
   ·exact CU k h e
   ·have:=L.G.low k (.inl e);omega
  ·have:=Gv _ e;omega
 ·rw [QZ,Bool.or_eq_true,Q0,Bool.or_eq_true,L.bits,SB.bits,decide_eq_true_iff]
  constructor
  ·rintro((⟨p',h1,h2⟩|⟨nj,h1,h2⟩)|rfl)
   ·exact⟨p',(bP hp).2 (.inl h1),h2⟩
   ·exact⟨p,(bP hp).2 (.inr rfl),nj,h1,.inr (gu▸h2)⟩
   ·exact⟨p,(bP hp).2 (.inr rfl),nd,hq,.inl gu⟩
  ·rintro⟨p',h1,nj,h2,h3⟩
   rcases(bP hp).1 h1 with h1|rfl
   ·exact .inl (.inl ⟨p',h1,nj,h2,h3⟩)
   ·rcases h3 with h3|h3
    ·exact .inr (W.inj h2 hq (h3.trans gu.symm))
    ·exact .inl (.inr ⟨nj,h2,gu▸h3⟩)
 ·rcases e with e|e
  ·exact L.noG e
  ·have:=Gv _ e;have:=aU Wb;omega
 ·rcases e with e|e
  ·exact L.noI e
  ·have:=Gv _ e;have:=aU QG;omega
 ·have hb:∀a,pA=some a->F1 a.block/\a.block<nb:=fun a ha=>⟨Ky a ha,Hc _ (Ky a ha)⟩
  have k1:=L.hl.same Ip;have k2:=k1.aF Io (fun a ha=>hnF _ (hb a ha).1);have k3:=k2.aF F9 (fun a ha=>Jb _ (hb a ha).1);have k4:=k3.aF Im (fun a ha e=>by have:=(hb a ha).2;omega);exact k4.aF kT (fun a ha e=>L.G.Hf _ (Sr _ e) (hb a ha).1)
end
theorem S8:zE prog lZ fy 1 8:=⟨by kernel_rfl,by kernel_rfl⟩
theorem JV:Sy prog ek=some ([(0,32),(32,1),(33,1),(34,1)],List.replicate 32 (.int .u8 0)++ [.slice none 0 0,.slice none 0 0,.slice none 0 0]):=by kernel_rfl
theorem JT(h:HT)(b:Nat)(A:Option Addr)(n c:Nat):prog.built ek [(0,.agg h.1),(1,.slice A n c)]=some (gw h ⟨b,A,n,c,none,0,0,none,0,0,[]⟩):=by
 have hs:=h.2.1;rw [nW JV,jh (off:=0) (size:=32) rfl (by simpa [Value.cells]using hs) (by simp),jh (off:=32) (size:=1) rfl rfl (by
  rw [List.size_toArray,mv (by simp [Value.cells,hs])];simp)]
 simp only [Instr.fill,Option.some.injEq];apply Array.ext';unfold im gw;simp [Value.cells,hs];rw [List.drop_append];simp [hs]
theorem GI(h:HT)(b:Nat):prog.built ek [(0,.agg h.1)]=some (gw h ⟨b,none,0,0,none,0,0,none,0,0,[]⟩):=by
 have hs:=h.2.1;rw [nW JV,jh (off:=0) (size:=32) rfl (by simpa [Value.cells]using hs) (by simp)];simp only [Instr.fill,Option.some.injEq];apply Array.ext';unfold im gw;simp [Value.cells,hs]
section
variable{D:DG}{h:HT}{l:List HT}
theorem Dn(W:jY D)(hn:h∉ids D){x:HT}:jk D h l x=gX (D++ [⟨h,l⟩]) x:=by
 have iY:∀a,a∈gX (D++ [⟨h,l⟩]) x↔(a∈gX D x\/(a=h/\x∈l)):=fun a=>by
  unfold gX;rw [jQ,jQ,nP,lQ,List.mem_append,List.mem_singleton];constructor
  ·rintro⟨h1,h2|⟨h2,h3⟩⟩
   ·exact .inl ⟨(fz.mem W (.one h2)).2,h2⟩
   ·exact .inr ⟨h2.symm,h3⟩
  ·rintro(⟨h1,h2⟩|⟨rfl,h2⟩)
   ·exact⟨.inl h1,.inl h2⟩
   ·exact⟨.inr rfl,.inr ⟨rfl,h2⟩⟩
 unfold jk;by_cases sZ:x∈l
 ·rw [if_pos sZ]
  refine(yv (l:=gX (D++ [⟨h,l⟩]) x) (jl _) fun a=>?_).symm;rw [iY,List.mem_append,List.mem_singleton];exact⟨fun e=>e.imp (fun e=>e) (fun e=>e.1),fun e=>e.imp (fun e=>e) (fun e=>⟨e,sZ⟩)⟩
 ·rw [if_neg sZ]
  refine zr (jl _) (jl _) fun a=>?_;have:=iY a;unfold gX pick at this⊢;rw [this];exact⟨.inl,fun e=>e.resolve_right (fun e=>sZ e.2)⟩
theorem GF(W:jY D)(hn:h∉ids D)(gK:∀p∈l,p∈ids D):gX (D++ [⟨h,l⟩]) h= []:=by
 cases hc:gX (D++ [⟨h,l⟩]) h with
 |nil=>rfl
 |cons b t=>
  exfalso;have:b∈gX (D++ [⟨h,l⟩]) h:=by rw [hc];simp
  rcases nP.1 (jQ.1 this).2 with h1|⟨_,h2⟩
  ·exact hn (fz.mem W (.one h1)).1
  ·exact hn (gK h h2)
theorem JW(W:jY D)(hn:h∉ids D){x:HT}(hx:x∈ids D)(j:Nat):(∃nj,(D++ [⟨h,l⟩])[j]? =some nj/\fz (D++ [⟨h,l⟩]) nj.id x)↔∃nj,D[j]? =some nj/\fz D nj.id x:=by
 constructor
 ·rintro⟨nj,h1,h2⟩
  have uv:=(jy W (nd:=⟨h,l⟩) hn hx).1 h2;rw [List.getElem?_append]at h1;split at h1
  ·exact⟨nj,h1,uv⟩
  ·exfalso
   have:nj=⟨h,l⟩:=by
    cases hk:j-D.length with
    |zero=>rw [hk]at h1;simpa using h1.symm
    |succ k=>rw [hk]at h1;simp at h1
   subst this;exact hn (uv.mem W).1
 ·rintro⟨nj,h1,h2⟩
  exact⟨nj,by rw [List.getElem?_append_left (lgeS h1).1];exact h1,(jy W (nd:=⟨h,l⟩) hn hx).2 h2⟩
theorem JX(W:jY D)(hn:h∉ids D)(gK:∀p∈l,p∈ids D)(hs:SS l)(j:Nat):
 (∃nj,(D++ [⟨h,l⟩])[j]? =some nj/\fz (D++ [⟨h,l⟩]) nj.id h)↔∃p∈l,∃nj,D[j]? =some nj/\(nj.id=p\/fz D nj.id p):=by
 have W':jY (D++ [⟨h,l⟩]):=W.snoc (nd:=⟨h,l⟩) hn gK hs;have gV:(D++ [⟨h,l⟩])[D.length]? =some ⟨h,l⟩:=by rw [List.getElem?_append_right (Nat.le_refl _),Nat.sub_self];rfl
 have key:∀a,fz (D++ [⟨h,l⟩]) a h↔∃p∈l,a=p\/fz D a p:=fun a=>by
  rw [sn W' gV a];constructor
  ·rintro⟨p,hp,e⟩
   exact⟨p,hp,e.imp (fun e=>e) (fun e=>(jy W (nd:=⟨h,l⟩) hn (gK p hp)).1 e)⟩
  ·rintro⟨p,hp,e⟩
   exact⟨p,hp,e.imp (fun e=>e) (fun e=>(jy W (nd:=⟨h,l⟩) hn (gK p hp)).2 e)⟩
 constructor
 ·rintro⟨nj,h1,h2⟩
  obtain⟨p,hp,e⟩:=(key _).1 h2;have hid:nj.id∈ids D:=by
   rcases e with e|e
   ·rw [e];exact gK p hp
   ·exact(e.mem W).1
  rw [List.getElem?_append]at h1;split at h1
  ·exact⟨p,hp,nj,h1,e⟩
  ·exfalso
   have:nj=⟨h,l⟩:=by
    cases hk:j-D.length with
    |zero=>rw [hk]at h1;simpa using h1.symm
    |succ k=>rw [hk]at h1;simp at h1
   subst this;exact hn hid
 ·rintro⟨p,hp,nj,h1,e⟩
  exact⟨nj,by rw [List.getElem?_append_left (lgeS h1).1];exact h1,(key _).2 ⟨p,hp,e⟩⟩
end
section
variable{w w':World}{S F F':Nat->Prop}{g bl c mb:Nat}{D:DG}{C:HT->List HT}{M:List NM}{K:Value->World->Prop}
theorem GV.TB(G:GV w S F g D C bl c mb M)(hf:∀k,F k->F' k)(hd:∀k,S k->¬F' k)(hl:∀k,F' k->k<w.heap.size):GV w S F' g D C bl c mb M:=
 ⟨G.top,G.row,G.map,G.len,fun i nd m h1 h2=>by
   have N:=G.node i nd m h1 h2;exact⟨N.bL,N.gI,N.ps,fun a ha=>hf _ (N.K1 a ha),N.ch,N.Rr,N.past,fun a ha=>hf _ (N.pK a ha),N.ok,N.bits,N.small⟩,G.apart,G.iF,G.tW,G.wi,hd,fun k hk=>hk.elim (fun h=>G.low k (.inl h)) (hl k)⟩
theorem MG{w0:World}{F1 S':Nat->Prop}{h:HT}{l:List HT}{gb ib nb:Nat}{pA:Option Addr}{pc i:Nat}{rA:Option Addr}{rn rc:Nat}{ws:List Nat}
 (L:AL w0 w S F1 S' g D h l gb ib nb pA pc i bl c mb M rA rn rc ws) (W:jY D) (hD:D.length<=5000) (uM:SS l) (gK:∀p∈l,p∈ids D) (hn:h∉ids D) (Hc:∀k,F1 k->k<nb) (Ky:∀a,pA=some a->F1 a.block) (h0:w0.heap.size<=nb) (dS:l.length<=i)
 (hK:∀v S2 F2,EV v S2 F2 g (D++ [⟨h,l⟩])->Kept S w0 v->(∀k,S2 k->S k\/w0.heap.size<=k)->(∀k,F2 k->F1 k\/w0.heap.size<=k)->K (.int .i64 0) v):
 bJ.GX ⟨gb,0,none⟩ ⟨ib,0,none⟩ 0 ⟨nb,0,none⟩ pA l.length pc (l.length:Int) (i:Int) K w:=by
 have UF:l.take i=l:=List.take_of_length_le dS;have hG:=L.G;rw [UF]at hG;have Oa:=L.bits;rw [UF]at Oa;unfold bJ.GX;intro RH;have M0:Kept Nil w RH:=(Kept.refl _ _).drew;clear_value RH;have uS:=hG.same M0;have Mb:=M0.heap L.Y6 (fun h=>h);have Je:=M0.heap L.node (fun h=>h);have DS:lr RH nb rA rn rc ws:=Row.aF L.row M0 (fun _ _ h=>h);refine⟨some ⟨g,0,none⟩,by rw [aD Mb];rfl,some mb,uS.at_,h.1,⟨h.2.1,Cells.bL (M0.heap L.ibx (fun h=>h))⟩,some ⟨g,0,none⟩,by rw [aD Mb];rfl,?_⟩;refine⟨_,_,_,uS.nodes,?_⟩;obtain⟨w85,UU,TH,k85⟩:=uS.map.put hn;rw [gz]at UU;refine⟨w85,UU,?_⟩;intro KN;have Pq:Kept (· =mb) RH KN:=k85.drew;have MV:IsMap KN mb (ids D++ [h]):=TH.aF ((Kept.refl Nil w85).drew) (fun h=>h);clear_value KN;have KR:∀ {v:World} {k:Nat} {cs:Array Value} {t:TypeId},IsMap v mb (ids D)->v.heap[k]? =some (.cells cs t (0,0))->k≠mb:=fun hm hk e=>by
  obtain⟨es,clock,LX,_⟩:=hm.ex;rw [e,LX]at hk;cases hk
 have QK:=Pq.heap Mb (KR uS.map Mb);have ajy:=Pq.heap Je (KR uS.map Je);have IQ:=Pq.heap uS.top (KR uS.map uS.top);have Tf:Row KN 0 fy 1 (some ⟨bl,0,none⟩) D.length c (M.map fun m=>.pointer (some ⟨m.b,0,none⟩)):=Row.aF uS.row Pq (fun k hk e=>by
  obtain⟨_,cur,hc⟩:=Row.bL uS.row hk;exact KR uS.map hc e)
 have ZS:lr KN nb rA rn rc ws:=Row.aF DS Pq (fun k hk e=>by
  obtain⟨_,cur,hc⟩:=Row.bL DS hk;exact KR uS.map hc e)
 refine⟨some ⟨g,0,none⟩,by rw [aD QK];rfl,some ⟨g,0,none⟩,by rw [aD QK];rfl,?_⟩;refine⟨some ⟨bl,0,none⟩,D.length,c,by rw [add_zero,aD IQ];rfl,?_⟩;intro OG;have RT:Kept Nil KN OG:=(Kept.refl _ _).alloc _;have ac0:OG.heap[KN.heap.size]? =some (.cells #[.pointer (some ⟨nb,0,none⟩)] fy (0,0)):=aH KN _;clear_value OG;have Ma:=RT.heap QK (fun h=>h);have CJ:=RT.heap IQ (fun h=>h);refine⟨by rw [add_zero,aD CJ];rfl,by rw [aD Ma];rfl,by rw [aD Ma];rfl,?_⟩;have HK:Row OG 0 fy 1 (some ⟨bl,0,none⟩) D.length c (M.map fun m=>.pointer (some ⟨m.b,0,none⟩)):=Row.aF Tf RT (fun _ _ h=>h);obtain⟨Zs,Sx,OF,abd,HJ,Wa,acZ⟩:=fP (P:=prog) (t:=lZ) (ty:=lZ) (bytes:=8) S8 HK (a:=⟨KN.heap.size,0,none⟩) (m:=1) (cx:=1) (news:= [.pointer (some ⟨nb,0,none⟩)]) rfl
  (fun j u hj=>by rw [bt,Nat.zero_add,aD ac0];simpa using hj) (fun u hu=>by simp at hu;subst hu;rfl) (by omega) (by unfold maxLen;omega) (Nat.zero_le _)
 have Yj:Kept (· =bl) OG OF:=Kept.grown (S:=fun k=>k=bl) (Kept.refl _ _) Wa (fun k hk _=>by cases hk;rfl);refine⟨Zs,_,Sx,OF,abd,?_⟩;have tyL:∀ {k:Nat} {cs:Array Value} {t:TypeId},OG.heap[k]? =some (.cells cs t (0,0))->t≠fy->k≠bl:=fun hk fM=>by
  obtain⟨_,cur,hc⟩:=Row.bL HK (k:=bl) rfl;exact km hk hc fM
 have ack:=Yj.heap Ma (tyL Ma (by decide));have yQ:=Yj.heap CJ (tyL CJ (by decide));refine⟨by rw [aD ack];rfl,by rw [add_zero];exact dm yQ (by simp),?_⟩;intro Kn;have k95:Kept (· =g) OF Kn:=by
  show Kept (· =g) OF (OF.setCell ((⟨g,0,none⟩:Addr).add 0) (.slice Zs (D.length+1) Sx))
  exact Kept.setCell (S:=fun k=>k=g) (Kept.refl _ OF) (by rw [fg];exact fun _=>rfl) _
 have P6:Kn.heap[g]? =some (.cells #[.slice Zs (D.length+1) Sx,.map (some mb)] iz (0,0)):=by
  show(OF.setCell ((⟨g,0,none⟩:Addr).add 0) (.slice Zs (D.length+1) Sx)).heap[g]? =_;rw [add_zero,cV yQ 0];rfl
 clear_value Kn;obtain⟨Sz,rfl⟩:=Row.some HJ (by omega);have aiW:=Pq.size;have aiV:=RT.size;have lP:Kept (fun k=>k=g\/k=bl\/k=mb) RH Kn:=
  (((Pq.mono (S':=fun k=>k=g\/k=bl\/k=mb) (fun _ _ h=>.inr (.inr h))).trans RT (fun _ _ h=>h.elim)).trans Yj (fun _ _ h=>.inr (.inl h))).trans k95 (fun _ _ h=>.inl h)
 have hTF:∀k,F1 k->¬(k=g\/k=bl\/k=mb):=fun k hk e=>by
  rcases e with rfl|rfl|rfl
  ·exact uS.Hf _ uS.iF hk
  ·exact uS.Hf _ uS.tW hk
  ·exact uS.Hf _ uS.wi hk
 have ty:∀ {k:Nat} {cs:Array Value} {t:TypeId},RH.heap[k]? =some (.cells cs t (0,0))->t≠iz->t≠fy->¬(k=g\/k=bl\/k=mb):=fun hk h1 h2 e=>by
  rcases e with e|e|e
  ·rw [e]at hk
   exact km hk uS.top h1 rfl
  ·rw [e]at hk
   obtain⟨_,cur,hc⟩:=Row.bL uS.row (k:=bl) rfl;exact km hk hc h2 rfl
  ·exact KR uS.map hk e
 have CL:Row Kn 0 fy 1 (some ⟨Sz,0,none⟩) (D.length+1) Sx ((M.map fun m=>.pointer (some ⟨m.b,0,none⟩))++ [.pointer (some ⟨nb,0,none⟩)]):=Row.aF HJ k95 (fun k hk e=>by
  obtain⟨_,cur,hc⟩:=Row.bL HJ hk;exact km hc yQ (by decide) e)
 have TG:IsMap Kn mb (ids D++ [h]):=by
  obtain⟨es,clock,LX,_⟩:=MV.ex;have h1:=MV.aF RT (fun h=>h);have h2:=h1.aF Yj (fun e=>by
   obtain⟨_,cur,hc⟩:=Row.bL HK (k:=bl) rfl;obtain⟨_,_,nA,_⟩:=h1.ex;rw [e,hc]at nA;cases nA)
  exact h2.aF k95 (fun e=>by
   obtain⟨_,_,nA,_⟩:=h2.ex;rw [e,yQ]at nA;cases nA)
 have Qm:=lP.heap Je (ty Je (by decide) (by decide));have yx:lr Kn nb rA rn rc ws:=Row.aF DS lP (fun k hk e=>by
  obtain⟨_,cur,hc⟩:=Row.bL DS hk;exact ty hc (by decide) (by decide) e)
 have Jh:(D++ [(⟨h,l⟩:DN)]).length=D.length+1:=by simp
 have WR:Sz=bl\/OG.heap.size<=Sz:=by
  rcases acZ Sz rfl with e|e
  ·exact .inl (by cases e;rfl)
  ·exact .inr e
 have ml:=L.kp.size;have aiX:=M0.size;have abK:=aU Je;have UT:∀k,bn rA=some k->nb<=k/\k<Kn.heap.size:=fun k hk=>by
  obtain⟨h1,cur,hc⟩:=Row.bL yx hk;exact⟨h1,aU hc⟩
 have gV:∀ {X:Type} (xs:List X) (y:X) (j:Nat) (z:X),(xs++ [y])[j]? =some z->(j<xs.length/\xs[j]? =some z)\/(j=xs.length/\z=y):=fun xs y j z e=>by
  rw [List.getElem?_append]at e;split at e
  ·rename_i cY;exact .inl ⟨cY,e⟩
  ·rename_i gA
   cases hk:j-xs.length with
   |zero=>rw [hk]at e;exact .inr ⟨by omega,by simpa using e.symm⟩
   |succ k=>rw [hk]at e;simp at e
 refine hK Kn (fun k=>S' k\/k=nb\/k=Sz) (fun k=>F1 k\/bn rA=some k) ⟨Sz,Sx,mb,M++ [⟨nb,pA,l.length,pc,none,0,0,rA,rn,rc,ws⟩],?_⟩ ?_ ?_ ?_
 ·refine⟨by rw [Jh];exact P6,?_,by rw [lQ];exact TG,by simp [hG.len],fun j nd m h1 h2=>?_,fun j j' m m' h1 h2 fM k hk oR=>?_,.inl hG.iF,.inr (.inr rfl),.inl hG.wi,fun k hk hf=>?_,fun k hk=>?_⟩
  ·rw [Jh,List.map_append]
   exact CL
  ·rcases gV _ _ _ _ h1 with⟨hj,rD⟩|⟨hj,rfl⟩
   ·rcases gV _ _ _ _ h2 with⟨_,uv⟩|⟨vW,_⟩
    ·have N:=uS.node j nd m rD uv
     have hid:nd.id∈ids D:=dr.2 ⟨nd,List.mem_of_getElem? rD,rfl⟩;have hF:∀k,F1 k->¬(k=g\/k=bl\/k=mb):=hTF;rw [<-Dn W hn];refine⟨lP.heap N.bL (ty N.bL (by decide) (by decide)),.inl N.gI,N.ps.aF lP (fun a ha=>hF _ (N.K1 a ha)),fun a ha=>.inl (N.K1 a ha),Row.aF N.ch lP (fun k hk e=>?_),fun k hk=>.inl (N.Rr k hk),N.past.aF lP (fun a ha=>hF _ (N.pK a ha)),fun a ha=>.inl (N.pK a ha),N.ok,fun j=>?_,N.small⟩
     ·obtain⟨cur,hc⟩:=(Row.bL N.ch hk).2
      exact ty hc (by decide) (by decide) e
     ·rw [N.bits,JW W hn hid]
    ·rw [hG.len]at vW;omega
   ·rcases gV _ _ _ _ h2 with⟨vW,_⟩|⟨_,rfl⟩
    ·rw [hG.len]at vW;omega
    ·rw [GF W hn gK]
     refine⟨Qm,.inr (.inl rfl),(L.hl.same M0).aF lP (fun a ha=>hTF _ (Ky a ha)),fun a ha=>.inl (Ky a ha),bI.nil _ _,(fun k hk=>by cases hk),yx.us,fun a ha=>.inr (congrArg bn ha),L.ok,fun j=>?_,L.small⟩;rw [Oa,JX W hn gK uM]
  ·rcases gV _ _ _ _ h1 with⟨_,rD⟩|⟨_,rfl⟩
   ·rcases gV _ _ _ _ h2 with⟨_,uv⟩|⟨_,rfl⟩
    ·exact hG.apart j j' m m' rD uv fM k hk oR
    ·cases oR
   ·cases hk
  ·rcases hk with hk|rfl|rfl
   ·rcases hf with hf|hf
    ·exact hG.Hf k hk hf
    ·exact L.ZY k hf hk
   ·rcases hf with hf|hf
    ·have:=Hc k hf;omega
    ·obtain⟨_,cur,hc⟩:=Row.bL yx hf
     exact km Qm hc (by decide) rfl
   ·rcases hf with hf|hf
    ·rcases WR with e|e
     ·rw [e]at hf;exact hG.Hf _ hG.tW hf
     ·have:=Hc _ hf;omega
    ·obtain⟨_,cur,hc⟩:=Row.bL yx hf
     obtain⟨_,XE,tm⟩:=Row.bL CL (k:=k) rfl;exact km tm hc (by decide) rfl
  ·have aiU:=lP.size
   rcases hk with(hk|rfl|rfl)|hk|hk
   ·have:=uS.low k (.inl hk);omega
   ·exact aU Qm
   ·obtain⟨_,XE,tm⟩:=Row.bL CL (k:=k) rfl
    exact aU tm
   ·have:=uS.low k (.inr hk);omega
   ·exact(UT k hk).2
 ·exact(L.kp.trans M0 (fun _ _ h=>h.elim)).trans lP (fun k hk e=>by
   have hs:S' k:=by
    rcases e with rfl|rfl|rfl
    ·exact hG.iF
    ·exact hG.tW
    ·exact hG.wi
   rcases L.new k hs with h|h
   ·exact h
   ·omega)
 ·intro k hk
  rcases hk with hk|rfl|rfl
  ·exact L.new k hk
  ·exact .inr h0
  ·rcases WR with e|e
   ·rw [e];exact L.new _ hG.tW
   ·exact .inr (by omega)
 ·intro k hk
  rcases hk with hk|hk
  ·exact .inl hk
  ·exact .inr (by have:=(UT k hk).1;omega)
theorem Mx(G:GV w S F g D (gX D) bl c mb M)(W:jY D)(hD:D.length<=5000){A:Option Addr}{n cx:Nat}{lp:List HT}(hl:HS w A n lp)(hn:n<=10000)(h:HT)
 (hK:∀v S2 F2,EV v S2 F2 g (mY D h lp)->Kept S w v->(∀k,S2 k->S k\/w.heap.size<=k)->(∀k,F2 k->F k\/w.heap.size<=k)->K (.int .i64 (dL D h lp)) v):
 bC prog bJ.id #[.pointer (some ⟨g,0,none⟩),.agg h.1,.slice A n cx] w K:=by
 have hlen:=hl.len;have lH:∀v,Kept Nil w v->∀e,dL D h lp=e->e≠0->K (.int .i64 e) v:=fun v k e he fM=>by
  have:=hK v S F ?_ (k.mono fun _ _ h=>h.elim) (fun _ h=>.inl h) (fun _ h=>.inl h)
  ·rw [he]at this;exact this
  ·unfold mY
   rw [if_neg (by rw [he];exact fM)];exact⟨bl,c,mb,M,G.same k⟩
 refine bJ.of ?_;unfold bJ.W;intro w4 w5;have k4:Kept Nil w w4:=(Kept.refl _ _).alloc _;have EC:w4.heap[w.heap.size]? =some (.cells #[.pointer (some ⟨g,0,none⟩)] lJ (0,0)):=aH w _;have k5:Kept Nil w4 w5:=(Kept.refl _ _).alloc _;have L7:w5.heap[w4.heap.size]? =some (.cells h.1 ag (0,0)):=aH w4 _;have Wc:=k5.heap EC (fun h=>h);clear_value w5;have MX:Kept Nil w w5:=k4.tt k5;have QH:w.heap.size<w4.heap.size:=aU EC;have ajZ:w4.heap.size<w5.heap.size:=aU L7;clear_value w4;refine ji (hl.same MX) (by omega) fun uC zD w7 sN k7=>⟨uC,_,zD,rfl,?_⟩;have Cw:Kept Nil w w7:=MX.tt k7;have hg7:=k7.heap Wc (fun h=>h);have hi7:=k7.heap L7 (fun h=>h);have G7:=G.same Cw;have BU:(dD lp).length<=n:=by have:=qh lp;omega
 refine⟨some ⟨g,0,none⟩,by rw [aD hg7];rfl,yh G7 ⟨true,rfl,Split.no rfl ?_⟩⟩;refine⟨some ⟨g,0,none⟩,by rw [aD hg7];rfl,h.1,⟨h.2.1,Cells.bL hi7⟩,uP G7 h fun jH nt=>⟨_,rfl,?_⟩⟩;have Ii:=Cw.tt nt;by_cases hm:h∈ids D
 ·refine Split.yes (decide_eq_true hm) (lH jH Ii 7 ?_ (by omega))
  unfold dL;rw [if_pos hm]
 refine Split.no (decide_eq_false hm) ?_;by_cases h0:(dD lp).length=0
 ·refine Split.yes (by simp [h0]) (lH jH Ii 9 ?_ (by omega))
  unfold dL;rw [if_neg hm,if_pos (.inl h0)]
 refine Split.no (beq_eq_false_iff_ne.2 (by omega)) ?_;by_cases h1:(dD lp).length≠n
 ·refine Split.yes (bne_iff_ne.2 (by omega)) (lH jH Ii 9 ?_ (by omega))
  unfold dL;rw [if_neg hm,if_pos (.inr (by omega))]
 replace h1:(dD lp).length=n:=by omega
 refine Split.no (by rw [h1];simp) ?_;have Wh:=nt.heap hg7 (fun h=>h);have MS:=Row.aF sN nt (fun _ _ h=>h);refine BB (G.same Ii) Wh (bI.hs MS) (by omega) fun pf x hx xV=>⟨x,rfl,?_⟩;have Ih:=Ii.tt xV;cases x with
 |true=>
  refine Split.yes rfl (lH pf Ih 6 ?_ (by omega));unfold dL;rw [if_neg hm,if_neg (by omega),if_pos (hx.1 rfl)]
 |false=>
  have gK:∀p∈dD lp,p∈ids D:=fun p hp=>Classical.byContradiction fun abI=>by have:=hx.2 ⟨p,hp,abI⟩;cases this
  have WC:dL D h lp=0:=by
   unfold dL;rw [if_neg hm,if_neg (by omega),if_neg (fun⟨p,hp,LO⟩=>LO (gK p hp))]
  have hD':mY D h lp=D++ [⟨h,dD lp⟩]:=by unfold mY;rw [if_pos WC]
  rw [WC,hD']at hK;refine Split.no rfl ?_;have V9:=xV.heap (nt.heap hi7 (fun h=>h)) (fun h=>h);have QN:=xV.heap Wh (fun h=>h);have xG:bI pf w5.heap.size uC (dD lp).length zD (dD lp):=Row.aF MS xV (fun _ _ h=>h);refine⟨h.1,⟨h.2.1,Cells.bL V9⟩,?_⟩;rw [JT h pf.heap.size];refine Is.mk rfl ?_;intro Kq;have Py:Kept Nil pf Kq:=(Kept.refl _ _).alloc _;have abL:Kq.heap[pf.heap.size]? =some (.cells (gw h ⟨pf.heap.size,uC,(dD lp).length,zD,none,0,0,none,0,0,[]⟩) ek (0,0)):=aH pf _;clear_value Kq;have TR:=Ih.tt Py;have Rl:∀k,bn uC=some k->w5.heap.size<=k/\k<pf.heap.size:=fun k hk=>by
   obtain⟨e1,cur,hc⟩:=Row.bL xG hk;exact⟨e1,aU hc⟩
  have hs5:=MX.size;have ai7:=Ih.size;have Hc:∀k,(F k\/bn uC=some k)->k<pf.heap.size:=fun k hk=>by
   rcases hk with hk|hk
   ·have:=G.low k (.inr hk);omega
   ·exact(Rl k hk).2
  have Mm:∀k,S k->k<w.heap.size:=fun k hk=>G.low k (.inl hk);have G23:GV Kq S (fun k=>F k\/bn uC=some k) g D (gX D) bl c mb M:=(G.same TR).TB (fun _ h=>.inl h) (fun k hs e=>by
   rcases e with e|e
   ·exact G.Hf k hs e
   ·have:=Mm k hs;have:=(Rl k e).1;omega) (fun k hk=>by have:=Hc k hk;have:=Py.size;omega)
  have Ez:jk D h ((dD lp).take 0)=gX D:=by
   funext y
   unfold jk;rw [if_neg (by simp)]
  have L0:AL w Kq S (fun k=>F k\/bn uC=some k) S g D h (dD lp) w.heap.size w4.heap.size pf.heap.size uC zD 0 bl c mb M none 0 0 []:=
   ⟨by rw [Ez];exact G23,fun _ h=>h,fun _ h=>.inl h,abL,fun e=>by have:=Mm _ e;omega,Row.nil _ _ _ _,by simp [okW],by omega,(fun k hk=>by cases hk),fun j=>by simp [zk],Py.heap QN (fun h=>h),Py.heap V9 (fun h=>h),
     fun e=>by have:=Mm _ e;omega,fun e=>by have:=Mm _ e;omega,(xG.hs).same Py,TR.mono fun _ _ h=>h.elim⟩
  refine bJ.cC (I:=fun s v=>∃(i:Nat) (S2:Nat->Prop) (M2:List NM) (rA:Option Addr) (rn rc:Nat) (ws:List Nat),s=(i:Int)/\i<=(dD lp).length/\AL w v S (fun k=>F k\/bn uC=some k) S2 g D h (dD lp) w.heap.size w4.heap.size pf.heap.size uC zD i bl c mb M2 rA rn rc ws)
   (μ:=fun s _=>(((dD lp).length:Int)-s).toNat) (s:=0) ⟨0,S,M,none,0,0,[],rfl,Nat.zero_le _,L0⟩ ?_
  rintro s v ⟨i,S2,M2,rA,rn,rc,ws,rfl,hi,L⟩;have Ky:∀a,uC=some a->F a.block\/bn uC=some a.block:=fun a ha=>.inr (by rw [ha];rfl);by_cases dS:i<(dD lp).length
  ·refine GR L W (by omega) (jl _) gK Hc Ky (by omega) dS (by omega) fun S3 M3 rA3 rn3 rc3 ws3 v3 L3=>?_
   exact⟨(i:Int)+1,rfl,⟨i+1,S3,M3,rA3,rn3,rc3,ws3,rfl,dS,L3⟩,by simp only;omega⟩
  ·refine Split.no (decide_eq_false (by omega)) ?_
   rw [aR,bJ.OE];refine MG L W hD (jl _) gK hm Hc Ky (by omega) (by omega) fun v2 S4 F4 hI VU hS4 hF4=>hK v2 S4 F4 hI VU hS4 (fun k hk=>?_);rcases hF4 k hk with(e|e)|e
   ·exact .inl e
   ·exact .inr (by have:=(Rl k e).1;omega)
   ·exact .inr e
end
def pE(nb:Nat):NM:=⟨nb,none,0,0,none,0,0,none,0,0,[]⟩
structure NP(w v:World)(r:HT)(A B E:Option Nat)(l:List HT):Prop where
 kp:Kept Nil w v
 node:∀b,A=some b->w.heap.size<=b/\v.heap[b]? =some (.cells (gw r (pE b)) ek (0,0))
 list:∀b,B=some b->w.heap.size<=b/\∃nb,A=some nb/\v.heap[b]? =some (.cells #[.pointer (some ⟨nb,0,none⟩)] fy (0,0))
 map:∀b,E=some b->w.heap.size<=b/\IsMap v b l
section
variable{w v:World}{r:HT}{A B E:Option Nat}{l:List HT}{K:Value->World->Prop}
theorem NP.grow(h:NP w v r A B E l)(o:Obj):NP w (v.alloc o) r A B E l:=
 ⟨h.kp.alloc o,fun b e=>⟨(h.node b e).1,iI (h.node b e).2 o⟩,fun b e=>⟨(h.list b e).1,let ⟨nb,h1,h2⟩:=(h.list b e).2;⟨nb,h1,iI h2 o⟩⟩,fun b e=>⟨(h.map b e).1,(h.map b e).2.aF ((Kept.refl Nil v).alloc o) (fun h=>h)⟩⟩
theorem NP.addNode(h:NP w v r none none E l):NP w (v.alloc (.cells (gw r (pE v.heap.size)) ek)) r (some v.heap.size) none E l:=
 have g:=h.grow (.cells (gw r (pE v.heap.size)) ek)
 ⟨g.kp,fun b e=>by cases e;exact⟨h.kp.size,aH v _⟩,fun b e=>(by cases e),g.map⟩
theorem NP.qv{nb:Nat}(h:NP w v r (some nb) none E l):NP w (v.alloc (.cells #[.pointer (some ⟨nb,0,none⟩)] fy)) r (some nb) (some v.heap.size) E l:=
 have g:=h.grow (.cells #[.pointer (some ⟨nb,0,none⟩)] fy)
 ⟨g.kp,g.node,fun b e=>by cases e;exact⟨h.kp.size,nb,rfl,aH v _⟩,g.map⟩
theorem NP.Dz(h:NP w v r A B none []):NP w (v.alloc (.map #[] 0)) r A B (some v.heap.size) []:=
 have g:=h.grow (.map #[] 0)
 ⟨g.kp,g.node,g.list,fun b e=>by cases e;exact⟨h.kp.size,⟨#[],0,aH v _,trivial⟩⟩⟩
theorem NP.put{mb:Nat}(h:NP w v r A B (some mb) []):∃v',(Instr.mapUpdate cO (.map (some mb)) (.agg r.1) (.int .i64 0)).run prog v=.ok () v'/\NP w v' r A B (some mb) [r]:=by
 obtain⟨h1,h2⟩:=h.map mb rfl;obtain⟨v',hr,hm,hk⟩:=h2.put (h:=r) (by simp);have KR:∀ {k:Nat} {cs:Array Value} {t:TypeId},v.heap[k]? =some (.cells cs t (0,0))->¬(k=mb):=fun hk e=>by
  obtain⟨es,clock,LX,_⟩:=h2.ex;rw [e,LX]at hk;cases hk
 refine⟨v',hr,h.kp.trans hk (fun k hk e=>by omega),fun b e=>⟨(h.node b e).1,hk.heap (h.node b e).2 (KR (h.node b e).2)⟩,fun b e=>⟨(h.list b e).1,?_⟩,fun b e=>by cases e;exact⟨h1,hm⟩⟩;obtain⟨nb,e1,e2⟩:=(h.list b e).2;exact⟨nb,e1,hk.heap e2 (KR e2)⟩
theorem sO(r:HT){a b:HT}:¬nK [(⟨r,[]⟩:DN)] a b:=fun⟨nd,h1,_,h2⟩=>by
 simp at h1;subst h1;simp at h2
theorem Ad(r:HT){a b:HT}:¬fz [(⟨r,[]⟩:DN)] a b:=fun h=>by
 cases h with
 |one h=>exact sO r h
 |more _ h=>exact sO r h
theorem NP.fin{w0:World}{nb lb mb:Nat}(h:NP w v r (some nb) (some lb) (some mb) [r])(hw:w0.heap.size<=w.heap.size):
 EV (v.alloc (.cells #[.slice (some ⟨lb,0,none⟩) 1 1,.map (some mb)] iz)) (fun k=>w0.heap.size<=k/\k<(v.alloc (.cells #[.slice (some ⟨lb,0,none⟩) 1 1,.map (some mb)] iz)).heap.size) (fun _=>False) v.heap.size [⟨r,[]⟩]:=by
 have g:=h.grow (.cells #[.slice (some ⟨lb,0,none⟩) 1 1,.map (some mb)] iz);have jv:=aH v (.cells #[.slice (some ⟨lb,0,none⟩) 1 1,.map (some mb)] iz);generalize v.alloc (.cells #[.slice (some ⟨lb,0,none⟩) 1 1,.map (some mb)] iz)=u at g jv;have hs:=h.kp.size;obtain⟨n1,n2⟩:=g.node nb rfl;obtain⟨l1,nb',e,l2⟩:=g.list lb rfl;cases e;obtain⟨m1,m2⟩:=g.map mb rfl;have kQ:gX [⟨r,[]⟩] r= []:=by
  cases hc:gX [⟨r,[]⟩] r with
  |nil=>rfl
  |cons b t=>exact absurd (jQ.1 (show b∈gX [⟨r,[]⟩] r by rw [hc];simp)).2 (sO r)
 refine⟨lb,1,mb,[pE nb],jv,Row.made (n:=1) (cur:= #[.pointer (some ⟨nb,0,none⟩)]) l2 (Nat.zero_le _) rfl (by decide),m2,rfl,fun i nd m hi hm=>?_,fun i j m m' h1 h2 fM k hk=>?_,⟨by omega,aU jv⟩,⟨by omega,aU l2⟩,⟨by omega,m2.lt⟩,fun _ _ h=>h,fun k hk=>hk.elim (fun h=>h.2) (fun h=>h.elim)⟩
 ·cases i with
  |zero=>
   simp at hi hm;subst hi;subst hm;refine⟨n2,⟨Nat.le_trans hw n1,aU n2⟩,HS.nil _ _,(fun a ha=>by cases ha),?_,(fun k hk=>by cases hk),⟨rfl,fun i x hx=>by simp [pE]at hx⟩,(fun a ha=>by cases ha),by simp [okW,pE],fun j=>?_,by simp [pE]⟩
   ·show bI u 0 none 0 0 (gX [⟨r,[]⟩] r)
    rw [kQ];exact bI.nil _ _
   ·show bit [] j=true↔_
    rw [zk];exact⟨(fun h=>by cases h),fun⟨nj,_,h⟩=>absurd h (Ad r)⟩
  |succ i=>simp at hi
 ·have hm:m=pE nb:=by
   have:=List.mem_of_getElem? h1;simpa using this
  subst hm;cases hk
theorem gC(r:HT)(hK:∀v gb,EV v (fun k=>w.heap.size<=k/\k<v.heap.size) (fun _=>False) gb [⟨r,[]⟩]->Kept Nil w v->K (.pointer (some ⟨gb,0,none⟩)) v):
 bC prog np.id #[.agg r.1] w K:=by
 refine np.of ?_;unfold np.W;intro w2 w3;have k2:Kept Nil w w2:=(Kept.refl _ _).alloc _;have lE:w2.heap[w.heap.size]? =some (.cells r.1 ag (0,0)):=aH w _;have k3:Kept Nil w w3:=k2.drew;have mK:w3.heap[w.heap.size]? =some (.cells r.1 ag (0,0)):=lE;clear_value w3;have N3:NP w3 w3 r none none none []:=⟨Kept.refl _ _,(fun b e=>by cases e),(fun b e=>by cases e),(fun b e=>by cases e)⟩;have nf:∀ {v:World},Kept Nil w3 v->∃cs:Array Value,(.agg r.1:Value)=.agg cs/\cs.size=32/\Cells v (aP w.heap.size) cs:=fun k=>⟨r.1,rfl,r.2.1,Cells.bL (k.heap mK (fun h=>h))⟩;have vX:∀ {v:World} {nb lb mb:Nat},NP w3 v r (some nb) (some lb) (some mb) [r]->K (.pointer (some ⟨v.heap.size,0,none⟩)) (v.alloc (.cells #[.slice (some ⟨lb,0,none⟩) 1 1,.map (some mb)] iz)):=fun h=>hK _ _ (h.fin k3.size) ((k3.tt h.kp).alloc _);refine⟨r.1,⟨r.2.1,Cells.bL mK⟩,?_⟩;have Vp:∀b,prog.built ek [(0,.agg r.1)]=some (gw r (pE b)):=fun b=>GI r b;rw [Vp 0];refine Is.mk rfl ?_;refine⟨r.1,⟨r.2.1,Cells.bL mK⟩,?_⟩;refine⟨?_,?_⟩
 ·have N7:NP w3 (w3.alloc (.cells (gw r (pE w3.heap.size)) ek)) r (some w3.heap.size) none none []:=N3.addNode
  refine⟨nf N7.kp,?_,?_⟩
  ·have N8:=N7.qv
   have N9:=N8.Dz;obtain⟨v,hr,SH⟩:=N9.put;exact⟨nf N8.kp,nf N9.kp,v,hr,vX SH⟩
  ·have RD:=N7.Dz
   refine⟨nf RD.kp,?_,?_⟩
   ·have MJ:=RD.qv
    obtain⟨v,hr,RC⟩:=MJ.put;exact⟨nf MJ.kp,v,hr,vX RC⟩
   ·obtain⟨v,hr,SF⟩:=RD.put
    exact⟨v,hr,vX SF.qv⟩
 ·have KJ:=N3.Dz
  refine⟨nf KJ.kp,nf KJ.kp,?_,?_⟩
  ·have Oz:NP w3 ((w3.alloc (.map #[] 0)).alloc (.cells (gw r (pE (w3.alloc (.map #[] 0)).heap.size)) ek)) r (some (w3.alloc (.map #[] 0)).heap.size) none (some w3.heap.size) []:=KJ.addNode
   refine⟨nf Oz.kp,?_,?_⟩
   ·have Oy:=Oz.qv
    obtain⟨v,hr,SC⟩:=Oy.put;exact⟨nf Oy.kp,v,hr,vX SC⟩
   ·obtain⟨v,hr,XX⟩:=Oz.put
    exact⟨v,hr,vX XX.qv⟩
  ·obtain⟨v,hr,RB⟩:=KJ.put
   exact⟨v,hr,nf RB.kp,vX RB.addNode.qv⟩
end
section
variable{w w':World}{S S' F:Nat->Prop}{g bl c mb:Nat}{D:DG}{C:HT->List HT}{M:List NM}{K:Value->World->Prop}
end
section
variable{w w':World}{S S' F:Nat->Prop}{g bl c mb:Nat}{D:DG}{C:HT->List HT}{M:List NM}{K:Value->World->Prop}
end
theorem dU{w:World}{b:Nat}{z cs:Array Value}{t:TypeId}(h:w.heap[b]? =some (.cells z t (0,0)))(hz:z.size=cs.size):
 (∀j,j<cs.size->Wr w ((⟨b,0,none⟩:Addr).add j))/\(setCells w ⟨b,0,none⟩ cs.toList 0).heap[b]? =some (.cells cs t (0,0))/\Kept (· =b) w (setCells w ⟨b,0,none⟩ cs.toList 0):=by
 refine⟨fun j hj=>?_,?_,fp _ _ _ _⟩
 ·rw [bt,Nat.zero_add]
  exact dm h (by omega)
 ·have h1:=kZ cs.toList z w t 0 0 h (by simp;omega)
  rw [h1,u7 (by simp [hz])]
def hx(i:Nat)(hi:i<256):HT:=⟨#[.int .u8 (i:Int),.int .u8 0,.int .u8 0,.int .u8 0,.int .u8 0,.int .u8 0,.int .u8 0,.int .u8 0,.int .u8 0,.int .u8 0,.int .u8 0,.int .u8 0,.int .u8 0,.int .u8 0,.int .u8 0,.int .u8 0,.int .u8 0,.int .u8 0,.int .u8 0,.int .u8 0,.int .u8 0,.int .u8 0,.int .u8 0,.int .u8 0,.int .u8 0,.int .u8 0,.int .u8 0,.int .u8 0,.int .u8 0,.int .u8 0,.int .u8 0,.int .u8 0],rfl,fun v hv=>by
 simp only [List.mem_cons,List.not_mem_nil,or_false]at hv;rcases hv with rfl|hv
 ·exact⟨i,rfl,by omega,by omega⟩
 ·exact⟨0,by simpa using hv,by omega,by omega⟩⟩
theorem tc{i j:Nat}{hi:i<256}{hj:j<256}(h:i≠j):hx i hi≠hx j hj:=fun e=>by
 have:=congrArg (fun a:HT=>a.1[0]?) e;simp [hx]at this;omega
section
variable{w w':World}{K:Value->World->Prop}
end
theorem HS.lay{w:World}{b:Nat}{l:List HT}{t:TypeId}(hb:w.heap[b]? =some (.cells (dh l).toArray t (0,0))):HS w (some ⟨b,0,Option.none⟩) l.length l:=
 ⟨rfl,fun i x hi=>⟨_,rfl,aU hb,fun j v hj=>by
   rw [bt,bt,Nat.zero_add,aD hb];simpa using lD hi hj⟩⟩
section
variable{r a b c:HT}(yU:r≠a)(wY:r≠b)(Et:r≠c)(jT:a≠b)(EG:a≠c)(BX:b≠c)
abbrev kD(r a b c:HT):DG:= [⟨r,[]⟩,⟨a,[r]⟩,⟨b,[r]⟩,⟨c,dD [a,b]⟩]
include yU in
theorem k1:dL [⟨r,[]⟩] a [r]=0/\mY [⟨r,[]⟩] a [r]= [⟨r,[]⟩,⟨a,[r]⟩]:=by
 have h:dL [⟨r,[]⟩] a [r]=0:=by
  unfold dL;rw [if_neg (by simp [ids];exact fun e=>yU e.symm),uF,if_neg (by simp),if_neg (by simp [ids])]
 exact⟨h,by unfold mY;rw [if_pos h,uF];rfl⟩
include wY jT in
theorem k2:dL [⟨r,[]⟩,⟨a,[r]⟩] b [r]=0/\mY [⟨r,[]⟩,⟨a,[r]⟩] b [r]= [⟨r,[]⟩,⟨a,[r]⟩,⟨b,[r]⟩]:=by
 have h:dL [⟨r,[]⟩,⟨a,[r]⟩] b [r]=0:=by
  unfold dL;rw [if_neg (by simp [ids];exact⟨fun e=>wY e.symm,fun e=>jT e.symm⟩),uF,if_neg (by simp),if_neg (by simp [ids])]
 exact⟨h,by unfold mY;rw [if_pos h,uF];rfl⟩
include Et jT EG BX in
theorem k3:dL [⟨r,[]⟩,⟨a,[r]⟩,⟨b,[r]⟩] c [a,b]=0/\mY [⟨r,[]⟩,⟨a,[r]⟩,⟨b,[r]⟩] c [a,b]=kD r a b c:=by
 have hl:(dD [a,b]).length=2:=qH (by simp [jT]);have h:dL [⟨r,[]⟩,⟨a,[r]⟩,⟨b,[r]⟩] c [a,b]=0:=by
  unfold dL;rw [if_neg (by simp [ids];exact⟨fun e=>Et e.symm,fun e=>EG e.symm,fun e=>BX e.symm⟩),hl,if_neg (by simp),if_neg];rintro⟨p,hp,hn⟩;rw [dV]at hp;simp at hp;simp [ids]at hn;rcases hp with rfl|rfl
  ·exact hn.2.1 rfl
  ·exact hn.2.2 rfl
 exact⟨h,by unfold mY;rw [if_pos h];rfl⟩
end
section
variable{w w':World}{K:Value->World->Prop}
end
section
variable{w v w':World}{S F S2 F2 FR:Nat->Prop}{g r:Nat}{D D':DG}{K:Value->World->Prop}
theorem JS(h:HT):prog.built bX [(0,.agg h.1)]=some (h.1.push (.slice none 0 0)):=by
 have hs:=h.2.1;rw [nW EN,jh (off:=0) (size:=32) rfl (by simpa [Value.cells]using hs) (by simp)];simp only [Instr.fill,Option.some.injEq];apply Array.ext';unfold im;simp [Value.cells,hs]
end
end Go.Proofs.YtfleamccglihoaaGreatDoor
