import Derived.Test.YtfleamccglihoaaGreatDoorProg
import Derived.Shelf.SlSortCmp.NoneTotal
import Derived.Shelf.SlMaps.Clone
import Derived.Shelf.Spec.TrailingZeros
import Derived.Shelf.Strconv.Itoa0
import Derived.Shelf.Bits.Mul64
import Derived.Test.YtfleamccglihoaaGreatDoorMA
import Derived.Test.YtfleamccglihoaaGreatDoorMB
import Derived.Lib.BytesEntry
import Derived.Test.YtfleamccglihoaaGreatDoorMC
import Derived.LaidEql
open Go.IntKind (i64 u64)
set_option linter.unusedVariables false
namespace Go.Proofs
open Go.Shelf
def Tryz.qv:Go.Shelf.Ren:=⟨fun|6=>53|15=>98|14=>97|28=>135|29=>136|20=>127|21=>128|22=>129|23=>130|24=>131|25=>132|26=>133|27=>134|46=>152|47=>153|48=>154|49=>155|50=>156|57=>163|n=>n,fun|22=>33|24=>24|25=>106|3=>3|39=>150|0=>0|53=>182|55=>22|4=>4|46=>176|45=>175|50=>162|5=>5|9=>9|66=>204|70=>208|76=>215|77=>216|n=>n,fun|n=>n⟩
theorem Tryz.xK:Go.Proofs.SlLaysF0.n6 prog Tryz.qv:= {
 mixed:=by kernel_rfl
 f6:=⟨f53.name,by decide,func53.trans (congrArg some (by kernel_rfl))⟩
 f14:=⟨f97.name,by decide,func97.trans (congrArg some (by kernel_rfl))⟩
 f15:=func98.trans (congrArg some (by kernel_rfl))
 f20:=⟨f127.name,by decide,func127.trans (congrArg some (by kernel_rfl))⟩
 f21:=⟨f128.name,by decide,func128.trans (congrArg some (by kernel_rfl))⟩
 f22:=⟨Tryz.f129.name,by decide,func129.trans (congrArg some (by kernel_rfl))⟩
 f23:=⟨f130.name,by decide,func130.trans (congrArg some (by kernel_rfl))⟩
 f24:=⟨f131.name,by decide,func131.trans (congrArg some (by kernel_rfl))⟩
 f25:=⟨f132.name,by decide,func132.trans (congrArg some (by kernel_rfl))⟩
 f26:=⟨f133.name,by decide,func133.trans (congrArg some (by kernel_rfl))⟩
 f27:=⟨f134.name,by decide,func134.trans (congrArg some (by kernel_rfl))⟩
 f28:=func135.trans (congrArg some (by kernel_rfl))
 f29:=func136.trans (congrArg some (by kernel_rfl))
 f46:=⟨f152.name,by decide,func152.trans (congrArg some (by kernel_rfl))⟩
 f47:=func153.trans (congrArg some (by kernel_rfl))
 f48:=func154.trans (congrArg some (by kernel_rfl))
 f49:=⟨f155.name,by decide,func155.trans (congrArg some (by kernel_rfl))⟩
 f50:=⟨f156.name,by decide,func156.trans (congrArg some (by kernel_rfl))⟩
 f57:=⟨f163.name,by decide,func163.trans (congrArg some (by kernel_rfl))⟩
 t0:=underlying0
 a0:=isAgg0
 z0:=sizeOf0
 v0:=zeroValue0
 t3:=underlying3
 a3:=isAgg3
 z3:=sizeOf3
 v3:=zeroValue3
 t4:=underlying4
 a4:=isAgg4
 z4:=sizeOf4
 v4:=zeroValue4
 t5:=underlying5
 a5:=isAgg5
 z5:=sizeOf5
 v5:=zeroValue5
 t9:=underlying9
 a9:=isAgg9
 z9:=sizeOf9
 v9:=zeroValue9
 t22:=underlying33
 a22:=isAgg33
 z22:=sizeOf33
 v22:=zeroValue33
 t25:=underlying106
 a25:=isAgg106
 z25:=sizeOf106
 v25:=zeroValue106
 t39:=underlying150
 a39:=isAgg150
 z39:=sizeOf150
 v39:=zeroValue150
 t45:=underlying175
 a45:=isAgg175
 z45:=sizeOf175
 v45:=zeroValue175
 t46:=underlying176
 a46:=isAgg176
 z46:=sizeOf176
 v46:=zeroValue176
 t50:=underlying162
 a50:=isAgg162
 z50:=sizeOf162
 v50:=zeroValue162
 t53:=underlying182
 a53:=isAgg182
 z53:=sizeOf182
 v53:=zeroValue182
 t55:=underlying22
 a55:=isAgg22
 z55:=sizeOf22
 v55:=zeroValue22
 t66:=underlying204
 a66:=isAgg204
 z66:=sizeOf204
 v66:=zeroValue204
 t70:=underlying208
 a70:=isAgg208
 z70:=sizeOf208
 v70:=zeroValue208
 t76:=underlying215
 a76:=isAgg215
 z76:=sizeOf215
 v76:=zeroValue215
 t77:=underlying216
 a77:=isAgg216
 z77:=sizeOf216
 v77:=zeroValue216}
def Tryz.kh:Go.Shelf.Ren:=⟨fun|29=>159|n=>n,fun|22=>22|3=>3|4=>4|25=>150|54=>218|0=>0|5=>5|n=>n,fun|1=>1|n=>n⟩
theorem Tryz.tzL:Go.Proofs.Lays7.n29 prog Tryz.kh:= {
 mixed:=by kernel_rfl
 f29:=func159.trans (congrArg some (by kernel_rfl))
 t0:=underlying0
 a0:=isAgg0
 z0:=sizeOf0
 v0:=zeroValue0
 i0:=by kernel_rfl
 t3:=underlying3
 a3:=isAgg3
 z3:=sizeOf3
 v3:=zeroValue3
 i3:=by kernel_rfl
 t4:=underlying4
 a4:=isAgg4
 z4:=sizeOf4
 v4:=zeroValue4
 i4:=by kernel_rfl
 t5:=underlying5
 a5:=isAgg5
 z5:=sizeOf5
 v5:=zeroValue5
 i5:=by kernel_rfl
 t22:=underlying22
 a22:=isAgg22
 z22:=sizeOf22
 v22:=zeroValue22
 i22:=by kernel_rfl
 t25:=underlying150
 a25:=isAgg150
 z25:=sizeOf150
 v25:=zeroValue150
 i25:=by kernel_rfl
 t54:=underlying218
 a54:=isAgg218
 z54:=sizeOf218
 g1:=by kernel_rfl}
def Tryz.AN:Go.Shelf.Ren:=⟨fun|129=>136|n=>n,fun|53=>22|3=>3|4=>4|46=>150|5=>5|9=>9|n=>n,fun|n=>n⟩
theorem Tryz.Lg:Go.Proofs.Lays.n129 prog Tryz.AN:= {
 mixed:=by kernel_rfl
 f129:=func136.trans (congrArg some (by kernel_rfl))
 t3:=underlying3
 a3:=isAgg3
 z3:=sizeOf3
 v3:=zeroValue3
 t4:=underlying4
 a4:=isAgg4
 z4:=sizeOf4
 v4:=zeroValue4
 t5:=underlying5
 a5:=isAgg5
 z5:=sizeOf5
 v5:=zeroValue5
 t9:=underlying9
 a9:=isAgg9
 z9:=sizeOf9
 v9:=zeroValue9
 t46:=underlying150
 a46:=isAgg150
 z46:=sizeOf150
 v46:=zeroValue150
 t53:=underlying22
 a53:=isAgg22
 z53:=sizeOf22
 v53:=zeroValue22}
def Tryz.AM:Go.Shelf.Ren:=⟨fun|264=>161|n=>n,fun|53=>22|46=>150|n=>n,fun|n=>n⟩
theorem Tryz.Lf:Go.Proofs.Lays.n264 prog Tryz.AM:= {
 mixed:=by kernel_rfl
 f264:=func161.trans (congrArg some (by kernel_rfl))
 t46:=underlying150
 a46:=isAgg150
 z46:=sizeOf150
 v46:=zeroValue150
 t53:=underlying22
 a53:=isAgg22
 z53:=sizeOf22
 v53:=zeroValue22}
end Go.Proofs
namespace Go.bV
open Go.RowKit
theorem jC.mono{P:Program}{l:Nat}{args:Array Value}{w:World}{R R':Bool->World->Prop}(h:jC P l args w R)(hr:∀b w',R b w'->R' b w'):jC P l args w R':=by
 obtain⟨g,tmps,assign,body,h1,h2⟩:=h;exact⟨g,tmps,assign,body,h1,fun r m=>RoundIn.mono (h2 r m) fun e w' ⟨b,he,hb⟩=>⟨b,he,hr _ _ hb⟩⟩
def ig(xs:List Value)(k:Nat)(vs:List Value):List Value:=xs.take k++vs++xs.drop (k+vs.length)
theorem rl(xs:List Value)(k:Nat):ig xs k []=xs:=by simp [ig]
theorem pF{xs:List Value}{k:Nat}(hk:k<xs.length)(v:Value)(vs:List Value):ig xs k (v::vs)=ig (xs.set k v) (k+1) vs:=by
 unfold ig;rw [List.take_add_one,List.take_set_of_le (Nat.le_refl k),List.getElem?_set_self hk,List.drop_set];rw [if_pos (by omega),List.length_cons,show k+(vs.length+1)=k+1+vs.length by omega];simp
theorem mH{xs:List Value}{k:Nat}{vs:List Value}(h:k+vs.length<=xs.length):(ig xs k vs).length=xs.length:=by
 unfold ig;simp;omega
theorem vj{xs vs:List Value}(h:vs.length=xs.length):ig xs 0 vs=vs:=by
 unfold ig;simp [h]
section
variable{w:World}{B:Nat}{e:TypeId}{size n c b:Nat}
theorem rW:∀(vs:List Value) (xs:List Value) (w:World) (o i:Nat),Row w B e size (some ⟨b,0,none⟩) n c xs->o+i+vs.length<=xs.length->
 Row (setCells w ⟨b,o,none⟩ vs i) B e size (some ⟨b,0,none⟩) n c (ig xs (o+i) vs)
 | [],xs,w,o,i,h,_=>by rw [rl];exact h
 |v::vs,xs,w,o,i,h,hl=>by
  rw [List.length_cons]at hl;rw [pF (by omega)];simp only [setCells];rw [bt];have h1:=Row.set h (j:=o+i) (by omega) v;have:=rW vs (xs.set (o+i) v) _ o (i+1) h1 (by rw [List.length_set];omega)
  rwa [show o+(i+1)=o+i+1 by omega]at this
theorem fu:∀(vs:List Value) (w:World) (o i:Nat),Kept (· =b) w (setCells w ⟨b,o,none⟩ vs i)
 | [],w,o,i=>Kept.refl _ _
 |v::vs,w,o,i=>by
  simp only [setCells];rw [bt];exact(Kept.setCell (S:=fun k=>k=b) (Kept.refl _ w) (p:=⟨b,o+i,none⟩) (fun _=>rfl) v).tt (fu vs _ o (i+1))
theorem lh:∀(vs:List Value) (cur:Array Value) (w:World) (t:TypeId) (o i:Nat),w.heap[b]? =some (.cells cur t (0,0))->o+i+vs.length<=cur.size->
 (setCells w ⟨b,o,none⟩ vs i).heap[b]? =some (.cells (ig cur.toList (o+i) vs).toArray t (0,0))
 | [],cur,w,t,o,i,h,_=>by rw [rl];simpa [setCells]using h
 |v::vs,cur,w,t,o,i,h,hl=>by
  rw [List.length_cons]at hl;rw [pF (by simp;omega)];simp only [setCells];rw [bt];have h1:=di h (o+i) v;have:=lh vs _ _ t o (i+1) h1 (by simp;omega);rw [show o+(i+1)=o+i+1 by omega]at this;rw [this];simp
theorem iu{z cs:Array Value}{t:TypeId}(hz:z.size=cs.size):
 (∀j,j<cs.size->Wr (w.alloc (.cells z t)) ((aR w.heap.size).add j))/\
 (setCells (w.alloc (.cells z t)) ⟨w.heap.size,0,none⟩ cs.toList 0).heap[w.heap.size]? =some (.cells cs t (0,0))/\
 Kept Nil w (setCells (w.alloc (.cells z t)) ⟨w.heap.size,0,none⟩ cs.toList 0):=by
 refine⟨fun j hj=>?_,?_,?_⟩
 ·rw [bt,Nat.zero_add]
  exact dS (aI w _) (by omega)
 ·have h:=lh cs.toList z (w.alloc (.cells z t)) t 0 0 (aI w _) (by simp;omega)
  rw [h,vj (by simp [hz])]
 ·exact((Kept.refl Nil w).alloc _).trans (fu cs.toList _ 0 0) (fun k hk e=>absurd hk (by omega))
end
end Go.bV
namespace Go.bV
theorem EL:∀(vs:List Value) (off k:Nat) (cells:Array Value),off+k+vs.length<=cells.size->
 ((vs.zipIdx k).foldl (fun(cs:Array Value) (p:Value×Nat)=>cs.setIfInBounds (off+p.2) p.1) cells)=(ig cells.toList (off+k) vs).toArray
 | [],off,k,cells,_=>by rw [rl];simp
 |v::vs,off,k,cells,h=>by
  rw [List.length_cons]at h;rw [pF (by simp;omega),List.zipIdx_cons,List.foldl_cons];have:=EL vs off (k+1) (cells.setIfInBounds (off+k) v) (by simp;omega);rw [this,Array.toList_setIfInBounds];rfl
theorem jf{place:Nat->Option (Nat×Nat)}{cells:Array Value}{i off size:Nat}{v:Value}{rest:List (Nat×Value)}(hp:place i=some (off,size))(hs:v.cells.size=size)(hle:off+size<=cells.size):
 Instr.fill place cells ((i,v)::rest)=Instr.fill place (ig cells.toList off v.cells.toList).toArray rest:=by
 rw [Instr.fill,hp];simp only;rw [if_neg (by simp;omega)]
 congr 1
 have h:=EL v.cells.toList off 0 cells (by simp;omega);rw [Nat.add_zero]at h;rw [<-h,<-Array.foldl_toList,Array.toList_zipIdx]
def Ss(P:Program)(t:TypeId):Option (List (Nat×Nat)×List Value):=
 match P.info? t,P.underlying t with
 |some it,some (.struct fields)=>
  match it.zero,fields.toList.mapM (fun f=>(P.info? f.type).map fun i=>(f.offset,i.size))with
  |some z,some places=>some (places,z.cells.toList)
  |_,_=>none
 |_,_=>none
theorem ou{P:Program}{t:TypeId}{pl:List (Nat×Nat)}{z:List Value}(h:Ss P t=some (pl,z))(parts:List (Nat×Value)):
 P.built t parts=Instr.fill (pl.toArray[·]?) z.toArray parts:=by
 unfold Ss at h;split at h
 ·rename_i it fields h1 h2
  split at h
  ·rename_i z' pl' h3 h4
   simp only [Option.some.injEq,Prod.mk.injEq]at h;obtain⟨rfl,rfl⟩:=h;unfold Program.built;rw [h1,h2];simp only [h3,h4]
  ·cases h
 ·cases h
def nK:List Nat->Array Value
 | []=> #[]
 |D::l=> #[.pointer (some ⟨D,0,none⟩)]++nK l
theorem kQ:∀l,marksOf (.agg (nK l))=l
 | []=>rfl
 |D::l=>by
  have ih:=kQ l;simp only [nK,marksOf]at*;simp [ih]
theorem jw:∀(l:List Nat) (w:World),l.Nodup->(∀D∈l,w.heap[D]? =some (.deferred (some [])))->jN l w
 | [],_,_,_=>trivial
 |D::l,w,hn,h=>by
  rw [List.nodup_cons]at hn;refine⟨h D (by simp),jw l _ hn.2 fun E hE=>?_⟩;have fD:D≠E:=fun e=>hn.1 (by rw [e];exact hE);exact(World.putObj_heap_other fD.symm).trans (h E (by simp [hE]))
theorem im:∀(l:List Nat) (w:World),Kept (· ∈l) w (eK l w)
 | [],w=>Kept.refl _ w
 |D::l,w=>((Kept.putAt w D (.deferred none)).mono (S':=fun k=>k∈D::l) (fun k _ e=>by subst e;simp)).trans (im l _) (fun k _ h=>by simp [h])
open Go.RowKit
def yy{α:Type}(P:Program)(gf:FuncId)(first gH:Array Value)(xs:List α)(E:α->List Value->World->Prop)(DJ:World->Prop):Prop:=
 ∀(l:Nat) (I:Nat->(Nat->Prop)->World->Prop) (D:World->Prop) (w0:World),
  (∀i Pr MN w' jl,I i Pr w'->Kept Nil w' jl->(∀j,MN j->Pr j\/(w'.heap.size<=j/\j<jl.heap.size))->I i MN jl)->
  (∀w' jl,D w'->Kept Nil w' jl->D jl)->
  (∀i Pr w',I i Pr w'->DJ w')->I 0 Nil w0->
  (∀i x vs Pr w',xs[i]? =some x->E x vs w'->I i Pr w'->jC P l vs.toArray w' fun b jl=>(b=true->I (i+1) Pr jl/\Kept (fun j=>¬Pr j) w' jl)/\(b=false->D jl))->
  bz P gf (first++ #[.func (.yield l) #[] #[]]++gH) w0 fun _ w'=>(∃Pr,I xs.length Pr w')\/D w'
section
variable{P:Program}{n:Nat}
theorem tX(mQ:NG P)(mv:P.follows .mixedOrders=true)(C:List Nat){t:Nat}{ps:Array Tmp}{path:Code}{Q:aP}{ρ:Env}{w:World}{gf:FuncId}{first gH:Array Value}{fn:Func}
 (I9:path=.rangeFunc (.tmp t) ps (rA path) (rB path)) (ht:t≠gM) (hf:find ρ t=some (.func (.func gf) first gH)) (Hf:P.funcs[gf]? =some fn) (hb:fn.body.isSome) (hm:yP ρ)
 {ρ0:Env} (hρ:∀i v,i≠gM->find ρ0 i=some v->find ρ i=some v) (Sh:find ρ0 gM=none)
 {α:Type} (xs:List α) (E:α->List Value->World->Prop) (QV:∀x vs w,E x vs w->vs.length=ps.size) (oY:∀t∈ps.toList,t<n/\t≠gM)
 {DJ:World->Prop} (hit:yy P gf first gH xs E DJ)
 (J:Nat->(Nat->Prop)->World->Prop) (Jd:Code->World->Prop)
 (hJ:∀i Pr MN w' jl R,Live (w.heap.size+1) w.heap.size R w'->J i Pr w'->Kept (· =w.heap.size+1) w' jl->(∀j,MN j->Pr j\/(w'.heap.size<=j/\j<jl.heap.size))->J i MN jl)
 (Jw:∀e w' jl R,Live (w.heap.size+1) w.heap.size R w'->Jd e w'->Kept (· =w.heap.size+1) w' jl->Jd e jl)
 (oN:∀i Pr w',J i Pr w'->DJ w')
 (h0:∀R,J 0 Nil ((w.alloc (.deferred (some []))).alloc (.loop R)))
 (Bm:∀i x vs Pr w' R,xs[i]? =some x->E x vs w'->J i Pr w'->Live (w.heap.size+1) w.heap.size R w'->(∀j,Pr j->w.heap.size+1<j/\j<w'.heap.size)->
   aX (some (w.heap.size+1)) [] P n C (rA path) (cr (rB path)) (fun e MP w1=>match e with
    | .normal=>Live (w.heap.size+1) w.heap.size R w1/\∀w2 R2,Kept (· =w.heap.size+1) w1 w2->Live (w.heap.size+1) w.heap.size R2 w2->aX (some (w.heap.size+1)) [] P n C (rB path) [] (Xr (w.heap.size+1) w.heap.size R2 (fun u=>J (i+1) Pr u/\Kept (fun j=>¬Pr j) w' u) Jd) MP w2
    |_=>False) (kH ρ0 (ps.toList.zip vs)) w')
 (Gv:∀Pr w' R,J xs.length Pr w'->Live (w.heap.size+1) w.heap.size R w'->Q .normal (fN ρ w.heap.size) w')
 (CW:∀w' R,Jd .ret w'->Live (w.heap.size+1) w.heap.size R w'->Q .ret (fN ρ w.heap.size) w')
 (sC:∀id w' R,Jd (.exit id) w'->Live (w.heap.size+1) w.heap.size R w'->Q (.exit id) (fN ρ w.heap.size) w'):
 Holds none [] P n path Q ρ w:=by
 rw [I9];have fD:w.heap.size≠w.heap.size+1:=by omega
 refine vy mQ ht hf Hf hb hm fun Bw tmps Yn IP R hR=>?_;have C6:Live (w.heap.size+1) w.heap.size R ((w.alloc (.deferred (some []))).alloc (.loop R)):=by
  have h1:=aI (w.alloc (.deferred (some []))) (.loop R);simp only [World.alloc,Array.size_push]at h1⊢;exact⟨h1,jk (aI w _) _⟩
 have hRR:({R with state:=.ready,pending:=none}:Loop)=R:=by rw [hR]
 have Je:∀ {w' jl},Kept Nil w' jl->Kept (· =w.heap.size+1) w' jl:=fun h=>h.mono fun _ _ h=>h.elim;have yj:=hit (w.heap.size+1) (fun i Pr w'=>Live (w.heap.size+1) w.heap.size R w'/\J i Pr w'/\∀j,Pr j->w.heap.size+1<j/\j<w'.heap.size)
  (fun w'=>∃e,(e=.ret\/∃id,e=.exit id)/\Live (w.heap.size+1) w.heap.size {R with state:=.done,pending:=some e} w'/\Jd e w')
  ((w.alloc (.deferred (some []))).alloc (.loop R))
  (fun i Pr MN w' jl h k hp=>⟨h.1.aF k (fun h=>h) (fun h=>h),hJ i Pr MN w' jl R h.1 h.2.1 (Je k) hp,fun j hj=>by
    have hl:=aV h.1.loop;have hs:=k.size;rcases hp j hj with e|e
    ·have:=h.2.2 j e;omega
    ·omega⟩)
  (fun w' jl h k=>by
    obtain⟨e,he,hl,hd⟩:=h;exact⟨e,he,hl.aF k (fun h=>h) (fun h=>h),Jw e w' jl _ hl hd (Je k)⟩)
  (fun i Pr w' h=>oN i Pr w' h.2.1) ⟨C6,h0 R,fun j hj=>hj.elim⟩
  (fun i a vs Pr w' ha hE h=>by
    obtain⟨hl,hj,LP⟩:=h;refine tO (n:=n) (ρ0:=ρ0) hl.loop (by rw [hR]) (by rw [hR];exact Yn) (fun i v hi hv=>by rw [hR];exact IP i v hi (hρ i v hi hv)) Sh (by rw [QV a vs w' hE,hR]) (by rw [hR];exact oY) ?_;have Jq:=Bm i a vs Pr w' R ha hE hj hl LP;rw [<-show R.params=ps by rw [hR],<-show R.assign=rA path by rw [hR],<-show R.body=rB path by rw [hR]]at Jq;refine Holds.mono (fK mQ mv _ _ _ _ _ Jq) ?_;rintro e MP w1 h1;cases e with
    |normal=>
     obtain⟨v8,h1⟩:=h1;refine⟨v8.loop,?_⟩;have qO:=v8.put fD {R with state:=.busy};refine Holds.mono (fK mQ mv _ _ _ _ _ (h1 _ _ (Kept.putAt _ _ _) qO)) ?_;rintro e2 ρ2 w2 h2;cases e2 with
     |normal=>
      have L7:=h2.1.put fD {R with state:=.ready,pending:=none};have hrr:Live (w.heap.size+1) w.heap.size R (w2.putObj (w.heap.size+1) (.loop {R with state:=.ready,pending:=none})):=by
       rw [hRR]at L7⊢;exact L7
      have Pt:=Kept.putAt w2 (w.heap.size+1) (.loop {R with state:=.ready,pending:=none});have mu:=h2.2.2.size;have oY:=Pt.size;refine⟨_,h2.1.loop,fun _=>⟨⟨hrr,hJ _ Pr Pr _ _ _ h2.1 h2.2.1 Pt (fun j hj=>.inl hj),fun j hj=>?_⟩,h2.2.2.trans Pt (fun j _ e hn=>?_)⟩,fun h=>by cases h⟩
      ·have:=LP j hj;omega
      ·have:=LP j hn;omega
     |ret=>
      refine⟨_,h2.1.loop,(fun h=>by cases h),fun _=>⟨.ret,.inl rfl,h2.1.put fD _,Jw _ _ _ _ h2.1 h2.2 (Kept.putAt _ _ _)⟩⟩
     |exit id=>
      refine⟨_,h2.1.loop,(fun h=>by cases h),fun _=>⟨.exit id,.inr ⟨id,rfl⟩,h2.1.put fD _,Jw _ _ _ _ h2.1 h2.2 (Kept.putAt _ _ _)⟩⟩
     |_=>exact h2.elim
    |_=>exact h1.elim)
 refine Calls.mono yj ?_;rintro e w2 ⟨v,rfl,h⟩;refine⟨v,rfl,?_⟩;rcases h with⟨Pr,hl,hj,_⟩|⟨e,he,hl,hj⟩
 ·refine⟨R.state,R.pending,hl.loop,by rw [hR];simp,?_⟩
  have hp:R.pending=none:=by rw [hR]
  rw [hp];have k:Kept (· =w.heap.size+1) w2 (w2.putObj (w.heap.size+1) (.loop {R with state:=.exhausted,pending:=none})):=Kept.putAt _ _ _;exact Gv Pr _ _ (hJ _ Pr Pr _ _ _ hl hj k (fun j hj=>.inl hj)) (hl.put fD _)
 ·refine⟨.done,some e,hl.loop,by simp,?_⟩
  have k:Kept (· =w.heap.size+1) w2 (w2.putObj (w.heap.size+1) (.loop {R with state:=.exhausted,pending:=some e})):=Kept.putAt _ _ _;rcases he with rfl|⟨id,rfl⟩
  ·exact CW _ _ (Jw _ _ _ _ hl hj k) (hl.put fD _)
  ·exact sC id _ _ (Jw _ _ _ _ hl hj k) (hl.put fD _)
end
end Go.bV
namespace Go.Proofs.YtfleamccglihoaaGreatDoor
open Go.Proofs.Tryz
open Go Go.bV Go.RowKit
def RW(cs:Array Value):Prop:=cs.size=32/\∀v∈cs.toList,∃i:Int,v=.int .u8 i/\0<=i/\i<256
abbrev HT:= {cs:Array Value//RW cs}
def key(h:HT):List Int:=h.1.toList.map mG
theorem RW.ints{cs:Array Value}(h:RW cs):dw .u8 32 cs:=⟨h.1,fun v hv=>let ⟨i,e,_⟩:=h.2 v hv;⟨i,e⟩⟩
theorem Bb:∀ {a b:List Value},(∀v∈a,∃i:Int,v=.int .u8 i)->(∀v∈b,∃i:Int,v=.int .u8 i)->a.map mG=b.map mG->a=b
 | [],[],_,_,_=>rfl
 | [],_::_,_,_,h=>by simp at h
 |_::_,[],_,_,h=>by simp at h
 |x::a,y::b,ha,hb,h=>by
  obtain⟨i,rfl⟩:=ha x (by simp);obtain⟨j,rfl⟩:=hb y (by simp);simp only [List.map_cons,List.cons.injEq,mG]at h;rw [h.1,Bb (fun v hv=>ha v (by simp [hv])) (fun v hv=>hb v (by simp [hv])) h.2]
theorem key_inj{a b:HT}(h:key a=key b):a=b:=by
 apply Subtype.ext;apply Array.ext';exact Bb (fun v hv=>a.2.ints.2 v hv) (fun v hv=>b.2.ints.2 v hv) h
instance:DecidableEq HT:=fun a b=>if h:key a=key b then isTrue (key_inj h)else isFalse fun e=>h (by rw [e])
theorem dC(a b:HT):dU a.1 b.1=decide (a=b):=by
 unfold dU;by_cases e:a=b
 ·subst e;simp
 ·rw [decide_eq_false e]
  have:¬(key a=key b):=fun h=>e (key_inj h);simpa [key]using this
theorem RW.one{cs:Array Value}(h:RW cs):∀v∈cs.toList,v.oneCell'=true:=fun v hv=>by
 obtain⟨i,rfl,_⟩:=h.2 v hv;rfl
def uR:List Int->List Int->Bool
 | [],[]=>false
 | [],_::_=>true
 |_::_,[]=>false
 |x::a,y::b=>if x<y then true else if y<x then false else uR a b
def cU(a b:HT):Bool:=uR (key a) (key b)
theorem vO:∀a,uR a a=false
 | []=>rfl
 |x::a=>by simp [uR,vO a]
theorem xU:∀ {a b c},uR a b=true->uR b c=true->uR a c=true
 | [],[],_,h,_=>by simp [uR]at h
 | [],_::_,[],_,h=>by simp [uR]at h
 | [],_::_,_::_,_,_=>rfl
 |_::_,[],_,h,_=>by simp [uR]at h
 |_::_,_::_,[],_,h=>by simp [uR]at h
 |x::a,y::b,z::c,h,h'=>by
  simp only [uR]at*;by_cases h1:x<y
  ·by_cases h2:y<z
   ·rw [if_pos (by omega)]
   ·rw [if_neg h2]at h'
    by_cases h3:z<y
    ·rw [if_pos h3]at h';cases h'
    ·rw [if_pos (by omega)]
  ·rw [if_neg h1]at h
   by_cases h2:y<x
   ·rw [if_pos h2]at h;cases h
   ·rw [if_neg h2]at h
    by_cases h3:y<z
    ·rw [if_pos (by omega)]
    ·rw [if_neg h3]at h'
     by_cases h4:z<y
     ·rw [if_pos h4]at h';cases h'
     ·rw [if_neg h4]at h'
      rw [if_neg (by omega),if_neg (by omega)];exact xU h h'
theorem xV:∀ {a b},a.length=b.length->uR a b=false->uR b a=false->a=b
 | [],[],_,_,_=>rfl
 | [],_::_,h,_,_=>by simp at h
 |_::_,[],h,_,_=>by simp at h
 |x::a,y::b,hl,h,h'=>by
  simp only [uR]at*;by_cases h1:x<y
  ·rw [if_pos h1]at h;cases h
  ·rw [if_neg h1]at h
   by_cases h2:y<x
   ·rw [if_pos h2]at h';cases h'
   ·rw [if_neg h2]at h h'
    rw [if_neg h1]at h';have:x=y:=by omega
    rw [this,xV (by simpa using hl) h h']
theorem nA(a:HT):(key a).length=32:=by have:=a.2.1;simpa [key]using this
theorem qF{a b:HT}(h:cU a b=false)(h':cU b a=false):a=b:=key_inj (xV (by rw [nA,nA]) h h')
theorem kR{a b c:HT}(h:cU a b=true)(h':cU b c=true):cU a c=true:=xU h h'
theorem iz(a:HT):cU a a=false:=vO _
theorem tC{a b:HT}(h:cU a b=true):cU b a=false:=by
 cases h':cU b a
 ·rfl
 ·have:=kR h h';rw [iz]at this;cases this
end Go.Proofs.YtfleamccglihoaaGreatDoor
namespace Go.Proofs.YtfleamccglihoaaGreatDoor
open Go.Proofs.Tryz
open Go Go.bV
def SS(l:List HT):Prop:=l.Pairwise fun a b=>cU a b=true
theorem SS.nodup{l:List HT}(h:SS l):l.Nodup:=List.Pairwise.imp (fun {a b} lE e=>by subst e;rw [iz]at lE;cases lE) h
theorem SS.cons{x:HT}{l:List HT}:SS (x::l)↔(∀y∈l,cU x y=true)/\SS l:=List.pairwise_cons
theorem zv:∀ {l m:List HT},SS l->SS m->(∀x,x∈l↔x∈m)->l=m
 | [],[],_,_,_=>rfl
 | [],y::m,_,_,h=>by have:=(h y).2 (by simp);simp at this
 |x::l,[],_,_,h=>by have:=(h x).1 (by simp);simp at this
 |x::l,y::m,hl,hm,h=>by
  rw [SS.cons]at hl hm;have o9:x=y:=by
   have h1:=(h x).1 (by simp);have h2:=(h y).2 (by simp);rcases List.mem_cons.1 h1 with h1|h1
   ·exact h1
   ·rcases List.mem_cons.1 h2 with h2|h2
    ·exact h2.symm
    ·have a:=hl.1 _ h2
     have b:=hm.1 _ h1;rw [tC a]at b;cases b
  subst o9
  congr 1
  refine zv hl.2 hm.2 fun z=>?_;have hz:=h z;constructor
  ·intro hzl
   rcases List.mem_cons.1 (hz.1 (by simp [hzl]))with e|e
   ·subst e;have:=hl.1 _ hzl;rw [iz]at this;cases this
   ·exact e
  ·intro hzm
   rcases List.mem_cons.1 (hz.2 (by simp [hzm]))with e|e
   ·subst e;have:=hm.1 _ hzm;rw [iz]at this;cases this
   ·exact e
def ins(x:HT):List HT->List HT
 | []=> [x]
 |y::l=>if cU x y then x::y::l else if x=y then y::l else y::ins x l
theorem yO(x z:HT):∀l,z∈ins x l↔z=x\/z∈l
 | []=>by simp [ins]
 |y::l=>by
  unfold ins;split
  ·simp
  ·split
   ·rename_i e;subst e;simp
   ·simp only [List.mem_cons,yO x z l]
    constructor
    ·rintro(h|h|h)<;>simp [h]
    ·rintro(h|h|h)<;>simp [h]
theorem Kg(x:HT):∀ {l:List HT},SS l->SS (ins x l)
 | [],_=>by simp [ins,SS]
 |y::l,h=>by
  have h':=SS.cons.1 h;unfold ins;split
  ·rename_i o9
   refine SS.cons.2 ⟨fun z hz=>?_,h⟩;rcases List.mem_cons.1 hz with rfl|hz
   ·exact o9
   ·exact kR o9 (h'.1 _ hz)
  ·split
   ·exact h
   ·rename_i h1 h2
    refine SS.cons.2 ⟨fun z hz=>?_,Kg x h'.2⟩;rcases(yO x z l).1 hz with rfl|hz
    ·cases RX:cU y z
     ·exact absurd (qF RX (by simpa using h1)).symm h2
     ·rfl
    ·exact h'.1 _ hz
def dA(l:List HT):List HT:=l.foldr ins []
theorem dt{z:HT}:∀ {l:List HT},z∈dA l↔z∈l
 | []=>by simp [dA]
 |x::l=>by
  have:= @dt z l;simp only [dA,List.foldr_cons,yO,List.mem_cons]at this⊢;rw [this]
theorem iL:∀l:List HT,SS (dA l)
 | []=>List.Pairwise.nil
 |x::l=>Kg x (iL l)
theorem yF{l m:List HT}(h:∀x,x∈l↔x∈m):dA l=dA m:=zv (iL l) (iL m) fun x=>by rw [dt,dt,h]
theorem yE{l m:List HT}(hs:SS l)(h:∀x,x∈l↔x∈m):l=dA m:=zv hs (iL m) fun x=>by rw [dt,h]
theorem Er(x:HT):∀l,(ins x l).length<=l.length+1
 | []=>by simp [ins]
 |y::l=>by
  have:=Er x l;unfold ins;split
  ·simp
  ·split<;>simp<;>omega
theorem qu:∀l:List HT,(dA l).length<=l.length
 | []=>by simp [dA]
 |x::l=>by
  have h1:=Er x (dA l);have h2:=qu l;simp only [dA,List.foldr_cons,List.length_cons]at*;omega
theorem rG{x:HT}:∀ {l:List HT},x∉l->(ins x l).length=l.length+1
 | [],_=>by simp [ins]
 |y::l,h=>by
  simp only [List.mem_cons,not_or]at h;have:=rG h.2;unfold ins;split
  ·simp
  ·rw [if_neg h.1];simp;omega
theorem qV:∀ {l:List HT},l.Nodup->(dA l).length=l.length
 | [],_=>by simp [dA]
 |x::l,h=>by
  rw [List.nodup_cons]at h;have h2:=qV h.2;have:=rG (l:=dA l) (x:=x) (fun hm=>h.1 (dt.1 hm));simp only [dA,List.foldr_cons,List.length_cons]at*;omega
theorem uj{x:HT}:∀ {l:List HT},SS l->x∈l->(ins x l).length=l.length
 | [],_,h=>by simp at h
 |y::l,hs,h=>by
  have h':=SS.cons.1 hs;unfold ins;split
  ·rename_i o9
   rcases List.mem_cons.1 h with rfl|h
   ·rw [iz]at o9;cases o9
   ·have:=h'.1 _ h;rw [tC o9]at this;cases this
  ·split
   ·rfl
   ·rename_i h1 h2
    rcases List.mem_cons.1 h with rfl|h
    ·exact absurd rfl h2
    ·simp [uj h'.2 h]
theorem sh:∀ {l:List HT},(dA l).length=l.length->l.Nodup
 | [],_=>List.Pairwise.nil
 |x::l,h=>by
  have h2:=qu l;by_cases hm:x∈l
  ·have:=uj (iL l) (dt.2 hm)
   simp only [dA,List.foldr_cons,List.length_cons]at*;omega
  ·have h3:=rG (l:=dA l) (x:=x) (fun h=>hm (dt.1 h))
   simp only [dA,List.foldr_cons,List.length_cons]at*;exact List.nodup_cons.2 ⟨hm,sh (by simp only [dA];omega)⟩
theorem KW:dA []= []:=rfl
theorem uP(x:HT):dA [x]= [x]:=rfl
theorem zW{l:List HT}(h:SS l):dA l=l:=(yE h fun _=>Iff.rfl).symm
theorem Kf{l:List HT}{x:HT}{k:Nat}(hs:SS l)(h1:∀y∈l.take k,cU y x=true)(h2:∀y∈l.drop k,cU x y=true):SS (l.take k++x::l.drop k):=by
 unfold SS at*;rw [<-List.take_append_drop k l,List.pairwise_append]at hs;rw [List.pairwise_append,List.pairwise_cons];refine⟨hs.1,⟨h2,hs.2.1⟩,fun y hy z hz=>?_⟩;rcases List.mem_cons.1 hz with rfl|hz
 ·exact h1 y hy
 ·exact hs.2.2 y hy z hz
theorem SS.get{l:List HT}(h:SS l){i j:Nat}(rf:i<j){x y:HT}(hx:l[i]? =some x)(hy:l[j]? =some y):cU x y=true:=by
 obtain⟨h1,rfl⟩:=lgeS hx;obtain⟨h2,rfl⟩:=lgeS hy;exact List.pairwise_iff_getElem.1 h i j h1 h2 rf
theorem EU{l:List HT}{x:HT}(hs:SS l)(h:∀y∈l,cU y x=true):SS (l++ [x]):=by
 have:=Kf (k:=l.length) hs (x:=x) (by simpa using h) (by simp);simpa using this
def LE(l:List HT):Prop:=l.Pairwise fun a b=>cU b a=false
theorem lt_of_le_ne{a b:HT}(h:cU b a=false)(hn:a≠b):cU a b=true:=by
 cases lE:cU a b
 ·exact absurd (qF lE h) hn
 ·rfl
theorem uf{a b c:HT}(h:cU b a=false)(h':cU b c=true):cU a c=true:=by
 by_cases e:a=b
 ·subst e;exact h'
 ·exact kR (lt_of_le_ne h e) h'
theorem LE.get{l:List HT}(h:LE l){i j:Nat}(rf:i<j){x y:HT}(hx:l[i]? =some x)(hy:l[j]? =some y):cU y x=false:=by
 obtain⟨h1,rfl⟩:=lgeS hx;obtain⟨h2,rfl⟩:=lgeS hy;exact List.pairwise_iff_getElem.1 h i j h1 h2 rf
theorem bN{l:List HT}{k:Nat}{x z:HT}(hx:l[k]? =some x):z∈l.take (k+1)↔z∈l.take k\/z=x:=by
 rw [List.take_add_one,hx];simp
open Go.RowKit
theorem fg(a:Addr)(k:Nat):(a.add k).block=a.block:=by unfold Addr.add;split<;>rfl
theorem aS{σ:Type}(e:σ->Env)(I:σ->World->Prop)(μ:σ->World->Nat)(s:σ)(w:World)(Q:aP)(l:Nat)(ρ:Env)(w':World):bR e I μ s w Q (.exit l) ρ w'=Q (.exit l) ρ w':=rfl
theorem iV{σ:Type}(e:σ->Env)(I:σ->World->Prop)(μ:σ->World->Nat)(s:σ)(w:World)(Q:aP)(ρ:Env)(w':World):bR e I μ s w Q .ret ρ w'=Q .ret ρ w':=rfl
theorem gP{x:Int}(h0: -9223372036854775808<=x)(h1:x<9223372036854775808):i64.wrap x=x:=by
 simp only [IntKind.wrap,IntKind.bits,IntKind.signed];simp;omega
theorem Cells.aF{S:Nat->Prop}{w w':World}{a:Addr}{cs:Array Value}(h:Cells w a cs)(hk:Kept S w w')(hn:¬S a.block):Cells w' a cs:=
 fun j v hj=>hk.cell (h j v hj) (by rw [fg];exact hn)
theorem Cells.bJ{w:World}{b:Nat}{cs:Array Value}{t:TypeId}{fr:Nat×Nat}(h:w.heap[b]? =some (.cells cs t fr)):Cells w ⟨b,0,none⟩ cs:=
 fun j v hj=>by rw [bt,Nat.zero_add,aD h];exact hj
structure HS(w:World)(A:Option Addr)(n:Nat)(l:List HT):Prop where
 len:l.length=n
 at_:∀(i:Nat) (h:HT),l[i]? =some h->∃a,A=some a/\a.block<w.heap.size/\Cells w (a.add (i*32)) h.1
theorem HS.aF{S:Nat->Prop}{w w':World}{A:Option Addr}{n:Nat}{l:List HT}(h:HS w A n l)(hk:Kept S w w')(hn:∀a,A=some a->¬S a.block):HS w' A n l:=⟨h.len,fun i x hi=>by
 obtain⟨a,h1,h2,h3⟩:=h.at_ i x hi;exact⟨a,h1,Nat.lt_of_lt_of_le h2 hk.size,Cells.aF h3 hk (by rw [fg];exact hn a h1)⟩⟩
theorem HS.same{w w':World}{A:Option Addr}{n:Nat}{l:List HT}(h:HS w A n l)(hk:Kept Nil w w'):HS w' A n l:=h.aF hk fun _ _ h=>h
section
variable{w:World}{K:Value->World->Prop}
theorem tg{A:Option Addr}{n c:Nat}{l:List HT}(h:HT)(hl:HS w A n l)(hn:n<=1000000)(hK:∀w',Kept Nil w w'->K (.bool (decide (h∈l))) w'):
 bz prog cR.id #[.slice A n c,.agg h.1] w K:=by
 refine cR.of ?_;unfold cR.W;intro w3;have k3:Kept Nil w w3:=(Kept.refl Nil w).alloc _;have nC:w3.heap[w.heap.size]? =some (.cells h.1 ag (0,0)):=aI w _;clear_value w3;have hlen:=hl.len;refine cR.cy (I:=fun s w'=>∃i:Nat,s=(false,(i:Int))/\i<=n/\Kept Nil w3 w'/\h∉l.take i) (μ:=fun s _=>((n:Int)-s.2).toNat) (s:=(false,0)) ⟨0,rfl,Nat.zero_le _,Kept.refl _ _,by simp⟩ ?_;rintro s w' ⟨i,rfl,hi,kw,kW⟩;refine Split.dec (fun cU=>?_) (fun gE=>?_)
 ·simp only at cU
  have dY:i<n:=by omega
  obtain⟨x,hx⟩:∃x,l[i]? =some x:=⟨_,List.getElem?_eq_getElem (by omega)⟩;have kk:Kept Nil w w'.drew:=(k3.tt kw).drew;obtain⟨a,rfl,_,hc⟩:=(hl.same kk).at_ i x hx;intro w8;have k8:Kept Nil w3 w8:=kw.drew;refine⟨⟨by simp only;omega,by simp only;omega⟩,x.1,⟨x.2.1,hc⟩,h.1,⟨h.2.1,Cells.bJ (k8.heap nC (fun h=>h))⟩,⟨x.2.ints,h.2.ints⟩,?_⟩;rw [dC];have RP:Kept Nil w w8:=kk;refine Split.dec (fun he=>?_) (fun he=>?_)
  ·have:=hK w8 RP
   rw [decide_eq_true (by rw [<-he];exact List.mem_of_getElem? hx)]at this;exact this
  ·simp only
   rw [gP (x:=(i:Int)+1) (by omega) (by omega)];refine⟨(false,(i:Int)+1),rfl,⟨i+1,rfl,dY,k8,?_⟩,by simp only;omega⟩;rw [List.take_add_one,hx];simp only [Option.toList_some,List.mem_append,List.mem_singleton,not_or];exact⟨kW,fun e=>he e.symm⟩
 ·simp only at gE
  rw [aS,cR.dq];have:=hK w' (k3.tt kw);rw [List.take_of_length_le (by omega)]at kW;rw [decide_eq_false kW]at this;exact this
end
def lT(a b:HT):Int:=if cU a b then-1 else if cU b a then 1 else 0
theorem vP:∀(i:Nat) (a b:List Int),a.take i=b.take i->uR a b=uR (a.drop i) (b.drop i)
 |0,a,b,_=>rfl
 |i+1,[],[],_=>rfl
 |i+1,[],y::b,h=>by simp at h
 |i+1,x::a,[],h=>by simp at h
 |i+1,x::a,y::b,h=>by
  simp only [List.take_succ_cons,List.cons.injEq]at h;obtain⟨rfl,h⟩:=h;simp only [uR,List.drop_succ_cons];rw [if_neg (by omega),if_neg (by omega)];exact vP i a b h
theorem yQ{h:HT}{i:Nat}(hi:i<32):∃x:Int,h.1[i]? =some (.int .u8 x)/\(key h)[i]? =some x/\0<=x/\x<256:=by
 have hs:i<h.1.size:=by rw [h.2.1];exact hi
 obtain⟨x,hx,h1,h2⟩:=h.2.2 h.1[i] (by simp);refine⟨x,by rw [Array.getElem?_eq_getElem hs,hx],?_,h1,h2⟩;unfold key;rw [List.getElem?_map,Array.getElem?_toList,Array.getElem?_eq_getElem hs,hx];rfl
section
variable{w:World}{K:Value->World->Prop}
theorem tU(a b:HT)(hK:∀w',Kept Nil w w'->K (.int .i64 (lT a b)) w'):bz prog bO.id #[.agg a.1,.agg b.1] w K:=by
 refine bO.of ?_;unfold bO.W;intro w3 w4;have k3:Kept Nil w w3:=(Kept.refl Nil w).alloc _;have k4:Kept Nil w w4:=k3.alloc _;have xq:w4.heap[w.heap.size]? =some (.cells a.1 ag (0,0)):=jk (aI w _) _;have pg:w4.heap[w3.heap.size]? =some (.cells b.1 ag (0,0)):=aI w3 _;clear_value w4;refine bO.cy (I:=fun s w'=>∃i:Nat,s=(0,(i:Int))/\i<=32/\Kept Nil w4 w'/\(key a).take i=(key b).take i) (μ:=fun s _=>(32-s.2).toNat) (s:=(0,0)) ⟨0,rfl,by omega,Kept.refl _ _,by simp⟩ ?_;rintro s w' ⟨i,rfl,hi,kw,heq⟩;refine Split.dec (fun jQ=>?_) (fun gE=>?_)
 ·simp only at jQ
  have dY:i<32:=by omega
  obtain⟨x,hx,kx,_⟩:=yQ (h:=a) dY;obtain⟨y,hy,ky,_⟩:=yQ (h:=b) dY;have e1:cU a b=uR ((key a).drop i) ((key b).drop i):=vP i _ _ heq;have e2:cU b a=uR ((key b).drop i) ((key a).drop i):=vP i _ _ heq.symm;have da:(key a).drop i=x::(key a).drop (i+1):=by
   obtain⟨h1,h2⟩:=lgeS kx;rw [List.drop_eq_getElem_cons h1,h2]
  have db:(key b).drop i=y::(key b).drop (i+1):=by
   obtain⟨h1,h2⟩:=lgeS ky;rw [List.drop_eq_getElem_cons h1,h2]
  rw [da,db]at e1 e2;simp only [uR]at e1 e2;intro w9;have k9:Kept Nil w4 w9:=kw.drew;clear_value w9;have hb:0<=(i:Int)/\(i:Int)<32:=⟨by omega,by omega⟩;have ca:∀ {w':World},Kept Nil w4 w'->w'.cell? ((aR w.heap.size).add ((i:Int).toNat*1))=some (.int .u8 x):=fun k=>by
   rw [bt,Nat.zero_add,Nat.mul_one,Int.toNat_natCast,aD (k.heap xq (fun h=>h))];exact hx
  have cb:∀ {w':World},Kept Nil w4 w'->w'.cell? ((aR w3.heap.size).add ((i:Int).toNat*1))=some (.int .u8 y):=fun k=>by
   rw [bt,Nat.zero_add,Nat.mul_one,Int.toNat_natCast,aD (k.heap pg (fun h=>h))];exact hy
  refine⟨hb,x,ca k9,hb,y,cb k9,Split.dec (fun o9=>?_) (fun o9=>?_)⟩
  ·have:=hK w9 (k4.tt k9)
   rw [show lT a b= -1 by unfold lT;rw [e1,if_pos o9];rfl]at this;exact this
  ·intro lY
   have xg:Kept Nil w4 lY:=k9.drew;clear_value lY;refine⟨hb,x,ca xg,hb,y,cb xg,Split.dec (fun Et=>?_) (fun Et=>?_)⟩
   ·have:=hK lY (k4.tt xg)
    rw [show lT a b=1 by unfold lT;rw [e1,e2,if_neg o9,if_pos (show y<x from Et),if_pos (show y<x from Et)];rfl]at this;exact this
   ·simp only
    rw [gP (x:=(i:Int)+1) (by omega) (by omega)];refine⟨(0,(i:Int)+1),rfl,⟨i+1,rfl,dY,xg,?_⟩,by simp only;omega⟩;have:x=y:=by omega
    rw [List.take_add_one,List.take_add_one,kx,ky,heq,this]
 ·simp only at gE
  rw [aS,bO.dq];have:=hK w' (k4.tt kw);have lE:a=b:=by
   apply key_inj;rw [List.take_of_length_le (by rw [nA];omega),List.take_of_length_le (by rw [nA];omega)]at heq;exact heq
  rw [show lT a b=0 by unfold lT;rw [lE,iz];rfl]at this;exact this
end
theorem EN{x y:Int}(hx:0<=x/\x<256)(hy:0<=y/\y<256):(x.toNat.toUInt8<y.toNat.toUInt8)↔x<y:=by
 rw [UInt8.lt_iff_toNat_lt];simp only [Nat.toUInt8,UInt8.toNat_ofNat'];omega
theorem oq:∀ {a b:List Int},a.length=b.length->(∀x∈a,0<=x/\x<256)->(∀x∈b,0<=x/\x<256)->
 Lib.compareBytes (Lib.bytesOf a) (Lib.bytesOf b)=if uR a b then-1 else if uR b a then 1 else 0
 | [],[],_,_,_=>rfl
 | [],_::_,h,_,_=>by simp at h
 |_::_,[],h,_,_=>by simp at h
 |x::a,y::b,h,ha,hb=>by
  have hx:=ha x (by simp);have hy:=hb y (by simp);have ih:=oq (a:=a) (b:=b) (by simpa using h) (fun z hz=>ha z (by simp [hz])) (fun z hz=>hb z (by simp [hz]));simp only [Lib.bytesOf,List.map_cons,Lib.compareBytes,EN hx hy,EN hy hx,uR];by_cases h1:x<y
  ·simp [h1]
  ·by_cases h2:y<x
   ·simp [h1,h2]
   ·simp only [h1,h2,if_false]
    exact ih
theorem x5(h:HT):∀x∈key h,0<=x/\x<256:=by
 intro x hx;simp only [key,List.mem_map]at hx;obtain⟨v,hv,rfl⟩:=hx;obtain⟨i,rfl,h1,h2⟩:=h.2.2 v hv;exact⟨h1,h2⟩
theorem sE(a b:HT):Lib.compareBytes (Lib.bytesOf (key a)) (Lib.bytesOf (key b))=lT a b:=
 oq (by rw [nA,nA]) (x5 a) (x5 b)
section
variable{w:World}{K:Value->World->Prop}
theorem tH(a b:HT){p q:Addr}{c c':Nat}(ha:Cells w p a.1)(hb:Cells w q b.1)(hK:K (.int .i64 (lT a b)) w):
 bz prog iA.id #[.slice (some p) 32 c,.slice (some q) 32 c'] w K:=by
 refine iA.of ⟨.int .i64 (lT a b),w,?_,_,rfl,hK⟩;have Bk:∀(h:HT) (r:Addr),Cells w r h.1->∀j x,(key h)[j]? =some x->w.cell? (r.add j)=some (.int .u8 x):=by
  intro h r hr j x hx;have hj:j<32:=by have:=(lgeS hx).1;rw [nA]at this;exact this
  obtain⟨y,hy,ky,_⟩:=yQ (h:=h) hj;rw [hx]at ky;cases ky;exact hr j _ hy
 have l1:=Lib.run_loadBytesX (P:=prog) w (key a) p .empty (Bk a p ha);have l2:=Lib.run_loadBytesX (P:=prog) w (key b) q .empty (Bk b q hb);rw [nA]at l1 l2;rw [run_callFunc_extern uH.at_ (by kernel_rfl) (by kernel_rfl) (by kernel_rfl) (e:=Extern.BytealgCompare.compare) (by kernel_rfl)];have hr:(Extern.BytealgCompare.compare #[.slice (some p) 32 c,.slice (some q) 32 c']).run prog w=.ok (.int .i64 (lT a b)) w:=by
  change Sem.run prog (do pure (goInt (Extern.BytealgCompare.cmp (<-Extern.Bytes.bytesOf (.slice (some p) 32 c)) (<-Extern.Bytes.bytesOf (.slice (some q) 32 c'))))) w=_
  simp only [Extern.Bytes.bytesOf,Sem.run_bind,l1,l2,Result.andThen_ok,Sem.run_pure,Lib.cmp_eq,goInt];rw [<-sE];simp
 rw [hr];rfl
theorem qh(a b:HT)(hK:K (.int .i64 (lT a b)) ((w.alloc (.cells a.1 ag)).alloc (.cells b.1 ag)).drew):bz prog dK.id #[.agg a.1,.agg b.1] w K:=by
 refine dK.of ?_;unfold dK.W;intro w3 w4 w5;have ha:w5.heap[w.heap.size]? =some (.cells a.1 ag (0,0)):=jk (aI w _) _;have hb:w5.heap[w3.heap.size]? =some (.cells b.1 ag (0,0)):=aI w3 _;simp only [if_neg (show ¬(32:Nat)=0 by omega),Nat.zero_mul,add_zero,Nat.sub_zero];exact tH a b (Cells.bJ ha) (Cells.bJ hb) ⟨_,rfl,hK⟩
end
theorem lU(a:Addr)(m n:Nat):(a.add m).add n=a.add (m+n):=by
 unfold Addr.add;by_cases hm:m=0<;>by_cases hn:n=0<;>simp [hm,hn,Nat.add_assoc]
def df(l:List HT):List Value:=l.flatMap fun h=>h.1.toList
theorem lR(h:HT)(l:List HT):df (h::l)=h.1.toList++df l:=by simp [df]
theorem mR(l m:List HT):df (l++m)=df l++df m:=by simp [df]
theorem fc:∀l:List HT,(df l).length=l.length*32
 | []=>rfl
 |h::l=>by
  have:=h.2.1;rw [lR,List.length_append,fc l,Array.length_toList,this,List.length_cons];omega
theorem Db(l:List HT):∀u∈df l,u.oneCell'=true:=by
 intro u hu;simp only [df,List.mem_flatMap]at hu;obtain⟨h,_,hu⟩:=hu;exact h.2.one u hu
theorem lJ:∀ {l:List HT} {i:Nat} {h:HT},l[i]? =some h->∀ {j:Nat} {v:Value},h.1[j]? =some v->(df l)[i*32+j]? =some v
 | [],_,_,hi,_,_,_=>by simp at hi
 |x::l,0,h,hi,j,v,hj=>by
  simp only [List.getElem?_cons_zero,Option.some.injEq]at hi;subst hi;have cU:j<x.1.toList.length:=by simpa using (Array.getElem?_eq_some_iff.1 hj).1
  rw [lR,Nat.zero_mul,Nat.zero_add,List.getElem?_append_left cU,Array.getElem?_toList,hj]
 |x::l,i+1,h,hi,j,v,hj=>by
  simp only [List.getElem?_cons_succ]at hi;have:=x.2.1;rw [lR,List.getElem?_append_right (by simp;omega),Array.length_toList,this,show(i+1)*32+j-32=i*32+j by omega];exact lJ hi hj
theorem Gw{l:List HT}{j:Nat}{v:Value}(h:(df l)[j]? =some v):∃x,l[j/32]? =some x/\x.1[j%32]? =some v:=by
 have hj:=(lgeS h).1;rw [fc]at hj;have hi:j/32<l.length:=by omega
 refine⟨l[j/32],List.getElem?_eq_getElem hi,?_⟩;have hs:=l[j/32].2.1;have hm:j%32<l[j/32].1.size:=by rw [hs];omega
 obtain⟨u,hu⟩:∃u,l[j/32].1[j%32]? =some u:=⟨_,Array.getElem?_eq_getElem hm⟩;have:=lJ (List.getElem?_eq_getElem hi) hu;rw [show j/32*32+j%32=j by omega,h]at this;rw [hu,this]
theorem pH:zI prog ay ag 32 32:=⟨by kernel_rfl,by kernel_rfl⟩
abbrev bM(w:World)(B:Nat)(A:Option Addr)(n c:Nat)(l:List HT):Prop:=Row w B ag 32 A n c (df l)
section
variable{w w':World}{B:Nat}{A:Option Addr}{n c:Nat}{l:List HT}
theorem bM.len(h:bM w B A n c l):l.length=n:=by
 have:=Row.len h;rw [fc]at this;omega
theorem bM.hs(h:bM w B A n c l):HS w A n l:=⟨h.len,fun i x hi=>by
 have hlen:=h.len;have dY:=(lgeS hi).1;obtain⟨b,rfl⟩:=Row.some h (by omega);obtain⟨_,cur,lv⟩:=Row.bJ h (k:=b) rfl;refine⟨_,rfl,aV lv,fun j v hj=>?_⟩;rw [lU];exact Row.cells h _ _ (lJ hi hj)⟩
theorem bM.nil(w:World)(B:Nat):bM w B none 0 0 []:=Row.nil _ _ _ _
theorem HS.cells{a:Addr}(h:HS w (some a) n l):∀j u,(df l)[j]? =some u->w.cell? (a.add j)=some u:=by
 intro j u hj;obtain⟨x,hx,hu⟩:=Gw hj;obtain⟨a',ha,_,hc⟩:=h.at_ _ x hx;cases ha;have:=hc _ _ hu
 rwa [lU,show j/32*32+j%32=j by omega]at this
theorem HS.nil(w:World)(A:Option Addr):HS w A 0 []:=⟨rfl,fun i x hi=>by simp at hi⟩
theorem HS.none(h:HS w none n l):n=0/\l= []:=by
 cases l with
 |nil=>exact⟨h.len.symm,rfl⟩
 |cons x l=>obtain⟨a,ha,_⟩:=h.at_ 0 x rfl;cases ha
theorem HS.take(h:HS w A n l){k:Nat}(hk:k<=n):HS w A k (l.take k):=⟨by have:=h.len;simp;omega,fun i x hi=>by
 rw [List.getElem?_take]at hi;split at hi
 ·exact h.at_ i x hi
 ·cases hi⟩
theorem HS.drop(h:HS w A n l){k:Nat}(hc:n<=c)(hk:k<=n):HS w (if c=k then A else A.map (·.add (k*32))) (n-k) (l.drop k):=⟨by have:=h.len;simp;omega,fun i x hi=>by
 rw [List.getElem?_drop]at hi;have hlen:=h.len;have:=(lgeS hi).1;obtain⟨a,rfl,hb,qP⟩:=h.at_ _ x hi;rw [if_neg (by omega)];refine⟨_,rfl,by rw [fg];exact hb,?_⟩;rw [lU,<-Nat.add_mul];exact qP⟩
theorem HS.one{w:World}{b:Nat}{h:HT}{t:TypeId}{fr:Nat×Nat}(hb:w.heap[b]? =some (.cells h.1 t fr)):HS w (some ⟨b,0,Option.none⟩) 1 [h]:=⟨rfl,fun i x hi=>by
 cases i with
 |zero=>
  simp only [List.getElem?_cons_zero,Option.some.injEq]at hi;subst hi;exact⟨_,rfl,aV hb,by rw [Nat.zero_mul,add_zero];exact Cells.bJ hb⟩
 |succ i=>simp at hi⟩
theorem cK(ty:Nat)(h:bM w B A n c l){A2:Option Addr}{m cx:Nat}{l2:List HT}(h2:HS w A2 m l2)(hm:n+m<=1000000)(hB:B<=w.heap.size):
 ∃A' c' w',(Builtin.append_ #[ay,ay] ty #[.slice A n c,.slice A2 m cx]).run prog w=.ok (.slice A' (n+m) c') w'/\
  bM w' B A' (n+m) c' (l++l2)/\w.grownBy w' (bn A)/\(∀k,bn A'=some k->bn A=some k\/w.heap.size<=k):=by
 cases A2 with
 |some a=>
  have qO:=h2.len;obtain⟨A',c',w',hr,fG,hg,hb⟩:=fR (P:=prog) (t:=ay) (bytes:=32) (ty:=ty) pH h (a:=a) (m:=m) (cx:=cx) (news:=df l2) (by rw [fc,qO]) h2.cells (Db l2) (by omega) (by unfold maxLen;omega) hB;refine⟨A',c',w',hr,?_,hg,hb⟩;rw [<-mR]at fG;exact fG
 |none=>
  obtain⟨rfl,rfl⟩:=h2.none;refine⟨A,c,w,?_,by simpa using h,⟨rfl,rfl,rfl,Nat.le_refl _,fun _ _ _=>rfl⟩,fun k hk=>.inl hk⟩;obtain⟨i,z,hi,hz,hs,KD,Es⟩:=pH.inf;have hn:n<=c:=by rcases Row.own h with⟨_,h1,h2,_⟩|⟨_,_,_,_,_,h1,_⟩<;>omega
  simp [Builtin.append_,run_underlying pH.pB,sizeOf,typeInfo,hi,Builtin.lenOf,Builtin.firstCells,hn];cases A<;>simp [storeCells]
end
theorem HS.load{w:World}{A:Option Addr}{n:Nat}{l:List HT}(hl:HS w A n l){i:Int}{x:HT}(h0:0<=i)(hx:l[i.toNat]? =some x){k:Array Value->Prop}(hk:k x.1):
 (0<=i/\i<(n:Int))/\Is A fun a=>∃t:Array Value,(t.size=32/\Cells w (a.add (i.toNat*32)) t)/\k t:=by
 obtain⟨a,rfl,_,hc⟩:=hl.at_ _ x hx;have:=(lgeS hx).1;have:=hl.len;exact⟨⟨h0,by omega⟩,x.1,⟨x.2.1,hc⟩,hk⟩
theorem sF{a b:HT}:(lT a b<0)↔cU a b=true:=by
 unfold lT;by_cases h:cU a b=true
 ·simp [h]
 ·by_cases h':cU b a=true<;>simp [h,h']
theorem dH{n:Int}(h0:0<=n)(h1:n<=2000000):i64.wrap (n+1)=n+1:=gP (by omega) (by omega)
theorem wrapM{n:Int}(h0:0<=n)(h1:n<=2000000):i64.wrap (n-1)=n-1:=gP (by omega) (by omega)
theorem Kept.eQ{w w' jl:World}{A:Option Addr}(h:Kept Nil w w')(hg:w'.grownBy jl (bn A))(hr:∀k,bn A=some k->w.heap.size<=k):Kept Nil w jl:=
 Kept.grown h hg fun k hk cU=>absurd (hr k hk) (by omega)
section
variable{w:World}{K:Value->World->Prop}
theorem rp{A:Option Addr}{n c:Nat}{l:List HT}(hl:HS w A n l)(hn:n<=400000)
 (hK:∀A' c' w',bM w' w.heap.size A' (dA l).length c' (dA l)->Kept Nil w w'->K (.slice A' (dA l).length c') w'):
 bz prog aN.id #[.slice A n c] w K:=by
 refine aN.of ?_;have hlen:=hl.len;refine aN.cy (I:=fun s w'=>∃(i:Nat) (out:List HT) (B:Option Addr) (m:Nat),s=(B,out.length,m,(i:Int))/\i<=n/\bM w' w.heap.size B out.length m out/\SS out/\(∀x,x∈out↔x∈l.take i)/\out.length<=i/\Kept Nil w w')
  (μ:=fun s _=>((n:Int)-s.2.2.2).toNat) (s:=(none,0,0,0)) ⟨0,[],none,0,rfl,Nat.zero_le _,bM.nil _ _,List.Pairwise.nil,by simp,by simp,Kept.refl _ _⟩ ?_
 rintro s w' ⟨i,out,B,m,rfl,hi,row,uT,iY,U4,kw⟩;refine Split.dec (fun jQ=>?_) (fun gE=>?_)
 ·simp only at jQ
  have dY:i<n:=by omega
  obtain⟨x,hx⟩:∃x,l[i]? =some x:=⟨_,List.getElem?_eq_getElem (by omega)⟩;refine(hl.same kw).load (i:=(i:Int)) (by omega) hx (tg x row.hs (by simp only;omega) fun w9 k9=>⟨_,rfl,?_⟩);simp only;have TF:Kept Nil w w9:=kw.tt k9;have S9:bM w9 w.heap.size B out.length m out:=Row.aF row k9 (fun _ _ h=>h);have yV:l.take (i+1)=l.take i++ [x]:=by rw [List.take_add_one,hx];rfl
  refine Split.dec (fun fQ=>?_) (fun kW=>?_)
  ·rw [dH (n:=(i:Int)) (by omega) (by omega)]
   refine⟨(B,out.length,m,(i:Int)+1),rfl,⟨i+1,out,B,m,rfl,dY,S9,uT,fun y=>?_,by omega,TF⟩,by simp only;omega⟩;rw [yV,List.mem_append,List.mem_singleton,<-iY y];constructor
   ·exact .inl
   ·rintro(h|rfl)
    ·exact h
    ·exact fQ
  ·refine aN.gS (I:=fun s w'=>∃k:Nat,s=(k:Int)/\k<=out.length/\(∀y∈out.drop k,cU x y=true)/\Kept Nil w9 w') (μ:=fun s _=>s.toNat) (s:=(out.length:Int)) ⟨out.length,rfl,Nat.le_refl _,by simp,Kept.refl _ _⟩ ?_
   rintro s w1 ⟨k,rfl,hk,wg,k1⟩;have NT:HS w1 A n l:=(hl.same TF).same k1;have vr:bM w1 w.heap.size B out.length m out:=Row.aF S9 k1 (fun _ _ h=>h);have kx:Kept Nil w w1:=TF.tt k1;have sC:∀w1,HS w1 A n l->bM w1 w.heap.size B out.length m out->Kept Nil w w1->(∀y∈out.take k,cU y x=true)->
    aN.iI A n c none 0 0 B out.length m (i:Int) (k:Int) (bR (aN.e1 A n c none 0 0) (fun s w'=>∃(i:Nat) (out:List HT) (B:Option Addr) (m:Nat),s=(B,out.length,m,(i:Int))/\i<=n/\bM w' w.heap.size B out.length m out/\SS out/\(∀x,x∈out↔x∈l.take i)/\out.length<=i/\Kept Nil w w') (fun s _=>((n:Int)-s.2.2.2).toNat) (B,out.length,m,(i:Int)) w' (aN.q1 K)) w1:=by
    intro w1 NT vr kx IW;have Dc:out.length<=m:=by rcases Row.own vr with⟨_,h1,h2,_⟩|⟨_,_,_,_,_,h1,_⟩<;>omega
    have mu:=kx.size;unfold aN.iI;refine⟨⟨by omega,by omega⟩,?_⟩;have yY:HS w1 (if m=0 then B else B.map (·.add (0*32))) ((k:Int).toNat -0) (out.take k):=by
     have h:=vr.hs.take hk;rw [Nat.sub_zero,Int.toNat_natCast];have e:(if m=0 then B else B.map (·.add (0*32)))=B:=by
      split
      ·rfl
      ·cases B<;>simp [add_zero]
     rw [e];exact h
    obtain⟨A1,c1,w2,ns,gm,Mg,kX⟩:=cK (cx:=m-0) ay (bM.nil w1 w.heap.size) yY (by simp;omega) mu;have k2:Kept Nil w1 w2:=Kept.eQ (Kept.refl _ _) Mg (fun k hk=>by cases hk);rw [Nat.zero_add,Nat.sub_zero,Int.toNat_natCast]at ns gm;rw [List.nil_append]at gm;refine⟨A1,_,c1,w2,by rw [Nat.sub_zero,Int.toNat_natCast];exact ns,?_⟩;have qO:=NT.same k2;refine qO.load (i:=(i:Int)) (by omega) hx ⟨x.2.1,?_⟩;intro w3;have k3:Kept Nil w2 w3:=(Kept.refl _ _).alloc _;have jq:HS w3 (some ⟨w2.heap.size,0,none⟩) 1 [x]:=by
     refine HS.one (t:=ag) (fr:=(0,0)) ?_;have e3:w3=w2.alloc (.cells x.1 ag):=by
      show w2.alloc (.cells (x.1.toList++ []).toArray ag)=_
      simp
     rw [e3];exact aI w2 _
    clear_value w3;have mn:bM w3 w.heap.size A1 k c1 (out.take k):=Row.aF gm k3 (fun _ _ h=>h);have aaN:w.heap.size<=w3.heap.size:=Nat.le_trans (Nat.le_trans mu k2.size) k3.size;obtain⟨A4,c4,w4,uU,iU,ED,pg⟩:=cK (cx:=1) ay mn jq (by omega) aaN;have k4:Kept Nil w1 w4:=Kept.eQ (k2.tt k3) ED (fun k hk=>by rcases kX k hk with h|h;cases h;exact h);refine⟨A4,_,c4,w4,uU,⟨by omega,by omega⟩,?_⟩;have R6:HS w4 (if m=(k:Int).toNat then B else B.map (·.add ((k:Int).toNat*32))) (out.length-(k:Int).toNat) (out.drop k):=by
     rw [Int.toNat_natCast];exact(vr.hs.same k4).drop Dc hk
    have YC:(out.length-(k:Int).toNat)=out.length-k:=by rw [Int.toNat_natCast]
    obtain⟨A5,c5,w5,uE,jI,V0,oD⟩:=cK (cx:=m-(k:Int).toNat) ay iU R6 (by omega) (Nat.le_trans mu k4.size);have k5:Kept Nil w1 w5:=Kept.eQ k4 V0 (fun b hb=>by
     rcases pg b hb with h|h
     ·rcases kX b h with h|h
      ·cases h
      ·exact h
     ·exact Nat.le_trans (Nat.le_trans k2.size k3.size) h)
    refine⟨A5,_,c5,w5,uE,?_⟩;rw [dH (n:=(i:Int)) (by omega) (by omega)];have nN:out.take k++ [x]++out.drop k=out.take k++x::out.drop k:=by simp
    have zD:(out.take k++x::out.drop k).length=out.length+1:=by simp;omega
    rw [nN]at jI;have e5:k+1+(out.length-(k:Int).toNat)=(out.take k++x::out.drop k).length:=by rw [zD];omega
    rw [e5]at jI⊢;refine⟨(A5,(out.take k++x::out.drop k).length,c5,(i:Int)+1),rfl,⟨i+1,_,A5,c5,rfl,dY,jI,Kf uT IW wg,fun y=>?_,by omega,kx.tt k5⟩,by simp only;omega⟩;rw [show y∈l.take (i+1)↔y∈out\/y=x by rw [yV,List.mem_append,List.mem_singleton,iY y],List.mem_append,List.mem_cons];constructor
    ·rintro(h|rfl|h)
     ·exact .inl (List.mem_of_mem_take h)
     ·exact .inr rfl
     ·exact .inl (List.mem_of_mem_drop h)
    ·rintro(h|rfl)
     ·rw [<-List.take_append_drop k out,List.mem_append]at h
      rcases h with h|h
      ·exact .inl h
      ·exact .inr (.inr h)
     ·exact .inr (.inl rfl)
   unfold aN.B2;intro w2;have k2:Kept Nil w1 w2:=(Kept.refl _ _).drew;clear_value w2;have qO:=NT.same k2;have gm:bM w2 w.heap.size B out.length m out:=Row.aF vr k2 (fun _ _ h=>h);have kx2:=kx.tt k2;refine Split.dec (fun jK=>?_) (fun y7=>?_)
   ·have rP:0<k:=by omega
    obtain⟨y,hy⟩:∃y,out[k-1]? =some y:=⟨_,List.getElem?_eq_getElem (by omega)⟩;rw [wrapM (n:=(k:Int)) (by omega) (by omega)];refine qO.load (i:=(i:Int)) (by omega) hx (gm.hs.load (by omega) (by rw [show((k:Int)-1).toNat=k-1 by omega];exact hy) (tU x y fun w3 k3=>⟨_,rfl,?_⟩));refine Split.dec (fun hc=>?_) (fun hc=>?_)
    ·refine⟨(k:Int)-1,rfl,⟨k-1,by omega,by omega,fun z hz=>?_,(k1.tt k2).tt k3⟩,by simp only;omega⟩
     have hd:out.drop (k-1)=y::out.drop k:=by
      obtain⟨h1,h2⟩:=lgeS hy;rw [List.drop_eq_getElem_cons h1,h2,show k-1+1=k by omega]
     rw [hd]at hz;rcases List.mem_cons.1 hz with rfl|hz
     ·exact sF.1 hc
     ·exact wg z hz
    ·rw [aS,aN.jU]
     refine sC w3 (qO.same k3) (Row.aF gm k3 (fun _ _ h=>h)) (kx2.tt k3) fun z hz=>?_;have Et:cU y x=true:=by
      have h1:cU x y=false:=by
       cases h:cU x y
       ·rfl
       ·exact absurd (sF.2 h) hc
      refine lt_of_le_ne h1 fun e=>kW ?_;rw [<-e];exact List.mem_of_getElem? hy
     obtain⟨j,hj⟩:=List.mem_iff_getElem?.1 hz;rw [List.getElem?_take]at hj;split at hj
     ·rename_i VR
      by_cases e:j=k-1
      ·subst e;rw [hy]at hj;cases hj;exact Et
      ·exact kR (uT.get (by omega) hj hy) Et
     ·cases hj
   ·rw [aS,aN.jU]
    have rP:k=0:=by omega
    refine sC w2 qO gm kx2 fun z hz=>?_;rw [rP]at hz;simp at hz
 ·simp only at gE
  have:i=n:=by omega
  subst this;rw [aS,aN.dq];have e:out=dA l:=yE uT fun x=>by rw [iY,List.take_of_length_le (by omega)]
  rw [e]at row;have:=hK B m w' row kw;rw [<-e]at this;exact this
end
theorem ki{w:World}{k l:Nat}{cs:Array Value}{t:TypeId}{fr:Nat×Nat}{R:Loop}(h:w.heap[k]? =some (.cells cs t fr))(h':w.heap[l]? =some (.loop R)):k≠l:=by
 rintro rfl;rw [h]at h';cases h'
theorem si{w:World}{k l:Nat}{cs:Array Value}{t:TypeId}{fr:Nat×Nat}{d:Option (List Deferred)}(h:w.heap[k]? =some (.cells cs t fr))(h':w.heap[l]? =some (.deferred d)):k≠l:=by
 rintro rfl;rw [h]at h';cases h'
theorem Row.apart{w w':World}{B:Nat}{e:TypeId}{size:Nat}{A:Option Addr}{n c:Nat}{xs:List Value}(h:Row w B e size A n c xs){l:Nat}(hk:Kept (· =l) w w')
 (hl:∀cs t fr,w.heap[l]? ≠some (.cells cs t fr)):Row w' B e size A n c xs:=Row.aF h hk fun k hb e=>by
 subst e;obtain⟨_,cur,hc⟩:=Row.bJ h hb;exact hl _ _ _ hc
abbrev sD(h:HT):List Value:= [.agg h.1]
section
variable{w:World}{K:Value->World->Prop}
theorem zQ(p:Addr){A:Option Addr}{n c:Nat}{l:List HT}(hn:n<=1000000):
 oA prog aG.id #[] #[.pointer (some p)] (l.map sD) (fun w=>HS w A n l/\w.cell? p=some (.slice A n c)):=by
 intro y I D w0 hI hD oN h0 oM;refine aG.of ?_;obtain⟨Bi,LS⟩:=oN 0 w0 h0;have hlen:=Bi.len;refine⟨A,n,c,LS,?_⟩;refine aG.cy (I:=fun s w'=>∃i:Nat,s=(i:Int)/\i<=n/\I i w') (μ:=fun s _=>((n:Int)-s).toNat) (s:=0) ⟨0,rfl,Nat.zero_le _,h0⟩ ?_;rintro s w' ⟨i,rfl,hi,hw⟩;refine Split.dec (fun jQ=>?_) (fun gE=>?_)
 ·have dY:i<n:=by omega
  obtain⟨x,hx⟩:∃x,l[i]? =some x:=⟨_,List.getElem?_eq_getElem (by omega)⟩;have hl:=(oN i w' hw).1;refine hl.load (i:=(i:Int)) (by omega) hx ?_;intro w10;obtain⟨tz,hb,hk⟩:=iu (w:=w') (z:=(zz 0)) (cs:=x.1) (t:=ag) (by rw [x.2.1];rfl);refine⟨⟨x.2.1,x.2.one,fun j hj=>tz j (by rw [x.2.1];exact hj)⟩,?_⟩;intro nn
  replace hb:nn.heap[w'.heap.size]? =some (.cells x.1 ag (0,0)):=hb
  replace hk:Kept Nil w' nn:=hk
  clear_value nn;refine⟨x.1,⟨x.2.1,Cells.bJ hb⟩,?_⟩;refine(oM i (sD x) nn (by rw [List.getElem?_map,hx];rfl) (hI i w' nn hw hk)).mono ?_;rintro b jl ⟨ht,hf⟩;cases b with
  |true=>
   refine Split.no rfl ?_;rw [dH (n:=(i:Int)) (by omega) (by omega)];exact⟨(i:Int)+1,rfl,⟨i+1,rfl,dY,ht rfl⟩,by simp only;omega⟩
  |false=>
   refine Split.yes rfl ?_;exact Or.inr (hf rfl)
 ·rw [aS,aG.dq]
  have e:i=n:=by omega
  subst e;refine Or.inl ?_;rw [List.length_map,hlen];exact hw
theorem xA{gf:FuncId}{gH:Array Value}{xs:List HT}{fn:Func}(Hf:prog.funcs[gf]? =some fn)(hb:fn.body.isSome){DJ:World->Prop}
 (hit:oA prog gf #[] gH (xs.map sD) DJ) (hp:∀w',Kept Nil w w'->DJ w') (LG:xs.length<=1000000)
 (hK:∀A c w',bM w' w.heap.size A xs.length c xs->Kept Nil w w'->K (.slice A xs.length c) w'):
 bz prog aM.id #[.slice none 0 0,.func (.func gf) #[] gH] w K:=by
 refine aM.of ?_;unfold aM.W;intro w3;have k3:Kept Nil w w3:=(Kept.refl Nil w).alloc _;have nC:w3.heap[w.heap.size]? =some (.cells #[.slice none 0 0] ay (0,0)):=aI w _;have CR:w.heap.size<w3.heap.size:=aV nC;clear_value w3
 let ρ0:Env:= [(2,.pointer (some (aR w.heap.size))),(4,.slice none 0 0),(6,.func (.func gf) #[] gH)]
 let J:Nat->World->Prop:=fun i w'=>∃A c,w'.heap[w.heap.size]? =some (.cells #[.slice A i c] ay (0,0))/\bM w' w.heap.size A i c (xs.take i)/\Kept Nil w w'/\i<=xs.length/\∀k,bn A=some k->k≠w.heap.size
 refine oK (ρ:=ρ0) (ρ0:=ρ0) ng mix aM.k (t:=6) (ps:= #[7]) (by kernel_rfl) (by decide) rfl Hf hb (.inl rfl) (fun i v _ h=>h) rfl sD xs (fun _=>rfl) (by simp [gM]) hit J (fun _ _=>False) ?_ (fun _ _ _ _ _ h=>h.elim) (fun i w' h=>hp w' (let ⟨_,_,_,_,h,_⟩:=h;h)) ?_ ?_ ?_ (fun _ _ h=>h.elim) (fun _ _ _ h=>h.elim)
 ·rintro i w' jl R hl ⟨A,c,h1,h2,h3,h4,h5⟩ hk
  exact⟨A,c,hk.heap h1 (ki h1 hl.loop),Row.apart h2 hk (fun cs t fr h=>by rw [hl.loop]at h;cases h),h3.trans hk (fun k hk e=>by omega),h4,h5⟩
 ·intro R
  exact⟨none,0,jk (jk nC _) _,bM.nil _ _,(k3.alloc _).alloc _,Nat.zero_le _,fun k hk=>by cases hk⟩
 ·rintro i x w' R hx ⟨A,c,h1,h2,h3,h4,h5⟩ hl
  have dY:i<xs.length:=(lgeS hx).1;have e7:kH ρ0 ((#[7]:Array Nat).toList.zip (sD x))= [(2,.pointer (some (aR w.heap.size))),(4,.slice none 0 0),(6,.func (.func gf) #[] gH),(7,.agg x.1)]:=rfl;rw [e7,aM.a1];unfold aM.A1;intro w8;obtain⟨tz,jT,kL⟩:=iu (w:=w') (z:=(zz 0)) (cs:=x.1) (t:=ag) (by rw [x.2.1];rfl);refine⟨⟨x.2.1,x.2.one,fun j hj=>tz j (by rw [x.2.1];exact hj)⟩,?_⟩;intro qU
  replace jT:qU.heap[w'.heap.size]? =some (.cells x.1 ag (0,0)):=jT
  replace kL:Kept Nil w' qU:=kL
  clear_value qU;have L8:=hl.aF kL (fun h=>h) (fun h=>h);refine⟨L8,fun w2 R2 mw qO=>?_⟩;have acH:=mw.heap jT (ki jT L8.loop);have h1b:=kL.heap h1 (fun h=>h);have EK:=mw.heap h1b (ki h1b L8.loop);have zE:bM w2 w.heap.size A i c (xs.take i):=Row.apart (Row.aF h2 kL (fun _ _ h=>h)) mw (fun cs t fr h=>by rw [L8.loop]at h;cases h);have Hh:Kept Nil w w2:=(h3.tt kL).trans mw (fun k hk e=>by omega);have cU:w.heap.size<w2.heap.size:=aV EK;rw [aM.y1];unfold aM.Y1;refine⟨A,i,c,by rw [aD EK];rfl,x.1,⟨x.2.1,Cells.bJ acH⟩,x.2.1,?_⟩;intro jO;have nM:Kept Nil w2 jO:=(Kept.refl _ _).alloc _;have jq:HS jO (some ⟨w2.heap.size,0,none⟩) 1 [x]:=by
   refine HS.one (t:=ag) (fr:=(0,0)) ?_;have e3:jO=w2.alloc (.cells x.1 ag):=by
    show w2.alloc (.cells (x.1.toList++ []).toArray ag)=_
    simp
   rw [e3];exact aI w2 _
  clear_value jO;have Mu:bM jO w.heap.size A i c (xs.take i):=Row.aF zE nM (fun _ _ h=>h);have adG:=nM.heap EK (fun h=>h);have ai2:=nM.size;obtain⟨A',c',sN,hr,lj,hg,xo⟩:=cK (cx:=1) ay Mu jq (by omega) (by omega);have QL:Kept (fun k=>bn A=some k) jO sN:=Kept.grown (Kept.refl _ _) hg (fun k hk _=>hk);have Mv:=QL.heap adG (fun h=>h5 _ h rfl);have Qy:Live (w3.heap.size+1) w3.heap.size R2 sN:=by
   have Qz:=qO.aF nM (fun h=>h) (fun h=>h);refine Qz.aF QL ?_ ?_
   ·intro h
    obtain⟨_,cur,hc⟩:=Row.bJ Mu h;exact ki hc Qz.loop rfl
   ·intro h
    obtain⟨_,cur,hc⟩:=Row.bJ Mu h;exact si hc Qz.mark rfl
  have Ge:Kept Nil w sN:=(Hh.tt nM).trans QL (fun k hk e=>by
   obtain⟨h,_⟩:=Row.bJ Mu e;omega)
  refine⟨A',_,c',sN,hr,dS Mv (by simp),?_⟩;intro pw;have yc:Kept (· =w.heap.size) sN pw:=Kept.setCell (S:=fun k=>k=w.heap.size) (Kept.refl _ sN) (p:=⟨w.heap.size,0,none⟩) (fun _=>rfl) _;have acW:pw.heap[w.heap.size]? =some (.cells #[.slice A' (i+1) c'] ay (0,0)):=di Mv 0 _;clear_value pw;have EI:∀k,bn A'=some k->k≠w.heap.size:=fun k hk=>by
   rcases xo k hk with h|h
   ·exact h5 k h
   ·omega
  refine⟨Qy.aF yc (ki Mv Qy.loop).symm (si Mv Qy.mark).symm,A',c',acW,?_,Ge.trans yc (fun k hk e=>by omega),dY,EI⟩;rw [List.take_add_one,hx];exact Row.aF lj yc EI
 ·rintro w' R ⟨A,c,h1,h2,h3,h4,h5⟩ hl
  have e7:fN ρ0 w3.heap.size= [(2,.pointer (some (aR w.heap.size))),(4,.slice none 0 0),(6,.func (.func gf) #[] gH),(4294967296,.agg #[.pointer (some ⟨w3.heap.size,0,none⟩)])]:=rfl;rw [e7,aM.iF];refine⟨A,xs.length,c,by rw [aD h1];rfl,⟨hl.mark,trivial⟩,?_⟩;have kp:Kept (· =w3.heap.size) w' (w'.putObj w3.heap.size (.deferred none)):=Kept.putAt _ _ _;refine hK A c _ ?_ (h3.trans kp (fun k hk e=>by omega));have:=Row.apart h2 kp (fun cs t fr h=>by rw [hl.mark]at h;cases h)
  rwa [List.take_of_length_le (Nat.le_refl _)]at this
theorem wD{gf:FuncId}{gH:Array Value}{xs:List HT}{fn:Func}(Hf:prog.funcs[gf]? =some fn)(hb:fn.body.isSome){DJ:World->Prop}
 (hit:oA prog gf #[] gH (xs.map sD) DJ) (hp:∀w',Kept Nil w w'->DJ w') (LG:xs.length<=1000000)
 (hK:∀A c w',bM w' w.heap.size A xs.length c xs->Kept Nil w w'->K (.slice A xs.length c) w'):
 bz prog dc.id #[.func (.func gf) #[] gH] w K:=by
 refine dc.of (xA Hf hb hit hp LG fun A c w' h1 h2=>⟨_,_,_,rfl,hK A c w' h1 h2⟩)
end
open Go.Sort
instance:Inhabited HT:=⟨⟨Array.replicate 32 (.int .u8 0),by simp,fun v hv=>⟨0,by simpa using hv,by omega,by omega⟩⟩⟩
abbrev nQ(h:HT):List Value:=h.1.toList
theorem Bz(h:HT):(nQ h).length=32:=by have:=h.2.1;simpa using this
theorem wv(d:Array HT):(flatK nQ 32 d).toList=df d.toList:=by
 apply List.ext_getElem?;intro t;by_cases ht:t<d.size*32
 ·have hi:t/32<d.size:=by omega
  have hx:d.toList[t/32]? =some d[t/32]:=by rw [Array.getElem?_toList,Array.getElem?_eq_getElem hi]
  have hs:t%32<d[t/32].1.size:=by rw [d[t/32].2.1];omega
  have h1:=lJ hx (Array.getElem?_eq_getElem hs);rw [show t/32*32+t%32=t by omega]at h1;rw [h1];have h2:t<(flatK nQ 32 d).size:=by rw [size_flatK];exact ht
  have h3:=get_flatK nQ 32 d t ht;rw [getElem!_pos _ t h2]at h3;rw [Array.getElem?_toList,Array.getElem?_eq_getElem h2,h3,getElem!_pos d _ hi];rw [getElem!_pos _ _ (by rw [Bz];omega)];simp [nQ]
 ·rw [List.getElem?_eq_none (by simp;omega),List.getElem?_eq_none (by rw [fc];simp;omega)]
theorem HW{F cur:Array Value}{k:Nat}(hk:F.size=k)(h:k<=cur.size):(putCells id 0 F cur).toList.take k=F.toList:=by
 apply List.ext_getElem?;intro i;rw [List.getElem?_take];split
 ·rename_i hi
  have h1:i<cur.size:=by omega
  have h2:i<F.size:=by omega
  rw [Array.getElem?_toList,Array.getElem?_toList,putCells,Array.getElem?_mapIdx,Array.getElem?_eq_getElem h1,Array.getElem?_eq_getElem h2];simp [h2]
 ·rw [List.getElem?_eq_none (by simp;omega)]
theorem wZ{w:World}{b:Nat}{f:Array Value->Array Value}{cur:Array Value}{t:TypeId}{fr:Nat×Nat}(h:w.heap[b]? =some (.cells cur t fr)):(mapBlock w b f).heap[b]? =some (.cells (f cur) t fr):=by
 simp [mapBlock,Array.getElem?_modify,h,onCells]
theorem wY(w:World)(b:Nat)(f:Array Value->Array Value):Kept (· =b) w (mapBlock w b f):=
 ⟨rfl,rfl,rfl,by simp [mapBlock],fun k _ hn=>by simp [mapBlock,Array.getElem?_modify,Ne.symm hn]⟩
theorem Gz(w:World)(os:Array Obj):Kept Nil w (grow w os):=
 ⟨rfl,rfl,rfl,by simp,fun k hk _=>heap_grow_old w os hk⟩
theorem DD(w:World)(m:Nat):Kept Nil w (Sort.ahead w m):=⟨rfl,rfl,rfl,Nat.le_refl _,fun _ _ _=>rfl⟩
section
variable{w:World}{B n c b:Nat}{l:List HT}
theorem wU(row:bM w B (some ⟨b,0,none⟩) n c l)(m:Nat)(dk:Array HT)(os:Array Obj)(hd:dk.size=n):
 bM (sortWorldK nQ 32 w b 0 m dk os) B (some ⟨b,0,none⟩) n c dk.toList/\Kept (· =b) w (sortWorldK nQ 32 w b 0 m dk os):=by
 have hka:=DD w m;have k1:=wY (Sort.ahead w m) b (putCells id 0 (flatK nQ 32 dk));have kk:=((hka.mono (S':=fun k=>k=b) (fun _ _ h=>h.elim)).tt k1).trans (Gz _ os) (fun _ _ h=>h.elim);refine⟨?_,?_⟩
 ·rcases Row.own row with⟨h,_⟩|⟨b',cur,hA,hB,hg,Gq,nO,nv,yV⟩
  ·cases h
  ·cases hA
   refine⟨by rw [fc,Array.length_toList,hd],.inr ⟨b,c,putCells id 0 (flatK nQ 32 dk) cur,rfl,hB,?_,Gq,nO,by simp [putCells,nv],?_⟩⟩
   ·have h1:(mapBlock (Sort.ahead w m) b (putCells id 0 (flatK nQ 32 dk))).heap[b]? =some (.cells (putCells id 0 (flatK nQ 32 dk) cur) ag (0,0)):=wZ hg
    exact(heap_grow_old _ os (aV h1)).trans h1
   ·rw [<-wv]
    refine HW (by rw [size_flatK,hd]) ?_;rw [nv];exact Nat.mul_le_mul_right _ Gq
 ·exact kk
theorem C1(row:bM w B (some ⟨b,0,none⟩) n c l):HoldsK nQ 32 w b 0 l.toArray:=by
 intro j hj;rw [size_flatK]at hj;have wc:j<l.length*32:=by simpa using hj
 rw [Nat.zero_add];have hlen:=Row.len row;have hx:(flatK nQ 32 l.toArray).toList[j]? =(df l)[j]? :=by rw [wv]
 have hjs:j<(flatK nQ 32 l.toArray).size:=by rw [size_flatK];exact hj
 rw [Array.getElem?_toList,Array.getElem?_eq_getElem hjs]at hx;have hc:=Row.cell row hx.symm;refine⟨?_,?_⟩
 ·rw [hc,getElem!_pos _ j hjs];rfl
 ·exact(Row.wr row (j:=j) (by rw [fc];exact wc)).2
theorem p8(x y:HT):ltOf lT x y=cU x y:=by
 unfold ltOf;cases h:cU x y
 ·exact decide_eq_false fun h'=>by rw [sF.1 h']at h;cases h
 ·exact decide_eq_true (sF.2 h)
theorem le_trans'{x y z:HT}(h:cU y x=false)(h':cU z y=false):cU z x=false:=by
 cases Um:cU z x
 ·rfl
 ·exfalso
  by_cases e:y=z
  ·subst e;rw [h]at Um;cases Um
  ·have RX:=lt_of_le_ne h' e
   have:=kR RX Um;rw [h]at this;cases this
theorem Zv:SWO (ltOf lT) where
 irrefl x:=by rw [p8];exact iz x
 trans x y z h h':=by rw [p8]at*;exact kR h h'
 ntrans x y z h h':=by
  rw [p8]at*;exact le_trans' h' h
theorem KX{A:Option Addr}{K:Value->World->Prop}(row:bM w B A n c l)(hn:n<=1000000)
 (hK:∀l' w',LE l'->(∀x,x∈l'↔x∈l)->bM w' B A n c l'->Kept (fun k=>bn A=some k) w w'->K (.tuple #[]) w'):
 bz prog ji.id #[.slice A n c,.func (.func dK.id) #[] #[]] w K:=by
 have hlen:=row.len;by_cases h0:n=0
 ·subst h0
  have h:=AnyF.slices_SortFunc_none Tryz.xK A c (.func (.func dK.id) #[] #[]) w;refine Calls.mono h ?_;rintro e w' ⟨rfl,rfl⟩;have:l= []:=List.eq_nil_of_length_eq_zero hlen;subst this;exact⟨_,rfl,hK [] _ List.Pairwise.nil (fun _=>Iff.rfl) row (Kept.refl _ _)⟩
 ·obtain⟨b,rfl⟩:=Row.some row (by omega)
  have hblk:b<w.heap.size:=by
   obtain⟨_,cur,hc⟩:=Row.bJ row (k:=b) rfl;exact aV hc
  have mu:l.toArray.size=n:=by simpa using hlen
  have eg:∀args w,(callFunc dK.id args).run prog w=.ok (.enter dK.id args) w:=enters_of dK.at_ (by kernel_rfl) rfl;have hk:oL prog ag=.agg 32:=by kernel_rfl
  obtain⟨e32,ha⟩:=sy hk;obtain⟨i,hi⟩:=Go.bV.info_of_underlying (P:=prog) (t:=ag) (by kernel_rfl);have acx:CmpLays prog dK.id #[] nQ 32 lT b 0 l.toArray.size w:=fun m os dk _ x y=>by
   have e:(#[.agg (nQ x).toArray,.agg (nQ y).toArray]++ #[]:Array Value)= #[.agg x.1,.agg y.1]:=by simp [nQ]
   rw [e];have h:=qh (w:=sortWorldK nQ 32 w b 0 m dk os) x y (K:=fun v w'=>v=.int .i64 (lT x y)/\w'=(((sortWorldK nQ 32 w b 0 m dk os).alloc (.cells x.1 ag)).alloc (.cells y.1 ag)).drew) ⟨rfl,rfl⟩;refine Calls.mono h ?_;rintro e w' ⟨v,rfl,rfl,rfl⟩;refine⟨rfl,1,#[.cells x.1 ag,.cells y.1 ag],?_⟩;rw [alloc_eq_grow,alloc_eq_grow,grow_grow,drew_grow];rfl
  have h:=AnyQ.slices_SortFunc_total Tryz.xK 32 ha (fun w=>by rw [e32];exact Go.bV.run_sizeOf hi w) nQ Bz (fun x=>x.2.one) lT Zv dK.id #[] b 0 c l.toArray w eg acx (C1 row) hblk (by omega)
   (fun x y h1 h2=>by rw [p8]at h1 h2;exact qF h1 h2)
  rw [mu]at h;refine Calls.mono h ?_;rintro e w' ⟨rfl,m,os,rfl⟩;have hp:=List.mergeSort_perm l.toArray.toList (fun x y=> !(ltOf lT) y x);have L5:(l.toArray.toList.mergeSort fun x y=> !(ltOf lT) y x).toArray.size=n:=by
   have:=hp.length_eq;simp only [List.size_toArray];rw [this];simpa using hlen
  obtain⟨h1,h2⟩:=wU row m _ os L5;refine⟨_,rfl,hK _ _ ?_ (fun x=>?_) h1 (h2.mono fun k _ e=>by rw [e];rfl)⟩
  ·have hs:=List.pairwise_mergeSort (le:=fun x y=> !(ltOf lT) y x) (fun a b c h h'=>by
    rw [p8]at*;simp only [Bool.not_eq_true']at*;exact le_trans' h h') (fun a b=>by
    rw [p8,p8];cases lE:cU b a
    ·rfl
    ·rw [tC lE];rfl) l.toArray.toList
   refine List.Pairwise.imp ?_ hs;intro a b lE;rw [p8]at lE;simpa using lE
  ·simp
end
end Go.Proofs.YtfleamccglihoaaGreatDoor
namespace Go.Proofs.YtfleamccglihoaaGreatDoor
open Go.Proofs.Tryz
open Go Go.bV Go.RowKit
theorem Da{l:List HT}{k:Nat}(hk:k<l.length)(x:HT):df (l.set k x)=ig (df l) (k*32) x.1.toList:=by
 have h1:l=l.take k++l[k]::l.drop (k+1):=by rw [<-List.drop_eq_getElem_cons hk,List.take_append_drop]
 have e1:(df (l.take k)).length=k*32:=by rw [fc,List.length_take];omega
 have hx:=x.2.1;have hl:=l[k].2.1;have hs:l.set k x=l.take k++x::l.drop (k+1):=List.set_eq_take_append_cons_drop .. |>.trans (if_pos hk)
 rw [hs]
 conv=>rhs;rw [h1]
 rw [mR,mR,lR,lR];generalize df (l.take k)=p at e1;generalize df (l.drop (k+1))=r;have eq:l[k].1.toList.length=32:=by simpa using hl
 have ev:x.1.toList.length=32:=by simpa using hx
 generalize l[k].1.toList=q at eq;generalize x.1.toList=v at ev;unfold ig;rw [List.take_left' e1,ev,show p++(q++r)=(p++q)++r by simp,List.drop_left' (by rw [List.length_append,e1,eq])];simp
theorem bM.setAt{w:World}{B n c b:Nat}{l:List HT}(row:bM w B (some ⟨b,0,none⟩) n c l){k:Nat}(hk:k<n)(x:HT):
 bM (setCells w ⟨b,k*32,none⟩ x.1.toList 0) B (some ⟨b,0,none⟩) n c (l.set k x):=by
 have hlen:=row.len;have hx:=x.2.1;have:=rW x.1.toList (df l) w (k*32) 0 row (by rw [fc];simp;omega);rw [Nat.add_zero]at this;rw [<-Da (by omega)]at this;exact this
theorem bM.Hq{w:World}{B n c b:Nat}{l:List HT}(row:bM w B (some ⟨b,0,none⟩) n c l){k:Nat}(hk:k<n)(j:Nat)(hj:j<32):Wr w ((⟨b,k*32,none⟩:Addr).add j):=by
 rw [bt];refine Row.wr row ?_;rw [fc,row.len];omega
theorem bM.cap{w:World}{B:Nat}{A:Option Addr}{n c:Nat}{l:List HT}(row:bM w B A n c l):n<=c:=by
 rcases Row.own row with⟨_,h1,h2,_⟩|⟨_,_,_,_,_,h1,_⟩<;>omega
theorem bM.cut{w w':World}{B n c b:Nat}{l:List HT}(row:bM w B (some ⟨b,0,none⟩) n c l){k:Nat}(hk:k<=n)(vs:List Value)(hv:vs.length=(n-k)*32)(hw:w'=setCells w ⟨b,k*32,none⟩ vs 0):
 bM w' B (some ⟨b,0,none⟩) k c (l.take k):=by
 subst hw;have hlen:=row.len;rcases Row.own row with⟨h,_⟩|⟨b',cur,hA,hB,hg,Gq,nO,nv,yV⟩
 ·cases h
 ·cases hA
  have hle:n*32<=c*32:=Nat.mul_le_mul_right _ Gq;have mu:k*32+0+vs.length<=cur.size:=by omega
  have h1:=lh vs cur w ag (k*32) 0 hg mu;refine⟨by rw [fc,List.length_take];omega,.inr ⟨b,c,_,rfl,hB,h1,by omega,nO,?_,?_⟩⟩
  ·have:=mH (xs:=cur.toList) (k:=k*32+0) (vs:=vs) (by simpa using mu)
   rw [List.size_toArray,this];simpa using nv
  ·have e1:(df (l.take k)).length=k*32:=by rw [fc,List.length_take];omega
   have e2:(df l).take (k*32)=df (l.take k):=by
    conv=>lhs;rw [<-List.take_append_drop k l,mR]
    rw [<-e1,List.take_left'];rfl
   rw [<-e2,<-yV,List.take_take,Nat.min_eq_left (by omega)];unfold ig;simp only [Nat.add_zero];rw [List.append_assoc,List.take_append_of_le_length (by simp;omega),List.take_take,Nat.min_self]
def DP(P:Program)(e:TypeId):Bool:=
 match P.info? e with
 |some i=>match i.zero with
  |some z=>z.cells.toList.all fun v=>v.oneCell'
  |none=>false
 |none=>false
theorem vq{w:World}{B n c b:Nat}{l:List HT}(row:bM w B (some ⟨b,0,none⟩) n c l){k:Nat}(hk:k<=n)(ty:Nat){A:Option Addr}{cx:Nat}(hA:k<n->A=some ⟨b,k*32,none⟩):
 ∃w',(Builtin.clear_ #[ay] ty #[.slice A (n-k) cx]).run prog w=.ok (.tuple #[]) w'/\bM w' B (some ⟨b,0,none⟩) k c (l.take k)/\Kept (· =b) w w':=by
 have hlen:=row.len;by_cases xm:k<n
 ·obtain⟨i,z,hi,hz,hs,_,Es⟩:=pH.inf
  have LU:DP prog ag=true:=by kernel_rfl
  unfold DP at LU;rw [hi]at LU;simp only [hz,List.all_eq_true]at LU;rw [hA xm];obtain⟨m,hm⟩:∃m,n-k=m+1:=⟨n-k-1,by omega⟩;have Yl:(Builtin.zeroCells z.cells (n-k)).toList.length=(n-k)*32:=by simp [Builtin.zeroCells,Es]
  have qN:=iS (P:=prog) ⟨b,k*32,none⟩ (Builtin.zeroCells z.cells (n-k)).toList 0 w (fun v hv=>by
   simp only [Builtin.zeroCells,Array.toList_map,List.mem_map]at hv;obtain⟨t,ht,rfl⟩:=hv;have:t%z.cells.size<z.cells.size:=Nat.mod_lt _ (by omega);rw [getElem!_pos z.cells _ this];exact LU _ (by simp)) (fun j hj=>by
   rw [Nat.zero_add,bt];refine Row.wr row ?_;rw [fc];omega)
  refine⟨_,?_,row.cut hk _ Yl rfl,fu _ _ _ _⟩;simp only [Builtin.clear_,hm];rw [hm]at qN;simp [run_underlying pH.pB,zeroValue,typeInfo,hi,hz,qN]
 ·have:n=k:=by omega
  subst this;refine⟨w,?_,by rw [List.take_of_length_le (by omega)];exact row,Kept.refl _ _⟩;rw [Nat.sub_self];cases A<;>simp [Builtin.clear_,run_underlying pH.pB]
theorem Fj:∀ {l:List HT},l.length<2->dA l=l
 | [],_=>rfl
 | [_],_=>rfl
 |_::_::_,h=>by simp only [List.length_cons]at h;omega
section
variable{w:World}{B n c:Nat}{A:Option Addr}{l:List HT}{K:Value->World->Prop}
theorem Dr(row:bM w B A n c l)(hle:LE l)(hn:n<=400000)
 (hK:∀A' c' w',bM w' B A' (dA l).length c' (dA l)->(∀k,bn A'=some k->bn A=some k)->Kept (fun k=>bn A=some k) w w'->K (.slice A' (dA l).length c') w'):
 bz prog ai.id #[.slice A n c] w K:=by
 have hlen:=row.len;refine ai.of ?_;refine Split.dec (fun h2=>?_) (fun h2=>?_)
 ·have e:dA l=l:=Fj (by omega)
  have:=hK A c w (by rw [e,hlen];exact row) (fun k h=>h) (Kept.refl _ _);rw [e,hlen]at this;exact this
 obtain⟨b,rfl⟩:=Row.some row (by omega);have Dc:=row.cap;refine ai.cy (I:=fun s w'=>∃k:Nat,s=(none,0,0,(k:Int))/\1<=k/\k<=n/\SS (l.take k)/\Kept Nil w w') (μ:=fun s _=>((n:Int)-s.2.2.2).toNat) (s:=(none,0,0,1))
  ⟨1,rfl,Nat.le_refl _,by omega,?_,Kept.refl _ _⟩ ?_
 ·cases l with
  |nil=>exact List.Pairwise.nil
  |cons x l=>simp [SS]
 rintro s w' ⟨k,rfl,KA,xm,uT,kw⟩;refine Split.dec (fun jQ=>?_) (fun gE=>?_)
 ·simp only at jQ
  have B8:k<n:=by omega
  obtain⟨x,hx⟩:∃x,l[k]? =some x:=⟨_,List.getElem?_eq_getElem (by omega)⟩;obtain⟨y,hy⟩:∃y,l[k-1]? =some y:=⟨_,List.getElem?_eq_getElem (by omega)⟩;intro w5;have k5:Kept Nil w w5:=kw.drew;clear_value w5;have jI:bM w5 B (some ⟨b,0,none⟩) n c l:=Row.aF row k5 (fun _ _ h=>h);simp only;rw [wrapM (n:=(k:Int)) (by omega) (by omega)];have o9:cU x y=false:=hle.get (by omega) hy hx;refine jI.hs.load (i:=(k:Int)) (by omega) hx (jI.hs.load (i:=(k:Int)-1) (by omega) (by rw [show((k:Int)-1).toNat=k-1 by omega];exact hy) ⟨⟨x.2.ints,y.2.ints⟩,?_⟩);rw [dC];refine Split.dec (fun he=>?_) (fun he=>?_)
  ·refine⟨⟨by omega,by omega⟩,?_⟩
   rw [Int.toNat_natCast];rw [if_neg (show ¬c=k by omega)];simp only [Option.map_some,bt,Nat.zero_add];refine ai.gS (I:=fun s w'=>∃(p j:Nat) (l':List HT),s=((p:Int),(j:Int))/\1<=j/\k<=p/\p<k+j/\k+j<=n/\bM w' B (some ⟨b,0,none⟩) n c l'/\l'.drop (k+j-1)=l.drop (k+j-1)/\SS (l'.take p)/\(∀z,z∈l'.take p↔z∈l.take (k+j))/\Kept (· =b) w w')
    (μ:=fun s _=>((n:Int)-s.2).toNat) (s:=((k:Int),1)) ⟨k,1,l,rfl,Nat.le_refl _,Nat.le_refl _,by omega,by omega,jI,rfl,uT,fun z=>?_,k5.mono fun _ _ h=>h.elim⟩ ?_
   ·rw [bN hx]
    constructor
    ·exact .inl
    ·rintro(h|rfl)
     ·exact h
     ·rw [he]
      have:=bN (z:=y) hy;rw [show k-1+1=k by omega]at this;exact this.2 (.inr rfl)
   rintro s w1 ⟨p,j,l',rfl,hj1,VL,hpj,hjn,lM,Wl,yY,NR,k1⟩;have VG:=lM.len;refine Split.dec (fun QE=>?_) (fun QN=>?_)
   ·simp only at QE
    have tF:k+j<n:=by omega
    obtain⟨u,hu⟩:∃u,l[k+j]? =some u:=⟨_,List.getElem?_eq_getElem (by omega)⟩;obtain⟨v,hv⟩:∃v,l[k+j-1]? =some v:=⟨_,List.getElem?_eq_getElem (by omega)⟩;have IQ:l'[k+j]? =some u:=by
     have h:=congrArg (fun m:List HT=>m[1]?) Wl;simp only [List.getElem?_drop]at h;rw [show k+j-1+1=k+j by omega]at h;rw [h,hu]
    have hv':l'[k+j-1]? =some v:=by
     have h:=congrArg (fun m:List HT=>m[0]?) Wl;simp only [List.getElem?_drop,Nat.add_zero]at h;rw [h,hv]
    intro sN;have Ge:Kept (· =b) w sN:=k1.drew;have lj:bM sN B (some ⟨b,0,none⟩) n c l':=Row.aF lM ((Kept.refl Nil w1).drew) (fun _ _ h=>h);clear_value sN;have vX:HS sN (some ⟨b,k*32,none⟩) (n-k) (l'.drop k):=by
     have h:=lj.hs.drop (c:=c) Dc (k:=k) (by omega);rw [if_neg (show ¬c=k by omega)]at h;simpa [bt]using h
    have hsu:(l'.drop k)[(j:Int).toNat]? =some u:=by rw [Int.toNat_natCast,List.getElem?_drop];exact IQ
    have Qd:(l'.drop k)[((j:Int)-1).toNat]? =some v:=by
     rw [show((j:Int)-1).toNat=j-1 by omega,List.getElem?_drop,show k+(j-1)=k+j-1 by omega];exact hv'
    simp-zeta only;rw [wrapM (n:=(j:Int)) (by omega) (by omega)];have huv:cU u v=false:=hle.get (by omega) hv hu;refine vX.load (i:=(j:Int)) (by omega) hsu (vX.load (i:=(j:Int)-1) (by omega) Qd ⟨⟨u.2.ints,v.2.ints⟩,?_⟩);rw [dC,dH (n:=(j:Int)) (by omega) (by omega)];have hmu:∀z,z∈l.take (k+(j+1))↔z∈l'.take p\/z=u:=fun z=>by
     rw [show k+(j+1)=k+j+1 by omega,bN hu,NR z]
    by_cases heq:u=v
    ·refine Split.no (by rw [decide_eq_true heq];rfl) ?_
     refine⟨((p:Int),(j:Int)+1),rfl,⟨p,j+1,l',rfl,by omega,VL,by omega,by omega,lj,?_,yY,fun z=>?_,Ge⟩,by simp only;omega⟩
     ·have h:=congrArg (fun m:List HT=>m.drop 1) Wl
      simp only [List.drop_drop]at h;rw [show k+(j+1)-1=k+j-1+1 by omega];exact h
     ·rw [hmu z]
      constructor
      ·exact .inl
      ·rintro(h|rfl)
       ·exact h
       ·refine(NR _).2 ?_
        rw [heq];exact List.mem_of_getElem? (i:=k+j-1) (by rw [List.getElem?_take,if_pos (by omega)];exact hv)
    ·refine Split.yes (by rw [decide_eq_false heq];rfl) ?_
     refine vX.load (i:=(j:Int)) (by omega) hsu ⟨⟨by omega,by omega⟩,⟨u.2.1,u.2.one,fun i hi=>?_⟩,?_⟩
     ·rw [Int.toNat_natCast,bt,Nat.zero_add]
      exact lj.Hq (by omega) i hi
     intro G9;have Ut:G9=setCells sN ⟨b,p*32,none⟩ u.1.toList 0:=by
      show setCells sN ((⟨b,0,none⟩:Addr).add ((p:Int).toNat*32)) u.1.toList 0=_
      rw [Int.toNat_natCast,bt,Nat.zero_add]
     have Td:bM G9 B (some ⟨b,0,none⟩) n c (l'.set p u):=by rw [Ut];exact lj.setAt (by omega) u
     have Iw:Kept (· =b) w G9:=by rw [Ut];exact Ge.tt (fu _ _ _ _)
     clear_value G9;rw [dH (n:=(p:Int)) (by omega) (by omega)];have yV:(l'.set p u).take (p+1)=l'.take p++ [u]:=by
      rw [List.take_add_one,List.take_set_of_le (Nat.le_refl p),List.getElem?_set_self (by omega)];rfl
     refine⟨((p:Int)+1,(j:Int)+1),rfl,⟨p+1,j+1,l'.set p u,rfl,by omega,by omega,by omega,by omega,Td,?_,?_,fun z=>?_,Iw⟩,by simp only;omega⟩
     ·have h:=congrArg (fun m:List HT=>m.drop 1) Wl
      simp only [List.drop_drop]at h;rw [List.drop_set,if_pos (by omega),show k+(j+1)-1=k+j-1+1 by omega];exact h
     ·rw [yV]
      refine EU yY fun z hz=>?_;obtain⟨i,hi⟩:=List.mem_iff_getElem?.1 ((NR z).1 hz);rw [List.getElem?_take]at hi;split at hi
      ·rename_i hik
       have hvu:cU v u=true:=lt_of_le_ne huv (fun e=>heq e.symm);by_cases e:i=k+j-1
       ·subst e;rw [hv]at hi;cases hi;exact hvu
       ·exact uf (hle.get (by omega) hi hv) hvu
      ·cases hi
     ·rw [yV,hmu z]
      simp
   ·simp only at QN
    have hj:k+j=n:=by omega
    rw [aS,ai.jU];unfold ai.iI;refine⟨⟨by omega,by omega⟩,?_⟩;rw [Int.toNat_natCast];obtain⟨w2,hr,gm,k2⟩:=vq lM (k:=p) (by omega) 0 (A:=if c=p then some ⟨b,0,none⟩else(some ⟨b,0,none⟩:Option Addr).map (·.add (p*32))) (cx:=c-p) (fun hp=>by
     rw [if_neg (by omega)];simp [bt])
    refine⟨_,w2,hr,⟨by omega,by omega⟩,?_⟩;have e:l'.take p=dA l:=yE yY fun z=>by rw [NR z,hj,List.take_of_length_le (by omega)]
    have el:p=(dA l).length:=by
     have h:=gm.len;rw [e]at h;exact h.symm
    have e0:(if c=0 then(some ⟨b,0,none⟩:Option Addr)else(some ⟨b,0,none⟩:Option Addr).map (·.add (0*32)))=some ⟨b,0,none⟩:=by
     rw [if_neg (by omega)];simp [add_zero]
    rw [e0,Nat.sub_zero,Nat.sub_zero];rw [e,el]at gm;have:=hK (some ⟨b,0,none⟩) c w2 gm (fun k h=>h) ((k1.tt k2).mono fun i _ h=>by rw [h];rfl);rw [<-el]at this;exact this
  ·rw [dH (n:=(k:Int)) (by omega) (by omega)]
   refine⟨(none,0,0,(k:Int)+1),rfl,⟨k+1,rfl,by omega,by omega,?_,k5⟩,by simp only;omega⟩;rw [List.take_add_one,hx];refine EU uT fun z hz=>?_;have Et:cU y x=true:=lt_of_le_ne o9 (fun e=>he e.symm);obtain⟨i,hi⟩:=List.mem_iff_getElem?.1 hz;rw [List.getElem?_take]at hi;split at hi
   ·by_cases e:i=k-1
    ·subst e;rw [hy]at hi;cases hi;exact Et
    ·exact uf (hle.get (by omega) hi hy) Et
   ·cases hi
 ·simp only at gE
  have e:k=n:=by omega
  subst e;rw [aS,ai.dq];rw [List.take_of_length_le (by omega)]at uT;have e:dA l=l:=zW uT;have:=hK (some ⟨b,0,none⟩) c w' (by rw [e,hlen];exact Row.aF row kw (fun _ _ h=>h)) (fun k h=>h) (kw.mono fun _ _ h=>h.elim);rw [e,hlen]at this;exact this
theorem jg(hl:HS w A n l)(hn:n<=400000)
 (hK:∀A' c' w',bM w' w.heap.size A' (dA l).length c' (dA l)->Kept Nil w w'->K (.slice A' (dA l).length c') w'):
 bz prog jA.id #[.slice A n c] w K:=by
 have hlen:=hl.len;refine jA.of ?_;refine dE.of ?_;unfold dE.W;intro w2;have k2:Kept Nil w w2:=(Kept.refl _ _).alloc _;have kX:w2.heap[w.heap.size]? =some (.cells #[.slice A n c] ay (0,0)):=aI w _;clear_value w2;refine⟨_,rfl,?_⟩;refine dB.of ?_;refine wD (xs:=l) aG.at_ (by rfl) (zQ (l:=l) ⟨w.heap.size,0,none⟩ (A:=A) (n:=n) (c:=c) (by omega)) (fun w' hk=>⟨(hl.same k2).same hk,by rw [aD (hk.heap kX (fun h=>h))];rfl⟩) (by omega) ?_;intro A4 c4 w4 iU k4;refine⟨A4,_,c4,rfl,?_⟩;refine KX iU (by omega) fun l5 w5 hle iY jI k5=>⟨rfl,?_⟩;refine⟨A4,_,c4,rfl,?_⟩;refine Dr jI hle (by omega) fun A6 c6 w6 Cr qR k6=>⟨A6,_,c6,rfl,?_⟩;have e:dA l5=dA l:=yF iY;rw [e]at Cr⊢;have Rm:∀k,bn A4=some k->w.heap.size<=k:=fun k hk=>Nat.le_trans k2.size (Row.bJ iU hk).1;refine hK A6 c6 w6 (Row.base Cr fun k hk=>Rm k (qR k hk)) ?_;exact((k2.tt k4).trans k5 (fun k hk h=>absurd (Rm k h) (by omega))).trans k6 (fun k hk h=>absurd (Rm k h) (by omega))
end
theorem kc{x:Nat}(h:x<18446744073709551616):u64.wrap (x:Int)=(x:Int):=by
 simp only [IntKind.wrap,IntKind.bits,IntKind.signed];simp;omega
theorem orU{x y:Nat}(hx:x<18446744073709551616)(hy:y<18446744073709551616):
 u64.wrap ((BitVec.ofInt 64 (x:Int)|||BitVec.ofInt 64 (y:Int)).toNat:Int)=((x|||y:Nat):Int):=by
 have h:(BitVec.ofInt 64 (x:Int)|||BitVec.ofInt 64 (y:Int)).toNat=x|||y:=by
  rw [BitVec.ofInt_natCast,BitVec.ofInt_natCast,BitVec.toNat_or,BitVec.toNat_ofNat,BitVec.toNat_ofNat,Nat.mod_eq_of_lt (by omega),Nat.mod_eq_of_lt (by omega)]
 rw [h];exact kc (Nat.or_lt_two_pow (n:=64) hx hy)
theorem adV{x y:Nat}(hx:x<18446744073709551616)(hy:y<18446744073709551616):
 u64.wrap ((BitVec.ofInt 64 (x:Int)&&& BitVec.ofInt 64 (y:Int)).toNat:Int)=((x&&& y:Nat):Int):=by
 have h:(BitVec.ofInt 64 (x:Int)&&& BitVec.ofInt 64 (y:Int)).toNat=x&&& y:=by
  rw [BitVec.ofInt_natCast,BitVec.ofInt_natCast,BitVec.toNat_and,BitVec.toNat_ofNat,BitVec.toNat_ofNat,Nat.mod_eq_of_lt (by omega),Nat.mod_eq_of_lt (by omega)]
 rw [h];exact kc (Nat.lt_of_le_of_lt Nat.and_le_left hx)
theorem ZK{i:Nat}(hi:i<64):u64.wrap ((1:Int)*2 ^ (min i 64))=((2 ^ i:Nat):Int):=by
 rw [Nat.min_eq_left (by omega),Int.one_mul];have h:2 ^ i<18446744073709551616:=Nat.pow_lt_pow_right (by omega) (n:=64) hi;have:=kc h;rw [<-this];simp
def bit(ws:List Nat)(i:Nat):Bool:=(ws.getD (i/64) 0).testBit (i%64)
def okW(ws:List Nat):Prop:=∀x∈ws,x<18446744073709551616
theorem zm(i:Nat):bit [] i=false:=by simp [bit]
theorem BJ(ws:List Nat)(i:Nat):bit (ws++ [0]) i=bit ws i:=by
 unfold bit
 congr 1
 simp only [List.getD_eq_getElem?_getD,List.getElem?_append];split
 ·rfl
 ·rename_i h
  rw [List.getElem?_eq_none (l:=ws) (by omega)];cases i/64-ws.length<;>simp
theorem EP{ws:List Nat}{q:Nat}(hq:q<ws.length)(v i:Nat):bit (ws.set q v) i=if i/64=q then v.testBit (i%64)else bit ws i:=by
 unfold bit;simp only [List.getD_eq_getElem?_getD,List.getElem?_set];by_cases h:i/64=q
 ·subst h;simp [hq]
 ·rw [if_neg (fun e=>h e.symm),if_neg h]
theorem Eb{ws:List Nat}(h:okW ws){x:Nat}(hx:x<18446744073709551616):okW (ws++ [x]):=fun y hy=>by
 rw [List.mem_append,List.mem_singleton]at hy;rcases hy with hy|rfl
 ·exact h y hy
 ·exact hx
theorem Ea{ws:List Nat}(h:okW ws){x:Nat}(hx:x<18446744073709551616)(q:Nat):okW (ws.set q x):=fun y hy=>by
 rcases List.mem_or_eq_of_mem_set hy with hy|rfl
 ·exact h y hy
 ·exact hx
def us(l:List Nat):List Value:=l.map fun x:Nat=>.int .u64 (x:Int)
theorem pD(l:List Nat):(us l).length=l.length:=by simp [us]
theorem pE{l:List Nat}{j x:Nat}(h:l[j]? =some x):(us l)[j]? =some (.int .u64 (x:Int)):=by simp [us,h]
theorem yB(l:List Nat)(q v:Nat):(us l).set q (.int .u64 (v:Int))=us (l.set q v):=by simp [us,List.map_set]
theorem OT(l m:List Nat):us (l++m)=us l++us m:=by simp [us]
structure US(w:World)(A:Option Addr)(n:Nat)(l:List Nat):Prop where
 len:l.length=n
 at_:∀(i x:Nat),l[i]? =some x->∃a,A=some a/\a.block<w.heap.size/\w.cell? (a.add i)=some (.int .u64 (x:Int))
theorem US.aF{S:Nat->Prop}{w w':World}{A:Option Addr}{n:Nat}{l:List Nat}(h:US w A n l)(hk:Kept S w w')(hn:∀a,A=some a->¬S a.block):US w' A n l:=⟨h.len,fun i x hi=>by
 obtain⟨a,h1,h2,h3⟩:=h.at_ i x hi;exact⟨a,h1,Nat.lt_of_lt_of_le h2 hk.size,hk.cell h3 (by rw [fg];exact hn a h1)⟩⟩
theorem US.load{w:World}{A:Option Addr}{n:Nat}{l:List Nat}(hl:US w A n l){i:Int}{x:Nat}(h0:0<=i)(hx:l[i.toNat]? =some x){k:Int->Prop}(hk:k x):
 (0<=i/\i<(n:Int))/\Is A fun a=>∃t:Int,w.cell? (a.add (i.toNat*1))=some (.int .u64 t)/\k t:=by
 obtain⟨a,rfl,_,hc⟩:=hl.at_ _ x hx;have:=(lgeS hx).1;have:=hl.len;exact⟨⟨h0,by omega⟩,x,by rw [Nat.mul_one];exact hc,hk⟩
theorem O2:zI prog lK jc 1 8:=⟨by kernel_rfl,by kernel_rfl⟩
abbrev lF(w:World)(B:Nat)(A:Option Addr)(n c:Nat)(l:List Nat):Prop:=Row w B jc 1 A n c (us l)
section
variable{w w':World}{B n c:Nat}{A:Option Addr}{l:List Nat}
theorem lF.len(h:lF w B A n c l):l.length=n:=by have:=Row.len h;rw [pD]at this;omega
theorem lF.us(h:lF w B A n c l):US w A n l:=⟨h.len,fun i x hi=>by
 have hlen:=h.len;have:=(lgeS hi).1;obtain⟨b,rfl⟩:=Row.some h (by omega);obtain⟨_,cur,lv⟩:=Row.bJ h (k:=b) rfl;exact⟨_,rfl,aV lv,by rw [bt,Nat.zero_add];exact Row.cell h (pE hi)⟩⟩
theorem HH(i:Nat):((i:Int).tdiv 64)=((i/64:Nat):Int):=by
 rw [Int.tdiv_eq_ediv_of_nonneg (by omega)];omega
theorem OZ(i:Nat):((i:Int).tmod 64)=((i%64:Nat):Int):=by
 rw [Int.tmod_eq_emod_of_nonneg (by omega)];omega
theorem ux(h:lF w B A n c l)(hn:n<=1000000)(hB:B<=w.heap.size){t:Nat}(x:Nat):
 ∃A' c' w',(Builtin.append_ #[lK,lK] lK #[.slice A n c,.slice (some ⟨w.heap.size,0,none⟩) 1 1]).run prog (w.alloc (.cells #[.int .u64 (x:Int)] t))=.ok (.slice A' (n+1) c') w'/\
  lF w' B A' (n+1) c' (l++ [x])/\Kept (fun k=>bn A=some k) w w'/\(∀k,bn A'=some k->bn A=some k\/w.heap.size<=k):=by
 have k1:Kept Nil w (w.alloc (.cells #[.int .u64 (x:Int)] t)):=(Kept.refl _ _).alloc _;have hb:=aI w (.cells #[.int .u64 (x:Int)] t);have h1:lF (w.alloc (.cells #[.int .u64 (x:Int)] t)) B A n c l:=Row.aF h k1 (fun _ _ h=>h);obtain⟨A',c',w',hr,fG,hg,xo⟩:=fR (P:=prog) (t:=lK) (ty:=lK) (bytes:=8) O2 h1 (a:=⟨w.heap.size,0,none⟩) (m:=1) (cx:=1) (news:=us [x]) rfl
  (fun j u hj=>by rw [bt,Nat.zero_add,aD hb];simpa [us]using hj) (fun u hu=>by simp [us]at hu;subst hu;rfl) (by omega) (by unfold maxLen;omega) (by have:=k1.size;omega)
 refine⟨A',c',w',hr,?_,?_,fun k hk=>?_⟩
 ·show Row w' B jc 1 A' (n+1) c' (Proofs.YtfleamccglihoaaGreatDoor.us (l++ [x]))
  rw [OT];exact fG
 ·exact(k1.mono (S':=fun k=>bn A=some k) (fun _ _ h=>h.elim)).tt (Kept.grown (S:=fun k=>bn A=some k) (Kept.refl _ _) hg (fun k hk _=>hk))
 ·rcases xo k hk with h|h
  ·exact .inl h
  ·have:=k1.size;exact .inr (by omega)
theorem zZ{b:Nat}(h:lF w B (some ⟨b,0,none⟩) n c l){q:Nat}(hq:q<n)(x:Nat):
 lF (w.setCell ⟨b,q,none⟩ (.int .u64 (x:Int))) B (some ⟨b,0,none⟩) n c (l.set q x):=by
 have:=Row.set h (j:=q) (by rw [pD,h.len];exact hq) (.int .u64 (x:Int));rw [yB]at this;exact this
theorem Ag{K:Value->World->Prop}(h:lF w B A n c l)(ho:okW l)(hn:n<=100000)(hB:B<=w.heap.size){i:Nat}(hi:i<=1000000)
 (hK:∀A' n' c' l' w',lF w' B A' n' c' l'->okW l'->(n'<=n\/n'<=i/64+1)->(∀j,bit l' j=(bit l j||decide (j=i)))->Kept (fun k=>bn A=some k) w w'->(∀k,bn A'=some k->bn A=some k\/w.heap.size<=k)->K (.slice A' n' c') w'):
 bz prog bQ.id #[.slice A n c,.int .i64 (i:Int)] w K:=by
 refine bQ.of ?_;refine bQ.cy (I:=fun s w'=>∃A' n' c' l',s=(A',n',c')/\lF w' B A' n' c' l'/\okW l'/\(n'<=n\/n'<=i/64+1)/\(∀j,bit l' j=bit l j)/\Kept (fun k=>bn A=some k) w w'/\(∀k,bn A'=some k->bn A=some k\/w.heap.size<=k))
  (μ:=fun s _=>i/64+1-s.2.1) (s:=(A,n,c)) ⟨A,n,c,l,rfl,h,ho,.inl (Nat.le_refl _),fun _=>rfl,Kept.refl _ _,fun k hk=>.inl hk⟩ ?_
 rintro s w' ⟨A',n',c',l',rfl,row,Kz,Vn,qQ,kw,hb⟩;unfold bQ.B1;rw [HH,gP (by omega) (by omega)];refine⟨by omega,?_⟩;refine Split.dec (fun hle=>?_) (fun yg=>?_)
 ·simp only at hle
  have ajE:n'<=i/64:=by omega
  obtain⟨A2,c2,w2,hr,gm,k2,kX⟩:=ux row (by omega) (Nat.le_trans hB kw.size) (t:=jc) 0;intro w6;refine⟨A2,n'+1,c2,w2,hr,?_⟩;refine⟨(A2,n'+1,c2),rfl,⟨A2,n'+1,c2,l'++ [0],rfl,gm,Eb Kz (by omega),by omega,fun j=>by rw [BJ,qQ],?_,fun k hk=>?_⟩,by simp only;omega⟩
  ·exact kw.trans k2 (fun k hk e=>by
    rcases hb k e with h|h
    ·exact h
    ·omega)
  ·rcases kX k hk with h|h
   ·exact hb k h
   ·exact .inr (Nat.le_trans kw.size h)
 ·simp only at yg
  have dY:i/64<n':=by omega
  rw [aS,bQ.dq];unfold bQ.cV;intro lY;have xg:Kept Nil w' lY:=(Kept.refl _ _).drew;have Wl:lY=w'.drew:=rfl;clear_value lY;have vt:lF lY B A' n' c' l':=Row.aF row xg (fun _ _ h=>h);have hlen:=row.len;rw [HH,OZ,gP (by omega) (by omega)];obtain⟨b,rfl⟩:=Row.some vt (by omega);obtain⟨x,hx⟩:∃x,l'[i/64]? =some x:=⟨_,List.getElem?_eq_getElem (by omega)⟩;refine⟨by omega,vt.us.load (by omega) (by rw [Int.toNat_natCast];exact hx) ⟨by omega,by omega,⟨⟨by omega,by simp only;omega⟩,?_⟩⟩⟩;have uD:=Kz x (List.mem_of_getElem? hx);have hp:2 ^ (i%64)<18446744073709551616:=Nat.pow_lt_pow_right (by omega) (n:=64) (Nat.mod_lt _ (by omega));simp only [Is,Int.toNat_natCast,Nat.mul_one,bt,Nat.zero_add];rw [ZK (Nat.mod_lt _ (by omega)),orU uD hp];refine⟨Row.wr vt (by rw [pD,hlen];exact dY),?_⟩;have qL:Kept (fun k=>bn A=some k) w (lY.setCell ⟨b,i/64,none⟩ (.int .u64 ((x|||2 ^ (i%64):Nat):Int))):=
   Kept.setCell (kw.trans xg (fun _ _ h=>h.elim)) (p:=⟨b,i/64,none⟩) (fun cU=>by
    rcases hb b rfl with h|h
    ·exact h
    ·exact absurd cU (by simp only;omega)) _
  refine hK _ _ _ _ _ (zZ vt dY _) (Ea Kz (Nat.or_lt_two_pow (n:=64) uD hp) _) Vn (fun j=>?_) qL hb;rw [EP (by omega),qQ];have hbi:bit l' i=x.testBit (i%64):=by unfold bit;rw [List.getD_eq_getElem?_getD,hx];rfl
  by_cases e:j/64=i/64
  ·rw [if_pos e,Nat.testBit_or,Nat.testBit_two_pow]
   have hbj:bit l' j=x.testBit (j%64):=by unfold bit;rw [e,List.getD_eq_getElem?_getD,hx];rfl
   rw [<-hbj,qQ]
   congr 1
   exact decide_eq_decide.2 ⟨fun h=>by omega,fun h=>by rw [h]⟩
  ·rw [if_neg e,decide_eq_false (fun h=>e (by rw [h]))]
   simp
end
section
variable{w w':World}{B n c:Nat}{A:Option Addr}{l:List Nat}
theorem xN{K:Value->World->Prop}(h:lF w B A n c l)(ho:okW l)(hn:n<=100000)(hB:B<=w.heap.size){A2:Option Addr}{n2 c2:Nat}{v:List Nat}(hv:US w A2 n2 v)(hv':okW v)(Vl:n2<=100000)
 (WV:∀a,A2=some a->∀k,bn A=some k->a.block≠k)
 (hK:∀A' n' c' l' w',lF w' B A' n' c' l'->okW l'->(n'<=n\/n'<=n2)->(∀j,bit l' j=(bit l j||bit v j))->Kept (fun k=>bn A=some k) w w'->(∀k,bn A'=some k->bn A=some k\/w.heap.size<=k)->K (.slice A' n' c') w'):
 bz prog cC.id #[.slice A n c,.slice A2 n2 c2] w K:=by
 have afu:=hv.len;refine cC.of ?_;refine cC.cy (I:=fun s w'=>∃(i:Nat) (A':Option Addr) (n' c':Nat) (l':List Nat),s=(A',n',c',(i:Int))/\i<=n2/\lF w' B A' n' c' l'/\okW l'/\i<=n'/\n<=n'/\(n'<=n\/n'<=i)/\(∀j,bit l' j=(bit l j||(decide (j/64<i)&&bit v j)))/\Kept (fun k=>bn A=some k) w w'/\(∀k,bn A'=some k->bn A=some k\/w.heap.size<=k))
  (μ:=fun s _=>((n2:Int)-s.2.2.2).toNat) (s:=(A,n,c,0)) ⟨0,A,n,c,l,rfl,Nat.zero_le _,h,ho,Nat.zero_le _,Nat.le_refl _,.inl (Nat.le_refl _),by simp,Kept.refl _ _,fun k hk=>.inl hk⟩ ?_
 rintro s w' ⟨i,A',n',c',l',rfl,hi,row,Kz,fQ,Vc,LW,qQ,kw,hb⟩;have VG:=row.len;refine Split.dec (fun jQ=>?_) (fun gE=>?_)
 ·simp only at jQ
  have dY:i<n2:=by omega
  obtain⟨x,hx⟩:∃x,v[i]? =some x:=⟨_,List.getElem?_eq_getElem (by omega)⟩;have uD:=hv' x (List.mem_of_getElem? hx);have hvw:US w' A2 n2 v:=hv.aF kw (fun a ha e=>WV a ha _ e rfl);refine hvw.load (i:=(i:Int)) (by omega) hx ?_;have step:∀(A2:Option Addr) (n3 c3:Nat) (l3:List Nat) (w3:World),lF w3 B A2 n3 c3 l3->okW l3->i<n3->n<=n3->(n3<=n\/n3<=i+1)->(∀j,bit l3 j=(bit l j||(decide (j/64<i)&&bit v j)))->Kept (fun k=>bn A=some k) w w3->(∀k,bn A2=some k->bn A=some k\/w.heap.size<=k)->
   (0<=(i:Int)/\(i:Int)<(n3:Int))/\Is A2 fun a=>∃t:Int,w3.cell? (a.add ((i:Int).toNat*1))=some (.int .u64 t)/\(0<=(i:Int)/\(i:Int)<(n3:Int))/\Is A2 fun a'=>Wr w3 (a'.add ((i:Int).toNat*1))/\
     ∃(l4:List Nat),
     lF (w3.setCell (a'.add ((i:Int).toNat*1)) (.int .u64 (u64.wrap ((BitVec.ofInt 64 t|||BitVec.ofInt 64 (x:Int)).toNat)))) B A2 n3 c3 l4/\okW l4/\(∀j,bit l4 j=(bit l j||(decide (j/64<i+1)&&bit v j)))/\Kept (fun k=>bn A=some k) w (w3.setCell (a'.add ((i:Int).toNat*1)) (.int .u64 (u64.wrap ((BitVec.ofInt 64 t|||BitVec.ofInt 64 (x:Int)).toNat)))):=by
   intro A2 n3 c3 l3 w3 mn ho3 hi3 hn3 ajt Og k3 nC;have afW:=mn.len;obtain⟨b,rfl⟩:=Row.some mn (by omega);obtain⟨y,hy⟩:∃y,l3[i]? =some y:=⟨_,List.getElem?_eq_getElem (by omega)⟩;have hyl:=ho3 y (List.mem_of_getElem? hy);refine mn.us.load (i:=(i:Int)) (by omega) hy ⟨⟨by omega,by omega⟩,?_⟩;simp only [Is,Int.toNat_natCast,Nat.mul_one,bt,Nat.zero_add];rw [orU hyl uD];refine⟨Row.wr mn (by rw [pD];omega),l3.set i (y|||x),zZ mn hi3 _,Ea ho3 (Nat.or_lt_two_pow (n:=64) hyl uD) _,fun j=>?_,?_⟩
   ·rw [EP (by omega),Og]
    have EG:j/64=i->bit v j=x.testBit (j%64):=fun e=>by unfold bit;rw [e,List.getD_eq_getElem?_getD,hx];rfl
    have KD:j/64=i->bit l3 j=y.testBit (j%64):=fun e=>by unfold bit;rw [e,List.getD_eq_getElem?_getD,hy];rfl
    by_cases e:j/64=i
    ·rw [if_pos e,Nat.testBit_or,<-KD e,<-EG e,Og]
     rw [decide_eq_false (show ¬j/64<i by omega),decide_eq_true (show j/64<i+1 by omega)];simp
    ·rw [if_neg e]
     congr 2
     exact decide_eq_decide.2 (by omega)
   ·refine Kept.setCell k3 (p:=⟨b,i,none⟩) (fun cU=>?_) _
    rcases nC b rfl with h|h
    ·exact h
    ·exact absurd cU (by simp only;omega)
  by_cases he:i=n'
  ·refine Split.yes (by simp [he]) ?_
   obtain⟨Hm,zG,w2,hr,gm,k2,kX⟩:=ux row (by omega) (Nat.le_trans hB kw.size) (t:=jc) 0;intro w10;refine⟨Hm,n'+1,zG,w2,hr,?_⟩;have st:=step Hm (n'+1) zG (l'++ [0]) w2 gm (Eb Kz (by omega)) (by omega) (by omega) (by omega) (fun j=>by rw [BJ,qQ])
    (kw.trans k2 (fun k hk e=>by
      rcases hb k e with h|h
      ·exact h
      ·omega)) (fun k hk=>by
      rcases kX k hk with h|h
      ·exact hb k h
      ·exact .inr (Nat.le_trans kw.size h))
   clear step;obtain⟨s1,s2⟩:=st;refine⟨s1,?_⟩;cases Hm with
   |none=>exact s2.elim
   |some a=>
    obtain⟨t,s3,s4,s5,l4,s6,s7,s8,s9⟩:=s2;refine⟨t,s3,s4,s5,?_⟩;intro jO;simp only;rw [dH (n:=(i:Int)) (by omega) (by omega)];exact⟨(some a,n'+1,zG,(i:Int)+1),rfl,⟨i+1,some a,n'+1,zG,l4,rfl,dY,s6,s7,by omega,by omega,by omega,s8,s9,fun k hk=>by
     rcases kX k hk with h|h
     ·exact hb k h
     ·exact .inr (Nat.le_trans kw.size h)⟩,by simp only;omega⟩
  ·refine Split.no (beq_eq_false_iff_ne.2 (by simp only;omega)) ?_
   have st:=step A' n' c' l' w' row Kz (by omega) Vc (by omega) qQ kw hb;clear step;obtain⟨s1,s2⟩:=st;refine⟨s1,?_⟩;cases A' with
   |none=>exact s2.elim
   |some a=>
    obtain⟨t,s3,s4,s5,l4,s6,s7,s8,s9⟩:=s2;refine⟨t,s3,s4,s5,?_⟩;intro jO;simp only;rw [dH (n:=(i:Int)) (by omega) (by omega)];exact⟨(some a,n',c',(i:Int)+1),rfl,⟨i+1,some a,n',c',l4,rfl,dY,s6,s7,by omega,Vc,by omega,s8,s9,hb⟩,by simp only;omega⟩
 ·simp only at gE
  have:i=n2:=by omega
  subst this;rw [aS,cC.dq];refine hK A' n' c' l' w' row Kz (by omega) (fun j=>?_) kw hb;rw [qQ]
  congr 1
  by_cases e:j/64<i
  ·rw [decide_eq_true e];simp
  ·rw [decide_eq_false e]
   unfold bit;rw [List.getD_eq_getElem?_getD,List.getElem?_eq_none (by omega)];simp
end
theorem BN:∀k m:Nat,(2 ^ k*(2*m+1))&&& (2 ^ k*(2*m+1)-1)=2 ^ (k+1)*m
 |0,m=>by
  apply Nat.eq_of_testBit_eq;intro i;rw [Nat.testBit_and];cases i with
  |zero=>simp [Nat.testBit_zero]
  |succ i=>
   simp only [Nat.testBit_succ];rw [show(2 ^ 0*(2*m+1))/2=m by omega,show(2 ^ 0*(2*m+1)-1)/2=m by omega,show 2 ^ (0+1)*m/2=m by omega];simp
 |k+1,m=>by
  have ih:=BN k m;have hp:0<2 ^ k*(2*m+1):=Nat.mul_pos (Nat.pow_pos (by omega)) (by omega);rw [show 2 ^ (k+1)*(2*m+1)=2*(2 ^ k*(2*m+1))by rw [Nat.pow_succ];ac_rfl,show 2 ^ (k+1+1)*m=2*(2 ^ (k+1)*m)by rw [Nat.pow_succ 2 (k+1)];ac_rfl];generalize 2 ^ k*(2*m+1)=x at ih hp⊢;rw [<-ih];apply Nat.eq_of_testBit_eq;intro i;rw [Nat.testBit_and];cases i with
  |zero=>simp [Nat.testBit_zero]
  |succ i=>
   simp only [Nat.testBit_succ];rw [show 2*x/2=x by omega,show(2*x-1)/2=x-1 by omega,show 2*(x&&& (x-1))/2=x&&& (x-1)by omega,Nat.testBit_and]
theorem Ed{x:Nat}(h0:x≠0)(hx:x<18446744073709551616):Lib.ctz 64 x<64/\x.testBit (Lib.ctz 64 x)=true/\∀t,(x&&& (x-1)).testBit t=(x.testBit t&&decide (t≠Lib.ctz 64 x)):=by
 obtain⟨m,h1,h2⟩:=Lib.ctzFrom_spec 64 x (by omega) hx;have e:Lib.ctz 64 x=Lib.ctzFrom 64 x:=by unfold Lib.ctz;rw [if_neg h0]
 rw [e];generalize Lib.ctzFrom 64 x=k at h1 h2⊢;have hand:x&&& (x-1)=2 ^ (k+1)*m:=by rw [h1];exact BN k m
 have hb:∀t,x.testBit t=(decide (t>=k)&&(2*m+1).testBit (t-k)):=fun t=>by rw [h1,Nat.testBit_two_pow_mul]
 refine⟨h2,by rw [hb];simp,fun t=>?_⟩;rw [hand,Nat.testBit_two_pow_mul,hb];by_cases ht:t=k
 ·subst ht
  simp;intro h;omega
 ·rw [decide_eq_true ht,Bool.and_true]
  by_cases hk:t>=k
  ·obtain⟨d,hd⟩:∃d,t-k=d+1:=⟨t-k-1,by omega⟩
   rw [decide_eq_true hk,decide_eq_true (show t>=k+1 by omega),hd,show t-(k+1)=d by omega,Nat.testBit_succ,show(2*m+1)/2=m by omega]
  ·rw [decide_eq_false hk,decide_eq_false (show ¬t>=k+1 by omega)]
   simp
theorem zq{x:Nat}(h0:x≠0):x&&& (x-1)<x:=Nat.lt_of_le_of_lt Nat.and_le_right (by omega)
def vQ(x:Nat):List Nat:=if h:x=0 then []else Lib.ctz 64 x::vQ (x&&& (x-1))
termination_by x
decreasing_by exact zq h
theorem xW:vQ 0= []:=by rw [vQ];simp
theorem xY{x:Nat}(h0:x≠0):vQ x=Lib.ctz 64 x::vQ (x&&& (x-1)):=by rw [vQ,dif_neg h0]
theorem xX:∀(x:Nat),x<18446744073709551616->(∀t,t∈vQ x↔x.testBit t=true)/\(vQ x).Nodup/\∀t∈vQ x,t<64:=by
 intro x
 induction x using Nat.strongRecOn with
 |_ x ih=>
  intro hx;by_cases h0:x=0
  ·subst h0;rw [xW];simp
  ·obtain⟨h1,h2,h3⟩:=Ed h0 hx
   obtain⟨i1,i2,i3⟩:=ih _ (zq h0) (Nat.lt_trans (zq h0) hx);rw [xY h0];refine⟨fun t=>?_,?_,fun t ht=>?_⟩
   ·rw [List.mem_cons,i1,h3]
    by_cases e:t=Lib.ctz 64 x
    ·rw [e,h2];simp
    ·simp [e]
   ·rw [List.nodup_cons,i1,h3]
    exact⟨by simp,i2⟩
   ·rcases List.mem_cons.1 ht with rfl|ht
    ·exact h1
    ·exact i3 t ht
def pX:Nat->List Nat->List Nat
 |_,[]=> []
 |k,x::ws=>(vQ x).map (64*k+ ·)++pX (k+1) ws
theorem JU(x:Nat)(ws:List Nat)(j:Nat):bit (x::ws) j=if j<64 then x.testBit j else bit ws (j-64):=by
 unfold bit;split
 ·rename_i h
  rw [show j/64=0 by omega,show j%64=j by omega];rfl
 ·rename_i h
  rw [show j/64=(j-64)/64+1 by omega,show j%64=(j-64)%64 by omega];rfl
theorem p7:∀(ws:List Nat) (k j:Nat),okW ws->(j∈pX k ws↔64*k<=j/\bit ws (j-64*k)=true)
 | [],k,j,_=>by simp [pX,bit]
 |x::ws,k,j,ho=>by
  obtain⟨h1,_,h3⟩:=xX x (ho x (by simp));have ih:=p7 ws (k+1) j (fun y hy=>ho y (by simp [hy]));rw [pX,List.mem_append,ih,JU,List.mem_map];constructor
  ·rintro(⟨t,ht,rfl⟩|⟨h,hb⟩)
   ·have:=h3 t ht
    refine⟨by omega,?_⟩;rw [if_pos (by omega),show 64*k+t-64*k=t by omega];exact(h1 t).1 ht
   ·refine⟨by omega,?_⟩
    rw [if_neg (by omega),show j-64*k-64=j-64*(k+1)by omega];exact hb
  ·rintro⟨h,hb⟩
   split at hb
   ·exact .inl ⟨j-64*k,(h1 _).2 hb,by omega⟩
   ·refine .inr ⟨by omega,?_⟩
    rw [show j-64*(k+1)=j-64*k-64 by omega];exact hb
theorem vI:∀ {l m:List Nat},l.Nodup->(∀x∈l,x∈m)->l.length<=m.length
 | [],_,_,_=>Nat.zero_le _
 |x::l,m,hn,h=>by
  rw [List.nodup_cons]at hn;have hx:=h x (by simp);have:=vI (l:=l) (m:=m.erase x) hn.2 (fun y hy=>by
   have fD:y≠x:=fun e=>hn.1 (e▸hy);exact(List.mem_erase_of_ne fD).2 (h y (by simp [hy])))
  rw [List.length_erase_of_mem hx]at this;have jK:0<m.length:=List.length_pos_of_mem hx;simp only [List.length_cons];omega
def uK(w:World):Prop:=TabAt (Tryz.kh.g 1) Lib.deBruijn64tab w
theorem uK.aF{S:Nat->Prop}{w w':World}(h:uK w)(hk:Kept S w w')(hn:¬S (Tryz.kh.g 1)):uK w':=fun j hj=>hk.cell (h j hj) hn
theorem uK.same{w w':World}(h:uK w)(hk:Kept Nil w w'):uK w':=h.aF hk fun h=>h
theorem uK.lt{w:World}(h:uK w):Tryz.kh.g 1<w.heap.size:=World.block_lt_of_cell? w _ (h 0 (by decide))
section
variable{w:World}{K:Value->World->Prop}
theorem SM{x:Nat}(hx:x<18446744073709551616)(hT:uK w)(hK:K (.int .i64 (Lib.ctz 64 x:Nat)) w):bz prog bits_TrailingZeros64.id #[.int .u64 (x:Int)] w K:=by
 refine Calls.mono (Any7.bits_TrailingZeros64 Tryz.tzL x hx w (fun _=>hT)) ?_;rintro e w' ⟨rfl,rfl⟩;exact⟨_,rfl,hK⟩
abbrev encI(i:Nat):List Value:= [.int .i64 (i:Int)]
theorem JX(p:Addr){A:Option Addr}{n c:Nat}{l:List Nat}(hn:n<=100000)(ho:okW l):
 oA prog aJ.id #[] #[.pointer (some p)] ((pX 0 l).map encI) (fun w=>US w A n l/\w.cell? p=some (.slice A n c)/\uK w):=by
 intro y I D w0 hI hD oN h0 oM;refine aJ.of ?_;obtain⟨Bi,LS,_⟩:=oN 0 w0 h0;have hlen:=Bi.len;refine⟨A,n,c,LS,?_⟩;refine aJ.cy (I:=fun s w'=>∃(i:Nat) (dn:List Nat),s=(i:Int)/\i<=n/\dn++pX i (l.drop i)=pX 0 l/\I dn.length w') (μ:=fun s _=>((n:Int)-s).toNat) (s:=0) ⟨0,[],rfl,Nat.zero_le _,rfl,h0⟩ ?_;rintro s w' ⟨i,dn,rfl,hi,Jm,hw⟩;refine Split.dec (fun jQ=>?_) (fun gE=>?_)
 ·have dY:i<n:=by omega
  obtain⟨x,hx⟩:∃x,l[i]? =some x:=⟨_,List.getElem?_eq_getElem (by omega)⟩;have uD:=ho x (List.mem_of_getElem? hx);have hl:=(oN _ w' hw).1;have wg:l.drop i=x::l.drop (i+1):=by
   obtain⟨h1,h2⟩:=lgeS hx;rw [List.drop_eq_getElem_cons h1,h2]
  rw [wg,pX]at Jm;refine hl.load (i:=(i:Int)) (by omega) hx ?_;refine aJ.gS (I:=fun s w'=>∃(v:Nat) (dn:List Nat),s=(v:Int)/\v<18446744073709551616/\dn++((vQ v).map (64*i+ ·)++pX (i+1) (l.drop (i+1)))=pX 0 l/\I dn.length w') (μ:=fun s _=>s.toNat) (s:=(x:Int)) ⟨x,dn,rfl,uD,Jm,hw⟩ ?_;clear hw Jm;rintro s w1 ⟨v,Y5,rfl,hv,Jl,Ku⟩;by_cases h0:v=0
  ·refine Split.no (by subst h0;rfl) ?_
   rw [aS,aJ.jU];unfold aJ.iI;rw [dH (n:=(i:Int)) (by omega) (by omega)];rw [h0,xW,List.map_nil,List.nil_append]at Jl;exact⟨(i:Int)+1,rfl,⟨i+1,Y5,rfl,dY,Jl,Ku⟩,by simp only;omega⟩
  ·refine Split.yes (bne_iff_ne.2 (by omega)) ?_
   have LP:=oN _ w1 Ku;obtain⟨hk,NV,hkr⟩:=Ed h0 hv;rw [xY h0,List.map_cons,List.cons_append]at Jl;refine SM hv LP.2.2 ⟨_,rfl,?_⟩;have gU:((pX 0 l).map encI)[Y5.length]? =some (encI (64*i+Lib.ctz 64 v)):=by
    rw [List.getElem?_map,<-Jl,List.getElem?_append_right (Nat.le_refl _),Nat.sub_self];rfl
   have Gi:i64.wrap (i64.wrap ((64:Int)*(i:Int))+((Lib.ctz 64 v:Nat):Int))=((64*i+Lib.ctz 64 v:Nat):Int):=by
    rw [gP (x:=(64:Int)*(i:Int)) (by omega) (by omega),gP (by omega) (by omega)];omega
   rw [Gi];refine(oM Y5.length _ w1 gU Ku).mono ?_;rintro b jl ⟨ht,hf⟩;have nN:u64.wrap ((BitVec.ofInt 64 (v:Int)&&& BitVec.ofInt 64 (u64.wrap ((v:Int)-(1:Int)))).toNat:Int)=((v&&& (v-1):Nat):Int):=by
    have e1:(v:Int)-1=((v-1:Nat):Int):=by omega
    rw [e1,kc (x:=v-1) (by omega),adV hv (by omega)]
   cases b with
   |true=>
    refine Split.no rfl ?_;rw [nN];have cU:=zq h0;refine⟨((v&&& (v-1):Nat):Int),rfl,⟨v&&& (v-1),Y5++ [64*i+Lib.ctz 64 v],rfl,by omega,by rw [List.append_assoc];exact Jl,?_⟩,by simp only;omega⟩;rw [List.length_append];exact ht rfl
   |false=>
    refine Split.yes rfl ?_;exact Or.inr (hf rfl)
 ·rw [aS,aJ.dq]
  have e:i=n:=by omega
  subst e;refine Or.inl ?_;rw [List.drop_eq_nil_of_le (by omega),pX,List.append_nil]at Jm;rw [List.length_map,<-Jm];exact hw
end
def pos(h:HT):List HT->Nat->Option Nat
 | [],_=>none
 |x::l,i=>if h=x then some i else pos h l (i+1)
theorem pR{h:HT}:∀ {l:List HT} {i:Nat},pos h l i=none↔h∉l
 | [],i=>by simp [pos]
 |x::l,i=>by
  unfold pos;split
  ·rename_i e;simp [e]
  ·rename_i e
   rw [pR (l:=l)];simp [e]
theorem vC{h:HT}:∀ {l:List HT} {i j:Nat},pos h l i=some j->i<=j/\l[j-i]? =some h
 | [],i,j,e=>by simp [pos]at e
 |x::l,i,j,e=>by
  unfold pos at e;split at e
  ·rename_i hx
   cases e;subst hx;exact⟨Nat.le_refl _,by rw [Nat.sub_self];rfl⟩
  ·obtain⟨h1,h2⟩:=vC e
   refine⟨by omega,?_⟩;rw [show j-i=(j-(i+1))+1 by omega];exact h2
theorem lH{h:HT}:∀ {l:List HT} (i j:Nat),l.Nodup->l[j]? =some h->pos h l i=some (i+j)
 | [],i,j,_,e=>by simp at e
 |x::l,i,0,_,e=>by
  simp only [List.getElem?_cons_zero,Option.some.injEq]at e;unfold pos;rw [if_pos e.symm];simp
 |x::l,i,j+1,hn,e=>by
  simp only [List.getElem?_cons_succ]at e;rw [List.nodup_cons]at hn;unfold pos;rw [if_neg (fun hx=>hn.1 (by rw [<-hx];exact List.mem_of_getElem? e)),lH (i+1) j hn.2 e]
  congr 1
  omega
section
variable{w:World}
theorem KR:prog.underlying ag=some (.array 32 jb):=by kernel_rfl
theorem OU:prog.underlying jb=some (.int .u8):=by kernel_rfl
theorem Np:∃i,prog.info? jb=some i/\i.size=1:=by
 have h:(match prog.info? jb with|some i=>Nat.beq i.size 1|none=>false)=true:=by kernel_rfl
 split at h
 ·rename_i i hi;exact⟨i,hi,Nat.eq_of_beq_eq_true h⟩
 ·cases h
theorem OW:prog.underlying cJ=some (.map ag j0):=by kernel_rfl
theorem vo(a b:HT)(w:World):(Op.equal ag (.agg a.1) (.agg b.1)).run prog w=.ok (decide (a=b)) w:=by
 obtain⟨i,hi,h1⟩:=Np;have:=pK (P:=prog) 9998 w KR OU hi h1 a.2.ints b.2.ints;rw [dC]at this;simp only [Op.equal,Op.maxDepth];exact this
theorem jt(h:HT)(em:Bool)(w:World):(Instr.checkKey em 10000 ag (.agg h.1)).run prog w=.ok () w:=by
 obtain⟨i,hi,h1⟩:=Np;have hc:prog.cellsOf jb=1:=by simp [Program.cellsOf,hi,h1]
 rw [show(10000:Nat)=9999+1 from rfl,Instr.checkKey];simp only [Sem.run_bind,run_underlying KR,Result.andThen_ok];simp only [Std.Legacy.Range.forIn_eq_forIn_range',Std.Legacy.Range.size,Nat.sub_zero,Nat.add_one_sub_one,Nat.div_one];have each:∀j∈List.range' 0 32,∃v,h.1[j]? =some v/\∃x:Int,v=.int .u8 x:=fun j hj=>by
  have wc:j<h.1.size:=by rw [h.2.1];simpa using hj
  obtain⟨x,hx,_⟩:=h.2.2 h.1[j] (by simp);exact⟨_,Array.getElem?_eq_getElem wc,x,hx⟩
 generalize List.range' 0 32=is at each
 induction is with
 |nil=>simp
 |cons j is ih=>
  obtain⟨v,hv,x,rfl⟩:=each j (by simp);have Mp:(isAgg jb).run prog w=.ok false w:=by simp [isAgg,run_underlying OU]
  have p1:(part jb h.1 (j*1)).run prog w=.ok (.int .u8 x) w:=by simp [part,Mp,hv]
  have p2:(Instr.checkKey em 9999 jb (.int .u8 x)).run prog w=.ok () w:=by
   rw [show(9999:Nat)=9998+1 from rfl,Instr.checkKey];simp [run_underlying OU]
  simp only [List.forIn_cons,Sem.run_bind,Go.bV.run_sizeOf hi w,hc,Result.andThen_ok,p1,p2,Sem.run_pure];exact ih (fun y hy=>each y (by simp [hy]))
def BS(es:List MapEntry)(l:List HT)(i:Nat):Prop:=match es,l with
 | [],[]=>True
 |e::es,h::l=>(e.key=.agg h.1/\e.val=.int .i64 (i:Int))/\BS es l (i+1)
 |_,_=>False
theorem BS.snoc:∀ {es:List MapEntry} {l:List HT} {i:Nat} {e:MapEntry} {h:HT},BS es l i->e.key=.agg h.1->e.val=.int .i64 ((i+l.length:Nat):Int)->BS (es++ [e]) (l++ [h]) i
 | [],[],i,e,h,_,h1,h2=>⟨⟨h1,by simpa using h2⟩,trivial⟩
 |x::es,y::l,i,e,h,he,h1,h2=>⟨he.1,BS.snoc he.2 h1 (by rw [h2];congr 2;simp;omega)⟩
 | [],_::_,_,_,_,he,_,_=>he.elim
 |_::_,[],_,_,_,he,_,_=>he.elim
theorem rY(h:HT)(w:World):∀(es:List MapEntry) (l:List HT) (i:Nat),BS es l i->
 (Instr.findAsking ag (.agg h.1) es i).run prog w=.ok ((pos h l i).map fun j=>(j,.int .i64 (j:Int))) w
 | [],[],i,_=>by simp [Instr.findAsking,pos]
 |e::es,x::l,i,he=>by
  have hq:=vo h x w;have ih:=rY h w es l (i+1) he.2;simp only [Instr.findAsking,he.1.1,Sem.run_bind,hq,Result.andThen_ok];by_cases hx:h=x
  ·simp [hx,pos,he.1.2]
  ·simp [hx,pos,ih]
 | [],_::_,_,he=>he.elim
 |_::_,[],_,he=>he.elim
theorem oI(h:HT)(w:World){es:List MapEntry}{l:List HT}(he:BS es l 0):
 (Instr.findKey ag (.agg h.1) es).run prog w=.ok ((pos h l 0).map fun j=>(j,.int .i64 (j:Int))) w:=by
 have h1:=rY h w es l 0 he;simp only [Instr.findKey,Sem.run_bind,run_underlying KR,Result.andThen_ok];cases es with
 |nil=>
  cases l with
  |nil=>simp [Instr.findNow,pos]
  |cons x l=>exact he.elim
 |cons e es=>
  have:Instr.findNow (.array 32 jb) (.agg h.1) (e::es) 0=none:=by
   simp only [Instr.findNow,Instr.sameNow]
  rw [this];exact h1
theorem qf{r:Nat}{es:Array MapEntry}{clock:Nat}(hb:w.heap[r]? =some (.map es clock)):(getObj r).run prog w=.ok (.map es clock) w:=by
 simp [getObj,Sem.run,hb]
theorem Co{r:Nat}{es:Array MapEntry}{clock:Nat}(o:Obj)(hb:w.heap[r]? =some (.map es clock)):(setObj r o).run prog w=.ok () {w with heap:=w.heap.setIfInBounds r o}:=by
 simp [setObj,Sem.run,hb]
structure IsMap(w:World)(m:Nat)(l:List HT):Prop where
 ex:∃es clock,w.heap[m]? =some (.map es clock)/\BS es.toList l 0
theorem IsMap.aF{S:Nat->Prop}{w w':World}{m:Nat}{l:List HT}(h:IsMap w m l)(hk:Kept S w w')(hn:¬S m):IsMap w' m l:=by
 obtain⟨es,clock,h1,h2⟩:=h.ex;exact⟨es,clock,hk.heap h1 hn,h2⟩
theorem IsMap.lt{w:World}{m:Nat}{l:List HT}(h:IsMap w m l):m<w.heap.size:=by
 obtain⟨es,clock,h1,_⟩:=h.ex;exact aV h1
theorem IsMap.look{m:Nat}{l:List HT}(hm:IsMap w m l)(h:HT):
 (Instr.lookup cJ (.map (some m)) (.agg h.1) true).run prog w=.ok (.tuple #[.int .i64 (((pos h l 0).getD 0:Nat):Int),.bool (pos h l 0).isSome]) w:=by
 obtain⟨es,clock,h1,h2⟩:=hm.ex;have h3:=oI h w h2;simp only [Instr.lookup,Sem.run_bind,run_underlying OW,qf h1,Result.andThen_ok,Sem.run_pure,jt,h3];cases hp:pos h l 0<;>simp
theorem IsMap.xZ{m:Nat}{l:List HT}(hm:IsMap w m l)(h:HT):
 (Instr.lookup cJ (.map (some m)) (.agg h.1) false).run prog w=.ok (.int .i64 (((pos h l 0).getD 0:Nat):Int)) w:=by
 obtain⟨es,clock,h1,h2⟩:=hm.ex;have h3:=oI h w h2;simp only [Instr.lookup,Sem.run_bind,run_underlying OW,qf h1,Result.andThen_ok,Sem.run_pure,jt,h3];cases hp:pos h l 0<;>simp
theorem IsMap.put{m:Nat}{l:List HT}(hm:IsMap w m l){h:HT}(hn:h∉l):
 ∃w',(Instr.mapUpdate cJ (.map (some m)) (.agg h.1) (.int .i64 ((l.length:Nat):Int))).run prog w=.ok () w'/\IsMap w' m (l++ [h])/\Kept (· =m) w w':=by
 obtain⟨es,clock,h1,h2⟩:=hm.ex;have h3:=oI h w h2;rw [pR.2 hn]at h3;refine⟨{w with heap:=w.heap.setIfInBounds m (.map (es.push {key:=.agg h.1,val:=.int .i64 ((l.length:Nat):Int),born:=clock}) (clock+1))},?_,⟨es.push {key:=.agg h.1,val:=.int .i64 ((l.length:Nat):Int),born:=clock},clock+1,?_,?_⟩,?_⟩
 ·simp only [Instr.mapUpdate,Sem.run_bind,run_underlying OW,qf h1,Result.andThen_ok,jt,h3,Option.map_none,Co _ h1]
 ·simp [aV h1]
 ·have:=h2.snoc (e:= {key:=.agg h.1,val:=.int .i64 ((l.length:Nat):Int),born:=clock}) (h:=h) rfl (by simp)
  simpa using this
 ·exact⟨rfl,rfl,rfl,by simp,fun k _ hk=>by simp [Ne.symm hk]⟩
end
end Go.Proofs.YtfleamccglihoaaGreatDoor
namespace Go.Proofs.YtfleamccglihoaaGreatDoor
open Go.Proofs.Tryz
open Go Go.bV
structure DN where
 id:HT
 ps:List HT
abbrev DG:=List DN
def ids(D:DG):List HT:=D.map (·.id)
def mh(D:DG)(p h:HT):Prop:=∃nd∈D,nd.id=h/\p∈nd.ps
inductive eB (D:DG):HT->HT->Prop
 |one {p h:HT}:mh D p h->eB D p h
 |more {a p h:HT}:eB D a p->mh D p h->eB D a h
theorem eB.trans{D:DG}{a b c:HT}(h:eB D a b)(h':eB D b c):eB D a c:=by
 induction h' with
 |one hp=>exact .more h hp
 |more _ hp ih=>exact .more ih hp
structure jG(D:DG):Prop where
 pos:0<D.length
 nodup:(ids D).Nodup
 ss:∀nd∈D,SS nd.ps
 up:∀(i:Nat) nd p,D[i]? =some nd->p∈nd.ps->∃(j:Nat) (m:DN),j<i/\D[j]? =some m/\m.id=p
theorem gF(D:DG):(ids D).length=D.length:=by simp [ids]
theorem qE{D:DG}{i:Nat}{nd:DN}(h:D[i]? =some nd):(ids D)[i]? =some nd.id:=by simp [ids,h]
theorem IL{D:DG}{i:Nat}{h:HT}(e:(ids D)[i]? =some h):∃nd,D[i]? =some nd/\nd.id=h:=by
 unfold ids at e;rw [List.getElem?_map]at e;cases hd:D[i]? with
 |none=>rw [hd]at e;cases e
 |some nd=>rw [hd]at e;exact⟨nd,rfl,by simpa using e⟩
theorem cS{D:DG}{h:HT}:h∈ids D↔∃nd∈D,nd.id=h:=by simp [ids]
section
variable{D:DG}
theorem jG.inj(W:jG D){i j:Nat}{a b:DN}(ha:D[i]? =some a)(hb:D[j]? =some b)(e:a.id=b.id):i=j:=by
 have h1:=lH 0 i W.nodup (qE ha);have h2:=lH 0 j W.nodup (qE hb);rw [e,h2]at h1;simpa using h1.symm
theorem jG.pos_eq(W:jG D){i:Nat}{nd:DN}(h:D[i]? =some nd):Proofs.YtfleamccglihoaaGreatDoor.pos nd.id (ids D) 0=some i:=by
 have:=lH 0 i W.nodup (qE h)
 rwa [Nat.zero_add]at this
theorem mh.at_(W:jG D){p h:HT}(hp:mh D p h):∃(i j:Nat) (m nd:DN),i<j/\D[i]? =some m/\D[j]? =some nd/\m.id=p/\nd.id=h/\p∈nd.ps:=by
 obtain⟨nd,ft,rfl,oY⟩:=hp;obtain⟨j,hj⟩:=List.mem_iff_getElem?.1 ft;obtain⟨i,m,rf,hm,e⟩:=W.up j nd p hj oY;exact⟨i,j,m,nd,rf,hm,hj,e,rfl,oY⟩
theorem eB.at_(W:jG D){a h:HT}(hp:eB D a h):∃(i j:Nat) (m nd:DN),i<j/\D[i]? =some m/\D[j]? =some nd/\m.id=a/\nd.id=h:=by
 induction hp with
 |one hp=>
  obtain⟨i,j,m,nd,h1,h2,h3,h4,h5,_⟩:=hp.at_ W;exact⟨i,j,m,nd,h1,h2,h3,h4,h5⟩
 |more _ hp ih=>
  obtain⟨i,j,m,nd,h1,h2,h3,h4,h5⟩:=ih;obtain⟨i',j',m',nd',rQ,sP,Cb,YR,h5',_⟩:=hp.at_ W;have e:=W.inj h3 sP (by rw [h5,YR]);exact⟨i,j',m,nd',by omega,h2,Cb,h4,h5'⟩
theorem eB.irrefl(W:jG D)(a:HT):¬eB D a a:=fun h=>by
 obtain⟨i,j,m,nd,h1,h2,h3,h4,h5⟩:=h.at_ W;have:=W.inj h2 h3 (by rw [h4,h5]);omega
theorem eB.asymm(W:jG D){a b:HT}(h:eB D a b):¬eB D b a:=fun h'=>eB.irrefl W a (h.trans h')
theorem eB.mem(W:jG D){a h:HT}(hp:eB D a h):a∈ids D/\h∈ids D:=by
 obtain⟨i,j,m,nd,_,h2,h3,h4,h5⟩:=hp.at_ W;exact⟨cS.2 ⟨m,List.mem_of_getElem? h2,h4⟩,cS.2 ⟨nd,List.mem_of_getElem? h3,h5⟩⟩
theorem sI(W:jG D){i:Nat}{nd:DN}(h:D[i]? =some nd)(a:HT):eB D a nd.id↔∃p∈nd.ps,a=p\/eB D a p:=by
 have key:∀ {p},mh D p nd.id->p∈nd.ps:=fun⟨nd',hm,e,hp⟩=>by
  obtain⟨j,hj⟩:=List.mem_iff_getElem?.1 hm;have:=W.inj h hj e.symm;subst this;rw [h]at hj;cases hj;exact hp
 constructor
 ·intro ha
  generalize he:nd.id=x at ha;cases ha with
  |one hp=>subst he;exact⟨a,key hp,.inl rfl⟩
  |more Ca hp=>subst he;exact⟨_,key hp,.inr Ca⟩
 ·rintro⟨p,hp,e⟩
  have jX:mh D p nd.id:=⟨nd,List.mem_of_getElem? h,rfl,hp⟩;rcases e with rfl|e
  ·exact .one jX
  ·exact .more e jX
theorem nV{nd:DN}{p h:HT}:mh (D++ [nd]) p h↔mh D p h\/(nd.id=h/\p∈nd.ps):=by
 unfold mh;constructor
 ·rintro⟨m,hm,e,hp⟩
  rw [List.mem_append,List.mem_singleton]at hm;rcases hm with hm|rfl
  ·exact .inl ⟨m,hm,e,hp⟩
  ·exact .inr ⟨e,hp⟩
 ·rintro(⟨m,hm,e,hp⟩|⟨e,hp⟩)
  ·exact⟨m,by simp [hm],e,hp⟩
  ·exact⟨nd,by simp,e,hp⟩
theorem jB(W:jG D){nd:DN}(hn:nd.id∉ids D){a h:HT}(hh:h∈ids D):eB (D++ [nd]) a h↔eB D a h:=by
 constructor
 ·intro ha
  induction ha with
  |one hp=>
   rcases nV.1 hp with hp|⟨e,_⟩
   ·exact .one hp
   ·subst e;exact absurd hh hn
  |more _ hp ih=>
   rcases nV.1 hp with hp|⟨e,_⟩
   ·exact .more (ih (eB.mem W (.one hp)).1) hp
   ·subst e;exact absurd hh hn
 ·intro ha
  induction ha with
  |one hp=>exact .one (nV.2 (.inl hp))
  |more Ca hp ih=>exact .more (ih (eB.mem W Ca).2) (nV.2 (.inl hp))
theorem lQ(D:DG)(nd:DN):ids (D++ [nd])=ids D++ [nd.id]:=by simp [ids]
theorem jG.snoc(W:jG D){nd:DN}(hn:nd.id∉ids D)(oY:∀p∈nd.ps,p∈ids D)(hs:SS nd.ps):jG (D++ [nd]) where
 pos:=by simp
 nodup:=by
  rw [lQ,List.nodup_append];refine⟨W.nodup,by simp,fun a ha b hb=>?_⟩;rw [List.mem_singleton]at hb;subst hb;exact fun e=>hn (e▸ha)
 ss:=fun m hm=>by
  rw [List.mem_append,List.mem_singleton]at hm;rcases hm with hm|rfl
  ·exact W.ss m hm
  ·exact hs
 up:=fun i m p hi hp=>by
  rw [List.getElem?_append]at hi;split at hi
  ·rename_i cU
   obtain⟨j,q,h1,h2,h3⟩:=W.up i m p hi hp;exact⟨j,q,h1,by rw [List.getElem?_append_left (by omega)];exact h2,h3⟩
  ·rename_i gE
   have:m=nd:=by
    cases hk:i-D.length with
    |zero=>rw [hk]at hi;simpa using hi.symm
    |succ k=>rw [hk]at hi;simp at hi
   subst this;obtain⟨q,hq,e⟩:=cS.1 (oY p hp);obtain⟨j,hj⟩:=List.mem_iff_getElem?.1 hq;have tF:=(lgeS hj).1;exact⟨j,q,by omega,by rw [List.getElem?_append_left tF];exact hj,e⟩
end
theorem jG.root(r:HT):jG [⟨r,[]⟩] where
 pos:=by simp
 nodup:=by simp [ids]
 ss:=fun nd h=>by simp at h;subst h;exact List.Pairwise.nil
 up:=fun i nd p h hp=>by
  cases i with
  |zero=>simp at h;subst h;simp at hp
  |succ i=>simp at h
def dF(D:DG)(h:HT)(l:List HT):Int:=
 if h∈ids D then 7 else if(dA l).length=0\/(dA l).length≠l.length then 9 else if ∃p∈dA l,p∉ids D then 6 else 0
def nz(D:DG)(h:HT)(l:List HT):DG:=if dF D h l=0 then D++ [⟨h,dA l⟩]else D
theorem km{D:DG}{h:HT}{l:List HT}(e:dF D h l=0):h∉ids D/\l≠ []/\l.Nodup/\∀p∈dA l,p∈ids D:=by
 unfold dF at e;split at e
 ·cases e
 ·rename_i h1
  split at e
  ·cases e
  ·rename_i h2
   split at e
   ·cases e
   ·rename_i h3
    simp only [not_or,Decidable.not_not]at h2;refine⟨h1,fun hl=>h2.1 (by rw [hl];rfl),sh h2.2,fun p hp=>Classical.byContradiction fun hn=>h3 ⟨p,hp,hn⟩⟩
theorem jG.add{D:DG}(W:jG D)(h:HT)(l:List HT):jG (nz D h l):=by
 unfold nz;split
 ·rename_i e
  obtain⟨h1,_,_,h4⟩:=km e;exact W.snoc h1 h4 (iL l)
 ·exact W
open Classical in
noncomputable def pick(D:DG)(is:HT->Prop):List HT:=dA ((ids D).filter fun a=>decide (is a))
theorem jv{D:DG}{is:HT->Prop}{a:HT}:a∈pick D is↔a∈ids D/\is a:=by
 unfold pick;rw [dt,List.mem_filter];simp
theorem D9{D:DG}{is:HT->Prop}{l:List HT}(h:∀a,a∈l↔a∈ids D/\is a):dA l=pick D is:=yF fun x=>by
 rw [h,List.mem_filter];simp
theorem mL(D:DG)(is:HT->Prop):(pick D is).length<=D.length:=by
 unfold pick;refine Nat.le_trans (qu _) (Nat.le_trans (List.length_filter_le _ _) ?_);rw [gF];exact Nat.le_refl _
noncomputable def dG(D:DG)(l:List HT):List HT:=pick D fun a=>∃h∈l,eB D a h
noncomputable def gV(D:DG)(h:HT):List HT:=pick D fun a=>mh D h a
open Go.RowKit
structure NS(w:World)(F:Nat->Prop)(A:Option Addr)(n:Nat)(l:List DN):Prop where
 len:l.length=n
 at_:∀(i:Nat) nd,l[i]? =some nd->∃a pA pn pc,A=some a/\a.block<w.heap.size/\F a.block/\Cells w (a.add (i*33)) (nd.id.1.push (.slice pA pn pc))/\HS w pA pn nd.ps/\∀b,pA=some b->F b.block
section
variable{w w':World}{F F' S:Nat->Prop}{A:Option Addr}{n:Nat}{l:List DN}
theorem NS.aF(h:NS w F A n l)(hk:Kept S w w')(hn:∀k,F k->¬S k):NS w' F A n l:=⟨h.len,fun i nd hi=>by
 obtain⟨a,pA,pn,pc,h1,h2,h3,h4,h5,h6⟩:=h.at_ i nd hi;exact⟨a,pA,pn,pc,h1,Nat.lt_of_lt_of_le h2 hk.size,h3,Cells.aF h4 hk (by rw [fg];exact hn _ h3),h5.aF hk (fun b hb=>hn _ (h6 b hb)),h6⟩⟩
theorem NS.mono(h:NS w F A n l)(hf:∀k,F k->F' k):NS w F' A n l:=⟨h.len,fun i nd hi=>by
 obtain⟨a,pA,pn,pc,h1,h2,h3,h4,h5,h6⟩:=h.at_ i nd hi;exact⟨a,pA,pn,pc,h1,h2,hf _ h3,h4,h5,fun b hb=>hf _ (h6 b hb)⟩⟩
theorem vB{h:HT}{v:Value}{j:Nat}{u:Value}(hj:h.1[j]? =some u):(h.1.push v)[j]? =some u:=by
 have cU:=(Array.getElem?_eq_some_iff.1 hj).1;rw [Array.getElem?_push,if_neg (by omega),hj]
theorem qz(h:HT)(v:Value):(h.1.push v)[32]? =some v:=by
 have:=h.2.1;rw [Array.getElem?_push,if_pos (by omega)]
theorem NS.id(h:NS w F A n l){i:Int}{nd:DN}(h0:0<=i)(hx:l[i.toNat]? =some nd){k:Array Value->Prop}(hk:k nd.id.1):
 (0<=i/\i<(n:Int))/\Is A fun a=>∃t:Array Value,(t.size=32/\Cells w ((a.add (i.toNat*33)).add 0) t)/\k t:=by
 obtain⟨a,pA,pn,pc,rfl,_,_,h4,_,_⟩:=h.at_ _ nd hx;have:=(lgeS hx).1;have:=h.len;refine⟨⟨h0,by omega⟩,nd.id.1,⟨nd.id.2.1,fun j v hj=>?_⟩,hk⟩;rw [add_zero];exact h4 j v (vB hj)
theorem NS.ps(h:NS w F A n l){i:Int}{nd:DN}(h0:0<=i)(hx:l[i.toNat]? =some nd){k:Option Addr->Nat->Nat->Prop}(hk:∀pA pn pc,HS w pA pn nd.ps->(∀b,pA=some b->F b.block)->k pA pn pc):
 (0<=i/\i<(n:Int))/\Is A fun a=>∃pA pn pc,w.cell? ((a.add (i.toNat*33)).add 32)=some (.slice pA pn pc)/\k pA pn pc:=by
 obtain⟨a,pA,pn,pc,rfl,_,_,h4,h5,h6⟩:=h.at_ _ nd hx;have:=(lgeS hx).1;have:=h.len;exact⟨⟨h0,by omega⟩,pA,pn,pc,h4 32 _ (qz _ _),hk _ _ _ h5 h6⟩
theorem NS.cells(h:NS w F A n l):∀k,k<=n->∃news:List Value,news.length=k*33/\(∀a,A=some a->∀j u,news[j]? =some u->w.cell? (a.add j)=some u)/\(∀u∈news,u.oneCell'=true)/\
 ∀(i:Nat) nd,i<k->l[i]? =some nd->∃pA pn pc,HS w pA pn nd.ps/\(∀b,pA=some b->F b.block)/\∀(j:Nat) v,(nd.id.1.push (.slice pA pn pc))[j]? =some v->news[i*33+j]? =some v
 |0,_=>⟨[],rfl,by simp,by simp,by intro i nd hi;omega⟩
 |k+1,hk=>by
  obtain⟨news,e1,e2,e3,e4⟩:=h.cells k (by omega);have hlen:=h.len;obtain⟨nd,ft⟩:∃nd,l[k]? =some nd:=⟨_,List.getElem?_eq_getElem (by omega)⟩;obtain⟨a,pA,pn,pc,hA,h2,h3,h4,h5,h6⟩:=h.at_ _ nd ft;have mu:(nd.id.1.push (.slice pA pn pc)).size=33:=by rw [Array.size_push,nd.id.2.1]
  refine⟨news++(nd.id.1.push (.slice pA pn pc)).toList,by rw [List.length_append,e1,Array.length_toList,mu];omega,fun a' Ca j u hj=>?_,fun u hu=>?_,fun i md hi v7=>?_⟩
  ·rw [List.getElem?_append]at hj
   split at hj
   ·exact e2 a' Ca j u hj
   ·rename_i gE
    rw [hA]at Ca;cases Ca;have:=h4 (j-news.length) u (by rw [<-Array.getElem?_toList];exact hj)
    rwa [lU,show k*33+(j-news.length)=j by omega]at this
  ·rw [List.mem_append]at hu
   rcases hu with hu|hu
   ·exact e3 u hu
   ·simp only [Array.toList_push,List.mem_append,List.mem_singleton]at hu
    rcases hu with hu|rfl
    ·exact nd.id.2.one u hu
    ·rfl
  ·by_cases hik:i<k
   ·obtain⟨qA,qn,qc,f1,f2,f3⟩:=e4 i md hik v7
    exact⟨qA,qn,qc,f1,f2,fun j v hj=>by
     have:=f3 j v hj;rw [List.getElem?_append_left (lgeS this).1];exact this⟩
   ·have:i=k:=by omega
    subst this;rw [ft]at v7;cases v7;exact⟨pA,pn,pc,h5,h6,fun j v hj=>by
     rw [List.getElem?_append_right (by omega),e1,show i*33+j-i*33=j by omega,Array.getElem?_toList];exact hj⟩
theorem yG:zI prog cO bW 33 56:=⟨by kernel_rfl,by kernel_rfl⟩
theorem EO:Ss prog bW=some ([(0,32),(32,1)],List.replicate 32 (.int .u8 0)++ [.slice none 0 0]):=by kernel_rfl
theorem GL(h:HT)(A:Option Addr)(n c:Nat):prog.built bW [(0,.agg h.1),(1,.slice A n c)]=some (h.1.push (.slice A n c)):=by
 have hs:=h.2.1;rw [ou EO,jf (off:=0) (size:=32) rfl (by simpa [Value.cells]using hs) (by simp),jf (off:=32) (size:=1) rfl rfl (by
  rw [List.size_toArray,mH (by simp [Value.cells,hs])];simp)]
 simp only [Instr.fill,Option.some.injEq];apply Array.ext';unfold ig;simp [Value.cells,hs]
structure uM(w:World)(F:Nat->Prop)(r:Nat)(D:DG):Prop where
 ex:∃(A:Option Addr) (c:Nat) (cs:Array Value) (t:TypeId),w.heap[r]? =some (.cells cs t (0,0))/\cs[0]? =some (.slice A D.length c)/\NS w F A D.length D
 iC:¬F r
theorem uM.aF{r:Nat}{D:DG}(h:uM w F r D)(hk:Kept S w w')(hr:¬S r)(hn:∀k,F k->¬S k):uM w' F r D:=by
 obtain⟨A,c,cs,t,h1,h0,h2⟩:=h.ex;exact⟨⟨A,c,cs,t,hk.heap h1 hr,h0,h2.aF hk hn⟩,h.iC⟩
theorem uM.same{r:Nat}{D:DG}(h:uM w F r D)(hk:Kept Nil w w'):uM w' F r D:=h.aF hk (fun h=>h) (fun _ _ h=>h)
theorem uM.lt{r:Nat}{D:DG}(h:uM w F r D):r<w.heap.size:=by obtain⟨A,c,cs,t,h1,_⟩:=h.ex;exact aV h1
theorem uM.go{r:Nat}{D:DG}(h:uM w F r D){k:Option Addr->Nat->Nat->Prop}(hk:∀A c,NS w F A D.length D->k A D.length c):
 ∃A n m,w.cell? ((⟨r,0,none⟩:Addr).add 0)=some (.slice A n m)/\k A n m:=by
 obtain⟨A,c,cs,t,h1,h0,h2⟩:=h.ex;exact⟨A,_,c,by rw [add_zero,aD h1];exact h0,hk A c h2⟩
theorem uM.go'{r:Nat}{D:DG}(h:uM w F r D)(kw:Kept Nil w w'){k:Option Addr->Nat->Nat->Prop}(hk:∀A c,NS w F A D.length D->k A D.length c):
 ∃A n m,w'.cell? ((⟨r,0,none⟩:Addr).add 0)=some (.slice A n m)/\k A n m:=by
 obtain⟨A,c,cs,t,h1,h0,h2⟩:=h.ex;exact⟨A,_,c,by rw [add_zero,aD (kw.heap h1 (fun h=>h))];exact h0,hk A c h2⟩
theorem NS.ps'(h:NS w F A n l)(kw:Kept Nil w w'){i:Int}{nd:DN}(h0:0<=i)(hx:l[i.toNat]? =some nd){k:Option Addr->Nat->Nat->Prop}(hk:∀pA pn pc,HS w pA pn nd.ps->k pA pn pc):
 (0<=i/\i<(n:Int))/\Is A fun a=>∃pA pn pc,w'.cell? ((a.add (i.toNat*33)).add 32)=some (.slice pA pn pc)/\k pA pn pc:=by
 obtain⟨a,pA,pn,pc,rfl,_,_,h4,h5,h6⟩:=h.at_ _ nd hx;have:=(lgeS hx).1;have:=h.len;exact⟨⟨h0,by omega⟩,pA,pn,pc,(kw.cell (h4 32 _ (qz _ _)) (fun h=>h)),hk _ _ _ h5⟩
def xz(D:DG)(h:HT):Int:=match pos h (ids D) 0 with|some j=>(j:Int)|none=> -1
theorem qH{D:DG}{h:HT}:xz D h<0↔h∉ids D:=by
 unfold xz;rw [<-pR (l:=ids D) (i:=0)];cases hp:pos h (ids D) 0<;>simp
theorem tJ{D:DG}{h:HT}:xz D h>=0↔h∈ids D:=by
 have:= @qH D h;constructor
 ·intro hg;exact Classical.byContradiction fun hn=>by have:=this.2 hn;omega
 ·intro hm;exact Classical.byContradiction fun hn=>this.1 (by omega) hm
theorem ER{D:DG}{h:HT}(hm:h∈ids D):∃nd,xz D h>=0/\D[(xz D h).toNat]? =some nd/\nd.id=h:=by
 have h1:=tJ.2 hm;unfold xz at*;cases hp:pos h (ids D) 0 with
 |none=>rw [hp]at h1;simp at h1
 |some j=>
  obtain⟨_,h2⟩:=vC hp;obtain⟨nd,h3,h4⟩:=IL h2;exact⟨nd,by simp,by simpa using h3,h4⟩
theorem yT{D:DG}{i:Nat}{nd:DN}(h:D[i]? =some nd):(ids D).take (i+1)=(ids D).take i++ [nd.id]:=by
 rw [List.take_add_one,qE h];rfl
theorem xQ{h:HT}:∀ {l:List HT} {i k:Nat},h∉l.take k->l[k]? =some h->pos h l i=some (i+k)
 | [],_,_,_,e=>by simp at e
 |x::l,i,0,_,e=>by
  simp only [List.getElem?_cons_zero,Option.some.injEq]at e;unfold pos;rw [if_pos e.symm,Nat.add_zero]
 |x::l,i,k+1,hn,e=>by
  simp only [List.getElem?_cons_succ]at e;rw [List.take_succ_cons,List.mem_cons,not_or]at hn;unfold pos;rw [if_neg hn.1,xQ (i:=i+1) hn.2 e]
  congr 1
  omega
variable{r:Nat}{D:DG}{K:Value->World->Prop}
theorem ln(H:uM w F r D)(hD:D.length<=1000000)(h:HT)(hK:∀w',Kept Nil w w'->K (.int .i64 (xz D h)) w'):
 bz prog bK.id #[.pointer (some ⟨r,0,none⟩),.agg h.1] w K:=by
 refine bK.of ?_;unfold bK.W;intro w3;have k3:Kept Nil w w3:=(Kept.refl Nil w).alloc _;have nC:w3.heap[w.heap.size]? =some (.cells h.1 ag (0,0)):=aI w _;clear_value w3;refine bK.cy (I:=fun s w'=>∃i:Nat,s=(0,(i:Int))/\i<=D.length/\Kept Nil w3 w'/\h∉(ids D).take i) (μ:=fun s _=>((D.length:Int)-s.2).toNat) (s:=(0,0)) ⟨0,rfl,Nat.zero_le _,Kept.refl _ _,by simp⟩ ?_;rintro s w' ⟨i,rfl,hi,kw,kW⟩;have kk:Kept Nil w w':=k3.tt kw;refine(H.same kk).go fun A c sO=>?_;refine Split.dec (fun jQ=>?_) (fun gE=>?_)
 ·simp only at jQ
  have dY:i<D.length:=by omega
  obtain⟨nd,ft⟩:∃nd,D[i]? =some nd:=⟨_,List.getElem?_eq_getElem dY⟩;intro w10;have mD:Kept Nil w3 w10:=kw.drew;have F8:Kept Nil w w10:=k3.tt mD;clear_value w10;refine(H.same F8).go fun A c sO=>?_;refine sO.id (i:=(i:Int)) (by omega) (by rw [Int.toNat_natCast];exact ft) ⟨h.1,⟨h.2.1,Cells.bJ (mD.heap nC (fun h=>h))⟩,⟨nd.id.2.ints,h.2.ints⟩,?_⟩;rw [dC];refine Split.dec (fun he=>?_) (fun he=>?_)
  ·have:=hK w10 F8
   unfold xz at this;rw [xQ (i:=0) kW (by rw [<-he];exact qE ft),Nat.zero_add]at this;exact this
  ·simp only
   rw [dH (n:=(i:Int)) (by omega) (by omega)];refine⟨(0,(i:Int)+1),rfl,⟨i+1,rfl,dY,mD,?_⟩,by simp only;omega⟩;rw [yT ft,List.mem_append,List.mem_singleton,not_or];exact⟨kW,fun e=>he e.symm⟩
 ·simp only at gE
  rw [aS,bK.dq];rw [List.take_of_length_le (by rw [gF];omega)]at kW;have:=hK w' kk;unfold xz at this;rw [pR.2 kW]at this;exact this
end
section
variable{w w':World}{F F' S:Nat->Prop}{A:Option Addr}{n c B:Nat}{l:List DN}{news:List Value}{r:Nat}{D:DG}{K:Value->World->Prop}
theorem FQ(h:Row w B bW 33 A n c news)(hl:l.length=n)(hF:∀k,bn A=some k->F k)
 (hc:∀(i:Nat) nd,l[i]? =some nd->∃pA pn pc,HS w pA pn nd.ps/\(∀b,pA=some b->F b.block)/\∀(j:Nat) v,(nd.id.1.push (.slice pA pn pc))[j]? =some v->news[i*33+j]? =some v):NS w F A n l:=
 ⟨hl,fun i nd hi=>by
   obtain⟨pA,pn,pc,h1,h2,h3⟩:=hc i nd hi;have:=(lgeS hi).1;obtain⟨b,rfl⟩:=Row.some h (by omega);obtain⟨_,cur,lv⟩:=Row.bJ h (k:=b) rfl;exact⟨_,pA,pn,pc,rfl,aV lv,hF b rfl,fun j v hj=>by rw [lU];exact Row.cells h _ _ (h3 j v hj),h1,h2⟩⟩
theorem yw(h:NS w F A n l){cx:Nat}(h0:0<n)(hn:n<=100000):
 ∃A' c' w' news,(Builtin.append_ #[cO,cO] cO #[.slice none 0 0,.slice A n cx]).run prog w=.ok (.slice A' n c') w'/\
  Row w' w.heap.size bW 33 A' n c' news/\Kept Nil w w'/\
  ∀(i:Nat) nd,l[i]? =some nd->∃pA pn pc,HS w pA pn nd.ps/\(∀b,pA=some b->F b.block)/\∀(j:Nat) v,(nd.id.1.push (.slice pA pn pc))[j]? =some v->news[i*33+j]? =some v:=by
 obtain⟨news,e1,e2,e3,e4⟩:=h.cells n (Nat.le_refl _);have hlen:=h.len;obtain⟨nd,ft⟩:∃nd,l[0]? =some nd:=⟨_,List.getElem?_eq_getElem (by omega)⟩;obtain⟨a,_,_,_,rfl,_⟩:=h.at_ _ nd ft;obtain⟨A',c',w',hr,fG,hg,hb⟩:=fR (P:=prog) (t:=cO) (ty:=cO) (bytes:=56) yG (Row.nil w w.heap.size _ _) (a:=a) (m:=n) (cx:=cx) (news:=news) e1 (e2 a rfl) e3 (by omega) (by unfold maxLen;omega) (Nat.le_refl _);rw [Nat.zero_add]at hr fG;rw [List.nil_append]at fG;exact⟨A',c',w',news,hr,fG,Kept.eQ (Kept.refl _ _) hg (fun k hk=>by cases hk),fun i nd hi=>e4 i nd (by have:=(lgeS hi).1;omega) hi⟩
theorem yx(h:Row w B bW 33 A n c news)(hn:n<=100000)(hB:B<=w.heap.size){b:Nat}{arr:Array Value}(hb:w.heap[b]? =some (.cells arr bW (0,0)))(hs:arr.size=33)(h1:∀u∈arr.toList,u.oneCell'=true):
 ∃A' c' w',(Builtin.append_ #[cO,cO] cO #[.slice A n c,.slice (some ⟨b,0,none⟩) 1 1]).run prog w=.ok (.slice A' (n+1) c') w'/\
  Row w' B bW 33 A' (n+1) c' (news++arr.toList)/\w.grownBy w' (bn A):=by
 obtain⟨A',c',w',hr,fG,hg,hb⟩:=fR (P:=prog) (t:=cO) (ty:=cO) (bytes:=56) yG h (a:=⟨b,0,none⟩) (m:=1) (cx:=1) (news:=arr.toList) (by simpa using hs)
  (fun j u hj=>by rw [bt,Nat.zero_add,aD hb];simpa using hj) h1 (by omega) (by unfold maxLen;omega) hB
 exact⟨A',c',w',hr,fG,hg⟩
theorem Lb{nd:DN}{pA:Option Addr}{pn pc:Nat}(h:Row w B bW 33 A (n+1) c (news++(nd.id.1.push (.slice pA pn pc)).toList))(zD:news.length=n*33)(hl:l.length=n)(hF:∀k,bn A=some k->F k)
 (hc:∀(i:Nat) nd,l[i]? =some nd->∃pA pn pc,HS w pA pn nd.ps/\(∀b,pA=some b->F b.block)/\∀(j:Nat) v,(nd.id.1.push (.slice pA pn pc))[j]? =some v->news[i*33+j]? =some v)
 (hp:HS w pA pn nd.ps) (Ky:∀b,pA=some b->F b.block):NS w F A (n+1) (l++ [nd]):=by
 refine FQ h (by simp [hl]) hF fun i md hi=>?_;rw [List.getElem?_append]at hi;split at hi
 ·obtain⟨qA,qn,qc,h1,h2,h3⟩:=hc i md hi
  exact⟨qA,qn,qc,h1,h2,fun j v hj=>by
   have:=h3 j v hj;rw [List.getElem?_append_left (lgeS this).1];exact this⟩
 ·rename_i gE
  have C8:i=n/\md=nd:=by
   cases hk:i-l.length with
   |zero=>rw [hk]at hi;exact⟨by omega,by simpa using hi.symm⟩
   |succ k=>rw [hk]at hi;simp at hi
  obtain⟨rfl,rfl⟩:=C8;exact⟨pA,pn,pc,hp,Ky,fun j v hj=>by
   rw [List.getElem?_append_right (by omega),zD,show i*33+j-i*33=j by omega,Array.getElem?_toList];exact hj⟩
theorem NS.same(h:NS w F A n l)(hk:Kept Nil w w'):NS w' F A n l:=h.aF hk fun _ _ h=>h
theorem uM.mono(h:uM w F r D)(hf:∀k,F k->F' k)(hr:¬F' r):uM w F' r D:=by
 obtain⟨A,c,cs,t,h1,h0,h2⟩:=h.ex;exact⟨⟨A,c,cs,t,h1,h0,h2.mono hf⟩,hr⟩
theorem Ap(h:HT)(A:Option Addr)(n c:Nat):∀u∈(h.1.push (.slice A n c)).toList,u.oneCell'=true:=fun u hu=>by
 simp only [Array.toList_push,List.mem_append,List.mem_singleton]at hu;rcases hu with hu|rfl
 ·exact h.2.one u hu
 ·rfl
theorem D6(H:uM w F r D)(W:jG D)(hD:D.length<=10000){h:HT}{lp:List HT}{A:Option Addr}{n c:Nat}(hl:HS w A n lp)(hn:n<=400000)
 (hK:∀w',uM w' (fun k=>F k\/(w.heap.size<=k/\k<w'.heap.size)) r (nz D h lp)->Kept (· =r) w w'->K (.int .i64 (dF D h lp)) w'):
 bz prog bD.id #[.pointer (some ⟨r,0,none⟩),.agg h.1,.slice A n c] w K:=by
 have aaV:=H.lt;have hlen:=hl.len;have kW:∀w',Kept Nil w w'->∀e,dF D h lp=e->e≠0->K (.int .i64 e) w':=fun w' k e he fD=>by
  have:=hK w' ?_ (k.mono fun _ _ h=>h.elim)
  ·rw [he]at this;exact this
  ·unfold nz
   rw [if_neg (by rw [he];exact fD)];exact(H.same k).mono (fun _ h=>.inl h) (fun e=>e.elim H.iC (fun h=>absurd h.1 (by omega)))
 refine bD.of ?_;unfold bD.W;intro w4;have k4:Kept Nil w w4:=(Kept.refl _ _).alloc _;have pg:w4.heap[w.heap.size]? =some (.cells h.1 ag (0,0)):=aI w _;clear_value w4;refine⟨h.1,⟨h.2.1,Cells.bJ pg⟩,ln (H.same k4) (by omega) h fun w7 k7=>⟨_,rfl,Split.dec (fun gE=>?_) (fun Qw=>?_)⟩⟩
 ·refine kW w7 (k4.tt k7) 7 ?_ (by omega)
  unfold dF;rw [if_pos (tJ.1 gE)]
 have y5:h∉ids D:=fun hm=>Qw (tJ.2 hm);have CC:Kept Nil w w7:=k4.tt k7;refine rp (hl.same CC) hn fun Ho KJ w10 vu mD=>⟨Ho,_,KJ,rfl,?_⟩;have F8:Kept Nil w w10:=CC.tt mD;have BY:(dA lp).length<=n:=by have:=qu lp;omega
 by_cases h0:(dA lp).length=0
 ·refine Split.yes (by simp [h0]) ?_
  refine kW w10 F8 9 ?_ (by omega);unfold dF;rw [if_neg y5,if_pos (.inl h0)]
 refine Split.no (beq_eq_false_iff_ne.2 (by omega)) ?_;by_cases h1:(dA lp).length≠n
 ·refine Split.yes (bne_iff_ne.2 (by omega)) ?_
  refine kW w10 F8 9 ?_ (by omega);unfold dF;rw [if_neg y5,if_pos (.inr (by omega))]
 replace h1:(dA lp).length=n:=by omega
 refine Split.no (by rw [h1];simp) ?_;refine bD.cy (I:=fun s w'=>∃i:Nat,s=(0,(i:Int))/\i<=(dA lp).length/\(∀p∈(dA lp).take i,p∈ids D)/\Kept Nil w10 w') (μ:=fun s _=>(((dA lp).length:Int)-s.2).toNat) (s:=(0,0)) ⟨0,rfl,Nat.zero_le _,by simp,Kept.refl _ _⟩ ?_;rintro s w' ⟨i,rfl,hi,dm,kw⟩;have kk:Kept Nil w w':=F8.tt kw;have Pa:bM w' w7.heap.size Ho (dA lp).length KJ (dA lp):=Row.aF vu kw (fun _ _ h=>h);refine Split.dec (fun jQ=>?_) (fun gE=>?_)
 ·simp only at jQ
  have dY:i<(dA lp).length:=by omega
  obtain⟨x,hx⟩:∃x,(dA lp)[i]? =some x:=⟨_,List.getElem?_eq_getElem dY⟩;refine Pa.hs.load (i:=(i:Int)) (by omega) hx (ln (H.same kk) (by omega) x fun w2 k2=>⟨_,rfl,Split.dec (fun y7=>?_) (fun jK=>?_)⟩)
  ·have Nt:=qH.1 y7
   refine kW w2 (kk.tt k2) 6 ?_ (by omega);unfold dF;rw [if_neg y5,if_neg (by omega),if_pos ⟨x,List.mem_of_getElem? hx,Nt⟩]
  ·simp only
   rw [dH (n:=(i:Int)) (by omega) (by omega)];refine⟨(0,(i:Int)+1),rfl,⟨i+1,rfl,dY,fun p hp=>?_,kw.tt k2⟩,by simp only;omega⟩;rcases(bN hx).1 hp with hp|rfl
   ·exact dm p hp
   ·exact tJ.1 (by omega)
 ·simp only at gE
  rw [List.take_of_length_le (by omega)]at dm;have Wv:dF D h lp=0:=by
   unfold dF;rw [if_neg y5,if_neg (by omega),if_neg (fun⟨p,hp,LQ⟩=>LQ (dm p hp))]
  have hD':nz D h lp=D++ [⟨h,dA lp⟩]:=by unfold nz;rw [if_pos Wv]
  rw [Wv,hD']at hK;have Oo:=W.pos;rw [aS,bD.dq];unfold bD.cV;intro DS;have PD:Kept Nil w DS:=kk.drew;have IG:Kept Nil w10 DS:=kw.drew;have aiz:DS.heap=w'.heap:=rfl;clear_value DS;have WO:DS.heap[w.heap.size]? =some (.cells h.1 ag (0,0)):=(IG.heap (mD.heap (k7.heap pg (fun h=>h)) (fun h=>h)) (fun h=>h));obtain⟨A,c,alm,t27,IU,Ws,sO⟩:=(H.same PD).ex;refine⟨A,_,c,by rw [add_zero,aD IU];exact Ws,h.1,⟨h.2.1,Cells.bJ WO⟩,?_⟩;rw [GL];have mu:(h.1.push (.slice Ho (dA lp).length KJ)).size=33:=by rw [Array.size_push,h.2.1]
  have ajz:∀ {v},Kept Nil w v->w.heap.size<=v.heap.size:=fun k=>k.size;have adA:∀b,Ho=some b->w.heap.size<=b.block:=fun b hb=>Nat.le_trans CC.size (Row.bJ vu (k:=b.block) (by rw [hb];rfl)).1;have Gv:∀(A':Option Addr) (c':Nat) (v:World) (news:List Value),Row v DS.heap.size bW 33 A' (D.length+1) c' (news++(h.1.push (.slice Ho (dA lp).length KJ)).toList)->news.length=D.length*33->Kept Nil DS v->
   (∀(i:Nat) nd,D[i]? =some nd->∃pA pn pc,HS v pA pn nd.ps/\(∀b,pA=some b->F b.block)/\∀(j:Nat) u,(nd.id.1.push (.slice pA pn pc))[j]? =some u->news[i*33+j]? =some u)->
   Wr v ((⟨r,0,none⟩:Addr).add 0)/\K (.int .i64 0) (v.setCell ((⟨r,0,none⟩:Addr).add 0) (.slice A' (D.length+1) c')):=by
   intro A' c' v news fG zD kv wh;have Pm:Kept Nil w v:=PD.tt kv;obtain⟨A0,c0,cs0,t0,jx,acG,_⟩:=(H.same Pm).ex;have NU:=(Array.getElem?_eq_some_iff.1 acG).1;rw [add_zero];have k3:Kept (· =r) v (v.setCell ⟨r,0,none⟩ (.slice A' (D.length+1) c')):=Kept.setCell (S:=fun k=>k=r) (Kept.refl _ v) (p:=⟨r,0,none⟩) (fun _=>rfl) _;refine⟨dS jx NU,hK _ ⟨⟨A',c',cs0.setIfInBounds 0 (.slice A' (D.length+1) c'),t0,?_,?_,?_⟩,fun e=>e.elim H.iC (fun h=>absurd h.1 (by omega))⟩ ((Pm.mono (S':=fun k=>k=r) (fun _ _ h=>h.elim)).tt k3)⟩
   ·rw [di jx 0]
   ·rw [List.length_append]
    simp [NU]
   ·have CR:=k3.size
    have Xi:∀b,Ho=some b->b.block<v.heap.size:=fun b hb=>by
     obtain⟨_,cur,hc⟩:=Row.bJ vu (k:=b.block) (by rw [hb];rfl);have:=aV hc;have:=IG.size;have:=kv.size;omega
    have Qq:=Lb (F:=fun k=>F k\/(w.heap.size<=k/\k<(v.setCell ⟨r,0,none⟩ (.slice A' (D.length+1) c')).heap.size)) (nd:=⟨h,dA lp⟩) fG zD rfl (fun k hk=>by
     obtain⟨h1,cur,hc⟩:=Row.bJ fG hk;have:=aV hc;have:=PD.size;exact .inr ⟨by omega,by omega⟩) (fun i nd hi=>by
     obtain⟨pA,pn,pc,h1,h2,h3⟩:=wh i nd hi;exact⟨pA,pn,pc,h1,fun b hb=>.inl (h2 b hb),h3⟩) ((vu.hs.same IG).same kv) (fun b hb=>.inr ⟨adA b hb,by have:=Xi b hb;omega⟩)
    have:=Qq.aF k3 (fun k hk e=>by
     subst e;rcases hk with hk|hk
     ·exact H.iC hk
     ·omega)
    rw [List.length_append];exact this
  refine⟨?_,?_⟩
  ·obtain⟨A1,c1,sM,news,ns,lM,CF,wh⟩:=yw sO (cx:=c) Oo (by omega)
   refine⟨A1,_,c1,sM,ns,⟨h.1,rfl,h.2.1,Cells.bJ (CF.heap WO (fun h=>h))⟩,mu,?_⟩;intro oB;have aaC:oB=sM.alloc (.cells (h.1.push (.slice Ho (dA lp).length KJ)) bW):=by
    show sM.alloc (.cells ((h.1.push (.slice Ho (dA lp).length KJ)).toList++ []).toArray bW)=_
    rw [List.append_nil,Array.toArray_toList]
   have BU:Kept Nil sM oB:=(Kept.refl _ _).alloc _;have WM:oB.heap[sM.heap.size]? =some (.cells (h.1.push (.slice Ho (dA lp).length KJ)) bW (0,0)):=by rw [aaC];exact aI sM _
   clear_value oB;have Aj:=Row.aF lM BU (fun _ _ h=>h);obtain⟨A2,c2,uz,jP,gm,Mg⟩:=yx Aj (by omega) (Nat.le_trans CF.size BU.size) WM mu (Ap _ _ _ _);have uC:Kept Nil DS uz:=Kept.eQ (CF.tt BU) Mg (fun k hk=>(Row.bJ lM hk).1);refine⟨A2,_,c2,uz,jP,?_⟩;exact Gv A2 c2 uz news gm (Row.len lM) uC (fun i nd hi=>by
    obtain⟨pA,pn,pc,h1,h2,h3⟩:=wh i nd hi;exact⟨pA,pn,pc,h1.same uC,h2,h3⟩)
  ·refine⟨mu,?_⟩
   intro G8;have aaB:G8=DS.alloc (.cells (h.1.push (.slice Ho (dA lp).length KJ)) bW):=by
    show DS.alloc (.cells ((h.1.push (.slice Ho (dA lp).length KJ)).toList++ []).toArray bW)=_
    rw [List.append_nil,Array.toArray_toList]
   have It:Kept Nil DS G8:=(Kept.refl _ _).alloc _;have Mm:G8.heap[DS.heap.size]? =some (.cells (h.1.push (.slice Ho (dA lp).length KJ)) bW (0,0)):=by rw [aaB];exact aI DS _
   clear_value G8;refine⟨by rw [add_zero,aD (It.heap IU (fun h=>h))];exact Ws,?_⟩;obtain⟨A1,c1,OO,news,ns,lM,PA,wh⟩:=yw (sO.same It) (cx:=c) Oo (by omega);have WK:=PA.heap Mm (fun h=>h);obtain⟨A2,c2,Km,jP,gm,Mg⟩:=yx lM (by omega) PA.size WK mu (Ap _ _ _ _);have T3:Kept Nil G8 Km:=Kept.eQ PA Mg (fun k hk=>(Row.bJ lM hk).1);have Yh:Kept Nil DS Km:=It.tt T3;refine⟨A1,_,c1,OO,ns,A2,_,c2,Km,jP,?_⟩;exact Gv A2 c2 Km news (Row.base gm fun k hk=>Nat.le_trans It.size (Row.bJ gm hk).1) (Row.len lM) Yh (fun i nd hi=>by
    obtain⟨pA,pn,pc,h1,h2,h3⟩:=wh i nd hi;exact⟨pA,pn,pc,h1.same T3,h2,h3⟩)
end
theorem tl:∀ {l m:List HT},l.Nodup->(∀x∈l,x∈m)->l.length<=m.length
 | [],_,_,_=>Nat.zero_le _
 |x::l,m,hn,h=>by
  rw [List.nodup_cons]at hn;have hx:=h x (by simp);have:=tl (l:=l) (m:=m.erase x) hn.2 (fun y hy=>by
   have fD:y≠x:=fun e=>hn.1 (e▸hy);exact(List.mem_erase_of_ne fD).2 (h y (by simp [hy])))
  rw [List.length_erase_of_mem hx]at this;have jK:0<m.length:=List.length_pos_of_mem hx;simp only [List.length_cons];omega
structure PB(w0 w':World)(D:DG)(l out:List HT)(A1:Option Addr)(c1:Nat)(A2:Option Addr)(c2:Nat):Prop where
 r1:bM w' w0.heap.size A1 out.length c1 out
 r2:bM w' w0.heap.size A2 (l.length+out.length) c2 (l++out)
 ap:∀k,bn A1=some k->bn A2≠some k
 nd:out.Nodup
 zr:∀x∈out,∃h∈l,eB D x h
 kp:Kept Nil w0 w'
section
variable{w w' jl:World}{F S:Nat->Prop}{D:DG}{l out:List HT}{A1 A2:Option Addr}{c1 c2 r:Nat}{K:Value->World->Prop}
theorem PB.same(h:PB w w' D l out A1 c1 A2 c2)(k:Kept Nil w' jl):PB w jl D l out A1 c1 A2 c2:=
 ⟨Row.aF h.r1 k (fun _ _ h=>h),Row.aF h.r2 k (fun _ _ h=>h),h.ap,h.nd,h.zr,h.kp.tt k⟩
theorem PB.len(h:PB w w' D l out A1 c1 A2 c2)(W:jG D):out.length<=D.length:=by
 rw [<-gF D];exact tl h.nd fun x hx=>by obtain⟨_,_,ha⟩:=h.zr x hx;exact(ha.mem W).1
theorem jq(w:World)(x:HT):HS (w.alloc (.cells (x.1.toList++ []).toArray ag)) (some ⟨w.heap.size,0,none⟩) 1 [x]:=by
 refine HS.one (t:=ag) (fr:=(0,0)) ?_;rw [List.append_nil,Array.toArray_toList];exact aI w _
theorem PB.add(h:PB w w' D l out A1 c1 A2 c2){x:HT}(hx:x∉out)(ha:∃h∈l,eB D x h)(hb:l.length+out.length<=500000):
 ∃Kj Hk v,(Builtin.append_ #[ay,ay] ay #[.slice A1 out.length c1,.slice (some ⟨w'.heap.size,0,none⟩) 1 1]).run prog (w'.alloc (.cells (x.1.toList++ []).toArray ag))=.ok (.slice Kj (out.length+1) Hk) v/\Kept (fun k=>w.heap.size<=k) w' v/\
 ∃Hm zG u,(Builtin.append_ #[ay,ay] ay #[.slice A2 (l.length+out.length) c2,.slice (some ⟨v.heap.size,0,none⟩) 1 1]).run prog (v.alloc (.cells (x.1.toList++ []).toArray ag))=.ok (.slice Hm (l.length+out.length+1) zG) u/\
  PB w u D l (out++ [x]) Kj Hk Hm zG:=by
 have hkw:=h.kp.size;have k1:Kept Nil w' (w'.alloc (.cells (x.1.toList++ []).toArray ag)):=(Kept.refl _ _).alloc _;have yY:=jq w' x;generalize w'.alloc (.cells (x.1.toList++ []).toArray ag)=w1 at k1 yY⊢;have r1:bM w1 w.heap.size A1 out.length c1 out:=Row.aF h.r1 k1 (fun _ _ h=>h);have ai3:=k1.size;obtain⟨Kj,Hk,v,ns,lM,hg1,zc⟩:=cK (cx:=1) ay r1 yY (by omega) (by omega);have Z5:Kept (fun k=>bn A1=some k) w1 v:=Kept.grown (Kept.refl _ _) hg1 (fun k hk _=>hk);have hA1:∀k,bn A1=some k->w.heap.size<=k/\k<w'.heap.size:=fun k hk=>by
  obtain⟨h1,cur,hc⟩:=Row.bJ h.r1 hk;exact⟨h1,aV hc⟩
 have Oq:∀k,bn A2=some k->w.heap.size<=k/\k<w'.heap.size:=fun k hk=>by
  obtain⟨h1,cur,hc⟩:=Row.bJ h.r2 hk;exact⟨h1,aV hc⟩
 have kv:Kept (fun k=>w.heap.size<=k) w' v:=(k1.mono (fun _ _ h=>h.elim)).trans Z5 (fun k _ e=>(hA1 k e).1);refine⟨Kj,Hk,v,ns,kv,?_⟩;have k2:Kept Nil v (v.alloc (.cells (x.1.toList++ []).toArray ag)):=(Kept.refl _ _).alloc _;have yX:=jq v x;generalize v.alloc (.cells (x.1.toList++ []).toArray ag)=w2 at k2 yX⊢;have r2v:bM v w.heap.size A2 (l.length+out.length) c2 (l++out):=Row.aF (Row.aF h.r2 k1 (fun _ _ h=>h)) Z5 (fun k hk e=>h.ap k e hk);have r2:bM w2 w.heap.size A2 (l.length+out.length) c2 (l++out):=Row.aF r2v k2 (fun _ _ h=>h);have Qd:=Z5.size;have ai0:=k2.size;obtain⟨Hm,zG,u,jP,gm,Mg,kX⟩:=cK (cx:=1) ay r2 yX (by omega) (by omega);have ku:Kept (fun k=>bn A2=some k) w2 u:=Kept.grown (Kept.refl _ _) Mg (fun k hk _=>hk);have adz:∀k,bn Kj=some k->k<v.heap.size:=fun k hk=>by
  obtain⟨_,cur,hc⟩:=Row.bJ lM hk;exact aV hc
 have WU:∀k,bn Kj=some k->bn A2≠some k:=fun k hk e=>by
  rcases zc k hk with h'|h'
  ·exact h.ap k h' e
  ·have:=(Oq k e).2;omega
 have Tf:bM u w.heap.size Kj (out.length+1) Hk (out++ [x]):=Row.aF (Row.aF lM k2 (fun _ _ h=>h)) ku (fun k hk e=>WU k hk e);refine⟨Hm,zG,u,jP,?_⟩;refine⟨?_,?_,fun k hk e=>?_,?_,fun y hy=>?_,?_⟩
 ·rw [List.length_append];exact Tf
 ·rw [List.length_append,<-List.append_assoc,List.length_singleton,<-Nat.add_assoc];exact gm
 ·rcases kX k e with h'|h'
  ·exact WU k hk h'
  ·have:=adz k hk;omega
 ·rw [List.nodup_append]
  exact⟨h.nd,by simp,fun u hu v hv e=>hx (by rw [List.mem_singleton]at hv;rw [<-hv,<-e];exact hu)⟩
 ·rw [List.mem_append,List.mem_singleton]at hy
  rcases hy with hy|rfl
  ·exact h.zr y hy
  ·exact ha
 ·exact((h.kp.trans kv (fun k hk e=>absurd hk (by omega))).tt k2).trans ku (fun k hk e=>absurd (Oq k e).1 (by omega))
theorem FK(W:jG D){l out:List HT}(ha:∀x∈out,∃h∈l,eB D x h)(hc:∀h∈l++out,∀p,mh D p h->p∈out):dA out=dG D l:=by
 refine D9 fun a=>⟨fun h=>?_,fun⟨_,h,hl,han⟩=>?_⟩
 ·obtain⟨b,hb,lE⟩:=ha a h
  exact⟨(lE.mem W).1,b,hb,lE⟩
 ·have key:∀ {a h},eB D a h->h∈l++out->a∈out:=by
   intro a h han
   induction han with
   |one hp=>exact fun hm=>hc _ hm _ hp
   |more _ hp ih=>exact fun hm=>ih (by rw [List.mem_append];exact .inr (hc _ hm _ hp))
  exact key han (by rw [List.mem_append];exact .inl hl)
theorem An(H:uM w F r D)(W:jG D)(hD:D.length<=10000){A:Option Addr}{n c:Nat}(hl:HS w A n l)(hn:n<=10000)
 (hK:∀A' c' w',bM w' w.heap.size A' (dG D l).length c' (dG D l)->Kept Nil w w'->K (.slice A' (dG D l).length c') w'):
 bz prog aH.id #[.pointer (some ⟨r,0,none⟩),.slice A n c] w K:=by
 refine aH.of ?_;unfold aH.W;have hlen:=hl.len;obtain⟨A4,c4,w4,uU,iU,ED,pg⟩:=cK (cx:=c) ay (bM.nil w w.heap.size) hl (by omega) (Nat.le_refl _);rw [Nat.zero_add]at uU iU;rw [List.nil_append]at iU;have k4:Kept Nil w w4:=Kept.eQ (Kept.refl _ _) ED (fun k hk=>by cases hk);refine⟨A4,n,c4,w4,uU,?_⟩;refine aH.cy (I:=fun s w'=>∃(i:Nat) (out:List HT) (A1:Option Addr) (c1:Nat) (A2:Option Addr) (c2:Nat),s=(A1,out.length,c1,A2,n+out.length,c2,(i:Int))/\PB w w' D l out A1 c1 A2 c2/\i<=n+out.length/\∀h∈(l++out).take i,∀p,mh D p h->p∈out)
  (μ:=fun s _=>((n:Int)+D.length-s.2.2.2.2.2.2).toNat) (s:=(none,0,0,A4,n,c4,0))
  ⟨0,[],none,0,A4,c4,by simp,⟨bM.nil _ _,by simpa [hlen]using iU,(fun k hk=>by cases hk),List.Pairwise.nil,by simp,k4⟩,by omega,by simp⟩ ?_
 rintro s w' ⟨i,out,A1,c1,A2,c2,rfl,zB,hi,qP⟩;have U4:=zB.len W;have jP:=zB.r2;rw [hlen]at jP;refine Split.dec (fun jQ=>?_) (fun gE=>?_)
 ·simp only at jQ
  have dY:i<n+out.length:=by omega
  obtain⟨h,hh⟩:∃h,(l++out)[i]? =some h:=⟨_,List.getElem?_eq_getElem (by simp;omega)⟩;refine jP.hs.load (i:=(i:Int)) (by omega) hh (ln (H.same zB.kp) (by omega) h fun nn ui=>⟨_,rfl,Split.dec (fun y7=>?_) (fun jK=>?_)⟩)
  ·simp only
   rw [dH (n:=(i:Int)) (by omega) (by omega)];refine⟨(A1,out.length,c1,A2,n+out.length,c2,(i:Int)+1),rfl,⟨i+1,out,A1,c1,A2,c2,rfl,zB.same ui,by omega,fun x hx p hp=>?_⟩,by simp only;omega⟩;rcases(bN hh).1 hx with hx|rfl
   ·exact qP x hx p hp
   ·exact absurd (eB.mem W (.one hp)).2 (qH.1 y7)
  ·have iY:h∈ids D:=tJ.1 (by omega)
   obtain⟨nd,h1,h2,h3⟩:=ER iY;have Ew:=zB.same ui;have H13:=H.same Ew.kp;have De:∃b∈l,h=b\/eB D h b:=by
    have hm:=List.mem_of_getElem? hh;rw [List.mem_append]at hm;rcases hm with hm|hm
    ·exact⟨h,hm,.inl rfl⟩
    ·obtain⟨b,hb,lE⟩:=zB.zr h hm
     exact⟨b,hb,.inr lE⟩
   have jX:∀p,mh D p h↔p∈nd.ps:=fun p=>by
    constructor
    ·rintro⟨md,v7,e,hp⟩
     obtain⟨j,hj⟩:=List.mem_iff_getElem?.1 v7;have:=W.inj hj h2 (by rw [e,h3]);subst this;rw [h2]at hj;cases hj;exact hp
    ·exact fun hp=>⟨nd,List.mem_of_getElem? h2,h3,hp⟩
   have rO:nd.ps.length<=D.length:=by
    rw [<-gF D];exact tl (W.ss nd (List.mem_of_getElem? h2)).nodup fun x hx=>(eB.mem W (.one ((jX x).2 hx))).1
   refine H.go' Ew.kp fun A c sO=>sO.ps' Ew.kp h1 h2 fun pA pn pc oY=>?_;have LQ:=oY.len;refine aH.gS (I:=fun s w'=>∃(k:Nat) (nJ:List HT) (A1:Option Addr) (c1:Nat) (A2:Option Addr) (c2:Nat),s=(A1,nJ.length,c1,A2,n+nJ.length,c2,(k:Int))/\PB w w' D l nJ A1 c1 A2 c2/\k<=pn/\(∃m,nJ=out++m)/\(∀p∈nd.ps.take k,p∈nJ))
    (μ:=fun s _=>((pn:Int)-s.2.2.2.2.2.2).toNat) (s:=(A1,out.length,c1,A2,n+out.length,c2,0)) ⟨0,out,A1,c1,A2,c2,rfl,Ew,Nat.zero_le _,⟨[],by simp⟩,by simp⟩ ?_
   rintro s w1 ⟨k,nJ,B1,d1,B2,d2,rfl,hq,hk,⟨m,hm⟩,fQ⟩;have aji:=hq.len W;refine Split.dec (fun QE=>?_) (fun QN=>?_)
   ·simp only at QE
    have B8:k<pn:=by omega
    obtain⟨p,hp⟩:∃p,nd.ps[k]? =some p:=⟨_,List.getElem?_eq_getElem (by omega)⟩;have UW:=List.mem_of_getElem? hp;refine(oY.same hq.kp).load (i:=(k:Int)) (by omega) hp (tg p hq.r1.hs (by simp only;omega) fun xH Gd=>⟨_,rfl,?_⟩);have LN:=hq.same Gd;have ajc:(nd.ps.length:Int)<=10000:=by omega
    by_cases xn:p∈nJ
    ·refine Split.no (by rw [decide_eq_true xn];rfl) ?_
     simp only;rw [dH (n:=(k:Int)) (by omega) (by omega)];refine⟨(B1,nJ.length,d1,B2,n+nJ.length,d2,(k:Int)+1),rfl,⟨k+1,nJ,B1,d1,B2,d2,rfl,LN,B8,⟨m,hm⟩,fun q Bg=>?_⟩,by simp only;omega⟩;rcases(bN hp).1 Bg with Bg|rfl
     ·exact fQ q Bg
     ·exact xn
    ·refine Split.yes (by rw [decide_eq_false xn];rfl) ?_
     have WV:∃b∈l,eB D p b:=by
      obtain⟨b,hb,e|e⟩:=De
      ·subst e;exact⟨_,hb,.one ((jX p).2 UW)⟩
      ·exact⟨b,hb,eB.trans (.one ((jX p).2 UW)) e⟩
     obtain⟨Kj,Hk,v,ns,kv,Hm,zG,u,LM,hqu⟩:=LN.add xn WV (by omega);rw [hlen]at LM;refine(oY.same LN.kp).load (i:=(k:Int)) (by omega) hp ⟨p.2.1,?_⟩;refine⟨Kj,_,Hk,v,ns,?_⟩;have Pm:Kept Nil w v:=LN.kp.trans kv (fun k hk e=>absurd hk (by omega));refine(oY.same Pm).load (i:=(k:Int)) (by omega) hp ⟨p.2.1,?_⟩;refine⟨Hm,_,zG,u,LM,?_⟩;simp only;rw [dH (n:=(k:Int)) (by omega) (by omega)];have e1:nJ.length+1=(nJ++ [p]).length:=by simp
     rw [e1,show n+nJ.length+1=n+(nJ++ [p]).length by simp;omega];refine⟨(Kj,(nJ++ [p]).length,Hk,Hm,n+(nJ++ [p]).length,zG,(k:Int)+1),rfl,⟨k+1,nJ++ [p],Kj,Hk,Hm,zG,rfl,hqu,B8,⟨m++ [p],by rw [hm];simp⟩,fun q Bg=>?_⟩,by simp only;omega⟩;rw [List.mem_append,List.mem_singleton];rcases(bN hp).1 Bg with Bg|rfl
     ·exact .inl (fQ q Bg)
     ·exact .inr rfl
   ·simp only at QN
    rw [aS,aH.jU];unfold aH.iI;rw [dH (n:=(i:Int)) (by omega) (by omega)];rw [List.take_of_length_le (by omega)]at fQ;refine⟨(B1,nJ.length,d1,B2,n+nJ.length,d2,(i:Int)+1),rfl,⟨i+1,nJ,B1,d1,B2,d2,rfl,hq,by rw [hm];simp;omega,fun x hx q IM=>?_⟩,by simp only;omega⟩;have hh':(l++nJ)[i]? =some h:=by
     rw [hm,<-List.append_assoc,List.getElem?_append_left (lgeS hh).1];exact hh
    rcases(bN hh').1 hx with hx|rfl
    ·have Yk:x∈(l++out).take i:=by
      rw [hm,<-List.append_assoc,List.take_append_of_le_length (by simp;omega)]at hx;exact hx
     rw [hm,List.mem_append];exact .inl (qP x Yk q IM)
    ·exact fQ q ((jX q).1 IM)
 ·simp only at gE
  have hie:i=n+out.length:=by omega
  rw [aS,aH.dq];rw [List.take_of_length_le (by simp;omega)]at qP;have e:=FK W zB.zr qP;refine rp zB.r1.hs (by simp only;omega) fun A' c' w2 row k2=>⟨A',_,c',rfl,?_⟩;rw [e]at row⊢;exact hK A' c' w2 (Row.base row fun b hb=>Nat.le_trans zB.kp.size (Row.bJ row hb).1) (zB.kp.tt k2)
end
section
variable{w w' jl:World}{F S:Nat->Prop}{D:DG}{is:HT->Prop}{i:Nat}{l out:List HT}{A:Option Addr}{c r:Nat}{K:Value->World->Prop}
theorem rr(H:uM w F r D)(W:jG D)(hD:D.length<=10000)(a b:HT)(hK:∀w' (x:Bool),(x=true↔eB D a b)->Kept Nil w w'->K (.bool x) w'):
 bz prog dW.id #[.pointer (some ⟨r,0,none⟩),.agg a.1,.agg b.1] w K:=by
 refine dW.of ?_;unfold dW.W;intro w4 w5 w6;have k4:Kept Nil w w4:=(Kept.refl _ _).alloc _;have xq:w4.heap[w.heap.size]? =some (.cells a.1 ag (0,0)):=aI w _;have k5:Kept Nil w4 w5:=(Kept.refl _ _).alloc _;have oD:w5.heap[w4.heap.size]? =some (.cells b.1 ag (0,0)):=aI w4 _;have k6:Kept Nil w5 w6:=(Kept.refl _ _).drew;have xp:=k6.heap (k5.heap xq (fun h=>h)) (fun h=>h);have qR:=k6.heap oD (fun h=>h);have Z1:Kept Nil w w6:=(k4.tt k5).tt k6;clear_value w6;refine⟨a.1,⟨a.2.1,Cells.bJ xp⟩,ln (H.same Z1) (by omega) a fun w9 k9=>⟨_,rfl,Split.dec (fun gE=>?_) (fun Qw=>?_)⟩⟩
 ·have ha9:=k9.heap xp (fun h=>h)
  have TF:Kept Nil w w9:=Z1.tt k9;refine⟨b.1,⟨b.2.1,Cells.bJ (k9.heap qR (fun h=>h))⟩,a.1,⟨a.2.1,Cells.bJ ha9⟩,b.2.1,?_⟩;intro nn;have ui:Kept Nil w9 nn:=(Kept.refl _ _).alloc _;have jT:HS nn (some ⟨w9.heap.size,0,none⟩) 1 [b]:=jq w9 b;clear_value nn;have TJ:Kept Nil w nn:=TF.tt ui;have WX:=ui.heap ha9 (fun h=>h);refine⟨⟨a.1,rfl,a.2.1,Cells.bJ WX⟩,An (H.same TJ) W hD jT (by omega) fun A15 c15 nS Tg uh=>⟨A15,_,c15,rfl,?_⟩⟩;have rO:=mL D fun x=>∃h∈ [b],eB D x h;refine⟨⟨a.1,rfl,a.2.1,Cells.bJ (uh.heap WX (fun h=>h))⟩,tg a Tg.hs (by unfold dG;omega) fun sN Ge=>⟨_,rfl,?_⟩⟩;refine hK sN _ ?_ ((TJ.tt uh).tt Ge);rw [decide_eq_true_iff];unfold dG;rw [jv];constructor
  ·rintro⟨_,h,hh,ha⟩
   rw [List.mem_singleton]at hh;subst hh;exact ha
  ·intro ha
   exact⟨(ha.mem W).1,b,by simp,ha⟩
 ·refine hK w9 false ?_ (Z1.tt k9)
  constructor
  ·intro h;cases h
  ·intro ha;exact absurd (tJ.2 (ha.mem W).1) Qw
theorem HZ(W:jG D){j:Nat}{nd:DN}(h2:D[j]? =some nd)(p:HT):mh D p nd.id↔p∈nd.ps:=by
 constructor
 ·rintro⟨md,v7,e,hp⟩
  obtain⟨k,hk⟩:=List.mem_iff_getElem?.1 v7;have:=W.inj hk h2 e;subst this;rw [h2]at hk;cases hk;exact hp
 ·exact fun hp=>⟨nd,List.mem_of_getElem? h2,rfl,hp⟩
theorem FF(H:uM w F r D)(W:jG D)(hD:D.length<=10000)(a b:HT)(hK:∀w' (x:Bool),(x=true↔a≠b/\¬eB D a b/\¬eB D b a)->Kept Nil w w'->K (.bool x) w'):
 bz prog eM.id #[.pointer (some ⟨r,0,none⟩),.agg a.1,.agg b.1] w K:=by
 refine eM.of ?_;unfold eM.W;intro w4 w5;have k4:Kept Nil w w4:=(Kept.refl _ _).alloc _;have xq:w4.heap[w.heap.size]? =some (.cells a.1 ag (0,0)):=aI w _;have k5:Kept Nil w4 w5:=(Kept.refl _ _).alloc _;have oD:w5.heap[w4.heap.size]? =some (.cells b.1 ag (0,0)):=aI w4 _;have Mq:=k5.heap xq (fun h=>h);have M5:Kept Nil w w5:=k4.tt k5;clear_value w5;refine⟨a.1,⟨a.2.1,Cells.bJ Mq⟩,b.1,⟨b.2.1,Cells.bJ oD⟩,⟨a.2.ints,b.2.ints⟩,?_⟩;rw [dC];by_cases e:a=b
 ·refine Split.no (by rw [decide_eq_true e];rfl) ?_
  exact hK w5 false (by simp [e]) M5
 ·refine Split.yes (by rw [decide_eq_false e];rfl) ?_
  refine⟨a.1,⟨a.2.1,Cells.bJ Mq⟩,b.1,⟨b.2.1,Cells.bJ oD⟩,rr (H.same M5) W hD a b fun qU x hx Hb=>⟨x,rfl,?_⟩⟩;cases x with
  |true=>
   refine Split.no rfl ?_;exact hK qU false (by simp [hx.1 rfl]) (M5.tt Hb)
  |false=>
   refine Split.yes rfl ?_;have hn:¬eB D a b:=fun h=>by have:=hx.2 h;cases this
   have TK:=M5.tt Hb;refine⟨b.1,⟨b.2.1,Cells.bJ (Hb.heap oD (fun h=>h))⟩,a.1,⟨a.2.1,Cells.bJ (Hb.heap Mq (fun h=>h))⟩,rr (H.same TK) W hD b a fun jO y hy nM=>⟨y,rfl,?_⟩⟩;refine hK jO _ ?_ (TK.tt nM);rw [Bool.not_eq_true',<-Bool.not_eq_true,hy];exact⟨fun h=>⟨e,hn,h⟩,fun h=>h.2.2⟩
end
structure NM where
 b:Nat
 pA:Option Addr
 pn:Nat
 pc:Nat
 cA:Option Addr
 cn:Nat
 cc:Nat
 rA:Option Addr
 rn:Nat
 rc:Nat
 ws:List Nat
def gu(h:HT)(m:NM):Array Value:=h.1++ #[.slice m.pA m.pn m.pc,.slice m.cA m.cn m.cc,.slice m.rA m.rn m.rc]
theorem vL(h:HT)(m:NM):(gu h m).size=35:=by unfold gu;rw [Array.size_append,h.2.1];rfl
theorem H6(h:HT)(m:NM){j:Nat}{v:Value}(hj:h.1[j]? =some v):(gu h m)[j]? =some v:=by
 unfold gu;rw [Array.getElem?_append_left (Array.getElem?_eq_some_iff.1 hj).1];exact hj
theorem H7(h:HT)(m:NM):(gu h m)[33]? =some (.slice m.cA m.cn m.cc):=by
 unfold gu;rw [Array.getElem?_append_right (by rw [h.2.1];omega),h.2.1];rfl
theorem AH(h:HT)(m:NM):(gu h m)[34]? =some (.slice m.rA m.rn m.rc):=by
 unfold gu;rw [Array.getElem?_append_right (by rw [h.2.1];omega),h.2.1];rfl
theorem FT{h h':HT}{m m':NM}(e:gu h m=gu h' m'):h=h':=by
 apply Subtype.ext;have h1:=h.2.1;have h2:=h'.2.1;have:=congrArg (fun a:Array Value=>a.toList.take 32) e;unfold gu at this;simp only [Array.toList_append]at this;rw [List.take_left' (by simpa using h1),List.take_left' (by simpa using h2)]at this;exact Array.ext' this
structure rM(w:World)(S F:Nat->Prop)(D:DG)(ch:List HT)(nd:DN)(m:NM):Prop where
 bJ:w.heap[m.b]? =some (.cells (gu nd.id m) eh (0,0))
 gC:S m.b
 ps:HS w m.pA m.pn nd.ps
 K4:∀a,m.pA=some a->F a.block
 ch:bM w 0 m.cA m.cn m.cc ch
 Rt:∀k,bn m.cA=some k->S k
 past:US w m.rA m.rn m.ws
 pS:∀a,m.rA=some a->F a.block
 ok:okW m.ws
 bits:∀j,bit m.ws j=true↔∃nj,D[j]? =some nj/\eB D nj.id nd.id
 small:m.rn<=200
structure GV(w:World)(S F:Nat->Prop)(g:Nat)(D:DG)(C:HT->List HT)(bl c mb:Nat)(M:List NM):Prop where
 top:w.heap[g]? =some (.cells #[.slice (some ⟨bl,0,none⟩) D.length c,.map (some mb)] iw (0,0))
 row:Row w 0 fC 1 (some ⟨bl,0,none⟩) D.length c (M.map fun m=>.pointer (some ⟨m.b,0,none⟩))
 map:IsMap w mb (ids D)
 len:M.length=D.length
 node:∀(i:Nat) nd m,D[i]? =some nd->M[i]? =some m->rM w S F D (C nd.id) nd m
 apart:∀(i j:Nat) m m',M[i]? =some m->M[j]? =some m'->i≠j->∀k,bn m.cA=some k->bn m'.cA≠some k
 iB:S g
 uq:S bl
 wq:S mb
 Hj:∀k,S k->¬F k
 low:∀k,S k\/F k->k<w.heap.size
def DL(w:World)(S F:Nat->Prop)(g:Nat)(D:DG):Prop:=∃bl c mb M,GV w S F g D (gV D) bl c mb M
section
variable{w w':World}{S F S' F':Nat->Prop}{g bl c mb:Nat}{D:DG}{C:HT->List HT}{M:List NM}{K:Value->World->Prop}
theorem rM.aF{ch:List HT}{nd:DN}{m:NM}{S0:Nat->Prop}(h:rM w S F D ch nd m)(hk:Kept S0 w w')(hS:∀k,S k->¬S0 k)(hF:∀k,F k->¬S0 k):rM w' S F D ch nd m:=
 ⟨hk.heap h.bJ (hS _ h.gC),h.gC,h.ps.aF hk (fun a ha=>hF _ (h.K4 a ha)),h.K4,Row.aF h.ch hk (fun k hb=>hS k (h.Rt k hb)),h.Rt,h.past.aF hk (fun a ha=>hF _ (h.pS a ha)),h.pS,h.ok,h.bits,h.small⟩
theorem GV.aF{S0:Nat->Prop}(h:GV w S F g D C bl c mb M)(hk:Kept S0 w w')(hS:∀k,S k->¬S0 k)(hF:∀k,F k->¬S0 k):GV w' S F g D C bl c mb M:=
 ⟨hk.heap h.top (hS _ h.iB),Row.aF h.row hk (fun k e=>by cases e;exact hS _ h.uq),h.map.aF hk (hS _ h.wq),h.len,fun i nd m h1 h2=>(h.node i nd m h1 h2).aF hk hS hF,h.apart,h.iB,h.uq,h.wq,h.Hj,fun k oZ=>Nat.lt_of_lt_of_le (h.low k oZ) hk.size⟩
theorem GV.same(h:GV w S F g D C bl c mb M)(hk:Kept Nil w w'):GV w' S F g D C bl c mb M:=h.aF hk (fun _ _ h=>h) (fun _ _ h=>h)
theorem DL.aF{S0:Nat->Prop}(h:DL w S F g D)(hk:Kept S0 w w')(hS:∀k,S k->¬S0 k)(hF:∀k,F k->¬S0 k):DL w' S F g D:=let ⟨bl,c,mb,M,h⟩:=h;⟨bl,c,mb,M,h.aF hk hS hF⟩
theorem DL.same(h:DL w S F g D)(hk:Kept Nil w w'):DL w' S F g D:=h.aF hk (fun _ _ h=>h) (fun _ _ h=>h)
theorem GV.get(h:GV w S F g D C bl c mb M){i:Nat}{nd:DN}(hi:D[i]? =some nd):∃m,M[i]? =some m/\rM w S F D (C nd.id) nd m:=by
 have:=(lgeS hi).1;have hl:=h.len;exact⟨M[i],List.getElem?_eq_getElem (by omega),h.node i nd _ hi (List.getElem?_eq_getElem (by omega))⟩
theorem GV.nodes(h:GV w S F g D C bl c mb M):w.cell? ((⟨g,0,none⟩:Addr).add 0)=some (.slice (some ⟨bl,0,none⟩) D.length c):=by rw [add_zero,aD h.top];rfl
theorem GV.at_(h:GV w S F g D C bl c mb M):w.cell? ((⟨g,0,none⟩:Addr).add 1)=some (.map (some mb)):=by rw [bt,aD h.top];rfl
theorem GV.ptr(h:GV w S F g D C bl c mb M){i:Nat}{m:NM}(hm:M[i]? =some m):w.cell? ((⟨bl,0,none⟩:Addr).add (i*1))=some (.pointer (some ⟨m.b,0,none⟩)):=by
 rw [bt,Nat.zero_add,Nat.mul_one];exact Row.cell h.row (by rw [List.getElem?_map,hm];rfl)
theorem yp(h:GV w S F g D C bl c mb M)(hK:K (.bool true) w):bz prog gz.id #[.pointer (some ⟨g,0,none⟩)] w K:=
 gz.of (Split.yes rfl ⟨some mb,h.at_,hK⟩)
def Found(D:DG)(M:List NM)(h:HT)(x:Option Addr):Prop:=(x=none/\h∉ids D)\/∃(i:Nat) (nd:DN) (m:NM),D[i]? =some nd/\nd.id=h/\M[i]? =some m/\x=some ⟨m.b,0,none⟩
theorem Found.isSome{h:HT}{x:Option Addr}(f:Found D M h x):(!x.isNone)=decide (h∈ids D):=by
 rcases f with⟨rfl,hn⟩|⟨i,nd,m,h1,h2,_,rfl⟩
 ·rw [decide_eq_false hn];rfl
 ·rw [decide_eq_true (cS.2 ⟨nd,List.mem_of_getElem? h1,h2⟩)];rfl
theorem wA(G:GV w S F g D C bl c mb M)(h:HT)(hK:∀w' x,Kept Nil w w'->Found D M h x->K (.pointer x) w'):
 bz prog gk.id #[.pointer (some ⟨g,0,none⟩),.agg h.1] w K:=by
 refine gk.of ?_;unfold gk.W;intro w3;have k3:Kept Nil w w3:=(Kept.refl _ _).alloc _;have nC:w3.heap[w.heap.size]? =some (.cells h.1 ag (0,0)):=aI w _;clear_value w3;refine yp (G.same k3) ⟨true,rfl,Split.yes rfl ?_⟩;intro w7;have k7:Kept Nil w3 w7:=(Kept.refl _ _).drew;clear_value w7;have kw:Kept Nil w w7:=k3.tt k7;have G7:=G.same kw;refine⟨some mb,G7.at_,h.1,⟨h.2.1,Cells.bJ (k7.heap nC (fun h=>h))⟩,_,_,G7.map.look h,?_⟩;cases hp:pos h (ids D) 0 with
 |none=>exact Split.no rfl (hK w7 none kw (.inl ⟨rfl,pR.1 hp⟩))
 |some i=>
  obtain⟨_,hi⟩:=vC hp;obtain⟨nd,h1,h2⟩:=IL hi;rw [Nat.sub_zero]at h1;obtain⟨m,hm,_⟩:=G7.get h1;have dY:=(lgeS h1).1;refine Split.yes rfl ⟨_,_,_,G7.nodes,⟨by simp,by simp only [Option.getD_some];omega⟩,some ⟨m.b,0,none⟩,?_,hK w7 _ kw (.inr ⟨i,nd,m,h1,h2,hm,rfl⟩)⟩;rw [Option.getD_some,Int.toNat_natCast];exact G7.ptr hm
theorem uY(G:GV w S F g D C bl c mb M)(h:HT)(hK:∀w',Kept Nil w w'->K (.bool (decide (h∈ids D))) w'):
 bz prog gL.id #[.pointer (some ⟨g,0,none⟩),.agg h.1] w K:=by
 refine gL.of ?_;unfold gL.W;intro w3;have k3:Kept Nil w w3:=(Kept.refl _ _).alloc _;have nC:w3.heap[w.heap.size]? =some (.cells h.1 ag (0,0)):=aI w _;clear_value w3;refine⟨h.1,⟨h.2.1,Cells.bJ nC⟩,wA (G.same k3) h fun w6 x k6 hx=>⟨x,rfl,?_⟩⟩;rw [hx.isSome];exact hK w6 (k3.tt k6)
end
section
variable{w w':World}{S F:Nat->Prop}{g bl c mb:Nat}{D:DG}{C:HT->List HT}{M:List NM}{K:Value->World->Prop}
end
section
variable{w w':World}{S F:Nat->Prop}{g bl c mb:Nat}{D:DG}{C:HT->List HT}{M:List NM}{K:Value->World->Prop}
theorem Du{A:Option Addr}{n c:Nat}{l:List HT}(hl:HS w A n l)(hn:n<=400000)(hK:∀A' c' w',bM w' w.heap.size A' n c' l->Kept Nil w w'->K (.slice A' n c') w'):
 bz prog dr.id #[.slice A n c] w K:=by
 refine dr.of ?_;cases A with
 |none=>
  obtain⟨rfl,rfl⟩:=hl.none;exact Split.yes rfl (hK none 0 w (bM.nil _ _) (Kept.refl _ _))
 |some a=>
  refine Split.no rfl ?_;intro w2;have k2:Kept Nil w w2:=(Kept.refl _ _).alloc _;have r0:bM w2 w.heap.size (some ⟨w.heap.size,0,none⟩) 0 0 []:=Row.made (n:=0) (cur:= #[]) (aI w _) (Nat.le_refl _) rfl (Nat.zero_le _);clear_value w2;obtain⟨A',c',w4,hr,row,hg,_⟩:=cK (cx:=c) ay r0 (hl.same k2) (by omega) k2.size;rw [Nat.zero_add]at hr row;rw [List.nil_append]at row;exact⟨A',n,c',w4,hr,hK A' c' w4 row (Kept.eQ k2 hg (fun k hk=>by cases hk;exact Nat.le_refl _))⟩
theorem xT{D:DG}{nd:DN}{m:NM}{ch:List HT}(N:rM w S F D ch nd m):w.cell? ((⟨m.b,0,none⟩:Addr).add 34)=some (.slice m.rA m.rn m.rc):=by
 rw [bt,Nat.zero_add,aD N.bJ];exact AH _ _
theorem Ec{D:DG}{nd:DN}{m:NM}{ch:List HT}(N:rM w S F D ch nd m):w.cell? ((⟨m.b,0,none⟩:Addr).add 33)=some (.slice m.cA m.cn m.cc):=by
 rw [bt,Nat.zero_add,aD N.bJ];exact H7 _ _
end
def mO(D:DG)(j:Nat):HT:=match D[j]? with|some nd=>nd.id|none=>default
theorem vH:∀(ws:List Nat) (k:Nat),okW ws->(pX k ws).Nodup
 | [],_,_=>List.Pairwise.nil
 |x::ws,k,ho=>by
  have hx:=ho x (by simp);have Kz:okW ws:=fun y hy=>ho y (by simp [hy]);obtain⟨_,h2,h3⟩:=xX x hx;rw [pX,List.nodup_append];refine⟨List.Pairwise.map _ (fun a b lE e=>lE (by omega)) h2,vH ws (k+1) Kz,fun a ha b hb e=>?_⟩;rw [List.mem_map]at ha;obtain⟨t,ht,rfl⟩:=ha;have:=((p7 ws (k+1) b Kz).1 hb).1;have:=h3 t ht;omega
section
variable{w w':World}{S F:Nat->Prop}{g bl c mb:Nat}{D:DG}{C:HT->List HT}{M:List NM}{K:Value->World->Prop}
theorem wB(G:GV w S F g D C bl c mb M)(W:jG D)(hD:D.length<=10000)(hT:uK w){A:Option Addr}{n cx:Nat}{l:List HT}(hl:HS w A n l)(hn:n<=10000)
 (hK:∀A' c' w',bM w' w.heap.size A' (dG D l).length c' (dG D l)->Kept Nil w w'->K (.slice A' (dG D l).length c') w'):
 bz prog aU.id #[.pointer (some ⟨g,0,none⟩),.slice A n cx] w K:=by
 have hlen:=hl.len;refine aU.of ?_;unfold aU.W;intro w3;have k3:Kept Nil w w3:=(Kept.refl _ _).alloc _;have V7:w3.heap[w.heap.size]? =some (.cells #[.pointer (some ⟨g,0,none⟩)] lL (0,0)):=aI w _;have CR:w.heap.size<w3.heap.size:=aV V7;clear_value w3;refine aU.cy (I:=fun s w'=>∃(i:Nat) (A':Option Addr) (n' c':Nat) (ws:List Nat),s=(A',n',c',(i:Int))/\i<=n/\lF w' w3.heap.size A' n' c' ws/\okW ws/\n'<=200/\(∀j,bit ws j=true↔∃h∈l.take i,∃nj,D[j]? =some nj/\eB D nj.id h)/\Kept Nil w3 w')
  (μ:=fun s _=>((n:Int)-s.2.2.2).toNat) (s:=(none,0,0,0)) ⟨0,none,0,0,[],rfl,Nat.zero_le _,Row.nil _ _ _ _,by simp [okW],by omega,by simp [zm],Kept.refl _ _⟩ ?_
 rintro s w' ⟨i,A',n',c',ws,rfl,hi,row,ho,Vn,qQ,kw⟩;have kk:Kept Nil w w':=k3.tt kw;refine Split.dec (fun jQ=>?_) (fun gE=>?_)
 ·simp only at jQ
  have dY:i<n:=by omega
  obtain⟨h,hh⟩:∃h,l[i]? =some h:=⟨_,List.getElem?_eq_getElem (by omega)⟩;refine(hl.same kk).load (i:=(i:Int)) (by omega) hh ?_;intro lY;obtain⟨tz,jT,kL⟩:=iu (w:=w') (z:=(zz 0)) (cs:=h.1) (t:=ag) (by rw [h.2.1];rfl);refine⟨⟨h.2.1,h.2.one,fun j hj=>tz j (by rw [h.2.1];exact hj)⟩,?_⟩;intro nS
  replace jT:nS.heap[w'.heap.size]? =some (.cells h.1 ag (0,0)):=jT
  replace kL:Kept Nil w' nS:=kL
  clear_value nS;have uh:Kept Nil w3 nS:=kw.tt kL;refine⟨some ⟨g,0,none⟩,by rw [aD (uh.heap V7 (fun h=>h))];rfl,h.1,⟨h.2.1,Cells.bJ jT⟩,?_⟩;refine wA (G.same (k3.tt uh)) h fun pw x yc hx=>⟨x,rfl,?_⟩;have Ly:Kept Nil w3 pw:=uh.tt yc;have Ij:Kept Nil w pw:=k3.tt Ly;have xP:lF pw w3.heap.size A' n' c' ws:=Row.aF row (kL.tt yc) (fun _ _ h=>h);rcases hx with⟨rfl,kW⟩|⟨q,nd,m',hq,rfl,ny,rfl⟩
  ·refine Split.no rfl ?_
   simp only;rw [dH (n:=(i:Int)) (by omega) (by omega)];refine⟨(A',n',c',(i:Int)+1),rfl,⟨i+1,A',n',c',ws,rfl,dY,xP,ho,Vn,fun j=>?_,Ly⟩,by simp only;omega⟩;rw [qQ];constructor
   ·rintro⟨h',h1,h2⟩;exact⟨h',(bN hh).2 (.inl h1),h2⟩
   ·rintro⟨h',h1,nj,h2,h3⟩
    rcases(bN hh).1 h1 with h1|rfl
    ·exact⟨h',h1,nj,h2,h3⟩
    ·exact absurd (h3.mem W).2 kW
  ·obtain⟨m,hm,N⟩:=(G.same Ij).get hq
   rw [ny]at hm;cases hm;refine Split.yes rfl ⟨_,_,_,xT N,?_⟩;have vY:=N.small;have EI:∀k,bn A'=some k->w3.heap.size<=k:=fun k hk=>(Row.bJ xP hk).1;refine xN xP ho (by omega) Ly.size N.past N.ok (by omega) (fun a ha k hk e=>?_) fun A2 n2 c2 l2 mB Te abx Vk Q5 p9 Mn=>⟨A2,n2,c2,rfl,?_⟩
   ·have h1:=G.low a.block (.inr (N.pS a ha))
    have h2:=EI k hk;omega
   ·simp only
    rw [dH (n:=(i:Int)) (by omega) (by omega)];refine⟨(A2,n2,c2,(i:Int)+1),rfl,⟨i+1,A2,n2,c2,l2,rfl,dY,Te,abx,by omega,fun j=>?_,Ly.trans p9 (fun k hk e=>absurd (EI k e) (by omega))⟩,by simp only;omega⟩;rw [Q5,Bool.or_eq_true,qQ,N.bits];constructor
    ·rintro(⟨h',h1,h2⟩|h2)
     ·exact⟨h',(bN hh).2 (.inl h1),h2⟩
     ·exact⟨nd.id,(bN hh).2 (.inr rfl),h2⟩
    ·rintro⟨h',h1,h2⟩
     rcases(bN hh).1 h1 with h1|rfl
     ·exact .inl ⟨h',h1,h2⟩
     ·exact .inr h2
 ·simp only at gE
  have hie:i=n:=by omega
  subst hie;rw [List.take_of_length_le (by omega)]at qQ;rw [aS,aU.dq];unfold aU.cV;intro uO;have Ha:Kept Nil w' uO:=(Kept.refl _ _).alloc _;have U7:uO.heap[w'.heap.size]? =some (.cells #[.slice none 0 0] ay (0,0)):=aI w' _;clear_value uO;refine kV.of ?_;unfold kV.W;intro oB;have BU:Kept Nil uO oB:=(Kept.refl _ _).alloc _;have LL:oB.heap[uO.heap.size]? =some (.cells #[.slice A' n' c'] lK (0,0)):=aI uO _;clear_value oB;refine⟨_,rfl,?_⟩;have U6:=BU.heap U7 (fun h=>h);have T7:Kept Nil w3 oB:=(kw.tt Ha).tt BU;have Lj:Kept Nil w oB:=k3.tt T7;have Aj:lF oB w3.heap.size A' n' c' ws:=Row.aF (Row.aF row Ha (fun _ _ h=>h)) BU (fun _ _ h=>h);have QQ:=T7.heap V7 (fun h=>h);have B7:w.heap.size<w'.heap.size:=Nat.lt_of_lt_of_le CR kw.size;have aiY:w'.heap.size<oB.heap.size:=aV U6;have aiZ:uO.heap.size<oB.heap.size:=aV LL;have I8:∀j∈pX 0 ws,∃nj,D[j]? =some nj:=fun j hj=>by
   have:=((p7 ws 0 j ho).1 hj).2;rw [Nat.mul_zero,Nat.sub_zero]at this;obtain⟨_,_,nj,h1,_⟩:=(qQ j).1 this;exact⟨nj,h1⟩
  have zD:(pX 0 ws).length<=D.length:=by
   have:=vI (m:=List.range D.length) (vH ws 0 ho) (fun j hj=>by
    obtain⟨nj,h1⟩:=I8 j hj;exact List.mem_range.2 (lgeS h1).1)
   rwa [List.length_range]at this
  let xs:=pX 0 ws
  let ρ0:Env:= [(2,.pointer (some (aR w.heap.size))),(4,.slice none 0 0),(9,.pointer (some (aR w'.heap.size))),(30,.func (.func aJ.id) #[] #[.pointer (some (aR uO.heap.size))])]
  let J:Nat->World->Prop:=fun i v=>∃A c,v.heap[w'.heap.size]? =some (.cells #[.slice A i c] ay (0,0))/\bM v oB.heap.size A i c ((xs.take i).map (mO D))/\Kept (· =w'.heap.size) oB v/\i<=xs.length
  have oN:∀i v,J i v->US v A' n' ws/\v.cell? ⟨uO.heap.size,0,none⟩=some (.slice A' n' c')/\uK v:=by
   rintro i v ⟨A,c,h1,h2,h3,h4⟩;refine⟨Aj.us.aF h3 (fun a ha e=>?_),by rw [aD (h3.heap LL (by have:=aV U7;omega))];rfl,(hT.same Lj).aF h3 (fun e=>by have:=hT.lt;omega)⟩;have hk:bn A'=some a.block:=by rw [ha];rfl
   obtain⟨_,cur,hc⟩:=Row.bJ row hk;have:=aV hc;omega
  refine oK (ρ:=ρ0) (ρ0:=ρ0) ng mix aU.k (t:=30) (ps:= #[31]) (by kernel_rfl) (by decide) rfl aJ.at_ rfl (.inl rfl) (fun i v _ h=>h) rfl encI xs (fun _=>rfl) (by simp [gM]) (JX ⟨uO.heap.size,0,none⟩ (c:=c') (by omega) ho) J (fun _ _=>False) ?_ (fun _ _ _ _ _ h=>h.elim) oN ?_ ?_ ?_ (fun _ _ h=>h.elim) (fun _ _ _ h=>h.elim)
  ·rintro i v v' R nt ⟨A,c,h1,h2,h3,h4⟩ hk
   exact⟨A,c,hk.heap h1 (ki h1 nt.loop),Row.apart h2 hk (fun cs t fr h=>by rw [nt.loop]at h;cases h),h3.trans hk (fun k hk e=>by omega),h4⟩
  ·intro R
   exact⟨none,0,jk (jk U6 _) _,bM.nil _ _,(((Kept.refl _ _).alloc _).alloc _),Nat.zero_le _⟩
  ·rintro i x v R hx hj nt
   have hJ:=hj;obtain⟨A,c,h1,h2,h3,h4⟩:=hj;have dY:i<xs.length:=(lgeS hx).1;have e7:kH ρ0 ((#[31]:Array Nat).toList.zip (encI x))= [(2,.pointer (some (aR w.heap.size))),(4,.slice none 0 0),(9,.pointer (some (aR w'.heap.size))),(30,.func (.func aJ.id) #[] #[.pointer (some (aR uO.heap.size))]),(31,.int .i64 (x:Int))]:=rfl;rw [e7,aU.a1];unfold aU.A1;refine⟨nt,fun w2 R2 mw qO=>?_⟩;have EK:=mw.heap h1 (ki h1 nt.loop);have zE:bM w2 oB.heap.size A i c ((xs.take i).map (mO D)):=Row.apart h2 mw (fun cs t fr h=>by rw [nt.loop]at h;cases h);have Hh:Kept (· =w'.heap.size) oB w2:=h3.trans mw (fun k hk e=>by omega);clear hJ h1 h2 h3;rw [aU.y1];unfold aU.Y1;intro ON;have Yg:Kept Nil w2 ON:=(Kept.refl _ _).drew;clear_value ON;have Xl:=Yg.heap EK (fun h=>h);have Eh:Kept (· =w'.heap.size) oB ON:=Hh.trans Yg (fun _ _ h=>h.elim);obtain⟨nj,Hd⟩:=I8 x (List.mem_of_getElem? hx);have uD:=(lgeS Hd).1;have ZZ:Kept Nil w ON:=Lj.trans Eh (fun k hk e=>by omega);obtain⟨m,hm,N⟩:=(G.same ZZ).get Hd;refine⟨A,i,c,by rw [aD Xl];rfl,some ⟨g,0,none⟩,by rw [aD (Eh.heap QQ (by omega))];rfl,?_⟩;refine⟨_,_,_,(G.same ZZ).nodes,⟨by omega,by omega⟩,some ⟨m.b,0,none⟩,by rw [Int.toNat_natCast];exact(G.same ZZ).ptr hm,?_⟩;refine⟨nj.id.1,⟨nj.id.2.1,fun j v hj=>?_⟩,nj.id.2.1,?_⟩
   ·rw [add_zero,bt,Nat.zero_add,aD N.bJ]
    exact H6 _ _ hj
   intro RK;have TZ:Kept Nil ON RK:=(Kept.refl _ _).alloc _;have jq:HS RK (some ⟨ON.heap.size,0,none⟩) 1 [nj.id]:=jq ON nj.id;clear_value RK;have Xk:=TZ.heap Xl (fun h=>h);refine⟨by rw [aD Xk];rfl,?_⟩;have Mt:bM RK oB.heap.size A i c ((xs.take i).map (mO D)):=Row.aF (Row.aF zE Yg (fun _ _ h=>h)) TZ (fun _ _ h=>h);have Uy:oB.heap.size<=RK.heap.size:=Nat.le_trans Eh.size TZ.size;have LG:xs.length<=D.length:=zD;obtain⟨A2,c2,rk,hr,xO,Mf,Q6⟩:=cK (cx:=1) ay Mt jq (by omega) Uy;have QL:Kept (fun k=>bn A=some k) RK rk:=Kept.grown (Kept.refl _ _) Mf (fun k hk _=>hk);have Xh:∀k,bn A=some k->oB.heap.size<=k:=fun k hk=>(Row.bJ Mt hk).1;have Xj:=QL.heap Xk (fun e=>by have:=Xh _ e;omega);have abT:Live (oB.heap.size+1) oB.heap.size R2 rk:=by
    have Qx:=(qO.aF Yg (fun h=>h) (fun h=>h)).aF TZ (fun h=>h) (fun h=>h);refine Qx.aF QL ?_ ?_
    ·intro h
     obtain⟨_,cur,hc⟩:=Row.bJ Mt h;exact ki hc Qx.loop rfl
    ·intro h
     obtain⟨_,cur,hc⟩:=Row.bJ Mt h;exact si hc Qx.mark rfl
   refine⟨A2,_,c2,rk,hr,dS Xj (by simp),?_⟩;intro Zs;have k56:Kept (· =w'.heap.size) rk Zs:=Kept.setCell (S:=fun k=>k=w'.heap.size) (Kept.refl _ rk) (p:=⟨w'.heap.size,0,none⟩) (fun _=>rfl) _;have acT:Zs.heap[w'.heap.size]? =some (.cells #[.slice A2 (i+1) c2] ay (0,0)):=di Xj 0 _;clear_value Zs;refine⟨abT.aF k56 (by omega) (by omega),A2,c2,acT,?_,((Eh.trans TZ (fun _ _ h=>h.elim)).trans QL (fun k hk e=>absurd (Xh k e) (by omega))).tt k56,dY⟩;have e:(xs.take (i+1)).map (mO D)=(xs.take i).map (mO D)++ [nj.id]:=by
    rw [List.take_add_one,hx];simp [mO,Hd]
   rw [e];exact Row.aF xO k56 (fun k hk e=>by have:=(Row.bJ xO hk).1;omega)
  ·rintro v R ⟨A,c,h1,h2,h3,h4⟩ nt
   have e7:fN ρ0 oB.heap.size= [(2,.pointer (some (aR w.heap.size))),(4,.slice none 0 0),(9,.pointer (some (aR w'.heap.size))),(30,.func (.func aJ.id) #[] #[.pointer (some (aR uO.heap.size))]),(4294967296,.agg #[.pointer (some ⟨oB.heap.size,0,none⟩)])]:=rfl;rw [e7,aU.iF];rw [List.take_of_length_le (Nat.le_refl _)]at h2;have LG:xs.length<=D.length:=zD;refine⟨A,xs.length,c,by rw [aD h1];rfl,jg h2.hs (by omega) fun A2 c2 Zr HQ Nb=>⟨A2,_,c2,rfl,⟨Nb.heap nt.mark (fun h=>h),trivial⟩,?_⟩⟩;have hmk:=Nb.heap nt.mark (fun h=>h);have kp:Kept (· =oB.heap.size) Zr (Zr.putObj oB.heap.size (.deferred none)):=Kept.putAt _ _ _;have e:dA (xs.map (mO D))=dG D l:=D9 fun a=>by
    rw [List.mem_map];constructor
    ·rintro⟨j,hj,rfl⟩
     have hb:=((p7 ws 0 j ho).1 hj).2;rw [Nat.mul_zero,Nat.sub_zero]at hb;obtain⟨h',rQ,nj,sP,Cb⟩:=(qQ j).1 hb;have:mO D j=nj.id:=by unfold mO;rw [sP]
     rw [this];exact⟨(Cb.mem W).1,h',rQ,Cb⟩
    ·rintro⟨ha,h',hh',De⟩
     obtain⟨nj,hnm,rfl⟩:=cS.1 ha;obtain⟨j,hj⟩:=List.mem_iff_getElem?.1 hnm;refine⟨j,(p7 ws 0 j ho).2 ⟨by omega,?_⟩,by unfold mO;rw [hj]⟩;rw [Nat.mul_zero,Nat.sub_zero];exact(qQ j).2 ⟨h',hh',nj,hj,De⟩
   rw [e]at HQ⊢;have lP:Kept Nil w Zr:=(Lj.trans h3 (fun k hk e=>by omega)).tt Nb;have hws:w.heap.size<=v.heap.size:=Nat.le_trans Lj.size h3.size;refine hK A2 c2 _ (Row.base (Row.apart HQ kp (fun cs t fr h=>by rw [hmk]at h;cases h)) fun b hb=>Nat.le_trans hws (Row.bJ HQ hb).1) (lP.trans kp (fun k hk e=>by omega))
end
section
variable{w w':World}{S F:Nat->Prop}{g bl c mb gb:Nat}{D:DG}{C:HT->List HT}{M:List NM}{K:Value->World->Prop}
theorem BF(G:GV w S F g D C bl c mb M)(hg:w.heap[gb]? =some (.cells #[.pointer (some ⟨g,0,none⟩)] lL (0,0))){A:Option Addr}{n cx:Nat}{l:List HT}(hl:HS w A n l)(hn:n<=400000)
 (hK:∀w' (x:Bool),(x=true↔∃p∈l,p∉ids D)->Kept Nil w w'->K (.bool x) w'):
 bz prog dQ.id #[.slice A n cx,.func (.func eT.id) #[] #[.pointer (some ⟨gb,0,none⟩)]] w K:=by
 have hlen:=hl.len;refine ct.of (aw.of ?_);refine aw.cy (I:=fun s w'=>∃i:Nat,s=(0,(i:Int))/\i<=n/\(∀p∈l.take i,p∈ids D)/\Kept Nil w w') (μ:=fun s _=>((n:Int)-s.2).toNat) (s:=(0,0)) ⟨0,rfl,Nat.zero_le _,by simp,Kept.refl _ _⟩ ?_;rintro s w' ⟨i,rfl,hi,dm,kw⟩;refine Split.dec (fun jQ=>?_) (fun gE=>?_)
 ·simp only at jQ
  have dY:i<n:=by omega
  obtain⟨x,hx⟩:∃x,l[i]? =some x:=⟨_,List.getElem?_eq_getElem (by omega)⟩;refine(hl.same kw).load (i:=(i:Int)) (by omega) hx ?_;refine eT.of ?_;unfold eT.W;intro w3;have k3:Kept Nil w' w3:=(Kept.refl _ _).alloc _;have nC:w3.heap[w'.heap.size]? =some (.cells x.1 ag (0,0)):=aI w' _;clear_value w3;have M6:=kw.tt k3;refine⟨some ⟨g,0,none⟩,by rw [aD (M6.heap hg (fun h=>h))];rfl,x.1,⟨x.2.1,Cells.bJ nC⟩,uY (G.same M6) x fun w7 k7=>⟨_,rfl,_,rfl,?_⟩⟩;have CC:=M6.tt k7;by_cases hm:x∈ids D
  ·refine Split.no (by rw [decide_eq_true hm];rfl) ?_
   simp only;rw [dH (n:=(i:Int)) (by omega) (by omega)];refine⟨(0,(i:Int)+1),rfl,⟨i+1,rfl,dY,fun p hp=>?_,CC⟩,by simp only;omega⟩;rcases(bN hx).1 hp with hp|rfl
   ·exact dm p hp
   ·exact hm
  ·refine Split.yes (by rw [decide_eq_false hm];rfl) ?_
   refine⟨(i:Int),rfl,?_⟩;exact hK w7 _ ⟨fun _=>⟨x,List.mem_of_getElem? hx,hm⟩,fun _=>decide_eq_true (by omega)⟩ CC
 ·simp only at gE
  rw [aS,aw.dq];rw [List.take_of_length_le (by omega)]at dm;exact⟨-1,rfl,hK w' _ ⟨fun h=>absurd (of_decide_eq_true h) (by omega),fun⟨p,hp,hn⟩=>absurd (dm p hp) hn⟩ kw⟩
theorem kK{w:World}{a b:Nat}{ca cb:Array Value}{ta tb:TypeId}{fa fb:Nat×Nat}(ha:w.heap[a]? =some (.cells ca ta fa))(hb:w.heap[b]? =some (.cells cb tb fb))(fD:ta≠tb):a≠b:=by
 rintro rfl;rw [ha]at hb;simp only [Option.some.injEq,Obj.cells.injEq]at hb;exact fD hb.2.1
theorem GV.upd(G:GV w S F g D C bl c mb M)(W:jG D){q:Nat}{nd:DN}{m:NM}(hq:D[q]? =some nd)(hm:M[q]? =some m){A5:Option Addr}{n5 c5:Nat}{KI:List HT}
 (kT:Kept (fun k=>bn m.cA=some k\/k=m.b) w w') (hb:w'.heap[m.b]? =some (.cells (gu nd.id {m with cA:=A5,cn:=n5,cc:=c5}) eh (0,0))) (fG:bM w' w.heap.size A5 n5 c5 KI):
 GV w' (fun k=>S k\/bn A5=some k) F g D (fun x=>if x=nd.id then KI else C x) bl c mb (M.set q {m with cA:=A5,cn:=n5,cc:=c5}):=by
 have N:=G.node q nd m hq hm;have Hc:q<M.length:=(lgeS hm).1;have mz:∀k,bn m.cA=some k->∃cur,w.heap[k]? =some (.cells cur ag (0,0)):=fun k hk=>(Row.bJ N.ch hk).2;have hF:∀k,F k->¬(bn m.cA=some k\/k=m.b):=fun k hk e=>by
  rcases e with e|rfl
  ·exact G.Hj k (N.Rt k e) hk
  ·exact G.Hj _ N.gC hk
 have typ:∀ {k:Nat} {cs:Array Value} {t:TypeId},w.heap[k]? =some (.cells cs t (0,0))->t≠ag->t≠eh->¬(bn m.cA=some k\/k=m.b):=fun h h1 h2 e=>by
  rcases e with e|rfl
  ·obtain⟨cur,hc⟩:=mz _ e
   exact kK h hc h1 rfl
  ·exact kK h N.bJ h2 rfl
 have Gy:∀k,bn A5=some k->w.heap.size<=k:=fun k hk=>(Row.bJ fG hk).1;have gU:∀(i:Nat) m',(M.set q {m with cA:=A5,cn:=n5,cc:=c5})[i]? =some m'->(i=q/\m'= {m with cA:=A5,cn:=n5,cc:=c5})\/(i≠q/\M[i]? =some m'):=fun i m' h=>by
  by_cases e:i=q
  ·subst e
   rw [List.getElem?_set_self Hc]at h;exact .inl ⟨rfl,(Option.some.inj h).symm⟩
  ·rw [List.getElem?_set_ne (Ne.symm e)]at h
   exact .inr ⟨e,h⟩
 refine⟨?_,?_,?_,by simpa using G.len,?_,?_,.inl G.iB,.inl G.uq,.inl G.wq,?_,?_⟩
 ·exact kT.heap G.top (typ G.top (by decide) (by decide))
 ·have Qv:(M.set q {m with cA:=A5,cn:=n5,cc:=c5}).map (fun m=>Value.pointer (some ⟨m.b,0,none⟩))=M.map fun m=>Value.pointer (some ⟨m.b,0,none⟩):=by
   apply List.ext_getElem?;intro i;rw [List.getElem?_map,List.getElem?_map];by_cases e:i=q
   ·subst e
    rw [List.getElem?_set_self Hc,hm];rfl
   ·rw [List.getElem?_set_ne (Ne.symm e)]
  rw [Qv];refine Row.aF G.row kT (fun k e=>?_);cases e;obtain⟨_,cur,hc⟩:=Row.bJ G.row (k:=bl) rfl;exact typ hc (by decide) (by decide)
 ·refine G.map.aF kT (fun e=>?_)
  obtain⟨es,clock,L4,_⟩:=G.map.ex;rcases e with e|e
  ·obtain⟨cur,hc⟩:=mz _ e
   rw [hc]at L4;cases L4
  ·rw [e,N.bJ]at L4;cases L4
 ·intro i nd' m' hi ny
  rcases gU i m' ny with⟨rfl,rfl⟩|⟨fD,Vy⟩
  ·rw [hq]at hi
   cases hi;rw [if_pos rfl];exact⟨hb,.inl N.gC,N.ps.aF kT (fun a ha=>hF _ (N.K4 a ha)),N.K4,Row.base fG (fun _ _=>Nat.zero_le _),fun k hk=>.inr hk,N.past.aF kT (fun a ha=>hF _ (N.pS a ha)),N.pS,N.ok,N.bits,N.small⟩
  ·have N':=G.node i nd' m' hi Vy
   have hid:nd'.id≠nd.id:=fun e=>fD (W.inj hi hq e);rw [if_neg hid];have acI:m'.b≠m.b:=fun e=>by
    have h1:=N'.bJ;rw [e,N.bJ]at h1;simp only [Option.some.injEq,Obj.cells.injEq]at h1;exact hid (FT h1.1).symm
   refine⟨kT.heap N'.bJ (fun e=>?_),.inl N'.gC,N'.ps.aF kT (fun a ha=>hF _ (N'.K4 a ha)),N'.K4,Row.aF N'.ch kT (fun k hk e=>?_),fun k hk=>.inl (N'.Rt k hk),N'.past.aF kT (fun a ha=>hF _ (N'.pS a ha)),N'.pS,N'.ok,N'.bits,N'.small⟩
   ·rcases e with e|e
    ·obtain⟨cur,hc⟩:=mz _ e
     exact kK N'.bJ hc (by decide) rfl
    ·exact acI e
   ·rcases e with e|rfl
    ·exact G.apart i q m' m Vy hm fD k hk e
    ·obtain⟨cur,hc⟩:=(Row.bJ N'.ch hk).2
     exact kK hc N.bJ (by decide) rfl
 ·intro i j m1 m2 h1 h2 rf k KA mw
  rcases gU i m1 h1 with⟨rfl,rfl⟩|⟨hi,rQ⟩
  ·rcases gU j m2 h2 with⟨rfl,rfl⟩|⟨hj,sP⟩
   ·exact rf rfl
   ·have:=Gy k KA
    have tF:j<D.length:=by rw [<-G.len];exact(lgeS sP).1
    obtain⟨cur,hc⟩:=(Row.bJ (G.node j _ m2 (List.getElem?_eq_getElem tF) sP).ch mw).2;have:=aV hc;omega
  ·rcases gU j m2 h2 with⟨rfl,rfl⟩|⟨hj,sP⟩
   ·have:=Gy k mw
    have dY:i<D.length:=by rw [<-G.len];exact(lgeS rQ).1
    obtain⟨cur,hc⟩:=(Row.bJ (G.node i _ m1 (List.getElem?_eq_getElem dY) rQ).ch KA).2;have:=aV hc;omega
   ·exact G.apart i j m1 m2 rQ sP rf k KA mw
 ·intro k hk hf
  rcases hk with hk|hk
  ·exact G.Hj k hk hf
  ·have:=Gy k hk
   have:=G.low k (.inr hf);omega
 ·intro k hk
  rcases hk with(hk|hk)|hk
  ·exact Nat.lt_of_lt_of_le (G.low k (.inl hk)) kT.size
  ·obtain⟨cur,hc⟩:=(Row.bJ fG hk).2
   exact aV hc
  ·exact Nat.lt_of_lt_of_le (G.low k (.inr hk)) kT.size
end
theorem AG(h:HT)(m:NM)(A:Option Addr)(n c:Nat):(gu h m).setIfInBounds 33 (.slice A n c)=gu h {m with cA:=A,cn:=n,cc:=c}:=by
 have hs:=h.2.1;apply Array.ext_getElem?;intro i;unfold gu;rw [Array.getElem?_setIfInBounds,Array.getElem?_append,Array.getElem?_append];by_cases h1:i<h.1.size
 ·rw [if_neg (by omega),if_pos h1,if_pos h1]
 ·rw [if_neg h1,if_neg h1]
  by_cases h2:i=33
  ·subst h2
   rw [if_pos rfl,if_pos (by simp;omega),hs];rfl
  ·rw [if_neg (Ne.symm h2),hs]
   match i-32,show i-32≠1 by omega with
   |0,_=>rfl
   |2,_=>rfl
   |(k+3),_=>rfl
theorem AF(h:HT)(m:NM)(A:Option Addr)(n c:Nat):(gu h m).setIfInBounds 34 (.slice A n c)=gu h {m with rA:=A,rn:=n,rc:=c}:=by
 have hs:=h.2.1;apply Array.ext_getElem?;intro i;unfold gu;rw [Array.getElem?_setIfInBounds,Array.getElem?_append,Array.getElem?_append];by_cases h1:i<h.1.size
 ·rw [if_neg (by omega),if_pos h1,if_pos h1]
 ·rw [if_neg h1,if_neg h1]
  by_cases h2:i=34
  ·subst h2
   rw [if_pos rfl,if_pos (by simp;omega),hs];rfl
  ·rw [if_neg (Ne.symm h2),hs]
   match i-32,show i-32≠2 by omega with
   |0,_=>rfl
   |1,_=>rfl
   |(k+3),_=>rfl
section
variable{w w0 w':World}{S F F1 S':Nat->Prop}{g bl c mb gb ib nb:Nat}{D:DG}{C:HT->List HT}{M:List NM}{K:Value->World->Prop}
noncomputable def jh(D:DG)(h:HT)(l:List HT):HT->List HT:=fun x=>if x∈l then dA (gV D x++ [h])else gV D x
structure AL(w0 w':World)(S F1 S':Nat->Prop)(g:Nat)(D:DG)(h:HT)(l:List HT)(gb ib nb:Nat)(pA:Option Addr)(pc i bl c mb:Nat)(M:List NM)(rA:Option Addr)(rn rc:Nat)(ws:List Nat):Prop where
 G:GV w' S' F1 g D (jh D h (l.take i)) bl c mb M
 sub:∀k,S k->S' k
 new:∀k,S' k->S k\/w0.heap.size<=k
 node:w'.heap[nb]? =some (.cells (gu h ⟨nb,pA,l.length,pc,none,0,0,rA,rn,rc,ws⟩) eh (0,0))
 ZP:¬S' nb
 row:lF w' nb rA rn rc ws
 ok:okW ws
 small:rn<=200
 ZO:∀k,bn rA=some k->¬S' k
 bits:∀j,bit ws j=true↔∃p∈l.take i,∃nj,D[j]? =some nj/\(nj.id=p\/eB D nj.id p)
 YW:w'.heap[gb]? =some (.cells #[.pointer (some ⟨g,0,none⟩)] lL (0,0))
 ibx:w'.heap[ib]? =some (.cells h.1 ag (0,0))
 noG:¬S' gb
 noI:¬S' ib
 hl:HS w' pA l.length l
 kp:Kept S w0 w'
theorem GX{h:HT}{l:List HT}{pA:Option Addr}{pc i:Nat}{rA:Option Addr}{rn rc:Nat}{ws:List Nat}{Q:aP}
 (L:AL w0 w' S F1 S' g D h l gb ib nb pA pc i bl c mb M rA rn rc ws) (W:jG D) (hD:D.length<=10000) (uT:SS l) (fQ:∀p∈l,p∈ids D) (Hg:∀k,F1 k->k<nb) (Ky:∀a,pA=some a->F1 a.block) (h0:w0.heap.size<=nb) (dY:i<l.length) (hll:l.length<=10000)
 (hQ:∀S2 M rA rn rc ws v,AL w0 v S F1 S2 g D h l gb ib nb pA pc (i+1) bl c mb M rA rn rc ws->Q .normal (bI.e1 ⟨gb,0,none⟩ ⟨ib,0,none⟩ 0 ⟨nb,0,none⟩ pA l.length pc (l.length:Int) ((i:Int)+1)) v):
 bI.B1 ⟨gb,0,none⟩ ⟨ib,0,none⟩ 0 ⟨nb,0,none⟩ pA l.length pc (l.length:Int) (i:Int) Q w':=by
 obtain⟨p,hp⟩:∃p,l[i]? =some p:=⟨_,List.getElem?_eq_getElem dY⟩;have rO:=List.mem_of_getElem? hp;have abl:=fQ p rO;refine Split.yes (decide_eq_true (by omega)) ?_;refine L.hl.load (i:=(i:Int)) (by omega) hp ?_;intro sM;obtain⟨tz,jT,kL⟩:=iu (w:=w') (z:=(zz 0)) (cs:=p.1) (t:=ag) (by rw [p.2.1];rfl);refine⟨⟨p.2.1,p.2.one,fun j hj=>tz j (by rw [p.2.1];exact hj)⟩,?_⟩;intro uz
 replace jT:uz.heap[w'.heap.size]? =some (.cells p.1 ag (0,0)):=jT
 replace uC:Kept Nil w' uz:=kL
 clear_value uz;refine⟨some ⟨g,0,none⟩,by rw [aD (uC.heap L.YW (fun h=>h))];rfl,p.1,⟨p.2.1,Cells.bJ jT⟩,?_⟩;refine wA (L.G.same uC) p fun w40 x k40 hx=>⟨x,rfl,?_⟩;rcases hx with⟨rfl,kW⟩|⟨q,nd,m',hq,ft,ny,rfl⟩
 ·exact absurd abl kW
 intro EZ;have Ir:Kept Nil w' EZ:=(uC.tt k40).drew;have Jo:EZ.heap[w'.heap.size]? =some (.cells p.1 ag (0,0)):=k40.heap jT (fun h=>h);clear_value EZ;have aiX:=Ir.size;have Ze:=L.G.same Ir;obtain⟨m,hm,Sw⟩:=Ze.get hq;rw [ny]at hm;cases hm;have Qs:=Ir.heap L.node (fun h=>h);have Ai:lF EZ nb rA rn rc ws:=Row.aF L.row Ir (fun _ _ h=>h);refine⟨rA,rn,rc,by rw [bt,Nat.zero_add,aD Qs];exact AH _ _,?_⟩;refine⟨_,_,_,xT Sw,some ⟨g,0,none⟩,by rw [aD (Ir.heap L.YW (fun h=>h))];rfl,?_⟩;refine⟨some mb,Ze.at_,p.1,⟨p.2.1,Cells.bJ Jo⟩,_,Ze.map.xZ p,?_⟩;rw [show pos p (ids D) 0=some q by rw [<-ft];exact W.pos_eq hq,Option.getD_some];have Hc:=(lgeS hq).1;have vY:=Sw.small;have aiL:=L.small;have hrA:∀k,bn rA=some k->nb<=k/\k<w'.heap.size:=fun k hk=>by
  obtain⟨h1,cur,hc⟩:=Row.bJ L.row hk;exact⟨h1,aV hc⟩
 have abA:nb<w'.heap.size:=aV L.node;have MS:∀ {v:World} {A:Option Addr} {n c:Nat} {l:List Nat} {B:Nat},lF v B A n c l->∀ {k:Nat} {cs:Array Value} {t:TypeId},v.heap[k]? =some (.cells cs t (0,0))->t≠jc->¬bn A=some k:=fun hr _ _ _ hk fD e=>by
  obtain⟨_,cur,hc⟩:=Row.bJ hr e;exact kK hk hc fD rfl
 refine xN Ai L.ok (by omega) (by omega) Sw.past Sw.ok (by omega) (fun a ha k hk e=>?_) fun A2 n2 c2 l2 MQ tT abv ajs Q4 Iq acU=>⟨A2,n2,c2,rfl,?_⟩
 ·have h1:=Hg a.block (Sw.pS a ha)
  have h2:=(hrA k hk).1;omega
 have hnF:∀k,F1 k->¬bn rA=some k:=fun k hk e=>by have:=Hg k hk;have:=(hrA k e).1;omega
 have G52:=Ze.aF Iq (fun k hk e=>L.ZO k e hk) hnF;have Ww:=Iq.heap Jo (MS Ai Jo (by decide));have V1:=Ir.heap L.YW (fun h=>h);have QP:=Iq.heap V1 (MS Ai V1 (by decide));have VW:=Ir.heap L.ibx (fun h=>h);have VV:=Iq.heap VW (MS Ai VW (by decide));have NQ:=Iq.heap Qs (MS Ai Qs (by decide));have aiW:=Iq.size;have VH:=G52.map.xZ p;rw [show pos p (ids D) 0=some q by rw [<-ft];exact W.pos_eq hq,Option.getD_some]at VH;refine⟨VH,⟨p.1,rfl,p.2.1,Cells.bJ Ww⟩,G52.at_,by rw [aD QP];rfl,?_⟩;have Oq:∀k,bn A2=some k->bn rA=some k\/EZ.heap.size<=k:=acU;refine Ag tT abv (by omega) (by omega) (by omega) fun A3 n3 c3 l3 rk xO abu ajr Q3 Gc Q6=>⟨A3,n3,c3,rfl,?_⟩;have C5:∀k,bn A2=some k->¬S' k:=fun k hk hs=>by
  rcases Oq k hk with h|h
  ·exact L.ZO k h hs
  ·have:=L.G.low k (.inl hs);omega
 have Jc:∀k,F1 k->¬bn A2=some k:=fun k hf hk=>by
  have:=Hg k hf;have:=(Row.bJ tT hk).1;omega
 have G55:=G52.aF Gc (fun k hk e=>C5 k e hk) Jc;have Mf:=Gc.heap QP (MS tT QP (by decide));have VU:=Gc.heap VV (MS tT VV (by decide));have Bh:=Gc.heap NQ (MS tT NQ (by decide));have aiV:=Gc.size;have afB:=vL h ⟨nb,pA,l.length,pc,none,0,0,rA,rn,rc,ws⟩;refine⟨by rw [bt,Nat.zero_add];exact dS Bh (by omega),?_⟩;intro w57 Ht;have Lw:Kept (· =nb) rk w57:=by
  show Kept (· =nb) rk (rk.setCell ((⟨nb,0,none⟩:Addr).add 34) (.slice A3 n3 c3))
  exact Kept.setCell (S:=fun k=>k=nb) (Kept.refl _ rk) (by rw [fg];exact fun _=>rfl) _
 have Vj:w57.heap[nb]? =some (.cells (gu h ⟨nb,pA,l.length,pc,none,0,0,A3,n3,c3,l3⟩) eh (0,0)):=by
  show(rk.setCell ((⟨nb,0,none⟩:Addr).add 34) (.slice A3 n3 c3)).heap[nb]? =_;rw [bt,Nat.zero_add,di Bh 34,AF];rfl
 have Ip:Kept (· =nb) rk Ht:=Lw.drew;have Vi:Ht.heap[nb]? =some (.cells (gu h ⟨nb,pA,l.length,pc,none,0,0,A3,n3,c3,l3⟩) eh (0,0)):=Vj;clear_value Ht;clear Vj Lw;have aiU:=Ip.size;have G58:=G55.aF Ip (fun k hk e=>L.ZP (e▸hk)) (fun k hk e=>by have:=Hg k hk;omega);have VZ:=Ip.heap Mf (kK Mf Bh (by decide));have QJ:=Ip.heap VU (kK VU Bh (by decide));have Tc:lF Ht nb A3 n3 c3 l3:=Row.aF xO Ip (fun k hk e=>by
  subst e;exact MS xO Bh (by decide) hk)
 obtain⟨m,hm,N58⟩:=G58.get hq;rw [ny]at hm;cases hm;refine⟨m'.cA,m'.cn,m'.cc,Ec N58,h.1,⟨h.2.1,Cells.bJ QJ⟩,h.2.1,?_⟩;intro X0;have k62:Kept Nil Ht X0:=(Kept.refl _ _).alloc _;have Q2:HS X0 (some ⟨Ht.heap.size,0,none⟩) 1 [h]:=jq Ht h;clear_value X0;have G62:=G58.same k62;obtain⟨m,hm,Sv⟩:=G62.get hq;rw [ny]at hm;cases hm;refine⟨Ec Sv,?_⟩;have Mi:=Sv.ch.len;have EA:jh D h (l.take i) nd.id=gV D p:=by
  unfold jh;rw [ft,if_neg];intro iY;obtain⟨j,hj⟩:=List.mem_iff_getElem?.1 iY;rw [List.getElem?_take]at hj;split at hj
  ·have:=uT.get (by omega) hj hp
   rw [iz]at this;cases this
  ·cases hj
 have qP:=mL D fun a=>mh D p a;have YE:m'.cn<=10000:=by
  rw [<-Mi,EA];unfold gV;omega
 obtain⟨A7,c7,G6,aa2,Tb,acd,acS⟩:=cK (cx:=1) ay Sv.ch Q2 (by omega) (Nat.zero_le _);have Gb:Kept (fun k=>bn m'.cA=some k) X0 G6:=Kept.grown (Kept.refl _ _) acd (fun k hk _=>hk);refine⟨A7,_,c7,G6,aa2,?_⟩;have aiT:=k62.size;have UD:=Gb.size;refine jg Tb.hs (by omega) fun A5 c5 OM HP k66=>⟨A5,_,c5,rfl,?_⟩;have aiS:=k66.size;have Vs:=Gb.heap Sv.bJ (fun e=>by
  obtain⟨_,cur,hc⟩:=Row.bJ Sv.ch e;exact kK Sv.bJ hc (by decide) rfl)
 have Jg:=k66.heap Vs (fun h=>h);refine⟨by rw [bt,Nat.zero_add];exact dS Jg (by rw [vL];omega),?_⟩;intro DR;have Lr:Kept (· =m'.b) OM DR:=by
  show Kept (· =m'.b) OM (OM.setCell ((⟨m'.b,0,none⟩:Addr).add 33) (.slice A5 (dA (jh D h (l.take i) nd.id++ [h])).length c5))
  exact Kept.setCell (S:=fun k=>k=m'.b) (Kept.refl _ OM) (by rw [fg];exact fun _=>rfl) _
 have Vr:DR.heap[m'.b]? =some (.cells (gu nd.id {m' with cA:=A5,cn:=(dA (jh D h (l.take i) nd.id++ [h])).length,cc:=c5}) eh (0,0)):=by
  show(OM.setCell ((⟨m'.b,0,none⟩:Addr).add 33) (.slice A5 (dA (jh D h (l.take i) nd.id++ [h])).length c5)).heap[m'.b]? =_;rw [bt,Nat.zero_add,di Jg 33,AG]
 clear_value DR;have kT:Kept (fun k=>bn m'.cA=some k\/k=m'.b) Ht DR:=
  (((k62.mono (S':=fun k=>bn m'.cA=some k\/k=m'.b) (fun _ _ h=>h.elim)).trans Gb (fun _ _ h=>.inl h)).trans k66 (fun _ _ h=>h.elim)).trans Lr (fun _ _ h=>.inr h)
 have I2:bM DR Ht.heap.size A5 (dA (jh D h (l.take i) nd.id++ [h])).length c5 (dA (jh D h (l.take i) nd.id++ [h])):=
  Row.base (Row.aF HP Lr (fun k hk e=>by
   subst e;obtain⟨_,cur,hc⟩:=Row.bJ HP hk;exact kK Jg hc (by decide) rfl)) (fun k hk=>by have:=(Row.bJ HP hk).1;omega)
 have G69:=G58.upd W hq ny kT Vr I2;have Gy:∀k,bn A5=some k->Ht.heap.size<=k:=fun k hk=>(Row.bJ I2 hk).1;have Sk:∀k,(bn m'.cA=some k\/k=m'.b)->S' k:=fun k e=>by
  rcases e with e|rfl
  ·exact N58.Rt k e
  ·exact N58.gC
 have hkf:(fun x=>if x=nd.id then dA (jh D h (l.take i) nd.id++ [h])else jh D h (l.take i) x)=jh D h (l.take (i+1)):=by
  funext x
  by_cases hx:x=nd.id
  ·rw [if_pos hx,EA,hx,ft]
   unfold jh;rw [if_pos ((bN hp).2 (.inr rfl))]
  ·rw [if_neg hx]
   unfold jh;have:x∈l.take (i+1)↔x∈l.take i:=by
    rw [bN hp];exact⟨fun e=>e.resolve_right (fun e=>hx (by rw [ft];exact e)),.inl⟩
   by_cases hm:x∈l.take i
   ·rw [if_pos hm,if_pos (this.2 hm)]
   ·rw [if_neg hm,if_neg (fun e=>hm (this.1 e))]
 rw [hkf]at G69;rw [dH (n:=(i:Int)) (by omega) (by omega)];have afL:nb<Ht.heap.size:=aV Vi;have lP:Kept S w0 DR:=by
  have k1:=L.kp.trans Ir (fun _ _ h=>h.elim);have k2:=k1.trans Iq (fun k hk e=>absurd (hrA k e).1 (by omega));have k3:=k2.trans Gc (fun k hk e=>absurd (Row.bJ tT e).1 (by omega));have k4:=k3.trans Ip (fun k hk e=>by omega);exact k4.trans kT (fun k hk e=>by
   rcases L.new k (Sk k e)with h|h
   ·exact h
   ·omega)
 refine hQ _ _ A3 n3 c3 l3 DR ⟨G69,fun k hk=>.inl (L.sub k hk),fun k hk=>?_,kT.heap Vi (fun e=>L.ZP (Sk _ e)),fun e=>?_,Row.aF Tc kT (fun k hk e=>?_),abu,by omega,fun k hk e=>?_,fun j=>?_,
  kT.heap VZ (fun e=>L.noG (Sk _ e)),kT.heap QJ (fun e=>L.noI (Sk _ e)),fun e=>?_,fun e=>?_,?_,lP⟩
 ·rcases hk with hk|hk
  ·exact L.new k hk
  ·have:=Gy k hk
   have:=L.kp.size;exact .inr (by omega)
 ·rcases e with e|e
  ·exact L.ZP e
  ·have:=Gy _ e;omega
 ·have hs:=Sk k e
  rcases Q6 k hk with h|h
  ·exact C5 k h hs
  ·have:=L.G.low k (.inl hs);omega
 ·have hk3:k<rk.heap.size:=by
   obtain⟨_,cur,hc⟩:=Row.bJ xO hk;exact aV hc
  rcases e with e|e
  ·rcases Q6 k hk with h|h
   ·exact C5 k h e
   ·have:=L.G.low k (.inl e);omega
  ·have:=Gy _ e;omega
 ·rw [Q3,Bool.or_eq_true,Q4,Bool.or_eq_true,L.bits,Sw.bits,decide_eq_true_iff]
  constructor
  ·rintro((⟨p',h1,h2⟩|⟨nj,h1,h2⟩)|rfl)
   ·exact⟨p',(bN hp).2 (.inl h1),h2⟩
   ·exact⟨p,(bN hp).2 (.inr rfl),nj,h1,.inr (ft▸h2)⟩
   ·exact⟨p,(bN hp).2 (.inr rfl),nd,hq,.inl ft⟩
  ·rintro⟨p',h1,nj,h2,h3⟩
   rcases(bN hp).1 h1 with h1|rfl
   ·exact .inl (.inl ⟨p',h1,nj,h2,h3⟩)
   ·rcases h3 with h3|h3
    ·exact .inr (W.inj h2 hq (h3.trans ft.symm))
    ·exact .inl (.inr ⟨nj,h2,ft▸h3⟩)
 ·rcases e with e|e
  ·exact L.noG e
  ·have:=Gy _ e;have:=aV VZ;omega
 ·rcases e with e|e
  ·exact L.noI e
  ·have:=Gy _ e;have:=aV QJ;omega
 ·have hb:∀a,pA=some a->F1 a.block/\a.block<nb:=fun a ha=>⟨Ky a ha,Hg _ (Ky a ha)⟩
  have k1:=L.hl.same Ir;have k2:=k1.aF Iq (fun a ha=>hnF _ (hb a ha).1);have k3:=k2.aF Gc (fun a ha=>Jc _ (hb a ha).1);have k4:=k3.aF Ip (fun a ha e=>by have:=(hb a ha).2;omega);exact k4.aF kT (fun a ha e=>L.G.Hj _ (Sk _ e) (hb a ha).1)
end
theorem SV:zI prog l9 fC 1 8:=⟨by kernel_rfl,by kernel_rfl⟩
theorem JR:Ss prog eh=some ([(0,32),(32,1),(33,1),(34,1)],List.replicate 32 (.int .u8 0)++ [.slice none 0 0,.slice none 0 0,.slice none 0 0]):=by kernel_rfl
theorem JP(h:HT)(b:Nat)(A:Option Addr)(n c:Nat):prog.built eh [(0,.agg h.1),(1,.slice A n c)]=some (gu h ⟨b,A,n,c,none,0,0,none,0,0,[]⟩):=by
 have hs:=h.2.1;rw [ou JR,jf (off:=0) (size:=32) rfl (by simpa [Value.cells]using hs) (by simp),jf (off:=32) (size:=1) rfl rfl (by
  rw [List.size_toArray,mH (by simp [Value.cells,hs])];simp)]
 simp only [Instr.fill,Option.some.injEq];apply Array.ext';unfold ig gu;simp [Value.cells,hs];rw [List.drop_append];simp [hs]
theorem GK(h:HT)(b:Nat):prog.built eh [(0,.agg h.1)]=some (gu h ⟨b,none,0,0,none,0,0,none,0,0,[]⟩):=by
 have hs:=h.2.1;rw [ou JR,jf (off:=0) (size:=32) rfl (by simpa [Value.cells]using hs) (by simp)];simp only [Instr.fill,Option.some.injEq];apply Array.ext';unfold ig gu;simp [Value.cells,hs]
section
variable{D:DG}{h:HT}{l:List HT}
theorem Dw(W:jG D)(hn:h∉ids D){x:HT}:jh D h l x=gV (D++ [⟨h,l⟩]) x:=by
 have iY:∀a,a∈gV (D++ [⟨h,l⟩]) x↔(a∈gV D x\/(a=h/\x∈l)):=fun a=>by
  unfold gV;rw [jv,jv,nV,lQ,List.mem_append,List.mem_singleton];constructor
  ·rintro⟨h1,h2|⟨h2,h3⟩⟩
   ·exact .inl ⟨(eB.mem W (.one h2)).2,h2⟩
   ·exact .inr ⟨h2.symm,h3⟩
  ·rintro(⟨h1,h2⟩|⟨rfl,h2⟩)
   ·exact⟨.inl h1,.inl h2⟩
   ·exact⟨.inr rfl,.inr ⟨rfl,h2⟩⟩
 unfold jh;by_cases uD:x∈l
 ·rw [if_pos uD]
  refine(yE (l:=gV (D++ [⟨h,l⟩]) x) (iL _) fun a=>?_).symm;rw [iY,List.mem_append,List.mem_singleton];exact⟨fun e=>e.imp (fun e=>e) (fun e=>e.1),fun e=>e.imp (fun e=>e) (fun e=>⟨e,uD⟩)⟩
 ·rw [if_neg uD]
  refine zv (iL _) (iL _) fun a=>?_;have:=iY a;unfold gV pick at this⊢;rw [this];exact⟨.inl,fun e=>e.resolve_right (fun e=>uD e.2)⟩
theorem GJ(W:jG D)(hn:h∉ids D)(fQ:∀p∈l,p∈ids D):gV (D++ [⟨h,l⟩]) h= []:=by
 cases hc:gV (D++ [⟨h,l⟩]) h with
 |nil=>rfl
 |cons b t=>
  exfalso;have:b∈gV (D++ [⟨h,l⟩]) h:=by rw [hc];simp
  rcases nV.1 (jv.1 this).2 with h1|⟨_,h2⟩
  ·exact hn (eB.mem W (.one h1)).1
  ·exact hn (fQ h h2)
theorem JS(W:jG D)(hn:h∉ids D){x:HT}(hx:x∈ids D)(j:Nat):(∃nj,(D++ [⟨h,l⟩])[j]? =some nj/\eB (D++ [⟨h,l⟩]) nj.id x)↔∃nj,D[j]? =some nj/\eB D nj.id x:=by
 constructor
 ·rintro⟨nj,h1,h2⟩
  have sP:=(jB W (nd:=⟨h,l⟩) hn hx).1 h2;rw [List.getElem?_append]at h1;split at h1
  ·exact⟨nj,h1,sP⟩
  ·exfalso
   have:nj=⟨h,l⟩:=by
    cases hk:j-D.length with
    |zero=>rw [hk]at h1;simpa using h1.symm
    |succ k=>rw [hk]at h1;simp at h1
   subst this;exact hn (sP.mem W).1
 ·rintro⟨nj,h1,h2⟩
  exact⟨nj,by rw [List.getElem?_append_left (lgeS h1).1];exact h1,(jB W (nd:=⟨h,l⟩) hn hx).2 h2⟩
theorem JT(W:jG D)(hn:h∉ids D)(fQ:∀p∈l,p∈ids D)(hs:SS l)(j:Nat):
 (∃nj,(D++ [⟨h,l⟩])[j]? =some nj/\eB (D++ [⟨h,l⟩]) nj.id h)↔∃p∈l,∃nj,D[j]? =some nj/\(nj.id=p\/eB D nj.id p):=by
 have W':jG (D++ [⟨h,l⟩]):=W.snoc (nd:=⟨h,l⟩) hn fQ hs;have gU:(D++ [⟨h,l⟩])[D.length]? =some ⟨h,l⟩:=by rw [List.getElem?_append_right (Nat.le_refl _),Nat.sub_self];rfl
 have key:∀a,eB (D++ [⟨h,l⟩]) a h↔∃p∈l,a=p\/eB D a p:=fun a=>by
  rw [sI W' gU a];constructor
  ·rintro⟨p,hp,e⟩
   exact⟨p,hp,e.imp (fun e=>e) (fun e=>(jB W (nd:=⟨h,l⟩) hn (fQ p hp)).1 e)⟩
  ·rintro⟨p,hp,e⟩
   exact⟨p,hp,e.imp (fun e=>e) (fun e=>(jB W (nd:=⟨h,l⟩) hn (fQ p hp)).2 e)⟩
 constructor
 ·rintro⟨nj,h1,h2⟩
  obtain⟨p,hp,e⟩:=(key _).1 h2;have hid:nj.id∈ids D:=by
   rcases e with e|e
   ·rw [e];exact fQ p hp
   ·exact(e.mem W).1
  rw [List.getElem?_append]at h1;split at h1
  ·exact⟨p,hp,nj,h1,e⟩
  ·exfalso
   have:nj=⟨h,l⟩:=by
    cases hk:j-D.length with
    |zero=>rw [hk]at h1;simpa using h1.symm
    |succ k=>rw [hk]at h1;simp at h1
   subst this;exact hn hid
 ·rintro⟨p,hp,nj,h1,e⟩
  exact⟨nj,by rw [List.getElem?_append_left (lgeS h1).1];exact h1,(key _).2 ⟨p,hp,e⟩⟩
end
section
variable{w w':World}{S F F':Nat->Prop}{g bl c mb:Nat}{D:DG}{C:HT->List HT}{M:List NM}{K:Value->World->Prop}
theorem GV.Tt(G:GV w S F g D C bl c mb M)(hf:∀k,F k->F' k)(hd:∀k,S k->¬F' k)(hl:∀k,F' k->k<w.heap.size):GV w S F' g D C bl c mb M:=
 ⟨G.top,G.row,G.map,G.len,fun i nd m h1 h2=>by
   have N:=G.node i nd m h1 h2;exact⟨N.bJ,N.gC,N.ps,fun a ha=>hf _ (N.K4 a ha),N.ch,N.Rt,N.past,fun a ha=>hf _ (N.pS a ha),N.ok,N.bits,N.small⟩,G.apart,G.iB,G.uq,G.wq,hd,fun k hk=>hk.elim (fun h=>G.low k (.inl h)) (hl k)⟩
theorem ML{w0:World}{F1 S':Nat->Prop}{h:HT}{l:List HT}{gb ib nb:Nat}{pA:Option Addr}{pc i:Nat}{rA:Option Addr}{rn rc:Nat}{ws:List Nat}
 (L:AL w0 w S F1 S' g D h l gb ib nb pA pc i bl c mb M rA rn rc ws) (W:jG D) (hD:D.length<=5000) (uT:SS l) (fQ:∀p∈l,p∈ids D) (hn:h∉ids D) (Hg:∀k,F1 k->k<nb) (Ky:∀a,pA=some a->F1 a.block) (h0:w0.heap.size<=nb) (dY:l.length<=i)
 (hK:∀v S2 F2,DL v S2 F2 g (D++ [⟨h,l⟩])->Kept S w0 v->(∀k,S2 k->S k\/w0.heap.size<=k)->(∀k,F2 k->F1 k\/w0.heap.size<=k)->K (.int .i64 0) v):
 bI.G0 ⟨gb,0,none⟩ ⟨ib,0,none⟩ 0 ⟨nb,0,none⟩ pA l.length pc (l.length:Int) (i:Int) K w:=by
 have Ux:l.take i=l:=List.take_of_length_le dY;have hG:=L.G;rw [Ux]at hG;have Of:=L.bits;rw [Ux]at Of;unfold bI.G0;intro RJ;have M9:Kept Nil w RJ:=(Kept.refl _ _).drew;clear_value RJ;have uZ:=hG.same M9;have Me:=M9.heap L.YW (fun h=>h);have Jf:=M9.heap L.node (fun h=>h);have DY:lF RJ nb rA rn rc ws:=Row.aF L.row M9 (fun _ _ h=>h);refine⟨some ⟨g,0,none⟩,by rw [aD Me];rfl,some mb,uZ.at_,h.1,⟨h.2.1,Cells.bJ (M9.heap L.ibx (fun h=>h))⟩,some ⟨g,0,none⟩,by rw [aD Me];rfl,?_⟩;refine⟨_,_,_,uZ.nodes,?_⟩;obtain⟨w85,UL,Ty,k85⟩:=uZ.map.put hn;rw [gF]at UL;refine⟨w85,UL,?_⟩;intro KO;have Pv:Kept (· =mb) RJ KO:=k85.drew;have M1:IsMap KO mb (ids D++ [h]):=Ty.aF ((Kept.refl Nil w85).drew) (fun h=>h);clear_value KO;have KS:∀ {v:World} {k:Nat} {cs:Array Value} {t:TypeId},IsMap v mb (ids D)->v.heap[k]? =some (.cells cs t (0,0))->k≠mb:=fun hm hk e=>by
  obtain⟨es,clock,L4,_⟩:=hm.ex;rw [e,L4]at hk;cases hk
 have QO:=Pv.heap Me (KS uZ.map Me);have ajp:=Pv.heap Jf (KS uZ.map Jf);have IS:=Pv.heap uZ.top (KS uZ.map uZ.top);have Ta:Row KO 0 fC 1 (some ⟨bl,0,none⟩) D.length c (M.map fun m=>.pointer (some ⟨m.b,0,none⟩)):=Row.aF uZ.row Pv (fun k hk e=>by
  obtain⟨_,cur,hc⟩:=Row.bJ uZ.row hk;exact KS uZ.map hc e)
 have ZH:lF KO nb rA rn rc ws:=Row.aF DY Pv (fun k hk e=>by
  obtain⟨_,cur,hc⟩:=Row.bJ DY hk;exact KS uZ.map hc e)
 refine⟨some ⟨g,0,none⟩,by rw [aD QO];rfl,some ⟨g,0,none⟩,by rw [aD QO];rfl,?_⟩;refine⟨some ⟨bl,0,none⟩,D.length,c,by rw [add_zero,aD IS];rfl,?_⟩;intro OK;have RT:Kept Nil KO OK:=(Kept.refl _ _).alloc _;have acQ:OK.heap[KO.heap.size]? =some (.cells #[.pointer (some ⟨nb,0,none⟩)] fC (0,0)):=aI KO _;clear_value OK;have Md:=RT.heap QO (fun h=>h);have CP:=RT.heap IS (fun h=>h);refine⟨by rw [add_zero,aD CP];rfl,by rw [aD Md];rfl,by rw [aD Md];rfl,?_⟩;have HN:Row OK 0 fC 1 (some ⟨bl,0,none⟩) D.length c (M.map fun m=>.pointer (some ⟨m.b,0,none⟩)):=Row.aF Ta RT (fun _ _ h=>h);obtain⟨Zh,Sr,OJ,aa0,HM,VY,acP⟩:=fR (P:=prog) (t:=l9) (ty:=l9) (bytes:=8) SV HN (a:=⟨KO.heap.size,0,none⟩) (m:=1) (cx:=1) (news:= [.pointer (some ⟨nb,0,none⟩)]) rfl
  (fun j u hj=>by rw [bt,Nat.zero_add,aD acQ];simpa using hj) (fun u hu=>by simp at hu;subst hu;rfl) (by omega) (by unfold maxLen;omega) (Nat.zero_le _)
 have Yc:Kept (· =bl) OK OJ:=Kept.grown (S:=fun k=>k=bl) (Kept.refl _ _) VY (fun k hk _=>by cases hk;rfl);refine⟨Zh,_,Sr,OJ,aa0,?_⟩;have tyL:∀ {k:Nat} {cs:Array Value} {t:TypeId},OK.heap[k]? =some (.cells cs t (0,0))->t≠fC->k≠bl:=fun hk fD=>by
  obtain⟨_,cur,hc⟩:=Row.bJ HN (k:=bl) rfl;exact kK hk hc fD
 have aca:=Yc.heap Md (tyL Md (by decide));have yU:=Yc.heap CP (tyL CP (by decide));refine⟨by rw [aD aca];rfl,by rw [add_zero];exact dS yU (by simp),?_⟩;intro Kk;have k95:Kept (· =g) OJ Kk:=by
  show Kept (· =g) OJ (OJ.setCell ((⟨g,0,none⟩:Addr).add 0) (.slice Zh (D.length+1) Sr))
  exact Kept.setCell (S:=fun k=>k=g) (Kept.refl _ OJ) (by rw [fg];exact fun _=>rfl) _
 have Qa:Kk.heap[g]? =some (.cells #[.slice Zh (D.length+1) Sr,.map (some mb)] iw (0,0)):=by
  show(OJ.setCell ((⟨g,0,none⟩:Addr).add 0) (.slice Zh (D.length+1) Sr)).heap[g]? =_;rw [add_zero,di yU 0];rfl
 clear_value Kk;obtain⟨St,rfl⟩:=Row.some HM (by omega);have aiQ:=Pv.size;have aiP:=RT.size;have lP:Kept (fun k=>k=g\/k=bl\/k=mb) RJ Kk:=
  (((Pv.mono (S':=fun k=>k=g\/k=bl\/k=mb) (fun _ _ h=>.inr (.inr h))).trans RT (fun _ _ h=>h.elim)).trans Yc (fun _ _ h=>.inr (.inl h))).trans k95 (fun _ _ h=>.inl h)
 have hTF:∀k,F1 k->¬(k=g\/k=bl\/k=mb):=fun k hk e=>by
  rcases e with rfl|rfl|rfl
  ·exact uZ.Hj _ uZ.iB hk
  ·exact uZ.Hj _ uZ.uq hk
  ·exact uZ.Hj _ uZ.wq hk
 have ty:∀ {k:Nat} {cs:Array Value} {t:TypeId},RJ.heap[k]? =some (.cells cs t (0,0))->t≠iw->t≠fC->¬(k=g\/k=bl\/k=mb):=fun hk h1 h2 e=>by
  rcases e with e|e|e
  ·rw [e]at hk
   exact kK hk uZ.top h1 rfl
  ·rw [e]at hk
   obtain⟨_,cur,hc⟩:=Row.bJ uZ.row (k:=bl) rfl;exact kK hk hc h2 rfl
  ·exact KS uZ.map hk e
 have CS:Row Kk 0 fC 1 (some ⟨St,0,none⟩) (D.length+1) Sr ((M.map fun m=>.pointer (some ⟨m.b,0,none⟩))++ [.pointer (some ⟨nb,0,none⟩)]):=Row.aF HM k95 (fun k hk e=>by
  obtain⟨_,cur,hc⟩:=Row.bJ HM hk;exact kK hc yU (by decide) e)
 have Tx:IsMap Kk mb (ids D++ [h]):=by
  obtain⟨es,clock,L4,_⟩:=M1.ex;have h1:=M1.aF RT (fun h=>h);have h2:=h1.aF Yc (fun e=>by
   obtain⟨_,cur,hc⟩:=Row.bJ HN (k:=bl) rfl;obtain⟨_,_,ny,_⟩:=h1.ex;rw [e,hc]at ny;cases ny)
  exact h2.aF k95 (fun e=>by
   obtain⟨_,_,ny,_⟩:=h2.ex;rw [e,yU]at ny;cases ny)
 have Qr:=lP.heap Jf (ty Jf (by decide) (by decide));have yH:lF Kk nb rA rn rc ws:=Row.aF DY lP (fun k hk e=>by
  obtain⟨_,cur,hc⟩:=Row.bJ DY hk;exact ty hc (by decide) (by decide) e)
 have Ji:(D++ [(⟨h,l⟩:DN)]).length=D.length+1:=by simp
 have WJ:St=bl\/OK.heap.size<=St:=by
  rcases acP St rfl with e|e
  ·exact .inl (by cases e;rfl)
  ·exact .inr e
 have mu:=L.kp.size;have aiR:=M9.size;have abA:=aV Jf;have UK:∀k,bn rA=some k->nb<=k/\k<Kk.heap.size:=fun k hk=>by
  obtain⟨h1,cur,hc⟩:=Row.bJ yH hk;exact⟨h1,aV hc⟩
 have gU:∀ {X:Type} (xs:List X) (y:X) (j:Nat) (z:X),(xs++ [y])[j]? =some z->(j<xs.length/\xs[j]? =some z)\/(j=xs.length/\z=y):=fun xs y j z e=>by
  rw [List.getElem?_append]at e;split at e
  ·rename_i cU;exact .inl ⟨cU,e⟩
  ·rename_i gE
   cases hk:j-xs.length with
   |zero=>rw [hk]at e;exact .inr ⟨by omega,by simpa using e.symm⟩
   |succ k=>rw [hk]at e;simp at e
 refine hK Kk (fun k=>S' k\/k=nb\/k=St) (fun k=>F1 k\/bn rA=some k) ⟨St,Sr,mb,M++ [⟨nb,pA,l.length,pc,none,0,0,rA,rn,rc,ws⟩],?_⟩ ?_ ?_ ?_
 ·refine⟨by rw [Ji];exact Qa,?_,by rw [lQ];exact Tx,by simp [hG.len],fun j nd m h1 h2=>?_,fun j j' m m' h1 h2 fD k hk oZ=>?_,.inl hG.iB,.inr (.inr rfl),.inl hG.wq,fun k hk hf=>?_,fun k hk=>?_⟩
  ·rw [Ji,List.map_append]
   exact CS
  ·rcases gU _ _ _ _ h1 with⟨hj,rQ⟩|⟨hj,rfl⟩
   ·rcases gU _ _ _ _ h2 with⟨_,sP⟩|⟨wc,_⟩
    ·have N:=uZ.node j nd m rQ sP
     have hid:nd.id∈ids D:=cS.2 ⟨nd,List.mem_of_getElem? rQ,rfl⟩;have hF:∀k,F1 k->¬(k=g\/k=bl\/k=mb):=hTF;rw [<-Dw W hn];refine⟨lP.heap N.bJ (ty N.bJ (by decide) (by decide)),.inl N.gC,N.ps.aF lP (fun a ha=>hF _ (N.K4 a ha)),fun a ha=>.inl (N.K4 a ha),Row.aF N.ch lP (fun k hk e=>?_),fun k hk=>.inl (N.Rt k hk),N.past.aF lP (fun a ha=>hF _ (N.pS a ha)),fun a ha=>.inl (N.pS a ha),N.ok,fun j=>?_,N.small⟩
     ·obtain⟨cur,hc⟩:=(Row.bJ N.ch hk).2
      exact ty hc (by decide) (by decide) e
     ·rw [N.bits,JS W hn hid]
    ·rw [hG.len]at wc;omega
   ·rcases gU _ _ _ _ h2 with⟨wc,_⟩|⟨_,rfl⟩
    ·rw [hG.len]at wc;omega
    ·rw [GJ W hn fQ]
     refine⟨Qr,.inr (.inl rfl),(L.hl.same M9).aF lP (fun a ha=>hTF _ (Ky a ha)),fun a ha=>.inl (Ky a ha),bM.nil _ _,(fun k hk=>by cases hk),yH.us,fun a ha=>.inr (congrArg bn ha),L.ok,fun j=>?_,L.small⟩;rw [Of,JT W hn fQ uT]
  ·rcases gU _ _ _ _ h1 with⟨_,rQ⟩|⟨_,rfl⟩
   ·rcases gU _ _ _ _ h2 with⟨_,sP⟩|⟨_,rfl⟩
    ·exact hG.apart j j' m m' rQ sP fD k hk oZ
    ·cases oZ
   ·cases hk
  ·rcases hk with hk|rfl|rfl
   ·rcases hf with hf|hf
    ·exact hG.Hj k hk hf
    ·exact L.ZO k hf hk
   ·rcases hf with hf|hf
    ·have:=Hg k hf;omega
    ·obtain⟨_,cur,hc⟩:=Row.bJ yH hf
     exact kK Qr hc (by decide) rfl
   ·rcases hf with hf|hf
    ·rcases WJ with e|e
     ·rw [e]at hf;exact hG.Hj _ hG.uq hf
     ·have:=Hg _ hf;omega
    ·obtain⟨_,cur,hc⟩:=Row.bJ yH hf
     obtain⟨_,Xw,uG⟩:=Row.bJ CS (k:=k) rfl;exact kK uG hc (by decide) rfl
  ·have aiO:=lP.size
   rcases hk with(hk|rfl|rfl)|hk|hk
   ·have:=uZ.low k (.inl hk);omega
   ·exact aV Qr
   ·obtain⟨_,Xw,uG⟩:=Row.bJ CS (k:=k) rfl
    exact aV uG
   ·have:=uZ.low k (.inr hk);omega
   ·exact(UK k hk).2
 ·exact(L.kp.trans M9 (fun _ _ h=>h.elim)).trans lP (fun k hk e=>by
   have hs:S' k:=by
    rcases e with rfl|rfl|rfl
    ·exact hG.iB
    ·exact hG.uq
    ·exact hG.wq
   rcases L.new k hs with h|h
   ·exact h
   ·omega)
 ·intro k hk
  rcases hk with hk|rfl|rfl
  ·exact L.new k hk
  ·exact .inr h0
  ·rcases WJ with e|e
   ·rw [e];exact L.new _ hG.uq
   ·exact .inr (by omega)
 ·intro k hk
  rcases hk with hk|hk
  ·exact .inl hk
  ·exact .inr (by have:=(UK k hk).1;omega)
theorem MD(G:GV w S F g D (gV D) bl c mb M)(W:jG D)(hD:D.length<=5000){A:Option Addr}{n cx:Nat}{lp:List HT}(hl:HS w A n lp)(hn:n<=10000)(h:HT)
 (hK:∀v S2 F2,DL v S2 F2 g (nz D h lp)->Kept S w v->(∀k,S2 k->S k\/w.heap.size<=k)->(∀k,F2 k->F k\/w.heap.size<=k)->K (.int .i64 (dF D h lp)) v):
 bz prog bI.id #[.pointer (some ⟨g,0,none⟩),.agg h.1,.slice A n cx] w K:=by
 have hlen:=hl.len;have kW:∀v,Kept Nil w v->∀e,dF D h lp=e->e≠0->K (.int .i64 e) v:=fun v k e he fD=>by
  have:=hK v S F ?_ (k.mono fun _ _ h=>h.elim) (fun _ h=>.inl h) (fun _ h=>.inl h)
  ·rw [he]at this;exact this
  ·unfold nz
   rw [if_neg (by rw [he];exact fD)];exact⟨bl,c,mb,M,G.same k⟩
 refine bI.of ?_;unfold bI.W;intro w4 w5;have k4:Kept Nil w w4:=(Kept.refl _ _).alloc _;have ED:w4.heap[w.heap.size]? =some (.cells #[.pointer (some ⟨g,0,none⟩)] lL (0,0)):=aI w _;have k5:Kept Nil w4 w5:=(Kept.refl _ _).alloc _;have Mb:w5.heap[w4.heap.size]? =some (.cells h.1 ag (0,0)):=aI w4 _;have V0:=k5.heap ED (fun h=>h);clear_value w5;have M5:Kept Nil w w5:=k4.tt k5;have QK:w.heap.size<w4.heap.size:=aV ED;have ajS:w4.heap.size<w5.heap.size:=aV Mb;clear_value w4;refine jg (hl.same M5) (by omega) fun Hn Xz w7 FD k7=>⟨Hn,_,Xz,rfl,?_⟩;have CC:Kept Nil w w7:=M5.tt k7;have hg7:=k7.heap V0 (fun h=>h);have hi7:=k7.heap Mb (fun h=>h);have G7:=G.same CC;have BY:(dA lp).length<=n:=by have:=qu lp;omega
 refine⟨some ⟨g,0,none⟩,by rw [aD hg7];rfl,yp G7 ⟨true,rfl,Split.no rfl ?_⟩⟩;refine⟨some ⟨g,0,none⟩,by rw [aD hg7];rfl,h.1,⟨h.2.1,Cells.bJ hi7⟩,uY G7 h fun jO nM=>⟨_,rfl,?_⟩⟩;have Ik:=CC.tt nM;by_cases hm:h∈ids D
 ·refine Split.yes (decide_eq_true hm) (kW jO Ik 7 ?_ (by omega))
  unfold dF;rw [if_pos hm]
 refine Split.no (decide_eq_false hm) ?_;by_cases h0:(dA lp).length=0
 ·refine Split.yes (by simp [h0]) (kW jO Ik 9 ?_ (by omega))
  unfold dF;rw [if_neg hm,if_pos (.inl h0)]
 refine Split.no (beq_eq_false_iff_ne.2 (by omega)) ?_;by_cases h1:(dA lp).length≠n
 ·refine Split.yes (bne_iff_ne.2 (by omega)) (kW jO Ik 9 ?_ (by omega))
  unfold dF;rw [if_neg hm,if_pos (.inr (by omega))]
 replace h1:(dA lp).length=n:=by omega
 refine Split.no (by rw [h1];simp) ?_;have V9:=nM.heap hg7 (fun h=>h);have MX:=Row.aF FD nM (fun _ _ h=>h);refine BF (G.same Ik) V9 (bM.hs MX) (by omega) fun pw x hx yc=>⟨x,rfl,?_⟩;have Ij:=Ik.tt yc;cases x with
 |true=>
  refine Split.yes rfl (kW pw Ij 6 ?_ (by omega));unfold dF;rw [if_neg hm,if_neg (by omega),if_pos (hx.1 rfl)]
 |false=>
  have fQ:∀p∈dA lp,p∈ids D:=fun p hp=>Classical.byContradiction fun Gp=>by have:=hx.2 ⟨p,hp,Gp⟩;cases this
  have Wv:dF D h lp=0:=by
   unfold dF;rw [if_neg hm,if_neg (by omega),if_neg (fun⟨p,hp,LQ⟩=>LQ (fQ p hp))]
  have hD':nz D h lp=D++ [⟨h,dA lp⟩]:=by unfold nz;rw [if_pos Wv]
  rw [Wv,hD']at hK;refine Split.no rfl ?_;have VX:=yc.heap (nM.heap hi7 (fun h=>h)) (fun h=>h);have QR:=yc.heap V9 (fun h=>h);have xP:bM pw w5.heap.size Hn (dA lp).length Xz (dA lp):=Row.aF MX yc (fun _ _ h=>h);refine⟨h.1,⟨h.2.1,Cells.bJ VX⟩,?_⟩;rw [JP h pw.heap.size];refine Is.mk rfl ?_;intro Kn;have PF:Kept Nil pw Kn:=(Kept.refl _ _).alloc _;have abB:Kn.heap[pw.heap.size]? =some (.cells (gu h ⟨pw.heap.size,Hn,(dA lp).length,Xz,none,0,0,none,0,0,[]⟩) eh (0,0)):=aI pw _;clear_value Kn;have TH:=Ij.tt PF;have Rn:∀k,bn Hn=some k->w5.heap.size<=k/\k<pw.heap.size:=fun k hk=>by
   obtain⟨e1,cur,hc⟩:=Row.bJ xP hk;exact⟨e1,aV hc⟩
  have hs5:=M5.size;have ai1:=Ij.size;have Hg:∀k,(F k\/bn Hn=some k)->k<pw.heap.size:=fun k hk=>by
   rcases hk with hk|hk
   ·have:=G.low k (.inr hk);omega
   ·exact(Rn k hk).2
  have Ms:∀k,S k->k<w.heap.size:=fun k hk=>G.low k (.inl hk);have G23:GV Kn S (fun k=>F k\/bn Hn=some k) g D (gV D) bl c mb M:=(G.same TH).Tt (fun _ h=>.inl h) (fun k hs e=>by
   rcases e with e|e
   ·exact G.Hj k hs e
   ·have:=Ms k hs;have:=(Rn k e).1;omega) (fun k hk=>by have:=Hg k hk;have:=PF.size;omega)
  have EA:jh D h ((dA lp).take 0)=gV D:=by
   funext y
   unfold jh;rw [if_neg (by simp)]
  have L0:AL w Kn S (fun k=>F k\/bn Hn=some k) S g D h (dA lp) w.heap.size w4.heap.size pw.heap.size Hn Xz 0 bl c mb M none 0 0 []:=
   ⟨by rw [EA];exact G23,fun _ h=>h,fun _ h=>.inl h,abB,fun e=>by have:=Ms _ e;omega,Row.nil _ _ _ _,by simp [okW],by omega,(fun k hk=>by cases hk),fun j=>by simp [zm],PF.heap QR (fun h=>h),PF.heap VX (fun h=>h),
     fun e=>by have:=Ms _ e;omega,fun e=>by have:=Ms _ e;omega,(xP.hs).same PF,TH.mono fun _ _ h=>h.elim⟩
  refine bI.cy (I:=fun s v=>∃(i:Nat) (S2:Nat->Prop) (M2:List NM) (rA:Option Addr) (rn rc:Nat) (ws:List Nat),s=(i:Int)/\i<=(dA lp).length/\AL w v S (fun k=>F k\/bn Hn=some k) S2 g D h (dA lp) w.heap.size w4.heap.size pw.heap.size Hn Xz i bl c mb M2 rA rn rc ws)
   (μ:=fun s _=>(((dA lp).length:Int)-s).toNat) (s:=0) ⟨0,S,M,none,0,0,[],rfl,Nat.zero_le _,L0⟩ ?_
  rintro s v ⟨i,S2,M2,rA,rn,rc,ws,rfl,hi,L⟩;have Ky:∀a,Hn=some a->F a.block\/bn Hn=some a.block:=fun a ha=>.inr (by rw [ha];rfl);by_cases dY:i<(dA lp).length
  ·refine GX L W (by omega) (iL _) fQ Hg Ky (by omega) dY (by omega) fun S3 M3 rA3 rn3 rc3 ws3 v3 L3=>?_
   exact⟨(i:Int)+1,rfl,⟨i+1,S3,M3,rA3,rn3,rc3,ws3,rfl,dY,L3⟩,by simp only;omega⟩
  ·refine Split.no (decide_eq_false (by omega)) ?_
   rw [aS,bI.OI];refine ML L W hD (iL _) fQ hm Hg Ky (by omega) (by omega) fun v2 S4 F4 hI VL hS4 hF4=>hK v2 S4 F4 hI VL hS4 (fun k hk=>?_);rcases hF4 k hk with(e|e)|e
   ·exact .inl e
   ·exact .inr (by have:=(Rn k e).1;omega)
   ·exact .inr e
end
def pL(nb:Nat):NM:=⟨nb,none,0,0,none,0,0,none,0,0,[]⟩
structure NP(w v:World)(r:HT)(A B E:Option Nat)(l:List HT):Prop where
 kp:Kept Nil w v
 node:∀b,A=some b->w.heap.size<=b/\v.heap[b]? =some (.cells (gu r (pL b)) eh (0,0))
 list:∀b,B=some b->w.heap.size<=b/\∃nb,A=some nb/\v.heap[b]? =some (.cells #[.pointer (some ⟨nb,0,none⟩)] fC (0,0))
 map:∀b,E=some b->w.heap.size<=b/\IsMap v b l
section
variable{w v:World}{r:HT}{A B E:Option Nat}{l:List HT}{K:Value->World->Prop}
theorem NP.grow(h:NP w v r A B E l)(o:Obj):NP w (v.alloc o) r A B E l:=
 ⟨h.kp.alloc o,fun b e=>⟨(h.node b e).1,jk (h.node b e).2 o⟩,fun b e=>⟨(h.list b e).1,let ⟨nb,h1,h2⟩:=(h.list b e).2;⟨nb,h1,jk h2 o⟩⟩,fun b e=>⟨(h.map b e).1,(h.map b e).2.aF ((Kept.refl Nil v).alloc o) (fun h=>h)⟩⟩
theorem NP.addNode(h:NP w v r none none E l):NP w (v.alloc (.cells (gu r (pL v.heap.size)) eh)) r (some v.heap.size) none E l:=
 have g:=h.grow (.cells (gu r (pL v.heap.size)) eh)
 ⟨g.kp,fun b e=>by cases e;exact⟨h.kp.size,aI v _⟩,fun b e=>(by cases e),g.map⟩
theorem NP.qJ{nb:Nat}(h:NP w v r (some nb) none E l):NP w (v.alloc (.cells #[.pointer (some ⟨nb,0,none⟩)] fC)) r (some nb) (some v.heap.size) E l:=
 have g:=h.grow (.cells #[.pointer (some ⟨nb,0,none⟩)] fC)
 ⟨g.kp,g.node,fun b e=>by cases e;exact⟨h.kp.size,nb,rfl,aI v _⟩,g.map⟩
theorem NP.DF(h:NP w v r A B none []):NP w (v.alloc (.map #[] 0)) r A B (some v.heap.size) []:=
 have g:=h.grow (.map #[] 0)
 ⟨g.kp,g.node,g.list,fun b e=>by cases e;exact⟨h.kp.size,⟨#[],0,aI v _,trivial⟩⟩⟩
theorem NP.put{mb:Nat}(h:NP w v r A B (some mb) []):∃v',(Instr.mapUpdate cJ (.map (some mb)) (.agg r.1) (.int .i64 0)).run prog v=.ok () v'/\NP w v' r A B (some mb) [r]:=by
 obtain⟨h1,h2⟩:=h.map mb rfl;obtain⟨v',hr,hm,hk⟩:=h2.put (h:=r) (by simp);have KS:∀ {k:Nat} {cs:Array Value} {t:TypeId},v.heap[k]? =some (.cells cs t (0,0))->¬(k=mb):=fun hk e=>by
  obtain⟨es,clock,L4,_⟩:=h2.ex;rw [e,L4]at hk;cases hk
 refine⟨v',hr,h.kp.trans hk (fun k hk e=>by omega),fun b e=>⟨(h.node b e).1,hk.heap (h.node b e).2 (KS (h.node b e).2)⟩,fun b e=>⟨(h.list b e).1,?_⟩,fun b e=>by cases e;exact⟨h1,hm⟩⟩;obtain⟨nb,e1,e2⟩:=(h.list b e).2;exact⟨nb,e1,hk.heap e2 (KS e2)⟩
theorem tf(r:HT){a b:HT}:¬mh [(⟨r,[]⟩:DN)] a b:=fun⟨nd,h1,_,h2⟩=>by
 simp at h1;subst h1;simp at h2
theorem Ak(r:HT){a b:HT}:¬eB [(⟨r,[]⟩:DN)] a b:=fun h=>by
 cases h with
 |one h=>exact tf r h
 |more _ h=>exact tf r h
theorem NP.fin{w0:World}{nb lb mb:Nat}(h:NP w v r (some nb) (some lb) (some mb) [r])(hw:w0.heap.size<=w.heap.size):
 DL (v.alloc (.cells #[.slice (some ⟨lb,0,none⟩) 1 1,.map (some mb)] iw)) (fun k=>w0.heap.size<=k/\k<(v.alloc (.cells #[.slice (some ⟨lb,0,none⟩) 1 1,.map (some mb)] iw)).heap.size) (fun _=>False) v.heap.size [⟨r,[]⟩]:=by
 have g:=h.grow (.cells #[.slice (some ⟨lb,0,none⟩) 1 1,.map (some mb)] iw);have jx:=aI v (.cells #[.slice (some ⟨lb,0,none⟩) 1 1,.map (some mb)] iw);generalize v.alloc (.cells #[.slice (some ⟨lb,0,none⟩) 1 1,.map (some mb)] iw)=u at g jx;have hs:=h.kp.size;obtain⟨n1,n2⟩:=g.node nb rfl;obtain⟨l1,nb',e,l2⟩:=g.list lb rfl;cases e;obtain⟨m1,m2⟩:=g.map mb rfl;have mz:gV [⟨r,[]⟩] r= []:=by
  cases hc:gV [⟨r,[]⟩] r with
  |nil=>rfl
  |cons b t=>exact absurd (jv.1 (show b∈gV [⟨r,[]⟩] r by rw [hc];simp)).2 (tf r)
 refine⟨lb,1,mb,[pL nb],jx,Row.made (n:=1) (cur:= #[.pointer (some ⟨nb,0,none⟩)]) l2 (Nat.zero_le _) rfl (by decide),m2,rfl,fun i nd m hi hm=>?_,fun i j m m' h1 h2 fD k hk=>?_,⟨by omega,aV jx⟩,⟨by omega,aV l2⟩,⟨by omega,m2.lt⟩,fun _ _ h=>h,fun k hk=>hk.elim (fun h=>h.2) (fun h=>h.elim)⟩
 ·cases i with
  |zero=>
   simp at hi hm;subst hi;subst hm;refine⟨n2,⟨Nat.le_trans hw n1,aV n2⟩,HS.nil _ _,(fun a ha=>by cases ha),?_,(fun k hk=>by cases hk),⟨rfl,fun i x hx=>by simp [pL]at hx⟩,(fun a ha=>by cases ha),by simp [okW,pL],fun j=>?_,by simp [pL]⟩
   ·show bM u 0 none 0 0 (gV [⟨r,[]⟩] r)
    rw [mz];exact bM.nil _ _
   ·show bit [] j=true↔_
    rw [zm];exact⟨(fun h=>by cases h),fun⟨nj,_,h⟩=>absurd h (Ak r)⟩
  |succ i=>simp at hi
 ·have hm:m=pL nb:=by
   have:=List.mem_of_getElem? h1;simpa using this
  subst hm;cases hk
theorem gw(r:HT)(hK:∀v gb,DL v (fun k=>w.heap.size<=k/\k<v.heap.size) (fun _=>False) gb [⟨r,[]⟩]->Kept Nil w v->K (.pointer (some ⟨gb,0,none⟩)) v):
 bz prog nH.id #[.agg r.1] w K:=by
 refine nH.of ?_;unfold nH.W;intro w2 w3;have k2:Kept Nil w w2:=(Kept.refl _ _).alloc _;have kX:w2.heap[w.heap.size]? =some (.cells r.1 ag (0,0)):=aI w _;have k3:Kept Nil w w3:=k2.drew;have nC:w3.heap[w.heap.size]? =some (.cells r.1 ag (0,0)):=kX;clear_value w3;have N3:NP w3 w3 r none none none []:=⟨Kept.refl _ _,(fun b e=>by cases e),(fun b e=>by cases e),(fun b e=>by cases e)⟩;have nv:∀ {v:World},Kept Nil w3 v->∃cs:Array Value,(.agg r.1:Value)=.agg cs/\cs.size=32/\Cells v (aR w.heap.size) cs:=fun k=>⟨r.1,rfl,r.2.1,Cells.bJ (k.heap nC (fun h=>h))⟩;have we:∀ {v:World} {nb lb mb:Nat},NP w3 v r (some nb) (some lb) (some mb) [r]->K (.pointer (some ⟨v.heap.size,0,none⟩)) (v.alloc (.cells #[.slice (some ⟨lb,0,none⟩) 1 1,.map (some mb)] iw)):=fun h=>hK _ _ (h.fin k3.size) ((k3.tt h.kp).alloc _);refine⟨r.1,⟨r.2.1,Cells.bJ nC⟩,?_⟩;have Vb:∀b,prog.built eh [(0,.agg r.1)]=some (gu r (pL b)):=fun b=>GK r b;rw [Vb 0];refine Is.mk rfl ?_;refine⟨r.1,⟨r.2.1,Cells.bJ nC⟩,?_⟩;refine⟨?_,?_⟩
 ·have N7:NP w3 (w3.alloc (.cells (gu r (pL w3.heap.size)) eh)) r (some w3.heap.size) none none []:=N3.addNode
  refine⟨nv N7.kp,?_,?_⟩
  ·have N8:=N7.qJ
   have N9:=N8.DF;obtain⟨v,hr,SA⟩:=N9.put;exact⟨nv N8.kp,nv N9.kp,v,hr,we SA⟩
  ·have RF:=N7.DF
   refine⟨nv RF.kp,?_,?_⟩
   ·have MO:=RF.qJ
    obtain⟨v,hr,RE⟩:=MO.put;exact⟨nv MO.kp,v,hr,we RE⟩
   ·obtain⟨v,hr,Sz⟩:=RF.put
    exact⟨v,hr,we Sz.qJ⟩
 ·have KK:=N3.DF
  refine⟨nv KK.kp,nv KK.kp,?_,?_⟩
  ·have OE:NP w3 ((w3.alloc (.map #[] 0)).alloc (.cells (gu r (pL (w3.alloc (.map #[] 0)).heap.size)) eh)) r (some (w3.alloc (.map #[] 0)).heap.size) none (some w3.heap.size) []:=KK.addNode
   refine⟨nv OE.kp,?_,?_⟩
   ·have OD:=OE.qJ
    obtain⟨v,hr,Sx⟩:=OD.put;exact⟨nv OD.kp,v,hr,we Sx⟩
   ·obtain⟨v,hr,XQ⟩:=OE.put
    exact⟨v,hr,we XQ.qJ⟩
  ·obtain⟨v,hr,RD⟩:=KK.put
   exact⟨v,hr,nv RD.kp,we RD.addNode.qJ⟩
end
section
variable{w w':World}{S S' F:Nat->Prop}{g bl c mb:Nat}{D:DG}{C:HT->List HT}{M:List NM}{K:Value->World->Prop}
end
section
variable{w w':World}{S S' F:Nat->Prop}{g bl c mb:Nat}{D:DG}{C:HT->List HT}{M:List NM}{K:Value->World->Prop}
end
theorem dR{w:World}{b:Nat}{z cs:Array Value}{t:TypeId}(h:w.heap[b]? =some (.cells z t (0,0)))(hz:z.size=cs.size):
 (∀j,j<cs.size->Wr w ((⟨b,0,none⟩:Addr).add j))/\(setCells w ⟨b,0,none⟩ cs.toList 0).heap[b]? =some (.cells cs t (0,0))/\Kept (· =b) w (setCells w ⟨b,0,none⟩ cs.toList 0):=by
 refine⟨fun j hj=>?_,?_,fu _ _ _ _⟩
 ·rw [bt,Nat.zero_add]
  exact dS h (by omega)
 ·have h1:=lh cs.toList z w t 0 0 h (by simp;omega)
  rw [h1,vj (by simp [hz])]
def hx(i:Nat)(hi:i<256):HT:=⟨#[.int .u8 (i:Int),.int .u8 0,.int .u8 0,.int .u8 0,.int .u8 0,.int .u8 0,.int .u8 0,.int .u8 0,.int .u8 0,.int .u8 0,.int .u8 0,.int .u8 0,.int .u8 0,.int .u8 0,.int .u8 0,.int .u8 0,.int .u8 0,.int .u8 0,.int .u8 0,.int .u8 0,.int .u8 0,.int .u8 0,.int .u8 0,.int .u8 0,.int .u8 0,.int .u8 0,.int .u8 0,.int .u8 0,.int .u8 0,.int .u8 0,.int .u8 0,.int .u8 0],rfl,fun v hv=>by
 simp only [List.mem_cons,List.not_mem_nil,or_false]at hv;rcases hv with rfl|hv
 ·exact⟨i,rfl,by omega,by omega⟩
 ·exact⟨0,by simpa using hv,by omega,by omega⟩⟩
theorem tw{i j:Nat}{hi:i<256}{hj:j<256}(h:i≠j):hx i hi≠hx j hj:=fun e=>by
 have:=congrArg (fun a:HT=>a.1[0]?) e;simp [hx]at this;omega
section
variable{w w':World}{K:Value->World->Prop}
end
theorem HS.lay{w:World}{b:Nat}{l:List HT}{t:TypeId}(hb:w.heap[b]? =some (.cells (df l).toArray t (0,0))):HS w (some ⟨b,0,Option.none⟩) l.length l:=
 ⟨rfl,fun i x hi=>⟨_,rfl,aV hb,fun j v hj=>by
   rw [bt,bt,Nat.zero_add,aD hb];simpa using lJ hi hj⟩⟩
section
variable{r a b c:HT}(yZ:r≠a)(wQ:r≠b)(Ev:r≠c)(lE:a≠b)(EH:a≠c)(B9:b≠c)
abbrev kD(r a b c:HT):DG:= [⟨r,[]⟩,⟨a,[r]⟩,⟨b,[r]⟩,⟨c,dA [a,b]⟩]
include yZ in
theorem k1:dF [⟨r,[]⟩] a [r]=0/\nz [⟨r,[]⟩] a [r]= [⟨r,[]⟩,⟨a,[r]⟩]:=by
 have h:dF [⟨r,[]⟩] a [r]=0:=by
  unfold dF;rw [if_neg (by simp [ids];exact fun e=>yZ e.symm),uP,if_neg (by simp),if_neg (by simp [ids])]
 exact⟨h,by unfold nz;rw [if_pos h,uP];rfl⟩
include wQ lE in
theorem k2:dF [⟨r,[]⟩,⟨a,[r]⟩] b [r]=0/\nz [⟨r,[]⟩,⟨a,[r]⟩] b [r]= [⟨r,[]⟩,⟨a,[r]⟩,⟨b,[r]⟩]:=by
 have h:dF [⟨r,[]⟩,⟨a,[r]⟩] b [r]=0:=by
  unfold dF;rw [if_neg (by simp [ids];exact⟨fun e=>wQ e.symm,fun e=>lE e.symm⟩),uP,if_neg (by simp),if_neg (by simp [ids])]
 exact⟨h,by unfold nz;rw [if_pos h,uP];rfl⟩
include Ev lE EH B9 in
theorem k3:dF [⟨r,[]⟩,⟨a,[r]⟩,⟨b,[r]⟩] c [a,b]=0/\nz [⟨r,[]⟩,⟨a,[r]⟩,⟨b,[r]⟩] c [a,b]=kD r a b c:=by
 have hl:(dA [a,b]).length=2:=qV (by simp [lE]);have h:dF [⟨r,[]⟩,⟨a,[r]⟩,⟨b,[r]⟩] c [a,b]=0:=by
  unfold dF;rw [if_neg (by simp [ids];exact⟨fun e=>Ev e.symm,fun e=>EH e.symm,fun e=>B9 e.symm⟩),hl,if_neg (by simp),if_neg];rintro⟨p,hp,hn⟩;rw [dt]at hp;simp at hp;simp [ids]at hn;rcases hp with rfl|rfl
  ·exact hn.2.1 rfl
  ·exact hn.2.2 rfl
 exact⟨h,by unfold nz;rw [if_pos h];rfl⟩
end
section
variable{w w':World}{K:Value->World->Prop}
end
structure alP(w:World)(S F:Nat->Prop)(g:Nat)(FR:Nat->Prop)(r:Nat)(D:DG):Prop where
 G:DL w S F g D
 R:uM w FR r D
 rS:¬S r
 rF:¬F r
 fS:∀k,FR k->¬S k
 low:∀k,FR k->k<w.heap.size
section
variable{w v w':World}{S F S2 F2 FR:Nat->Prop}{g r:Nat}{D D':DG}{K:Value->World->Prop}
theorem JO(h:HT):prog.built bW [(0,.agg h.1)]=some (h.1.push (.slice none 0 0)):=by
 have hs:=h.2.1;rw [ou EO,jf (off:=0) (size:=32) rfl (by simpa [Value.cells]using hs) (by simp)];simp only [Instr.fill,Option.some.injEq];apply Array.ext';unfold ig;simp [Value.cells,hs]
end
end Go.Proofs.YtfleamccglihoaaGreatDoor
