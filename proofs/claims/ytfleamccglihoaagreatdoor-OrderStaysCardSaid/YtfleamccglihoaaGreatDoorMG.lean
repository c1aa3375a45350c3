import Derived.Test.YtfleamccglihoaaGreatDoorProg
import Derived.Shelf.SlSortCmp.NoneTotal
import Derived.Shelf.SlMaps.Clone
import Derived.Shelf.Spec.TrailingZeros
import Derived.Shelf.Strconv.Itoa0
import Derived.Shelf.Bits.Mul64
import Derived.Test.YtfleamccglihoaaGreatDoorMA
import Derived.Test.YtfleamccglihoaaGreatDoorMB
import Derived.Lib.BytesEntry
import Derived.Test.YtfleamccglihoaaGreatDoorMC
import Derived.LaidEql
open Go.IntKind (i64 u64)
set_option linter.unusedVariables false
namespace Go.Proofs
open Go.Shelf
def Tryz.pQ:Go.Shelf.Ren:=⟨fun|6=>53|15=>98|14=>97|28=>135|29=>136|20=>127|21=>128|22=>129|23=>130|24=>131|25=>132|26=>133|27=>134|46=>152|47=>153|48=>154|49=>155|50=>156|57=>163|n=>n,fun|22=>33|24=>24|25=>106|3=>3|39=>150|0=>0|53=>182|55=>22|4=>4|46=>176|45=>175|50=>162|5=>5|9=>9|66=>204|70=>208|76=>215|77=>216|n=>n,fun|n=>n⟩
theorem Tryz.wM:Go.Proofs.SlLaysF0.n6 prog Tryz.pQ:= {
 mixed:=by kernel_rfl
 f6:=⟨f53.name,by decide,func53.trans (congrArg some (by kernel_rfl))⟩
 f14:=⟨f97.name,by decide,func97.trans (congrArg some (by kernel_rfl))⟩
 f15:=func98.trans (congrArg some (by kernel_rfl))
 f20:=⟨f127.name,by decide,func127.trans (congrArg some (by kernel_rfl))⟩
 f21:=⟨f128.name,by decide,func128.trans (congrArg some (by kernel_rfl))⟩
 f22:=⟨Tryz.f129.name,by decide,func129.trans (congrArg some (by kernel_rfl))⟩
 f23:=⟨f130.name,by decide,func130.trans (congrArg some (by kernel_rfl))⟩
 f24:=⟨f131.name,by decide,func131.trans (congrArg some (by kernel_rfl))⟩
 f25:=⟨f132.name,by decide,func132.trans (congrArg some (by kernel_rfl))⟩
 f26:=⟨f133.name,by decide,func133.trans (congrArg some (by kernel_rfl))⟩
 f27:=⟨f134.name,by decide,func134.trans (congrArg some (by kernel_rfl))⟩
 f28:=func135.trans (congrArg some (by kernel_rfl))
 f29:=func136.trans (congrArg some (by kernel_rfl))
 f46:=⟨f152.name,by decide,func152.trans (congrArg some (by kernel_rfl))⟩
 f47:=func153.trans (congrArg some (by kernel_rfl))
 f48:=func154.trans (congrArg some (by kernel_rfl))
 f49:=⟨f155.name,by decide,func155.trans (congrArg some (by kernel_rfl))⟩
 f50:=⟨f156.name,by decide,func156.trans (congrArg some (by kernel_rfl))⟩
 f57:=⟨f163.name,by decide,func163.trans (congrArg some (by kernel_rfl))⟩
 t0:=underlying0
 a0:=isAgg0
 z0:=sizeOf0
 v0:=zeroValue0
 t3:=underlying3
 a3:=isAgg3
 z3:=sizeOf3
 v3:=zeroValue3
 t4:=underlying4
 a4:=isAgg4
 z4:=sizeOf4
 v4:=zeroValue4
 t5:=underlying5
 a5:=isAgg5
 z5:=sizeOf5
 v5:=zeroValue5
 t9:=underlying9
 a9:=isAgg9
 z9:=sizeOf9
 v9:=zeroValue9
 t22:=underlying33
 a22:=isAgg33
 z22:=sizeOf33
 v22:=zeroValue33
 t25:=underlying106
 a25:=isAgg106
 z25:=sizeOf106
 v25:=zeroValue106
 t39:=underlying150
 a39:=isAgg150
 z39:=sizeOf150
 v39:=zeroValue150
 t45:=underlying175
 a45:=isAgg175
 z45:=sizeOf175
 v45:=zeroValue175
 t46:=underlying176
 a46:=isAgg176
 z46:=sizeOf176
 v46:=zeroValue176
 t50:=underlying162
 a50:=isAgg162
 z50:=sizeOf162
 v50:=zeroValue162
 t53:=underlying182
 a53:=isAgg182
 z53:=sizeOf182
 v53:=zeroValue182
 t55:=underlying22
 a55:=isAgg22
 z55:=sizeOf22
 v55:=zeroValue22
 t66:=underlying204
 a66:=isAgg204
 z66:=sizeOf204
 v66:=zeroValue204
 t70:=underlying208
 a70:=isAgg208
 z70:=sizeOf208
 v70:=zeroValue208
 t76:=underlying215
 a76:=isAgg215
 z76:=sizeOf215
 v76:=zeroValue215
 t77:=underlying216
 a77:=isAgg216
 z77:=sizeOf216
 v77:=zeroValue216}
def Tryz.jK:Go.Shelf.Ren:=⟨fun|29=>159|n=>n,fun|22=>22|3=>3|4=>4|25=>150|54=>218|0=>0|5=>5|n=>n,fun|1=>1|n=>n⟩
theorem Tryz.tzL:Go.Proofs.Lays7.n29 prog Tryz.jK:= {
 mixed:=by kernel_rfl
 f29:=func159.trans (congrArg some (by kernel_rfl))
 t0:=underlying0
 a0:=isAgg0
 z0:=sizeOf0
 v0:=zeroValue0
 i0:=by kernel_rfl
 t3:=underlying3
 a3:=isAgg3
 z3:=sizeOf3
 v3:=zeroValue3
 i3:=by kernel_rfl
 t4:=underlying4
 a4:=isAgg4
 z4:=sizeOf4
 v4:=zeroValue4
 i4:=by kernel_rfl
 t5:=underlying5
 a5:=isAgg5
 z5:=sizeOf5
 v5:=zeroValue5
 i5:=by kernel_rfl
 t22:=underlying22
 a22:=isAgg22
 z22:=sizeOf22
 v22:=zeroValue22
 i22:=by kernel_rfl
 t25:=underlying150
 a25:=isAgg150
 z25:=sizeOf150
 v25:=zeroValue150
 i25:=by kernel_rfl
 t54:=underlying218
 a54:=isAgg218
 z54:=sizeOf218
 g1:=by kernel_rfl}
def Tryz.zO:Go.Shelf.Ren:=⟨fun|129=>136|n=>n,fun|53=>22|3=>3|4=>4|46=>150|5=>5|9=>9|n=>n,fun|n=>n⟩
theorem Tryz.Kv:Go.Proofs.Lays.n129 prog Tryz.zO:= {
 mixed:=by kernel_rfl
 f129:=func136.trans (congrArg some (by kernel_rfl))
 t3:=underlying3
 a3:=isAgg3
 z3:=sizeOf3
 v3:=zeroValue3
 t4:=underlying4
 a4:=isAgg4
 z4:=sizeOf4
 v4:=zeroValue4
 t5:=underlying5
 a5:=isAgg5
 z5:=sizeOf5
 v5:=zeroValue5
 t9:=underlying9
 a9:=isAgg9
 z9:=sizeOf9
 v9:=zeroValue9
 t46:=underlying150
 a46:=isAgg150
 z46:=sizeOf150
 v46:=zeroValue150
 t53:=underlying22
 a53:=isAgg22
 z53:=sizeOf22
 v53:=zeroValue22}
def Tryz.zN:Go.Shelf.Ren:=⟨fun|264=>161|n=>n,fun|53=>22|46=>150|n=>n,fun|n=>n⟩
theorem Tryz.Ku:Go.Proofs.Lays.n264 prog Tryz.zN:= {
 mixed:=by kernel_rfl
 f264:=func161.trans (congrArg some (by kernel_rfl))
 t46:=underlying150
 a46:=isAgg150
 z46:=sizeOf150
 v46:=zeroValue150
 t53:=underlying22
 a53:=isAgg22
 z53:=sizeOf22
 v53:=zeroValue22}
end Go.Proofs
namespace Go.bR
open Go.RowKit
theorem ji.mono{P:Program}{l:Nat}{args:Array Value}{w:World}{R R':Bool->World->Prop}(h:ji P l args w R)(hr:∀b w',R b w'->R' b w'):ji P l args w R':=by
 obtain⟨g,tmps,assign,body,h1,h2⟩:=h;exact⟨g,tmps,assign,body,h1,fun r m=>RoundIn.mono (h2 r m) fun e w' ⟨b,he,hb⟩=>⟨b,he,hr _ _ hb⟩⟩
def gK(xs:List Value)(k:Nat)(vs:List Value):List Value:=xs.take k++vs++xs.drop (k+vs.length)
theorem qw(xs:List Value)(k:Nat):gK xs k []=xs:=by simp [gK]
theorem oW{xs:List Value}{k:Nat}(hk:k<xs.length)(v:Value)(vs:List Value):gK xs k (v::vs)=gK (xs.set k v) (k+1) vs:=by
 unfold gK;rw [List.take_add_one,List.take_set_of_le (Nat.le_refl k),List.getElem?_set_self hk,List.drop_set];rw [if_pos (by omega),List.length_cons,show k+(vs.length+1)=k+1+vs.length by omega];simp
theorem lX{xs:List Value}{k:Nat}{vs:List Value}(h:k+vs.length<=xs.length):(gK xs k vs).length=xs.length:=by
 unfold gK;simp;omega
theorem uu{xs vs:List Value}(h:vs.length=xs.length):gK xs 0 vs=vs:=by
 unfold gK;simp [h]
section
variable{w:World}{B:Nat}{e:TypeId}{size n c b:Nat}
theorem qW:∀(vs:List Value) (xs:List Value) (w:World) (o i:Nat),Row w B e size (some ⟨b,0,none⟩) n c xs->o+i+vs.length<=xs.length->
 Row (setCells w ⟨b,o,none⟩ vs i) B e size (some ⟨b,0,none⟩) n c (gK xs (o+i) vs)
 | [],xs,w,o,i,h,_=>by rw [qw];exact h
 |v::vs,xs,w,o,i,h,hl=>by
  rw [List.length_cons]at hl;rw [oW (by omega)];simp only [setCells];rw [bg];have h1:=Row.set h (j:=o+i) (by omega) v;have:=qW vs (xs.set (o+i) v) _ o (i+1) h1 (by rw [List.length_set];omega)
  rwa [show o+(i+1)=o+i+1 by omega]at this
theorem eZ:∀(vs:List Value) (w:World) (o i:Nat),Kept (· =b) w (setCells w ⟨b,o,none⟩ vs i)
 | [],w,o,i=>Kept.refl _ _
 |v::vs,w,o,i=>by
  simp only [setCells];rw [bg];exact(Kept.setCell (S:=fun k=>k=b) (Kept.refl _ w) (p:=⟨b,o+i,none⟩) (fun _=>rfl) v).tt (eZ vs _ o (i+1))
theorem kj:∀(vs:List Value) (cur:Array Value) (w:World) (t:TypeId) (o i:Nat),w.heap[b]? =some (.cells cur t (0,0))->o+i+vs.length<=cur.size->
 (setCells w ⟨b,o,none⟩ vs i).heap[b]? =some (.cells (gK cur.toList (o+i) vs).toArray t (0,0))
 | [],cur,w,t,o,i,h,_=>by rw [qw];simpa [setCells]using h
 |v::vs,cur,w,t,o,i,h,hl=>by
  rw [List.length_cons]at hl;rw [oW (by simp;omega)];simp only [setCells];rw [bg];have h1:=dc h (o+i) v;have:=kj vs _ _ t o (i+1) h1 (by simp;omega);rw [show o+(i+1)=o+i+1 by omega]at this;rw [this];simp
theorem gR{z cs:Array Value}{t:TypeId}(hz:z.size=cs.size):
 (∀j,j<cs.size->Wr (w.alloc (.cells z t)) ((⟨w.heap.size,0,none⟩:Addr).add j))/\
 (setCells (w.alloc (.cells z t)) ⟨w.heap.size,0,none⟩ cs.toList 0).heap[w.heap.size]? =some (.cells cs t (0,0))/\
 Kept Nil w (setCells (w.alloc (.cells z t)) ⟨w.heap.size,0,none⟩ cs.toList 0):=by
 refine⟨fun j hj=>?_,?_,?_⟩
 ·rw [bg,Nat.zero_add]
  exact dO (aI w _) (by omega)
 ·have h:=kj cs.toList z (w.alloc (.cells z t)) t 0 0 (aI w _) (by simp;omega)
  rw [h,uu (by simp [hz])]
 ·exact((Kept.refl Nil w).alloc _).trans (eZ cs.toList _ 0 0) (fun k hk e=>absurd hk (by omega))
end
end Go.bR
namespace Go.bR
theorem D8:∀(vs:List Value) (off k:Nat) (cells:Array Value),off+k+vs.length<=cells.size->
 ((vs.zipIdx k).foldl (fun(cs:Array Value) (p:Value×Nat)=>cs.setIfInBounds (off+p.2) p.1) cells)=(gK cells.toList (off+k) vs).toArray
 | [],off,k,cells,_=>by rw [qw];simp
 |v::vs,off,k,cells,h=>by
  rw [List.length_cons]at h;rw [oW (by simp;omega),List.zipIdx_cons,List.foldl_cons];have:=D8 vs off (k+1) (cells.setIfInBounds (off+k) v) (by simp;omega);rw [this,Array.toList_setIfInBounds];rfl
theorem iM{place:Nat->Option (Nat×Nat)}{cells:Array Value}{i off size:Nat}{v:Value}{rest:List (Nat×Value)}(hp:place i=some (off,size))(hs:v.cells.size=size)(hle:off+size<=cells.size):
 Instr.fill place cells ((i,v)::rest)=Instr.fill place (gK cells.toList off v.cells.toList).toArray rest:=by
 rw [Instr.fill,hp];simp only;rw [if_neg (by simp;omega)]
 congr 1
 have h:=D8 v.cells.toList off 0 cells (by simp;omega);rw [Nat.add_zero]at h;rw [<-h,<-Array.foldl_toList,Array.toList_zipIdx]
def RK(P:Program)(t:TypeId):Option (List (Nat×Nat)×List Value):=
 match P.info? t,P.underlying t with
 |some it,some (.struct fields)=>
  match it.zero,fields.toList.mapM (fun f=>(P.info? f.type).map fun i=>(f.offset,i.size))with
  |some z,some places=>some (places,z.cells.toList)
  |_,_=>none
 |_,_=>none
theorem nC{P:Program}{t:TypeId}{pl:List (Nat×Nat)}{z:List Value}(h:RK P t=some (pl,z))(parts:List (Nat×Value)):
 P.built t parts=Instr.fill (pl.toArray[·]?) z.toArray parts:=by
 unfold RK at h;split at h
 ·rename_i it fields h1 h2
  split at h
  ·rename_i z' pl' h3 h4
   simp only [Option.some.injEq,Prod.mk.injEq]at h;obtain⟨rfl,rfl⟩:=h;unfold Program.built;rw [h1,h2];simp only [h3,h4]
  ·cases h
 ·cases h
def pC:List Nat->Array Value
 | []=> #[]
 |D::l=> #[.pointer (some ⟨D,0,none⟩)]++pC l
theorem lT:∀l,marksOf (.agg (pC l))=l
 | []=>rfl
 |D::l=>by
  have ih:=lT l;simp only [pC,marksOf]at*;simp [ih]
theorem kQ:∀(l:List Nat) (w:World),l.Nodup->(∀D∈l,w.heap[D]? =some (.deferred (some [])))->kH l w
 | [],_,_,_=>trivial
 |D::l,w,hn,h=>by
  rw [List.nodup_cons]at hn;refine⟨h D (by simp),kQ l _ hn.2 fun E hE=>?_⟩;have e9:D≠E:=fun e=>hn.1 (by rw [e];exact hE);exact(World.putObj_heap_other e9.symm).trans (h E (by simp [hE]))
theorem jq:∀(l:List Nat) (w:World),Kept (· ∈l) w (fN l w)
 | [],w=>Kept.refl _ w
 |D::l,w=>((Kept.putAt w D (.deferred none)).mono (S':=fun k=>k∈D::l) (fun k _ e=>by subst e;simp)).trans (jq l _) (fun k _ h=>by simp [h])
open Go.RowKit
def xJ{α:Type}(P:Program)(gf:FuncId)(first gh:Array Value)(xs:List α)(E:α->List Value->World->Prop)(C0:World->Prop):Prop:=
 ∀(l:Nat) (I:Nat->(Nat->Prop)->World->Prop) (D:World->Prop) (w0:World),
  (∀i Pr Nv w' iR,I i Pr w'->Kept Nil w' iR->(∀j,Nv j->Pr j\/(w'.heap.size<=j/\j<iR.heap.size))->I i Nv iR)->
  (∀w' iR,D w'->Kept Nil w' iR->D iR)->
  (∀i Pr w',I i Pr w'->C0 w')->I 0 Nil w0->
  (∀i x vs Pr w',xs[i]? =some x->E x vs w'->I i Pr w'->ji P l vs.toArray w' fun b iR=>(b=true->I (i+1) Pr iR/\Kept (fun j=>¬Pr j) w' iR)/\(b=false->D iR))->
  bk P gf (first++ #[.func (.yield l) #[] #[]]++gh) w0 fun _ w'=>(∃Pr,I xs.length Pr w')\/D w'
section
variable{P:Program}{n:Nat}
theorem zw(mn:NG P)(lP:P.follows .mixedOrders=true)(C:List Nat){t:Nat}{ps:Array Tmp}{path:Code}{Q:aN}{ρ:Env}{w:World}{gf:FuncId}{first gh:Array Value}{fn:Func}
 (Il:path=.rangeFunc (.tmp t) ps (rA path) (rB path)) (ht:t≠gz) (hf:find ρ t=some (.func (.func gf) first gh)) (Gs:P.funcs[gf]? =some fn) (hb:fn.body.isSome) (hm:x8 ρ)
 {ρ0:Env} (ZB:∀i v,i≠gz->find ρ0 i=some v->find ρ i=some v) (RA:find ρ0 gz=none)
 {α:Type} (xs:List α) (E:α->List Value->World->Prop) (P9:∀x vs w,E x vs w->vs.length=ps.size) (oB:∀t∈ps.toList,t<n/\t≠gz)
 {C0:World->Prop} (hit:xJ P gf first gh xs E C0)
 (J:Nat->(Nat->Prop)->World->Prop) (Jd:Code->World->Prop)
 (hJ:∀i Pr Nv w' iR R,Live (w.heap.size+1) w.heap.size R w'->J i Pr w'->Kept (· =w.heap.size+1) w' iR->(∀j,Nv j->Pr j\/(w'.heap.size<=j/\j<iR.heap.size))->J i Nv iR)
 (IK:∀e w' iR R,Live (w.heap.size+1) w.heap.size R w'->Jd e w'->Kept (· =w.heap.size+1) w' iR->Jd e iR)
 (mH:∀i Pr w',J i Pr w'->C0 w')
 (h0:∀R,J 0 Nil ((w.alloc (.deferred (some []))).alloc (.loop R)))
 (Ao:∀i x vs Pr w' R,xs[i]? =some x->E x vs w'->J i Pr w'->Live (w.heap.size+1) w.heap.size R w'->(∀j,Pr j->w.heap.size+1<j/\j<w'.heap.size)->
   aU (some (w.heap.size+1)) [] P n C (rA path) (b6 (rB path)) (fun e LX w1=>match e with
    | .normal=>Live (w.heap.size+1) w.heap.size R w1/\∀w2 R2,Kept (· =w.heap.size+1) w1 w2->Live (w.heap.size+1) w.heap.size R2 w2->aU (some (w.heap.size+1)) [] P n C (rB path) [] (WA (w.heap.size+1) w.heap.size R2 (fun u=>J (i+1) Pr u/\Kept (fun j=>¬Pr j) w' u) Jd) LX w2
    |_=>False) (ko ρ0 (ps.toList.zip vs)) w')
 (FI:∀Pr w' R,J xs.length Pr w'->Live (w.heap.size+1) w.heap.size R w'->Q .normal (fR ρ w.heap.size) w')
 (Cl:∀w' R,Jd .ret w'->Live (w.heap.size+1) w.heap.size R w'->Q .ret (fR ρ w.heap.size) w')
 (rK:∀id w' R,Jd (.exit id) w'->Live (w.heap.size+1) w.heap.size R w'->Q (.exit id) (fR ρ w.heap.size) w'):
 Holds none [] P n path Q ρ w:=by
 rw [Il];have e9:w.heap.size≠w.heap.size+1:=by omega
 refine uF mn ht hf Gs hb hm fun AF tmps Xu HZ R hR=>?_;have Cs:Live (w.heap.size+1) w.heap.size R ((w.alloc (.deferred (some []))).alloc (.loop R)):=by
  have h1:=aI (w.alloc (.deferred (some []))) (.loop R);simp only [World.alloc,Array.size_push]at h1⊢;exact⟨h1,iQ (aI w _) _⟩
 have hRR:({R with state:=.ready,pending:=none}:Loop)=R:=by rw [hR]
 have Iq:∀ {w' iR},Kept Nil w' iR->Kept (· =w.heap.size+1) w' iR:=fun h=>h.mono fun _ _ h=>h.elim;have xt:=hit (w.heap.size+1) (fun i Pr w'=>Live (w.heap.size+1) w.heap.size R w'/\J i Pr w'/\∀j,Pr j->w.heap.size+1<j/\j<w'.heap.size)
  (fun w'=>∃e,(e=.ret\/∃id,e=.exit id)/\Live (w.heap.size+1) w.heap.size {R with state:=.done,pending:=some e} w'/\Jd e w')
  ((w.alloc (.deferred (some []))).alloc (.loop R))
  (fun i Pr Nv w' iR h k hp=>⟨h.1.aG k (fun h=>h) (fun h=>h),hJ i Pr Nv w' iR R h.1 h.2.1 (Iq k) hp,fun j hj=>by
    have hl:=aT h.1.loop;have hs:=k.size;rcases hp j hj with e|e
    ·have:=h.2.2 j e;omega
    ·omega⟩)
  (fun w' iR h k=>by
    obtain⟨e,he,hl,hd⟩:=h;exact⟨e,he,hl.aG k (fun h=>h) (fun h=>h),IK e w' iR _ hl hd (Iq k)⟩)
  (fun i Pr w' h=>mH i Pr w' h.2.1) ⟨Cs,h0 R,fun j hj=>hj.elim⟩
  (fun i a vs Pr w' ha hE h=>by
    obtain⟨hl,hj,Pw⟩:=h;refine sT (n:=n) (ρ0:=ρ0) hl.loop (by rw [hR]) (by rw [hR];exact Xu) (fun i v hi hv=>by rw [hR];exact HZ i v hi (ZB i v hi hv)) RA (by rw [P9 a vs w' hE,hR]) (by rw [hR];exact oB) ?_;have IE:=Ao i a vs Pr w' R ha hE hj hl Pw;rw [<-show R.params=ps by rw [hR],<-show R.assign=rA path by rw [hR],<-show R.body=rB path by rw [hR]]at IE;refine Holds.mono (fw mn lP _ _ _ _ _ IE) ?_;rintro e LX w1 h1;cases e with
    |normal=>
     obtain⟨vk,h1⟩:=h1;refine⟨vk.loop,?_⟩;have qH:=vk.put e9 {R with state:=.busy};refine Holds.mono (fw mn lP _ _ _ _ _ (h1 _ _ (Kept.putAt _ _ _) qH)) ?_;rintro e2 ρ2 w2 h2;cases e2 with
     |normal=>
      have Le:=h2.1.put e9 {R with state:=.ready,pending:=none};have Z9:Live (w.heap.size+1) w.heap.size R (w2.putObj (w.heap.size+1) (.loop {R with state:=.ready,pending:=none})):=by
       rw [hRR]at Le⊢;exact Le
      have OB:=Kept.putAt w2 (w.heap.size+1) (.loop {R with state:=.ready,pending:=none});have lO:=h2.2.2.size;have oB:=OB.size;refine⟨_,h2.1.loop,fun _=>⟨⟨Z9,hJ _ Pr Pr _ _ _ h2.1 h2.2.1 OB (fun j hj=>.inl hj),fun j hj=>?_⟩,h2.2.2.trans OB (fun j _ e hn=>?_)⟩,fun h=>by cases h⟩
      ·have:=Pw j hj;omega
      ·have:=Pw j hn;omega
     |ret=>
      refine⟨_,h2.1.loop,(fun h=>by cases h),fun _=>⟨.ret,.inl rfl,h2.1.put e9 _,IK _ _ _ _ h2.1 h2.2 (Kept.putAt _ _ _)⟩⟩
     |exit id=>
      refine⟨_,h2.1.loop,(fun h=>by cases h),fun _=>⟨.exit id,.inr ⟨id,rfl⟩,h2.1.put e9 _,IK _ _ _ _ h2.1 h2.2 (Kept.putAt _ _ _)⟩⟩
     |_=>exact h2.elim
    |_=>exact h1.elim)
 refine Calls.mono xt ?_;rintro e w2 ⟨v,rfl,h⟩;refine⟨v,rfl,?_⟩;rcases h with⟨Pr,hl,hj,_⟩|⟨e,he,hl,hj⟩
 ·refine⟨R.state,R.pending,hl.loop,by rw [hR];simp,?_⟩
  have hp:R.pending=none:=by rw [hR]
  rw [hp];have k:Kept (· =w.heap.size+1) w2 (w2.putObj (w.heap.size+1) (.loop {R with state:=.exhausted,pending:=none})):=Kept.putAt _ _ _;exact FI Pr _ _ (hJ _ Pr Pr _ _ _ hl hj k (fun j hj=>.inl hj)) (hl.put e9 _)
 ·refine⟨.done,some e,hl.loop,by simp,?_⟩
  have k:Kept (· =w.heap.size+1) w2 (w2.putObj (w.heap.size+1) (.loop {R with state:=.exhausted,pending:=some e})):=Kept.putAt _ _ _;rcases he with rfl|⟨id,rfl⟩
  ·exact Cl _ _ (IK _ _ _ _ hl hj k) (hl.put e9 _)
  ·exact rK id _ _ (IK _ _ _ _ hl hj k) (hl.put e9 _)
end
end Go.bR
namespace Go.Proofs.YtfleamccglihoaaGreatDoor
open Go.Proofs.Tryz
open Go Go.bR Go.RowKit
def Rg(cs:Array Value):Prop:=cs.size=32/\∀v∈cs.toList,∃i:Int,v=.int .u8 i/\0<=i/\i<256
abbrev HT:= {cs:Array Value//Rg cs}
def key(h:HT):List Int:=h.1.toList.map lW
theorem Rg.ints{cs:Array Value}(h:Rg cs):dL .u8 32 cs:=⟨h.1,fun v hv=>let ⟨i,e,_⟩:=h.2 v hv;⟨i,e⟩⟩
theorem z7:∀ {a b:List Value},(∀v∈a,∃i:Int,v=.int .u8 i)->(∀v∈b,∃i:Int,v=.int .u8 i)->a.map lW=b.map lW->a=b
 | [],[],_,_,_=>rfl
 | [],_::_,_,_,h=>by simp at h
 |_::_,[],_,_,h=>by simp at h
 |x::a,y::b,ha,hb,h=>by
  obtain⟨i,rfl⟩:=ha x (by simp);obtain⟨j,rfl⟩:=hb y (by simp);simp only [List.map_cons,List.cons.injEq,lW]at h;rw [h.1,z7 (fun v hv=>ha v (by simp [hv])) (fun v hv=>hb v (by simp [hv])) h.2]
theorem key_inj{a b:HT}(h:key a=key b):a=b:=by
 apply Subtype.ext;apply Array.ext';exact z7 (fun v hv=>a.2.ints.2 v hv) (fun v hv=>b.2.ints.2 v hv) h
instance:DecidableEq HT:=fun a b=>if h:key a=key b then isTrue (key_inj h)else isFalse fun e=>h (by rw [e])
theorem dH(a b:HT):eU a.1 b.1=decide (a=b):=by
 unfold eU;by_cases e:a=b
 ·subst e;simp
 ·rw [decide_eq_false e]
  have:¬(key a=key b):=fun h=>e (key_inj h);simpa [key]using this
theorem Rg.one{cs:Array Value}(h:Rg cs):∀v∈cs.toList,v.oneCell'=true:=fun v hv=>by
 obtain⟨i,rfl,_⟩:=h.2 v hv;rfl
def uc:List Int->List Int->Bool
 | [],[]=>false
 | [],_::_=>true
 |_::_,[]=>false
 |x::a,y::b=>if x<y then true else if y<x then false else uc a b
def cJ(a b:HT):Bool:=uc (key a) (key b)
theorem uY:∀a,uc a a=false
 | []=>rfl
 |x::a=>by simp [uc,uY a]
theorem wW:∀ {a b c},uc a b=true->uc b c=true->uc a c=true
 | [],[],_,h,_=>by simp [uc]at h
 | [],_::_,[],_,h=>by simp [uc]at h
 | [],_::_,_::_,_,_=>rfl
 |_::_,[],_,h,_=>by simp [uc]at h
 |_::_,_::_,[],_,h=>by simp [uc]at h
 |x::a,y::b,z::c,h,h'=>by
  simp only [uc]at*;by_cases h1:x<y
  ·by_cases h2:y<z
   ·rw [if_pos (by omega)]
   ·rw [if_neg h2]at h'
    by_cases h3:z<y
    ·rw [if_pos h3]at h';cases h'
    ·rw [if_pos (by omega)]
  ·rw [if_neg h1]at h
   by_cases h2:y<x
   ·rw [if_pos h2]at h;cases h
   ·rw [if_neg h2]at h
    by_cases h3:y<z
    ·rw [if_pos (by omega)]
    ·rw [if_neg h3]at h'
     by_cases h4:z<y
     ·rw [if_pos h4]at h';cases h'
     ·rw [if_neg h4]at h'
      rw [if_neg (by omega),if_neg (by omega)];exact wW h h'
theorem wX:∀ {a b},a.length=b.length->uc a b=false->uc b a=false->a=b
 | [],[],_,_,_=>rfl
 | [],_::_,h,_,_=>by simp at h
 |_::_,[],h,_,_=>by simp at h
 |x::a,y::b,hl,h,h'=>by
  simp only [uc]at*;by_cases h1:x<y
  ·rw [if_pos h1]at h;cases h
  ·rw [if_neg h1]at h
   by_cases h2:y<x
   ·rw [if_pos h2]at h';cases h'
   ·rw [if_neg h2]at h h'
    rw [if_neg h1]at h';have:x=y:=by omega
    rw [this,wX (by simpa using hl) h h']
theorem mL(a:HT):(key a).length=32:=by have:=a.2.1;simpa [key]using this
theorem pW{a b:HT}(h:cJ a b=false)(h':cJ b a=false):a=b:=key_inj (wX (by rw [mL,mL]) h h')
theorem jW{a b c:HT}(h:cJ a b=true)(h':cJ b c=true):cJ a c=true:=wW h h'
theorem gV(a:HT):cJ a a=false:=uY _
theorem sG{a b:HT}(h:cJ a b=true):cJ b a=false:=by
 cases h':cJ b a
 ·rfl
 ·have:=jW h h';rw [gV]at this;cases this
end Go.Proofs.YtfleamccglihoaaGreatDoor
namespace Go.Proofs.YtfleamccglihoaaGreatDoor
open Go.Proofs.Tryz
open Go Go.bR
def SS(l:List HT):Prop:=l.Pairwise fun a b=>cJ a b=true
theorem SS.nodup{l:List HT}(h:SS l):l.Nodup:=List.Pairwise.imp (fun {a b} kM e=>by subst e;rw [gV]at kM;cases kM) h
theorem SS.cons{x:HT}{l:List HT}:SS (x::l)↔(∀y∈l,cJ x y=true)/\SS l:=List.pairwise_cons
theorem yI:∀ {l m:List HT},SS l->SS m->(∀x,x∈l↔x∈m)->l=m
 | [],[],_,_,_=>rfl
 | [],y::m,_,_,h=>by have:=(h y).2 (by simp);simp at this
 |x::l,[],_,_,h=>by have:=(h x).1 (by simp);simp at this
 |x::l,y::m,hl,hm,h=>by
  rw [SS.cons]at hl hm;have oJ:x=y:=by
   have h1:=(h x).1 (by simp);have h2:=(h y).2 (by simp);rcases List.mem_cons.1 h1 with h1|h1
   ·exact h1
   ·rcases List.mem_cons.1 h2 with h2|h2
    ·exact h2.symm
    ·have a:=hl.1 _ h2
     have b:=hm.1 _ h1;rw [sG a]at b;cases b
  subst oJ
  congr 1
  refine yI hl.2 hm.2 fun z=>?_;have hz:=h z;constructor
  ·intro hzl
   rcases List.mem_cons.1 (hz.1 (by simp [hzl]))with e|e
   ·subst e;have:=hl.1 _ hzl;rw [gV]at this;cases this
   ·exact e
  ·intro hzm
   rcases List.mem_cons.1 (hz.2 (by simp [hzm]))with e|e
   ·subst e;have:=hm.1 _ hzm;rw [gV]at this;cases this
   ·exact e
def ins(x:HT):List HT->List HT
 | []=> [x]
 |y::l=>if cJ x y then x::y::l else if x=y then y::l else y::ins x l
theorem x7(x z:HT):∀l,z∈ins x l↔z=x\/z∈l
 | []=>by simp [ins]
 |y::l=>by
  unfold ins;split
  ·simp
  ·split
   ·rename_i e;subst e;simp
   ·simp only [List.mem_cons,x7 x z l]
    constructor
    ·rintro(h|h|h)<;>simp [h]
    ·rintro(h|h|h)<;>simp [h]
theorem Jn(x:HT):∀ {l:List HT},SS l->SS (ins x l)
 | [],_=>by simp [ins,SS]
 |y::l,h=>by
  have h':=SS.cons.1 h;unfold ins;split
  ·rename_i oJ
   refine SS.cons.2 ⟨fun z hz=>?_,h⟩;rcases List.mem_cons.1 hz with rfl|hz
   ·exact oJ
   ·exact jW oJ (h'.1 _ hz)
  ·split
   ·exact h
   ·rename_i h1 h2
    refine SS.cons.2 ⟨fun z hz=>?_,Jn x h'.2⟩;rcases(x7 x z l).1 hz with rfl|hz
    ·cases Rh:cJ y z
     ·exact absurd (pW Rh (by simpa using h1)).symm h2
     ·rfl
    ·exact h'.1 _ hz
def di(l:List HT):List HT:=l.foldr ins []
theorem dd{z:HT}:∀ {l:List HT},z∈di l↔z∈l
 | []=>by simp [di]
 |x::l=>by
  have:= @dd z l;simp only [di,List.foldr_cons,x7,List.mem_cons]at this⊢;rw [this]
theorem ir:∀l:List HT,SS (di l)
 | []=>List.Pairwise.nil
 |x::l=>Jn x (ir l)
theorem xQ{l m:List HT}(h:∀x,x∈l↔x∈m):di l=di m:=yI (ir l) (ir m) fun x=>by rw [dd,dd,h]
theorem xP{l m:List HT}(hs:SS l)(h:∀x,x∈l↔x∈m):l=di m:=yI hs (ir m) fun x=>by rw [dd,h]
theorem DI(x:HT):∀l,(ins x l).length<=l.length+1
 | []=>by simp [ins]
 |y::l=>by
  have:=DI x l;unfold ins;split
  ·simp
  ·split<;>simp<;>omega
theorem nP:∀l:List HT,(di l).length<=l.length
 | []=>by simp [di]
 |x::l=>by
  have h1:=DI x (di l);have h2:=nP l;simp only [di,List.foldr_cons,List.length_cons]at*;omega
theorem qF{x:HT}:∀ {l:List HT},x∉l->(ins x l).length=l.length+1
 | [],_=>by simp [ins]
 |y::l,h=>by
  simp only [List.mem_cons,not_or]at h;have:=qF h.2;unfold ins;split
  ·simp
  ·rw [if_neg h.1];simp;omega
theorem qj:∀ {l:List HT},l.Nodup->(di l).length=l.length
 | [],_=>by simp [di]
 |x::l,h=>by
  rw [List.nodup_cons]at h;have h2:=qj h.2;have:=qF (l:=di l) (x:=x) (fun hm=>h.1 (dd.1 hm));simp only [di,List.foldr_cons,List.length_cons]at*;omega
theorem tl{x:HT}:∀ {l:List HT},SS l->x∈l->(ins x l).length=l.length
 | [],_,h=>by simp at h
 |y::l,hs,h=>by
  have h':=SS.cons.1 hs;unfold ins;split
  ·rename_i oJ
   rcases List.mem_cons.1 h with rfl|h
   ·rw [gV]at oJ;cases oJ
   ·have:=h'.1 _ h;rw [sG oJ]at this;cases this
  ·split
   ·rfl
   ·rename_i h1 h2
    rcases List.mem_cons.1 h with rfl|h
    ·exact absurd rfl h2
    ·simp [tl h'.2 h]
theorem rl:∀ {l:List HT},(di l).length=l.length->l.Nodup
 | [],_=>List.Pairwise.nil
 |x::l,h=>by
  have h2:=nP l;by_cases hm:x∈l
  ·have:=tl (ir l) (dd.2 hm)
   simp only [di,List.foldr_cons,List.length_cons]at*;omega
  ·have h3:=qF (l:=di l) (x:=x) (fun h=>hm (dd.1 h))
   simp only [di,List.foldr_cons,List.length_cons]at*;exact List.nodup_cons.2 ⟨hm,rl (by simp only [di];omega)⟩
theorem JZ:di []= []:=rfl
theorem tY(x:HT):di [x]= [x]:=rfl
theorem zg{l:List HT}(h:SS l):di l=l:=(xP h fun _=>Iff.rfl).symm
theorem Jm{l:List HT}{x:HT}{k:Nat}(hs:SS l)(h1:∀y∈l.take k,cJ y x=true)(h2:∀y∈l.drop k,cJ x y=true):SS (l.take k++x::l.drop k):=by
 unfold SS at*;rw [<-List.take_append_drop k l,List.pairwise_append]at hs;rw [List.pairwise_append,List.pairwise_cons];refine⟨hs.1,⟨h2,hs.2.1⟩,fun y hy z hz=>?_⟩;rcases List.mem_cons.1 hz with rfl|hz
 ·exact h1 y hy
 ·exact hs.2.2 y hy z hz
theorem SS.get{l:List HT}(h:SS l){i j:Nat}(pX:i<j){x y:HT}(hx:l[i]? =some x)(hy:l[j]? =some y):cJ x y=true:=by
 obtain⟨h1,rfl⟩:=lgeS hx;obtain⟨h2,rfl⟩:=lgeS hy;exact List.pairwise_iff_getElem.1 h i j h1 h2 pX
theorem Ef{l:List HT}{x:HT}(hs:SS l)(h:∀y∈l,cJ y x=true):SS (l++ [x]):=by
 have:=Jm (k:=l.length) hs (x:=x) (by simpa using h) (by simp);simpa using this
def LE(l:List HT):Prop:=l.Pairwise fun a b=>cJ b a=false
theorem lt_of_le_ne{a b:HT}(h:cJ b a=false)(hn:a≠b):cJ a b=true:=by
 cases kM:cJ a b
 ·exact absurd (pW kM h) hn
 ·rfl
theorem th{a b c:HT}(h:cJ b a=false)(h':cJ b c=true):cJ a c=true:=by
 by_cases e:a=b
 ·subst e;exact h'
 ·exact jW (lt_of_le_ne h e) h'
theorem LE.get{l:List HT}(h:LE l){i j:Nat}(pX:i<j){x y:HT}(hx:l[i]? =some x)(hy:l[j]? =some y):cJ y x=false:=by
 obtain⟨h1,rfl⟩:=lgeS hx;obtain⟨h2,rfl⟩:=lgeS hy;exact List.pairwise_iff_getElem.1 h i j h1 h2 pX
theorem bJ{l:List HT}{k:Nat}{x z:HT}(hx:l[k]? =some x):z∈l.take (k+1)↔z∈l.take k\/z=x:=by
 rw [List.take_add_one,hx];simp
open Go.RowKit
theorem eR(a:Addr)(k:Nat):(a.add k).block=a.block:=by unfold Addr.add;split<;>rfl
theorem aO{σ:Type}(e:σ->Env)(I:σ->World->Prop)(μ:σ->World->Nat)(s:σ)(w:World)(Q:aN)(l:Nat)(ρ:Env)(w':World):bL e I μ s w Q (.exit l) ρ w'=Q (.exit l) ρ w':=rfl
theorem iF{σ:Type}(e:σ->Env)(I:σ->World->Prop)(μ:σ->World->Nat)(s:σ)(w:World)(Q:aN)(ρ:Env)(w':World):bL e I μ s w Q .ret ρ w'=Q .ret ρ w':=rfl
theorem gN{x:Int}(h0: -9223372036854775808<=x)(h1:x<9223372036854775808):i64.wrap x=x:=by
 simp only [IntKind.wrap,IntKind.bits,IntKind.signed];simp;omega
theorem Cells.aG{S:Nat->Prop}{w w':World}{a:Addr}{cs:Array Value}(h:Cells w a cs)(hk:Kept S w w')(hn:¬S a.block):Cells w' a cs:=
 fun j v hj=>hk.cell (h j v hj) (by rw [eR];exact hn)
theorem Cells.bE{w:World}{b:Nat}{cs:Array Value}{t:TypeId}{fr:Nat×Nat}(h:w.heap[b]? =some (.cells cs t fr)):Cells w ⟨b,0,none⟩ cs:=
 fun j v hj=>by rw [bg,Nat.zero_add,aA h];exact hj
structure HS(w:World)(A:Option Addr)(n:Nat)(l:List HT):Prop where
 len:l.length=n
 at_:∀(i:Nat) (h:HT),l[i]? =some h->∃a,A=some a/\a.block<w.heap.size/\Cells w (a.add (i*32)) h.1
theorem HS.aG{S:Nat->Prop}{w w':World}{A:Option Addr}{n:Nat}{l:List HT}(h:HS w A n l)(hk:Kept S w w')(hn:∀a,A=some a->¬S a.block):HS w' A n l:=⟨h.len,fun i x hi=>by
 obtain⟨a,h1,h2,h3⟩:=h.at_ i x hi;exact⟨a,h1,Nat.lt_of_lt_of_le h2 hk.size,Cells.aG h3 hk (by rw [eR];exact hn a h1)⟩⟩
theorem HS.same{w w':World}{A:Option Addr}{n:Nat}{l:List HT}(h:HS w A n l)(hk:Kept Nil w w'):HS w' A n l:=h.aG hk fun _ _ h=>h
section
variable{w:World}{K:Value->World->Prop}
theorem xV{A:Option Addr}{n c:Nat}{l:List HT}(h:HT)(hl:HS w A n l)(hn:n<=1000000)(hK:∀w',Kept Nil w w'->K (.bool (decide (h∈l))) w'):
 bk prog cF.id #[.slice A n c,.agg h.1] w K:=by
 refine cF.of ?_;unfold cF.W;intro w3;have k3:Kept Nil w w3:=(Kept.refl Nil w).alloc _;have nh:w3.heap[w.heap.size]? =some (.cells h.1 ai (0,0)):=aI w _;clear_value w3;have hlen:=hl.len;refine cF.b9 (I:=fun s w'=>∃i:Nat,s=(false,(i:Int))/\i<=n/\Kept Nil w3 w'/\h∉l.take i) (μ:=fun s _=>((n:Int)-s.2).toNat) (s:=(false,0)) ⟨0,rfl,Nat.zero_le _,Kept.refl _ _,by simp⟩ ?_;rintro s w' ⟨i,rfl,hi,kw,lE⟩;refine Split.dec (fun cJ=>?_) (fun gu=>?_)
 ·simp only at cJ
  have dP:i<n:=by omega
  obtain⟨x,hx⟩:∃x,l[i]? =some x:=⟨_,List.getElem?_eq_getElem (by omega)⟩;have kk:Kept Nil w w'.drew:=(k3.tt kw).drew;obtain⟨a,rfl,_,hc⟩:=(hl.same kk).at_ i x hx;intro w8;have k8:Kept Nil w3 w8:=kw.drew;refine⟨⟨by simp only;omega,by simp only;omega⟩,x.1,⟨x.2.1,hc⟩,h.1,⟨h.2.1,Cells.bE (k8.heap nh (fun h=>h))⟩,⟨x.2.ints,h.2.ints⟩,?_⟩;rw [dH];have Q8:Kept Nil w w8:=kk;refine Split.dec (fun he=>?_) (fun he=>?_)
  ·have:=hK w8 Q8
   rw [decide_eq_true (by rw [<-he];exact List.mem_of_getElem? hx)]at this;exact this
  ·simp only
   rw [gN (x:=(i:Int)+1) (by omega) (by omega)];refine⟨(false,(i:Int)+1),rfl,⟨i+1,rfl,dP,k8,?_⟩,by simp only;omega⟩;rw [List.take_add_one,hx];simp only [Option.toList_some,List.mem_append,List.mem_singleton,not_or];exact⟨lE,fun e=>he e.symm⟩
 ·simp only at gu
  rw [aO,cF.df];have:=hK w' (k3.tt kw);rw [List.take_of_length_le (by omega)]at lE;rw [decide_eq_false lE]at this;exact this
theorem wT{A A':Option Addr}{n n' c c':Nat}{l l':List HT}(hl:HS w A n l)(hl':HS w A' n' l')(hn:n<=1000000)(hK:∀w',Kept Nil w w'->K (.bool (decide (l=l'))) w'):
 bk prog bY.id #[.slice A n c,.slice A' n' c'] w K:=by
 have hlen:=hl.len;have DT:=hl'.len;refine bY.of ?_;by_cases e9:n=n'
 ·subst e9
  refine Split.no (by simp) ?_;refine bY.b9 (I:=fun s w'=>∃i:Nat,s=(false,(i:Int))/\i<=n/\Kept Nil w w'/\l.take i=l'.take i) (μ:=fun s _=>((n:Int)-s.2).toNat) (s:=(false,0)) ⟨0,rfl,Nat.zero_le _,Kept.refl _ _,by simp⟩ ?_;rintro s w' ⟨i,rfl,hi,kw,heq⟩;refine Split.dec (fun cJ=>?_) (fun gu=>?_)
  ·simp only at cJ
   have dP:i<n:=by omega
   obtain⟨x,hx⟩:∃x,l[i]? =some x:=⟨_,List.getElem?_eq_getElem (by omega)⟩;obtain⟨y,hy⟩:∃y,l'[i]? =some y:=⟨_,List.getElem?_eq_getElem (by omega)⟩;have kk:Kept Nil w w'.drew:=kw.drew;obtain⟨a,rfl,_,hc⟩:=(hl.same kk).at_ i x hx;obtain⟨a',rfl,_,tN⟩:=(hl'.same kk).at_ i y hy;intro w7;have k7:Kept Nil w w7:=kk;have hb:0<=(i:Int)/\(i:Int)<(n:Int):=⟨by omega,by omega⟩;refine⟨hb,x.1,⟨x.2.1,hc⟩,hb,y.1,⟨y.2.1,tN⟩,⟨x.2.ints,y.2.ints⟩,?_⟩;rw [dH];by_cases he:x=y
   ·refine Split.no (by simp [he]) ?_
    simp only;rw [gN (x:=(i:Int)+1) (by omega) (by omega)];refine⟨(false,(i:Int)+1),rfl,⟨i+1,rfl,dP,k7,?_⟩,by simp only;omega⟩;rw [List.take_add_one,List.take_add_one,hx,hy,heq,he]
   ·refine Split.yes (by simp [he]) ?_
    have:=hK w7 k7;rw [decide_eq_false (fun e=>he (by rw [e,hy]at hx;exact(Option.some.inj hx).symm))]at this;exact this
  ·simp only at gu
   rw [aO,bY.df];have:=hK w' kw;rw [List.take_of_length_le (by omega),List.take_of_length_le (by omega)]at heq;rw [decide_eq_true heq]at this;exact this
 ·refine Split.yes (by simp;omega) ?_
  have:=hK w (Kept.refl _ _);rw [decide_eq_false (fun e=>e9 (by rw [<-hlen,<-DT,e]))]at this;exact this
end
def ln(a b:HT):Int:=if cJ a b then-1 else if cJ b a then 1 else 0
theorem uZ:∀(i:Nat) (a b:List Int),a.take i=b.take i->uc a b=uc (a.drop i) (b.drop i)
 |0,a,b,_=>rfl
 |i+1,[],[],_=>rfl
 |i+1,[],y::b,h=>by simp at h
 |i+1,x::a,[],h=>by simp at h
 |i+1,x::a,y::b,h=>by
  simp only [List.take_succ_cons,List.cons.injEq]at h;obtain⟨rfl,h⟩:=h;simp only [uc,List.drop_succ_cons];rw [if_neg (by omega),if_neg (by omega)];exact uZ i a b h
theorem x9{h:HT}{i:Nat}(hi:i<32):∃x:Int,h.1[i]? =some (.int .u8 x)/\(key h)[i]? =some x/\0<=x/\x<256:=by
 have hs:i<h.1.size:=by rw [h.2.1];exact hi
 obtain⟨x,hx,h1,h2⟩:=h.2.2 h.1[i] (by simp);refine⟨x,by rw [Array.getElem?_eq_getElem hs,hx],?_,h1,h2⟩;unfold key;rw [List.getElem?_map,Array.getElem?_toList,Array.getElem?_eq_getElem hs,hx];rfl
section
variable{w:World}{K:Value->World->Prop}
theorem sY(a b:HT)(hK:∀w',Kept Nil w w'->K (.int .i64 (ln a b)) w'):bk prog bG.id #[.agg a.1,.agg b.1] w K:=by
 refine bG.of ?_;unfold bG.W;intro w3 w4;have k3:Kept Nil w w3:=(Kept.refl Nil w).alloc _;have k4:Kept Nil w w4:=k3.alloc _;have Ar:w4.heap[w.heap.size]? =some (.cells a.1 ai (0,0)):=iQ (aI w _) _;have qJ:w4.heap[w3.heap.size]? =some (.cells b.1 ai (0,0)):=aI w3 _;clear_value w4;refine bG.b9 (I:=fun s w'=>∃i:Nat,s=(0,(i:Int))/\i<=32/\Kept Nil w4 w'/\(key a).take i=(key b).take i) (μ:=fun s _=>(32-s.2).toNat) (s:=(0,0)) ⟨0,rfl,by omega,Kept.refl _ _,by simp⟩ ?_;rintro s w' ⟨i,rfl,hi,kw,heq⟩;refine Split.dec (fun jx=>?_) (fun gu=>?_)
 ·simp only at jx
  have dP:i<32:=by omega
  obtain⟨x,hx,kx,_⟩:=x9 (h:=a) dP;obtain⟨y,hy,ky,_⟩:=x9 (h:=b) dP;have e1:cJ a b=uc ((key a).drop i) ((key b).drop i):=uZ i _ _ heq;have e2:cJ b a=uc ((key b).drop i) ((key a).drop i):=uZ i _ _ heq.symm;have da:(key a).drop i=x::(key a).drop (i+1):=by
   obtain⟨h1,h2⟩:=lgeS kx;rw [List.drop_eq_getElem_cons h1,h2]
  have db:(key b).drop i=y::(key b).drop (i+1):=by
   obtain⟨h1,h2⟩:=lgeS ky;rw [List.drop_eq_getElem_cons h1,h2]
  rw [da,db]at e1 e2;simp only [uc]at e1 e2;intro w9;have k9:Kept Nil w4 w9:=kw.drew;clear_value w9;have hb:0<=(i:Int)/\(i:Int)<32:=⟨by omega,by omega⟩;have ca:∀ {w':World},Kept Nil w4 w'->w'.cell? ((⟨w.heap.size,0,none⟩:Addr).add ((i:Int).toNat*1))=some (.int .u8 x):=fun k=>by
   rw [bg,Nat.zero_add,Nat.mul_one,Int.toNat_natCast,aA (k.heap Ar (fun h=>h))];exact hx
  have cb:∀ {w':World},Kept Nil w4 w'->w'.cell? ((⟨w3.heap.size,0,none⟩:Addr).add ((i:Int).toNat*1))=some (.int .u8 y):=fun k=>by
   rw [bg,Nat.zero_add,Nat.mul_one,Int.toNat_natCast,aA (k.heap qJ (fun h=>h))];exact hy
  refine⟨hb,x,ca k9,hb,y,cb k9,Split.dec (fun oJ=>?_) (fun oJ=>?_)⟩
  ·have:=hK w9 (k4.tt k9)
   rw [show ln a b= -1 by unfold ln;rw [e1,if_pos oJ];rfl]at this;exact this
  ·intro lR
   have vf:Kept Nil w4 lR:=k9.drew;clear_value lR;refine⟨hb,x,ca vf,hb,y,cb vf,Split.dec (fun DK=>?_) (fun DK=>?_)⟩
   ·have:=hK lR (k4.tt vf)
    rw [show ln a b=1 by unfold ln;rw [e1,e2,if_neg oJ,if_pos (show y<x from DK),if_pos (show y<x from DK)];rfl]at this;exact this
   ·simp only
    rw [gN (x:=(i:Int)+1) (by omega) (by omega)];refine⟨(0,(i:Int)+1),rfl,⟨i+1,rfl,dP,vf,?_⟩,by simp only;omega⟩;have:x=y:=by omega
    rw [List.take_add_one,List.take_add_one,kx,ky,heq,this]
 ·simp only at gu
  rw [aO,bG.df];have:=hK w' (k4.tt kw);have kM:a=b:=by
   apply key_inj;rw [List.take_of_length_le (by rw [mL];omega),List.take_of_length_le (by rw [mL];omega)]at heq;exact heq
  rw [show ln a b=0 by unfold ln;rw [kM,gV];rfl]at this;exact this
end
theorem Ea{x y:Int}(hx:0<=x/\x<256)(hy:0<=y/\y<256):(x.toNat.toUInt8<y.toNat.toUInt8)↔x<y:=by
 rw [UInt8.lt_iff_toNat_lt];simp only [Nat.toUInt8,UInt8.toNat_ofNat'];omega
theorem nA:∀ {a b:List Int},a.length=b.length->(∀x∈a,0<=x/\x<256)->(∀x∈b,0<=x/\x<256)->
 Lib.compareBytes (Lib.bytesOf a) (Lib.bytesOf b)=if uc a b then-1 else if uc b a then 1 else 0
 | [],[],_,_,_=>rfl
 | [],_::_,h,_,_=>by simp at h
 |_::_,[],h,_,_=>by simp at h
 |x::a,y::b,h,ha,hb=>by
  have hx:=ha x (by simp);have hy:=hb y (by simp);have ih:=nA (a:=a) (b:=b) (by simpa using h) (fun z hz=>ha z (by simp [hz])) (fun z hz=>hb z (by simp [hz]));simp only [Lib.bytesOf,List.map_cons,Lib.compareBytes,Ea hx hy,Ea hy hx,uc];by_cases h1:x<y
  ·simp [h1]
  ·by_cases h2:y<x
   ·simp [h1,h2]
   ·simp only [h1,h2,if_false]
    exact ih
theorem xf(h:HT):∀x∈key h,0<=x/\x<256:=by
 intro x hx;simp only [key,List.mem_map]at hx;obtain⟨v,hv,rfl⟩:=hx;obtain⟨i,rfl,h1,h2⟩:=h.2.2 v hv;exact⟨h1,h2⟩
theorem rM(a b:HT):Lib.compareBytes (Lib.bytesOf (key a)) (Lib.bytesOf (key b))=ln a b:=
 nA (by rw [mL,mL]) (xf a) (xf b)
section
variable{w:World}{K:Value->World->Prop}
theorem sJ(a b:HT){p q:Addr}{c c':Nat}(ha:Cells w p a.1)(hb:Cells w q b.1)(hK:K (.int .i64 (ln a b)) w):
 bk prog gX.id #[.slice (some p) 32 c,.slice (some q) 32 c'] w K:=by
 refine gX.of ⟨.int .i64 (ln a b),w,?_,_,rfl,hK⟩;have Ak:∀(h:HT) (r:Addr),Cells w r h.1->∀j x,(key h)[j]? =some x->w.cell? (r.add j)=some (.int .u8 x):=by
  intro h r hr j x hx;have hj:j<32:=by have:=(lgeS hx).1;rw [mL]at this;exact this
  obtain⟨y,hy,ky,_⟩:=x9 (h:=h) hj;rw [hx]at ky;cases ky;exact hr j _ hy
 have l1:=Lib.run_loadBytesX (P:=prog) w (key a) p .empty (Ak a p ha);have l2:=Lib.run_loadBytesX (P:=prog) w (key b) q .empty (Ak b q hb);rw [mL]at l1 l2;rw [run_callFunc_extern tP.at_ (by kernel_rfl) (by kernel_rfl) (by kernel_rfl) (e:=Extern.BytealgCompare.compare) (by kernel_rfl)];have hr:(Extern.BytealgCompare.compare #[.slice (some p) 32 c,.slice (some q) 32 c']).run prog w=.ok (.int .i64 (ln a b)) w:=by
  change Sem.run prog (do pure (goInt (Extern.BytealgCompare.cmp (<-Extern.Bytes.bytesOf (.slice (some p) 32 c)) (<-Extern.Bytes.bytesOf (.slice (some q) 32 c'))))) w=_
  simp only [Extern.Bytes.bytesOf,Sem.run_bind,l1,l2,Result.andThen_ok,Sem.run_pure,Lib.cmp_eq,goInt];rw [<-rM];simp
 rw [hr];rfl
theorem pI(a b:HT)(hK:K (.int .i64 (ln a b)) ((w.alloc (.cells a.1 ai)).alloc (.cells b.1 ai)).drew):bk prog dz.id #[.agg a.1,.agg b.1] w K:=by
 refine dz.of ?_;unfold dz.W;intro w3 w4 w5;have ha:w5.heap[w.heap.size]? =some (.cells a.1 ai (0,0)):=iQ (aI w _) _;have hb:w5.heap[w3.heap.size]? =some (.cells b.1 ai (0,0)):=aI w3 _;simp only [if_neg (show ¬(32:Nat)=0 by omega),Nat.zero_mul,add_zero,Nat.sub_zero];exact sJ a b (Cells.bE ha) (Cells.bE hb) ⟨_,rfl,hK⟩
end
theorem lr(a:Addr)(m n:Nat):(a.add m).add n=a.add (m+n):=by
 unfold Addr.add;by_cases hm:m=0<;>by_cases hn:n=0<;>simp [hm,hn,Nat.add_assoc]
def cX(l:List HT):List Value:=l.flatMap fun h=>h.1.toList
theorem lg(h:HT)(l:List HT):cX (h::l)=h.1.toList++cX l:=by simp [cX]
theorem mo(l m:List HT):cX (l++m)=cX l++cX m:=by simp [cX]
theorem eQ:∀l:List HT,(cX l).length=l.length*32
 | []=>rfl
 |h::l=>by
  have:=h.2.1;rw [lg,List.length_append,eQ l,Array.length_toList,this,List.length_cons];omega
theorem Cw(l:List HT):∀u∈cX l,u.oneCell'=true:=by
 intro u hu;simp only [cX,List.mem_flatMap]at hu;obtain⟨h,_,hu⟩:=hu;exact h.2.one u hu
theorem kV:∀ {l:List HT} {i:Nat} {h:HT},l[i]? =some h->∀ {j:Nat} {v:Value},h.1[j]? =some v->(cX l)[i*32+j]? =some v
 | [],_,_,hi,_,_,_=>by simp at hi
 |x::l,0,h,hi,j,v,hj=>by
  simp only [List.getElem?_cons_zero,Option.some.injEq]at hi;subst hi;have cJ:j<x.1.toList.length:=by simpa using (Array.getElem?_eq_some_iff.1 hj).1
  rw [lg,Nat.zero_mul,Nat.zero_add,List.getElem?_append_left cJ,Array.getElem?_toList,hj]
 |x::l,i+1,h,hi,j,v,hj=>by
  simp only [List.getElem?_cons_succ]at hi;have:=x.2.1;rw [lg,List.getElem?_append_right (by simp;omega),Array.length_toList,this,show(i+1)*32+j-32=i*32+j by omega];exact kV hi hj
theorem FJ{l:List HT}{j:Nat}{v:Value}(h:(cX l)[j]? =some v):∃x,l[j/32]? =some x/\x.1[j%32]? =some v:=by
 have hj:=(lgeS h).1;rw [eQ]at hj;have hi:j/32<l.length:=by omega
 refine⟨l[j/32],List.getElem?_eq_getElem hi,?_⟩;have hs:=l[j/32].2.1;have hm:j%32<l[j/32].1.size:=by rw [hs];omega
 obtain⟨u,hu⟩:∃u,l[j/32].1[j%32]? =some u:=⟨_,Array.getElem?_eq_getElem hm⟩;have:=kV (List.getElem?_eq_getElem hi) hu;rw [show j/32*32+j%32=j by omega,h]at this;rw [hu,this]
theorem oY:yU prog aC ai 32 32:=⟨by kernel_rfl,by kernel_rfl⟩
abbrev bI(w:World)(B:Nat)(A:Option Addr)(n c:Nat)(l:List HT):Prop:=Row w B ai 32 A n c (cX l)
section
variable{w w':World}{B:Nat}{A:Option Addr}{n c:Nat}{l:List HT}
theorem bI.len(h:bI w B A n c l):l.length=n:=by
 have:=Row.len h;rw [eQ]at this;omega
theorem bI.hs(h:bI w B A n c l):HS w A n l:=⟨h.len,fun i x hi=>by
 have hlen:=h.len;have dP:=(lgeS hi).1;obtain⟨b,rfl⟩:=Row.some h (by omega);obtain⟨_,cur,kR⟩:=Row.bE h (k:=b) rfl;refine⟨_,rfl,aT kR,fun j v hj=>?_⟩;rw [lr];exact Row.cells h _ _ (kV hi hj)⟩
theorem bI.nil(w:World)(B:Nat):bI w B none 0 0 []:=Row.nil _ _ _ _
theorem HS.cells{a:Addr}(h:HS w (some a) n l):∀j u,(cX l)[j]? =some u->w.cell? (a.add j)=some u:=by
 intro j u hj;obtain⟨x,hx,hu⟩:=FJ hj;obtain⟨a',ha,_,hc⟩:=h.at_ _ x hx;cases ha;have:=hc _ _ hu
 rwa [lr,show j/32*32+j%32=j by omega]at this
theorem HS.nil(w:World)(A:Option Addr):HS w A 0 []:=⟨rfl,fun i x hi=>by simp at hi⟩
theorem HS.none(h:HS w none n l):n=0/\l= []:=by
 cases l with
 |nil=>exact⟨h.len.symm,rfl⟩
 |cons x l=>obtain⟨a,ha,_⟩:=h.at_ 0 x rfl;cases ha
theorem HS.take(h:HS w A n l){k:Nat}(hk:k<=n):HS w A k (l.take k):=⟨by have:=h.len;simp;omega,fun i x hi=>by
 rw [List.getElem?_take]at hi;split at hi
 ·exact h.at_ i x hi
 ·cases hi⟩
theorem HS.drop(h:HS w A n l){k:Nat}(hc:n<=c)(hk:k<=n):HS w (if c=k then A else A.map (·.add (k*32))) (n-k) (l.drop k):=⟨by have:=h.len;simp;omega,fun i x hi=>by
 rw [List.getElem?_drop]at hi;have hlen:=h.len;have:=(lgeS hi).1;obtain⟨a,rfl,hb,qR⟩:=h.at_ _ x hi;rw [if_neg (by omega)];refine⟨_,rfl,by rw [eR];exact hb,?_⟩;rw [lr,<-Nat.add_mul];exact qR⟩
theorem HS.one{w:World}{b:Nat}{h:HT}{t:TypeId}{fr:Nat×Nat}(hb:w.heap[b]? =some (.cells h.1 t fr)):HS w (some ⟨b,0,Option.none⟩) 1 [h]:=⟨rfl,fun i x hi=>by
 cases i with
 |zero=>
  simp only [List.getElem?_cons_zero,Option.some.injEq]at hi;subst hi;exact⟨_,rfl,aT hb,by rw [Nat.zero_mul,add_zero];exact Cells.bE hb⟩
 |succ i=>simp at hi⟩
theorem cD(ty:Nat)(h:bI w B A n c l){A2:Option Addr}{m cx:Nat}{l2:List HT}(h2:HS w A2 m l2)(hm:n+m<=1000000)(hB:B<=w.heap.size):
 ∃A' c' w',(Builtin.append_ #[aC,aC] ty #[.slice A n c,.slice A2 m cx]).run prog w=.ok (.slice A' (n+m) c') w'/\
  bI w' B A' (n+m) c' (l++l2)/\w.grownBy w' (a8 A)/\(∀k,a8 A'=some k->a8 A=some k\/w.heap.size<=k):=by
 cases A2 with
 |some a=>
  have qH:=h2.len;obtain⟨A',c',w',hr,fk,hg,hb⟩:=fE (P:=prog) (t:=aC) (bytes:=32) (ty:=ty) oY h (a:=a) (m:=m) (cx:=cx) (news:=cX l2) (by rw [eQ,qH]) h2.cells (Cw l2) (by omega) (by unfold maxLen;omega) hB;refine⟨A',c',w',hr,?_,hg,hb⟩;rw [<-mo]at fk;exact fk
 |none=>
  obtain⟨rfl,rfl⟩:=h2.none;refine⟨A,c,w,?_,by simpa using h,⟨rfl,rfl,rfl,Nat.le_refl _,fun _ _ _=>rfl⟩,fun k hk=>.inl hk⟩;obtain⟨i,z,hi,hz,hs,JI,DJ⟩:=oY.inf;have hn:n<=c:=by rcases Row.own h with⟨_,h1,h2,_⟩|⟨_,_,_,_,_,h1,_⟩<;>omega
  simp [Builtin.append_,run_underlying oY.oS,sizeOf,typeInfo,hi,Builtin.lenOf,Builtin.firstCells,hn];cases A<;>simp [storeCells]
end
theorem HS.load{w:World}{A:Option Addr}{n:Nat}{l:List HT}(hl:HS w A n l){i:Int}{x:HT}(h0:0<=i)(hx:l[i.toNat]? =some x){k:Array Value->Prop}(hk:k x.1):
 (0<=i/\i<(n:Int))/\Is A fun a=>∃t:Array Value,(t.size=32/\Cells w (a.add (i.toNat*32)) t)/\k t:=by
 obtain⟨a,rfl,_,hc⟩:=hl.at_ _ x hx;have:=(lgeS hx).1;have:=hl.len;exact⟨⟨h0,by omega⟩,x.1,⟨x.2.1,hc⟩,hk⟩
theorem rO{a b:HT}:(ln a b<0)↔cJ a b=true:=by
 unfold ln;by_cases h:cJ a b=true
 ·simp [h]
 ·by_cases h':cJ b a=true<;>simp [h,h']
theorem dt{n:Int}(h0:0<=n)(h1:n<=2000000):i64.wrap (n+1)=n+1:=gN (by omega) (by omega)
theorem wrapM{n:Int}(h0:0<=n)(h1:n<=2000000):i64.wrap (n-1)=n-1:=gN (by omega) (by omega)
theorem Kept.eh{w w' iR:World}{A:Option Addr}(h:Kept Nil w w')(hg:w'.grownBy iR (a8 A))(hr:∀k,a8 A=some k->w.heap.size<=k):Kept Nil w iR:=
 Kept.grown h hg fun k hk cJ=>absurd (hr k hk) (by omega)
section
variable{w:World}{K:Value->World->Prop}
theorem nV{A:Option Addr}{n c:Nat}{l:List HT}(hl:HS w A n l)(hn:n<=400000)
 (hK:∀A' c' w',bI w' w.heap.size A' (di l).length c' (di l)->Kept Nil w w'->K (.slice A' (di l).length c') w'):
 bk prog aL.id #[.slice A n c] w K:=by
 refine aL.of ?_;have hlen:=hl.len;refine aL.b9 (I:=fun s w'=>∃(i:Nat) (out:List HT) (B:Option Addr) (m:Nat),s=(B,out.length,m,(i:Int))/\i<=n/\bI w' w.heap.size B out.length m out/\SS out/\(∀x,x∈out↔x∈l.take i)/\out.length<=i/\Kept Nil w w')
  (μ:=fun s _=>((n:Int)-s.2.2.2).toNat) (s:=(none,0,0,0)) ⟨0,[],none,0,rfl,Nat.zero_le _,bI.nil _ _,List.Pairwise.nil,by simp,by simp,Kept.refl _ _⟩ ?_
 rintro s w' ⟨i,out,B,m,rfl,hi,row,ue,iI,Uh,kw⟩;refine Split.dec (fun jx=>?_) (fun gu=>?_)
 ·simp only at jx
  have dP:i<n:=by omega
  obtain⟨x,hx⟩:∃x,l[i]? =some x:=⟨_,List.getElem?_eq_getElem (by omega)⟩;refine(hl.same kw).load (i:=(i:Int)) (by omega) hx (xV x row.hs (by simp only;omega) fun w9 k9=>⟨_,rfl,?_⟩);simp only;have SK:Kept Nil w w9:=kw.tt k9;have Ke:bI w9 w.heap.size B out.length m out:=Row.aG row k9 (fun _ _ h=>h);have yO:l.take (i+1)=l.take i++ [x]:=by rw [List.take_add_one,hx];rfl
  refine Split.dec (fun fC=>?_) (fun lE=>?_)
  ·rw [dt (n:=(i:Int)) (by omega) (by omega)]
   refine⟨(B,out.length,m,(i:Int)+1),rfl,⟨i+1,out,B,m,rfl,dP,Ke,ue,fun y=>?_,by omega,SK⟩,by simp only;omega⟩;rw [yO,List.mem_append,List.mem_singleton,<-iI y];constructor
   ·exact .inl
   ·rintro(h|rfl)
    ·exact h
    ·exact fC
  ·refine aL.gC (I:=fun s w'=>∃k:Nat,s=(k:Int)/\k<=out.length/\(∀y∈out.drop k,cJ x y=true)/\Kept Nil w9 w') (μ:=fun s _=>s.toNat) (s:=(out.length:Int)) ⟨out.length,rfl,Nat.le_refl _,by simp,Kept.refl _ _⟩ ?_
   rintro s w1 ⟨k,rfl,hk,vo,k1⟩;have MW:HS w1 A n l:=(hl.same SK).same k1;have xS:bI w1 w.heap.size B out.length m out:=Row.aG Ke k1 (fun _ _ h=>h);have kx:Kept Nil w w1:=SK.tt k1;have rK:∀w1,HS w1 A n l->bI w1 w.heap.size B out.length m out->Kept Nil w w1->(∀y∈out.take k,cJ y x=true)->
    aL.ik A n c none 0 0 B out.length m (i:Int) (k:Int) (bL (aL.e1 A n c none 0 0) (fun s w'=>∃(i:Nat) (out:List HT) (B:Option Addr) (m:Nat),s=(B,out.length,m,(i:Int))/\i<=n/\bI w' w.heap.size B out.length m out/\SS out/\(∀x,x∈out↔x∈l.take i)/\out.length<=i/\Kept Nil w w') (fun s _=>((n:Int)-s.2.2.2).toNat) (B,out.length,m,(i:Int)) w' (aL.q1 K)) w1:=by
    intro w1 MW xS kx xm;have yo:out.length<=m:=by rcases Row.own xS with⟨_,h1,h2,_⟩|⟨_,_,_,_,_,h1,_⟩<;>omega
    have lO:=kx.size;unfold aL.ik;refine⟨⟨by omega,by omega⟩,?_⟩;have yi:HS w1 (if m=0 then B else B.map (·.add (0*32))) ((k:Int).toNat -0) (out.take k):=by
     have h:=xS.hs.take hk;rw [Nat.sub_zero,Int.toNat_natCast];have e:(if m=0 then B else B.map (·.add (0*32)))=B:=by
      split
      ·rfl
      ·cases B<;>simp [add_zero]
     rw [e];exact h
    obtain⟨A1,c1,w2,mE,fW,Ln,lh⟩:=cD (cx:=m-0) aC (bI.nil w1 w.heap.size) yi (by simp;omega) lO;have k2:Kept Nil w1 w2:=Kept.eh (Kept.refl _ _) Ln (fun k hk=>by cases hk);rw [Nat.zero_add,Nat.sub_zero,Int.toNat_natCast]at mE fW;rw [List.nil_append]at fW;refine⟨A1,_,c1,w2,by rw [Nat.sub_zero,Int.toNat_natCast];exact mE,?_⟩;have qH:=MW.same k2;refine qH.load (i:=(i:Int)) (by omega) hx ⟨x.2.1,?_⟩;intro w3;have k3:Kept Nil w2 w3:=(Kept.refl _ _).alloc _;have iV:HS w3 (some ⟨w2.heap.size,0,none⟩) 1 [x]:=by
     refine HS.one (t:=ai) (fr:=(0,0)) ?_;have e3:w3=w2.alloc (.cells x.1 ai):=by
      show w2.alloc (.cells (x.1.toList++ []).toArray ai)=_
      simp
     rw [e3];exact aI w2 _
    clear_value w3;have mQ:bI w3 w.heap.size A1 k c1 (out.take k):=Row.aG fW k3 (fun _ _ h=>h);have Z2:w.heap.size<=w3.heap.size:=Nat.le_trans (Nat.le_trans lO k2.size) k3.size;obtain⟨A4,c4,w4,xn,iE,DY,qJ⟩:=cD (cx:=1) aC mQ iV (by omega) Z2;have k4:Kept Nil w1 w4:=Kept.eh (k2.tt k3) DY (fun k hk=>by rcases lh k hk with h|h;cases h;exact h);refine⟨A4,_,c4,w4,xn,⟨by omega,by omega⟩,?_⟩;have Rp:HS w4 (if m=(k:Int).toNat then B else B.map (·.add ((k:Int).toNat*32))) (out.length-(k:Int).toNat) (out.drop k):=by
     rw [Int.toNat_natCast];exact(xS.hs.same k4).drop yo hk
    have XK:(out.length-(k:Int).toNat)=out.length-k:=by rw [Int.toNat_natCast]
    obtain⟨A5,c5,w5,tL,iY,U5,oE⟩:=cD (cx:=m-(k:Int).toNat) aC iE Rp (by omega) (Nat.le_trans lO k4.size);have k5:Kept Nil w1 w5:=Kept.eh k4 U5 (fun b hb=>by
     rcases qJ b hb with h|h
     ·rcases lh b h with h|h
      ·cases h
      ·exact h
     ·exact Nat.le_trans (Nat.le_trans k2.size k3.size) h)
    refine⟨A5,_,c5,w5,tL,?_⟩;rw [dt (n:=(i:Int)) (by omega) (by omega)];have mU:out.take k++ [x]++out.drop k=out.take k++x::out.drop k:=by simp
    have yQ:(out.take k++x::out.drop k).length=out.length+1:=by simp;omega
    rw [mU]at iY;have e5:k+1+(out.length-(k:Int).toNat)=(out.take k++x::out.drop k).length:=by rw [yQ];omega
    rw [e5]at iY⊢;refine⟨(A5,(out.take k++x::out.drop k).length,c5,(i:Int)+1),rfl,⟨i+1,_,A5,c5,rfl,dP,iY,Jm ue xm vo,fun y=>?_,by omega,kx.tt k5⟩,by simp only;omega⟩;rw [show y∈l.take (i+1)↔y∈out\/y=x by rw [yO,List.mem_append,List.mem_singleton,iI y],List.mem_append,List.mem_cons];constructor
    ·rintro(h|rfl|h)
     ·exact .inl (List.mem_of_mem_take h)
     ·exact .inr rfl
     ·exact .inl (List.mem_of_mem_drop h)
    ·rintro(h|rfl)
     ·rw [<-List.take_append_drop k out,List.mem_append]at h
      rcases h with h|h
      ·exact .inl h
      ·exact .inr (.inr h)
     ·exact .inr (.inl rfl)
   unfold aL.B2;intro w2;have k2:Kept Nil w1 w2:=(Kept.refl _ _).drew;clear_value w2;have qH:=MW.same k2;have fW:bI w2 w.heap.size B out.length m out:=Row.aG xS k2 (fun _ _ h=>h);have kx2:=kx.tt k2;refine Split.dec (fun jt=>?_) (fun ym=>?_)
   ·have qQ:0<k:=by omega
    obtain⟨y,hy⟩:∃y,out[k-1]? =some y:=⟨_,List.getElem?_eq_getElem (by omega)⟩;rw [wrapM (n:=(k:Int)) (by omega) (by omega)];refine qH.load (i:=(i:Int)) (by omega) hx (fW.hs.load (by omega) (by rw [show((k:Int)-1).toNat=k-1 by omega];exact hy) (sY x y fun w3 k3=>⟨_,rfl,?_⟩));refine Split.dec (fun hc=>?_) (fun hc=>?_)
    ·refine⟨(k:Int)-1,rfl,⟨k-1,by omega,by omega,fun z hz=>?_,(k1.tt k2).tt k3⟩,by simp only;omega⟩
     have hd:out.drop (k-1)=y::out.drop k:=by
      obtain⟨h1,h2⟩:=lgeS hy;rw [List.drop_eq_getElem_cons h1,h2,show k-1+1=k by omega]
     rw [hd]at hz;rcases List.mem_cons.1 hz with rfl|hz
     ·exact rO.1 hc
     ·exact vo z hz
    ·rw [aO,aL.jA]
     refine rK w3 (qH.same k3) (Row.aG fW k3 (fun _ _ h=>h)) (kx2.tt k3) fun z hz=>?_;have DK:cJ y x=true:=by
      have h1:cJ x y=false:=by
       cases h:cJ x y
       ·rfl
       ·exact absurd (rO.2 h) hc
      refine lt_of_le_ne h1 fun e=>lE ?_;rw [<-e];exact List.mem_of_getElem? hy
     obtain⟨j,hj⟩:=List.mem_iff_getElem?.1 hz;rw [List.getElem?_take]at hj;split at hj
     ·rename_i UW
      by_cases e:j=k-1
      ·subst e;rw [hy]at hj;cases hj;exact DK
      ·exact jW (ue.get (by omega) hj hy) DK
     ·cases hj
   ·rw [aO,aL.jA]
    have qQ:k=0:=by omega
    refine rK w2 qH fW kx2 fun z hz=>?_;rw [qQ]at hz;simp at hz
 ·simp only at gu
  have:i=n:=by omega
  subst this;rw [aO,aL.df];have e:out=di l:=xP ue fun x=>by rw [iI,List.take_of_length_le (by omega)]
  rw [e]at row;have:=hK B m w' row kw;rw [<-e]at this;exact this
end
theorem kr{w:World}{k l:Nat}{cs:Array Value}{t:TypeId}{fr:Nat×Nat}{R:Loop}(h:w.heap[k]? =some (.cells cs t fr))(h':w.heap[l]? =some (.loop R)):k≠l:=by
 rintro rfl;rw [h]at h';cases h'
theorem rp{w:World}{k l:Nat}{cs:Array Value}{t:TypeId}{fr:Nat×Nat}{d:Option (List Deferred)}(h:w.heap[k]? =some (.cells cs t fr))(h':w.heap[l]? =some (.deferred d)):k≠l:=by
 rintro rfl;rw [h]at h';cases h'
theorem Row.apart{w w':World}{B:Nat}{e:TypeId}{size:Nat}{A:Option Addr}{n c:Nat}{xs:List Value}(h:Row w B e size A n c xs){l:Nat}(hk:Kept (· =l) w w')
 (hl:∀cs t fr,w.heap[l]? ≠some (.cells cs t fr)):Row w' B e size A n c xs:=Row.aG h hk fun k hb e=>by
 subst e;obtain⟨_,cur,hc⟩:=Row.bE h hb;exact hl _ _ _ hc
abbrev rL(h:HT):List Value:= [.agg h.1]
section
variable{w:World}{K:Value->World->Prop}
theorem y7(p:Addr){A:Option Addr}{n c:Nat}{l:List HT}(hn:n<=1000000):
 nJ prog aE.id #[] #[.pointer (some p)] (l.map rL) (fun w=>HS w A n l/\w.cell? p=some (.slice A n c)):=by
 intro y I D w0 hI hD mH h0 og;refine aE.of ?_;obtain⟨DU,K4⟩:=mH 0 w0 h0;have hlen:=DU.len;refine⟨A,n,c,K4,?_⟩;refine aE.b9 (I:=fun s w'=>∃i:Nat,s=(i:Int)/\i<=n/\I i w') (μ:=fun s _=>((n:Int)-s).toNat) (s:=0) ⟨0,rfl,Nat.zero_le _,h0⟩ ?_;rintro s w' ⟨i,rfl,hi,hw⟩;refine Split.dec (fun jx=>?_) (fun gu=>?_)
 ·have dP:i<n:=by omega
  obtain⟨x,hx⟩:∃x,l[i]? =some x:=⟨_,List.getElem?_eq_getElem (by omega)⟩;have hl:=(mH i w' hw).1;refine hl.load (i:=(i:Int)) (by omega) hx ?_;intro w10;obtain⟨sD,hb,hk⟩:=gR (w:=w') (z:=(#[.int .u8 0,.int .u8 0,.int .u8 0,.int .u8 0,.int .u8 0,.int .u8 0,.int .u8 0,.int .u8 0,.int .u8 0,.int .u8 0,.int .u8 0,.int .u8 0,.int .u8 0,.int .u8 0,.int .u8 0,.int .u8 0,.int .u8 0,.int .u8 0,.int .u8 0,.int .u8 0,.int .u8 0,.int .u8 0,.int .u8 0,.int .u8 0,.int .u8 0,.int .u8 0,.int .u8 0,.int .u8 0,.int .u8 0,.int .u8 0,.int .u8 0,.int .u8 0]:Array Value)) (cs:=x.1) (t:=ai) (by rw [x.2.1];rfl);refine⟨⟨x.2.1,x.2.one,fun j hj=>sD j (by rw [x.2.1];exact hj)⟩,?_⟩;intro lV
  replace hb:lV.heap[w'.heap.size]? =some (.cells x.1 ai (0,0)):=hb
  replace hk:Kept Nil w' lV:=hk
  clear_value lV;refine⟨x.1,⟨x.2.1,Cells.bE hb⟩,?_⟩;refine(og i (rL x) lV (by rw [List.getElem?_map,hx];rfl) (hI i w' lV hw hk)).mono ?_;rintro b iR ⟨ht,hf⟩;cases b with
  |true=>
   refine Split.no rfl ?_;rw [dt (n:=(i:Int)) (by omega) (by omega)];exact⟨(i:Int)+1,rfl,⟨i+1,rfl,dP,ht rfl⟩,by simp only;omega⟩
  |false=>
   refine Split.yes rfl ?_;exact Or.inr (hf rfl)
 ·rw [aO,aE.df]
  have e:i=n:=by omega
  subst e;refine Or.inl ?_;rw [List.length_map,hlen];exact hw
theorem wC{gf:FuncId}{gh:Array Value}{xs:List HT}{fn:Func}(Gs:prog.funcs[gf]? =some fn)(hb:fn.body.isSome){C0:World->Prop}
 (hit:nJ prog gf #[] gh (xs.map rL) C0) (hp:∀w',Kept Nil w w'->C0 w') (KS:xs.length<=1000000)
 (hK:∀A c w',bI w' w.heap.size A xs.length c xs->Kept Nil w w'->K (.slice A xs.length c) w'):
 bk prog aK.id #[.slice none 0 0,.func (.func gf) #[] gh] w K:=by
 refine aK.of ?_;unfold aK.W;intro w3;have k3:Kept Nil w w3:=(Kept.refl Nil w).alloc _;have nh:w3.heap[w.heap.size]? =some (.cells #[.slice none 0 0] aC (0,0)):=aI w _;have Cg:w.heap.size<w3.heap.size:=aT nh;clear_value w3
 let ρ0:Env:= [(2,.pointer (some (⟨w.heap.size,0,none⟩:Addr))),(4,.slice none 0 0),(6,.func (.func gf) #[] gh)]
 let J:Nat->World->Prop:=fun i w'=>∃A c,w'.heap[w.heap.size]? =some (.cells #[.slice A i c] aC (0,0))/\bI w' w.heap.size A i c (xs.take i)/\Kept Nil w w'/\i<=xs.length/\∀k,a8 A=some k->k≠w.heap.size
 refine nX (ρ:=ρ0) (ρ0:=ρ0) ng mix aK.k (t:=6) (ps:= #[7]) (by kernel_rfl) (by decide) rfl Gs hb (.inl rfl) (fun i v _ h=>h) rfl rL xs (fun _=>rfl) (by simp [gz]) hit J (fun _ _=>False) ?_ (fun _ _ _ _ _ h=>h.elim) (fun i w' h=>hp w' (let ⟨_,_,_,_,h,_⟩:=h;h)) ?_ ?_ ?_ (fun _ _ h=>h.elim) (fun _ _ _ h=>h.elim)
 ·rintro i w' iR R hl ⟨A,c,h1,h2,h3,h4,h5⟩ hk
  exact⟨A,c,hk.heap h1 (kr h1 hl.loop),Row.apart h2 hk (fun cs t fr h=>by rw [hl.loop]at h;cases h),h3.trans hk (fun k hk e=>by omega),h4,h5⟩
 ·intro R
  exact⟨none,0,iQ (iQ nh _) _,bI.nil _ _,(k3.alloc _).alloc _,Nat.zero_le _,fun k hk=>by cases hk⟩
 ·rintro i x w' R hx ⟨A,c,h1,h2,h3,h4,h5⟩ hl
  have dP:i<xs.length:=(lgeS hx).1;have e7:ko ρ0 ((#[7]:Array Nat).toList.zip (rL x))= [(2,.pointer (some (⟨w.heap.size,0,none⟩:Addr))),(4,.slice none 0 0),(6,.func (.func gf) #[] gh),(7,.agg x.1)]:=rfl;rw [e7,aK.a1];unfold aK.A1;intro w8;obtain⟨sD,jz,jS⟩:=gR (w:=w') (z:=(#[.int .u8 0,.int .u8 0,.int .u8 0,.int .u8 0,.int .u8 0,.int .u8 0,.int .u8 0,.int .u8 0,.int .u8 0,.int .u8 0,.int .u8 0,.int .u8 0,.int .u8 0,.int .u8 0,.int .u8 0,.int .u8 0,.int .u8 0,.int .u8 0,.int .u8 0,.int .u8 0,.int .u8 0,.int .u8 0,.int .u8 0,.int .u8 0,.int .u8 0,.int .u8 0,.int .u8 0,.int .u8 0,.int .u8 0,.int .u8 0,.int .u8 0,.int .u8 0]:Array Value)) (cs:=x.1) (t:=ai) (by rw [x.2.1];rfl);refine⟨⟨x.2.1,x.2.one,fun j hj=>sD j (by rw [x.2.1];exact hj)⟩,?_⟩;intro qi
  replace jz:qi.heap[w'.heap.size]? =some (.cells x.1 ai (0,0)):=jz
  replace jS:Kept Nil w' qi:=jS
  clear_value qi;have Lf:=hl.aG jS (fun h=>h) (fun h=>h);refine⟨Lf,fun w2 R2 mJ qH=>?_⟩;have abO:=mJ.heap jz (kr jz Lf.loop);have h1b:=jS.heap h1 (fun h=>h);have D7:=mJ.heap h1b (kr h1b Lf.loop);have yR:bI w2 w.heap.size A i c (xs.take i):=Row.apart (Row.aG h2 jS (fun _ _ h=>h)) mJ (fun cs t fr h=>by rw [Lf.loop]at h;cases h);have Gu:Kept Nil w w2:=(h3.tt jS).trans mJ (fun k hk e=>by omega);have cJ:w.heap.size<w2.heap.size:=aT D7;rw [aK.y1];unfold aK.Y1;refine⟨A,i,c,by rw [aA D7];rfl,x.1,⟨x.2.1,Cells.bE abO⟩,x.2.1,?_⟩;intro jw;have mT:Kept Nil w2 jw:=(Kept.refl _ _).alloc _;have iV:HS jw (some ⟨w2.heap.size,0,none⟩) 1 [x]:=by
   refine HS.one (t:=ai) (fr:=(0,0)) ?_;have e3:jw=w2.alloc (.cells x.1 ai):=by
    show w2.alloc (.cells (x.1.toList++ []).toArray ai)=_
    simp
   rw [e3];exact aI w2 _
  clear_value jw;have Lz:bI jw w.heap.size A i c (xs.take i):=Row.aG yR mT (fun _ _ h=>h);have acK:=mT.heap D7 (fun h=>h);have ah7:=mT.size;obtain⟨A',c',rV,hr,kl,hg,wq⟩:=cD (cx:=1) aC Lz iV (by omega) (by omega);have PZ:Kept (fun k=>a8 A=some k) jw rV:=Kept.grown (Kept.refl _ _) hg (fun k hk _=>hk);have LA:=PZ.heap acK (fun h=>h5 _ h rfl);have PK:Live (w3.heap.size+1) w3.heap.size R2 rV:=by
   have PL:=qH.aG mT (fun h=>h) (fun h=>h);refine PL.aG PZ ?_ ?_
   ·intro h
    obtain⟨_,cur,hc⟩:=Row.bE Lz h;exact kr hc PL.loop rfl
   ·intro h
    obtain⟨_,cur,hc⟩:=Row.bE Lz h;exact rp hc PL.mark rfl
  have Fs:Kept Nil w rV:=(Gu.tt mT).trans PZ (fun k hk e=>by
   obtain⟨h,_⟩:=Row.bE Lz e;omega)
  refine⟨A',_,c',rV,hr,dO LA (by simp),?_⟩;intro oR;have xk:Kept (· =w.heap.size) rV oR:=Kept.setCell (S:=fun k=>k=w.heap.size) (Kept.refl _ rV) (p:=⟨w.heap.size,0,none⟩) (fun _=>rfl) _;have ab2:oR.heap[w.heap.size]? =some (.cells #[.slice A' (i+1) c'] aC (0,0)):=dc LA 0 _;clear_value oR;have FM:∀k,a8 A'=some k->k≠w.heap.size:=fun k hk=>by
   rcases wq k hk with h|h
   ·exact h5 k h
   ·omega
  refine⟨PK.aG xk (kr LA PK.loop).symm (rp LA PK.mark).symm,A',c',ab2,?_,Fs.trans xk (fun k hk e=>by omega),dP,FM⟩;rw [List.take_add_one,hx];exact Row.aG kl xk FM
 ·rintro w' R ⟨A,c,h1,h2,h3,h4,h5⟩ hl
  have e7:fR ρ0 w3.heap.size= [(2,.pointer (some (⟨w.heap.size,0,none⟩:Addr))),(4,.slice none 0 0),(6,.func (.func gf) #[] gh),(4294967296,.agg #[.pointer (some ⟨w3.heap.size,0,none⟩)])]:=rfl;rw [e7,aK.jo];refine⟨A,xs.length,c,by rw [aA h1];rfl,⟨hl.mark,trivial⟩,?_⟩;have kp:Kept (· =w3.heap.size) w' (w'.putObj w3.heap.size (.deferred none)):=Kept.putAt _ _ _;refine hK A c _ ?_ (h3.trans kp (fun k hk e=>by omega));have:=Row.apart h2 kp (fun cs t fr h=>by rw [hl.mark]at h;cases h)
  rwa [List.take_of_length_le (Nat.le_refl _)]at this
theorem vF{gf:FuncId}{gh:Array Value}{xs:List HT}{fn:Func}(Gs:prog.funcs[gf]? =some fn)(hb:fn.body.isSome){C0:World->Prop}
 (hit:nJ prog gf #[] gh (xs.map rL) C0) (hp:∀w',Kept Nil w w'->C0 w') (KS:xs.length<=1000000)
 (hK:∀A c w',bI w' w.heap.size A xs.length c xs->Kept Nil w w'->K (.slice A xs.length c) w'):
 bk prog cQ.id #[.func (.func gf) #[] gh] w K:=by
 refine cQ.of (wC Gs hb hit hp KS fun A c w' h1 h2=>⟨_,_,_,rfl,hK A c w' h1 h2⟩)
end
open Go.Sort
instance:Inhabited HT:=⟨⟨Array.replicate 32 (.int .u8 0),by simp,fun v hv=>⟨0,by simpa using hv,by omega,by omega⟩⟩⟩
abbrev mY(h:HT):List Value:=h.1.toList
theorem AH(h:HT):(mY h).length=32:=by have:=h.2.1;simpa using this
theorem vy(d:Array HT):(flatK mY 32 d).toList=cX d.toList:=by
 apply List.ext_getElem?;intro t;by_cases ht:t<d.size*32
 ·have hi:t/32<d.size:=by omega
  have hx:d.toList[t/32]? =some d[t/32]:=by rw [Array.getElem?_toList,Array.getElem?_eq_getElem hi]
  have hs:t%32<d[t/32].1.size:=by rw [d[t/32].2.1];omega
  have h1:=kV hx (Array.getElem?_eq_getElem hs);rw [show t/32*32+t%32=t by omega]at h1;rw [h1];have h2:t<(flatK mY 32 d).size:=by rw [size_flatK];exact ht
  have h3:=get_flatK mY 32 d t ht;rw [getElem!_pos _ t h2]at h3;rw [Array.getElem?_toList,Array.getElem?_eq_getElem h2,h3,getElem!_pos d _ hi];rw [getElem!_pos _ _ (by rw [AH];omega)];simp [mY]
 ·rw [List.getElem?_eq_none (by simp;omega),List.getElem?_eq_none (by rw [eQ];simp;omega)]
theorem Hf{F cur:Array Value}{k:Nat}(hk:F.size=k)(h:k<=cur.size):(putCells id 0 F cur).toList.take k=F.toList:=by
 apply List.ext_getElem?;intro i;rw [List.getElem?_take];split
 ·rename_i hi
  have h1:i<cur.size:=by omega
  have h2:i<F.size:=by omega
  rw [Array.getElem?_toList,Array.getElem?_toList,putCells,Array.getElem?_mapIdx,Array.getElem?_eq_getElem h1,Array.getElem?_eq_getElem h2];simp [h2]
 ·rw [List.getElem?_eq_none (by simp;omega)]
theorem vZ{w:World}{b:Nat}{f:Array Value->Array Value}{cur:Array Value}{t:TypeId}{fr:Nat×Nat}(h:w.heap[b]? =some (.cells cur t fr)):(mapBlock w b f).heap[b]? =some (.cells (f cur) t fr):=by
 simp [mapBlock,Array.getElem?_modify,h,onCells]
theorem vY(w:World)(b:Nat)(f:Array Value->Array Value):Kept (· =b) w (mapBlock w b f):=
 ⟨rfl,rfl,rfl,by simp [mapBlock],fun k _ hn=>by simp [mapBlock,Array.getElem?_modify,Ne.symm hn]⟩
theorem FN(w:World)(os:Array Obj):Kept Nil w (grow w os):=
 ⟨rfl,rfl,rfl,by simp,fun k hk _=>heap_grow_old w os hk⟩
theorem CW(w:World)(m:Nat):Kept Nil w (Sort.ahead w m):=⟨rfl,rfl,rfl,Nat.le_refl _,fun _ _ _=>rfl⟩
section
variable{w:World}{B n c b:Nat}{l:List HT}
theorem vU(row:bI w B (some ⟨b,0,none⟩) n c l)(m:Nat)(dk:Array HT)(os:Array Obj)(hd:dk.size=n):
 bI (sortWorldK mY 32 w b 0 m dk os) B (some ⟨b,0,none⟩) n c dk.toList/\Kept (· =b) w (sortWorldK mY 32 w b 0 m dk os):=by
 have hka:=CW w m;have k1:=vY (Sort.ahead w m) b (putCells id 0 (flatK mY 32 dk));have kk:=((hka.mono (S':=fun k=>k=b) (fun _ _ h=>h.elim)).tt k1).trans (FN _ os) (fun _ _ h=>h.elim);refine⟨?_,?_⟩
 ·rcases Row.own row with⟨h,_⟩|⟨b',cur,hA,hB,hg,FD,mV,mM,yO⟩
  ·cases h
  ·cases hA
   refine⟨by rw [eQ,Array.length_toList,hd],.inr ⟨b,c,putCells id 0 (flatK mY 32 dk) cur,rfl,hB,?_,FD,mV,by simp [putCells,mM],?_⟩⟩
   ·have h1:(mapBlock (Sort.ahead w m) b (putCells id 0 (flatK mY 32 dk))).heap[b]? =some (.cells (putCells id 0 (flatK mY 32 dk) cur) ai (0,0)):=vZ hg
    exact(heap_grow_old _ os (aT h1)).trans h1
   ·rw [<-vy]
    refine Hf (by rw [size_flatK,hd]) ?_;rw [mM];exact Nat.mul_le_mul_right _ FD
 ·exact kk
theorem Cq(row:bI w B (some ⟨b,0,none⟩) n c l):HoldsK mY 32 w b 0 l.toArray:=by
 intro j hj;rw [size_flatK]at hj;have vm:j<l.length*32:=by simpa using hj
 rw [Nat.zero_add];have hlen:=Row.len row;have hx:(flatK mY 32 l.toArray).toList[j]? =(cX l)[j]? :=by rw [vy]
 have hjs:j<(flatK mY 32 l.toArray).size:=by rw [size_flatK];exact hj
 rw [Array.getElem?_toList,Array.getElem?_eq_getElem hjs]at hx;have hc:=Row.cell row hx.symm;refine⟨?_,?_⟩
 ·rw [hc,getElem!_pos _ j hjs];rfl
 ·exact(Row.wr row (j:=j) (by rw [eQ];exact vm)).2
theorem pD(x y:HT):ltOf ln x y=cJ x y:=by
 unfold ltOf;cases h:cJ x y
 ·exact decide_eq_false fun h'=>by rw [rO.1 h']at h;cases h
 ·exact decide_eq_true (rO.2 h)
theorem le_trans'{x y z:HT}(h:cJ y x=false)(h':cJ z y=false):cJ z x=false:=by
 cases Ty:cJ z x
 ·rfl
 ·exfalso
  by_cases e:y=z
  ·subst e;rw [h]at Ty;cases Ty
  ·have Rh:=lt_of_le_ne h' e
   have:=jW Rh Ty;rw [h]at this;cases this
theorem YH:SWO (ltOf ln) where
 irrefl x:=by rw [pD];exact gV x
 trans x y z h h':=by rw [pD]at*;exact jW h h'
 ntrans x y z h h':=by
  rw [pD]at*;exact le_trans' h' h
theorem J0{A:Option Addr}{K:Value->World->Prop}(row:bI w B A n c l)(hn:n<=1000000)
 (hK:∀l' w',LE l'->(∀x,x∈l'↔x∈l)->bI w' B A n c l'->Kept (fun k=>a8 A=some k) w w'->K (.tuple #[]) w'):
 bk prog iP.id #[.slice A n c,.func (.func dz.id) #[] #[]] w K:=by
 have hlen:=row.len;by_cases h0:n=0
 ·subst h0
  have h:=AnyF.slices_SortFunc_none Tryz.wM A c (.func (.func dz.id) #[] #[]) w;refine Calls.mono h ?_;rintro e w' ⟨rfl,rfl⟩;have:l= []:=List.eq_nil_of_length_eq_zero hlen;subst this;exact⟨_,rfl,hK [] _ List.Pairwise.nil (fun _=>Iff.rfl) row (Kept.refl _ _)⟩
 ·obtain⟨b,rfl⟩:=Row.some row (by omega)
  have hblk:b<w.heap.size:=by
   obtain⟨_,cur,hc⟩:=Row.bE row (k:=b) rfl;exact aT hc
  have lO:l.toArray.size=n:=by simpa using hlen
  have eg:∀args w,(callFunc dz.id args).run prog w=.ok (.enter dz.id args) w:=enters_of dz.at_ (by kernel_rfl) rfl;have hk:nZ prog ai=.agg 32:=by kernel_rfl
  obtain⟨e32,ha⟩:=rH hk;obtain⟨i,hi⟩:=Go.bR.info_of_underlying (P:=prog) (t:=ai) (by kernel_rfl);have abE:CmpLays prog dz.id #[] mY 32 ln b 0 l.toArray.size w:=fun m os dk _ x y=>by
   have e:(#[.agg (mY x).toArray,.agg (mY y).toArray]++ #[]:Array Value)= #[.agg x.1,.agg y.1]:=by simp [mY]
   rw [e];have h:=pI (w:=sortWorldK mY 32 w b 0 m dk os) x y (K:=fun v w'=>v=.int .i64 (ln x y)/\w'=(((sortWorldK mY 32 w b 0 m dk os).alloc (.cells x.1 ai)).alloc (.cells y.1 ai)).drew) ⟨rfl,rfl⟩;refine Calls.mono h ?_;rintro e w' ⟨v,rfl,rfl,rfl⟩;refine⟨rfl,1,#[.cells x.1 ai,.cells y.1 ai],?_⟩;rw [alloc_eq_grow,alloc_eq_grow,grow_grow,drew_grow];rfl
  have h:=AnyQ.slices_SortFunc_total Tryz.wM 32 ha (fun w=>by rw [e32];exact Go.bR.run_sizeOf hi w) mY AH (fun x=>x.2.one) ln YH dz.id #[] b 0 c l.toArray w eg abE (Cq row) hblk (by omega)
   (fun x y h1 h2=>by rw [pD]at h1 h2;exact pW h1 h2)
  rw [lO]at h;refine Calls.mono h ?_;rintro e w' ⟨rfl,m,os,rfl⟩;have hp:=List.mergeSort_perm l.toArray.toList (fun x y=> !(ltOf ln) y x);have Lb:(l.toArray.toList.mergeSort fun x y=> !(ltOf ln) y x).toArray.size=n:=by
   have:=hp.length_eq;simp only [List.size_toArray];rw [this];simpa using hlen
  obtain⟨h1,h2⟩:=vU row m _ os Lb;refine⟨_,rfl,hK _ _ ?_ (fun x=>?_) h1 (h2.mono fun k _ e=>by rw [e];rfl)⟩
  ·have hs:=List.pairwise_mergeSort (le:=fun x y=> !(ltOf ln) y x) (fun a b c h h'=>by
    rw [pD]at*;simp only [Bool.not_eq_true']at*;exact le_trans' h h') (fun a b=>by
    rw [pD,pD];cases kM:cJ b a
    ·rfl
    ·rw [sG kM];rfl) l.toArray.toList
   refine List.Pairwise.imp ?_ hs;intro a b kM;rw [pD]at kM;simpa using kM
  ·simp
end
end Go.Proofs.YtfleamccglihoaaGreatDoor
namespace Go.Proofs.YtfleamccglihoaaGreatDoor
open Go.Proofs.Tryz
open Go Go.bR Go.RowKit
theorem Cv{l:List HT}{k:Nat}(hk:k<l.length)(x:HT):cX (l.set k x)=gK (cX l) (k*32) x.1.toList:=by
 have h1:l=l.take k++l[k]::l.drop (k+1):=by rw [<-List.drop_eq_getElem_cons hk,List.take_append_drop]
 have e1:(cX (l.take k)).length=k*32:=by rw [eQ,List.length_take];omega
 have hx:=x.2.1;have hl:=l[k].2.1;have hs:l.set k x=l.take k++x::l.drop (k+1):=List.set_eq_take_append_cons_drop .. |>.trans (if_pos hk)
 rw [hs]
 conv=>rhs;rw [h1]
 rw [mo,mo,lg,lg];generalize cX (l.take k)=p at e1;generalize cX (l.drop (k+1))=r;have eq:l[k].1.toList.length=32:=by simpa using hl
 have ev:x.1.toList.length=32:=by simpa using hx
 generalize l[k].1.toList=q at eq;generalize x.1.toList=v at ev;unfold gK;rw [List.take_left' e1,ev,show p++(q++r)=(p++q)++r by simp,List.drop_left' (by rw [List.length_append,e1,eq])];simp
theorem bI.setAt{w:World}{B n c b:Nat}{l:List HT}(row:bI w B (some ⟨b,0,none⟩) n c l){k:Nat}(hk:k<n)(x:HT):
 bI (setCells w ⟨b,k*32,none⟩ x.1.toList 0) B (some ⟨b,0,none⟩) n c (l.set k x):=by
 have hlen:=row.len;have hx:=x.2.1;have:=qW x.1.toList (cX l) w (k*32) 0 row (by rw [eQ];simp;omega);rw [Nat.add_zero]at this;rw [<-Cv (by omega)]at this;exact this
theorem bI.GB{w:World}{B n c b:Nat}{l:List HT}(row:bI w B (some ⟨b,0,none⟩) n c l){k:Nat}(hk:k<n)(j:Nat)(hj:j<32):Wr w ((⟨b,k*32,none⟩:Addr).add j):=by
 rw [bg];refine Row.wr row ?_;rw [eQ,row.len];omega
theorem bI.cap{w:World}{B:Nat}{A:Option Addr}{n c:Nat}{l:List HT}(row:bI w B A n c l):n<=c:=by
 rcases Row.own row with⟨_,h1,h2,_⟩|⟨_,_,_,_,_,h1,_⟩<;>omega
theorem bI.cut{w w':World}{B n c b:Nat}{l:List HT}(row:bI w B (some ⟨b,0,none⟩) n c l){k:Nat}(hk:k<=n)(vs:List Value)(hv:vs.length=(n-k)*32)(hw:w'=setCells w ⟨b,k*32,none⟩ vs 0):
 bI w' B (some ⟨b,0,none⟩) k c (l.take k):=by
 subst hw;have hlen:=row.len;rcases Row.own row with⟨h,_⟩|⟨b',cur,hA,hB,hg,FD,mV,mM,yO⟩
 ·cases h
 ·cases hA
  have hle:n*32<=c*32:=Nat.mul_le_mul_right _ FD;have lO:k*32+0+vs.length<=cur.size:=by omega
  have h1:=kj vs cur w ai (k*32) 0 hg lO;refine⟨by rw [eQ,List.length_take];omega,.inr ⟨b,c,_,rfl,hB,h1,by omega,mV,?_,?_⟩⟩
  ·have:=lX (xs:=cur.toList) (k:=k*32+0) (vs:=vs) (by simpa using lO)
   rw [List.size_toArray,this];simpa using mM
  ·have e1:(cX (l.take k)).length=k*32:=by rw [eQ,List.length_take];omega
   have e2:(cX l).take (k*32)=cX (l.take k):=by
    conv=>lhs;rw [<-List.take_append_drop k l,mo]
    rw [<-e1,List.take_left'];rfl
   rw [<-e2,<-yO,List.take_take,Nat.min_eq_left (by omega)];unfold gK;simp only [Nat.add_zero];rw [List.append_assoc,List.take_append_of_le_length (by simp;omega),List.take_take,Nat.min_self]
def C7(P:Program)(e:TypeId):Bool:=
 match P.info? e with
 |some i=>match i.zero with
  |some z=>z.cells.toList.all fun v=>v.oneCell'
  |none=>false
 |none=>false
theorem uA{w:World}{B n c b:Nat}{l:List HT}(row:bI w B (some ⟨b,0,none⟩) n c l){k:Nat}(hk:k<=n)(ty:Nat){A:Option Addr}{cx:Nat}(hA:k<n->A=some ⟨b,k*32,none⟩):
 ∃w',(Builtin.clear_ #[aC] ty #[.slice A (n-k) cx]).run prog w=.ok (.tuple #[]) w'/\bI w' B (some ⟨b,0,none⟩) k c (l.take k)/\Kept (· =b) w w':=by
 have hlen:=row.len;by_cases wk:k<n
 ·obtain⟨i,z,hi,hz,hs,_,DJ⟩:=oY.inf
  have K5:C7 prog ai=true:=by kernel_rfl
  unfold C7 at K5;rw [hi]at K5;simp only [hz,List.all_eq_true]at K5;rw [hA wk];obtain⟨m,hm⟩:∃m,n-k=m+1:=⟨n-k-1,by omega⟩;have Xs:(Builtin.zeroCells z.cells (n-k)).toList.length=(n-k)*32:=by simp [Builtin.zeroCells,DJ]
  have qf:=iC (P:=prog) ⟨b,k*32,none⟩ (Builtin.zeroCells z.cells (n-k)).toList 0 w (fun v hv=>by
   simp only [Builtin.zeroCells,Array.toList_map,List.mem_map]at hv;obtain⟨t,ht,rfl⟩:=hv;have:t%z.cells.size<z.cells.size:=Nat.mod_lt _ (by omega);rw [getElem!_pos z.cells _ this];exact K5 _ (by simp)) (fun j hj=>by
   rw [Nat.zero_add,bg];refine Row.wr row ?_;rw [eQ];omega)
  refine⟨_,?_,row.cut hk _ Xs rfl,eZ _ _ _ _⟩;simp only [Builtin.clear_,hm];rw [hm]at qf;simp [run_underlying oY.oS,zeroValue,typeInfo,hi,hz,qf]
 ·have:n=k:=by omega
  subst this;refine⟨w,?_,by rw [List.take_of_length_le (by omega)];exact row,Kept.refl _ _⟩;rw [Nat.sub_self];cases A<;>simp [Builtin.clear_,run_underlying oY.oS]
theorem EA:∀ {l:List HT},l.length<2->di l=l
 | [],_=>rfl
 | [_],_=>rfl
 |_::_::_,h=>by simp only [List.length_cons]at h;omega
section
variable{w:World}{B n c:Nat}{A:Option Addr}{l:List HT}{K:Value->World->Prop}
theorem CI(row:bI w B A n c l)(hle:LE l)(hn:n<=400000)
 (hK:∀A' c' w',bI w' B A' (di l).length c' (di l)->(∀k,a8 A'=some k->a8 A=some k)->Kept (fun k=>a8 A=some k) w w'->K (.slice A' (di l).length c') w'):
 bk prog aj.id #[.slice A n c] w K:=by
 have hlen:=row.len;refine aj.of ?_;refine Split.dec (fun h2=>?_) (fun h2=>?_)
 ·have e:di l=l:=EA (by omega)
  have:=hK A c w (by rw [e,hlen];exact row) (fun k h=>h) (Kept.refl _ _);rw [e,hlen]at this;exact this
 obtain⟨b,rfl⟩:=Row.some row (by omega);have yo:=row.cap;refine aj.b9 (I:=fun s w'=>∃k:Nat,s=(none,0,0,(k:Int))/\1<=k/\k<=n/\SS (l.take k)/\Kept Nil w w') (μ:=fun s _=>((n:Int)-s.2.2.2).toNat) (s:=(none,0,0,1))
  ⟨1,rfl,Nat.le_refl _,by omega,?_,Kept.refl _ _⟩ ?_
 ·cases l with
  |nil=>exact List.Pairwise.nil
  |cons x l=>simp [SS]
 rintro s w' ⟨k,rfl,JF,wk,ue,kw⟩;refine Split.dec (fun jx=>?_) (fun gu=>?_)
 ·simp only at jx
  have Bj:k<n:=by omega
  obtain⟨x,hx⟩:∃x,l[k]? =some x:=⟨_,List.getElem?_eq_getElem (by omega)⟩;obtain⟨y,hy⟩:∃y,l[k-1]? =some y:=⟨_,List.getElem?_eq_getElem (by omega)⟩;intro w5;have k5:Kept Nil w w5:=kw.drew;clear_value w5;have iY:bI w5 B (some ⟨b,0,none⟩) n c l:=Row.aG row k5 (fun _ _ h=>h);simp only;rw [wrapM (n:=(k:Int)) (by omega) (by omega)];have oJ:cJ x y=false:=hle.get (by omega) hy hx;refine iY.hs.load (i:=(k:Int)) (by omega) hx (iY.hs.load (i:=(k:Int)-1) (by omega) (by rw [show((k:Int)-1).toNat=k-1 by omega];exact hy) ⟨⟨x.2.ints,y.2.ints⟩,?_⟩);rw [dH];refine Split.dec (fun he=>?_) (fun he=>?_)
  ·refine⟨⟨by omega,by omega⟩,?_⟩
   rw [Int.toNat_natCast];rw [if_neg (show ¬c=k by omega)];simp only [Option.map_some,bg,Nat.zero_add];refine aj.gC (I:=fun s w'=>∃(p j:Nat) (l':List HT),s=((p:Int),(j:Int))/\1<=j/\k<=p/\p<k+j/\k+j<=n/\bI w' B (some ⟨b,0,none⟩) n c l'/\l'.drop (k+j-1)=l.drop (k+j-1)/\SS (l'.take p)/\(∀z,z∈l'.take p↔z∈l.take (k+j))/\Kept (· =b) w w')
    (μ:=fun s _=>((n:Int)-s.2).toNat) (s:=((k:Int),1)) ⟨k,1,l,rfl,Nat.le_refl _,Nat.le_refl _,by omega,by omega,iY,rfl,ue,fun z=>?_,k5.mono fun _ _ h=>h.elim⟩ ?_
   ·rw [bJ hx]
    constructor
    ·exact .inl
    ·rintro(h|rfl)
     ·exact h
     ·rw [he]
      have:=bJ (z:=y) hy;rw [show k-1+1=k by omega]at this;exact this.2 (.inr rfl)
   rintro s w1 ⟨p,j,l',rfl,hj1,UO,hpj,hjn,lK,Vl,yi,MV,k1⟩;have DT:=lK.len;refine Split.dec (fun PS=>?_) (fun P1=>?_)
   ·simp only at PS
    have tn:k+j<n:=by omega
    obtain⟨u,hu⟩:∃u,l[k+j]? =some u:=⟨_,List.getElem?_eq_getElem (by omega)⟩;obtain⟨v,hv⟩:∃v,l[k+j-1]? =some v:=⟨_,List.getElem?_eq_getElem (by omega)⟩;have H4:l'[k+j]? =some u:=by
     have h:=congrArg (fun m:List HT=>m[1]?) Vl;simp only [List.getElem?_drop]at h;rw [show k+j-1+1=k+j by omega]at h;rw [h,hu]
    have ZW:l'[k+j-1]? =some v:=by
     have h:=congrArg (fun m:List HT=>m[0]?) Vl;simp only [List.getElem?_drop,Nat.add_zero]at h;rw [h,hv]
    intro rV;have Fs:Kept (· =b) w rV:=k1.drew;have kl:bI rV B (some ⟨b,0,none⟩) n c l':=Row.aG lK ((Kept.refl Nil w1).drew) (fun _ _ h=>h);clear_value rV;have vh:HS rV (some ⟨b,k*32,none⟩) (n-k) (l'.drop k):=by
     have h:=kl.hs.drop (c:=c) yo (k:=k) (by omega);rw [if_neg (show ¬c=k by omega)]at h;simpa [bg]using h
    have hsu:(l'.drop k)[(j:Int).toNat]? =some u:=by rw [Int.toNat_natCast,List.getElem?_drop];exact H4
    have Ph:(l'.drop k)[((j:Int)-1).toNat]? =some v:=by
     rw [show((j:Int)-1).toNat=j-1 by omega,List.getElem?_drop,show k+(j-1)=k+j-1 by omega];exact ZW
    simp-zeta only;rw [wrapM (n:=(j:Int)) (by omega) (by omega)];have huv:cJ u v=false:=hle.get (by omega) hv hu;refine vh.load (i:=(j:Int)) (by omega) hsu (vh.load (i:=(j:Int)-1) (by omega) Ph ⟨⟨u.2.ints,v.2.ints⟩,?_⟩);rw [dH,dt (n:=(j:Int)) (by omega) (by omega)];have hmu:∀z,z∈l.take (k+(j+1))↔z∈l'.take p\/z=u:=fun z=>by
     rw [show k+(j+1)=k+j+1 by omega,bJ hu,MV z]
    by_cases heq:u=v
    ·refine Split.no (by rw [decide_eq_true heq];rfl) ?_
     refine⟨((p:Int),(j:Int)+1),rfl,⟨p,j+1,l',rfl,by omega,UO,by omega,by omega,kl,?_,yi,fun z=>?_,Fs⟩,by simp only;omega⟩
     ·have h:=congrArg (fun m:List HT=>m.drop 1) Vl
      simp only [List.drop_drop]at h;rw [show k+(j+1)-1=k+j-1+1 by omega];exact h
     ·rw [hmu z]
      constructor
      ·exact .inl
      ·rintro(h|rfl)
       ·exact h
       ·refine(MV _).2 ?_
        rw [heq];exact List.mem_of_getElem? (i:=k+j-1) (by rw [List.getElem?_take,if_pos (by omega)];exact hv)
    ·refine Split.yes (by rw [decide_eq_false heq];rfl) ?_
     refine vh.load (i:=(j:Int)) (by omega) hsu ⟨⟨by omega,by omega⟩,⟨u.2.1,u.2.one,fun i hi=>?_⟩,?_⟩
     ·rw [Int.toNat_natCast,bg,Nat.zero_add]
      exact kl.GB (by omega) i hi
     intro Gm;have TD:Gm=setCells rV ⟨b,p*32,none⟩ u.1.toList 0:=by
      show setCells rV ((⟨b,0,none⟩:Addr).add ((p:Int).toNat*32)) u.1.toList 0=_
      rw [Int.toNat_natCast,bg,Nat.zero_add]
     have Si:bI Gm B (some ⟨b,0,none⟩) n c (l'.set p u):=by rw [TD];exact kl.setAt (by omega) u
     have HE:Kept (· =b) w Gm:=by rw [TD];exact Fs.tt (eZ _ _ _ _)
     clear_value Gm;rw [dt (n:=(p:Int)) (by omega) (by omega)];have yO:(l'.set p u).take (p+1)=l'.take p++ [u]:=by
      rw [List.take_add_one,List.take_set_of_le (Nat.le_refl p),List.getElem?_set_self (by omega)];rfl
     refine⟨((p:Int)+1,(j:Int)+1),rfl,⟨p+1,j+1,l'.set p u,rfl,by omega,by omega,by omega,by omega,Si,?_,?_,fun z=>?_,HE⟩,by simp only;omega⟩
     ·have h:=congrArg (fun m:List HT=>m.drop 1) Vl
      simp only [List.drop_drop]at h;rw [List.drop_set,if_pos (by omega),show k+(j+1)-1=k+j-1+1 by omega];exact h
     ·rw [yO]
      refine Ef yi fun z hz=>?_;obtain⟨i,hi⟩:=List.mem_iff_getElem?.1 ((MV z).1 hz);rw [List.getElem?_take]at hi;split at hi
      ·rename_i hik
       have hvu:cJ v u=true:=lt_of_le_ne huv (fun e=>heq e.symm);by_cases e:i=k+j-1
       ·subst e;rw [hv]at hi;cases hi;exact hvu
       ·exact th (hle.get (by omega) hi hv) hvu
      ·cases hi
     ·rw [yO,hmu z]
      simp
   ·simp only at P1
    have hj:k+j=n:=by omega
    rw [aO,aj.jA];unfold aj.ik;refine⟨⟨by omega,by omega⟩,?_⟩;rw [Int.toNat_natCast];obtain⟨w2,hr,fW,k2⟩:=uA lK (k:=p) (by omega) 0 (A:=if c=p then some ⟨b,0,none⟩else(some ⟨b,0,none⟩:Option Addr).map (·.add (p*32))) (cx:=c-p) (fun hp=>by
     rw [if_neg (by omega)];simp [bg])
    refine⟨_,w2,hr,⟨by omega,by omega⟩,?_⟩;have e:l'.take p=di l:=xP yi fun z=>by rw [MV z,hj,List.take_of_length_le (by omega)]
    have el:p=(di l).length:=by
     have h:=fW.len;rw [e]at h;exact h.symm
    have e0:(if c=0 then(some ⟨b,0,none⟩:Option Addr)else(some ⟨b,0,none⟩:Option Addr).map (·.add (0*32)))=some ⟨b,0,none⟩:=by
     rw [if_neg (by omega)];simp [add_zero]
    rw [e0,Nat.sub_zero,Nat.sub_zero];rw [e,el]at fW;have:=hK (some ⟨b,0,none⟩) c w2 fW (fun k h=>h) ((k1.tt k2).mono fun i _ h=>by rw [h];rfl);rw [<-el]at this;exact this
  ·rw [dt (n:=(k:Int)) (by omega) (by omega)]
   refine⟨(none,0,0,(k:Int)+1),rfl,⟨k+1,rfl,by omega,by omega,?_,k5⟩,by simp only;omega⟩;rw [List.take_add_one,hx];refine Ef ue fun z hz=>?_;have DK:cJ y x=true:=lt_of_le_ne oJ (fun e=>he e.symm);obtain⟨i,hi⟩:=List.mem_iff_getElem?.1 hz;rw [List.getElem?_take]at hi;split at hi
   ·by_cases e:i=k-1
    ·subst e;rw [hy]at hi;cases hi;exact DK
    ·exact th (hle.get (by omega) hi hy) DK
   ·cases hi
 ·simp only at gu
  have e:k=n:=by omega
  subst e;rw [aO,aj.df];rw [List.take_of_length_le (by omega)]at ue;have e:di l=l:=zg ue;have:=hK (some ⟨b,0,none⟩) c w' (by rw [e,hlen];exact Row.aG row kw (fun _ _ h=>h)) (fun k h=>h) (kw.mono fun _ _ h=>h.elim);rw [e,hlen]at this;exact this
theorem iN(hl:HS w A n l)(hn:n<=400000)
 (hK:∀A' c' w',bI w' w.heap.size A' (di l).length c' (di l)->Kept Nil w w'->K (.slice A' (di l).length c') w'):
 bk prog jg.id #[.slice A n c] w K:=by
 have hlen:=hl.len;refine jg.of ?_;refine dq.of ?_;unfold dq.W;intro w2;have k2:Kept Nil w w2:=(Kept.refl _ _).alloc _;have lh:w2.heap[w.heap.size]? =some (.cells #[.slice A n c] aC (0,0)):=aI w _;clear_value w2;refine⟨_,rfl,?_⟩;refine dm.of ?_;refine vF (xs:=l) aE.at_ (by rfl) (y7 (l:=l) ⟨w.heap.size,0,none⟩ (A:=A) (n:=n) (c:=c) (by omega)) (fun w' hk=>⟨(hl.same k2).same hk,by rw [aA (hk.heap lh (fun h=>h))];rfl⟩) (by omega) ?_;intro A4 c4 w4 iE k4;refine⟨A4,_,c4,rfl,?_⟩;refine J0 iE (by omega) fun l5 w5 hle iI iY k5=>⟨rfl,?_⟩;refine⟨A4,_,c4,rfl,?_⟩;refine CI iY hle (by omega) fun A6 c6 w6 BI qh k6=>⟨A6,_,c6,rfl,?_⟩;have e:di l5=di l:=xQ iI;rw [e]at BI⊢;have QE:∀k,a8 A4=some k->w.heap.size<=k:=fun k hk=>Nat.le_trans k2.size (Row.bE iE hk).1;refine hK A6 c6 w6 (Row.base BI fun k hk=>QE k (qh k hk)) ?_;exact((k2.tt k4).trans k5 (fun k hk h=>absurd (QE k h) (by omega))).trans k6 (fun k hk h=>absurd (QE k h) (by omega))
end
theorem jJ{x:Nat}(h:x<18446744073709551616):u64.wrap (x:Int)=(x:Int):=by
 simp only [IntKind.wrap,IntKind.bits,IntKind.signed];simp;omega
theorem orU{x y:Nat}(hx:x<18446744073709551616)(hy:y<18446744073709551616):
 u64.wrap ((BitVec.ofInt 64 (x:Int)|||BitVec.ofInt 64 (y:Int)).toNat:Int)=((x|||y:Nat):Int):=by
 have h:(BitVec.ofInt 64 (x:Int)|||BitVec.ofInt 64 (y:Int)).toNat=x|||y:=by
  rw [BitVec.ofInt_natCast,BitVec.ofInt_natCast,BitVec.toNat_or,BitVec.toNat_ofNat,BitVec.toNat_ofNat,Nat.mod_eq_of_lt (by omega),Nat.mod_eq_of_lt (by omega)]
 rw [h];exact jJ (Nat.or_lt_two_pow (n:=64) hx hy)
theorem acZ{x y:Nat}(hx:x<18446744073709551616)(hy:y<18446744073709551616):
 u64.wrap ((BitVec.ofInt 64 (x:Int)&&& BitVec.ofInt 64 (y:Int)).toNat:Int)=((x&&& y:Nat):Int):=by
 have h:(BitVec.ofInt 64 (x:Int)&&& BitVec.ofInt 64 (y:Int)).toNat=x&&& y:=by
  rw [BitVec.ofInt_natCast,BitVec.ofInt_natCast,BitVec.toNat_and,BitVec.toNat_ofNat,BitVec.toNat_ofNat,Nat.mod_eq_of_lt (by omega),Nat.mod_eq_of_lt (by omega)]
 rw [h];exact jJ (Nat.lt_of_le_of_lt Nat.and_le_left hx)
theorem YV{i:Nat}(hi:i<64):u64.wrap ((1:Int)*2 ^ (min i 64))=((2 ^ i:Nat):Int):=by
 rw [Nat.min_eq_left (by omega),Int.one_mul];have h:2 ^ i<18446744073709551616:=Nat.pow_lt_pow_right (by omega) (n:=64) hi;have:=jJ h;rw [<-this];simp
def bit(ws:List Nat)(i:Nat):Bool:=(ws.getD (i/64) 0).testBit (i%64)
def okW(ws:List Nat):Prop:=∀x∈ws,x<18446744073709551616
theorem yA(i:Nat):bit [] i=false:=by simp [bit]
theorem AQ(ws:List Nat)(i:Nat):bit (ws++ [0]) i=bit ws i:=by
 unfold bit
 congr 1
 simp only [List.getD_eq_getElem?_getD,List.getElem?_append];split
 ·rfl
 ·rename_i h
  rw [List.getElem?_eq_none (l:=ws) (by omega)];cases i/64-ws.length<;>simp
theorem Ec{ws:List Nat}{q:Nat}(hq:q<ws.length)(v i:Nat):bit (ws.set q v) i=if i/64=q then v.testBit (i%64)else bit ws i:=by
 unfold bit;simp only [List.getD_eq_getElem?_getD,List.getElem?_set];by_cases h:i/64=q
 ·subst h;simp [hq]
 ·rw [if_neg (fun e=>h e.symm),if_neg h]
theorem Dr{ws:List Nat}(h:okW ws){x:Nat}(hx:x<18446744073709551616):okW (ws++ [x]):=fun y hy=>by
 rw [List.mem_append,List.mem_singleton]at hy;rcases hy with hy|rfl
 ·exact h y hy
 ·exact hx
theorem Dq{ws:List Nat}(h:okW ws){x:Nat}(hx:x<18446744073709551616)(q:Nat):okW (ws.set q x):=fun y hy=>by
 rcases List.mem_or_eq_of_mem_set hy with hy|rfl
 ·exact h y hy
 ·exact hx
def us(l:List Nat):List Value:=l.map fun x:Nat=>.int .u64 (x:Int)
theorem oU(l:List Nat):(us l).length=l.length:=by simp [us]
theorem oV{l:List Nat}{j x:Nat}(h:l[j]? =some x):(us l)[j]? =some (.int .u64 (x:Int)):=by simp [us,h]
theorem xM(l:List Nat)(q v:Nat):(us l).set q (.int .u64 (v:Int))=us (l.set q v):=by simp [us,List.map_set]
theorem NQ(l m:List Nat):us (l++m)=us l++us m:=by simp [us]
structure US(w:World)(A:Option Addr)(n:Nat)(l:List Nat):Prop where
 len:l.length=n
 at_:∀(i x:Nat),l[i]? =some x->∃a,A=some a/\a.block<w.heap.size/\w.cell? (a.add i)=some (.int .u64 (x:Int))
theorem US.aG{S:Nat->Prop}{w w':World}{A:Option Addr}{n:Nat}{l:List Nat}(h:US w A n l)(hk:Kept S w w')(hn:∀a,A=some a->¬S a.block):US w' A n l:=⟨h.len,fun i x hi=>by
 obtain⟨a,h1,h2,h3⟩:=h.at_ i x hi;exact⟨a,h1,Nat.lt_of_lt_of_le h2 hk.size,hk.cell h3 (by rw [eR];exact hn a h1)⟩⟩
theorem US.load{w:World}{A:Option Addr}{n:Nat}{l:List Nat}(hl:US w A n l){i:Int}{x:Nat}(h0:0<=i)(hx:l[i.toNat]? =some x){k:Int->Prop}(hk:k x):
 (0<=i/\i<(n:Int))/\Is A fun a=>∃t:Int,w.cell? (a.add (i.toNat*1))=some (.int .u64 t)/\k t:=by
 obtain⟨a,rfl,_,hc⟩:=hl.at_ _ x hx;have:=(lgeS hx).1;have:=hl.len;exact⟨⟨h0,by omega⟩,x,by rw [Nat.mul_one];exact hc,hk⟩
theorem NZ:yU prog kW iL 1 8:=⟨by kernel_rfl,by kernel_rfl⟩
abbrev kK(w:World)(B:Nat)(A:Option Addr)(n c:Nat)(l:List Nat):Prop:=Row w B iL 1 A n c (us l)
section
variable{w w':World}{B n c:Nat}{A:Option Addr}{l:List Nat}
theorem kK.len(h:kK w B A n c l):l.length=n:=by have:=Row.len h;rw [oU]at this;omega
theorem kK.us(h:kK w B A n c l):US w A n l:=⟨h.len,fun i x hi=>by
 have hlen:=h.len;have:=(lgeS hi).1;obtain⟨b,rfl⟩:=Row.some h (by omega);obtain⟨_,cur,kR⟩:=Row.bE h (k:=b) rfl;exact⟨_,rfl,aT kR,by rw [bg,Nat.zero_add];exact Row.cell h (oV hi)⟩⟩
theorem GY(i:Nat):((i:Int).tdiv 64)=((i/64:Nat):Int):=by
 rw [Int.tdiv_eq_ediv_of_nonneg (by omega)];omega
theorem NW(i:Nat):((i:Int).tmod 64)=((i%64:Nat):Int):=by
 rw [Int.tmod_eq_emod_of_nonneg (by omega)];omega
theorem tB(h:kK w B A n c l)(hn:n<=1000000)(hB:B<=w.heap.size){t:Nat}(x:Nat):
 ∃A' c' w',(Builtin.append_ #[kW,kW] kW #[.slice A n c,.slice (some ⟨w.heap.size,0,none⟩) 1 1]).run prog (w.alloc (.cells #[.int .u64 (x:Int)] t))=.ok (.slice A' (n+1) c') w'/\
  kK w' B A' (n+1) c' (l++ [x])/\Kept (fun k=>a8 A=some k) w w'/\(∀k,a8 A'=some k->a8 A=some k\/w.heap.size<=k):=by
 have k1:Kept Nil w (w.alloc (.cells #[.int .u64 (x:Int)] t)):=(Kept.refl _ _).alloc _;have hb:=aI w (.cells #[.int .u64 (x:Int)] t);have h1:kK (w.alloc (.cells #[.int .u64 (x:Int)] t)) B A n c l:=Row.aG h k1 (fun _ _ h=>h);obtain⟨A',c',w',hr,fk,hg,wq⟩:=fE (P:=prog) (t:=kW) (ty:=kW) (bytes:=8) NZ h1 (a:=⟨w.heap.size,0,none⟩) (m:=1) (cx:=1) (news:=us [x]) rfl
  (fun j u hj=>by rw [bg,Nat.zero_add,aA hb];simpa [us]using hj) (fun u hu=>by simp [us]at hu;subst hu;rfl) (by omega) (by unfold maxLen;omega) (by have:=k1.size;omega)
 refine⟨A',c',w',hr,?_,?_,fun k hk=>?_⟩
 ·show Row w' B iL 1 A' (n+1) c' (Proofs.YtfleamccglihoaaGreatDoor.us (l++ [x]))
  rw [NQ];exact fk
 ·exact(k1.mono (S':=fun k=>a8 A=some k) (fun _ _ h=>h.elim)).tt (Kept.grown (S:=fun k=>a8 A=some k) (Kept.refl _ _) hg (fun k hk _=>hk))
 ·rcases wq k hk with h|h
  ·exact .inl h
  ·have:=k1.size;exact .inr (by omega)
theorem zj{b:Nat}(h:kK w B (some ⟨b,0,none⟩) n c l){q:Nat}(hq:q<n)(x:Nat):
 kK (w.setCell ⟨b,q,none⟩ (.int .u64 (x:Int))) B (some ⟨b,0,none⟩) n c (l.set q x):=by
 have:=Row.set h (j:=q) (by rw [oU,h.len];exact hq) (.int .u64 (x:Int));rw [xM]at this;exact this
theorem zp{K:Value->World->Prop}(h:kK w B A n c l)(ho:okW l)(hn:n<=100000)(hB:B<=w.heap.size){i:Nat}(hi:i<=1000000)
 (hK:∀A' n' c' l' w',kK w' B A' n' c' l'->okW l'->(n'<=n\/n'<=i/64+1)->(∀j,bit l' j=(bit l j||decide (j=i)))->Kept (fun k=>a8 A=some k) w w'->(∀k,a8 A'=some k->a8 A=some k\/w.heap.size<=k)->K (.slice A' n' c') w'):
 bk prog bK.id #[.slice A n c,.int .i64 (i:Int)] w K:=by
 refine bK.of ?_;refine bK.b9 (I:=fun s w'=>∃A' n' c' l',s=(A',n',c')/\kK w' B A' n' c' l'/\okW l'/\(n'<=n\/n'<=i/64+1)/\(∀j,bit l' j=bit l j)/\Kept (fun k=>a8 A=some k) w w'/\(∀k,a8 A'=some k->a8 A=some k\/w.heap.size<=k))
  (μ:=fun s _=>i/64+1-s.2.1) (s:=(A,n,c)) ⟨A,n,c,l,rfl,h,ho,.inl (Nat.le_refl _),fun _=>rfl,Kept.refl _ _,fun k hk=>.inl hk⟩ ?_
 rintro s w' ⟨A',n',c',l',rfl,row,JE,Uy,qg,kw,hb⟩;unfold bK.B1;rw [GY,gN (by omega) (by omega)];refine⟨by omega,?_⟩;refine Split.dec (fun hle=>?_) (fun xp=>?_)
 ·simp only at hle
  have aiJ:n'<=i/64:=by omega
  obtain⟨A2,c2,w2,hr,fW,k2,lh⟩:=tB row (by omega) (Nat.le_trans hB kw.size) (t:=iL) 0;intro w6;refine⟨A2,n'+1,c2,w2,hr,?_⟩;refine⟨(A2,n'+1,c2),rfl,⟨A2,n'+1,c2,l'++ [0],rfl,fW,Dr JE (by omega),by omega,fun j=>by rw [AQ,qg],?_,fun k hk=>?_⟩,by simp only;omega⟩
  ·exact kw.trans k2 (fun k hk e=>by
    rcases hb k e with h|h
    ·exact h
    ·omega)
  ·rcases lh k hk with h|h
   ·exact hb k h
   ·exact .inr (Nat.le_trans kw.size h)
 ·simp only at xp
  have dP:i/64<n':=by omega
  rw [aO,bK.df];unfold bK.cH;intro lR;have vf:Kept Nil w' lR:=(Kept.refl _ _).drew;have Vl:lR=w'.drew:=rfl;clear_value lR;have q9:kK lR B A' n' c' l':=Row.aG row vf (fun _ _ h=>h);have hlen:=row.len;rw [GY,NW,gN (by omega) (by omega)];obtain⟨b,rfl⟩:=Row.some q9 (by omega);obtain⟨x,hx⟩:∃x,l'[i/64]? =some x:=⟨_,List.getElem?_eq_getElem (by omega)⟩;refine⟨by omega,q9.us.load (by omega) (by rw [Int.toNat_natCast];exact hx) ⟨by omega,by omega,⟨⟨by omega,by simp only;omega⟩,?_⟩⟩⟩;have tK:=JE x (List.mem_of_getElem? hx);have hp:2 ^ (i%64)<18446744073709551616:=Nat.pow_lt_pow_right (by omega) (n:=64) (Nat.mod_lt _ (by omega));simp only [Is,Int.toNat_natCast,Nat.mul_one,bg,Nat.zero_add];rw [YV (Nat.mod_lt _ (by omega)),orU tK hp];refine⟨Row.wr q9 (by rw [oU,hlen];exact dP),?_⟩;have qd:Kept (fun k=>a8 A=some k) w (lR.setCell ⟨b,i/64,none⟩ (.int .u64 ((x|||2 ^ (i%64):Nat):Int))):=
   Kept.setCell (kw.trans vf (fun _ _ h=>h.elim)) (p:=⟨b,i/64,none⟩) (fun cJ=>by
    rcases hb b rfl with h|h
    ·exact h
    ·exact absurd cJ (by simp only;omega)) _
  refine hK _ _ _ _ _ (zj q9 dP _) (Dq JE (Nat.or_lt_two_pow (n:=64) tK hp) _) Uy (fun j=>?_) qd hb;rw [Ec (by omega),qg];have hbi:bit l' i=x.testBit (i%64):=by unfold bit;rw [List.getD_eq_getElem?_getD,hx];rfl
  by_cases e:j/64=i/64
  ·rw [if_pos e,Nat.testBit_or,Nat.testBit_two_pow]
   have hbj:bit l' j=x.testBit (j%64):=by unfold bit;rw [e,List.getD_eq_getElem?_getD,hx];rfl
   rw [<-hbj,qg]
   congr 1
   exact decide_eq_decide.2 ⟨fun h=>by omega,fun h=>by rw [h]⟩
  ·rw [if_neg e,decide_eq_false (fun h=>e (by rw [h]))]
   simp
end
section
variable{w w':World}{B n c:Nat}{A:Option Addr}{l:List Nat}
theorem wP{K:Value->World->Prop}(h:kK w B A n c l)(ho:okW l)(hn:n<=100000)(hB:B<=w.heap.size){A2:Option Addr}{n2 c2:Nat}{v:List Nat}(hv:US w A2 n2 v)(ZW:okW v)(XC:n2<=100000)
 (VZ:∀a,A2=some a->∀k,a8 A=some k->a.block≠k)
 (hK:∀A' n' c' l' w',kK w' B A' n' c' l'->okW l'->(n'<=n\/n'<=n2)->(∀j,bit l' j=(bit l j||bit v j))->Kept (fun k=>a8 A=some k) w w'->(∀k,a8 A'=some k->a8 A=some k\/w.heap.size<=k)->K (.slice A' n' c') w'):
 bk prog cf.id #[.slice A n c,.slice A2 n2 c2] w K:=by
 have aew:=hv.len;refine cf.of ?_;refine cf.b9 (I:=fun s w'=>∃(i:Nat) (A':Option Addr) (n' c':Nat) (l':List Nat),s=(A',n',c',(i:Int))/\i<=n2/\kK w' B A' n' c' l'/\okW l'/\i<=n'/\n<=n'/\(n'<=n\/n'<=i)/\(∀j,bit l' j=(bit l j||(decide (j/64<i)&&bit v j)))/\Kept (fun k=>a8 A=some k) w w'/\(∀k,a8 A'=some k->a8 A=some k\/w.heap.size<=k))
  (μ:=fun s _=>((n2:Int)-s.2.2.2).toNat) (s:=(A,n,c,0)) ⟨0,A,n,c,l,rfl,Nat.zero_le _,h,ho,Nat.zero_le _,Nat.le_refl _,.inl (Nat.le_refl _),by simp,Kept.refl _ _,fun k hk=>.inl hk⟩ ?_
 rintro s w' ⟨i,A',n',c',l',rfl,hi,row,JE,fC,Uq,Pz,qg,kw,hb⟩;have DT:=row.len;refine Split.dec (fun jx=>?_) (fun gu=>?_)
 ·simp only at jx
  have dP:i<n2:=by omega
  obtain⟨x,hx⟩:∃x,v[i]? =some x:=⟨_,List.getElem?_eq_getElem (by omega)⟩;have tK:=ZW x (List.mem_of_getElem? hx);have hvw:US w' A2 n2 v:=hv.aG kw (fun a ha e=>VZ a ha _ e rfl);refine hvw.load (i:=(i:Int)) (by omega) hx ?_;have step:∀(A2:Option Addr) (n3 c3:Nat) (l3:List Nat) (w3:World),kK w3 B A2 n3 c3 l3->okW l3->i<n3->n<=n3->(n3<=n\/n3<=i+1)->(∀j,bit l3 j=(bit l j||(decide (j/64<i)&&bit v j)))->Kept (fun k=>a8 A=some k) w w3->(∀k,a8 A2=some k->a8 A=some k\/w.heap.size<=k)->
   (0<=(i:Int)/\(i:Int)<(n3:Int))/\Is A2 fun a=>∃t:Int,w3.cell? (a.add ((i:Int).toNat*1))=some (.int .u64 t)/\(0<=(i:Int)/\(i:Int)<(n3:Int))/\Is A2 fun a'=>Wr w3 (a'.add ((i:Int).toNat*1))/\
     ∃(l4:List Nat),
     kK (w3.setCell (a'.add ((i:Int).toNat*1)) (.int .u64 (u64.wrap ((BitVec.ofInt 64 t|||BitVec.ofInt 64 (x:Int)).toNat)))) B A2 n3 c3 l4/\okW l4/\(∀j,bit l4 j=(bit l j||(decide (j/64<i+1)&&bit v j)))/\Kept (fun k=>a8 A=some k) w (w3.setCell (a'.add ((i:Int).toNat*1)) (.int .u64 (u64.wrap ((BitVec.ofInt 64 t|||BitVec.ofInt 64 (x:Int)).toNat)))):=by
   intro A2 n3 c3 l3 w3 mQ ho3 hi3 hn3 aix Nb k3 nh;have aeY:=mQ.len;obtain⟨b,rfl⟩:=Row.some mQ (by omega);obtain⟨y,hy⟩:∃y,l3[i]? =some y:=⟨_,List.getElem?_eq_getElem (by omega)⟩;have hyl:=ho3 y (List.mem_of_getElem? hy);refine mQ.us.load (i:=(i:Int)) (by omega) hy ⟨⟨by omega,by omega⟩,?_⟩;simp only [Is,Int.toNat_natCast,Nat.mul_one,bg,Nat.zero_add];rw [orU hyl tK];refine⟨Row.wr mQ (by rw [oU];omega),l3.set i (y|||x),zj mQ hi3 _,Dq ho3 (Nat.or_lt_two_pow (n:=64) hyl tK) _,fun j=>?_,?_⟩
   ·rw [Ec (by omega),Nb]
    have D4:j/64=i->bit v j=x.testBit (j%64):=fun e=>by unfold bit;rw [e,List.getD_eq_getElem?_getD,hx];rfl
    have JI:j/64=i->bit l3 j=y.testBit (j%64):=fun e=>by unfold bit;rw [e,List.getD_eq_getElem?_getD,hy];rfl
    by_cases e:j/64=i
    ·rw [if_pos e,Nat.testBit_or,<-JI e,<-D4 e,Nb]
     rw [decide_eq_false (show ¬j/64<i by omega),decide_eq_true (show j/64<i+1 by omega)];simp
    ·rw [if_neg e]
     congr 2
     exact decide_eq_decide.2 (by omega)
   ·refine Kept.setCell k3 (p:=⟨b,i,none⟩) (fun cJ=>?_) _
    rcases nh b rfl with h|h
    ·exact h
    ·exact absurd cJ (by simp only;omega)
  by_cases he:i=n'
  ·refine Split.yes (by simp [he]) ?_
   obtain⟨Gz,yT,w2,hr,fW,k2,lh⟩:=tB row (by omega) (Nat.le_trans hB kw.size) (t:=iL) 0;intro w10;refine⟨Gz,n'+1,yT,w2,hr,?_⟩;have st:=step Gz (n'+1) yT (l'++ [0]) w2 fW (Dr JE (by omega)) (by omega) (by omega) (by omega) (fun j=>by rw [AQ,qg])
    (kw.trans k2 (fun k hk e=>by
      rcases hb k e with h|h
      ·exact h
      ·omega)) (fun k hk=>by
      rcases lh k hk with h|h
      ·exact hb k h
      ·exact .inr (Nat.le_trans kw.size h))
   clear step;obtain⟨s1,s2⟩:=st;refine⟨s1,?_⟩;cases Gz with
   |none=>exact s2.elim
   |some a=>
    obtain⟨t,s3,s4,s5,l4,s6,s7,s8,s9⟩:=s2;refine⟨t,s3,s4,s5,?_⟩;intro jw;simp only;rw [dt (n:=(i:Int)) (by omega) (by omega)];exact⟨(some a,n'+1,yT,(i:Int)+1),rfl,⟨i+1,some a,n'+1,yT,l4,rfl,dP,s6,s7,by omega,by omega,by omega,s8,s9,fun k hk=>by
     rcases lh k hk with h|h
     ·exact hb k h
     ·exact .inr (Nat.le_trans kw.size h)⟩,by simp only;omega⟩
  ·refine Split.no (beq_eq_false_iff_ne.2 (by simp only;omega)) ?_
   have st:=step A' n' c' l' w' row JE (by omega) Uq (by omega) qg kw hb;clear step;obtain⟨s1,s2⟩:=st;refine⟨s1,?_⟩;cases A' with
   |none=>exact s2.elim
   |some a=>
    obtain⟨t,s3,s4,s5,l4,s6,s7,s8,s9⟩:=s2;refine⟨t,s3,s4,s5,?_⟩;intro jw;simp only;rw [dt (n:=(i:Int)) (by omega) (by omega)];exact⟨(some a,n',c',(i:Int)+1),rfl,⟨i+1,some a,n',c',l4,rfl,dP,s6,s7,by omega,Uq,by omega,s8,s9,hb⟩,by simp only;omega⟩
 ·simp only at gu
  have:i=n2:=by omega
  subst this;rw [aO,cf.df];refine hK A' n' c' l' w' row JE (by omega) (fun j=>?_) kw hb;rw [qg]
  congr 1
  by_cases e:j/64<i
  ·rw [decide_eq_true e];simp
  ·rw [decide_eq_false e]
   unfold bit;rw [List.getD_eq_getElem?_getD,List.getElem?_eq_none (by omega)];simp
end
theorem AU:∀k m:Nat,(2 ^ k*(2*m+1))&&& (2 ^ k*(2*m+1)-1)=2 ^ (k+1)*m
 |0,m=>by
  apply Nat.eq_of_testBit_eq;intro i;rw [Nat.testBit_and];cases i with
  |zero=>simp [Nat.testBit_zero]
  |succ i=>
   simp only [Nat.testBit_succ];rw [show(2 ^ 0*(2*m+1))/2=m by omega,show(2 ^ 0*(2*m+1)-1)/2=m by omega,show 2 ^ (0+1)*m/2=m by omega];simp
 |k+1,m=>by
  have ih:=AU k m;have hp:0<2 ^ k*(2*m+1):=Nat.mul_pos (Nat.pow_pos (by omega)) (by omega);rw [show 2 ^ (k+1)*(2*m+1)=2*(2 ^ k*(2*m+1))by rw [Nat.pow_succ];ac_rfl,show 2 ^ (k+1+1)*m=2*(2 ^ (k+1)*m)by rw [Nat.pow_succ 2 (k+1)];ac_rfl];generalize 2 ^ k*(2*m+1)=x at ih hp⊢;rw [<-ih];apply Nat.eq_of_testBit_eq;intro i;rw [Nat.testBit_and];cases i with
  |zero=>simp [Nat.testBit_zero]
  |succ i=>
   simp only [Nat.testBit_succ];rw [show 2*x/2=x by omega,show(2*x-1)/2=x-1 by omega,show 2*(x&&& (x-1))/2=x&&& (x-1)by omega,Nat.testBit_and]
theorem Dt{x:Nat}(h0:x≠0)(hx:x<18446744073709551616):Lib.ctz 64 x<64/\x.testBit (Lib.ctz 64 x)=true/\∀t,(x&&& (x-1)).testBit t=(x.testBit t&&decide (t≠Lib.ctz 64 x)):=by
 obtain⟨m,h1,h2⟩:=Lib.ctzFrom_spec 64 x (by omega) hx;have e:Lib.ctz 64 x=Lib.ctzFrom 64 x:=by unfold Lib.ctz;rw [if_neg h0]
 rw [e];generalize Lib.ctzFrom 64 x=k at h1 h2⊢;have hand:x&&& (x-1)=2 ^ (k+1)*m:=by rw [h1];exact AU k m
 have hb:∀t,x.testBit t=(decide (t>=k)&&(2*m+1).testBit (t-k)):=fun t=>by rw [h1,Nat.testBit_two_pow_mul]
 refine⟨h2,by rw [hb];simp,fun t=>?_⟩;rw [hand,Nat.testBit_two_pow_mul,hb];by_cases ht:t=k
 ·subst ht
  simp;intro h;omega
 ·rw [decide_eq_true ht,Bool.and_true]
  by_cases hk:t>=k
  ·obtain⟨d,hd⟩:∃d,t-k=d+1:=⟨t-k-1,by omega⟩
   rw [decide_eq_true hk,decide_eq_true (show t>=k+1 by omega),hd,show t-(k+1)=d by omega,Nat.testBit_succ,show(2*m+1)/2=m by omega]
  ·rw [decide_eq_false hk,decide_eq_false (show ¬t>=k+1 by omega)]
   simp
theorem yE{x:Nat}(h0:x≠0):x&&& (x-1)<x:=Nat.lt_of_le_of_lt Nat.and_le_right (by omega)
def u7(x:Nat):List Nat:=if h:x=0 then []else Lib.ctz 64 x::u7 (x&&& (x-1))
termination_by x
decreasing_by exact yE h
theorem wY:u7 0= []:=by rw [u7];simp
theorem xc{x:Nat}(h0:x≠0):u7 x=Lib.ctz 64 x::u7 (x&&& (x-1)):=by rw [u7,dif_neg h0]
theorem wZ:∀(x:Nat),x<18446744073709551616->(∀t,t∈u7 x↔x.testBit t=true)/\(u7 x).Nodup/\∀t∈u7 x,t<64:=by
 intro x
 induction x using Nat.strongRecOn with
 |_ x ih=>
  intro hx;by_cases h0:x=0
  ·subst h0;rw [wY];simp
  ·obtain⟨h1,h2,h3⟩:=Dt h0 hx
   obtain⟨i1,i2,i3⟩:=ih _ (yE h0) (Nat.lt_trans (yE h0) hx);rw [xc h0];refine⟨fun t=>?_,?_,fun t ht=>?_⟩
   ·rw [List.mem_cons,i1,h3]
    by_cases e:t=Lib.ctz 64 x
    ·rw [e,h2];simp
    ·simp [e]
   ·rw [List.nodup_cons,i1,h3]
    exact⟨by simp,i2⟩
   ·rcases List.mem_cons.1 ht with rfl|ht
    ·exact h1
    ·exact i3 t ht
def pr:Nat->List Nat->List Nat
 |_,[]=> []
 |k,x::ws=>(u7 x).map (64*k+ ·)++pr (k+1) ws
theorem Ja(x:Nat)(ws:List Nat)(j:Nat):bit (x::ws) j=if j<64 then x.testBit j else bit ws (j-64):=by
 unfold bit;split
 ·rename_i h
  rw [show j/64=0 by omega,show j%64=j by omega];rfl
 ·rename_i h
  rw [show j/64=(j-64)/64+1 by omega,show j%64=(j-64)%64 by omega];rfl
theorem pB:∀(ws:List Nat) (k j:Nat),okW ws->(j∈pr k ws↔64*k<=j/\bit ws (j-64*k)=true)
 | [],k,j,_=>by simp [pr,bit]
 |x::ws,k,j,ho=>by
  obtain⟨h1,_,h3⟩:=wZ x (ho x (by simp));have ih:=pB ws (k+1) j (fun y hy=>ho y (by simp [hy]));rw [pr,List.mem_append,ih,Ja,List.mem_map];constructor
  ·rintro(⟨t,ht,rfl⟩|⟨h,hb⟩)
   ·have:=h3 t ht
    refine⟨by omega,?_⟩;rw [if_pos (by omega),show 64*k+t-64*k=t by omega];exact(h1 t).1 ht
   ·refine⟨by omega,?_⟩
    rw [if_neg (by omega),show j-64*k-64=j-64*(k+1)by omega];exact hb
  ·rintro⟨h,hb⟩
   split at hb
   ·exact .inl ⟨j-64*k,(h1 _).2 hb,by omega⟩
   ·refine .inr ⟨by omega,?_⟩
    rw [show j-64*(k+1)=j-64*k-64 by omega];exact hb
theorem uS:∀ {l m:List Nat},l.Nodup->(∀x∈l,x∈m)->l.length<=m.length
 | [],_,_,_=>Nat.zero_le _
 |x::l,m,hn,h=>by
  rw [List.nodup_cons]at hn;have hx:=h x (by simp);have:=uS (l:=l) (m:=m.erase x) hn.2 (fun y hy=>by
   have e9:y≠x:=fun e=>hn.1 (e▸hy);exact(List.mem_erase_of_ne e9).2 (h y (by simp [hy])))
  rw [List.length_erase_of_mem hx]at this;have jt:0<m.length:=List.length_pos_of_mem hx;simp only [List.length_cons];omega
def tT(w:World):Prop:=TabAt (Tryz.jK.g 1) Lib.deBruijn64tab w
theorem tT.aG{S:Nat->Prop}{w w':World}(h:tT w)(hk:Kept S w w')(hn:¬S (Tryz.jK.g 1)):tT w':=fun j hj=>hk.cell (h j hj) hn
theorem tT.same{w w':World}(h:tT w)(hk:Kept Nil w w'):tT w':=h.aG hk fun h=>h
theorem tT.lt{w:World}(h:tT w):Tryz.jK.g 1<w.heap.size:=World.block_lt_of_cell? w _ (h 0 (by decide))
section
variable{w:World}{K:Value->World->Prop}
theorem R4{x:Nat}(hx:x<18446744073709551616)(hT:tT w)(hK:K (.int .i64 (Lib.ctz 64 x:Nat)) w):bk prog bits_TrailingZeros64.id #[.int .u64 (x:Int)] w K:=by
 refine Calls.mono (Any7.bits_TrailingZeros64 Tryz.tzL x hx w (fun _=>hT)) ?_;rintro e w' ⟨rfl,rfl⟩;exact⟨_,rfl,hK⟩
abbrev encI(i:Nat):List Value:= [.int .i64 (i:Int)]
theorem Je(p:Addr){A:Option Addr}{n c:Nat}{l:List Nat}(hn:n<=100000)(ho:okW l):
 nJ prog aH.id #[] #[.pointer (some p)] ((pr 0 l).map encI) (fun w=>US w A n l/\w.cell? p=some (.slice A n c)/\tT w):=by
 intro y I D w0 hI hD mH h0 og;refine aH.of ?_;obtain⟨DU,K4,_⟩:=mH 0 w0 h0;have hlen:=DU.len;refine⟨A,n,c,K4,?_⟩;refine aH.b9 (I:=fun s w'=>∃(i:Nat) (dn:List Nat),s=(i:Int)/\i<=n/\dn++pr i (l.drop i)=pr 0 l/\I dn.length w') (μ:=fun s _=>((n:Int)-s).toNat) (s:=0) ⟨0,[],rfl,Nat.zero_le _,rfl,h0⟩ ?_;rintro s w' ⟨i,dn,rfl,hi,IA,hw⟩;refine Split.dec (fun jx=>?_) (fun gu=>?_)
 ·have dP:i<n:=by omega
  obtain⟨x,hx⟩:∃x,l[i]? =some x:=⟨_,List.getElem?_eq_getElem (by omega)⟩;have tK:=ho x (List.mem_of_getElem? hx);have hl:=(mH _ w' hw).1;have vo:l.drop i=x::l.drop (i+1):=by
   obtain⟨h1,h2⟩:=lgeS hx;rw [List.drop_eq_getElem_cons h1,h2]
  rw [vo,pr]at IA;refine hl.load (i:=(i:Int)) (by omega) hx ?_;refine aH.gC (I:=fun s w'=>∃(v:Nat) (dn:List Nat),s=(v:Int)/\v<18446744073709551616/\dn++((u7 v).map (64*i+ ·)++pr (i+1) (l.drop (i+1)))=pr 0 l/\I dn.length w') (μ:=fun s _=>s.toNat) (s:=(x:Int)) ⟨x,dn,rfl,tK,IA,hw⟩ ?_;clear hw IA;rintro s w1 ⟨v,Yh,rfl,hv,Iz,Jz⟩;by_cases h0:v=0
  ·refine Split.no (by subst h0;rfl) ?_
   rw [aO,aH.jA];unfold aH.ik;rw [dt (n:=(i:Int)) (by omega) (by omega)];rw [h0,wY,List.map_nil,List.nil_append]at Iz;exact⟨(i:Int)+1,rfl,⟨i+1,Yh,rfl,dP,Iz,Jz⟩,by simp only;omega⟩
  ·refine Split.yes (bne_iff_ne.2 (by omega)) ?_
   have Pw:=mH _ w1 Jz;obtain⟨hk,MY,hkr⟩:=Dt h0 hv;rw [xc h0,List.map_cons,List.cons_append]at Iz;refine R4 hv Pw.2.2 ⟨_,rfl,?_⟩;have gD:((pr 0 l).map encI)[Yh.length]? =some (encI (64*i+Lib.ctz 64 v)):=by
    rw [List.getElem?_map,<-Iz,List.getElem?_append_right (Nat.le_refl _),Nat.sub_self];rfl
   have Fx:i64.wrap (i64.wrap ((64:Int)*(i:Int))+((Lib.ctz 64 v:Nat):Int))=((64*i+Lib.ctz 64 v:Nat):Int):=by
    rw [gN (x:=(64:Int)*(i:Int)) (by omega) (by omega),gN (by omega) (by omega)];omega
   rw [Fx];refine(og Yh.length _ w1 gD Jz).mono ?_;rintro b iR ⟨ht,hf⟩;have mU:u64.wrap ((BitVec.ofInt 64 (v:Int)&&& BitVec.ofInt 64 (u64.wrap ((v:Int)-(1:Int)))).toNat:Int)=((v&&& (v-1):Nat):Int):=by
    have e1:(v:Int)-1=((v-1:Nat):Int):=by omega
    rw [e1,jJ (x:=v-1) (by omega),acZ hv (by omega)]
   cases b with
   |true=>
    refine Split.no rfl ?_;rw [mU];have cJ:=yE h0;refine⟨((v&&& (v-1):Nat):Int),rfl,⟨v&&& (v-1),Yh++ [64*i+Lib.ctz 64 v],rfl,by omega,by rw [List.append_assoc];exact Iz,?_⟩,by simp only;omega⟩;rw [List.length_append];exact ht rfl
   |false=>
    refine Split.yes rfl ?_;exact Or.inr (hf rfl)
 ·rw [aO,aH.df]
  have e:i=n:=by omega
  subst e;refine Or.inl ?_;rw [List.drop_eq_nil_of_le (by omega),pr,List.append_nil]at IA;rw [List.length_map,<-IA];exact hw
end
def pos(h:HT):List HT->Nat->Option Nat
 | [],_=>none
 |x::l,i=>if h=x then some i else pos h l (i+1)
theorem pg{h:HT}:∀ {l:List HT} {i:Nat},pos h l i=none↔h∉l
 | [],i=>by simp [pos]
 |x::l,i=>by
  unfold pos;split
  ·rename_i e;simp [e]
  ·rename_i e
   rw [pg (l:=l)];simp [e]
theorem uJ{h:HT}:∀ {l:List HT} {i j:Nat},pos h l i=some j->i<=j/\l[j-i]? =some h
 | [],i,j,e=>by simp [pos]at e
 |x::l,i,j,e=>by
  unfold pos at e;split at e
  ·rename_i hx
   cases e;subst hx;exact⟨Nat.le_refl _,by rw [Nat.sub_self];rfl⟩
  ·obtain⟨h1,h2⟩:=uJ e
   refine⟨by omega,?_⟩;rw [show j-i=(j-(i+1))+1 by omega];exact h2
theorem kP{h:HT}:∀ {l:List HT} (i j:Nat),l.Nodup->l[j]? =some h->pos h l i=some (i+j)
 | [],i,j,_,e=>by simp at e
 |x::l,i,0,_,e=>by
  simp only [List.getElem?_cons_zero,Option.some.injEq]at e;unfold pos;rw [if_pos e.symm];simp
 |x::l,i,j+1,hn,e=>by
  simp only [List.getElem?_cons_succ]at e;rw [List.nodup_cons]at hn;unfold pos;rw [if_neg (fun hx=>hn.1 (by rw [<-hx];exact List.mem_of_getElem? e)),kP (i+1) j hn.2 e]
  congr 1
  omega
section
variable{w:World}
theorem JV:prog.underlying ai=some (.array 32 iK):=by kernel_rfl
theorem NR:prog.underlying iK=some (.int .u8):=by kernel_rfl
theorem My:∃i,prog.info? iK=some i/\i.size=1:=by
 have h:(match prog.info? iK with|some i=>Nat.beq i.size 1|none=>false)=true:=by kernel_rfl
 split at h
 ·rename_i i hi;exact⟨i,hi,Nat.eq_of_beq_eq_true h⟩
 ·cases h
theorem NT:prog.underlying cu=some (.map ai jI):=by kernel_rfl
theorem uy(a b:HT)(w:World):(Op.equal ai (.agg a.1) (.agg b.1)).run prog w=.ok (decide (a=b)) w:=by
 obtain⟨i,hi,h1⟩:=My;have:=o5 (P:=prog) 9998 w JV NR hi h1 a.2.ints b.2.ints;rw [dH]at this;simp only [Op.equal,Op.maxDepth];exact this
theorem iX(h:HT)(em:Bool)(w:World):(Instr.checkKey em 10000 ai (.agg h.1)).run prog w=.ok () w:=by
 obtain⟨i,hi,h1⟩:=My;have hc:prog.cellsOf iK=1:=by simp [Program.cellsOf,hi,h1]
 rw [show(10000:Nat)=9999+1 from rfl,Instr.checkKey];simp only [Sem.run_bind,run_underlying JV,Result.andThen_ok];simp only [Std.Legacy.Range.forIn_eq_forIn_range',Std.Legacy.Range.size,Nat.sub_zero,Nat.add_one_sub_one,Nat.div_one];have each:∀j∈List.range' 0 32,∃v,h.1[j]? =some v/\∃x:Int,v=.int .u8 x:=fun j hj=>by
  have vm:j<h.1.size:=by rw [h.2.1];simpa using hj
  obtain⟨x,hx,_⟩:=h.2.2 h.1[j] (by simp);exact⟨_,Array.getElem?_eq_getElem vm,x,hx⟩
 generalize List.range' 0 32=is at each
 induction is with
 |nil=>simp
 |cons j is ih=>
  obtain⟨v,hv,x,rfl⟩:=each j (by simp);have Lu:(isAgg iK).run prog w=.ok false w:=by simp [isAgg,run_underlying NR]
  have p1:(part iK h.1 (j*1)).run prog w=.ok (.int .u8 x) w:=by simp [part,Lu,hv]
  have p2:(Instr.checkKey em 9999 iK (.int .u8 x)).run prog w=.ok () w:=by
   rw [show(9999:Nat)=9998+1 from rfl,Instr.checkKey];simp [run_underlying NR]
  simp only [List.forIn_cons,Sem.run_bind,Go.bR.run_sizeOf hi w,hc,Result.andThen_ok,p1,p2,Sem.run_pure];exact ih (fun y hy=>each y (by simp [hy]))
def Bb(es:List MapEntry)(l:List HT)(i:Nat):Prop:=match es,l with
 | [],[]=>True
 |e::es,h::l=>(e.key=.agg h.1/\e.val=.int .i64 (i:Int))/\Bb es l (i+1)
 |_,_=>False
theorem Bb.snoc:∀ {es:List MapEntry} {l:List HT} {i:Nat} {e:MapEntry} {h:HT},Bb es l i->e.key=.agg h.1->e.val=.int .i64 ((i+l.length:Nat):Int)->Bb (es++ [e]) (l++ [h]) i
 | [],[],i,e,h,_,h1,h2=>⟨⟨h1,by simpa using h2⟩,trivial⟩
 |x::es,y::l,i,e,h,he,h1,h2=>⟨he.1,Bb.snoc he.2 h1 (by rw [h2];congr 2;simp;omega)⟩
 | [],_::_,_,_,_,he,_,_=>he.elim
 |_::_,[],_,_,_,he,_,_=>he.elim
theorem qY(h:HT)(w:World):∀(es:List MapEntry) (l:List HT) (i:Nat),Bb es l i->
 (Instr.findAsking ai (.agg h.1) es i).run prog w=.ok ((pos h l i).map fun j=>(j,.int .i64 (j:Int))) w
 | [],[],i,_=>by simp [Instr.findAsking,pos]
 |e::es,x::l,i,he=>by
  have hq:=uy h x w;have ih:=qY h w es l (i+1) he.2;simp only [Instr.findAsking,he.1.1,Sem.run_bind,hq,Result.andThen_ok];by_cases hx:h=x
  ·simp [hx,pos,he.1.2]
  ·simp [hx,pos,ih]
 | [],_::_,_,he=>he.elim
 |_::_,[],_,he=>he.elim
theorem nS(h:HT)(w:World){es:List MapEntry}{l:List HT}(he:Bb es l 0):
 (Instr.findKey ai (.agg h.1) es).run prog w=.ok ((pos h l 0).map fun j=>(j,.int .i64 (j:Int))) w:=by
 have h1:=qY h w es l 0 he;simp only [Instr.findKey,Sem.run_bind,run_underlying JV,Result.andThen_ok];cases es with
 |nil=>
  cases l with
  |nil=>simp [Instr.findNow,pos]
  |cons x l=>exact he.elim
 |cons e es=>
  have:Instr.findNow (.array 32 iK) (.agg h.1) (e::es) 0=none:=by
   simp only [Instr.findNow,Instr.sameNow]
  rw [this];exact h1
theorem pG{r:Nat}{es:Array MapEntry}{clock:Nat}(hb:w.heap[r]? =some (.map es clock)):(getObj r).run prog w=.ok (.map es clock) w:=by
 simp [getObj,Sem.run,hb]
theorem BF{r:Nat}{es:Array MapEntry}{clock:Nat}(o:Obj)(hb:w.heap[r]? =some (.map es clock)):(setObj r o).run prog w=.ok () {w with heap:=w.heap.setIfInBounds r o}:=by
 simp [setObj,Sem.run,hb]
structure IsMap(w:World)(m:Nat)(l:List HT):Prop where
 ex:∃es clock,w.heap[m]? =some (.map es clock)/\Bb es.toList l 0
theorem IsMap.aG{S:Nat->Prop}{w w':World}{m:Nat}{l:List HT}(h:IsMap w m l)(hk:Kept S w w')(hn:¬S m):IsMap w' m l:=by
 obtain⟨es,clock,h1,h2⟩:=h.ex;exact⟨es,clock,hk.heap h1 hn,h2⟩
theorem IsMap.lt{w:World}{m:Nat}{l:List HT}(h:IsMap w m l):m<w.heap.size:=by
 obtain⟨es,clock,h1,_⟩:=h.ex;exact aT h1
theorem IsMap.look{m:Nat}{l:List HT}(hm:IsMap w m l)(h:HT):
 (Instr.lookup cu (.map (some m)) (.agg h.1) true).run prog w=.ok (.tuple #[.int .i64 (((pos h l 0).getD 0:Nat):Int),.bool (pos h l 0).isSome]) w:=by
 obtain⟨es,clock,h1,h2⟩:=hm.ex;have h3:=nS h w h2;simp only [Instr.lookup,Sem.run_bind,run_underlying NT,pG h1,Result.andThen_ok,Sem.run_pure,iX,h3];cases hp:pos h l 0<;>simp
theorem IsMap.xe{m:Nat}{l:List HT}(hm:IsMap w m l)(h:HT):
 (Instr.lookup cu (.map (some m)) (.agg h.1) false).run prog w=.ok (.int .i64 (((pos h l 0).getD 0:Nat):Int)) w:=by
 obtain⟨es,clock,h1,h2⟩:=hm.ex;have h3:=nS h w h2;simp only [Instr.lookup,Sem.run_bind,run_underlying NT,pG h1,Result.andThen_ok,Sem.run_pure,iX,h3];cases hp:pos h l 0<;>simp
theorem IsMap.put{m:Nat}{l:List HT}(hm:IsMap w m l){h:HT}(hn:h∉l):
 ∃w',(Instr.mapUpdate cu (.map (some m)) (.agg h.1) (.int .i64 ((l.length:Nat):Int))).run prog w=.ok () w'/\IsMap w' m (l++ [h])/\Kept (· =m) w w':=by
 obtain⟨es,clock,h1,h2⟩:=hm.ex;have h3:=nS h w h2;rw [pg.2 hn]at h3;refine⟨{w with heap:=w.heap.setIfInBounds m (.map (es.push {key:=.agg h.1,val:=.int .i64 ((l.length:Nat):Int),born:=clock}) (clock+1))},?_,⟨es.push {key:=.agg h.1,val:=.int .i64 ((l.length:Nat):Int),born:=clock},clock+1,?_,?_⟩,?_⟩
 ·simp only [Instr.mapUpdate,Sem.run_bind,run_underlying NT,pG h1,Result.andThen_ok,iX,h3,Option.map_none,BF _ h1]
 ·simp [aT h1]
 ·have:=h2.snoc (e:= {key:=.agg h.1,val:=.int .i64 ((l.length:Nat):Int),born:=clock}) (h:=h) rfl (by simp)
  simpa using this
 ·exact⟨rfl,rfl,rfl,by simp,fun k _ hk=>by simp [Ne.symm hk]⟩
end
end Go.Proofs.YtfleamccglihoaaGreatDoor
namespace Go.Proofs.YtfleamccglihoaaGreatDoor
open Go.Proofs.Tryz
open Go Go.bR
structure DN where
 id:HT
 ps:List HT
abbrev DG:=List DN
def ids(D:DG):List HT:=D.map (·.id)
def lH(D:DG)(p h:HT):Prop:=∃nd∈D,nd.id=h/\p∈nd.ps
inductive dN (D:DG):HT->HT->Prop
 |one {p h:HT}:lH D p h->dN D p h
 |more {a p h:HT}:dN D a p->lH D p h->dN D a h
theorem dN.trans{D:DG}{a b c:HT}(h:dN D a b)(h':dN D b c):dN D a c:=by
 induction h' with
 |one hp=>exact .more h hp
 |more _ hp ih=>exact .more ih hp
structure jn(D:DG):Prop where
 pos:0<D.length
 nodup:(ids D).Nodup
 ss:∀nd∈D,SS nd.ps
 up:∀(i:Nat) nd p,D[i]? =some nd->p∈nd.ps->∃(j:Nat) (m:DN),j<i/\D[j]? =some m/\m.id=p
theorem gg(D:DG):(ids D).length=D.length:=by simp [ids]
theorem pV{D:DG}{i:Nat}{nd:DN}(h:D[i]? =some nd):(ids D)[i]? =some nd.id:=by simp [ids,h]
theorem HW{D:DG}{i:Nat}{h:HT}(e:(ids D)[i]? =some h):∃nd,D[i]? =some nd/\nd.id=h:=by
 unfold ids at e;rw [List.getElem?_map]at e;cases hd:D[i]? with
 |none=>rw [hd]at e;cases e
 |some nd=>rw [hd]at e;exact⟨nd,rfl,by simpa using e⟩
theorem cP{D:DG}{h:HT}:h∈ids D↔∃nd∈D,nd.id=h:=by simp [ids]
section
variable{D:DG}
theorem jn.inj(W:jn D){i j:Nat}{a b:DN}(ha:D[i]? =some a)(hb:D[j]? =some b)(e:a.id=b.id):i=j:=by
 have h1:=kP 0 i W.nodup (pV ha);have h2:=kP 0 j W.nodup (pV hb);rw [e,h2]at h1;simpa using h1.symm
theorem jn.pos_eq(W:jn D){i:Nat}{nd:DN}(h:D[i]? =some nd):Proofs.YtfleamccglihoaaGreatDoor.pos nd.id (ids D) 0=some i:=by
 have:=kP 0 i W.nodup (pV h)
 rwa [Nat.zero_add]at this
theorem lH.at_(W:jn D){p h:HT}(hp:lH D p h):∃(i j:Nat) (m nd:DN),i<j/\D[i]? =some m/\D[j]? =some nd/\m.id=p/\nd.id=h/\p∈nd.ps:=by
 obtain⟨nd,eW,rfl,oB⟩:=hp;obtain⟨j,hj⟩:=List.mem_iff_getElem?.1 eW;obtain⟨i,m,pX,hm,e⟩:=W.up j nd p hj oB;exact⟨i,j,m,nd,pX,hm,hj,e,rfl,oB⟩
theorem dN.at_(W:jn D){a h:HT}(hp:dN D a h):∃(i j:Nat) (m nd:DN),i<j/\D[i]? =some m/\D[j]? =some nd/\m.id=a/\nd.id=h:=by
 induction hp with
 |one hp=>
  obtain⟨i,j,m,nd,h1,h2,h3,h4,h5,_⟩:=hp.at_ W;exact⟨i,j,m,nd,h1,h2,h3,h4,h5⟩
 |more _ hp ih=>
  obtain⟨i,j,m,nd,h1,h2,h3,h4,h5⟩:=ih;obtain⟨i',j',m',nd',qS,tO,Bm,X1,h5',_⟩:=hp.at_ W;have e:=W.inj h3 tO (by rw [h5,X1]);exact⟨i,j',m,nd',by omega,h2,Bm,h4,h5'⟩
theorem dN.irrefl(W:jn D)(a:HT):¬dN D a a:=fun h=>by
 obtain⟨i,j,m,nd,h1,h2,h3,h4,h5⟩:=h.at_ W;have:=W.inj h2 h3 (by rw [h4,h5]);omega
theorem dN.asymm(W:jn D){a b:HT}(h:dN D a b):¬dN D b a:=fun h'=>dN.irrefl W a (h.trans h')
theorem dN.mem(W:jn D){a h:HT}(hp:dN D a h):a∈ids D/\h∈ids D:=by
 obtain⟨i,j,m,nd,_,h2,h3,h4,h5⟩:=hp.at_ W;exact⟨cP.2 ⟨m,List.mem_of_getElem? h2,h4⟩,cP.2 ⟨nd,List.mem_of_getElem? h3,h5⟩⟩
theorem rR(W:jn D){i:Nat}{nd:DN}(h:D[i]? =some nd)(a:HT):dN D a nd.id↔∃p∈nd.ps,a=p\/dN D a p:=by
 have key:∀ {p},lH D p nd.id->p∈nd.ps:=fun⟨nd',hm,e,hp⟩=>by
  obtain⟨j,hj⟩:=List.mem_iff_getElem?.1 hm;have:=W.inj h hj e.symm;subst this;rw [h]at hj;cases hj;exact hp
 constructor
 ·intro ha
  generalize he:nd.id=x at ha;cases ha with
  |one hp=>subst he;exact⟨a,key hp,.inl rfl⟩
  |more Bl hp=>subst he;exact⟨_,key hp,.inr Bl⟩
 ·rintro⟨p,hp,e⟩
  have jE:lH D p nd.id:=⟨nd,List.mem_of_getElem? h,rfl,hp⟩;rcases e with rfl|e
  ·exact .one jE
  ·exact .more e jE
theorem ns{nd:DN}{p h:HT}:lH (D++ [nd]) p h↔lH D p h\/(nd.id=h/\p∈nd.ps):=by
 unfold lH;constructor
 ·rintro⟨m,hm,e,hp⟩
  rw [List.mem_append,List.mem_singleton]at hm;rcases hm with hm|rfl
  ·exact .inl ⟨m,hm,e,hp⟩
  ·exact .inr ⟨e,hp⟩
 ·rintro(⟨m,hm,e,hp⟩|⟨e,hp⟩)
  ·exact⟨m,by simp [hm],e,hp⟩
  ·exact⟨nd,by simp,e,hp⟩
theorem jh(W:jn D){nd:DN}(hn:nd.id∉ids D){a h:HT}(hh:h∈ids D):dN (D++ [nd]) a h↔dN D a h:=by
 constructor
 ·intro ha
  induction ha with
  |one hp=>
   rcases ns.1 hp with hp|⟨e,_⟩
   ·exact .one hp
   ·subst e;exact absurd hh hn
  |more _ hp ih=>
   rcases ns.1 hp with hp|⟨e,_⟩
   ·exact .more (ih (dN.mem W (.one hp)).1) hp
   ·subst e;exact absurd hh hn
 ·intro ha
  induction ha with
  |one hp=>exact .one (ns.2 (.inl hp))
  |more Bl hp ih=>exact .more (ih (dN.mem W Bl).2) (ns.2 (.inl hp))
theorem lf(D:DG)(nd:DN):ids (D++ [nd])=ids D++ [nd.id]:=by simp [ids]
theorem jn.snoc(W:jn D){nd:DN}(hn:nd.id∉ids D)(oB:∀p∈nd.ps,p∈ids D)(hs:SS nd.ps):jn (D++ [nd]) where
 pos:=by simp
 nodup:=by
  rw [lf,List.nodup_append];refine⟨W.nodup,by simp,fun a ha b hb=>?_⟩;rw [List.mem_singleton]at hb;subst hb;exact fun e=>hn (e▸ha)
 ss:=fun m hm=>by
  rw [List.mem_append,List.mem_singleton]at hm;rcases hm with hm|rfl
  ·exact W.ss m hm
  ·exact hs
 up:=fun i m p hi hp=>by
  rw [List.getElem?_append]at hi;split at hi
  ·rename_i cJ
   obtain⟨j,q,h1,h2,h3⟩:=W.up i m p hi hp;exact⟨j,q,h1,by rw [List.getElem?_append_left (by omega)];exact h2,h3⟩
  ·rename_i gu
   have:m=nd:=by
    cases hk:i-D.length with
    |zero=>rw [hk]at hi;simpa using hi.symm
    |succ k=>rw [hk]at hi;simp at hi
   subst this;obtain⟨q,hq,e⟩:=cP.1 (oB p hp);obtain⟨j,hj⟩:=List.mem_iff_getElem?.1 hq;have tn:=(lgeS hj).1;exact⟨j,q,by omega,by rw [List.getElem?_append_left tn];exact hj,e⟩
end
theorem jn.root(r:HT):jn [⟨r,[]⟩] where
 pos:=by simp
 nodup:=by simp [ids]
 ss:=fun nd h=>by simp at h;subst h;exact List.Pairwise.nil
 up:=fun i nd p h hp=>by
  cases i with
  |zero=>simp at h;subst h;simp at hp
  |succ i=>simp at h
def dr(D:DG)(h:HT)(l:List HT):Int:=
 if h∈ids D then 7 else if(di l).length=0\/(di l).length≠l.length then 9 else if ∃p∈di l,p∉ids D then 6 else 0
def mK(D:DG)(h:HT)(l:List HT):DG:=if dr D h l=0 then D++ [⟨h,di l⟩]else D
theorem jM{D:DG}{h:HT}{l:List HT}(e:dr D h l=0):h∉ids D/\l≠ []/\l.Nodup/\∀p∈di l,p∈ids D:=by
 unfold dr at e;split at e
 ·cases e
 ·rename_i h1
  split at e
  ·cases e
  ·rename_i h2
   split at e
   ·cases e
   ·rename_i h3
    simp only [not_or,Decidable.not_not]at h2;refine⟨h1,fun hl=>h2.1 (by rw [hl];rfl),rl h2.2,fun p hp=>Classical.byContradiction fun hn=>h3 ⟨p,hp,hn⟩⟩
theorem jn.add{D:DG}(W:jn D)(h:HT)(l:List HT):jn (mK D h l):=by
 unfold mK;split
 ·rename_i e
  obtain⟨h1,_,_,h4⟩:=jM e;exact W.snoc h1 h4 (ir l)
 ·exact W
open Classical in
noncomputable def pick(D:DG)(is:HT->Prop):List HT:=di ((ids D).filter fun a=>decide (is a))
theorem jb{D:DG}{is:HT->Prop}{a:HT}:a∈pick D is↔a∈ids D/\is a:=by
 unfold pick;rw [dd,List.mem_filter];simp
theorem Dp{D:DG}{is:HT->Prop}{l:List HT}(h:∀a,a∈l↔a∈ids D/\is a):di l=pick D is:=xQ fun x=>by
 rw [h,List.mem_filter];simp
theorem mc(D:DG)(is:HT->Prop):(pick D is).length<=D.length:=by
 unfold pick;refine Nat.le_trans (nP _) (Nat.le_trans (List.length_filter_le _ _) ?_);rw [gg];exact Nat.le_refl _
noncomputable def du(D:DG)(l:List HT):List HT:=pick D fun a=>∃h∈l,dN D a h
noncomputable def gE(D:DG)(h:HT):List HT:=pick D fun a=>lH D h a
open Go.RowKit
structure NS(w:World)(F:Nat->Prop)(A:Option Addr)(n:Nat)(l:List DN):Prop where
 len:l.length=n
 at_:∀(i:Nat) nd,l[i]? =some nd->∃a pA pn pc,A=some a/\a.block<w.heap.size/\F a.block/\Cells w (a.add (i*33)) (nd.id.1.push (.slice pA pn pc))/\HS w pA pn nd.ps/\∀b,pA=some b->F b.block
section
variable{w w':World}{F F' S:Nat->Prop}{A:Option Addr}{n:Nat}{l:List DN}
theorem NS.aG(h:NS w F A n l)(hk:Kept S w w')(hn:∀k,F k->¬S k):NS w' F A n l:=⟨h.len,fun i nd hi=>by
 obtain⟨a,pA,pn,pc,h1,h2,h3,h4,h5,h6⟩:=h.at_ i nd hi;exact⟨a,pA,pn,pc,h1,Nat.lt_of_lt_of_le h2 hk.size,h3,Cells.aG h4 hk (by rw [eR];exact hn _ h3),h5.aG hk (fun b hb=>hn _ (h6 b hb)),h6⟩⟩
theorem NS.mono(h:NS w F A n l)(hf:∀k,F k->F' k):NS w F' A n l:=⟨h.len,fun i nd hi=>by
 obtain⟨a,pA,pn,pc,h1,h2,h3,h4,h5,h6⟩:=h.at_ i nd hi;exact⟨a,pA,pn,pc,h1,h2,hf _ h3,h4,h5,fun b hb=>hf _ (h6 b hb)⟩⟩
theorem uI{h:HT}{v:Value}{j:Nat}{u:Value}(hj:h.1[j]? =some u):(h.1.push v)[j]? =some u:=by
 have cJ:=(Array.getElem?_eq_some_iff.1 hj).1;rw [Array.getElem?_push,if_neg (by omega),hj]
theorem pU(h:HT)(v:Value):(h.1.push v)[32]? =some v:=by
 have:=h.2.1;rw [Array.getElem?_push,if_pos (by omega)]
theorem NS.id(h:NS w F A n l){i:Int}{nd:DN}(h0:0<=i)(hx:l[i.toNat]? =some nd){k:Array Value->Prop}(hk:k nd.id.1):
 (0<=i/\i<(n:Int))/\Is A fun a=>∃t:Array Value,(t.size=32/\Cells w ((a.add (i.toNat*33)).add 0) t)/\k t:=by
 obtain⟨a,pA,pn,pc,rfl,_,_,h4,_,_⟩:=h.at_ _ nd hx;have:=(lgeS hx).1;have:=h.len;refine⟨⟨h0,by omega⟩,nd.id.1,⟨nd.id.2.1,fun j v hj=>?_⟩,hk⟩;rw [add_zero];exact h4 j v (uI hj)
theorem NS.ps(h:NS w F A n l){i:Int}{nd:DN}(h0:0<=i)(hx:l[i.toNat]? =some nd){k:Option Addr->Nat->Nat->Prop}(hk:∀pA pn pc,HS w pA pn nd.ps->(∀b,pA=some b->F b.block)->k pA pn pc):
 (0<=i/\i<(n:Int))/\Is A fun a=>∃pA pn pc,w.cell? ((a.add (i.toNat*33)).add 32)=some (.slice pA pn pc)/\k pA pn pc:=by
 obtain⟨a,pA,pn,pc,rfl,_,_,h4,h5,h6⟩:=h.at_ _ nd hx;have:=(lgeS hx).1;have:=h.len;exact⟨⟨h0,by omega⟩,pA,pn,pc,h4 32 _ (pU _ _),hk _ _ _ h5 h6⟩
theorem NS.cells(h:NS w F A n l):∀k,k<=n->∃news:List Value,news.length=k*33/\(∀a,A=some a->∀j u,news[j]? =some u->w.cell? (a.add j)=some u)/\(∀u∈news,u.oneCell'=true)/\
 ∀(i:Nat) nd,i<k->l[i]? =some nd->∃pA pn pc,HS w pA pn nd.ps/\(∀b,pA=some b->F b.block)/\∀(j:Nat) v,(nd.id.1.push (.slice pA pn pc))[j]? =some v->news[i*33+j]? =some v
 |0,_=>⟨[],rfl,by simp,by simp,by intro i nd hi;omega⟩
 |k+1,hk=>by
  obtain⟨news,e1,e2,e3,e4⟩:=h.cells k (by omega);have hlen:=h.len;obtain⟨nd,eW⟩:∃nd,l[k]? =some nd:=⟨_,List.getElem?_eq_getElem (by omega)⟩;obtain⟨a,pA,pn,pc,hA,h2,h3,h4,h5,h6⟩:=h.at_ _ nd eW;have lO:(nd.id.1.push (.slice pA pn pc)).size=33:=by rw [Array.size_push,nd.id.2.1]
  refine⟨news++(nd.id.1.push (.slice pA pn pc)).toList,by rw [List.length_append,e1,Array.length_toList,lO];omega,fun a' Bl j u hj=>?_,fun u hu=>?_,fun i md hi xo=>?_⟩
  ·rw [List.getElem?_append]at hj
   split at hj
   ·exact e2 a' Bl j u hj
   ·rename_i gu
    rw [hA]at Bl;cases Bl;have:=h4 (j-news.length) u (by rw [<-Array.getElem?_toList];exact hj)
    rwa [lr,show k*33+(j-news.length)=j by omega]at this
  ·rw [List.mem_append]at hu
   rcases hu with hu|hu
   ·exact e3 u hu
   ·simp only [Array.toList_push,List.mem_append,List.mem_singleton]at hu
    rcases hu with hu|rfl
    ·exact nd.id.2.one u hu
    ·rfl
  ·by_cases hik:i<k
   ·obtain⟨qA,qn,qc,f1,f2,f3⟩:=e4 i md hik xo
    exact⟨qA,qn,qc,f1,f2,fun j v hj=>by
     have:=f3 j v hj;rw [List.getElem?_append_left (lgeS this).1];exact this⟩
   ·have:i=k:=by omega
    subst this;rw [eW]at xo;cases xo;exact⟨pA,pn,pc,h5,h6,fun j v hj=>by
     rw [List.getElem?_append_right (by omega),e1,show i*33+j-i*33=j by omega,Array.getElem?_toList];exact hj⟩
theorem xR:yU prog cy bP 33 56:=⟨by kernel_rfl,by kernel_rfl⟩
theorem Eb:RK prog bP=some ([(0,32),(32,1)],List.replicate 32 (.int .u8 0)++ [.slice none 0 0]):=by kernel_rfl
theorem F6(h:HT)(A:Option Addr)(n c:Nat):prog.built bP [(0,.agg h.1),(1,.slice A n c)]=some (h.1.push (.slice A n c)):=by
 have hs:=h.2.1;rw [nC Eb,iM (off:=0) (size:=32) rfl (by simpa [Value.cells]using hs) (by simp),iM (off:=32) (size:=1) rfl rfl (by
  rw [List.size_toArray,lX (by simp [Value.cells,hs])];simp)]
 simp only [Instr.fill,Option.some.injEq];apply Array.ext';unfold gK;simp [Value.cells,hs]
structure tV(w:World)(F:Nat->Prop)(r:Nat)(D:DG):Prop where
 ex:∃(A:Option Addr) (c:Nat) (cs:Array Value) (t:TypeId),w.heap[r]? =some (.cells cs t (0,0))/\cs[0]? =some (.slice A D.length c)/\NS w F A D.length D
 gZ:¬F r
theorem tV.aG{r:Nat}{D:DG}(h:tV w F r D)(hk:Kept S w w')(hr:¬S r)(hn:∀k,F k->¬S k):tV w' F r D:=by
 obtain⟨A,c,cs,t,h1,h0,h2⟩:=h.ex;exact⟨⟨A,c,cs,t,hk.heap h1 hr,h0,h2.aG hk hn⟩,h.gZ⟩
theorem tV.same{r:Nat}{D:DG}(h:tV w F r D)(hk:Kept Nil w w'):tV w' F r D:=h.aG hk (fun h=>h) (fun _ _ h=>h)
theorem tV.lt{r:Nat}{D:DG}(h:tV w F r D):r<w.heap.size:=by obtain⟨A,c,cs,t,h1,_⟩:=h.ex;exact aT h1
theorem tV.go{r:Nat}{D:DG}(h:tV w F r D){k:Option Addr->Nat->Nat->Prop}(hk:∀A c,NS w F A D.length D->k A D.length c):
 ∃A n m,w.cell? ((⟨r,0,none⟩:Addr).add 0)=some (.slice A n m)/\k A n m:=by
 obtain⟨A,c,cs,t,h1,h0,h2⟩:=h.ex;exact⟨A,_,c,by rw [add_zero,aA h1];exact h0,hk A c h2⟩
theorem tV.go'{r:Nat}{D:DG}(h:tV w F r D)(kw:Kept Nil w w'){k:Option Addr->Nat->Nat->Prop}(hk:∀A c,NS w F A D.length D->k A D.length c):
 ∃A n m,w'.cell? ((⟨r,0,none⟩:Addr).add 0)=some (.slice A n m)/\k A n m:=by
 obtain⟨A,c,cs,t,h1,h0,h2⟩:=h.ex;exact⟨A,_,c,by rw [add_zero,aA (kw.heap h1 (fun h=>h))];exact h0,hk A c h2⟩
theorem NS.ps'(h:NS w F A n l)(kw:Kept Nil w w'){i:Int}{nd:DN}(h0:0<=i)(hx:l[i.toNat]? =some nd){k:Option Addr->Nat->Nat->Prop}(hk:∀pA pn pc,HS w pA pn nd.ps->k pA pn pc):
 (0<=i/\i<(n:Int))/\Is A fun a=>∃pA pn pc,w'.cell? ((a.add (i.toNat*33)).add 32)=some (.slice pA pn pc)/\k pA pn pc:=by
 obtain⟨a,pA,pn,pc,rfl,_,_,h4,h5,h6⟩:=h.at_ _ nd hx;have:=(lgeS hx).1;have:=h.len;exact⟨⟨h0,by omega⟩,pA,pn,pc,(kw.cell (h4 32 _ (pU _ _)) (fun h=>h)),hk _ _ _ h5⟩
def CT(D:DG)(h:HT):Int:=match pos h (ids D) 0 with|some j=>(j:Int)|none=> -1
theorem pZ{D:DG}{h:HT}:CT D h<0↔h∉ids D:=by
 unfold CT;rw [<-pg (l:=ids D) (i:=0)];cases hp:pos h (ids D) 0<;>simp
theorem sM{D:DG}{h:HT}:CT D h>=0↔h∈ids D:=by
 have:= @pZ D h;constructor
 ·intro hg;exact Classical.byContradiction fun hn=>by have:=this.2 hn;omega
 ·intro hm;exact Classical.byContradiction fun hn=>this.1 (by omega) hm
theorem LR{D:DG}{h:HT}(hm:h∈ids D):∃nd,CT D h>=0/\D[(CT D h).toNat]? =some nd/\nd.id=h:=by
 have h1:=sM.2 hm;unfold CT at*;cases hp:pos h (ids D) 0 with
 |none=>rw [hp]at h1;simp at h1
 |some j=>
  obtain⟨_,h2⟩:=uJ hp;obtain⟨nd,h3,h4⟩:=HW h2;exact⟨nd,by simp,by simpa using h3,h4⟩
theorem yf{D:DG}{i:Nat}{nd:DN}(h:D[i]? =some nd):(ids D).take (i+1)=(ids D).take i++ [nd.id]:=by
 rw [List.take_add_one,pV h];rfl
theorem wU{h:HT}:∀ {l:List HT} {i k:Nat},h∉l.take k->l[k]? =some h->pos h l i=some (i+k)
 | [],_,_,_,e=>by simp at e
 |x::l,i,0,_,e=>by
  simp only [List.getElem?_cons_zero,Option.some.injEq]at e;unfold pos;rw [if_pos e.symm,Nat.add_zero]
 |x::l,i,k+1,hn,e=>by
  simp only [List.getElem?_cons_succ]at e;rw [List.take_succ_cons,List.mem_cons,not_or]at hn;unfold pos;rw [if_neg hn.1,wU (i:=i+1) hn.2 e]
  congr 1
  omega
variable{r:Nat}{D:DG}{K:Value->World->Prop}
theorem mR(H:tV w F r D)(hD:D.length<=1000000)(h:HT)(hK:∀w',Kept Nil w w'->K (.int .i64 (CT D h)) w'):
 bk prog bC.id #[.pointer (some ⟨r,0,none⟩),.agg h.1] w K:=by
 refine bC.of ?_;unfold bC.W;intro w3;have k3:Kept Nil w w3:=(Kept.refl Nil w).alloc _;have nh:w3.heap[w.heap.size]? =some (.cells h.1 ai (0,0)):=aI w _;clear_value w3;refine bC.b9 (I:=fun s w'=>∃i:Nat,s=(0,(i:Int))/\i<=D.length/\Kept Nil w3 w'/\h∉(ids D).take i) (μ:=fun s _=>((D.length:Int)-s.2).toNat) (s:=(0,0)) ⟨0,rfl,Nat.zero_le _,Kept.refl _ _,by simp⟩ ?_;rintro s w' ⟨i,rfl,hi,kw,lE⟩;have kk:Kept Nil w w':=k3.tt kw;refine(H.same kk).go fun A c rW=>?_;refine Split.dec (fun jx=>?_) (fun gu=>?_)
 ·simp only at jx
  have dP:i<D.length:=by omega
  obtain⟨nd,eW⟩:∃nd,D[i]? =some nd:=⟨_,List.getElem?_eq_getElem dP⟩;intro w10;have mG:Kept Nil w3 w10:=kw.drew;have Fj:Kept Nil w w10:=k3.tt mG;clear_value w10;refine(H.same Fj).go fun A c rW=>?_;refine rW.id (i:=(i:Int)) (by omega) (by rw [Int.toNat_natCast];exact eW) ⟨h.1,⟨h.2.1,Cells.bE (mG.heap nh (fun h=>h))⟩,⟨nd.id.2.ints,h.2.ints⟩,?_⟩;rw [dH];refine Split.dec (fun he=>?_) (fun he=>?_)
  ·have:=hK w10 Fj
   unfold CT at this;rw [wU (i:=0) lE (by rw [<-he];exact pV eW),Nat.zero_add]at this;exact this
  ·simp only
   rw [dt (n:=(i:Int)) (by omega) (by omega)];refine⟨(0,(i:Int)+1),rfl,⟨i+1,rfl,dP,mG,?_⟩,by simp only;omega⟩;rw [yf eW,List.mem_append,List.mem_singleton,not_or];exact⟨lE,fun e=>he e.symm⟩
 ·simp only at gu
  rw [aO,bC.df];rw [List.take_of_length_le (by rw [gg];omega)]at lE;have:=hK w' kk;unfold CT at this;rw [pg.2 lE]at this;exact this
end
section
variable{w w':World}{F F' S:Nat->Prop}{A:Option Addr}{n c B:Nat}{l:List DN}{news:List Value}{r:Nat}{D:DG}{K:Value->World->Prop}
theorem E7(h:Row w B bP 33 A n c news)(hl:l.length=n)(hF:∀k,a8 A=some k->F k)
 (hc:∀(i:Nat) nd,l[i]? =some nd->∃pA pn pc,HS w pA pn nd.ps/\(∀b,pA=some b->F b.block)/\∀(j:Nat) v,(nd.id.1.push (.slice pA pn pc))[j]? =some v->news[i*33+j]? =some v):NS w F A n l:=
 ⟨hl,fun i nd hi=>by
   obtain⟨pA,pn,pc,h1,h2,h3⟩:=hc i nd hi;have:=(lgeS hi).1;obtain⟨b,rfl⟩:=Row.some h (by omega);obtain⟨_,cur,kR⟩:=Row.bE h (k:=b) rfl;exact⟨_,pA,pn,pc,rfl,aT kR,hF b rfl,fun j v hj=>by rw [lr];exact Row.cells h _ _ (h3 j v hj),h1,h2⟩⟩
theorem xH(h:NS w F A n l){cx:Nat}(h0:0<n)(hn:n<=100000):
 ∃A' c' w' news,(Builtin.append_ #[cy,cy] cy #[.slice none 0 0,.slice A n cx]).run prog w=.ok (.slice A' n c') w'/\
  Row w' w.heap.size bP 33 A' n c' news/\Kept Nil w w'/\
  ∀(i:Nat) nd,l[i]? =some nd->∃pA pn pc,HS w pA pn nd.ps/\(∀b,pA=some b->F b.block)/\∀(j:Nat) v,(nd.id.1.push (.slice pA pn pc))[j]? =some v->news[i*33+j]? =some v:=by
 obtain⟨news,e1,e2,e3,e4⟩:=h.cells n (Nat.le_refl _);have hlen:=h.len;obtain⟨nd,eW⟩:∃nd,l[0]? =some nd:=⟨_,List.getElem?_eq_getElem (by omega)⟩;obtain⟨a,_,_,_,rfl,_⟩:=h.at_ _ nd eW;obtain⟨A',c',w',hr,fk,hg,hb⟩:=fE (P:=prog) (t:=cy) (ty:=cy) (bytes:=56) xR (Row.nil w w.heap.size _ _) (a:=a) (m:=n) (cx:=cx) (news:=news) e1 (e2 a rfl) e3 (by omega) (by unfold maxLen;omega) (Nat.le_refl _);rw [Nat.zero_add]at hr fk;rw [List.nil_append]at fk;exact⟨A',c',w',news,hr,fk,Kept.eh (Kept.refl _ _) hg (fun k hk=>by cases hk),fun i nd hi=>e4 i nd (by have:=(lgeS hi).1;omega) hi⟩
theorem xI(h:Row w B bP 33 A n c news)(hn:n<=100000)(hB:B<=w.heap.size){b:Nat}{arr:Array Value}(hb:w.heap[b]? =some (.cells arr bP (0,0)))(hs:arr.size=33)(h1:∀u∈arr.toList,u.oneCell'=true):
 ∃A' c' w',(Builtin.append_ #[cy,cy] cy #[.slice A n c,.slice (some ⟨b,0,none⟩) 1 1]).run prog w=.ok (.slice A' (n+1) c') w'/\
  Row w' B bP 33 A' (n+1) c' (news++arr.toList)/\w.grownBy w' (a8 A):=by
 obtain⟨A',c',w',hr,fk,hg,hb⟩:=fE (P:=prog) (t:=cy) (ty:=cy) (bytes:=56) xR h (a:=⟨b,0,none⟩) (m:=1) (cx:=1) (news:=arr.toList) (by simpa using hs)
  (fun j u hj=>by rw [bg,Nat.zero_add,aA hb];simpa using hj) h1 (by omega) (by unfold maxLen;omega) hB
 exact⟨A',c',w',hr,fk,hg⟩
theorem Kq{nd:DN}{pA:Option Addr}{pn pc:Nat}(h:Row w B bP 33 A (n+1) c (news++(nd.id.1.push (.slice pA pn pc)).toList))(yQ:news.length=n*33)(hl:l.length=n)(hF:∀k,a8 A=some k->F k)
 (hc:∀(i:Nat) nd,l[i]? =some nd->∃pA pn pc,HS w pA pn nd.ps/\(∀b,pA=some b->F b.block)/\∀(j:Nat) v,(nd.id.1.push (.slice pA pn pc))[j]? =some v->news[i*33+j]? =some v)
 (hp:HS w pA pn nd.ps) (JD:∀b,pA=some b->F b.block):NS w F A (n+1) (l++ [nd]):=by
 refine E7 h (by simp [hl]) hF fun i md hi=>?_;rw [List.getElem?_append]at hi;split at hi
 ·obtain⟨qA,qn,qc,h1,h2,h3⟩:=hc i md hi
  exact⟨qA,qn,qc,h1,h2,fun j v hj=>by
   have:=h3 j v hj;rw [List.getElem?_append_left (lgeS this).1];exact this⟩
 ·rename_i gu
  have FG:i=n/\md=nd:=by
   cases hk:i-l.length with
   |zero=>rw [hk]at hi;exact⟨by omega,by simpa using hi.symm⟩
   |succ k=>rw [hk]at hi;simp at hi
  obtain⟨rfl,rfl⟩:=FG;exact⟨pA,pn,pc,hp,JD,fun j v hj=>by
   rw [List.getElem?_append_right (by omega),yQ,show i*33+j-i*33=j by omega,Array.getElem?_toList];exact hj⟩
theorem NS.same(h:NS w F A n l)(hk:Kept Nil w w'):NS w' F A n l:=h.aG hk fun _ _ h=>h
theorem tV.mono(h:tV w F r D)(hf:∀k,F k->F' k)(hr:¬F' r):tV w F' r D:=by
 obtain⟨A,c,cs,t,h1,h0,h2⟩:=h.ex;exact⟨⟨A,c,cs,t,h1,h0,h2.mono hf⟩,hr⟩
theorem zx(h:HT)(A:Option Addr)(n c:Nat):∀u∈(h.1.push (.slice A n c)).toList,u.oneCell'=true:=fun u hu=>by
 simp only [Array.toList_push,List.mem_append,List.mem_singleton]at hu;rcases hu with hu|rfl
 ·exact h.2.one u hu
 ·rfl
theorem Dk(H:tV w F r D)(W:jn D)(hD:D.length<=10000){h:HT}{lp:List HT}{A:Option Addr}{n c:Nat}(hl:HS w A n lp)(hn:n<=400000)
 (hK:∀w',tV w' (fun k=>F k\/(w.heap.size<=k/\k<w'.heap.size)) r (mK D h lp)->Kept (· =r) w w'->K (.int .i64 (dr D h lp)) w'):
 bk prog br.id #[.pointer (some ⟨r,0,none⟩),.agg h.1,.slice A n c] w K:=by
 have aaa:=H.lt;have hlen:=hl.len;have lE:∀w',Kept Nil w w'->∀e,dr D h lp=e->e≠0->K (.int .i64 e) w':=fun w' k e he e9=>by
  have:=hK w' ?_ (k.mono fun _ _ h=>h.elim)
  ·rw [he]at this;exact this
  ·unfold mK
   rw [if_neg (by rw [he];exact e9)];exact(H.same k).mono (fun _ h=>.inl h) (fun e=>e.elim H.gZ (fun h=>absurd h.1 (by omega)))
 refine br.of ?_;unfold br.W;intro w4;have k4:Kept Nil w w4:=(Kept.refl _ _).alloc _;have qJ:w4.heap[w.heap.size]? =some (.cells h.1 ai (0,0)):=aI w _;clear_value w4;refine⟨h.1,⟨h.2.1,Cells.bE qJ⟩,mR (H.same k4) (by omega) h fun w7 k7=>⟨_,rfl,Split.dec (fun gu=>?_) (fun PI=>?_)⟩⟩
 ·refine lE w7 (k4.tt k7) 7 ?_ (by omega)
  unfold dr;rw [if_pos (sM.1 gu)]
 have yl:h∉ids D:=fun hm=>PI (sM.2 hm);have BT:Kept Nil w w7:=k4.tt k7;refine nV (hl.same BT) hn fun GA JN w10 uB mG=>⟨GA,_,JN,rfl,?_⟩;have Fj:Kept Nil w w10:=BT.tt mG;have Bh:(di lp).length<=n:=by have:=nP lp;omega
 by_cases h0:(di lp).length=0
 ·refine Split.yes (by simp [h0]) ?_
  refine lE w10 Fj 9 ?_ (by omega);unfold dr;rw [if_neg yl,if_pos (.inl h0)]
 refine Split.no (beq_eq_false_iff_ne.2 (by omega)) ?_;by_cases h1:(di lp).length≠n
 ·refine Split.yes (bne_iff_ne.2 (by omega)) ?_
  refine lE w10 Fj 9 ?_ (by omega);unfold dr;rw [if_neg yl,if_pos (.inr (by omega))]
 replace h1:(di lp).length=n:=by omega
 refine Split.no (by rw [h1];simp) ?_;refine br.b9 (I:=fun s w'=>∃i:Nat,s=(0,(i:Int))/\i<=(di lp).length/\(∀p∈(di lp).take i,p∈ids D)/\Kept Nil w10 w') (μ:=fun s _=>(((di lp).length:Int)-s.2).toNat) (s:=(0,0)) ⟨0,rfl,Nat.zero_le _,by simp,Kept.refl _ _⟩ ?_;rintro s w' ⟨i,rfl,hi,cU,kw⟩;have kk:Kept Nil w w':=Fj.tt kw;have YU:bI w' w7.heap.size GA (di lp).length JN (di lp):=Row.aG uB kw (fun _ _ h=>h);refine Split.dec (fun jx=>?_) (fun gu=>?_)
 ·simp only at jx
  have dP:i<(di lp).length:=by omega
  obtain⟨x,hx⟩:∃x,(di lp)[i]? =some x:=⟨_,List.getElem?_eq_getElem dP⟩;refine YU.hs.load (i:=(i:Int)) (by omega) hx (mR (H.same kk) (by omega) x fun w2 k2=>⟨_,rfl,Split.dec (fun ym=>?_) (fun jt=>?_)⟩)
  ·have Xp:=pZ.1 ym
   refine lE w2 (kk.tt k2) 6 ?_ (by omega);unfold dr;rw [if_neg yl,if_neg (by omega),if_pos ⟨x,List.mem_of_getElem? hx,Xp⟩]
  ·simp only
   rw [dt (n:=(i:Int)) (by omega) (by omega)];refine⟨(0,(i:Int)+1),rfl,⟨i+1,rfl,dP,fun p hp=>?_,kw.tt k2⟩,by simp only;omega⟩;rcases(bJ hx).1 hp with hp|rfl
   ·exact cU p hp
   ·exact sM.1 (by omega)
 ·simp only at gu
  rw [List.take_of_length_le (by omega)]at cU;have Vx:dr D h lp=0:=by
   unfold dr;rw [if_neg yl,if_neg (by omega),if_neg (fun⟨p,hp,K2⟩=>K2 (cU p hp))]
  have hD':mK D h lp=D++ [⟨h,di lp⟩]:=by unfold mK;rw [if_pos Vx]
  rw [Vx,hD']at hK;have Nn:=W.pos;rw [aO,br.df];unfold br.cH;intro Da;have OJ:Kept Nil w Da:=kk.drew;have HO:Kept Nil w10 Da:=kw.drew;have ahD:Da.heap=w'.heap:=rfl;clear_value Da;have VT:Da.heap[w.heap.size]? =some (.cells h.1 ai (0,0)):=(HO.heap (mG.heap (k7.heap qJ (fun h=>h)) (fun h=>h)) (fun h=>h));obtain⟨A,c,aks,t27,H7,Vr,rW⟩:=(H.same OJ).ex;refine⟨A,_,c,by rw [add_zero,aA H7];exact Vr,h.1,⟨h.2.1,Cells.bE VT⟩,?_⟩;rw [F6];have lO:(h.1.push (.slice GA (di lp).length JN)).size=33:=by rw [Array.size_push,h.2.1]
  have aiE:∀ {v},Kept Nil w v->w.heap.size<=v.heap.size:=fun k=>k.size;have acF:∀b,GA=some b->w.heap.size<=b.block:=fun b hb=>Nat.le_trans BT.size (Row.bE uB (k:=b.block) (by rw [hb];rfl)).1;have FI:∀(A':Option Addr) (c':Nat) (v:World) (news:List Value),Row v Da.heap.size bP 33 A' (D.length+1) c' (news++(h.1.push (.slice GA (di lp).length JN)).toList)->news.length=D.length*33->Kept Nil Da v->
   (∀(i:Nat) nd,D[i]? =some nd->∃pA pn pc,HS v pA pn nd.ps/\(∀b,pA=some b->F b.block)/\∀(j:Nat) u,(nd.id.1.push (.slice pA pn pc))[j]? =some u->news[i*33+j]? =some u)->
   Wr v ((⟨r,0,none⟩:Addr).add 0)/\K (.int .i64 0) (v.setCell ((⟨r,0,none⟩:Addr).add 0) (.slice A' (D.length+1) c')):=by
   intro A' c' v news fk yQ kv vp;have Ov:Kept Nil w v:=OJ.tt kv;obtain⟨A0,c0,cs0,t0,jc,abN,_⟩:=(H.same Ov).ex;have MX:=(Array.getElem?_eq_some_iff.1 abN).1;rw [add_zero];have k3:Kept (· =r) v (v.setCell ⟨r,0,none⟩ (.slice A' (D.length+1) c')):=Kept.setCell (S:=fun k=>k=r) (Kept.refl _ v) (p:=⟨r,0,none⟩) (fun _=>rfl) _;refine⟨dO jc MX,hK _ ⟨⟨A',c',cs0.setIfInBounds 0 (.slice A' (D.length+1) c'),t0,?_,?_,?_⟩,fun e=>e.elim H.gZ (fun h=>absurd h.1 (by omega))⟩ ((Ov.mono (S':=fun k=>k=r) (fun _ _ h=>h.elim)).tt k3)⟩
   ·rw [dc jc 0]
   ·rw [List.length_append]
    simp [MX]
   ·have Cg:=k3.size
    have Wq:∀b,GA=some b->b.block<v.heap.size:=fun b hb=>by
     obtain⟨_,cur,hc⟩:=Row.bE uB (k:=b.block) (by rw [hb];rfl);have:=aT hc;have:=HO.size;have:=kv.size;omega
    have Py:=Kq (F:=fun k=>F k\/(w.heap.size<=k/\k<(v.setCell ⟨r,0,none⟩ (.slice A' (D.length+1) c')).heap.size)) (nd:=⟨h,di lp⟩) fk yQ rfl (fun k hk=>by
     obtain⟨h1,cur,hc⟩:=Row.bE fk hk;have:=aT hc;have:=OJ.size;exact .inr ⟨by omega,by omega⟩) (fun i nd hi=>by
     obtain⟨pA,pn,pc,h1,h2,h3⟩:=vp i nd hi;exact⟨pA,pn,pc,h1,fun b hb=>.inl (h2 b hb),h3⟩) ((uB.hs.same HO).same kv) (fun b hb=>.inr ⟨acF b hb,by have:=Wq b hb;omega⟩)
    have:=Py.aG k3 (fun k hk e=>by
     subst e;rcases hk with hk|hk
     ·exact H.gZ hk
     ·omega)
    rw [List.length_append];exact this
  refine⟨?_,?_⟩
  ·obtain⟨A1,c1,rU,news,mE,lK,BY,vp⟩:=xH rW (cx:=c) Nn (by omega)
   refine⟨A1,_,c1,rU,mE,⟨h.1,rfl,h.2.1,Cells.bE (BY.heap VT (fun h=>h))⟩,lO,?_⟩;intro nK;have ZS:nK=rU.alloc (.cells (h.1.push (.slice GA (di lp).length JN)) bP):=by
    show rU.alloc (.cells ((h.1.push (.slice GA (di lp).length JN)).toList++ []).toArray bP)=_
    rw [List.append_nil,Array.toArray_toList]
   have Be:Kept Nil rU nK:=(Kept.refl _ _).alloc _;have VQ:nK.heap[rU.heap.size]? =some (.cells (h.1.push (.slice GA (di lp).length JN)) bP (0,0)):=by rw [ZS];exact aI rU _
   clear_value nK;have zt:=Row.aG lK Be (fun _ _ h=>h);obtain⟨A2,c2,tD,jD,fW,Ln⟩:=xI zt (by omega) (Nat.le_trans BY.size Be.size) VQ lO (zx _ _ _ _);have tJ:Kept Nil Da tD:=Kept.eh (BY.tt Be) Ln (fun k hk=>(Row.bE lK hk).1);refine⟨A2,_,c2,tD,jD,?_⟩;exact FI A2 c2 tD news fW (Row.len lK) tJ (fun i nd hi=>by
    obtain⟨pA,pn,pc,h1,h2,h3⟩:=vp i nd hi;exact⟨pA,pn,pc,h1.same tJ,h2,h3⟩)
  ·refine⟨lO,?_⟩
   intro Gl;have ZR:Gl=Da.alloc (.cells (h.1.push (.slice GA (di lp).length JN)) bP):=by
    show Da.alloc (.cells ((h.1.push (.slice GA (di lp).length JN)).toList++ []).toArray bP)=_
    rw [List.append_nil,Array.toArray_toList]
   have HC:Kept Nil Da Gl:=(Kept.refl _ _).alloc _;have Lr:Gl.heap[Da.heap.size]? =some (.cells (h.1.push (.slice GA (di lp).length JN)) bP (0,0)):=by rw [ZR];exact aI Da _
   clear_value Gl;refine⟨by rw [add_zero,aA (HC.heap H7 (fun h=>h))];exact Vr,?_⟩;obtain⟨A1,c1,NJ,news,mE,lK,OH,vp⟩:=xH (rW.same HC) (cx:=c) Nn (by omega);have VO:=OH.heap Lr (fun h=>h);obtain⟨A2,c2,Jt,jD,fW,Ln⟩:=xI lK (by omega) OH.size VO lO (zx _ _ _ _);have Te:Kept Nil Gl Jt:=Kept.eh OH Ln (fun k hk=>(Row.bE lK hk).1);have Xm:Kept Nil Da Jt:=HC.tt Te;refine⟨A1,_,c1,NJ,mE,A2,_,c2,Jt,jD,?_⟩;exact FI A2 c2 Jt news (Row.base fW fun k hk=>Nat.le_trans HC.size (Row.bE fW hk).1) (Row.len lK) Xm (fun i nd hi=>by
    obtain⟨pA,pn,pc,h1,h2,h3⟩:=vp i nd hi;exact⟨pA,pn,pc,h1.same Te,h2,h3⟩)
end
theorem sk:∀ {l m:List HT},l.Nodup->(∀x∈l,x∈m)->l.length<=m.length
 | [],_,_,_=>Nat.zero_le _
 |x::l,m,hn,h=>by
  rw [List.nodup_cons]at hn;have hx:=h x (by simp);have:=sk (l:=l) (m:=m.erase x) hn.2 (fun y hy=>by
   have e9:y≠x:=fun e=>hn.1 (e▸hy);exact(List.mem_erase_of_ne e9).2 (h y (by simp [hy])))
  rw [List.length_erase_of_mem hx]at this;have jt:0<m.length:=List.length_pos_of_mem hx;simp only [List.length_cons];omega
structure PB(w0 w':World)(D:DG)(l out:List HT)(A1:Option Addr)(c1:Nat)(A2:Option Addr)(c2:Nat):Prop where
 r1:bI w' w0.heap.size A1 out.length c1 out
 r2:bI w' w0.heap.size A2 (l.length+out.length) c2 (l++out)
 ap:∀k,a8 A1=some k->a8 A2≠some k
 nd:out.Nodup
 yF:∀x∈out,∃h∈l,dN D x h
 kp:Kept Nil w0 w'
section
variable{w w' iR:World}{F S:Nat->Prop}{D:DG}{l out:List HT}{A1 A2:Option Addr}{c1 c2 r:Nat}{K:Value->World->Prop}
theorem PB.same(h:PB w w' D l out A1 c1 A2 c2)(k:Kept Nil w' iR):PB w iR D l out A1 c1 A2 c2:=
 ⟨Row.aG h.r1 k (fun _ _ h=>h),Row.aG h.r2 k (fun _ _ h=>h),h.ap,h.nd,h.yF,h.kp.tt k⟩
theorem PB.len(h:PB w w' D l out A1 c1 A2 c2)(W:jn D):out.length<=D.length:=by
 rw [<-gg D];exact sk h.nd fun x hx=>by obtain⟨_,_,ha⟩:=h.yF x hx;exact(ha.mem W).1
theorem iV(w:World)(x:HT):HS (w.alloc (.cells (x.1.toList++ []).toArray ai)) (some ⟨w.heap.size,0,none⟩) 1 [x]:=by
 refine HS.one (t:=ai) (fr:=(0,0)) ?_;rw [List.append_nil,Array.toArray_toList];exact aI w _
theorem PB.add(h:PB w w' D l out A1 c1 A2 c2){x:HT}(hx:x∉out)(ha:∃h∈l,dN D x h)(hb:l.length+out.length<=500000):
 ∃Jq Gx v,(Builtin.append_ #[aC,aC] aC #[.slice A1 out.length c1,.slice (some ⟨w'.heap.size,0,none⟩) 1 1]).run prog (w'.alloc (.cells (x.1.toList++ []).toArray ai))=.ok (.slice Jq (out.length+1) Gx) v/\Kept (fun k=>w.heap.size<=k) w' v/\
 ∃Gz yT u,(Builtin.append_ #[aC,aC] aC #[.slice A2 (l.length+out.length) c2,.slice (some ⟨v.heap.size,0,none⟩) 1 1]).run prog (v.alloc (.cells (x.1.toList++ []).toArray ai))=.ok (.slice Gz (l.length+out.length+1) yT) u/\
  PB w u D l (out++ [x]) Jq Gx Gz yT:=by
 have hkw:=h.kp.size;have k1:Kept Nil w' (w'.alloc (.cells (x.1.toList++ []).toArray ai)):=(Kept.refl _ _).alloc _;have yi:=iV w' x;generalize w'.alloc (.cells (x.1.toList++ []).toArray ai)=w1 at k1 yi⊢;have r1:bI w1 w.heap.size A1 out.length c1 out:=Row.aG h.r1 k1 (fun _ _ h=>h);have ah8:=k1.size;obtain⟨Jq,Gx,v,mE,lK,hg1,yq⟩:=cD (cx:=1) aC r1 yi (by omega) (by omega);have Zi:Kept (fun k=>a8 A1=some k) w1 v:=Kept.grown (Kept.refl _ _) hg1 (fun k hk _=>hk);have hA1:∀k,a8 A1=some k->w.heap.size<=k/\k<w'.heap.size:=fun k hk=>by
  obtain⟨h1,cur,hc⟩:=Row.bE h.r1 hk;exact⟨h1,aT hc⟩
 have Wp:∀k,a8 A2=some k->w.heap.size<=k/\k<w'.heap.size:=fun k hk=>by
  obtain⟨h1,cur,hc⟩:=Row.bE h.r2 hk;exact⟨h1,aT hc⟩
 have kv:Kept (fun k=>w.heap.size<=k) w' v:=(k1.mono (fun _ _ h=>h.elim)).trans Zi (fun k _ e=>(hA1 k e).1);refine⟨Jq,Gx,v,mE,kv,?_⟩;have k2:Kept Nil v (v.alloc (.cells (x.1.toList++ []).toArray ai)):=(Kept.refl _ _).alloc _;have Ae:=iV v x;generalize v.alloc (.cells (x.1.toList++ []).toArray ai)=w2 at k2 Ae⊢;have r2v:bI v w.heap.size A2 (l.length+out.length) c2 (l++out):=Row.aG (Row.aG h.r2 k1 (fun _ _ h=>h)) Zi (fun k hk e=>h.ap k e hk);have r2:bI w2 w.heap.size A2 (l.length+out.length) c2 (l++out):=Row.aG r2v k2 (fun _ _ h=>h);have Ph:=Zi.size;have ah5:=k2.size;obtain⟨Gz,yT,u,jD,fW,Ln,lh⟩:=cD (cx:=1) aC r2 Ae (by omega) (by omega);have ku:Kept (fun k=>a8 A2=some k) w2 u:=Kept.grown (Kept.refl _ _) Ln (fun k hk _=>hk);have acE:∀k,a8 Jq=some k->k<v.heap.size:=fun k hk=>by
  obtain⟨_,cur,hc⟩:=Row.bE lK hk;exact aT hc
 have VY:∀k,a8 Jq=some k->a8 A2≠some k:=fun k hk e=>by
  rcases yq k hk with h'|h'
  ·exact h.ap k h' e
  ·have:=(Wp k e).2;omega
 have Sk:bI u w.heap.size Jq (out.length+1) Gx (out++ [x]):=Row.aG (Row.aG lK k2 (fun _ _ h=>h)) ku (fun k hk e=>VY k hk e);refine⟨Gz,yT,u,jD,?_⟩;refine⟨?_,?_,fun k hk e=>?_,?_,fun y hy=>?_,?_⟩
 ·rw [List.length_append];exact Sk
 ·rw [List.length_append,<-List.append_assoc,List.length_singleton,<-Nat.add_assoc];exact fW
 ·rcases lh k e with h'|h'
  ·exact VY k hk h'
  ·have:=acE k hk;omega
 ·rw [List.nodup_append]
  exact⟨h.nd,by simp,fun u hu v hv e=>hx (by rw [List.mem_singleton]at hv;rw [<-hv,<-e];exact hu)⟩
 ·rw [List.mem_append,List.mem_singleton]at hy
  rcases hy with hy|rfl
  ·exact h.yF y hy
  ·exact ha
 ·exact((h.kp.trans kv (fun k hk e=>absurd hk (by omega))).tt k2).trans ku (fun k hk e=>absurd (Wp k e).1 (by omega))
theorem EX(W:jn D){l out:List HT}(ha:∀x∈out,∃h∈l,dN D x h)(hc:∀h∈l++out,∀p,lH D p h->p∈out):di out=du D l:=by
 refine Dp fun a=>⟨fun h=>?_,fun⟨_,h,hl,han⟩=>?_⟩
 ·obtain⟨b,hb,kM⟩:=ha a h
  exact⟨(kM.mem W).1,b,hb,kM⟩
 ·have key:∀ {a h},dN D a h->h∈l++out->a∈out:=by
   intro a h han
   induction han with
   |one hp=>exact fun hm=>hc _ hm _ hp
   |more _ hp ih=>exact fun hm=>ih (by rw [List.mem_append];exact .inr (hc _ hm _ hp))
  exact key han (by rw [List.mem_append];exact .inl hl)
theorem uD(H:tV w F r D)(W:jn D)(hD:D.length<=10000){A:Option Addr}{n c:Nat}(hl:HS w A n l)(hn:n<=10000)
 (hK:∀A' c' w',bI w' w.heap.size A' (du D l).length c' (du D l)->Kept Nil w w'->K (.slice A' (du D l).length c') w'):
 bk prog aF.id #[.pointer (some ⟨r,0,none⟩),.slice A n c] w K:=by
 refine aF.of ?_;unfold aF.W;have hlen:=hl.len;obtain⟨A4,c4,w4,xn,iE,DY,qJ⟩:=cD (cx:=c) aC (bI.nil w w.heap.size) hl (by omega) (Nat.le_refl _);rw [Nat.zero_add]at xn iE;rw [List.nil_append]at iE;have k4:Kept Nil w w4:=Kept.eh (Kept.refl _ _) DY (fun k hk=>by cases hk);refine⟨A4,n,c4,w4,xn,?_⟩;refine aF.b9 (I:=fun s w'=>∃(i:Nat) (out:List HT) (A1:Option Addr) (c1:Nat) (A2:Option Addr) (c2:Nat),s=(A1,out.length,c1,A2,n+out.length,c2,(i:Int))/\PB w w' D l out A1 c1 A2 c2/\i<=n+out.length/\∀h∈(l++out).take i,∀p,lH D p h->p∈out)
  (μ:=fun s _=>((n:Int)+D.length-s.2.2.2.2.2.2).toNat) (s:=(none,0,0,A4,n,c4,0))
  ⟨0,[],none,0,A4,c4,by simp,⟨bI.nil _ _,by simpa [hlen]using iE,(fun k hk=>by cases hk),List.Pairwise.nil,by simp,k4⟩,by omega,by simp⟩ ?_
 rintro s w' ⟨i,out,A1,c1,A2,c2,rfl,Ah,hi,qR⟩;have Uh:=Ah.len W;have jD:=Ah.r2;rw [hlen]at jD;refine Split.dec (fun jx=>?_) (fun gu=>?_)
 ·simp only at jx
  have dP:i<n+out.length:=by omega
  obtain⟨h,hh⟩:∃h,(l++out)[i]? =some h:=⟨_,List.getElem?_eq_getElem (by simp;omega)⟩;refine jD.hs.load (i:=(i:Int)) (by omega) hh (mR (H.same Ah.kp) (by omega) h fun lV rI=>⟨_,rfl,Split.dec (fun ym=>?_) (fun jt=>?_)⟩)
  ·simp only
   rw [dt (n:=(i:Int)) (by omega) (by omega)];refine⟨(A1,out.length,c1,A2,n+out.length,c2,(i:Int)+1),rfl,⟨i+1,out,A1,c1,A2,c2,rfl,Ah.same rI,by omega,fun x hx p hp=>?_⟩,by simp only;omega⟩;rcases(bJ hh).1 hx with hx|rfl
   ·exact qR x hx p hp
   ·exact absurd (dN.mem W (.one hp)).2 (pZ.1 ym)
  ·have iI:h∈ids D:=sM.1 (by omega)
   obtain⟨nd,h1,h2,h3⟩:=LR iI;have DP:=Ah.same rI;have H13:=H.same DP.kp;have Cy:∃b∈l,h=b\/dN D h b:=by
    have hm:=List.mem_of_getElem? hh;rw [List.mem_append]at hm;rcases hm with hm|hm
    ·exact⟨h,hm,.inl rfl⟩
    ·obtain⟨b,hb,kM⟩:=Ah.yF h hm
     exact⟨b,hb,.inr kM⟩
   have jE:∀p,lH D p h↔p∈nd.ps:=fun p=>by
    constructor
    ·rintro⟨md,xo,e,hp⟩
     obtain⟨j,hj⟩:=List.mem_iff_getElem?.1 xo;have:=W.inj hj h2 (by rw [e,h3]);subst this;rw [h2]at hj;cases hj;exact hp
    ·exact fun hp=>⟨nd,List.mem_of_getElem? h2,h3,hp⟩
   have qG:nd.ps.length<=D.length:=by
    rw [<-gg D];exact sk (W.ss nd (List.mem_of_getElem? h2)).nodup fun x hx=>(dN.mem W (.one ((jE x).2 hx))).1
   refine H.go' DP.kp fun A c rW=>rW.ps' DP.kp h1 h2 fun pA pn pc oB=>?_;have K2:=oB.len;refine aF.gC (I:=fun s w'=>∃(k:Nat) (mS:List HT) (A1:Option Addr) (c1:Nat) (A2:Option Addr) (c2:Nat),s=(A1,mS.length,c1,A2,n+mS.length,c2,(k:Int))/\PB w w' D l mS A1 c1 A2 c2/\k<=pn/\(∃m,mS=out++m)/\(∀p∈nd.ps.take k,p∈mS))
    (μ:=fun s _=>((pn:Int)-s.2.2.2.2.2.2).toNat) (s:=(A1,out.length,c1,A2,n+out.length,c2,0)) ⟨0,out,A1,c1,A2,c2,rfl,DP,Nat.zero_le _,⟨[],by simp⟩,by simp⟩ ?_
   rintro s w1 ⟨k,mS,B1,d1,B2,d2,rfl,hq,hk,⟨m,hm⟩,fC⟩;have ain:=hq.len W;refine Split.dec (fun PS=>?_) (fun P1=>?_)
   ·simp only at PS
    have Bj:k<pn:=by omega
    obtain⟨p,hp⟩:∃p,nd.ps[k]? =some p:=⟨_,List.getElem?_eq_getElem (by omega)⟩;have T9:=List.mem_of_getElem? hp;refine(oB.same hq.kp).load (i:=(k:Int)) (by omega) hp (xV p hq.r1.hs (by simp only;omega) fun wJ Fq=>⟨_,rfl,?_⟩);have K0:=hq.same Fq;have aii:(nd.ps.length:Int)<=10000:=by omega
    by_cases wm:p∈mS
    ·refine Split.no (by rw [decide_eq_true wm];rfl) ?_
     simp only;rw [dt (n:=(k:Int)) (by omega) (by omega)];refine⟨(B1,mS.length,d1,B2,n+mS.length,d2,(k:Int)+1),rfl,⟨k+1,mS,B1,d1,B2,d2,rfl,K0,Bj,⟨m,hm⟩,fun q Ag=>?_⟩,by simp only;omega⟩;rcases(bJ hp).1 Ag with Ag|rfl
     ·exact fC q Ag
     ·exact wm
    ·refine Split.yes (by rw [decide_eq_false wm];rfl) ?_
     have VZ:∃b∈l,dN D p b:=by
      obtain⟨b,hb,e|e⟩:=Cy
      ·subst e;exact⟨_,hb,.one ((jE p).2 T9)⟩
      ·exact⟨b,hb,dN.trans (.one ((jE p).2 T9)) e⟩
     obtain⟨Jq,Gx,v,mE,kv,Gz,yT,u,KZ,hqu⟩:=K0.add wm VZ (by omega);rw [hlen]at KZ;refine(oB.same K0.kp).load (i:=(k:Int)) (by omega) hp ⟨p.2.1,?_⟩;refine⟨Jq,_,Gx,v,mE,?_⟩;have Ov:Kept Nil w v:=K0.kp.trans kv (fun k hk e=>absurd hk (by omega));refine(oB.same Ov).load (i:=(k:Int)) (by omega) hp ⟨p.2.1,?_⟩;refine⟨Gz,_,yT,u,KZ,?_⟩;simp only;rw [dt (n:=(k:Int)) (by omega) (by omega)];have e1:mS.length+1=(mS++ [p]).length:=by simp
     rw [e1,show n+mS.length+1=n+(mS++ [p]).length by simp;omega];refine⟨(Jq,(mS++ [p]).length,Gx,Gz,n+(mS++ [p]).length,yT,(k:Int)+1),rfl,⟨k+1,mS++ [p],Jq,Gx,Gz,yT,rfl,hqu,Bj,⟨m++ [p],by rw [hm];simp⟩,fun q Ag=>?_⟩,by simp only;omega⟩;rw [List.mem_append,List.mem_singleton];rcases(bJ hp).1 Ag with Ag|rfl
     ·exact .inl (fC q Ag)
     ·exact .inr rfl
   ·simp only at P1
    rw [aO,aF.jA];unfold aF.ik;rw [dt (n:=(i:Int)) (by omega) (by omega)];rw [List.take_of_length_le (by omega)]at fC;refine⟨(B1,mS.length,d1,B2,n+mS.length,d2,(i:Int)+1),rfl,⟨i+1,mS,B1,d1,B2,d2,rfl,hq,by rw [hm];simp;omega,fun x hx q HX=>?_⟩,by simp only;omega⟩;have hh':(l++mS)[i]? =some h:=by
     rw [hm,<-List.append_assoc,List.getElem?_append_left (lgeS hh).1];exact hh
    rcases(bJ hh').1 hx with hx|rfl
    ·have Xr:x∈(l++out).take i:=by
      rw [hm,<-List.append_assoc,List.take_append_of_le_length (by simp;omega)]at hx;exact hx
     rw [hm,List.mem_append];exact .inl (qR x Xr q HX)
    ·exact fC q ((jE q).1 HX)
 ·simp only at gu
  have hie:i=n+out.length:=by omega
  rw [aO,aF.df];rw [List.take_of_length_le (by simp;omega)]at qR;have e:=EX W Ah.yF qR;refine nV Ah.r1.hs (by simp only;omega) fun A' c' w2 row k2=>⟨A',_,c',rfl,?_⟩;rw [e]at row⊢;exact hK A' c' w2 (Row.base row fun b hb=>Nat.le_trans Ah.kp.size (Row.bE row hb).1) (Ah.kp.tt k2)
end
section
variable{w w' iR:World}{F S:Nat->Prop}{D:DG}{is:HT->Prop}{i:Nat}{l out:List HT}{A:Option Addr}{c r:Nat}{K:Value->World->Prop}
theorem nW(H:tV w F r D)(W:jn D)(hD:D.length<=10000)(a b:HT)(hK:∀w' (x:Bool),(x=true↔dN D a b)->Kept Nil w w'->K (.bool x) w'):
 bk prog dJ.id #[.pointer (some ⟨r,0,none⟩),.agg a.1,.agg b.1] w K:=by
 refine dJ.of ?_;unfold dJ.W;intro w4 w5 w6;have k4:Kept Nil w w4:=(Kept.refl _ _).alloc _;have Ar:w4.heap[w.heap.size]? =some (.cells a.1 ai (0,0)):=aI w _;have k5:Kept Nil w4 w5:=(Kept.refl _ _).alloc _;have oE:w5.heap[w4.heap.size]? =some (.cells b.1 ai (0,0)):=aI w4 _;have k6:Kept Nil w5 w6:=(Kept.refl _ _).drew;have wu:=k6.heap (k5.heap Ar (fun h=>h)) (fun h=>h);have qh:=k6.heap oE (fun h=>h);have Zd:Kept Nil w w6:=(k4.tt k5).tt k6;clear_value w6;refine⟨a.1,⟨a.2.1,Cells.bE wu⟩,mR (H.same Zd) (by omega) a fun w9 k9=>⟨_,rfl,Split.dec (fun gu=>?_) (fun PI=>?_)⟩⟩
 ·have ha9:=k9.heap wu (fun h=>h)
  have SK:Kept Nil w w9:=Zd.tt k9;refine⟨b.1,⟨b.2.1,Cells.bE (k9.heap qh (fun h=>h))⟩,a.1,⟨a.2.1,Cells.bE ha9⟩,b.2.1,?_⟩;intro lV;have rI:Kept Nil w9 lV:=(Kept.refl _ _).alloc _;have jz:HS lV (some ⟨w9.heap.size,0,none⟩) 1 [b]:=iV w9 b;clear_value lV;have SP:Kept Nil w lV:=SK.tt rI;have V1:=rI.heap ha9 (fun h=>h);refine⟨⟨a.1,rfl,a.2.1,Cells.bE V1⟩,uD (H.same SP) W hD jz (by omega) fun A15 c15 nn Sl tj=>⟨A15,_,c15,rfl,?_⟩⟩;have qG:=mc D fun x=>∃h∈ [b],dN D x h;refine⟨⟨a.1,rfl,a.2.1,Cells.bE (tj.heap V1 (fun h=>h))⟩,xV a Sl.hs (by unfold du;omega) fun rV Fs=>⟨_,rfl,?_⟩⟩;refine hK rV _ ?_ ((SP.tt tj).tt Fs);rw [decide_eq_true_iff];unfold du;rw [jb];constructor
  ·rintro⟨_,h,hh,ha⟩
   rw [List.mem_singleton]at hh;subst hh;exact ha
  ·intro ha
   exact⟨(ha.mem W).1,b,by simp,ha⟩
 ·refine hK w9 false ?_ (Zd.tt k9)
  constructor
  ·intro h;cases h
  ·intro ha;exact absurd (sM.2 (ha.mem W).1) PI
theorem Hi(W:jn D){j:Nat}{nd:DN}(h2:D[j]? =some nd)(p:HT):lH D p nd.id↔p∈nd.ps:=by
 constructor
 ·rintro⟨md,xo,e,hp⟩
  obtain⟨k,hk⟩:=List.mem_iff_getElem?.1 xo;have:=W.inj hk h2 e;subst this;rw [h2]at hk;cases hk;exact hp
 ·exact fun hp=>⟨nd,List.mem_of_getElem? h2,rfl,hp⟩
theorem ES(H:tV w F r D)(W:jn D)(hD:D.length<=10000)(a b:HT)(hK:∀w' (x:Bool),(x=true↔a≠b/\¬dN D a b/\¬dN D b a)->Kept Nil w w'->K (.bool x) w'):
 bk prog dX.id #[.pointer (some ⟨r,0,none⟩),.agg a.1,.agg b.1] w K:=by
 refine dX.of ?_;unfold dX.W;intro w4 w5;have k4:Kept Nil w w4:=(Kept.refl _ _).alloc _;have Ar:w4.heap[w.heap.size]? =some (.cells a.1 ai (0,0)):=aI w _;have k5:Kept Nil w4 w5:=(Kept.refl _ _).alloc _;have oE:w5.heap[w4.heap.size]? =some (.cells b.1 ai (0,0)):=aI w4 _;have Lv:=k5.heap Ar (fun h=>h);have Mg:Kept Nil w w5:=k4.tt k5;clear_value w5;refine⟨a.1,⟨a.2.1,Cells.bE Lv⟩,b.1,⟨b.2.1,Cells.bE oE⟩,⟨a.2.ints,b.2.ints⟩,?_⟩;rw [dH];by_cases e:a=b
 ·refine Split.no (by rw [decide_eq_true e];rfl) ?_
  exact hK w5 false (by simp [e]) Mg
 ·refine Split.yes (by rw [decide_eq_false e];rfl) ?_
  refine⟨a.1,⟨a.2.1,Cells.bE Lv⟩,b.1,⟨b.2.1,Cells.bE oE⟩,nW (H.same Mg) W hD a b fun qi x hx DF=>⟨x,rfl,?_⟩⟩;cases x with
  |true=>
   refine Split.no rfl ?_;exact hK qi false (by simp [hx.1 rfl]) (Mg.tt DF)
  |false=>
   refine Split.yes rfl ?_;have hn:¬dN D a b:=fun h=>by have:=hx.2 h;cases this
   have SQ:=Mg.tt DF;refine⟨b.1,⟨b.2.1,Cells.bE (DF.heap oE (fun h=>h))⟩,a.1,⟨a.2.1,Cells.bE (DF.heap Lv (fun h=>h))⟩,nW (H.same SQ) W hD b a fun jw y hy mT=>⟨y,rfl,?_⟩⟩;refine hK jw _ ?_ (SQ.tt mT);rw [Bool.not_eq_true',<-Bool.not_eq_true,hy];exact⟨fun h=>⟨e,hn,h⟩,fun h=>h.2.2⟩
end
structure NM where
 b:Nat
 pA:Option Addr
 pn:Nat
 pc:Nat
 cA:Option Addr
 cn:Nat
 cc:Nat
 rA:Option Addr
 rn:Nat
 rc:Nat
 ws:List Nat
def fP(h:HT)(m:NM):Array Value:=h.1++ #[.slice m.pA m.pn m.pc,.slice m.cA m.cn m.cc,.slice m.rA m.rn m.rc]
theorem uV(h:HT)(m:NM):(fP h m).size=35:=by unfold fP;rw [Array.size_append,h.2.1];rfl
theorem Hl(h:HT)(m:NM){j:Nat}{v:Value}(hj:h.1[j]? =some v):(fP h m)[j]? =some v:=by
 unfold fP;rw [Array.getElem?_append_left (Array.getElem?_eq_some_iff.1 hj).1];exact hj
theorem Hm(h:HT)(m:NM):(fP h m)[33]? =some (.slice m.cA m.cn m.cc):=by
 unfold fP;rw [Array.getElem?_append_right (by rw [h.2.1];omega),h.2.1];rfl
theorem zI(h:HT)(m:NM):(fP h m)[34]? =some (.slice m.rA m.rn m.rc):=by
 unfold fP;rw [Array.getElem?_append_right (by rw [h.2.1];omega),h.2.1];rfl
theorem E8{h h':HT}{m m':NM}(e:fP h m=fP h' m'):h=h':=by
 apply Subtype.ext;have h1:=h.2.1;have h2:=h'.2.1;have:=congrArg (fun a:Array Value=>a.toList.take 32) e;unfold fP at this;simp only [Array.toList_append]at this;rw [List.take_left' (by simpa using h1),List.take_left' (by simpa using h2)]at this;exact Array.ext' this
structure qN(w:World)(S F:Nat->Prop)(D:DG)(ch:List HT)(nd:DN)(m:NM):Prop where
 bE:w.heap[m.b]? =some (.cells (fP nd.id m) dM (0,0))
 fY:S m.b
 ps:HS w m.pA m.pn nd.ps
 Kj:∀a,m.pA=some a->F a.block
 ch:bI w 0 m.cA m.cn m.cc ch
 QL:∀k,a8 m.cA=some k->S k
 past:US w m.rA m.rn m.ws
 ph:∀a,m.rA=some a->F a.block
 ok:okW m.ws
 bits:∀j,bit m.ws j=true↔∃nj,D[j]? =some nj/\dN D nj.id nd.id
 small:m.rn<=200
structure GV(w:World)(S F:Nat->Prop)(g:Nat)(D:DG)(C:HT->List HT)(bl c mb:Nat)(M:List NM):Prop where
 top:w.heap[g]? =some (.cells #[.slice (some ⟨bl,0,none⟩) D.length c,.map (some mb)] gS (0,0))
 row:Row w 0 fh 1 (some ⟨bl,0,none⟩) D.length c (M.map fun m=>.pointer (some ⟨m.b,0,none⟩))
 map:IsMap w mb (ids D)
 len:M.length=D.length
 node:∀(i:Nat) nd m,D[i]? =some nd->M[i]? =some m->qN w S F D (C nd.id) nd m
 apart:∀(i j:Nat) m m',M[i]? =some m->M[j]? =some m'->i≠j->∀k,a8 m.cA=some k->a8 m'.cA≠some k
 gY:S g
 tq:S bl
 vw:S mb
 Gw:∀k,S k->¬F k
 low:∀k,S k\/F k->k<w.heap.size
def C5(w:World)(S F:Nat->Prop)(g:Nat)(D:DG):Prop:=∃bl c mb M,GV w S F g D (gE D) bl c mb M
section
variable{w w':World}{S F S' F':Nat->Prop}{g bl c mb:Nat}{D:DG}{C:HT->List HT}{M:List NM}{K:Value->World->Prop}
theorem qN.aG{ch:List HT}{nd:DN}{m:NM}{S0:Nat->Prop}(h:qN w S F D ch nd m)(hk:Kept S0 w w')(hS:∀k,S k->¬S0 k)(hF:∀k,F k->¬S0 k):qN w' S F D ch nd m:=
 ⟨hk.heap h.bE (hS _ h.fY),h.fY,h.ps.aG hk (fun a ha=>hF _ (h.Kj a ha)),h.Kj,Row.aG h.ch hk (fun k hb=>hS k (h.QL k hb)),h.QL,h.past.aG hk (fun a ha=>hF _ (h.ph a ha)),h.ph,h.ok,h.bits,h.small⟩
theorem GV.aG{S0:Nat->Prop}(h:GV w S F g D C bl c mb M)(hk:Kept S0 w w')(hS:∀k,S k->¬S0 k)(hF:∀k,F k->¬S0 k):GV w' S F g D C bl c mb M:=
 ⟨hk.heap h.top (hS _ h.gY),Row.aG h.row hk (fun k e=>by cases e;exact hS _ h.tq),h.map.aG hk (hS _ h.vw),h.len,fun i nd m h1 h2=>(h.node i nd m h1 h2).aG hk hS hF,h.apart,h.gY,h.tq,h.vw,h.Gw,fun k oD=>Nat.lt_of_lt_of_le (h.low k oD) hk.size⟩
theorem GV.same(h:GV w S F g D C bl c mb M)(hk:Kept Nil w w'):GV w' S F g D C bl c mb M:=h.aG hk (fun _ _ h=>h) (fun _ _ h=>h)
theorem C5.aG{S0:Nat->Prop}(h:C5 w S F g D)(hk:Kept S0 w w')(hS:∀k,S k->¬S0 k)(hF:∀k,F k->¬S0 k):C5 w' S F g D:=let ⟨bl,c,mb,M,h⟩:=h;⟨bl,c,mb,M,h.aG hk hS hF⟩
theorem C5.same(h:C5 w S F g D)(hk:Kept Nil w w'):C5 w' S F g D:=h.aG hk (fun _ _ h=>h) (fun _ _ h=>h)
theorem GV.get(h:GV w S F g D C bl c mb M){i:Nat}{nd:DN}(hi:D[i]? =some nd):∃m,M[i]? =some m/\qN w S F D (C nd.id) nd m:=by
 have:=(lgeS hi).1;have hl:=h.len;exact⟨M[i],List.getElem?_eq_getElem (by omega),h.node i nd _ hi (List.getElem?_eq_getElem (by omega))⟩
theorem GV.nodes(h:GV w S F g D C bl c mb M):w.cell? ((⟨g,0,none⟩:Addr).add 0)=some (.slice (some ⟨bl,0,none⟩) D.length c):=by rw [add_zero,aA h.top];rfl
theorem GV.at_(h:GV w S F g D C bl c mb M):w.cell? ((⟨g,0,none⟩:Addr).add 1)=some (.map (some mb)):=by rw [bg,aA h.top];rfl
theorem GV.ptr(h:GV w S F g D C bl c mb M){i:Nat}{m:NM}(hm:M[i]? =some m):w.cell? ((⟨bl,0,none⟩:Addr).add (i*1))=some (.pointer (some ⟨m.b,0,none⟩)):=by
 rw [bg,Nat.zero_add,Nat.mul_one];exact Row.cell h.row (by rw [List.getElem?_map,hm];rfl)
theorem xA(h:GV w S F g D C bl c mb M)(hK:K (.bool true) w):bk prog fU.id #[.pointer (some ⟨g,0,none⟩)] w K:=
 fU.of (Split.yes rfl ⟨some mb,h.at_,hK⟩)
def Found(D:DG)(M:List NM)(h:HT)(x:Option Addr):Prop:=(x=none/\h∉ids D)\/∃(i:Nat) (nd:DN) (m:NM),D[i]? =some nd/\nd.id=h/\M[i]? =some m/\x=some ⟨m.b,0,none⟩
theorem Found.isSome{h:HT}{x:Option Addr}(f:Found D M h x):(!x.isNone)=decide (h∈ids D):=by
 rcases f with⟨rfl,hn⟩|⟨i,nd,m,h1,h2,_,rfl⟩
 ·rw [decide_eq_false hn];rfl
 ·rw [decide_eq_true (cP.2 ⟨nd,List.mem_of_getElem? h1,h2⟩)];rfl
theorem vC(G:GV w S F g D C bl c mb M)(h:HT)(hK:∀w' x,Kept Nil w w'->Found D M h x->K (.pointer x) w'):
 bk prog fM.id #[.pointer (some ⟨g,0,none⟩),.agg h.1] w K:=by
 refine fM.of ?_;unfold fM.W;intro w3;have k3:Kept Nil w w3:=(Kept.refl _ _).alloc _;have nh:w3.heap[w.heap.size]? =some (.cells h.1 ai (0,0)):=aI w _;clear_value w3;refine xA (G.same k3) ⟨true,rfl,Split.yes rfl ?_⟩;intro w7;have k7:Kept Nil w3 w7:=(Kept.refl _ _).drew;clear_value w7;have kw:Kept Nil w w7:=k3.tt k7;have G7:=G.same kw;refine⟨some mb,G7.at_,h.1,⟨h.2.1,Cells.bE (k7.heap nh (fun h=>h))⟩,_,_,G7.map.look h,?_⟩;cases hp:pos h (ids D) 0 with
 |none=>exact Split.no rfl (hK w7 none kw (.inl ⟨rfl,pg.1 hp⟩))
 |some i=>
  obtain⟨_,hi⟩:=uJ hp;obtain⟨nd,h1,h2⟩:=HW hi;rw [Nat.sub_zero]at h1;obtain⟨m,hm,_⟩:=G7.get h1;have dP:=(lgeS h1).1;refine Split.yes rfl ⟨_,_,_,G7.nodes,⟨by simp,by simp only [Option.getD_some];omega⟩,some ⟨m.b,0,none⟩,?_,hK w7 _ kw (.inr ⟨i,nd,m,h1,h2,hm,rfl⟩)⟩;rw [Option.getD_some,Int.toNat_natCast];exact G7.ptr hm
theorem uh(G:GV w S F g D C bl c mb M)(h:HT)(hK:∀w',Kept Nil w w'->K (.bool (decide (h∈ids D))) w'):
 bk prog gv.id #[.pointer (some ⟨g,0,none⟩),.agg h.1] w K:=by
 refine gv.of ?_;unfold gv.W;intro w3;have k3:Kept Nil w w3:=(Kept.refl _ _).alloc _;have nh:w3.heap[w.heap.size]? =some (.cells h.1 ai (0,0)):=aI w _;clear_value w3;refine⟨h.1,⟨h.2.1,Cells.bE nh⟩,vC (G.same k3) h fun w6 x k6 hx=>⟨x,rfl,?_⟩⟩;rw [hx.isSome];exact hK w6 (k3.tt k6)
end
section
variable{w w':World}{S F:Nat->Prop}{g bl c mb:Nat}{D:DG}{C:HT->List HT}{M:List NM}{K:Value->World->Prop}
end
section
variable{w w':World}{S F:Nat->Prop}{g bl c mb:Nat}{D:DG}{C:HT->List HT}{M:List NM}{K:Value->World->Prop}
theorem CK{A:Option Addr}{n c:Nat}{l:List HT}(hl:HS w A n l)(hn:n<=400000)(hK:∀A' c' w',bI w' w.heap.size A' n c' l->Kept Nil w w'->K (.slice A' n c') w'):
 bk prog cZ.id #[.slice A n c] w K:=by
 refine cZ.of ?_;cases A with
 |none=>
  obtain⟨rfl,rfl⟩:=hl.none;exact Split.yes rfl (hK none 0 w (bI.nil _ _) (Kept.refl _ _))
 |some a=>
  refine Split.no rfl ?_;intro w2;have k2:Kept Nil w w2:=(Kept.refl _ _).alloc _;have r0:bI w2 w.heap.size (some ⟨w.heap.size,0,none⟩) 0 0 []:=Row.made (n:=0) (cur:= #[]) (aI w _) (Nat.le_refl _) rfl (Nat.zero_le _);clear_value w2;obtain⟨A',c',w4,hr,row,hg,_⟩:=cD (cx:=c) aC r0 (hl.same k2) (by omega) k2.size;rw [Nat.zero_add]at hr row;rw [List.nil_append]at row;exact⟨A',n,c',w4,hr,hK A' c' w4 row (Kept.eh k2 hg (fun k hk=>by cases hk;exact Nat.le_refl _))⟩
theorem wV{D:DG}{nd:DN}{m:NM}{ch:List HT}(N:qN w S F D ch nd m):w.cell? ((⟨m.b,0,none⟩:Addr).add 34)=some (.slice m.rA m.rn m.rc):=by
 rw [bg,Nat.zero_add,aA N.bE];exact zI _ _
theorem Ds{D:DG}{nd:DN}{m:NM}{ch:List HT}(N:qN w S F D ch nd m):w.cell? ((⟨m.b,0,none⟩:Addr).add 33)=some (.slice m.cA m.cn m.cc):=by
 rw [bg,Nat.zero_add,aA N.bE];exact Hm _ _
end
def mi(D:DG)(j:Nat):HT:=match D[j]? with|some nd=>nd.id|none=>default
theorem uR:∀(ws:List Nat) (k:Nat),okW ws->(pr k ws).Nodup
 | [],_,_=>List.Pairwise.nil
 |x::ws,k,ho=>by
  have hx:=ho x (by simp);have JE:okW ws:=fun y hy=>ho y (by simp [hy]);obtain⟨_,h2,h3⟩:=wZ x hx;rw [pr,List.nodup_append];refine⟨List.Pairwise.map _ (fun a b kM e=>kM (by omega)) h2,uR ws (k+1) JE,fun a ha b hb e=>?_⟩;rw [List.mem_map]at ha;obtain⟨t,ht,rfl⟩:=ha;have:=((pB ws (k+1) b JE).1 hb).1;have:=h3 t ht;omega
section
variable{w w':World}{S F:Nat->Prop}{g bl c mb:Nat}{D:DG}{C:HT->List HT}{M:List NM}{K:Value->World->Prop}
theorem vD(G:GV w S F g D C bl c mb M)(W:jn D)(hD:D.length<=10000)(hT:tT w){A:Option Addr}{n cx:Nat}{l:List HT}(hl:HS w A n l)(hn:n<=10000)
 (hK:∀A' c' w',bI w' w.heap.size A' (du D l).length c' (du D l)->Kept Nil w w'->K (.slice A' (du D l).length c') w'):
 bk prog aQ.id #[.pointer (some ⟨g,0,none⟩),.slice A n cx] w K:=by
 have hlen:=hl.len;refine aQ.of ?_;unfold aQ.W;intro w3;have k3:Kept Nil w w3:=(Kept.refl _ _).alloc _;have U7:w3.heap[w.heap.size]? =some (.cells #[.pointer (some ⟨g,0,none⟩)] kX (0,0)):=aI w _;have Cg:w.heap.size<w3.heap.size:=aT U7;clear_value w3;refine aQ.b9 (I:=fun s w'=>∃(i:Nat) (A':Option Addr) (n' c':Nat) (ws:List Nat),s=(A',n',c',(i:Int))/\i<=n/\kK w' w3.heap.size A' n' c' ws/\okW ws/\n'<=200/\(∀j,bit ws j=true↔∃h∈l.take i,∃nj,D[j]? =some nj/\dN D nj.id h)/\Kept Nil w3 w')
  (μ:=fun s _=>((n:Int)-s.2.2.2).toNat) (s:=(none,0,0,0)) ⟨0,none,0,0,[],rfl,Nat.zero_le _,Row.nil _ _ _ _,by simp [okW],by omega,by simp [yA],Kept.refl _ _⟩ ?_
 rintro s w' ⟨i,A',n',c',ws,rfl,hi,row,ho,Uy,qg,kw⟩;have kk:Kept Nil w w':=k3.tt kw;refine Split.dec (fun jx=>?_) (fun gu=>?_)
 ·simp only at jx
  have dP:i<n:=by omega
  obtain⟨h,hh⟩:∃h,l[i]? =some h:=⟨_,List.getElem?_eq_getElem (by omega)⟩;refine(hl.same kk).load (i:=(i:Int)) (by omega) hh ?_;intro lR;obtain⟨sD,jz,jS⟩:=gR (w:=w') (z:=(#[.int .u8 0,.int .u8 0,.int .u8 0,.int .u8 0,.int .u8 0,.int .u8 0,.int .u8 0,.int .u8 0,.int .u8 0,.int .u8 0,.int .u8 0,.int .u8 0,.int .u8 0,.int .u8 0,.int .u8 0,.int .u8 0,.int .u8 0,.int .u8 0,.int .u8 0,.int .u8 0,.int .u8 0,.int .u8 0,.int .u8 0,.int .u8 0,.int .u8 0,.int .u8 0,.int .u8 0,.int .u8 0,.int .u8 0,.int .u8 0,.int .u8 0,.int .u8 0]:Array Value)) (cs:=h.1) (t:=ai) (by rw [h.2.1];rfl);refine⟨⟨h.2.1,h.2.one,fun j hj=>sD j (by rw [h.2.1];exact hj)⟩,?_⟩;intro nn
  replace jz:nn.heap[w'.heap.size]? =some (.cells h.1 ai (0,0)):=jz
  replace jS:Kept Nil w' nn:=jS
  clear_value nn;have tj:Kept Nil w3 nn:=kw.tt jS;refine⟨some ⟨g,0,none⟩,by rw [aA (tj.heap U7 (fun h=>h))];rfl,h.1,⟨h.2.1,Cells.bE jz⟩,?_⟩;refine vC (G.same (k3.tt tj)) h fun oR x xk hx=>⟨x,rfl,?_⟩;have KL:Kept Nil w3 oR:=tj.tt xk;have Hw:Kept Nil w oR:=k3.tt KL;have wR:kK oR w3.heap.size A' n' c' ws:=Row.aG row (jS.tt xk) (fun _ _ h=>h);rcases hx with⟨rfl,lE⟩|⟨q,nd,m',hq,rfl,mI,rfl⟩
  ·refine Split.no rfl ?_
   simp only;rw [dt (n:=(i:Int)) (by omega) (by omega)];refine⟨(A',n',c',(i:Int)+1),rfl,⟨i+1,A',n',c',ws,rfl,dP,wR,ho,Uy,fun j=>?_,KL⟩,by simp only;omega⟩;rw [qg];constructor
   ·rintro⟨h',h1,h2⟩;exact⟨h',(bJ hh).2 (.inl h1),h2⟩
   ·rintro⟨h',h1,nj,h2,h3⟩
    rcases(bJ hh).1 h1 with h1|rfl
    ·exact⟨h',h1,nj,h2,h3⟩
    ·exact absurd (h3.mem W).2 lE
  ·obtain⟨m,hm,N⟩:=(G.same Hw).get hq
   rw [mI]at hm;cases hm;refine Split.yes rfl ⟨_,_,_,wV N,?_⟩;have vi:=N.small;have FM:∀k,a8 A'=some k->w3.heap.size<=k:=fun k hk=>(Row.bE wR hk).1;refine wP wR ho (by omega) KL.size N.past N.ok (by omega) (fun a ha k hk e=>?_) fun A2 n2 c2 l2 lQ Sj aaM Uw Ql qp Ls=>⟨A2,n2,c2,rfl,?_⟩
   ·have h1:=G.low a.block (.inr (N.ph a ha))
    have h2:=FM k hk;omega
   ·simp only
    rw [dt (n:=(i:Int)) (by omega) (by omega)];refine⟨(A2,n2,c2,(i:Int)+1),rfl,⟨i+1,A2,n2,c2,l2,rfl,dP,Sj,aaM,by omega,fun j=>?_,KL.trans qp (fun k hk e=>absurd (FM k e) (by omega))⟩,by simp only;omega⟩;rw [Ql,Bool.or_eq_true,qg,N.bits];constructor
    ·rintro(⟨h',h1,h2⟩|h2)
     ·exact⟨h',(bJ hh).2 (.inl h1),h2⟩
     ·exact⟨nd.id,(bJ hh).2 (.inr rfl),h2⟩
    ·rintro⟨h',h1,h2⟩
     rcases(bJ hh).1 h1 with h1|rfl
     ·exact .inl ⟨h',h1,h2⟩
     ·exact .inr h2
 ·simp only at gu
  have hie:i=n:=by omega
  subst hie;rw [List.take_of_length_le (by omega)]at qg;rw [aO,aQ.df];unfold aQ.cH;intro tX;have Gn:Kept Nil w' tX:=(Kept.refl _ _).alloc _;have Uk:tX.heap[w'.heap.size]? =some (.cells #[.slice none 0 0] aC (0,0)):=aI w' _;clear_value tX;refine jX.of ?_;unfold jX.W;intro nK;have Be:Kept Nil tX nK:=(Kept.refl _ _).alloc _;have KY:nK.heap[tX.heap.size]? =some (.cells #[.slice A' n' c'] kW (0,0)):=aI tX _;clear_value nK;refine⟨_,rfl,?_⟩;have Uj:=Be.heap Uk (fun h=>h);have Ti:Kept Nil w3 nK:=(kw.tt Gn).tt Be;have Ky:Kept Nil w nK:=k3.tt Ti;have zt:kK nK w3.heap.size A' n' c' ws:=Row.aG (Row.aG row Gn (fun _ _ h=>h)) Be (fun _ _ h=>h);have P4:=Ti.heap U7 (fun h=>h);have FC:w.heap.size<w'.heap.size:=Nat.lt_of_lt_of_le Cg kw.size;have ah3:w'.heap.size<nK.heap.size:=aT Uj;have ah4:tX.heap.size<nK.heap.size:=aT KY;have Ik:∀j∈pr 0 ws,∃nj,D[j]? =some nj:=fun j hj=>by
   have:=((pB ws 0 j ho).1 hj).2;rw [Nat.mul_zero,Nat.sub_zero]at this;obtain⟨_,_,nj,h1,_⟩:=(qg j).1 this;exact⟨nj,h1⟩
  have yQ:(pr 0 ws).length<=D.length:=by
   have:=uS (m:=List.range D.length) (uR ws 0 ho) (fun j hj=>by
    obtain⟨nj,h1⟩:=Ik j hj;exact List.mem_range.2 (lgeS h1).1)
   rwa [List.length_range]at this
  let xs:=pr 0 ws
  let ρ0:Env:= [(2,.pointer (some (⟨w.heap.size,0,none⟩:Addr))),(4,.slice none 0 0),(9,.pointer (some (⟨w'.heap.size,0,none⟩:Addr))),(30,.func (.func aH.id) #[] #[.pointer (some (⟨tX.heap.size,0,none⟩:Addr))])]
  let J:Nat->World->Prop:=fun i v=>∃A c,v.heap[w'.heap.size]? =some (.cells #[.slice A i c] aC (0,0))/\bI v nK.heap.size A i c ((xs.take i).map (mi D))/\Kept (· =w'.heap.size) nK v/\i<=xs.length
  have mH:∀i v,J i v->US v A' n' ws/\v.cell? ⟨tX.heap.size,0,none⟩=some (.slice A' n' c')/\tT v:=by
   rintro i v ⟨A,c,h1,h2,h3,h4⟩;refine⟨zt.us.aG h3 (fun a ha e=>?_),by rw [aA (h3.heap KY (by have:=aT Uk;omega))];rfl,(hT.same Ky).aG h3 (fun e=>by have:=hT.lt;omega)⟩;have hk:a8 A'=some a.block:=by rw [ha];rfl
   obtain⟨_,cur,hc⟩:=Row.bE row hk;have:=aT hc;omega
  refine nX (ρ:=ρ0) (ρ0:=ρ0) ng mix aQ.k (t:=30) (ps:= #[31]) (by kernel_rfl) (by decide) rfl aH.at_ rfl (.inl rfl) (fun i v _ h=>h) rfl encI xs (fun _=>rfl) (by simp [gz]) (Je ⟨tX.heap.size,0,none⟩ (c:=c') (by omega) ho) J (fun _ _=>False) ?_ (fun _ _ _ _ _ h=>h.elim) mH ?_ ?_ ?_ (fun _ _ h=>h.elim) (fun _ _ _ h=>h.elim)
  ·rintro i v v' R oC ⟨A,c,h1,h2,h3,h4⟩ hk
   exact⟨A,c,hk.heap h1 (kr h1 oC.loop),Row.apart h2 hk (fun cs t fr h=>by rw [oC.loop]at h;cases h),h3.trans hk (fun k hk e=>by omega),h4⟩
  ·intro R
   exact⟨none,0,iQ (iQ Uj _) _,bI.nil _ _,(((Kept.refl _ _).alloc _).alloc _),Nat.zero_le _⟩
  ·rintro i x v R hx hj oC
   have hJ:=hj;obtain⟨A,c,h1,h2,h3,h4⟩:=hj;have dP:i<xs.length:=(lgeS hx).1;have e7:ko ρ0 ((#[31]:Array Nat).toList.zip (encI x))= [(2,.pointer (some (⟨w.heap.size,0,none⟩:Addr))),(4,.slice none 0 0),(9,.pointer (some (⟨w'.heap.size,0,none⟩:Addr))),(30,.func (.func aH.id) #[] #[.pointer (some (⟨tX.heap.size,0,none⟩:Addr))]),(31,.int .i64 (x:Int))]:=rfl;rw [e7,aQ.a1];unfold aQ.A1;refine⟨oC,fun w2 R2 mJ qH=>?_⟩;have D7:=mJ.heap h1 (kr h1 oC.loop);have yR:bI w2 nK.heap.size A i c ((xs.take i).map (mi D)):=Row.apart h2 mJ (fun cs t fr h=>by rw [oC.loop]at h;cases h);have Gu:Kept (· =w'.heap.size) nK w2:=h3.trans mJ (fun k hk e=>by omega);clear hJ h1 h2 h3;rw [aQ.y1];unfold aQ.Y1;intro NI;have Xl:Kept Nil w2 NI:=(Kept.refl _ _).drew;clear_value NI;have Wu:=Xl.heap D7 (fun h=>h);have Dy:Kept (· =w'.heap.size) nK NI:=Gu.trans Xl (fun _ _ h=>h.elim);obtain⟨nj,Gq⟩:=Ik x (List.mem_of_getElem? hx);have tK:=(lgeS Gq).1;have Zb:Kept Nil w NI:=Ky.trans Dy (fun k hk e=>by omega);obtain⟨m,hm,N⟩:=(G.same Zb).get Gq;refine⟨A,i,c,by rw [aA Wu];rfl,some ⟨g,0,none⟩,by rw [aA (Dy.heap P4 (by omega))];rfl,?_⟩;refine⟨_,_,_,(G.same Zb).nodes,⟨by omega,by omega⟩,some ⟨m.b,0,none⟩,by rw [Int.toNat_natCast];exact(G.same Zb).ptr hm,?_⟩;refine⟨nj.id.1,⟨nj.id.2.1,fun j v hj=>?_⟩,nj.id.2.1,?_⟩
   ·rw [add_zero,bg,Nat.zero_add,aA N.bE]
    exact Hl _ _ hj
   intro Q3;have Td:Kept Nil NI Q3:=(Kept.refl _ _).alloc _;have iV:HS Q3 (some ⟨NI.heap.size,0,none⟩) 1 [nj.id]:=iV NI nj.id;clear_value Q3;have Wt:=Td.heap Wu (fun h=>h);refine⟨by rw [aA Wt];rfl,?_⟩;have Ly:bI Q3 nK.heap.size A i c ((xs.take i).map (mi D)):=Row.aG (Row.aG yR Xl (fun _ _ h=>h)) Td (fun _ _ h=>h);have TI:nK.heap.size<=Q3.heap.size:=Nat.le_trans Dy.size Td.size;have KS:xs.length<=D.length:=yQ;obtain⟨A2,c2,qv,hr,wQ,Lm,Qm⟩:=cD (cx:=1) aC Ly iV (by omega) TI;have PZ:Kept (fun k=>a8 A=some k) Q3 qv:=Kept.grown (Kept.refl _ _) Lm (fun k hk _=>hk);have Wo:∀k,a8 A=some k->nK.heap.size<=k:=fun k hk=>(Row.bE Ly hk).1;have Ws:=PZ.heap Wt (fun e=>by have:=Wo _ e;omega);have aa4:Live (nK.heap.size+1) nK.heap.size R2 qv:=by
    have PJ:=(qH.aG Xl (fun h=>h) (fun h=>h)).aG Td (fun h=>h) (fun h=>h);refine PJ.aG PZ ?_ ?_
    ·intro h
     obtain⟨_,cur,hc⟩:=Row.bE Ly h;exact kr hc PJ.loop rfl
    ·intro h
     obtain⟨_,cur,hc⟩:=Row.bE Ly h;exact rp hc PJ.mark rfl
   refine⟨A2,_,c2,qv,hr,dO Ws (by simp),?_⟩;intro YE;have Zr:Kept (· =w'.heap.size) qv YE:=Kept.setCell (S:=fun k=>k=w'.heap.size) (Kept.refl _ qv) (p:=⟨w'.heap.size,0,none⟩) (fun _=>rfl) _;have abZ:YE.heap[w'.heap.size]? =some (.cells #[.slice A2 (i+1) c2] aC (0,0)):=dc Ws 0 _;clear_value YE;refine⟨aa4.aG Zr (by omega) (by omega),A2,c2,abZ,?_,((Dy.trans Td (fun _ _ h=>h.elim)).trans PZ (fun k hk e=>absurd (Wo k e) (by omega))).tt Zr,dP⟩;have e:(xs.take (i+1)).map (mi D)=(xs.take i).map (mi D)++ [nj.id]:=by
    rw [List.take_add_one,hx];simp [mi,Gq]
   rw [e];exact Row.aG wQ Zr (fun k hk e=>by have:=(Row.bE wQ hk).1;omega)
  ·rintro v R ⟨A,c,h1,h2,h3,h4⟩ oC
   have e7:fR ρ0 nK.heap.size= [(2,.pointer (some (⟨w.heap.size,0,none⟩:Addr))),(4,.slice none 0 0),(9,.pointer (some (⟨w'.heap.size,0,none⟩:Addr))),(30,.func (.func aH.id) #[] #[.pointer (some (⟨tX.heap.size,0,none⟩:Addr))]),(4294967296,.agg #[.pointer (some ⟨nK.heap.size,0,none⟩)])]:=rfl;rw [e7,aQ.jo];rw [List.take_of_length_le (Nat.le_refl _)]at h2;have KS:xs.length<=D.length:=yQ;refine⟨A,xs.length,c,by rw [aA h1];rfl,iN h2.hs (by omega) fun A2 c2 YD Ha Mo=>⟨A2,_,c2,rfl,⟨Mo.heap oC.mark (fun h=>h),trivial⟩,?_⟩⟩;have hmk:=Mo.heap oC.mark (fun h=>h);have kp:Kept (· =nK.heap.size) YD (YD.putObj nK.heap.size (.deferred none)):=Kept.putAt _ _ _;have e:di (xs.map (mi D))=du D l:=Dp fun a=>by
    rw [List.mem_map];constructor
    ·rintro⟨j,hj,rfl⟩
     have hb:=((pB ws 0 j ho).1 hj).2;rw [Nat.mul_zero,Nat.sub_zero]at hb;obtain⟨h',qS,nj,tO,Bm⟩:=(qg j).1 hb;have:mi D j=nj.id:=by unfold mi;rw [tO]
     rw [this];exact⟨(Bm.mem W).1,h',qS,Bm⟩
    ·rintro⟨ha,h',hh',Cy⟩
     obtain⟨nj,hnm,rfl⟩:=cP.1 ha;obtain⟨j,hj⟩:=List.mem_iff_getElem?.1 hnm;refine⟨j,(pB ws 0 j ho).2 ⟨by omega,?_⟩,by unfold mi;rw [hj]⟩;rw [Nat.mul_zero,Nat.sub_zero];exact(qg j).2 ⟨h',hh',nj,hj,Cy⟩
   rw [e]at Ha⊢;have la:Kept Nil w YD:=(Ky.trans h3 (fun k hk e=>by omega)).tt Mo;have hws:w.heap.size<=v.heap.size:=Nat.le_trans Ky.size h3.size;refine hK A2 c2 _ (Row.base (Row.apart Ha kp (fun cs t fr h=>by rw [hmk]at h;cases h)) fun b hb=>Nat.le_trans hws (Row.bE Ha hb).1) (la.trans kp (fun k hk e=>by omega))
end
section
variable{w w':World}{S F:Nat->Prop}{g bl c mb gb:Nat}{D:DG}{C:HT->List HT}{M:List NM}{K:Value->World->Prop}
theorem AN(G:GV w S F g D C bl c mb M)(hg:w.heap[gb]? =some (.cells #[.pointer (some ⟨g,0,none⟩)] kX (0,0))){A:Option Addr}{n cx:Nat}{l:List HT}(hl:HS w A n l)(hn:n<=400000)
 (hK:∀w' (x:Bool),(x=true↔∃p∈l,p∉ids D)->Kept Nil w w'->K (.bool x) w'):
 bk prog dF.id #[.slice A n cx,.func (.func eA.id) #[] #[.pointer (some ⟨gb,0,none⟩)]] w K:=by
 have hlen:=hl.len;refine b7.of (au.of ?_);refine au.b9 (I:=fun s w'=>∃i:Nat,s=(0,(i:Int))/\i<=n/\(∀p∈l.take i,p∈ids D)/\Kept Nil w w') (μ:=fun s _=>((n:Int)-s.2).toNat) (s:=(0,0)) ⟨0,rfl,Nat.zero_le _,by simp,Kept.refl _ _⟩ ?_;rintro s w' ⟨i,rfl,hi,cU,kw⟩;refine Split.dec (fun jx=>?_) (fun gu=>?_)
 ·simp only at jx
  have dP:i<n:=by omega
  obtain⟨x,hx⟩:∃x,l[i]? =some x:=⟨_,List.getElem?_eq_getElem (by omega)⟩;refine(hl.same kw).load (i:=(i:Int)) (by omega) hx ?_;refine eA.of ?_;unfold eA.W;intro w3;have k3:Kept Nil w' w3:=(Kept.refl _ _).alloc _;have nh:w3.heap[w'.heap.size]? =some (.cells x.1 ai (0,0)):=aI w' _;clear_value w3;have Mh:=kw.tt k3;refine⟨some ⟨g,0,none⟩,by rw [aA (Mh.heap hg (fun h=>h))];rfl,x.1,⟨x.2.1,Cells.bE nh⟩,uh (G.same Mh) x fun w7 k7=>⟨_,rfl,_,rfl,?_⟩⟩;have BT:=Mh.tt k7;by_cases hm:x∈ids D
  ·refine Split.no (by rw [decide_eq_true hm];rfl) ?_
   simp only;rw [dt (n:=(i:Int)) (by omega) (by omega)];refine⟨(0,(i:Int)+1),rfl,⟨i+1,rfl,dP,fun p hp=>?_,BT⟩,by simp only;omega⟩;rcases(bJ hx).1 hp with hp|rfl
   ·exact cU p hp
   ·exact hm
  ·refine Split.yes (by rw [decide_eq_false hm];rfl) ?_
   refine⟨(i:Int),rfl,?_⟩;exact hK w7 _ ⟨fun _=>⟨x,List.mem_of_getElem? hx,hm⟩,fun _=>decide_eq_true (by omega)⟩ BT
 ·simp only at gu
  rw [aO,au.df];rw [List.take_of_length_le (by omega)]at cU;exact⟨-1,rfl,hK w' _ ⟨fun h=>absurd (of_decide_eq_true h) (by omega),fun⟨p,hp,hn⟩=>absurd (cU p hp) hn⟩ kw⟩
theorem jR{w:World}{a b:Nat}{ca cb:Array Value}{ta tb:TypeId}{fa fb:Nat×Nat}(ha:w.heap[a]? =some (.cells ca ta fa))(hb:w.heap[b]? =some (.cells cb tb fb))(e9:ta≠tb):a≠b:=by
 rintro rfl;rw [ha]at hb;simp only [Option.some.injEq,Obj.cells.injEq]at hb;exact e9 hb.2.1
theorem GV.upd(G:GV w S F g D C bl c mb M)(W:jn D){q:Nat}{nd:DN}{m:NM}(hq:D[q]? =some nd)(hm:M[q]? =some m){A5:Option Addr}{n5 c5:Nat}{LN:List HT}
 (kT:Kept (fun k=>a8 m.cA=some k\/k=m.b) w w') (hb:w'.heap[m.b]? =some (.cells (fP nd.id {m with cA:=A5,cn:=n5,cc:=c5}) dM (0,0))) (fk:bI w' w.heap.size A5 n5 c5 LN):
 GV w' (fun k=>S k\/a8 A5=some k) F g D (fun x=>if x=nd.id then LN else C x) bl c mb (M.set q {m with cA:=A5,cn:=n5,cc:=c5}):=by
 have N:=G.node q nd m hq hm;have DO:q<M.length:=(lgeS hm).1;have mW:∀k,a8 m.cA=some k->∃cur,w.heap[k]? =some (.cells cur ai (0,0)):=fun k hk=>(Row.bE N.ch hk).2;have hF:∀k,F k->¬(a8 m.cA=some k\/k=m.b):=fun k hk e=>by
  rcases e with e|rfl
  ·exact G.Gw k (N.QL k e) hk
  ·exact G.Gw _ N.fY hk
 have typ:∀ {k:Nat} {cs:Array Value} {t:TypeId},w.heap[k]? =some (.cells cs t (0,0))->t≠ai->t≠dM->¬(a8 m.cA=some k\/k=m.b):=fun h h1 h2 e=>by
  rcases e with e|rfl
  ·obtain⟨cur,hc⟩:=mW _ e
   exact jR h hc h1 rfl
  ·exact jR h N.bE h2 rfl
 have FL:∀k,a8 A5=some k->w.heap.size<=k:=fun k hk=>(Row.bE fk hk).1;have gD:∀(i:Nat) m',(M.set q {m with cA:=A5,cn:=n5,cc:=c5})[i]? =some m'->(i=q/\m'= {m with cA:=A5,cn:=n5,cc:=c5})\/(i≠q/\M[i]? =some m'):=fun i m' h=>by
  by_cases e:i=q
  ·subst e
   rw [List.getElem?_set_self DO]at h;exact .inl ⟨rfl,(Option.some.inj h).symm⟩
  ·rw [List.getElem?_set_ne (Ne.symm e)]at h
   exact .inr ⟨e,h⟩
 refine⟨?_,?_,?_,by simpa using G.len,?_,?_,.inl G.gY,.inl G.tq,.inl G.vw,?_,?_⟩
 ·exact kT.heap G.top (typ G.top (by decide) (by decide))
 ·have PF:(M.set q {m with cA:=A5,cn:=n5,cc:=c5}).map (fun m=>Value.pointer (some ⟨m.b,0,none⟩))=M.map fun m=>Value.pointer (some ⟨m.b,0,none⟩):=by
   apply List.ext_getElem?;intro i;rw [List.getElem?_map,List.getElem?_map];by_cases e:i=q
   ·subst e
    rw [List.getElem?_set_self DO,hm];rfl
   ·rw [List.getElem?_set_ne (Ne.symm e)]
  rw [PF];refine Row.aG G.row kT (fun k e=>?_);cases e;obtain⟨_,cur,hc⟩:=Row.bE G.row (k:=bl) rfl;exact typ hc (by decide) (by decide)
 ·refine G.map.aG kT (fun e=>?_)
  obtain⟨es,clock,La,_⟩:=G.map.ex;rcases e with e|e
  ·obtain⟨cur,hc⟩:=mW _ e
   rw [hc]at La;cases La
  ·rw [e,N.bE]at La;cases La
 ·intro i nd' m' hi mI
  rcases gD i m' mI with⟨rfl,rfl⟩|⟨e9,UF⟩
  ·rw [hq]at hi
   cases hi;rw [if_pos rfl];exact⟨hb,.inl N.fY,N.ps.aG kT (fun a ha=>hF _ (N.Kj a ha)),N.Kj,Row.base fk (fun _ _=>Nat.zero_le _),fun k hk=>.inr hk,N.past.aG kT (fun a ha=>hF _ (N.ph a ha)),N.ph,N.ok,N.bits,N.small⟩
  ·have N':=G.node i nd' m' hi UF
   have hid:nd'.id≠nd.id:=fun e=>e9 (W.inj hi hq e);rw [if_neg hid];have abP:m'.b≠m.b:=fun e=>by
    have h1:=N'.bE;rw [e,N.bE]at h1;simp only [Option.some.injEq,Obj.cells.injEq]at h1;exact hid (E8 h1.1).symm
   refine⟨kT.heap N'.bE (fun e=>?_),.inl N'.fY,N'.ps.aG kT (fun a ha=>hF _ (N'.Kj a ha)),N'.Kj,Row.aG N'.ch kT (fun k hk e=>?_),fun k hk=>.inl (N'.QL k hk),N'.past.aG kT (fun a ha=>hF _ (N'.ph a ha)),N'.ph,N'.ok,N'.bits,N'.small⟩
   ·rcases e with e|e
    ·obtain⟨cur,hc⟩:=mW _ e
     exact jR N'.bE hc (by decide) rfl
    ·exact abP e
   ·rcases e with e|rfl
    ·exact G.apart i q m' m UF hm e9 k hk e
    ·obtain⟨cur,hc⟩:=(Row.bE N'.ch hk).2
     exact jR hc N.bE (by decide) rfl
 ·intro i j m1 m2 h1 h2 pX k JF mJ
  rcases gD i m1 h1 with⟨rfl,rfl⟩|⟨hi,qS⟩
  ·rcases gD j m2 h2 with⟨rfl,rfl⟩|⟨hj,tO⟩
   ·exact pX rfl
   ·have:=FL k JF
    have tn:j<D.length:=by rw [<-G.len];exact(lgeS tO).1
    obtain⟨cur,hc⟩:=(Row.bE (G.node j _ m2 (List.getElem?_eq_getElem tn) tO).ch mJ).2;have:=aT hc;omega
  ·rcases gD j m2 h2 with⟨rfl,rfl⟩|⟨hj,tO⟩
   ·have:=FL k mJ
    have dP:i<D.length:=by rw [<-G.len];exact(lgeS qS).1
    obtain⟨cur,hc⟩:=(Row.bE (G.node i _ m1 (List.getElem?_eq_getElem dP) qS).ch JF).2;have:=aT hc;omega
   ·exact G.apart i j m1 m2 qS tO pX k JF mJ
 ·intro k hk hf
  rcases hk with hk|hk
  ·exact G.Gw k hk hf
  ·have:=FL k hk
   have:=G.low k (.inr hf);omega
 ·intro k hk
  rcases hk with(hk|hk)|hk
  ·exact Nat.lt_of_lt_of_le (G.low k (.inl hk)) kT.size
  ·obtain⟨cur,hc⟩:=(Row.bE fk hk).2
   exact aT hc
  ·exact Nat.lt_of_lt_of_le (G.low k (.inr hk)) kT.size
end
theorem zG(h:HT)(m:NM)(A:Option Addr)(n c:Nat):(fP h m).setIfInBounds 33 (.slice A n c)=fP h {m with cA:=A,cn:=n,cc:=c}:=by
 have hs:=h.2.1;apply Array.ext_getElem?;intro i;unfold fP;rw [Array.getElem?_setIfInBounds,Array.getElem?_append,Array.getElem?_append];by_cases h1:i<h.1.size
 ·rw [if_neg (by omega),if_pos h1,if_pos h1]
 ·rw [if_neg h1,if_neg h1]
  by_cases h2:i=33
  ·subst h2
   rw [if_pos rfl,if_pos (by simp;omega),hs];rfl
  ·rw [if_neg (Ne.symm h2),hs]
   match i-32,show i-32≠1 by omega with
   |0,_=>rfl
   |2,_=>rfl
   |(k+3),_=>rfl
theorem zF(h:HT)(m:NM)(A:Option Addr)(n c:Nat):(fP h m).setIfInBounds 34 (.slice A n c)=fP h {m with rA:=A,rn:=n,rc:=c}:=by
 have hs:=h.2.1;apply Array.ext_getElem?;intro i;unfold fP;rw [Array.getElem?_setIfInBounds,Array.getElem?_append,Array.getElem?_append];by_cases h1:i<h.1.size
 ·rw [if_neg (by omega),if_pos h1,if_pos h1]
 ·rw [if_neg h1,if_neg h1]
  by_cases h2:i=34
  ·subst h2
   rw [if_pos rfl,if_pos (by simp;omega),hs];rfl
  ·rw [if_neg (Ne.symm h2),hs]
   match i-32,show i-32≠2 by omega with
   |0,_=>rfl
   |1,_=>rfl
   |(k+3),_=>rfl
section
variable{w w0 w':World}{S F F1 S':Nat->Prop}{g bl c mb gb ib nb:Nat}{D:DG}{C:HT->List HT}{M:List NM}{K:Value->World->Prop}
noncomputable def iO(D:DG)(h:HT)(l:List HT):HT->List HT:=fun x=>if x∈l then di (gE D x++ [h])else gE D x
structure AL(w0 w':World)(S F1 S':Nat->Prop)(g:Nat)(D:DG)(h:HT)(l:List HT)(gb ib nb:Nat)(pA:Option Addr)(pc i bl c mb:Nat)(M:List NM)(rA:Option Addr)(rn rc:Nat)(ws:List Nat):Prop where
 G:GV w' S' F1 g D (iO D h (l.take i)) bl c mb M
 sub:∀k,S k->S' k
 new:∀k,S' k->S k\/w0.heap.size<=k
 node:w'.heap[nb]? =some (.cells (fP h ⟨nb,pA,l.length,pc,none,0,0,rA,rn,rc,ws⟩) dM (0,0))
 Y0:¬S' nb
 row:kK w' nb rA rn rc ws
 ok:okW ws
 small:rn<=200
 YZ:∀k,a8 rA=some k->¬S' k
 bits:∀j,bit ws j=true↔∃p∈l.take i,∃nj,D[j]? =some nj/\(nj.id=p\/dN D nj.id p)
 X8:w'.heap[gb]? =some (.cells #[.pointer (some ⟨g,0,none⟩)] kX (0,0))
 ibx:w'.heap[ib]? =some (.cells h.1 ai (0,0))
 noG:¬S' gb
 noI:¬S' ib
 hl:HS w' pA l.length l
 kp:Kept S w0 w'
theorem Ge{h:HT}{l:List HT}{pA:Option Addr}{pc i:Nat}{rA:Option Addr}{rn rc:Nat}{ws:List Nat}{Q:aN}
 (L:AL w0 w' S F1 S' g D h l gb ib nb pA pc i bl c mb M rA rn rc ws) (W:jn D) (hD:D.length<=10000) (ue:SS l) (fC:∀p∈l,p∈ids D) (Gt:∀k,F1 k->k<nb) (JD:∀a,pA=some a->F1 a.block) (h0:w0.heap.size<=nb) (dP:i<l.length) (hll:l.length<=10000)
 (hQ:∀S2 M rA rn rc ws v,AL w0 v S F1 S2 g D h l gb ib nb pA pc (i+1) bl c mb M rA rn rc ws->Q .normal (bA.e1 ⟨gb,0,none⟩ ⟨ib,0,none⟩ 0 ⟨nb,0,none⟩ pA l.length pc (l.length:Int) ((i:Int)+1)) v):
 bA.B1 ⟨gb,0,none⟩ ⟨ib,0,none⟩ 0 ⟨nb,0,none⟩ pA l.length pc (l.length:Int) (i:Int) Q w':=by
 obtain⟨p,hp⟩:∃p,l[i]? =some p:=⟨_,List.getElem?_eq_getElem dP⟩;have qG:=List.mem_of_getElem? hp;have aaB:=fC p qG;refine Split.yes (decide_eq_true (by omega)) ?_;refine L.hl.load (i:=(i:Int)) (by omega) hp ?_;intro rU;obtain⟨sD,jz,jS⟩:=gR (w:=w') (z:=(#[.int .u8 0,.int .u8 0,.int .u8 0,.int .u8 0,.int .u8 0,.int .u8 0,.int .u8 0,.int .u8 0,.int .u8 0,.int .u8 0,.int .u8 0,.int .u8 0,.int .u8 0,.int .u8 0,.int .u8 0,.int .u8 0,.int .u8 0,.int .u8 0,.int .u8 0,.int .u8 0,.int .u8 0,.int .u8 0,.int .u8 0,.int .u8 0,.int .u8 0,.int .u8 0,.int .u8 0,.int .u8 0,.int .u8 0,.int .u8 0,.int .u8 0,.int .u8 0]:Array Value)) (cs:=p.1) (t:=ai) (by rw [p.2.1];rfl);refine⟨⟨p.2.1,p.2.one,fun j hj=>sD j (by rw [p.2.1];exact hj)⟩,?_⟩;intro tD
 replace jz:tD.heap[w'.heap.size]? =some (.cells p.1 ai (0,0)):=jz
 replace tJ:Kept Nil w' tD:=jS
 clear_value tD;refine⟨some ⟨g,0,none⟩,by rw [aA (tJ.heap L.X8 (fun h=>h))];rfl,p.1,⟨p.2.1,Cells.bE jz⟩,?_⟩;refine vC (L.G.same tJ) p fun w40 x k40 hx=>⟨x,rfl,?_⟩;rcases hx with⟨rfl,lE⟩|⟨q,nd,m',hq,eW,mI,rfl⟩
 ·exact absurd aaB lE
 intro El;have HB:Kept Nil w' El:=(tJ.tt k40).drew;have IC:El.heap[w'.heap.size]? =some (.cells p.1 ai (0,0)):=k40.heap jz (fun h=>h);clear_value El;have ah2:=HB.size;have Yq:=L.G.same HB;obtain⟨m,hm,RO⟩:=Yq.get hq;rw [mI]at hm;cases hm;have PC:=HB.heap L.node (fun h=>h);have zr:kK El nb rA rn rc ws:=Row.aG L.row HB (fun _ _ h=>h);refine⟨rA,rn,rc,by rw [bg,Nat.zero_add,aA PC];exact zI _ _,?_⟩;refine⟨_,_,_,wV RO,some ⟨g,0,none⟩,by rw [aA (HB.heap L.X8 (fun h=>h))];rfl,?_⟩;refine⟨some mb,Yq.at_,p.1,⟨p.2.1,Cells.bE IC⟩,_,Yq.map.xe p,?_⟩;rw [show pos p (ids D) 0=some q by rw [<-eW];exact W.pos_eq hq,Option.getD_some];have DO:=(lgeS hq).1;have vi:=RO.small;have ahQ:=L.small;have hrA:∀k,a8 rA=some k->nb<=k/\k<w'.heap.size:=fun k hk=>by
  obtain⟨h1,cur,hc⟩:=Row.bE L.row hk;exact⟨h1,aT hc⟩
 have aaP:nb<w'.heap.size:=aT L.node;have L4:∀ {v:World} {A:Option Addr} {n c:Nat} {l:List Nat} {B:Nat},kK v B A n c l->∀ {k:Nat} {cs:Array Value} {t:TypeId},v.heap[k]? =some (.cells cs t (0,0))->t≠iL->¬a8 A=some k:=fun hr _ _ _ hk e9 e=>by
  obtain⟨_,cur,hc⟩:=Row.bE hr e;exact jR hk hc e9 rfl
 refine wP zr L.ok (by omega) (by omega) RO.past RO.ok (by omega) (fun a ha k hk e=>?_) fun A2 n2 c2 l2 LY sX aaK aiw Qk HA ab0=>⟨A2,n2,c2,rfl,?_⟩
 ·have h1:=Gt a.block (RO.ph a ha)
  have h2:=(hrA k hk).1;omega
 have hnF:∀k,F1 k->¬a8 rA=some k:=fun k hk e=>by have:=Gt k hk;have:=(hrA k e).1;omega
 have G52:=Yq.aG HA (fun k hk e=>L.YZ k e hk) hnF;have Vy:=HA.heap IC (L4 zr IC (by decide));have U6:=HB.heap L.X8 (fun h=>h);have P3:=HA.heap U6 (L4 zr U6 (by decide));have U0:=HB.heap L.ibx (fun h=>h);have UZ:=HA.heap U0 (L4 zr U0 (by decide));have MU:=HA.heap PC (L4 zr PC (by decide));have ah1:=HA.size;have UM:=G52.map.xe p;rw [show pos p (ids D) 0=some q by rw [<-eW];exact W.pos_eq hq,Option.getD_some]at UM;refine⟨UM,⟨p.1,rfl,p.2.1,Cells.bE Vy⟩,G52.at_,by rw [aA P3];rfl,?_⟩;have Wp:∀k,a8 A2=some k->a8 rA=some k\/El.heap.size<=k:=ab0;refine zp sX aaK (by omega) (by omega) (by omega) fun A3 n3 c3 l3 qv wQ aaJ aiv Qj Fp Qm=>⟨A3,n3,c3,rfl,?_⟩;have Cr:∀k,a8 A2=some k->¬S' k:=fun k hk hs=>by
  rcases Wp k hk with h|h
  ·exact L.YZ k h hs
  ·have:=L.G.low k (.inl hs);omega
 have Ip:∀k,F1 k->¬a8 A2=some k:=fun k hf hk=>by
  have:=Gt k hf;have:=(Row.bE sX hk).1;omega
 have G55:=G52.aG Fp (fun k hk e=>Cr k e hk) Ip;have Lm:=Fp.heap P3 (L4 sX P3 (by decide));have UY:=Fp.heap UZ (L4 sX UZ (by decide));have Ai:=Fp.heap MU (L4 sX MU (by decide));have ah0:=Fp.size;have aeE:=uV h ⟨nb,pA,l.length,pc,none,0,0,rA,rn,rc,ws⟩;refine⟨by rw [bg,Nat.zero_add];exact dO Ai (by omega),?_⟩;intro w57 GF;have KJ:Kept (· =nb) qv w57:=by
  show Kept (· =nb) qv (qv.setCell ((⟨nb,0,none⟩:Addr).add 34) (.slice A3 n3 c3))
  exact Kept.setCell (S:=fun k=>k=nb) (Kept.refl _ qv) (by rw [eR];exact fun _=>rfl) _
 have Uv:w57.heap[nb]? =some (.cells (fP h ⟨nb,pA,l.length,pc,none,0,0,A3,n3,c3,l3⟩) dM (0,0)):=by
  show(qv.setCell ((⟨nb,0,none⟩:Addr).add 34) (.slice A3 n3 c3)).heap[nb]? =_;rw [bg,Nat.zero_add,dc Ai 34,zF];rfl
 have Dw:Kept (· =nb) qv GF:=KJ.drew;have Uu:GF.heap[nb]? =some (.cells (fP h ⟨nb,pA,l.length,pc,none,0,0,A3,n3,c3,l3⟩) dM (0,0)):=Uv;clear_value GF;clear Uv KJ;have ahZ:=Dw.size;have G58:=G55.aG Dw (fun k hk e=>L.Y0 (e▸hk)) (fun k hk e=>by have:=Gt k hk;omega);have U4:=Dw.heap Lm (jR Lm Ai (by decide));have PX:=Dw.heap UY (jR UY Ai (by decide));have Sh:kK GF nb A3 n3 c3 l3:=Row.aG wQ Dw (fun k hk e=>by
  subst e;exact L4 wQ Ai (by decide) hk)
 obtain⟨m,hm,N58⟩:=G58.get hq;rw [mI]at hm;cases hm;refine⟨m'.cA,m'.cn,m'.cc,Ds N58,h.1,⟨h.2.1,Cells.bE PX⟩,h.2.1,?_⟩;intro W8;have Zq:Kept Nil GF W8:=(Kept.refl _ _).alloc _;have Qi:HS W8 (some ⟨GF.heap.size,0,none⟩) 1 [h]:=iV GF h;clear_value W8;have G62:=G58.same Zq;obtain⟨m,hm,RN⟩:=G62.get hq;rw [mI]at hm;cases hm;refine⟨Ds RN,?_⟩;have Qc:=RN.ch.len;have DV:iO D h (l.take i) nd.id=gE D p:=by
  unfold iO;rw [eW,if_neg];intro iI;obtain⟨j,hj⟩:=List.mem_iff_getElem?.1 iI;rw [List.getElem?_take]at hj;split at hj
  ·have:=ue.get (by omega) hj hp
   rw [gV]at this;cases this
  ·cases hj
 have qR:=mc D fun a=>lH D p a;have XO:m'.cn<=10000:=by
  rw [<-Qc,DV];unfold gE;omega
 obtain⟨A7,c7,Gk,aah,Sg,abl,abY⟩:=cD (cx:=1) aC RN.ch Qi (by omega) (Nat.zero_le _);have Fo:Kept (fun k=>a8 m'.cA=some k) W8 Gk:=Kept.grown (Kept.refl _ _) abl (fun k hk _=>hk);refine⟨A7,_,c7,Gk,aah,?_⟩;have ahY:=Zq.size;have TN:=Fo.size;refine iN Sg.hs (by omega) fun A5 c5 NH G9 Zp=>⟨A5,_,c5,rfl,?_⟩;have ahX:=Zp.size;have UC:=Fo.heap RN.bE (fun e=>by
  obtain⟨_,cur,hc⟩:=Row.bE RN.ch e;exact jR RN.bE hc (by decide) rfl)
 have Iu:=Zp.heap UC (fun h=>h);refine⟨by rw [bg,Nat.zero_add];exact dO Iu (by rw [uV];omega),?_⟩;intro C9;have KE:Kept (· =m'.b) NH C9:=by
  show Kept (· =m'.b) NH (NH.setCell ((⟨m'.b,0,none⟩:Addr).add 33) (.slice A5 (di (iO D h (l.take i) nd.id++ [h])).length c5))
  exact Kept.setCell (S:=fun k=>k=m'.b) (Kept.refl _ NH) (by rw [eR];exact fun _=>rfl) _
 have UB:C9.heap[m'.b]? =some (.cells (fP nd.id {m' with cA:=A5,cn:=(di (iO D h (l.take i) nd.id++ [h])).length,cc:=c5}) dM (0,0)):=by
  show(NH.setCell ((⟨m'.b,0,none⟩:Addr).add 33) (.slice A5 (di (iO D h (l.take i) nd.id++ [h])).length c5)).heap[m'.b]? =_;rw [bg,Nat.zero_add,dc Iu 33,zG]
 clear_value C9;have kT:Kept (fun k=>a8 m'.cA=some k\/k=m'.b) GF C9:=
  (((Zq.mono (S':=fun k=>a8 m'.cA=some k\/k=m'.b) (fun _ _ h=>h.elim)).trans Fo (fun _ _ h=>.inl h)).trans Zp (fun _ _ h=>h.elim)).trans KE (fun _ _ h=>.inr h)
 have Ie:bI C9 GF.heap.size A5 (di (iO D h (l.take i) nd.id++ [h])).length c5 (di (iO D h (l.take i) nd.id++ [h])):=
  Row.base (Row.aG G9 KE (fun k hk e=>by
   subst e;obtain⟨_,cur,hc⟩:=Row.bE G9 hk;exact jR Iu hc (by decide) rfl)) (fun k hk=>by have:=(Row.bE G9 hk).1;omega)
 have G69:=G58.upd W hq mI kT UB Ie;have FL:∀k,a8 A5=some k->GF.heap.size<=k:=fun k hk=>(Row.bE Ie hk).1;have RD:∀k,(a8 m'.cA=some k\/k=m'.b)->S' k:=fun k e=>by
  rcases e with e|rfl
  ·exact N58.QL k e
  ·exact N58.fY
 have hkf:(fun x=>if x=nd.id then di (iO D h (l.take i) nd.id++ [h])else iO D h (l.take i) x)=iO D h (l.take (i+1)):=by
  funext x
  by_cases hx:x=nd.id
  ·rw [if_pos hx,DV,hx,eW]
   unfold iO;rw [if_pos ((bJ hp).2 (.inr rfl))]
  ·rw [if_neg hx]
   unfold iO;have:x∈l.take (i+1)↔x∈l.take i:=by
    rw [bJ hp];exact⟨fun e=>e.resolve_right (fun e=>hx (by rw [eW];exact e)),.inl⟩
   by_cases hm:x∈l.take i
   ·rw [if_pos hm,if_pos (this.2 hm)]
   ·rw [if_neg hm,if_neg (fun e=>hm (this.1 e))]
 rw [hkf]at G69;rw [dt (n:=(i:Int)) (by omega) (by omega)];have aeN:nb<GF.heap.size:=aT Uu;have la:Kept S w0 C9:=by
  have k1:=L.kp.trans HB (fun _ _ h=>h.elim);have k2:=k1.trans HA (fun k hk e=>absurd (hrA k e).1 (by omega));have k3:=k2.trans Fp (fun k hk e=>absurd (Row.bE sX e).1 (by omega));have k4:=k3.trans Dw (fun k hk e=>by omega);exact k4.trans kT (fun k hk e=>by
   rcases L.new k (RD k e)with h|h
   ·exact h
   ·omega)
 refine hQ _ _ A3 n3 c3 l3 C9 ⟨G69,fun k hk=>.inl (L.sub k hk),fun k hk=>?_,kT.heap Uu (fun e=>L.Y0 (RD _ e)),fun e=>?_,Row.aG Sh kT (fun k hk e=>?_),aaJ,by omega,fun k hk e=>?_,fun j=>?_,
  kT.heap U4 (fun e=>L.noG (RD _ e)),kT.heap PX (fun e=>L.noI (RD _ e)),fun e=>?_,fun e=>?_,?_,la⟩
 ·rcases hk with hk|hk
  ·exact L.new k hk
  ·have:=FL k hk
   have:=L.kp.size;exact .inr (by omega)
 ·rcases e with e|e
  ·exact L.Y0 e
  ·have:=FL _ e;omega
 ·have hs:=RD k e
  rcases Qm k hk with h|h
  ·exact Cr k h hs
  ·have:=L.G.low k (.inl hs);omega
 ·have hk3:k<qv.heap.size:=by
   obtain⟨_,cur,hc⟩:=Row.bE wQ hk;exact aT hc
  rcases e with e|e
  ·rcases Qm k hk with h|h
   ·exact Cr k h e
   ·have:=L.G.low k (.inl e);omega
  ·have:=FL _ e;omega
 ·rw [Qj,Bool.or_eq_true,Qk,Bool.or_eq_true,L.bits,RO.bits,decide_eq_true_iff]
  constructor
  ·rintro((⟨p',h1,h2⟩|⟨nj,h1,h2⟩)|rfl)
   ·exact⟨p',(bJ hp).2 (.inl h1),h2⟩
   ·exact⟨p,(bJ hp).2 (.inr rfl),nj,h1,.inr (eW▸h2)⟩
   ·exact⟨p,(bJ hp).2 (.inr rfl),nd,hq,.inl eW⟩
  ·rintro⟨p',h1,nj,h2,h3⟩
   rcases(bJ hp).1 h1 with h1|rfl
   ·exact .inl (.inl ⟨p',h1,nj,h2,h3⟩)
   ·rcases h3 with h3|h3
    ·exact .inr (W.inj h2 hq (h3.trans eW.symm))
    ·exact .inl (.inr ⟨nj,h2,eW▸h3⟩)
 ·rcases e with e|e
  ·exact L.noG e
  ·have:=FL _ e;have:=aT U4;omega
 ·rcases e with e|e
  ·exact L.noI e
  ·have:=FL _ e;have:=aT PX;omega
 ·have hb:∀a,pA=some a->F1 a.block/\a.block<nb:=fun a ha=>⟨JD a ha,Gt _ (JD a ha)⟩
  have k1:=L.hl.same HB;have k2:=k1.aG HA (fun a ha=>hnF _ (hb a ha).1);have k3:=k2.aG Fp (fun a ha=>Ip _ (hb a ha).1);have k4:=k3.aG Dw (fun a ha e=>by have:=(hb a ha).2;omega);exact k4.aG kT (fun a ha e=>L.G.Gw _ (RD _ e) (hb a ha).1)
end
theorem R9:yU prog lD fh 1 8:=⟨by kernel_rfl,by kernel_rfl⟩
theorem I7:RK prog dM=some ([(0,32),(32,1),(33,1),(34,1)],List.replicate 32 (.int .u8 0)++ [.slice none 0 0,.slice none 0 0,.slice none 0 0]):=by kernel_rfl
theorem I5(h:HT)(b:Nat)(A:Option Addr)(n c:Nat):prog.built dM [(0,.agg h.1),(1,.slice A n c)]=some (fP h ⟨b,A,n,c,none,0,0,none,0,0,[]⟩):=by
 have hs:=h.2.1;rw [nC I7,iM (off:=0) (size:=32) rfl (by simpa [Value.cells]using hs) (by simp),iM (off:=32) (size:=1) rfl rfl (by
  rw [List.size_toArray,lX (by simp [Value.cells,hs])];simp)]
 simp only [Instr.fill,Option.some.injEq];apply Array.ext';unfold gK fP;simp [Value.cells,hs];rw [List.drop_append];simp [hs]
theorem F5(h:HT)(b:Nat):prog.built dM [(0,.agg h.1)]=some (fP h ⟨b,none,0,0,none,0,0,none,0,0,[]⟩):=by
 have hs:=h.2.1;rw [nC I7,iM (off:=0) (size:=32) rfl (by simpa [Value.cells]using hs) (by simp)];simp only [Instr.fill,Option.some.injEq];apply Array.ext';unfold gK fP;simp [Value.cells,hs]
section
variable{D:DG}{h:HT}{l:List HT}
theorem CN(W:jn D)(hn:h∉ids D){x:HT}:iO D h l x=gE (D++ [⟨h,l⟩]) x:=by
 have iI:∀a,a∈gE (D++ [⟨h,l⟩]) x↔(a∈gE D x\/(a=h/\x∈l)):=fun a=>by
  unfold gE;rw [jb,jb,ns,lf,List.mem_append,List.mem_singleton];constructor
  ·rintro⟨h1,h2|⟨h2,h3⟩⟩
   ·exact .inl ⟨(dN.mem W (.one h2)).2,h2⟩
   ·exact .inr ⟨h2.symm,h3⟩
  ·rintro(⟨h1,h2⟩|⟨rfl,h2⟩)
   ·exact⟨.inl h1,.inl h2⟩
   ·exact⟨.inr rfl,.inr ⟨rfl,h2⟩⟩
 unfold iO;by_cases tK:x∈l
 ·rw [if_pos tK]
  refine(xP (l:=gE (D++ [⟨h,l⟩]) x) (ir _) fun a=>?_).symm;rw [iI,List.mem_append,List.mem_singleton];exact⟨fun e=>e.imp (fun e=>e) (fun e=>e.1),fun e=>e.imp (fun e=>e) (fun e=>⟨e,tK⟩)⟩
 ·rw [if_neg tK]
  refine yI (ir _) (ir _) fun a=>?_;have:=iI a;unfold gE pick at this⊢;rw [this];exact⟨.inl,fun e=>e.resolve_right (fun e=>tK e.2)⟩
theorem F0(W:jn D)(hn:h∉ids D)(fC:∀p∈l,p∈ids D):gE (D++ [⟨h,l⟩]) h= []:=by
 cases hc:gE (D++ [⟨h,l⟩]) h with
 |nil=>rfl
 |cons b t=>
  exfalso;have:b∈gE (D++ [⟨h,l⟩]) h:=by rw [hc];simp
  rcases ns.1 (jb.1 this).2 with h1|⟨_,h2⟩
  ·exact hn (dN.mem W (.one h1)).1
  ·exact hn (fC h h2)
theorem I8(W:jn D)(hn:h∉ids D){x:HT}(hx:x∈ids D)(j:Nat):(∃nj,(D++ [⟨h,l⟩])[j]? =some nj/\dN (D++ [⟨h,l⟩]) nj.id x)↔∃nj,D[j]? =some nj/\dN D nj.id x:=by
 constructor
 ·rintro⟨nj,h1,h2⟩
  have tO:=(jh W (nd:=⟨h,l⟩) hn hx).1 h2;rw [List.getElem?_append]at h1;split at h1
  ·exact⟨nj,h1,tO⟩
  ·exfalso
   have:nj=⟨h,l⟩:=by
    cases hk:j-D.length with
    |zero=>rw [hk]at h1;simpa using h1.symm
    |succ k=>rw [hk]at h1;simp at h1
   subst this;exact hn (tO.mem W).1
 ·rintro⟨nj,h1,h2⟩
  exact⟨nj,by rw [List.getElem?_append_left (lgeS h1).1];exact h1,(jh W (nd:=⟨h,l⟩) hn hx).2 h2⟩
theorem I9(W:jn D)(hn:h∉ids D)(fC:∀p∈l,p∈ids D)(hs:SS l)(j:Nat):
 (∃nj,(D++ [⟨h,l⟩])[j]? =some nj/\dN (D++ [⟨h,l⟩]) nj.id h)↔∃p∈l,∃nj,D[j]? =some nj/\(nj.id=p\/dN D nj.id p):=by
 have W':jn (D++ [⟨h,l⟩]):=W.snoc (nd:=⟨h,l⟩) hn fC hs;have gD:(D++ [⟨h,l⟩])[D.length]? =some ⟨h,l⟩:=by rw [List.getElem?_append_right (Nat.le_refl _),Nat.sub_self];rfl
 have key:∀a,dN (D++ [⟨h,l⟩]) a h↔∃p∈l,a=p\/dN D a p:=fun a=>by
  rw [rR W' gD a];constructor
  ·rintro⟨p,hp,e⟩
   exact⟨p,hp,e.imp (fun e=>e) (fun e=>(jh W (nd:=⟨h,l⟩) hn (fC p hp)).1 e)⟩
  ·rintro⟨p,hp,e⟩
   exact⟨p,hp,e.imp (fun e=>e) (fun e=>(jh W (nd:=⟨h,l⟩) hn (fC p hp)).2 e)⟩
 constructor
 ·rintro⟨nj,h1,h2⟩
  obtain⟨p,hp,e⟩:=(key _).1 h2;have hid:nj.id∈ids D:=by
   rcases e with e|e
   ·rw [e];exact fC p hp
   ·exact(e.mem W).1
  rw [List.getElem?_append]at h1;split at h1
  ·exact⟨p,hp,nj,h1,e⟩
  ·exfalso
   have:nj=⟨h,l⟩:=by
    cases hk:j-D.length with
    |zero=>rw [hk]at h1;simpa using h1.symm
    |succ k=>rw [hk]at h1;simp at h1
   subst this;exact hn hid
 ·rintro⟨p,hp,nj,h1,e⟩
  exact⟨nj,by rw [List.getElem?_append_left (lgeS h1).1];exact h1,(key _).2 ⟨p,hp,e⟩⟩
end
section
variable{w w':World}{S F F':Nat->Prop}{g bl c mb:Nat}{D:DG}{C:HT->List HT}{M:List NM}{K:Value->World->Prop}
theorem GV.Sx(G:GV w S F g D C bl c mb M)(hf:∀k,F k->F' k)(hd:∀k,S k->¬F' k)(hl:∀k,F' k->k<w.heap.size):GV w S F' g D C bl c mb M:=
 ⟨G.top,G.row,G.map,G.len,fun i nd m h1 h2=>by
   have N:=G.node i nd m h1 h2;exact⟨N.bE,N.fY,N.ps,fun a ha=>hf _ (N.Kj a ha),N.ch,N.QL,N.past,fun a ha=>hf _ (N.ph a ha),N.ok,N.bits,N.small⟩,G.apart,G.gY,G.tq,G.vw,hd,fun k hk=>hk.elim (fun h=>G.low k (.inl h)) (hl k)⟩
theorem LU{w0:World}{F1 S':Nat->Prop}{h:HT}{l:List HT}{gb ib nb:Nat}{pA:Option Addr}{pc i:Nat}{rA:Option Addr}{rn rc:Nat}{ws:List Nat}
 (L:AL w0 w S F1 S' g D h l gb ib nb pA pc i bl c mb M rA rn rc ws) (W:jn D) (hD:D.length<=5000) (ue:SS l) (fC:∀p∈l,p∈ids D) (hn:h∉ids D) (Gt:∀k,F1 k->k<nb) (JD:∀a,pA=some a->F1 a.block) (h0:w0.heap.size<=nb) (dP:l.length<=i)
 (hK:∀v S2 F2,C5 v S2 F2 g (D++ [⟨h,l⟩])->Kept S w0 v->(∀k,S2 k->S k\/w0.heap.size<=k)->(∀k,F2 k->F1 k\/w0.heap.size<=k)->K (.int .i64 0) v):
 bA.Gh ⟨gb,0,none⟩ ⟨ib,0,none⟩ 0 ⟨nb,0,none⟩ pA l.length pc (l.length:Int) (i:Int) K w:=by
 have TH:l.take i=l:=List.take_of_length_le dP;have hG:=L.G;rw [TH]at hG;have Na:=L.bits;rw [TH]at Na;unfold bA.Gh;intro Q2;have Mm:Kept Nil w Q2:=(Kept.refl _ _).drew;clear_value Q2;have ui:=hG.same Mm;have Ll:=Mm.heap L.X8 (fun h=>h);have Ir:=Mm.heap L.node (fun h=>h);have Dg:kK Q2 nb rA rn rc ws:=Row.aG L.row Mm (fun _ _ h=>h);refine⟨some ⟨g,0,none⟩,by rw [aA Ll];rfl,some mb,ui.at_,h.1,⟨h.2.1,Cells.bE (Mm.heap L.ibx (fun h=>h))⟩,some ⟨g,0,none⟩,by rw [aA Ll];rfl,?_⟩;refine⟨_,_,_,ui.nodes,?_⟩;obtain⟨w85,TX,SC,k85⟩:=ui.map.put hn;rw [gg]at TX;refine⟨w85,TX,?_⟩;intro JS;have OD:Kept (· =mb) Q2 JS:=k85.drew;have Me:IsMap JS mb (ids D++ [h]):=SC.aG ((Kept.refl Nil w85).drew) (fun h=>h);clear_value JS;have JW:∀ {v:World} {k:Nat} {cs:Array Value} {t:TypeId},IsMap v mb (ids D)->v.heap[k]? =some (.cells cs t (0,0))->k≠mb:=fun hm hk e=>by
  obtain⟨es,clock,La,_⟩:=hm.ex;rw [e,La]at hk;cases hk
 have P2:=OD.heap Ll (JW ui.map Ll);have aiu:=OD.heap Ir (JW ui.map Ir);have H5:=OD.heap ui.top (JW ui.map ui.top);have Sf:Row JS 0 fh 1 (some ⟨bl,0,none⟩) D.length c (M.map fun m=>.pointer (some ⟨m.b,0,none⟩)):=Row.aG ui.row OD (fun k hk e=>by
  obtain⟨_,cur,hc⟩:=Row.bE ui.row hk;exact JW ui.map hc e)
 have YR:kK JS nb rA rn rc ws:=Row.aG Dg OD (fun k hk e=>by
  obtain⟨_,cur,hc⟩:=Row.bE Dg hk;exact JW ui.map hc e)
 refine⟨some ⟨g,0,none⟩,by rw [aA P2];rfl,some ⟨g,0,none⟩,by rw [aA P2];rfl,?_⟩;refine⟨some ⟨bl,0,none⟩,D.length,c,by rw [add_zero,aA H5];rfl,?_⟩;intro ND;have Rc:Kept Nil JS ND:=(Kept.refl _ _).alloc _;have abX:ND.heap[JS.heap.size]? =some (.cells #[.pointer (some ⟨nb,0,none⟩)] fh (0,0)):=aI JS _;clear_value ND;have Lk:=Rc.heap P2 (fun h=>h);have Ce:=Rc.heap H5 (fun h=>h);refine⟨by rw [add_zero,aA Ce];rfl,by rw [aA Lk];rfl,by rw [aA Lk];rfl,?_⟩;have G6:Row ND 0 fh 1 (some ⟨bl,0,none⟩) D.length c (M.map fun m=>.pointer (some ⟨m.b,0,none⟩)):=Row.aG Sf Rc (fun _ _ h=>h);obtain⟨Yt,RJ,NC,aaf,G5,U2,abW⟩:=fE (P:=prog) (t:=lD) (ty:=lD) (bytes:=8) R9 G6 (a:=⟨JS.heap.size,0,none⟩) (m:=1) (cx:=1) (news:= [.pointer (some ⟨nb,0,none⟩)]) rfl
  (fun j u hj=>by rw [bg,Nat.zero_add,aA abX];simpa using hj) (fun u hu=>by simp at hu;subst hu;rfl) (by omega) (by unfold maxLen;omega) (Nat.zero_le _)
 have Xh:Kept (· =bl) ND NC:=Kept.grown (S:=fun k=>k=bl) (Kept.refl _ _) U2 (fun k hk _=>by cases hk;rfl);refine⟨Yt,_,RJ,NC,aaf,?_⟩;have tyL:∀ {k:Nat} {cs:Array Value} {t:TypeId},ND.heap[k]? =some (.cells cs t (0,0))->t≠fh->k≠bl:=fun hk e9=>by
  obtain⟨_,cur,hc⟩:=Row.bE G6 (k:=bl) rfl;exact jR hk hc e9
 have abj:=Xh.heap Lk (tyL Lk (by decide));have yg:=Xh.heap Ce (tyL Ce (by decide));refine⟨by rw [aA abj];rfl,by rw [add_zero];exact dO yg (by simp),?_⟩;intro Jr;have Zn:Kept (· =g) NC Jr:=by
  show Kept (· =g) NC (NC.setCell ((⟨g,0,none⟩:Addr).add 0) (.slice Yt (D.length+1) RJ))
  exact Kept.setCell (S:=fun k=>k=g) (Kept.refl _ NC) (by rw [eR];exact fun _=>rfl) _
 have Pe:Jr.heap[g]? =some (.cells #[.slice Yt (D.length+1) RJ,.map (some mb)] gS (0,0)):=by
  show(NC.setCell ((⟨g,0,none⟩:Addr).add 0) (.slice Yt (D.length+1) RJ)).heap[g]? =_;rw [add_zero,dc yg 0];rfl
 clear_value Jr;obtain⟨RL,rfl⟩:=Row.some G5 (by omega);have ahV:=OD.size;have ahU:=Rc.size;have la:Kept (fun k=>k=g\/k=bl\/k=mb) Q2 Jr:=
  (((OD.mono (S':=fun k=>k=g\/k=bl\/k=mb) (fun _ _ h=>.inr (.inr h))).trans Rc (fun _ _ h=>h.elim)).trans Xh (fun _ _ h=>.inr (.inl h))).trans Zn (fun _ _ h=>.inl h)
 have hTF:∀k,F1 k->¬(k=g\/k=bl\/k=mb):=fun k hk e=>by
  rcases e with rfl|rfl|rfl
  ·exact ui.Gw _ ui.gY hk
  ·exact ui.Gw _ ui.tq hk
  ·exact ui.Gw _ ui.vw hk
 have ty:∀ {k:Nat} {cs:Array Value} {t:TypeId},Q2.heap[k]? =some (.cells cs t (0,0))->t≠gS->t≠fh->¬(k=g\/k=bl\/k=mb):=fun hk h1 h2 e=>by
  rcases e with e|e|e
  ·rw [e]at hk
   exact jR hk ui.top h1 rfl
  ·rw [e]at hk
   obtain⟨_,cur,hc⟩:=Row.bE ui.row (k:=bl) rfl;exact jR hk hc h2 rfl
  ·exact JW ui.map hk e
 have Ci:Row Jr 0 fh 1 (some ⟨RL,0,none⟩) (D.length+1) RJ ((M.map fun m=>.pointer (some ⟨m.b,0,none⟩))++ [.pointer (some ⟨nb,0,none⟩)]):=Row.aG G5 Zn (fun k hk e=>by
  obtain⟨_,cur,hc⟩:=Row.bE G5 hk;exact jR hc yg (by decide) e)
 have SB:IsMap Jr mb (ids D++ [h]):=by
  obtain⟨es,clock,La,_⟩:=Me.ex;have h1:=Me.aG Rc (fun h=>h);have h2:=h1.aG Xh (fun e=>by
   obtain⟨_,cur,hc⟩:=Row.bE G6 (k:=bl) rfl;obtain⟨_,_,mI,_⟩:=h1.ex;rw [e,hc]at mI;cases mI)
  exact h2.aG Zn (fun e=>by
   obtain⟨_,_,mI,_⟩:=h2.ex;rw [e,yg]at mI;cases mI)
 have PA:=la.heap Ir (ty Ir (by decide) (by decide));have xT:kK Jr nb rA rn rc ws:=Row.aG Dg la (fun k hk e=>by
  obtain⟨_,cur,hc⟩:=Row.bE Dg hk;exact ty hc (by decide) (by decide) e)
 have Iw:(D++ [(⟨h,l⟩:DN)]).length=D.length+1:=by simp
 have VM:RL=bl\/ND.heap.size<=RL:=by
  rcases abW RL rfl with e|e
  ·exact .inl (by cases e;rfl)
  ·exact .inr e
 have lO:=L.kp.size;have ahW:=Mm.size;have aaP:=aT Ir;have TW:∀k,a8 rA=some k->nb<=k/\k<Jr.heap.size:=fun k hk=>by
  obtain⟨h1,cur,hc⟩:=Row.bE xT hk;exact⟨h1,aT hc⟩
 have gD:∀ {X:Type} (xs:List X) (y:X) (j:Nat) (z:X),(xs++ [y])[j]? =some z->(j<xs.length/\xs[j]? =some z)\/(j=xs.length/\z=y):=fun xs y j z e=>by
  rw [List.getElem?_append]at e;split at e
  ·rename_i cJ;exact .inl ⟨cJ,e⟩
  ·rename_i gu
   cases hk:j-xs.length with
   |zero=>rw [hk]at e;exact .inr ⟨by omega,by simpa using e.symm⟩
   |succ k=>rw [hk]at e;simp at e
 refine hK Jr (fun k=>S' k\/k=nb\/k=RL) (fun k=>F1 k\/a8 rA=some k) ⟨RL,RJ,mb,M++ [⟨nb,pA,l.length,pc,none,0,0,rA,rn,rc,ws⟩],?_⟩ ?_ ?_ ?_
 ·refine⟨by rw [Iw];exact Pe,?_,by rw [lf];exact SB,by simp [hG.len],fun j nd m h1 h2=>?_,fun j j' m m' h1 h2 e9 k hk oD=>?_,.inl hG.gY,.inr (.inr rfl),.inl hG.vw,fun k hk hf=>?_,fun k hk=>?_⟩
  ·rw [Iw,List.map_append]
   exact Ci
  ·rcases gD _ _ _ _ h1 with⟨hj,qS⟩|⟨hj,rfl⟩
   ·rcases gD _ _ _ _ h2 with⟨_,tO⟩|⟨vm,_⟩
    ·have N:=ui.node j nd m qS tO
     have hid:nd.id∈ids D:=cP.2 ⟨nd,List.mem_of_getElem? qS,rfl⟩;have hF:∀k,F1 k->¬(k=g\/k=bl\/k=mb):=hTF;rw [<-CN W hn];refine⟨la.heap N.bE (ty N.bE (by decide) (by decide)),.inl N.fY,N.ps.aG la (fun a ha=>hF _ (N.Kj a ha)),fun a ha=>.inl (N.Kj a ha),Row.aG N.ch la (fun k hk e=>?_),fun k hk=>.inl (N.QL k hk),N.past.aG la (fun a ha=>hF _ (N.ph a ha)),fun a ha=>.inl (N.ph a ha),N.ok,fun j=>?_,N.small⟩
     ·obtain⟨cur,hc⟩:=(Row.bE N.ch hk).2
      exact ty hc (by decide) (by decide) e
     ·rw [N.bits,I8 W hn hid]
    ·rw [hG.len]at vm;omega
   ·rcases gD _ _ _ _ h2 with⟨vm,_⟩|⟨_,rfl⟩
    ·rw [hG.len]at vm;omega
    ·rw [F0 W hn fC]
     refine⟨PA,.inr (.inl rfl),(L.hl.same Mm).aG la (fun a ha=>hTF _ (JD a ha)),fun a ha=>.inl (JD a ha),bI.nil _ _,(fun k hk=>by cases hk),xT.us,fun a ha=>.inr (congrArg a8 ha),L.ok,fun j=>?_,L.small⟩;rw [Na,I9 W hn fC ue]
  ·rcases gD _ _ _ _ h1 with⟨_,qS⟩|⟨_,rfl⟩
   ·rcases gD _ _ _ _ h2 with⟨_,tO⟩|⟨_,rfl⟩
    ·exact hG.apart j j' m m' qS tO e9 k hk oD
    ·cases oD
   ·cases hk
  ·rcases hk with hk|rfl|rfl
   ·rcases hf with hf|hf
    ·exact hG.Gw k hk hf
    ·exact L.YZ k hf hk
   ·rcases hf with hf|hf
    ·have:=Gt k hf;omega
    ·obtain⟨_,cur,hc⟩:=Row.bE xT hf
     exact jR PA hc (by decide) rfl
   ·rcases hf with hf|hf
    ·rcases VM with e|e
     ·rw [e]at hf;exact hG.Gw _ hG.tq hf
     ·have:=Gt _ hf;omega
    ·obtain⟨_,cur,hc⟩:=Row.bE xT hf
     obtain⟨_,WG,tN⟩:=Row.bE Ci (k:=k) rfl;exact jR tN hc (by decide) rfl
  ·have ahT:=la.size
   rcases hk with(hk|rfl|rfl)|hk|hk
   ·have:=ui.low k (.inl hk);omega
   ·exact aT PA
   ·obtain⟨_,WG,tN⟩:=Row.bE Ci (k:=k) rfl
    exact aT tN
   ·have:=ui.low k (.inr hk);omega
   ·exact(TW k hk).2
 ·exact(L.kp.trans Mm (fun _ _ h=>h.elim)).trans la (fun k hk e=>by
   have hs:S' k:=by
    rcases e with rfl|rfl|rfl
    ·exact hG.gY
    ·exact hG.tq
    ·exact hG.vw
   rcases L.new k hs with h|h
   ·exact h
   ·omega)
 ·intro k hk
  rcases hk with hk|rfl|rfl
  ·exact L.new k hk
  ·exact .inr h0
  ·rcases VM with e|e
   ·rw [e];exact L.new _ hG.tq
   ·exact .inr (by omega)
 ·intro k hk
  rcases hk with hk|hk
  ·exact .inl hk
  ·exact .inr (by have:=(TW k hk).1;omega)
theorem LI(G:GV w S F g D (gE D) bl c mb M)(W:jn D)(hD:D.length<=5000){A:Option Addr}{n cx:Nat}{lp:List HT}(hl:HS w A n lp)(hn:n<=10000)(h:HT)
 (hK:∀v S2 F2,C5 v S2 F2 g (mK D h lp)->Kept S w v->(∀k,S2 k->S k\/w.heap.size<=k)->(∀k,F2 k->F k\/w.heap.size<=k)->K (.int .i64 (dr D h lp)) v):
 bk prog bA.id #[.pointer (some ⟨g,0,none⟩),.agg h.1,.slice A n cx] w K:=by
 have hlen:=hl.len;have lE:∀v,Kept Nil w v->∀e,dr D h lp=e->e≠0->K (.int .i64 e) v:=fun v k e he e9=>by
  have:=hK v S F ?_ (k.mono fun _ _ h=>h.elim) (fun _ h=>.inl h) (fun _ h=>.inl h)
  ·rw [he]at this;exact this
  ·unfold mK
   rw [if_neg (by rw [he];exact e9)];exact⟨bl,c,mb,M,G.same k⟩
 refine bA.of ?_;unfold bA.W;intro w4 w5;have k4:Kept Nil w w4:=(Kept.refl _ _).alloc _;have DY:w4.heap[w.heap.size]? =some (.cells #[.pointer (some ⟨g,0,none⟩)] kX (0,0)):=aI w _;have k5:Kept Nil w4 w5:=(Kept.refl _ _).alloc _;have Li:w5.heap[w4.heap.size]? =some (.cells h.1 ai (0,0)):=aI w4 _;have U5:=k5.heap DY (fun h=>h);clear_value w5;have Mg:Kept Nil w w5:=k4.tt k5;have PY:w.heap.size<w4.heap.size:=aT DY;have aiV:w4.heap.size<w5.heap.size:=aT Li;clear_value w4;refine iN (hl.same Mg) (by omega) fun Ek QM w7 Kf k7=>⟨Ek,_,QM,rfl,?_⟩;have BT:Kept Nil w w7:=Mg.tt k7;have hg7:=k7.heap U5 (fun h=>h);have hi7:=k7.heap Li (fun h=>h);have G7:=G.same BT;have Bh:(di lp).length<=n:=by have:=nP lp;omega
 refine⟨some ⟨g,0,none⟩,by rw [aA hg7];rfl,xA G7 ⟨true,rfl,Split.no rfl ?_⟩⟩;refine⟨some ⟨g,0,none⟩,by rw [aA hg7];rfl,h.1,⟨h.2.1,Cells.bE hi7⟩,uh G7 h fun jw mT=>⟨_,rfl,?_⟩⟩;have Hx:=BT.tt mT;by_cases hm:h∈ids D
 ·refine Split.yes (decide_eq_true hm) (lE jw Hx 7 ?_ (by omega))
  unfold dr;rw [if_pos hm]
 refine Split.no (decide_eq_false hm) ?_;by_cases h0:(di lp).length=0
 ·refine Split.yes (by simp [h0]) (lE jw Hx 9 ?_ (by omega))
  unfold dr;rw [if_neg hm,if_pos (.inl h0)]
 refine Split.no (beq_eq_false_iff_ne.2 (by omega)) ?_;by_cases h1:(di lp).length≠n
 ·refine Split.yes (bne_iff_ne.2 (by omega)) (lE jw Hx 9 ?_ (by omega))
  unfold dr;rw [if_neg hm,if_pos (.inr (by omega))]
 replace h1:(di lp).length=n:=by omega
 refine Split.no (by rw [h1];simp) ?_;have U9:=mT.heap hg7 (fun h=>h);have Ma:=Row.aG Kf mT (fun _ _ h=>h);refine AN (G.same Hx) U9 (bI.hs Ma) (by omega) fun oR x hx xk=>⟨x,rfl,?_⟩;have Hw:=Hx.tt xk;cases x with
 |true=>
  refine Split.yes rfl (lE oR Hw 6 ?_ (by omega));unfold dr;rw [if_neg hm,if_neg (by omega),if_pos (hx.1 rfl)]
 |false=>
  have fC:∀p∈di lp,p∈ids D:=fun p hp=>Classical.byContradiction fun aaN=>by have:=hx.2 ⟨p,hp,aaN⟩;cases this
  have Vx:dr D h lp=0:=by
   unfold dr;rw [if_neg hm,if_neg (by omega),if_neg (fun⟨p,hp,K2⟩=>K2 (fC p hp))]
  have hD':mK D h lp=D++ [⟨h,di lp⟩]:=by unfold mK;rw [if_pos Vx]
  rw [Vx,hD']at hK;refine Split.no rfl ?_;have U1:=xk.heap (mT.heap hi7 (fun h=>h)) (fun h=>h);have P5:=xk.heap U9 (fun h=>h);have wR:bI oR w5.heap.size Ek (di lp).length QM (di lp):=Row.aG Ma xk (fun _ _ h=>h);refine⟨h.1,⟨h.2.1,Cells.bE U1⟩,?_⟩;rw [I5 h oR.heap.size];refine Is.mk rfl ?_;intro Ju;have OL:Kept Nil oR Ju:=(Kept.refl _ _).alloc _;have aaQ:Ju.heap[oR.heap.size]? =some (.cells (fP h ⟨oR.heap.size,Ek,(di lp).length,QM,none,0,0,none,0,0,[]⟩) dM (0,0)):=aI oR _;clear_value Ju;have SM:=Hw.tt OL;have QF:∀k,a8 Ek=some k->w5.heap.size<=k/\k<oR.heap.size:=fun k hk=>by
   obtain⟨e1,cur,hc⟩:=Row.bE wR hk;exact⟨e1,aT hc⟩
  have hs5:=Mg.size;have ah6:=Hw.size;have Gt:∀k,(F k\/a8 Ek=some k)->k<oR.heap.size:=fun k hk=>by
   rcases hk with hk|hk
   ·have:=G.low k (.inr hk);omega
   ·exact(QF k hk).2
  have Lx:∀k,S k->k<w.heap.size:=fun k hk=>G.low k (.inl hk);have G23:GV Ju S (fun k=>F k\/a8 Ek=some k) g D (gE D) bl c mb M:=(G.same SM).Sx (fun _ h=>.inl h) (fun k hs e=>by
   rcases e with e|e
   ·exact G.Gw k hs e
   ·have:=Lx k hs;have:=(QF k e).1;omega) (fun k hk=>by have:=Gt k hk;have:=OL.size;omega)
  have DV:iO D h ((di lp).take 0)=gE D:=by
   funext y
   unfold iO;rw [if_neg (by simp)]
  have L0:AL w Ju S (fun k=>F k\/a8 Ek=some k) S g D h (di lp) w.heap.size w4.heap.size oR.heap.size Ek QM 0 bl c mb M none 0 0 []:=
   ⟨by rw [DV];exact G23,fun _ h=>h,fun _ h=>.inl h,aaQ,fun e=>by have:=Lx _ e;omega,Row.nil _ _ _ _,by simp [okW],by omega,(fun k hk=>by cases hk),fun j=>by simp [yA],OL.heap P5 (fun h=>h),OL.heap U1 (fun h=>h),
     fun e=>by have:=Lx _ e;omega,fun e=>by have:=Lx _ e;omega,(wR.hs).same OL,SM.mono fun _ _ h=>h.elim⟩
  refine bA.b9 (I:=fun s v=>∃(i:Nat) (S2:Nat->Prop) (M2:List NM) (rA:Option Addr) (rn rc:Nat) (ws:List Nat),s=(i:Int)/\i<=(di lp).length/\AL w v S (fun k=>F k\/a8 Ek=some k) S2 g D h (di lp) w.heap.size w4.heap.size oR.heap.size Ek QM i bl c mb M2 rA rn rc ws)
   (μ:=fun s _=>(((di lp).length:Int)-s).toNat) (s:=0) ⟨0,S,M,none,0,0,[],rfl,Nat.zero_le _,L0⟩ ?_
  rintro s v ⟨i,S2,M2,rA,rn,rc,ws,rfl,hi,L⟩;have JD:∀a,Ek=some a->F a.block\/a8 Ek=some a.block:=fun a ha=>.inr (by rw [ha];rfl);by_cases dP:i<(di lp).length
  ·refine Ge L W (by omega) (ir _) fC Gt JD (by omega) dP (by omega) fun S3 M3 rA3 rn3 rc3 ws3 v3 L3=>?_
   exact⟨(i:Int)+1,rfl,⟨i+1,S3,M3,rA3,rn3,rc3,ws3,rfl,dP,L3⟩,by simp only;omega⟩
  ·refine Split.no (decide_eq_false (by omega)) ?_
   rw [aO,bA.NB];refine LU L W hD (ir _) fC hm Gt JD (by omega) (by omega) fun v2 S4 F4 hI UO hS4 hF4=>hK v2 S4 F4 hI UO hS4 (fun k hk=>?_);rcases hF4 k hk with(e|e)|e
   ·exact .inl e
   ·exact .inr (by have:=(QF k e).1;omega)
   ·exact .inr e
end
def o6(nb:Nat):NM:=⟨nb,none,0,0,none,0,0,none,0,0,[]⟩
structure NP(w v:World)(r:HT)(A B E:Option Nat)(l:List HT):Prop where
 kp:Kept Nil w v
 node:∀b,A=some b->w.heap.size<=b/\v.heap[b]? =some (.cells (fP r (o6 b)) dM (0,0))
 list:∀b,B=some b->w.heap.size<=b/\∃nb,A=some nb/\v.heap[b]? =some (.cells #[.pointer (some ⟨nb,0,none⟩)] fh (0,0))
 map:∀b,E=some b->w.heap.size<=b/\IsMap v b l
section
variable{w v:World}{r:HT}{A B E:Option Nat}{l:List HT}{K:Value->World->Prop}
theorem NP.grow(h:NP w v r A B E l)(o:Obj):NP w (v.alloc o) r A B E l:=
 ⟨h.kp.alloc o,fun b e=>⟨(h.node b e).1,iQ (h.node b e).2 o⟩,fun b e=>⟨(h.list b e).1,let ⟨nb,h1,h2⟩:=(h.list b e).2;⟨nb,h1,iQ h2 o⟩⟩,fun b e=>⟨(h.map b e).1,(h.map b e).2.aG ((Kept.refl Nil v).alloc o) (fun h=>h)⟩⟩
theorem NP.addNode(h:NP w v r none none E l):NP w (v.alloc (.cells (fP r (o6 v.heap.size)) dM)) r (some v.heap.size) none E l:=
 have g:=h.grow (.cells (fP r (o6 v.heap.size)) dM)
 ⟨g.kp,fun b e=>by cases e;exact⟨h.kp.size,aI v _⟩,fun b e=>(by cases e),g.map⟩
theorem NP.p8{nb:Nat}(h:NP w v r (some nb) none E l):NP w (v.alloc (.cells #[.pointer (some ⟨nb,0,none⟩)] fh)) r (some nb) (some v.heap.size) E l:=
 have g:=h.grow (.cells #[.pointer (some ⟨nb,0,none⟩)] fh)
 ⟨g.kp,g.node,fun b e=>by cases e;exact⟨h.kp.size,nb,rfl,aI v _⟩,g.map⟩
theorem NP.CY(h:NP w v r A B none []):NP w (v.alloc (.map #[] 0)) r A B (some v.heap.size) []:=
 have g:=h.grow (.map #[] 0)
 ⟨g.kp,g.node,g.list,fun b e=>by cases e;exact⟨h.kp.size,⟨#[],0,aI v _,trivial⟩⟩⟩
theorem NP.put{mb:Nat}(h:NP w v r A B (some mb) []):∃v',(Instr.mapUpdate cu (.map (some mb)) (.agg r.1) (.int .i64 0)).run prog v=.ok () v'/\NP w v' r A B (some mb) [r]:=by
 obtain⟨h1,h2⟩:=h.map mb rfl;obtain⟨v',hr,hm,hk⟩:=h2.put (h:=r) (by simp);have JW:∀ {k:Nat} {cs:Array Value} {t:TypeId},v.heap[k]? =some (.cells cs t (0,0))->¬(k=mb):=fun hk e=>by
  obtain⟨es,clock,La,_⟩:=h2.ex;rw [e,La]at hk;cases hk
 refine⟨v',hr,h.kp.trans hk (fun k hk e=>by omega),fun b e=>⟨(h.node b e).1,hk.heap (h.node b e).2 (JW (h.node b e).2)⟩,fun b e=>⟨(h.list b e).1,?_⟩,fun b e=>by cases e;exact⟨h1,hm⟩⟩;obtain⟨nb,e1,e2⟩:=(h.list b e).2;exact⟨nb,e1,hk.heap e2 (JW e2)⟩
theorem si(r:HT){a b:HT}:¬lH [(⟨r,[]⟩:DN)] a b:=fun⟨nd,h1,_,h2⟩=>by
 simp at h1;subst h1;simp at h2
theorem zu(r:HT){a b:HT}:¬dN [(⟨r,[]⟩:DN)] a b:=fun h=>by
 cases h with
 |one h=>exact si r h
 |more _ h=>exact si r h
theorem NP.fin{w0:World}{nb lb mb:Nat}(h:NP w v r (some nb) (some lb) (some mb) [r])(hw:w0.heap.size<=w.heap.size):
 C5 (v.alloc (.cells #[.slice (some ⟨lb,0,none⟩) 1 1,.map (some mb)] gS)) (fun k=>w0.heap.size<=k/\k<(v.alloc (.cells #[.slice (some ⟨lb,0,none⟩) 1 1,.map (some mb)] gS)).heap.size) (fun _=>False) v.heap.size [⟨r,[]⟩]:=by
 have g:=h.grow (.cells #[.slice (some ⟨lb,0,none⟩) 1 1,.map (some mb)] gS);have jc:=aI v (.cells #[.slice (some ⟨lb,0,none⟩) 1 1,.map (some mb)] gS);generalize v.alloc (.cells #[.slice (some ⟨lb,0,none⟩) 1 1,.map (some mb)] gS)=u at g jc;have hs:=h.kp.size;obtain⟨n1,n2⟩:=g.node nb rfl;obtain⟨l1,nb',e,l2⟩:=g.list lb rfl;cases e;obtain⟨m1,m2⟩:=g.map mb rfl;have mW:gE [⟨r,[]⟩] r= []:=by
  cases hc:gE [⟨r,[]⟩] r with
  |nil=>rfl
  |cons b t=>exact absurd (jb.1 (show b∈gE [⟨r,[]⟩] r by rw [hc];simp)).2 (si r)
 refine⟨lb,1,mb,[o6 nb],jc,Row.made (n:=1) (cur:= #[.pointer (some ⟨nb,0,none⟩)]) l2 (Nat.zero_le _) rfl (by decide),m2,rfl,fun i nd m hi hm=>?_,fun i j m m' h1 h2 e9 k hk=>?_,⟨by omega,aT jc⟩,⟨by omega,aT l2⟩,⟨by omega,m2.lt⟩,fun _ _ h=>h,fun k hk=>hk.elim (fun h=>h.2) (fun h=>h.elim)⟩
 ·cases i with
  |zero=>
   simp at hi hm;subst hi;subst hm;refine⟨n2,⟨Nat.le_trans hw n1,aT n2⟩,HS.nil _ _,(fun a ha=>by cases ha),?_,(fun k hk=>by cases hk),⟨rfl,fun i x hx=>by simp [o6]at hx⟩,(fun a ha=>by cases ha),by simp [okW,o6],fun j=>?_,by simp [o6]⟩
   ·show bI u 0 none 0 0 (gE [⟨r,[]⟩] r)
    rw [mW];exact bI.nil _ _
   ·show bit [] j=true↔_
    rw [yA];exact⟨(fun h=>by cases h),fun⟨nj,_,h⟩=>absurd h (zu r)⟩
  |succ i=>simp at hi
 ·have hm:m=o6 nb:=by
   have:=List.mem_of_getElem? h1;simpa using this
  subst hm;cases hk
theorem fT(r:HT)(hK:∀v gb,C5 v (fun k=>w.heap.size<=k/\k<v.heap.size) (fun _=>False) gb [⟨r,[]⟩]->Kept Nil w v->K (.pointer (some ⟨gb,0,none⟩)) v):
 bk prog mP.id #[.agg r.1] w K:=by
 refine mP.of ?_;unfold mP.W;intro w2 w3;have k2:Kept Nil w w2:=(Kept.refl _ _).alloc _;have lh:w2.heap[w.heap.size]? =some (.cells r.1 ai (0,0)):=aI w _;have k3:Kept Nil w w3:=k2.drew;have nh:w3.heap[w.heap.size]? =some (.cells r.1 ai (0,0)):=lh;clear_value w3;have N3:NP w3 w3 r none none none []:=⟨Kept.refl _ _,(fun b e=>by cases e),(fun b e=>by cases e),(fun b e=>by cases e)⟩;have mM:∀ {v:World},Kept Nil w3 v->∃cs:Array Value,(.agg r.1:Value)=.agg cs/\cs.size=32/\Cells v (⟨w.heap.size,0,none⟩:Addr) cs:=fun k=>⟨r.1,rfl,r.2.1,Cells.bE (k.heap nh (fun h=>h))⟩;have vn:∀ {v:World} {nb lb mb:Nat},NP w3 v r (some nb) (some lb) (some mb) [r]->K (.pointer (some ⟨v.heap.size,0,none⟩)) (v.alloc (.cells #[.slice (some ⟨lb,0,none⟩) 1 1,.map (some mb)] gS)):=fun h=>hK _ _ (h.fin k3.size) ((k3.tt h.kp).alloc _);refine⟨r.1,⟨r.2.1,Cells.bE nh⟩,?_⟩;have Uo:∀b,prog.built dM [(0,.agg r.1)]=some (fP r (o6 b)):=fun b=>F5 r b;rw [Uo 0];refine Is.mk rfl ?_;refine⟨r.1,⟨r.2.1,Cells.bE nh⟩,?_⟩;refine⟨?_,?_⟩
 ·have N7:NP w3 (w3.alloc (.cells (fP r (o6 w3.heap.size)) dM)) r (some w3.heap.size) none none []:=N3.addNode
  refine⟨mM N7.kp,?_,?_⟩
  ·have N8:=N7.p8
   have N9:=N8.CY;obtain⟨v,hr,RS⟩:=N9.put;exact⟨mM N8.kp,mM N9.kp,v,hr,vn RS⟩
  ·have QY:=N7.CY
   refine⟨mM QY.kp,?_,?_⟩
   ·have LW:=QY.p8
    obtain⟨v,hr,QX⟩:=LW.put;exact⟨mM LW.kp,v,hr,vn QX⟩
   ·obtain⟨v,hr,RR⟩:=QY.put
    exact⟨v,hr,vn RR.p8⟩
 ·have JO:=N3.CY
  refine⟨mM JO.kp,mM JO.kp,?_,?_⟩
  ·have Nx:NP w3 ((w3.alloc (.map #[] 0)).alloc (.cells (fP r (o6 (w3.alloc (.map #[] 0)).heap.size)) dM)) r (some (w3.alloc (.map #[] 0)).heap.size) none (some w3.heap.size) []:=JO.addNode
   refine⟨mM Nx.kp,?_,?_⟩
   ·have Nw:=Nx.p8
    obtain⟨v,hr,RP⟩:=Nw.put;exact⟨mM Nw.kp,v,hr,vn RP⟩
   ·obtain⟨v,hr,WV⟩:=Nx.put
    exact⟨v,hr,vn WV.p8⟩
  ·obtain⟨v,hr,QW⟩:=JO.put
   exact⟨v,hr,mM QW.kp,vn QW.addNode.p8⟩
end
section
variable{w w':World}{S S' F:Nat->Prop}{g bl c mb:Nat}{D:DG}{C:HT->List HT}{M:List NM}{K:Value->World->Prop}
end
section
variable{w w':World}{S S' F:Nat->Prop}{g bl c mb:Nat}{D:DG}{C:HT->List HT}{M:List NM}{K:Value->World->Prop}
end
theorem dW{w:World}{b:Nat}{z cs:Array Value}{t:TypeId}(h:w.heap[b]? =some (.cells z t (0,0)))(hz:z.size=cs.size):
 (∀j,j<cs.size->Wr w ((⟨b,0,none⟩:Addr).add j))/\(setCells w ⟨b,0,none⟩ cs.toList 0).heap[b]? =some (.cells cs t (0,0))/\Kept (· =b) w (setCells w ⟨b,0,none⟩ cs.toList 0):=by
 refine⟨fun j hj=>?_,?_,eZ _ _ _ _⟩
 ·rw [bg,Nat.zero_add]
  exact dO h (by omega)
 ·have h1:=kj cs.toList z w t 0 0 h (by simp;omega)
  rw [h1,uu (by simp [hz])]
def hx(i:Nat)(hi:i<256):HT:=⟨#[.int .u8 (i:Int),.int .u8 0,.int .u8 0,.int .u8 0,.int .u8 0,.int .u8 0,.int .u8 0,.int .u8 0,.int .u8 0,.int .u8 0,.int .u8 0,.int .u8 0,.int .u8 0,.int .u8 0,.int .u8 0,.int .u8 0,.int .u8 0,.int .u8 0,.int .u8 0,.int .u8 0,.int .u8 0,.int .u8 0,.int .u8 0,.int .u8 0,.int .u8 0,.int .u8 0,.int .u8 0,.int .u8 0,.int .u8 0,.int .u8 0,.int .u8 0,.int .u8 0],rfl,fun v hv=>by
 simp only [List.mem_cons,List.not_mem_nil,or_false]at hv;rcases hv with rfl|hv
 ·exact⟨i,rfl,by omega,by omega⟩
 ·exact⟨0,by simpa using hv,by omega,by omega⟩⟩
theorem sC{i j:Nat}{hi:i<256}{hj:j<256}(h:i≠j):hx i hi≠hx j hj:=fun e=>by
 have:=congrArg (fun a:HT=>a.1[0]?) e;simp [hx]at this;omega
section
variable{w w':World}{K:Value->World->Prop}
end
theorem HS.lay{w:World}{b:Nat}{l:List HT}{t:TypeId}(hb:w.heap[b]? =some (.cells (cX l).toArray t (0,0))):HS w (some ⟨b,0,Option.none⟩) l.length l:=
 ⟨rfl,fun i x hi=>⟨_,rfl,aT hb,fun j v hj=>by
   rw [bg,bg,Nat.zero_add,aA hb];simpa using kV hi hj⟩⟩
section
variable{r a b c:HT}(yj:r≠a)(wh:r≠b)(DM:r≠c)(kM:a≠b)(D5:a≠c)(Bk:b≠c)
abbrev kD(r a b c:HT):DG:= [⟨r,[]⟩,⟨a,[r]⟩,⟨b,[r]⟩,⟨c,di [a,b]⟩]
include yj in
theorem k1:dr [⟨r,[]⟩] a [r]=0/\mK [⟨r,[]⟩] a [r]= [⟨r,[]⟩,⟨a,[r]⟩]:=by
 have h:dr [⟨r,[]⟩] a [r]=0:=by
  unfold dr;rw [if_neg (by simp [ids];exact fun e=>yj e.symm),tY,if_neg (by simp),if_neg (by simp [ids])]
 exact⟨h,by unfold mK;rw [if_pos h,tY];rfl⟩
include wh kM in
theorem k2:dr [⟨r,[]⟩,⟨a,[r]⟩] b [r]=0/\mK [⟨r,[]⟩,⟨a,[r]⟩] b [r]= [⟨r,[]⟩,⟨a,[r]⟩,⟨b,[r]⟩]:=by
 have h:dr [⟨r,[]⟩,⟨a,[r]⟩] b [r]=0:=by
  unfold dr;rw [if_neg (by simp [ids];exact⟨fun e=>wh e.symm,fun e=>kM e.symm⟩),tY,if_neg (by simp),if_neg (by simp [ids])]
 exact⟨h,by unfold mK;rw [if_pos h,tY];rfl⟩
include DM kM D5 Bk in
theorem k3:dr [⟨r,[]⟩,⟨a,[r]⟩,⟨b,[r]⟩] c [a,b]=0/\mK [⟨r,[]⟩,⟨a,[r]⟩,⟨b,[r]⟩] c [a,b]=kD r a b c:=by
 have hl:(di [a,b]).length=2:=qj (by simp [kM]);have h:dr [⟨r,[]⟩,⟨a,[r]⟩,⟨b,[r]⟩] c [a,b]=0:=by
  unfold dr;rw [if_neg (by simp [ids];exact⟨fun e=>DM e.symm,fun e=>D5 e.symm,fun e=>Bk e.symm⟩),hl,if_neg (by simp),if_neg];rintro⟨p,hp,hn⟩;rw [dd]at hp;simp at hp;simp [ids]at hn;rcases hp with rfl|rfl
  ·exact hn.2.1 rfl
  ·exact hn.2.2 rfl
 exact⟨h,by unfold mK;rw [if_pos h];rfl⟩
end
section
variable{w w':World}{K:Value->World->Prop}
end
structure akV(w:World)(S F:Nat->Prop)(g:Nat)(FR:Nat->Prop)(r:Nat)(D:DG):Prop where
 G:C5 w S F g D
 R:tV w FR r D
 rS:¬S r
 rF:¬F r
 fS:∀k,FR k->¬S k
 low:∀k,FR k->k<w.heap.size
section
variable{w v w':World}{S F S2 F2 FR:Nat->Prop}{g r:Nat}{D D':DG}{K:Value->World->Prop}
theorem I4(h:HT):prog.built bP [(0,.agg h.1)]=some (h.1.push (.slice none 0 0)):=by
 have hs:=h.2.1;rw [nC Eb,iM (off:=0) (size:=32) rfl (by simpa [Value.cells]using hs) (by simp)];simp only [Instr.fill,Option.some.injEq];apply Array.ext';unfold gK;simp [Value.cells,hs]
end
end Go.Proofs.YtfleamccglihoaaGreatDoor
