import Derived.Test.YtfleamccglihoaaGreatDoorProg
import Derived.Shelf.SlSortCmp.NoneTotal
import Derived.Shelf.SlMaps.Clone
import Derived.Shelf.Spec.TrailingZeros
import Derived.Shelf.Strconv.Itoa0
import Derived.Shelf.Bits.Mul64
import Derived.Test.YtfleamccglihoaaGreatDoorMA
import Derived.Test.YtfleamccglihoaaGreatDoorMB
import Derived.Lib.BytesEntry
import Derived.Test.YtfleamccglihoaaGreatDoorMC
import Derived.LaidEql
open Go.IntKind (i64 u64)
set_option linter.unusedVariables false
namespace Go.Proofs
open Go.Shelf
def Tryz.nZ:Go.Shelf.Ren:=⟨fun|6=>53|15=>98|14=>97|28=>135|29=>136|20=>127|21=>128|22=>129|23=>130|24=>131|25=>132|26=>133|27=>134|46=>152|47=>153|48=>154|49=>155|50=>156|57=>163|n=>n,fun|22=>33|24=>24|25=>106|3=>3|39=>150|0=>0|53=>182|55=>22|4=>4|46=>176|45=>175|50=>162|5=>5|9=>9|66=>204|70=>208|76=>215|77=>216|n=>n,fun|n=>n⟩
theorem Tryz.uy:Go.Proofs.SlLaysF0.n6 prog Tryz.nZ:= {
 mixed:=by kernel_rfl
 f6:=⟨f53.name,by decide,func53.trans (congrArg some (by kernel_rfl))⟩
 f14:=⟨f97.name,by decide,func97.trans (congrArg some (by kernel_rfl))⟩
 f15:=func98.trans (congrArg some (by kernel_rfl))
 f20:=⟨f127.name,by decide,func127.trans (congrArg some (by kernel_rfl))⟩
 f21:=⟨f128.name,by decide,func128.trans (congrArg some (by kernel_rfl))⟩
 f22:=⟨Tryz.f129.name,by decide,func129.trans (congrArg some (by kernel_rfl))⟩
 f23:=⟨f130.name,by decide,func130.trans (congrArg some (by kernel_rfl))⟩
 f24:=⟨f131.name,by decide,func131.trans (congrArg some (by kernel_rfl))⟩
 f25:=⟨f132.name,by decide,func132.trans (congrArg some (by kernel_rfl))⟩
 f26:=⟨f133.name,by decide,func133.trans (congrArg some (by kernel_rfl))⟩
 f27:=⟨f134.name,by decide,func134.trans (congrArg some (by kernel_rfl))⟩
 f28:=func135.trans (congrArg some (by kernel_rfl))
 f29:=func136.trans (congrArg some (by kernel_rfl))
 f46:=⟨f152.name,by decide,func152.trans (congrArg some (by kernel_rfl))⟩
 f47:=func153.trans (congrArg some (by kernel_rfl))
 f48:=func154.trans (congrArg some (by kernel_rfl))
 f49:=⟨f155.name,by decide,func155.trans (congrArg some (by kernel_rfl))⟩
 f50:=⟨f156.name,by decide,func156.trans (congrArg some (by kernel_rfl))⟩
 f57:=⟨f163.name,by decide,func163.trans (congrArg some (by kernel_rfl))⟩
 t0:=underlying0
 a0:=isAgg0
 z0:=sizeOf0
 v0:=zeroValue0
 t3:=underlying3
 a3:=isAgg3
 z3:=sizeOf3
 v3:=zeroValue3
 t4:=underlying4
 a4:=isAgg4
 z4:=sizeOf4
 v4:=zeroValue4
 t5:=underlying5
 a5:=isAgg5
 z5:=sizeOf5
 v5:=zeroValue5
 t9:=underlying9
 a9:=isAgg9
 z9:=sizeOf9
 v9:=zeroValue9
 t22:=underlying33
 a22:=isAgg33
 z22:=sizeOf33
 v22:=zeroValue33
 t25:=underlying106
 a25:=isAgg106
 z25:=sizeOf106
 v25:=zeroValue106
 t39:=underlying150
 a39:=isAgg150
 z39:=sizeOf150
 v39:=zeroValue150
 t45:=underlying175
 a45:=isAgg175
 z45:=sizeOf175
 v45:=zeroValue175
 t46:=underlying176
 a46:=isAgg176
 z46:=sizeOf176
 v46:=zeroValue176
 t50:=underlying162
 a50:=isAgg162
 z50:=sizeOf162
 v50:=zeroValue162
 t53:=underlying182
 a53:=isAgg182
 z53:=sizeOf182
 v53:=zeroValue182
 t55:=underlying22
 a55:=isAgg22
 z55:=sizeOf22
 v55:=zeroValue22
 t66:=underlying204
 a66:=isAgg204
 z66:=sizeOf204
 v66:=zeroValue204
 t70:=underlying208
 a70:=isAgg208
 z70:=sizeOf208
 v70:=zeroValue208
 t76:=underlying215
 a76:=isAgg215
 z76:=sizeOf215
 v76:=zeroValue215
 t77:=underlying216
 a77:=isAgg216
 z77:=sizeOf216
 v77:=zeroValue216}
def Tryz.jh:Go.Shelf.Ren:=⟨fun|29=>159|n=>n,fun|22=>22|3=>3|4=>4|25=>150|54=>218|0=>0|5=>5|n=>n,fun|1=>1|n=>n⟩
theorem Tryz.tzL:Go.Proofs.Lays7.n29 prog Tryz.jh:= {
 mixed:=by kernel_rfl
 f29:=func159.trans (congrArg some (by kernel_rfl))
 t0:=underlying0
 a0:=isAgg0
 z0:=sizeOf0
 v0:=zeroValue0
 i0:=by kernel_rfl
 t3:=underlying3
 a3:=isAgg3
 z3:=sizeOf3
 v3:=zeroValue3
 i3:=by kernel_rfl
 t4:=underlying4
 a4:=isAgg4
 z4:=sizeOf4
 v4:=zeroValue4
 i4:=by kernel_rfl
 t5:=underlying5
 a5:=isAgg5
 z5:=sizeOf5
 v5:=zeroValue5
 i5:=by kernel_rfl
 t22:=underlying22
 a22:=isAgg22
 z22:=sizeOf22
 v22:=zeroValue22
 i22:=by kernel_rfl
 t25:=underlying150
 a25:=isAgg150
 z25:=sizeOf150
 v25:=zeroValue150
 i25:=by kernel_rfl
 t54:=underlying218
 a54:=isAgg218
 z54:=sizeOf218
 g1:=by kernel_rfl}
def Tryz.wW:Go.Shelf.Ren:=⟨fun|129=>136|n=>n,fun|53=>22|3=>3|4=>4|46=>150|5=>5|9=>9|n=>n,fun|n=>n⟩
theorem Tryz.Gx:Go.Proofs.Lays.n129 prog Tryz.wW:= {
 mixed:=by kernel_rfl
 f129:=func136.trans (congrArg some (by kernel_rfl))
 t3:=underlying3
 a3:=isAgg3
 z3:=sizeOf3
 v3:=zeroValue3
 t4:=underlying4
 a4:=isAgg4
 z4:=sizeOf4
 v4:=zeroValue4
 t5:=underlying5
 a5:=isAgg5
 z5:=sizeOf5
 v5:=zeroValue5
 t9:=underlying9
 a9:=isAgg9
 z9:=sizeOf9
 v9:=zeroValue9
 t46:=underlying150
 a46:=isAgg150
 z46:=sizeOf150
 v46:=zeroValue150
 t53:=underlying22
 a53:=isAgg22
 z53:=sizeOf22
 v53:=zeroValue22}
def Tryz.wV:Go.Shelf.Ren:=⟨fun|264=>161|n=>n,fun|53=>22|46=>150|n=>n,fun|n=>n⟩
theorem Tryz.Gw:Go.Proofs.Lays.n264 prog Tryz.wV:= {
 mixed:=by kernel_rfl
 f264:=func161.trans (congrArg some (by kernel_rfl))
 t46:=underlying150
 a46:=isAgg150
 z46:=sizeOf150
 v46:=zeroValue150
 t53:=underlying22
 a53:=isAgg22
 z53:=sizeOf22
 v53:=zeroValue22}
end Go.Proofs
namespace Go.bE
open Go.RowKit
theorem ju.mono{P:Program}{l:Nat}{args:Array Value}{w:World}{R R':Bool->World->Prop}(h:ju P l args w R)(hr:∀b w',R b w'->R' b w'):ju P l args w R':=by
 obtain⟨g,tmps,assign,body,h1,h2⟩:=h;exact⟨g,tmps,assign,body,h1,fun r m=>RoundIn.mono (h2 r m) fun e w' ⟨b,he,hb⟩=>⟨b,he,hr _ _ hb⟩⟩
def gu(xs:List Value)(k:Nat)(vs:List Value):List Value:=xs.take k++vs++xs.drop (k+vs.length)
theorem oP(xs:List Value)(k:Nat):gu xs k []=xs:=by simp [gu]
theorem nt{xs:List Value}{k:Nat}(hk:k<xs.length)(v:Value)(vs:List Value):gu xs k (v::vs)=gu (xs.set k v) (k+1) vs:=by
 unfold gu;rw [List.take_add_one,List.take_set_of_le (Nat.le_refl k),List.getElem?_set_self hk,List.drop_set];rw [if_pos (by omega),List.length_cons,show k+(vs.length+1)=k+1+vs.length by omega];simp
theorem mf{xs:List Value}{k:Nat}{vs:List Value}(h:k+vs.length<=xs.length):(gu xs k vs).length=xs.length:=by
 unfold gu;simp;omega
theorem rY{xs vs:List Value}(h:vs.length=xs.length):gu xs 0 vs=vs:=by
 unfold gu;simp [h]
section
variable{w:World}{B:Nat}{e:TypeId}{size n c b:Nat}
theorem pq:∀(vs:List Value) (xs:List Value) (w:World) (o i:Nat),Row w B e size (some ⟨b,0,none⟩) n c xs->o+i+vs.length<=xs.length->
 Row (setCells w ⟨b,o,none⟩ vs i) B e size (some ⟨b,0,none⟩) n c (gu xs (o+i) vs)
 | [],xs,w,o,i,h,_=>by rw [oP];exact h
 |v::vs,xs,w,o,i,h,hl=>by
  rw [List.length_cons]at hl;rw [nt (by omega)];simp only [setCells];rw [bu];have h1:=Row.set h (j:=o+i) (by omega) v;have:=pq vs (xs.set (o+i) v) _ o (i+1) h1 (by rw [List.length_set];omega)
  rwa [show o+(i+1)=o+i+1 by omega]at this
theorem fU:∀(vs:List Value) (w:World) (o i:Nat),Kept (· =b) w (setCells w ⟨b,o,none⟩ vs i)
 | [],w,o,i=>Kept.refl _ _
 |v::vs,w,o,i=>by
  simp only [setCells];rw [bu];exact(Kept.setCell (S:=fun k=>k=b) (Kept.refl _ w) (p:=⟨b,o+i,none⟩) (fun _=>rfl) v).tt (fU vs _ o (i+1))
theorem jn:∀(vs:List Value) (cur:Array Value) (w:World) (t:TypeId) (o i:Nat),w.heap[b]? =some (.cells cur t (0,0))->o+i+vs.length<=cur.size->
 (setCells w ⟨b,o,none⟩ vs i).heap[b]? =some (.cells (gu cur.toList (o+i) vs).toArray t (0,0))
 | [],cur,w,t,o,i,h,_=>by rw [oP];simpa [setCells]using h
 |v::vs,cur,w,t,o,i,h,hl=>by
  rw [List.length_cons]at hl;rw [nt (by simp;omega)];simp only [setCells];rw [bu];have h1:=cY h (o+i) v;have:=jn vs _ _ t o (i+1) h1 (by simp;omega);rw [show o+(i+1)=o+i+1 by omega]at this;rw [this];simp
theorem gh{z cs:Array Value}{t:TypeId}(hz:z.size=cs.size):
 (∀j,j<cs.size->Wr (w.alloc (.cells z t)) ((aU w.heap.size).add j))/\
 (setCells (w.alloc (.cells z t)) ⟨w.heap.size,0,none⟩ cs.toList 0).heap[w.heap.size]? =some (.cells cs t (0,0))/\
 Kept Nil w (setCells (w.alloc (.cells z t)) ⟨w.heap.size,0,none⟩ cs.toList 0):=by
 refine⟨fun j hj=>?_,?_,?_⟩
 ·rw [bu,Nat.zero_add]
  exact dL (aR w _) (by omega)
 ·have h:=jn cs.toList z (w.alloc (.cells z t)) t 0 0 (aR w _) (by simp;omega)
  rw [h,rY (by simp [hz])]
 ·exact((Kept.refl Nil w).alloc _).trans (fU cs.toList _ 0 0) (fun k hk e=>absurd hk (by omega))
end
end Go.bE
namespace Go.bE
theorem AQ:∀(vs:List Value) (off k:Nat) (cells:Array Value),off+k+vs.length<=cells.size->
 ((vs.zipIdx k).foldl (fun(cs:Array Value) (p:Value×Nat)=>cs.setIfInBounds (off+p.2) p.1) cells)=(gu cells.toList (off+k) vs).toArray
 | [],off,k,cells,_=>by rw [oP];simp
 |v::vs,off,k,cells,h=>by
  rw [List.length_cons]at h;rw [nt (by simp;omega),List.zipIdx_cons,List.foldl_cons];have:=AQ vs off (k+1) (cells.setIfInBounds (off+k) v) (by simp;omega);rw [this,Array.toList_setIfInBounds];rfl
theorem jB{place:Nat->Option (Nat×Nat)}{cells:Array Value}{i off size:Nat}{v:Value}{rest:List (Nat×Value)}(hp:place i=some (off,size))(hs:v.cells.size=size)(hle:off+size<=cells.size):
 Instr.fill place cells ((i,v)::rest)=Instr.fill place (gu cells.toList off v.cells.toList).toArray rest:=by
 rw [Instr.fill,hp];simp only;rw [if_neg (by simp;omega)]
 congr 1
 have h:=AQ v.cells.toList off 0 cells (by simp;omega);rw [Nat.add_zero]at h;rw [<-h,<-Array.foldl_toList,Array.toList_zipIdx]
def Rc(P:Program)(t:TypeId):Option (List (Nat×Nat)×List Value):=
 match P.info? t,P.underlying t with
 |some it,some (.struct fields)=>
  match it.zero,fields.toList.mapM (fun f=>(P.info? f.type).map fun i=>(f.offset,i.size))with
  |some z,some places=>some (places,z.cells.toList)
  |_,_=>none
 |_,_=>none
theorem pX{P:Program}{t:TypeId}{pl:List (Nat×Nat)}{z:List Value}(h:Rc P t=some (pl,z))(parts:List (Nat×Value)):
 P.built t parts=Instr.fill (pl.toArray[·]?) z.toArray parts:=by
 unfold Rc at h;split at h
 ·rename_i it fields h1 h2
  split at h
  ·rename_i z' pl' h3 h4
   simp only [Option.some.injEq,Prod.mk.injEq]at h;obtain⟨rfl,rfl⟩:=h;unfold Program.built;rw [h1,h2];simp only [h3,h4]
  ·cases h
 ·cases h
def oU:List Nat->Array Value
 | []=> #[]
 |D::l=> #[.pointer (some ⟨D,0,none⟩)]++oU l
theorem lP:∀l,marksOf (.agg (oU l))=l
 | []=>rfl
 |D::l=>by
  have ih:=lP l;simp only [oU,marksOf]at*;simp [ih]
theorem kP:∀(l:List Nat) (w:World),l.Nodup->(∀D∈l,w.heap[D]? =some (.deferred (some [])))->jH l w
 | [],_,_,_=>trivial
 |D::l,w,hn,h=>by
  rw [List.nodup_cons]at hn;refine⟨h D (by simp),kP l _ hn.2 fun E hE=>?_⟩;have fJ:D≠E:=fun e=>hn.1 (by rw [e];exact hE);exact(World.putObj_heap_other fJ.symm).trans (h E (by simp [hE]))
theorem ji:∀(l:List Nat) (w:World),Kept (· ∈l) w (fp l w)
 | [],w=>Kept.refl _ w
 |D::l,w=>((Kept.putAt w D (.deferred none)).mono (S':=fun k=>k∈D::l) (fun k _ e=>by subst e;simp)).trans (ji l _) (fun k _ h=>by simp [h])
open Go.RowKit
section
variable{P:Program}{n:Nat}
end
end Go.bE
namespace Go.Proofs.YtfleamccglihoaaGreatDoor
open Go.Proofs.Tryz
open Go Go.bE Go.RowKit
def Mk(cs:Array Value):Prop:=cs.size=32/\∀v∈cs.toList,∃i:Int,v=.int .u8 i/\0<=i/\i<256
abbrev HT:= {cs:Array Value//Mk cs}
def key(h:HT):List Int:=h.1.toList.map kI
theorem Mk.ints{cs:Array Value}(h:Mk cs):fV .u8 32 cs:=⟨h.1,fun v hv=>let ⟨i,e,_⟩:=h.2 v hv;⟨i,e⟩⟩
theorem xl:∀ {a b:List Value},(∀v∈a,∃i:Int,v=.int .u8 i)->(∀v∈b,∃i:Int,v=.int .u8 i)->a.map kI=b.map kI->a=b
 | [],[],_,_,_=>rfl
 | [],_::_,_,_,h=>by simp at h
 |_::_,[],_,_,h=>by simp at h
 |x::a,y::b,ha,hb,h=>by
  obtain⟨i,rfl⟩:=ha x (by simp);obtain⟨j,rfl⟩:=hb y (by simp);simp only [List.map_cons,List.cons.injEq,kI]at h;rw [h.1,xl (fun v hv=>ha v (by simp [hv])) (fun v hv=>hb v (by simp [hv])) h.2]
theorem key_inj{a b:HT}(h:key a=key b):a=b:=by
 apply Subtype.ext;apply Array.ext';exact xl (fun v hv=>a.2.ints.2 v hv) (fun v hv=>b.2.ints.2 v hv) h
instance:DecidableEq HT:=fun a b=>if h:key a=key b then isTrue (key_inj h)else isFalse fun e=>h (by rw [e])
theorem gB(a b:HT):gv a.1 b.1=decide (a=b):=by
 unfold gv;by_cases e:a=b
 ·subst e;simp
 ·rw [decide_eq_false e]
  have:¬(key a=key b):=fun h=>e (key_inj h);simpa [key]using this
theorem Mk.one{cs:Array Value}(h:Mk cs):∀v∈cs.toList,v.oneCell'=true:=fun v hv=>by
 obtain⟨i,rfl,_⟩:=h.2 v hv;rfl
def vT:List Int->List Int->Bool
 | [],[]=>false
 | [],_::_=>true
 |_::_,[]=>false
 |x::a,y::b=>if x<y then true else if y<x then false else vT a b
def cK(a b:HT):Bool:=vT (key a) (key b)
theorem sx:∀a,vT a a=false
 | []=>rfl
 |x::a=>by simp [vT,sx a]
theorem uG:∀ {a b c},vT a b=true->vT b c=true->vT a c=true
 | [],[],_,h,_=>by simp [vT]at h
 | [],_::_,[],_,h=>by simp [vT]at h
 | [],_::_,_::_,_,_=>rfl
 |_::_,[],_,h,_=>by simp [vT]at h
 |_::_,_::_,[],_,h=>by simp [vT]at h
 |x::a,y::b,z::c,h,h'=>by
  simp only [vT]at*;by_cases h1:x<y
  ·by_cases h2:y<z
   ·rw [if_pos (by omega)]
   ·rw [if_neg h2]at h'
    by_cases h3:z<y
    ·rw [if_pos h3]at h';cases h'
    ·rw [if_pos (by omega)]
  ·rw [if_neg h1]at h
   by_cases h2:y<x
   ·rw [if_pos h2]at h;cases h
   ·rw [if_neg h2]at h
    by_cases h3:y<z
    ·rw [if_pos (by omega)]
    ·rw [if_neg h3]at h'
     by_cases h4:z<y
     ·rw [if_pos h4]at h';cases h'
     ·rw [if_neg h4]at h'
      rw [if_neg (by omega),if_neg (by omega)];exact uG h h'
theorem uH:∀ {a b},a.length=b.length->vT a b=false->vT b a=false->a=b
 | [],[],_,_,_=>rfl
 | [],_::_,h,_,_=>by simp at h
 |_::_,[],h,_,_=>by simp at h
 |x::a,y::b,hl,h,h'=>by
  simp only [vT]at*;by_cases h1:x<y
  ·rw [if_pos h1]at h;cases h
  ·rw [if_neg h1]at h
   by_cases h2:y<x
   ·rw [if_pos h2]at h';cases h'
   ·rw [if_neg h2]at h h'
    rw [if_neg h1]at h';have:x=y:=by omega
    rw [this,uH (by simpa using hl) h h']
theorem ot(a:HT):(key a).length=32:=by have:=a.2.1;simpa [key]using this
theorem ow{a b:HT}(h:cK a b=false)(h':cK b a=false):a=b:=key_inj (uH (by rw [ot,ot]) h h')
theorem kH{a b c:HT}(h:cK a b=true)(h':cK b c=true):cK a c=true:=uG h h'
theorem hZ(a:HT):cK a a=false:=sx _
theorem qA{a b:HT}(h:cK a b=true):cK b a=false:=by
 cases h':cK b a
 ·rfl
 ·have:=kH h h';rw [hZ]at this;cases this
end Go.Proofs.YtfleamccglihoaaGreatDoor
namespace Go.Proofs.YtfleamccglihoaaGreatDoor
open Go.Proofs.Tryz
open Go Go.bE
def SS(l:List HT):Prop:=l.Pairwise fun a b=>cK a b=true
theorem SS.nodup{l:List HT}(h:SS l):l.Nodup:=List.Pairwise.imp (fun {a b} mJ e=>by subst e;rw [hZ]at mJ;cases mJ) h
theorem SS.cons{x:HT}{l:List HT}:SS (x::l)↔(∀y∈l,cK x y=true)/\SS l:=List.pairwise_cons
theorem vQ:∀ {l m:List HT},SS l->SS m->(∀x,x∈l↔x∈m)->l=m
 | [],[],_,_,_=>rfl
 | [],y::m,_,_,h=>by have:=(h y).2 (by simp);simp at this
 |x::l,[],_,_,h=>by have:=(h x).1 (by simp);simp at this
 |x::l,y::m,hl,hm,h=>by
  rw [SS.cons]at hl hm;have lZ:x=y:=by
   have h1:=(h x).1 (by simp);have h2:=(h y).2 (by simp);rcases List.mem_cons.1 h1 with h1|h1
   ·exact h1
   ·rcases List.mem_cons.1 h2 with h2|h2
    ·exact h2.symm
    ·have a:=hl.1 _ h2
     have b:=hm.1 _ h1;rw [qA a]at b;cases b
  subst lZ
  congr 1
  refine vQ hl.2 hm.2 fun z=>?_;have hz:=h z;constructor
  ·intro Yq
   rcases List.mem_cons.1 (hz.1 (by simp [Yq]))with e|e
   ·subst e;have:=hl.1 _ Yq;rw [hZ]at this;cases this
   ·exact e
  ·intro Yp
   rcases List.mem_cons.1 (hz.2 (by simp [Yp]))with e|e
   ·subst e;have:=hm.1 _ Yp;rw [hZ]at this;cases this
   ·exact e
def ins(x:HT):List HT->List HT
 | []=> [x]
 |y::l=>if cK x y then x::y::l else if x=y then y::l else y::ins x l
theorem vo(x z:HT):∀l,z∈ins x l↔z=x\/z∈l
 | []=>by simp [ins]
 |y::l=>by
  unfold ins;split
  ·simp
  ·split
   ·rename_i e;subst e;simp
   ·simp only [List.mem_cons,vo x z l]
    constructor
    ·rintro(h|h|h)<;>simp [h]
    ·rintro(h|h|h)<;>simp [h]
theorem Fv(x:HT):∀ {l:List HT},SS l->SS (ins x l)
 | [],_=>by simp [ins,SS]
 |y::l,h=>by
  have h':=SS.cons.1 h;unfold ins;split
  ·rename_i lZ
   refine SS.cons.2 ⟨fun z hz=>?_,h⟩;rcases List.mem_cons.1 hz with rfl|hz
   ·exact lZ
   ·exact kH lZ (h'.1 _ hz)
  ·split
   ·exact h
   ·rename_i h1 h2
    refine SS.cons.2 ⟨fun z hz=>?_,Fv x h'.2⟩;rcases(vo x z l).1 hz with rfl|hz
    ·cases Ml:cK y z
     ·exact absurd (ow Ml (by simpa using h1)).symm h2
     ·rfl
    ·exact h'.1 _ hz
def dh(l:List HT):List HT:=l.foldr ins []
theorem dJ{z:HT}:∀ {l:List HT},z∈dh l↔z∈l
 | []=>by simp [dh]
 |x::l=>by
  have:= @dJ z l;simp only [dh,List.foldr_cons,vo,List.mem_cons]at this⊢;rw [this]
theorem iL:∀l:List HT,SS (dh l)
 | []=>List.Pairwise.nil
 |x::l=>Fv x (iL l)
theorem zZ{l m:List HT}(h:∀x,x∈l↔x∈m):dh l=dh m:=vQ (iL l) (iL m) fun x=>by rw [dJ,dJ,h]
theorem yp{l m:List HT}(hs:SS l)(h:∀x,x∈l↔x∈m):l=dh m:=vQ hs (iL m) fun x=>by rw [dJ,h]
theorem Ax(x:HT):∀l,(ins x l).length<=l.length+1
 | []=>by simp [ins]
 |y::l=>by
  have:=Ax x l;unfold ins;split
  ·simp
  ·split<;>simp<;>omega
theorem nY:∀l:List HT,(dh l).length<=l.length
 | []=>by simp [dh]
 |x::l=>by
  have h1:=Ax x (dh l);have h2:=nY l;simp only [dh,List.foldr_cons,List.length_cons]at*;omega
theorem oX{x:HT}:∀ {l:List HT},x∉l->(ins x l).length=l.length+1
 | [],_=>by simp [ins]
 |y::l,h=>by
  simp only [List.mem_cons,not_or]at h;have:=oX h.2;unfold ins;split
  ·simp
  ·rw [if_neg h.1];simp;omega
theorem oH:∀ {l:List HT},l.Nodup->(dh l).length=l.length
 | [],_=>by simp [dh]
 |x::l,h=>by
  rw [List.nodup_cons]at h;have h2:=oH h.2;have:=oX (l:=dh l) (x:=x) (fun hm=>h.1 (dJ.1 hm));simp only [dh,List.foldr_cons,List.length_cons]at*;omega
theorem qS{x:HT}:∀ {l:List HT},SS l->x∈l->(ins x l).length=l.length
 | [],_,h=>by simp at h
 |y::l,hs,h=>by
  have h':=SS.cons.1 hs;unfold ins;split
  ·rename_i lZ
   rcases List.mem_cons.1 h with rfl|h
   ·rw [hZ]at lZ;cases lZ
   ·have:=h'.1 _ h;rw [qA lZ]at this;cases this
  ·split
   ·rfl
   ·rename_i h1 h2
    rcases List.mem_cons.1 h with rfl|h
    ·exact absurd rfl h2
    ·simp [qS h'.2 h]
theorem pG:∀ {l:List HT},(dh l).length=l.length->l.Nodup
 | [],_=>List.Pairwise.nil
 |x::l,h=>by
  have h2:=nY l;by_cases hm:x∈l
  ·have:=qS (iL l) (dJ.2 hm)
   simp only [dh,List.foldr_cons,List.length_cons]at*;omega
  ·have h3:=oX (l:=dh l) (x:=x) (fun h=>hm (dJ.1 h))
   simp only [dh,List.foldr_cons,List.length_cons]at*;exact List.nodup_cons.2 ⟨hm,pG (by simp only [dh];omega)⟩
theorem Gi:dh []= []:=rfl
theorem mc(x:HT):dh [x]= [x]:=rfl
theorem wm{l:List HT}(h:SS l):dh l=l:=(yp h fun _=>Iff.rfl).symm
theorem LS{l:List HT}{x:HT}{k:Nat}(hs:SS l)(h1:∀y∈l.take k,cK y x=true)(h2:∀y∈l.drop k,cK x y=true):SS (l.take k++x::l.drop k):=by
 unfold SS at*;rw [<-List.take_append_drop k l,List.pairwise_append]at hs;rw [List.pairwise_append,List.pairwise_cons];refine⟨hs.1,⟨h2,hs.2.1⟩,fun y hy z hz=>?_⟩;rcases List.mem_cons.1 hz with rfl|hz
 ·exact h1 y hy
 ·exact hs.2.2 y hy z hz
theorem SS.get{l:List HT}(h:SS l){i j:Nat}(pP:i<j){x y:HT}(hx:l[i]? =some x)(hy:l[j]? =some y):cK x y=true:=by
 obtain⟨h1,rfl⟩:=lgeS hx;obtain⟨h2,rfl⟩:=lgeS hy;exact List.pairwise_iff_getElem.1 h i j h1 h2 pP
theorem A0{l:List HT}{x:HT}(hs:SS l)(h:∀y∈l,cK y x=true):SS (l++ [x]):=by
 have:=LS (k:=l.length) hs (x:=x) (by simpa using h) (by simp);simpa using this
def LE(l:List HT):Prop:=l.Pairwise fun a b=>cK b a=false
theorem lt_of_le_ne{a b:HT}(h:cK b a=false)(hn:a≠b):cK a b=true:=by
 cases mJ:cK a b
 ·exact absurd (ow mJ h) hn
 ·rfl
theorem qQ{a b c:HT}(h:cK b a=false)(h':cK b c=true):cK a c=true:=by
 by_cases e:a=b
 ·subst e;exact h'
 ·exact kH (lt_of_le_ne h e) h'
theorem LE.get{l:List HT}(h:LE l){i j:Nat}(pP:i<j){x y:HT}(hx:l[i]? =some x)(hy:l[j]? =some y):cK y x=false:=by
 obtain⟨h1,rfl⟩:=lgeS hx;obtain⟨h2,rfl⟩:=lgeS hy;exact List.pairwise_iff_getElem.1 h i j h1 h2 pP
theorem bI{l:List HT}{k:Nat}{x z:HT}(hx:l[k]? =some x):z∈l.take (k+1)↔z∈l.take k\/z=x:=by
 rw [List.take_add_one,hx];simp
open Go.RowKit
theorem iy(a:Addr)(k:Nat):(a.add k).block=a.block:=by unfold Addr.add;split<;>rfl
theorem aY{σ:Type}(e:σ->Env)(I:σ->World->Prop)(μ:σ->World->Nat)(s:σ)(w:World)(Q:aM)(l:Nat)(ρ:Env)(w':World):bR e I μ s w Q (.exit l) ρ w'=Q (.exit l) ρ w':=rfl
theorem gH{σ:Type}(e:σ->Env)(I:σ->World->Prop)(μ:σ->World->Nat)(s:σ)(w:World)(Q:aM)(ρ:Env)(w':World):bR e I μ s w Q .ret ρ w'=Q .ret ρ w':=rfl
theorem iI{x:Int}(h0: -9223372036854775808<=x)(h1:x<9223372036854775808):i64.wrap x=x:=by
 simp only [IntKind.wrap,IntKind.bits,IntKind.signed];simp;omega
theorem Cells.aK{S:Nat->Prop}{w w':World}{a:Addr}{cs:Array Value}(h:Cells w a cs)(hk:Kept S w w')(hn:¬S a.block):Cells w' a cs:=
 fun j v hj=>hk.cell (h j v hj) (by rw [iy];exact hn)
theorem Cells.bS{w:World}{b:Nat}{cs:Array Value}{t:TypeId}{fr:Nat×Nat}(h:w.heap[b]? =some (.cells cs t fr)):Cells w ⟨b,0,none⟩ cs:=
 fun j v hj=>by rw [bu,Nat.zero_add,aD h];exact hj
structure HS(w:World)(A:Option Addr)(n:Nat)(l:List HT):Prop where
 len:l.length=n
 at_:∀(i:Nat) (h:HT),l[i]? =some h->∃a,A=some a/\a.block<w.heap.size/\Cells w (a.add (i*32)) h.1
theorem HS.aK{S:Nat->Prop}{w w':World}{A:Option Addr}{n:Nat}{l:List HT}(h:HS w A n l)(hk:Kept S w w')(hn:∀a,A=some a->¬S a.block):HS w' A n l:=⟨h.len,fun i x hi=>by
 obtain⟨a,h1,h2,h3⟩:=h.at_ i x hi;exact⟨a,h1,Nat.lt_of_lt_of_le h2 hk.size,Cells.aK h3 hk (by rw [iy];exact hn a h1)⟩⟩
theorem HS.same{w w':World}{A:Option Addr}{n:Nat}{l:List HT}(h:HS w A n l)(hk:Kept Nil w w'):HS w' A n l:=h.aK hk fun _ _ h=>h
section
variable{w:World}{K:Value->World->Prop}
end
def mT(a b:HT):Int:=if cK a b then-1 else if cK b a then 1 else 0
theorem GD{h:HT}{i:Nat}(hi:i<32):∃x:Int,h.1[i]? =some (.int .u8 x)/\(key h)[i]? =some x/\0<=x/\x<256:=by
 have hs:i<h.1.size:=by rw [h.2.1];exact hi
 obtain⟨x,hx,h1,h2⟩:=h.2.2 h.1[i] (by simp);refine⟨x,by rw [Array.getElem?_eq_getElem hs,hx],?_,h1,h2⟩;unfold key;rw [List.getElem?_map,Array.getElem?_toList,Array.getElem?_eq_getElem hs,hx];rfl
section
variable{w:World}{K:Value->World->Prop}
end
theorem AT{x y:Int}(hx:0<=x/\x<256)(hy:0<=y/\y<256):(x.toNat.toUInt8<y.toNat.toUInt8)↔x<y:=by
 rw [UInt8.lt_iff_toNat_lt];simp only [Nat.toUInt8,UInt8.toNat_ofNat'];omega
theorem lU:∀ {a b:List Int},a.length=b.length->(∀x∈a,0<=x/\x<256)->(∀x∈b,0<=x/\x<256)->
 Lib.compareBytes (Lib.bytesOf a) (Lib.bytesOf b)=if vT a b then-1 else if vT b a then 1 else 0
 | [],[],_,_,_=>rfl
 | [],_::_,h,_,_=>by simp at h
 |_::_,[],h,_,_=>by simp at h
 |x::a,y::b,h,ha,hb=>by
  have hx:=ha x (by simp);have hy:=hb y (by simp);have ih:=lU (a:=a) (b:=b) (by simpa using h) (fun z hz=>ha z (by simp [hz])) (fun z hz=>hb z (by simp [hz]));simp only [Lib.bytesOf,List.map_cons,Lib.compareBytes,AT hx hy,AT hy hx,vT];by_cases h1:x<y
  ·simp [h1]
  ·by_cases h2:y<x
   ·simp [h1,h2]
   ·simp only [h1,h2,if_false]
    exact ih
theorem uM(h:HT):∀x∈key h,0<=x/\x<256:=by
 intro x hx;simp only [key,List.mem_map]at hx;obtain⟨v,hv,rfl⟩:=hx;obtain⟨i,rfl,h1,h2⟩:=h.2.2 v hv;exact⟨h1,h2⟩
theorem pW(a b:HT):Lib.compareBytes (Lib.bytesOf (key a)) (Lib.bytesOf (key b))=mT a b:=
 lU (by rw [ot,ot]) (uM a) (uM b)
section
variable{w:World}{K:Value->World->Prop}
theorem qC(a b:HT){p q:Addr}{c c':Nat}(ha:Cells w p a.1)(hb:Cells w q b.1)(hK:K (.int .i64 (mT a b)) w):
 bm prog fY.id #[.slice (some p) 32 c,.slice (some q) 32 c'] w K:=by
 refine fY.of ⟨.int .i64 (mT a b),w,?_,_,rfl,hK⟩;have xt:∀(h:HT) (r:Addr),Cells w r h.1->∀j x,(key h)[j]? =some x->w.cell? (r.add j)=some (.int .u8 x):=by
  intro h r hr j x hx;have hj:j<32:=by have:=(lgeS hx).1;rw [ot]at this;exact this
  obtain⟨y,hy,ky,_⟩:=GD (h:=h) hj;rw [hx]at ky;cases ky;exact hr j _ hy
 have l1:=Lib.run_loadBytesX (P:=prog) w (key a) p .empty (xt a p ha);have l2:=Lib.run_loadBytesX (P:=prog) w (key b) q .empty (xt b q hb);rw [ot]at l1 l2;rw [run_callFunc_extern rF.at_ (by kernel_rfl) (by kernel_rfl) (by kernel_rfl) (e:=Extern.BytealgCompare.compare) (by kernel_rfl)];have hr:(Extern.BytealgCompare.compare #[.slice (some p) 32 c,.slice (some q) 32 c']).run prog w=.ok (.int .i64 (mT a b)) w:=by
  change Sem.run prog (do pure (goInt (Extern.BytealgCompare.cmp (<-Extern.Bytes.bytesOf (.slice (some p) 32 c)) (<-Extern.Bytes.bytesOf (.slice (some q) 32 c'))))) w=_
  simp only [Extern.Bytes.bytesOf,Sem.run_bind,l1,l2,Result.andThen_ok,Sem.run_pure,Lib.cmp_eq,goInt];rw [<-pW];simp
 rw [hr];rfl
theorem nS(a b:HT)(hK:K (.int .i64 (mT a b)) ((w.alloc (.cells a.1 ax)).alloc (.cells b.1 ax)).drew):bm prog cV.id #[.agg a.1,.agg b.1] w K:=by
 refine cV.of ?_;unfold cV.W;intro w3 w4 w5;have ha:w5.heap[w.heap.size]? =some (.cells a.1 ax (0,0)):=jE (aR w _) _;have hb:w5.heap[w3.heap.size]? =some (.cells b.1 ax (0,0)):=aR w3 _;simp only [if_neg (show ¬(32:Nat)=0 by omega),Nat.zero_mul,add_zero,Nat.sub_zero];exact qC a b (Cells.bS ha) (Cells.bS hb) ⟨_,rfl,hK⟩
end
theorem tB(a:Addr)(m n:Nat):(a.add m).add n=a.add (m+n):=by
 unfold Addr.add;by_cases hm:m=0<;>by_cases hn:n=0<;>simp [hm,hn,Nat.add_assoc]
def cD(l:List HT):List Value:=l.flatMap fun h=>h.1.toList
theorem jN(h:HT)(l:List HT):cD (h::l)=h.1.toList++cD l:=by simp [cD]
theorem kQ(l m:List HT):cD (l++m)=cD l++cD m:=by simp [cD]
theorem dE:∀l:List HT,(cD l).length=l.length*32
 | []=>rfl
 |h::l=>by
  have:=h.2.1;rw [jN,List.length_append,dE l,Array.length_toList,this,List.length_cons];omega
theorem y8(l:List HT):∀u∈cD l,u.oneCell'=true:=by
 intro u hu;simp only [cD,List.mem_flatMap]at hu;obtain⟨h,_,hu⟩:=hu;exact h.2.one u hu
theorem jA:∀ {l:List HT} {i:Nat} {h:HT},l[i]? =some h->∀ {j:Nat} {v:Value},h.1[j]? =some v->(cD l)[i*32+j]? =some v
 | [],_,_,hi,_,_,_=>by simp at hi
 |x::l,0,h,hi,j,v,hj=>by
  simp only [List.getElem?_cons_zero,Option.some.injEq]at hi;subst hi;have cK:j<x.1.toList.length:=by simpa using (Array.getElem?_eq_some_iff.1 hj).1
  rw [jN,Nat.zero_mul,Nat.zero_add,List.getElem?_append_left cK,Array.getElem?_toList,hj]
 |x::l,i+1,h,hi,j,v,hj=>by
  simp only [List.getElem?_cons_succ]at hi;have:=x.2.1;rw [jN,List.getElem?_append_right (by simp;omega),Array.length_toList,this,show(i+1)*32+j-32=i*32+j by omega];exact jA hi hj
theorem Ck{l:List HT}{j:Nat}{v:Value}(h:(cD l)[j]? =some v):∃x,l[j/32]? =some x/\x.1[j%32]? =some v:=by
 have hj:=(lgeS h).1;rw [dE]at hj;have hi:j/32<l.length:=by omega
 refine⟨l[j/32],List.getElem?_eq_getElem hi,?_⟩;have hs:=l[j/32].2.1;have hm:j%32<l[j/32].1.size:=by rw [hs];omega
 obtain⟨u,hu⟩:∃u,l[j/32].1[j%32]? =some u:=⟨_,Array.getElem?_eq_getElem hm⟩;have:=jA (List.getElem?_eq_getElem hi) hu;rw [show j/32*32+j%32=j by omega,h]at this;rw [hu,this]
theorem nv:AZ prog aW ax 32 32:=⟨by kernel_rfl,by kernel_rfl⟩
abbrev cg(w:World)(B:Nat)(A:Option Addr)(n c:Nat)(l:List HT):Prop:=Row w B ax 32 A n c (cD l)
section
variable{w w':World}{B:Nat}{A:Option Addr}{n c:Nat}{l:List HT}
theorem cg.len(h:cg w B A n c l):l.length=n:=by
 have:=Row.len h;rw [dE]at this;omega
theorem cg.hs(h:cg w B A n c l):HS w A n l:=⟨h.len,fun i x hi=>by
 have hlen:=h.len;have fg:=(lgeS hi).1;obtain⟨b,rfl⟩:=Row.some h (by omega);obtain⟨_,cur,vB⟩:=Row.bS h (k:=b) rfl;refine⟨_,rfl,bf vB,fun j v hj=>?_⟩;rw [tB];exact Row.cells h _ _ (jA hi hj)⟩
theorem cg.nil(w:World)(B:Nat):cg w B none 0 0 []:=Row.nil _ _ _ _
theorem HS.cells{a:Addr}(h:HS w (some a) n l):∀j u,(cD l)[j]? =some u->w.cell? (a.add j)=some u:=by
 intro j u hj;obtain⟨x,hx,hu⟩:=Ck hj;obtain⟨a',ha,_,hc⟩:=h.at_ _ x hx;cases ha;have:=hc _ _ hu
 rwa [tB,show j/32*32+j%32=j by omega]at this
theorem HS.nil(w:World)(A:Option Addr):HS w A 0 []:=⟨rfl,fun i x hi=>by simp at hi⟩
theorem HS.none(h:HS w none n l):n=0/\l= []:=by
 cases l with
 |nil=>exact⟨h.len.symm,rfl⟩
 |cons x l=>obtain⟨a,ha,_⟩:=h.at_ 0 x rfl;cases ha
theorem HS.drop(h:HS w A n l){k:Nat}(hc:n<=c)(hk:k<=n):HS w (if c=k then A else A.map (·.add (k*32))) (n-k) (l.drop k):=⟨by have:=h.len;simp;omega,fun i x hi=>by
 rw [List.getElem?_drop]at hi;have hlen:=h.len;have:=(lgeS hi).1;obtain⟨a,rfl,hb,vC⟩:=h.at_ _ x hi;rw [if_neg (by omega)];refine⟨_,rfl,by rw [iy];exact hb,?_⟩;rw [tB,<-Nat.add_mul];exact vC⟩
theorem HS.one{w:World}{b:Nat}{h:HT}{t:TypeId}{fr:Nat×Nat}(hb:w.heap[b]? =some (.cells h.1 t fr)):HS w (some ⟨b,0,Option.none⟩) 1 [h]:=⟨rfl,fun i x hi=>by
 cases i with
 |zero=>
  simp only [List.getElem?_cons_zero,Option.some.injEq]at hi;subst hi;exact⟨_,rfl,bf hb,by rw [Nat.zero_mul,add_zero];exact Cells.bS hb⟩
 |succ i=>simp at hi⟩
theorem gz(ty:Nat)(h:cg w B A n c l){A2:Option Addr}{m cx:Nat}{l2:List HT}(h2:HS w A2 m l2)(hm:n+m<=1000000)(hB:B<=w.heap.size):
 ∃A' c' w',(Builtin.append_ #[aW,aW] ty #[.slice A n c,.slice A2 m cx]).run prog w=.ok (.slice A' (n+m) c') w'/\
  cg w' B A' (n+m) c' (l++l2)/\w.grownBy w' (bp A)/\(∀k,bp A'=some k->bp A=some k\/w.heap.size<=k):=by
 cases A2 with
 |some a=>
  have vy:=h2.len;obtain⟨A',c',w',hr,fW,hg,hb⟩:=iu (P:=prog) (t:=aW) (bytes:=32) (ty:=ty) nv h (a:=a) (m:=m) (cx:=cx) (news:=cD l2) (by rw [dE,vy]) h2.cells (y8 l2) (by omega) (by unfold maxLen;omega) hB;refine⟨A',c',w',hr,?_,hg,hb⟩;rw [<-kQ]at fW;exact fW
 |none=>
  obtain⟨rfl,rfl⟩:=h2.none;refine⟨A,c,w,?_,by simpa using h,⟨rfl,rfl,rfl,Nat.le_refl _,fun _ _ _=>rfl⟩,fun k hk=>.inl hk⟩;obtain⟨i,z,hi,hz,hs,FU,FD⟩:=nv.inf;have hn:n<=c:=by rcases Row.own h with⟨_,h1,h2,_⟩|⟨_,_,_,_,_,h1,_⟩<;>omega
  simp [Builtin.append_,run_underlying nv.mY,sizeOf,typeInfo,hi,Builtin.lenOf,Builtin.firstCells,hn];cases A<;>simp [storeCells]
end
theorem HS.load{w:World}{A:Option Addr}{n:Nat}{l:List HT}(hl:HS w A n l){i:Int}{x:HT}(h0:0<=i)(hx:l[i.toNat]? =some x){k:Array Value->Prop}(hk:k x.1):
 (0<=i/\i<(n:Int))/\Is A fun a=>∃t:Array Value,(t.size=32/\Cells w (a.add (i.toNat*32)) t)/\k t:=by
 obtain⟨a,rfl,_,hc⟩:=hl.at_ _ x hx;have:=(lgeS hx).1;have:=hl.len;exact⟨⟨h0,by omega⟩,x.1,⟨x.2.1,hc⟩,hk⟩
theorem AS{a b:HT}:(mT a b<0)↔cK a b=true:=by
 unfold mT;by_cases h:cK a b=true
 ·simp [h]
 ·by_cases h':cK b a=true<;>simp [h,h']
theorem eK{n:Int}(h0:0<=n)(h1:n<=2000000):i64.wrap (n+1)=n+1:=iI (by omega) (by omega)
theorem wrapM{n:Int}(h0:0<=n)(h1:n<=2000000):i64.wrap (n-1)=n-1:=iI (by omega) (by omega)
theorem Kept.pR{w w' lf:World}{A:Option Addr}(h:Kept Nil w w')(hg:w'.grownBy lf (bp A))(hr:∀k,bp A=some k->w.heap.size<=k):Kept Nil w lf:=
 Kept.grown h hg fun k hk cK=>absurd (hr k hk) (by omega)
section
variable{w:World}{K:Value->World->Prop}
end
theorem jF{w:World}{k l:Nat}{cs:Array Value}{t:TypeId}{fr:Nat×Nat}{R:Loop}(h:w.heap[k]? =some (.cells cs t fr))(h':w.heap[l]? =some (.loop R)):k≠l:=by
 rintro rfl;rw [h]at h';cases h'
theorem vm{w:World}{k l:Nat}{cs:Array Value}{t:TypeId}{fr:Nat×Nat}{d:Option (List Deferred)}(h:w.heap[k]? =some (.cells cs t fr))(h':w.heap[l]? =some (.deferred d)):k≠l:=by
 rintro rfl;rw [h]at h';cases h'
theorem Row.apart{w w':World}{B:Nat}{e:TypeId}{size:Nat}{A:Option Addr}{n c:Nat}{xs:List Value}(h:Row w B e size A n c xs){l:Nat}(hk:Kept (· =l) w w')
 (hl:∀cs t fr,w.heap[l]? ≠some (.cells cs t fr)):Row w' B e size A n c xs:=Row.aK h hk fun k hb e=>by
 subst e;obtain⟨_,cur,hc⟩:=Row.bS h hb;exact hl _ _ _ hc
abbrev pU(h:HT):List Value:= [.agg h.1]
section
variable{w:World}{K:Value->World->Prop}
theorem wg(p:Addr){A:Option Addr}{n c:Nat}{l:List HT}(hn:n<=1000000):
 lY prog aC.id #[] #[.pointer (some p)] (l.map pU) (fun w=>HS w A n l/\w.cell? p=some (.slice A n c)):=by
 intro y I D w0 hI hD pN h0 oY;refine aC.of ?_;obtain⟨vz,Mu⟩:=pN 0 w0 h0;have hlen:=vz.len;refine⟨A,n,c,Mu,?_⟩;refine aC.cf (I:=fun s w'=>∃i:Nat,s=(i:Int)/\i<=n/\I i w') (μ:=fun s _=>((n:Int)-s).toNat) (s:=0) ⟨0,rfl,Nat.zero_le _,h0⟩ ?_;rintro s w' ⟨i,rfl,hi,hw⟩;refine Split.dec (fun lH=>?_) (fun iK=>?_)
 ·have fg:i<n:=by omega
  obtain⟨x,hx⟩:∃x,l[i]? =some x:=⟨_,List.getElem?_eq_getElem (by omega)⟩;have hl:=(pN i w' hw).1;refine hl.load (i:=(i:Int)) (by omega) hx ?_;intro w10;obtain⟨ry,hb,hk⟩:=gh (w:=w') (z:=(yQ 0)) (cs:=x.1) (t:=ax) (by rw [x.2.1];rfl);refine⟨⟨x.2.1,x.2.one,fun j hj=>ry j (by rw [x.2.1];exact hj)⟩,?_⟩;intro p5
  replace hb:p5.heap[w'.heap.size]? =some (.cells x.1 ax (0,0)):=hb
  replace hk:Kept Nil w' p5:=hk
  clear_value p5;refine⟨x.1,⟨x.2.1,Cells.bS hb⟩,?_⟩;refine(oY i (pU x) p5 (by rw [List.getElem?_map,hx];rfl) (hI i w' p5 hw hk)).mono ?_;rintro b lf ⟨ht,hf⟩;cases b with
  |true=>
   refine Split.no rfl ?_;rw [eK (n:=(i:Int)) (by omega) (by omega)];exact⟨(i:Int)+1,rfl,⟨i+1,rfl,fg,ht rfl⟩,by simp only;omega⟩
  |false=>
   refine Split.yes rfl ?_;exact Or.inr (hf rfl)
 ·rw [aY,aC.dB]
  have e:i=n:=by omega
  subst e;refine Or.inl ?_;rw [List.length_map,hlen];exact hw
theorem ui{gf:FuncId}{fi:Array Value}{xs:List HT}{fn:Func}(FT:prog.funcs[gf]? =some fn)(hb:fn.body.isSome){F5:World->Prop}
 (hit:lY prog gf #[] fi (xs.map pU) F5) (hp:∀w',Kept Nil w w'->F5 w') (GW:xs.length<=1000000)
 (hK:∀A c w',cg w' w.heap.size A xs.length c xs->Kept Nil w w'->K (.slice A xs.length c) w'):
 bm prog aG.id #[.slice none 0 0,.func (.func gf) #[] fi] w K:=by
 refine aG.of ?_;unfold aG.W;intro w3;have k3:Kept Nil w w3:=(Kept.refl Nil w).alloc _;have o5:w3.heap[w.heap.size]? =some (.cells #[.slice none 0 0] aW (0,0)):=aR w _;have G3:w.heap.size<w3.heap.size:=bf o5;clear_value w3
 let ρ0:Env:= [(2,.pointer (some (aU w.heap.size))),(4,.slice none 0 0),(6,.func (.func gf) #[] fi)]
 let J:Nat->World->Prop:=fun i w'=>∃A c,w'.heap[w.heap.size]? =some (.cells #[.slice A i c] aW (0,0))/\cg w' w.heap.size A i c (xs.take i)/\Kept Nil w w'/\i<=xs.length/\∀k,bp A=some k->k≠w.heap.size
 refine mu (ρ:=ρ0) (ρ0:=ρ0) ng mix aG.k (t:=6) (ps:= #[7]) (by kernel_rfl) (by decide) rfl FT hb (.inl rfl) (fun i v _ h=>h) rfl pU xs (fun _=>rfl) (by simp [fR]) hit J (fun _ _=>False) ?_ (fun _ _ _ _ _ h=>h.elim) (fun i w' h=>hp w' (let ⟨_,_,_,_,h,_⟩:=h;h)) ?_ ?_ ?_ (fun _ _ h=>h.elim) (fun _ _ _ h=>h.elim)
 ·rintro i w' lf R hl ⟨A,c,h1,h2,h3,h4,h5⟩ hk
  exact⟨A,c,hk.heap h1 (jF h1 hl.loop),Row.apart h2 hk (fun cs t fr h=>by rw [hl.loop]at h;cases h),h3.trans hk (fun k hk e=>by omega),h4,h5⟩
 ·intro R
  exact⟨none,0,jE (jE o5 _) _,cg.nil _ _,(k3.alloc _).alloc _,Nat.zero_le _,fun k hk=>by cases hk⟩
 ·rintro i x w' R hx ⟨A,c,h1,h2,h3,h4,h5⟩ hl
  have fg:i<xs.length:=(lgeS hx).1;have e7:jW ρ0 ((#[7]:Array Nat).toList.zip (pU x))= [(2,.pointer (some (aU w.heap.size))),(4,.slice none 0 0),(6,.func (.func gf) #[] fi),(7,.agg x.1)]:=rfl;rw [e7,aG.a1];unfold aG.A1;intro w8;obtain⟨ry,jv,jf⟩:=gh (w:=w') (z:=(yQ 0)) (cs:=x.1) (t:=ax) (by rw [x.2.1];rfl);refine⟨⟨x.2.1,x.2.one,fun j hj=>ry j (by rw [x.2.1];exact hj)⟩,?_⟩;intro Bk
  replace jv:Bk.heap[w'.heap.size]? =some (.cells x.1 ax (0,0)):=jv
  replace jf:Kept Nil w' Bk:=jf
  clear_value Bk;have He:=hl.aK jf (fun h=>h) (fun h=>h);refine⟨He,fun w2 R2 mP vy=>?_⟩;have VT:=mP.heap jv (jF jv He.loop);have ZW:=jf.heap h1 (fun h=>h);have C5:=mP.heap ZW (jF ZW He.loop);have zh:cg w2 w.heap.size A i c (xs.take i):=Row.apart (Row.aK h2 jf (fun _ _ h=>h)) mP (fun cs t fr h=>by rw [He.loop]at h;cases h);have WK:Kept Nil w w2:=(h3.tt jf).trans mP (fun k hk e=>by omega);have cK:w.heap.size<w2.heap.size:=bf C5;rw [aG.y1];unfold aG.Y1;refine⟨A,i,c,by rw [aD C5];rfl,x.1,⟨x.2.1,Cells.bS VT⟩,x.2.1,?_⟩;intro lr;have tT:Kept Nil w2 lr:=(Kept.refl _ _).alloc _;have ln:HS lr (some ⟨w2.heap.size,0,none⟩) 1 [x]:=by
   refine HS.one (t:=ax) (fr:=(0,0)) ?_;have e3:lr=w2.alloc (.cells x.1 ax):=by
    show w2.alloc (.cells (x.1.toList++ []).toArray ax)=_
    simp
   rw [e3];exact aR w2 _
  clear_value lr;have HA:cg lr w.heap.size A i c (xs.take i):=Row.aK zh tT (fun _ _ h=>h);have WM:=tT.heap C5 (fun h=>h);have acf:=tT.size;obtain⟨A',c',vS,hr,lN,hg,ub⟩:=gz (cx:=1) aW HA ln (by omega) (by omega);have K6:Kept (fun k=>bp A=some k) lr vS:=Kept.grown (Kept.refl _ _) hg (fun k hk _=>hk);have HB:=K6.heap WM (fun h=>h5 _ h rfl);have KW:Live (w3.heap.size+1) w3.heap.size R2 vS:=by
   have KX:=vy.aK tT (fun h=>h) (fun h=>h);refine KX.aK K6 ?_ ?_
   ·intro h
    obtain⟨_,cur,hc⟩:=Row.bS HA h;exact jF hc KX.loop rfl
   ·intro h
    obtain⟨_,cur,hc⟩:=Row.bS HA h;exact vm hc KX.mark rfl
  have Ij:Kept Nil w vS:=(WK.tt tT).trans K6 (fun k hk e=>by
   obtain⟨h,_⟩:=Row.bS HA e;omega)
  refine⟨A',_,c',vS,hr,dL HB (by simp),?_⟩;intro p9;have Av:Kept (· =w.heap.size) vS p9:=Kept.setCell (S:=fun k=>k=w.heap.size) (Kept.refl _ vS) (p:=⟨w.heap.size,0,none⟩) (fun _=>rfl) _;have Wd:p9.heap[w.heap.size]? =some (.cells #[.slice A' (i+1) c'] aW (0,0)):=cY HB 0 _;clear_value p9;have Co:∀k,bp A'=some k->k≠w.heap.size:=fun k hk=>by
   rcases ub k hk with h|h
   ·exact h5 k h
   ·omega
  refine⟨KW.aK Av (jF HB KW.loop).symm (vm HB KW.mark).symm,A',c',Wd,?_,Ij.trans Av (fun k hk e=>by omega),fg,Co⟩;rw [List.take_add_one,hx];exact Row.aK lN Av Co
 ·rintro w' R ⟨A,c,h1,h2,h3,h4,h5⟩ hl
  have e7:gm ρ0 w3.heap.size= [(2,.pointer (some (aU w.heap.size))),(4,.slice none 0 0),(6,.func (.func gf) #[] fi),(4294967296,.agg #[.pointer (some ⟨w3.heap.size,0,none⟩)])]:=rfl;rw [e7,aG.jx];refine⟨A,xs.length,c,by rw [aD h1];rfl,⟨hl.mark,trivial⟩,?_⟩;have kp:Kept (· =w3.heap.size) w' (w'.putObj w3.heap.size (.deferred none)):=Kept.putAt _ _ _;refine hK A c _ ?_ (h3.trans kp (fun k hk e=>by omega));have:=Row.apart h2 kp (fun cs t fr h=>by rw [hl.mark]at h;cases h)
  rwa [List.take_of_length_le (Nat.le_refl _)]at this
theorem zv{gf:FuncId}{fi:Array Value}{xs:List HT}{fn:Func}(FT:prog.funcs[gf]? =some fn)(hb:fn.body.isSome){F5:World->Prop}
 (hit:lY prog gf #[] fi (xs.map pU) F5) (hp:∀w',Kept Nil w w'->F5 w') (GW:xs.length<=1000000)
 (hK:∀A c w',cg w' w.heap.size A xs.length c xs->Kept Nil w w'->K (.slice A xs.length c) w'):
 bm prog cy.id #[.func (.func gf) #[] fi] w K:=by
 refine cy.of (ui FT hb hit hp GW fun A c w' h1 h2=>⟨_,_,_,rfl,hK A c w' h1 h2⟩)
end
open Go.Sort
instance:Inhabited HT:=⟨⟨Array.replicate 32 (.int .u8 0),by simp,fun v hv=>⟨0,by simpa using hv,by omega,by omega⟩⟩⟩
abbrev lJ(h:HT):List Value:=h.1.toList
theorem xE(h:HT):(lJ h).length=32:=by have:=h.2.1;simpa using this
theorem sZ(d:Array HT):(flatK lJ 32 d).toList=cD d.toList:=by
 apply List.ext_getElem?;intro t;by_cases ht:t<d.size*32
 ·have hi:t/32<d.size:=by omega
  have hx:d.toList[t/32]? =some d[t/32]:=by rw [Array.getElem?_toList,Array.getElem?_eq_getElem hi]
  have hs:t%32<d[t/32].1.size:=by rw [d[t/32].2.1];omega
  have h1:=jA hx (Array.getElem?_eq_getElem hs);rw [show t/32*32+t%32=t by omega]at h1;rw [h1];have h2:t<(flatK lJ 32 d).size:=by rw [size_flatK];exact ht
  have h3:=get_flatK lJ 32 d t ht;rw [getElem!_pos _ t h2]at h3;rw [Array.getElem?_toList,Array.getElem?_eq_getElem h2,h3,getElem!_pos d _ hi];rw [getElem!_pos _ _ (by rw [xE];omega)];simp [lJ]
 ·rw [List.getElem?_eq_none (by simp;omega),List.getElem?_eq_none (by rw [dE];simp;omega)]
theorem DH{F cur:Array Value}{k:Nat}(hk:F.size=k)(h:k<=cur.size):(putCells id 0 F cur).toList.take k=F.toList:=by
 apply List.ext_getElem?;intro i;rw [List.getElem?_take];split
 ·rename_i hi
  have h1:i<cur.size:=by omega
  have h2:i<F.size:=by omega
  rw [Array.getElem?_toList,Array.getElem?_toList,putCells,Array.getElem?_mapIdx,Array.getElem?_eq_getElem h1,Array.getElem?_eq_getElem h2];simp [h2]
 ·rw [List.getElem?_eq_none (by simp;omega)]
theorem tP{w:World}{b:Nat}{f:Array Value->Array Value}{cur:Array Value}{t:TypeId}{fr:Nat×Nat}(h:w.heap[b]? =some (.cells cur t fr)):(mapBlock w b f).heap[b]? =some (.cells (f cur) t fr):=by
 simp [mapBlock,Array.getElem?_modify,h,onCells]
theorem tO(w:World)(b:Nat)(f:Array Value->Array Value):Kept (· =b) w (mapBlock w b f):=
 ⟨rfl,rfl,rfl,by simp [mapBlock],fun k _ hn=>by simp [mapBlock,Array.getElem?_modify,Ne.symm hn]⟩
theorem Cq(w:World)(os:Array Obj):Kept Nil w (grow w os):=
 ⟨rfl,rfl,rfl,by simp,fun k hk _=>heap_grow_old w os hk⟩
theorem zI(w:World)(m:Nat):Kept Nil w (Sort.ahead w m):=⟨rfl,rfl,rfl,Nat.le_refl _,fun _ _ _=>rfl⟩
section
variable{w:World}{B n c b:Nat}{l:List HT}
theorem tL(row:cg w B (some ⟨b,0,none⟩) n c l)(m:Nat)(dk:Array HT)(os:Array Obj)(hd:dk.size=n):
 cg (sortWorldK lJ 32 w b 0 m dk os) B (some ⟨b,0,none⟩) n c dk.toList/\Kept (· =b) w (sortWorldK lJ 32 w b 0 m dk os):=by
 have hka:=zI w m;have k1:=tO (Sort.ahead w m) b (putCells id 0 (flatK lJ 32 dk));have kk:=((hka.mono (S':=fun k=>k=b) (fun _ _ h=>h.elim)).tt k1).trans (Cq _ os) (fun _ _ h=>h.elim);refine⟨?_,?_⟩
 ·rcases Row.own row with⟨h,_⟩|⟨b',cur,hA,hB,hg,Cf,mI,mH,yS⟩
  ·cases h
  ·cases hA
   refine⟨by rw [dE,Array.length_toList,hd],.inr ⟨b,c,putCells id 0 (flatK lJ 32 dk) cur,rfl,hB,?_,Cf,mI,by simp [putCells,mH],?_⟩⟩
   ·have h1:(mapBlock (Sort.ahead w m) b (putCells id 0 (flatK lJ 32 dk))).heap[b]? =some (.cells (putCells id 0 (flatK lJ 32 dk) cur) ax (0,0)):=tP hg
    exact(heap_grow_old _ os (bf h1)).trans h1
   ·rw [<-sZ]
    refine DH (by rw [size_flatK,hd]) ?_;rw [mH];exact Nat.mul_le_mul_right _ Cf
 ·exact kk
theorem yZ(row:cg w B (some ⟨b,0,none⟩) n c l):HoldsK lJ 32 w b 0 l.toArray:=by
 intro j hj;rw [size_flatK]at hj;have uT:j<l.length*32:=by simpa using hj
 rw [Nat.zero_add];have hlen:=Row.len row;have hx:(flatK lJ 32 l.toArray).toList[j]? =(cD l)[j]? :=by rw [sZ]
 have Zh:j<(flatK lJ 32 l.toArray).size:=by rw [size_flatK];exact hj
 rw [Array.getElem?_toList,Array.getElem?_eq_getElem Zh]at hx;have hc:=Row.cell row hx.symm;refine⟨?_,?_⟩
 ·rw [hc,getElem!_pos _ j Zh];rfl
 ·exact(Row.wr row (j:=j) (by rw [dE];exact uT)).2
theorem nK(x y:HT):ltOf mT x y=cK x y:=by
 unfold ltOf;cases h:cK x y
 ·exact decide_eq_false fun h'=>by rw [AS.1 h']at h;cases h
 ·exact decide_eq_true (AS.2 h)
theorem le_trans'{x y z:HT}(h:cK y x=false)(h':cK z y=false):cK z x=false:=by
 cases Ol:cK z x
 ·rfl
 ·exfalso
  by_cases e:y=z
  ·subst e;rw [h]at Ol;cases Ol
  ·have Ml:=lt_of_le_ne h' e
   have:=kH Ml Ol;rw [h]at this;cases this
theorem SY:SWO (ltOf mT) where
 irrefl x:=by rw [nK];exact hZ x
 trans x y z h h':=by rw [nK]at*;exact kH h h'
 ntrans x y z h h':=by
  rw [nK]at*;exact le_trans' h' h
theorem Gj{A:Option Addr}{K:Value->World->Prop}(row:cg w B A n c l)(hn:n<=1000000)
 (hK:∀l' w',LE l'->(∀x,x∈l'↔x∈l)->cg w' B A n c l'->Kept (fun k=>bp A=some k) w w'->K (.tuple #[]) w'):
 bm prog ft.id #[.slice A n c,.func (.func cV.id) #[] #[]] w K:=by
 have hlen:=row.len;by_cases h0:n=0
 ·subst h0
  have h:=AnyF.slices_SortFunc_none Tryz.uy A c (.func (.func cV.id) #[] #[]) w;refine Calls.mono h ?_;rintro e w' ⟨rfl,rfl⟩;have:l= []:=List.eq_nil_of_length_eq_zero hlen;subst this;exact⟨_,rfl,hK [] _ List.Pairwise.nil (fun _=>Iff.rfl) row (Kept.refl _ _)⟩
 ·obtain⟨b,rfl⟩:=Row.some row (by omega)
  have hblk:b<w.heap.size:=by
   obtain⟨_,cur,hc⟩:=Row.bS row (k:=b) rfl;exact bf hc
  have nN:l.toArray.size=n:=by simpa using hlen
  have eg:∀args w,(callFunc cV.id args).run prog w=.ok (.enter cV.id args) w:=enters_of cV.at_ (by kernel_rfl) rfl;have hk:lE prog ax=.agg 32:=by kernel_rfl
  obtain⟨W1,ha⟩:=pK hk;obtain⟨i,hi⟩:=Go.bE.info_of_underlying (P:=prog) (t:=ax) (by kernel_rfl);have VK:CmpLays prog cV.id #[] lJ 32 mT b 0 l.toArray.size w:=fun m os dk _ x y=>by
   have e:(#[.agg (lJ x).toArray,.agg (lJ y).toArray]++ #[]:Array Value)= #[.agg x.1,.agg y.1]:=by simp [lJ]
   rw [e];have h:=nS (w:=sortWorldK lJ 32 w b 0 m dk os) x y (K:=fun v w'=>v=.int .i64 (mT x y)/\w'=(((sortWorldK lJ 32 w b 0 m dk os).alloc (.cells x.1 ax)).alloc (.cells y.1 ax)).drew) ⟨rfl,rfl⟩;refine Calls.mono h ?_;rintro e w' ⟨v,rfl,rfl,rfl⟩;refine⟨rfl,1,#[.cells x.1 ax,.cells y.1 ax],?_⟩;rw [alloc_eq_grow,alloc_eq_grow,grow_grow,drew_grow];rfl
  have h:=AnyQ.slices_SortFunc_total Tryz.uy 32 ha (fun w=>by rw [W1];exact Go.bE.run_sizeOf hi w) lJ xE (fun x=>x.2.one) mT SY cV.id #[] b 0 c l.toArray w eg VK (yZ row) hblk (by omega)
   (fun x y h1 h2=>by rw [nK]at h1 h2;exact ow h1 h2)
  rw [nN]at h;refine Calls.mono h ?_;rintro e w' ⟨rfl,m,os,rfl⟩;have hp:=List.mergeSort_perm l.toArray.toList (fun x y=> !(ltOf mT) y x);have FO:(l.toArray.toList.mergeSort fun x y=> !(ltOf mT) y x).toArray.size=n:=by
   have:=hp.length_eq;simp only [List.size_toArray];rw [this];simpa using hlen
  obtain⟨h1,h2⟩:=tL row m _ os FO;refine⟨_,rfl,hK _ _ ?_ (fun x=>?_) h1 (h2.mono fun k _ e=>by rw [e];rfl)⟩
  ·have hs:=List.pairwise_mergeSort (le:=fun x y=> !(ltOf mT) y x) (fun a b c h h'=>by
    rw [nK]at*;simp only [Bool.not_eq_true']at*;exact le_trans' h h') (fun a b=>by
    rw [nK,nK];cases mJ:cK b a
    ·rfl
    ·rw [qA mJ];rfl) l.toArray.toList
   refine List.Pairwise.imp ?_ hs;intro a b mJ;rw [nK]at mJ;simpa using mJ
  ·simp
end
end Go.Proofs.YtfleamccglihoaaGreatDoor
namespace Go.Proofs.YtfleamccglihoaaGreatDoor
open Go.Proofs.Tryz
open Go Go.bE Go.RowKit
theorem y7{l:List HT}{k:Nat}(hk:k<l.length)(x:HT):cD (l.set k x)=gu (cD l) (k*32) x.1.toList:=by
 have h1:l=l.take k++l[k]::l.drop (k+1):=by rw [<-List.drop_eq_getElem_cons hk,List.take_append_drop]
 have e1:(cD (l.take k)).length=k*32:=by rw [dE,List.length_take];omega
 have hx:=x.2.1;have hl:=l[k].2.1;have hs:l.set k x=l.take k++x::l.drop (k+1):=List.set_eq_take_append_cons_drop .. |>.trans (if_pos hk)
 rw [hs]
 conv=>rhs;rw [h1]
 rw [kQ,kQ,jN,jN];generalize cD (l.take k)=p at e1;generalize cD (l.drop (k+1))=r;have eq:l[k].1.toList.length=32:=by simpa using hl
 have ev:x.1.toList.length=32:=by simpa using hx
 generalize l[k].1.toList=q at eq;generalize x.1.toList=v at ev;unfold gu;rw [List.take_left' e1,ev,show p++(q++r)=(p++q)++r by simp,List.drop_left' (by rw [List.length_append,e1,eq])];simp
theorem cg.setAt{w:World}{B n c b:Nat}{l:List HT}(row:cg w B (some ⟨b,0,none⟩) n c l){k:Nat}(hk:k<n)(x:HT):
 cg (setCells w ⟨b,k*32,none⟩ x.1.toList 0) B (some ⟨b,0,none⟩) n c (l.set k x):=by
 have hlen:=row.len;have hx:=x.2.1;have:=pq x.1.toList (cD l) w (k*32) 0 row (by rw [dE];simp;omega);rw [Nat.add_zero]at this;rw [<-y7 (by omega)]at this;exact this
theorem cg.Jm{w:World}{B n c b:Nat}{l:List HT}(row:cg w B (some ⟨b,0,none⟩) n c l){k:Nat}(hk:k<n)(j:Nat)(hj:j<32):Wr w ((⟨b,k*32,none⟩:Addr).add j):=by
 rw [bu];refine Row.wr row ?_;rw [dE,row.len];omega
theorem cg.cap{w:World}{B:Nat}{A:Option Addr}{n c:Nat}{l:List HT}(row:cg w B A n c l):n<=c:=by
 rcases Row.own row with⟨_,h1,h2,_⟩|⟨_,_,_,_,_,h1,_⟩<;>omega
theorem cg.cut{w w':World}{B n c b:Nat}{l:List HT}(row:cg w B (some ⟨b,0,none⟩) n c l){k:Nat}(hk:k<=n)(vs:List Value)(hv:vs.length=(n-k)*32)(hw:w'=setCells w ⟨b,k*32,none⟩ vs 0):
 cg w' B (some ⟨b,0,none⟩) k c (l.take k):=by
 subst hw;have hlen:=row.len;rcases Row.own row with⟨h,_⟩|⟨b',cur,hA,hB,hg,Cf,mI,mH,yS⟩
 ·cases h
 ·cases hA
  have hle:n*32<=c*32:=Nat.mul_le_mul_right _ Cf;have nN:k*32+0+vs.length<=cur.size:=by omega
  have h1:=jn vs cur w ax (k*32) 0 hg nN;refine⟨by rw [dE,List.length_take];omega,.inr ⟨b,c,_,rfl,hB,h1,by omega,mI,?_,?_⟩⟩
  ·have:=mf (xs:=cur.toList) (k:=k*32+0) (vs:=vs) (by simpa using nN)
   rw [List.size_toArray,this];simpa using mH
  ·have e1:(cD (l.take k)).length=k*32:=by rw [dE,List.length_take];omega
   have e2:(cD l).take (k*32)=cD (l.take k):=by
    conv=>lhs;rw [<-List.take_append_drop k l,kQ]
    rw [<-e1,List.take_left'];rfl
   rw [<-e2,<-yS,List.take_take,Nat.min_eq_left (by omega)];unfold gu;simp only [Nat.add_zero];rw [List.append_assoc,List.take_append_of_le_length (by simp;omega),List.take_take,Nat.min_self]
def zQ(P:Program)(e:TypeId):Bool:=
 match P.info? e with
 |some i=>match i.zero with
  |some z=>z.cells.toList.all fun v=>v.oneCell'
  |none=>false
 |none=>false
theorem r6{w:World}{B n c b:Nat}{l:List HT}(row:cg w B (some ⟨b,0,none⟩) n c l){k:Nat}(hk:k<=n)(ty:Nat){A:Option Addr}{cx:Nat}(hA:k<n->A=some ⟨b,k*32,none⟩):
 ∃w',(Builtin.clear_ #[aW] ty #[.slice A (n-k) cx]).run prog w=.ok (.tuple #[]) w'/\cg w' B (some ⟨b,0,none⟩) k c (l.take k)/\Kept (· =b) w w':=by
 have hlen:=row.len;by_cases tZ:k<n
 ·obtain⟨i,z,hi,hz,hs,_,FD⟩:=nv.inf
  have Ha:zQ prog ax=true:=by kernel_rfl
  unfold zQ at Ha;rw [hi]at Ha;simp only [hz,List.all_eq_true]at Ha;rw [hA tZ];obtain⟨m,hm⟩:∃m,n-k=m+1:=⟨n-k-1,by omega⟩;have T3:(Builtin.zeroCells z.cells (n-k)).toList.length=(n-k)*32:=by simp [Builtin.zeroCells,FD]
  have ou:=gE (P:=prog) ⟨b,k*32,none⟩ (Builtin.zeroCells z.cells (n-k)).toList 0 w (fun v hv=>by
   simp only [Builtin.zeroCells,Array.toList_map,List.mem_map]at hv;obtain⟨t,ht,rfl⟩:=hv;have:t%z.cells.size<z.cells.size:=Nat.mod_lt _ (by omega);rw [getElem!_pos z.cells _ this];exact Ha _ (by simp)) (fun j hj=>by
   rw [Nat.zero_add,bu];refine Row.wr row ?_;rw [dE];omega)
  refine⟨_,?_,row.cut hk _ T3 rfl,fU _ _ _ _⟩;simp only [Builtin.clear_,hm];rw [hm]at ou;simp [run_underlying nv.mY,zeroValue,typeInfo,hi,hz,ou]
 ·have:n=k:=by omega
  subst this;refine⟨w,?_,by rw [List.take_of_length_le (by omega)];exact row,Kept.refl _ _⟩;rw [Nat.sub_self];cases A<;>simp [Builtin.clear_,run_underlying nv.mY]
theorem Br:∀ {l:List HT},l.length<2->dh l=l
 | [],_=>rfl
 | [_],_=>rfl
 |_::_::_,h=>by simp only [List.length_cons]at h;omega
section
variable{w:World}{B n c:Nat}{A:Option Addr}{l:List HT}{K:Value->World->Prop}
theorem zu(row:cg w B A n c l)(hle:LE l)(hn:n<=400000)
 (hK:∀A' c' w',cg w' B A' (dh l).length c' (dh l)->(∀k,bp A'=some k->bp A=some k)->Kept (fun k=>bp A=some k) w w'->K (.slice A' (dh l).length c') w'):
 bm prog ag.id #[.slice A n c] w K:=by
 have hlen:=row.len;refine ag.of ?_;refine Split.dec (fun h2=>?_) (fun h2=>?_)
 ·have e:dh l=l:=Br (by omega)
  have:=hK A c w (by rw [e,hlen];exact row) (fun k h=>h) (Kept.refl _ _);rw [e,hlen]at this;exact this
 obtain⟨b,rfl⟩:=Row.some row (by omega);have VR:=row.cap;refine ag.cf (I:=fun s w'=>∃k:Nat,s=(none,0,0,(k:Int))/\1<=k/\k<=n/\SS (l.take k)/\Kept Nil w w') (μ:=fun s _=>((n:Int)-s.2.2.2).toNat) (s:=(none,0,0,1))
  ⟨1,rfl,Nat.le_refl _,by omega,?_,Kept.refl _ _⟩ ?_
 ·cases l with
  |nil=>exact List.Pairwise.nil
  |cons x l=>simp [SS]
 rintro s w' ⟨k,rfl,Hf,tZ,vv,kw⟩;refine Split.dec (fun lH=>?_) (fun iK=>?_)
 ·simp only at lH
  have CZ:k<n:=by omega
  obtain⟨x,hx⟩:∃x,l[k]? =some x:=⟨_,List.getElem?_eq_getElem (by omega)⟩;obtain⟨y,hy⟩:∃y,l[k-1]? =some y:=⟨_,List.getElem?_eq_getElem (by omega)⟩;intro w5;have k5:Kept Nil w w5:=kw.drew;clear_value w5;have qn:cg w5 B (some ⟨b,0,none⟩) n c l:=Row.aK row k5 (fun _ _ h=>h);simp only;rw [wrapM (n:=(k:Int)) (by omega) (by omega)];have lZ:cK x y=false:=hle.get (by omega) hy hx;refine qn.hs.load (i:=(k:Int)) (by omega) hx (qn.hs.load (i:=(k:Int)-1) (by omega) (by rw [show((k:Int)-1).toNat=k-1 by omega];exact hy) ⟨⟨x.2.ints,y.2.ints⟩,?_⟩);rw [gB];refine Split.dec (fun he=>?_) (fun he=>?_)
  ·refine⟨⟨by omega,by omega⟩,?_⟩
   rw [Int.toNat_natCast];rw [if_neg (show ¬c=k by omega)];simp only [Option.map_some,bu,Nat.zero_add];refine ag.iN (I:=fun s w'=>∃(p j:Nat) (l':List HT),s=((p:Int),(j:Int))/\1<=j/\k<=p/\p<k+j/\k+j<=n/\cg w' B (some ⟨b,0,none⟩) n c l'/\l'.drop (k+j-1)=l.drop (k+j-1)/\SS (l'.take p)/\(∀z,z∈l'.take p↔z∈l.take (k+j))/\Kept (· =b) w w')
    (μ:=fun s _=>((n:Int)-s.2).toNat) (s:=((k:Int),1)) ⟨k,1,l,rfl,Nat.le_refl _,Nat.le_refl _,by omega,by omega,qn,rfl,vv,fun z=>?_,k5.mono fun _ _ h=>h.elim⟩ ?_
   ·rw [bI hx]
    constructor
    ·exact .inl
    ·rintro(h|rfl)
     ·exact h
     ·rw [he]
      have:=bI (z:=y) hy;rw [show k-1+1=k by omega]at this;exact this.2 (.inr rfl)
   rintro s w1 ⟨p,j,l',rfl,hj1,Px,YW,hjn,BJ,Qc,CU,IL,k1⟩;have EB:=BJ.len;refine Split.dec (fun Vj=>?_) (fun Vp=>?_)
   ·simp only at Vj
    have tJ:k+j<n:=by omega
    obtain⟨u,hu⟩:∃u,l[k+j]? =some u:=⟨_,List.getElem?_eq_getElem (by omega)⟩;obtain⟨v,hv⟩:∃v,l[k+j-1]? =some v:=⟨_,List.getElem?_eq_getElem (by omega)⟩;have GZ:l'[k+j]? =some u:=by
     have h:=congrArg (fun m:List HT=>m[1]?) Qc;simp only [List.getElem?_drop]at h;rw [show k+j-1+1=k+j by omega]at h;rw [h,hu]
    have T6:l'[k+j-1]? =some v:=by
     have h:=congrArg (fun m:List HT=>m[0]?) Qc;simp only [List.getElem?_drop,Nat.add_zero]at h;rw [h,hv]
    intro vS;have Ij:Kept (· =b) w vS:=k1.drew;have lN:cg vS B (some ⟨b,0,none⟩) n c l':=Row.aK BJ ((Kept.refl Nil w1).drew) (fun _ _ h=>h);clear_value vS;have sI:HS vS (some ⟨b,k*32,none⟩) (n-k) (l'.drop k):=by
     have h:=lN.hs.drop (c:=c) VR (k:=k) (by omega);rw [if_neg (show ¬c=k by omega)]at h;simpa [bu]using h
    have YM:(l'.drop k)[(j:Int).toNat]? =some u:=by rw [Int.toNat_natCast,List.getElem?_drop];exact GZ
    have Ud:(l'.drop k)[((j:Int)-1).toNat]? =some v:=by
     rw [show((j:Int)-1).toNat=j-1 by omega,List.getElem?_drop,show k+(j-1)=k+j-1 by omega];exact T6
    simp-zeta only;rw [wrapM (n:=(j:Int)) (by omega) (by omega)];have huv:cK u v=false:=hle.get (by omega) hv hu;refine sI.load (i:=(j:Int)) (by omega) YM (sI.load (i:=(j:Int)-1) (by omega) Ud ⟨⟨u.2.ints,v.2.ints⟩,?_⟩);rw [gB,eK (n:=(j:Int)) (by omega) (by omega)];have Y6:∀z,z∈l.take (k+(j+1))↔z∈l'.take p\/z=u:=fun z=>by
     rw [show k+(j+1)=k+j+1 by omega,bI hu,IL z]
    by_cases heq:u=v
    ·refine Split.no (by rw [decide_eq_true heq];rfl) ?_
     refine⟨((p:Int),(j:Int)+1),rfl,⟨p,j+1,l',rfl,by omega,Px,by omega,by omega,lN,?_,CU,fun z=>?_,Ij⟩,by simp only;omega⟩
     ·have h:=congrArg (fun m:List HT=>m.drop 1) Qc
      simp only [List.drop_drop]at h;rw [show k+(j+1)-1=k+j-1+1 by omega];exact h
     ·rw [Y6 z]
      constructor
      ·exact .inl
      ·rintro(h|rfl)
       ·exact h
       ·refine(IL _).2 ?_
        rw [heq];exact List.mem_of_getElem? (i:=k+j-1) (by rw [List.getElem?_take,if_pos (by omega)];exact hv)
    ·refine Split.yes (by rw [decide_eq_false heq];rfl) ?_
     refine sI.load (i:=(j:Int)) (by omega) YM ⟨⟨by omega,by omega⟩,⟨u.2.1,u.2.one,fun i hi=>?_⟩,?_⟩
     ·rw [Int.toNat_natCast,bu,Nat.zero_add]
      exact lN.Jm (by omega) i hi
     intro CQ;have Ou:CQ=setCells vS ⟨b,p*32,none⟩ u.1.toList 0:=by
      show setCells vS ((⟨b,0,none⟩:Addr).add ((p:Int).toNat*32)) u.1.toList 0=_
      rw [Int.toNat_natCast,bu,Nat.zero_add]
     have Ni:cg CQ B (some ⟨b,0,none⟩) n c (l'.set p u):=by rw [Ou];exact lN.setAt (by omega) u
     have JW:Kept (· =b) w CQ:=by rw [Ou];exact Ij.tt (fU _ _ _ _)
     clear_value CQ;rw [eK (n:=(p:Int)) (by omega) (by omega)];have yS:(l'.set p u).take (p+1)=l'.take p++ [u]:=by
      rw [List.take_add_one,List.take_set_of_le (Nat.le_refl p),List.getElem?_set_self (by omega)];rfl
     refine⟨((p:Int)+1,(j:Int)+1),rfl,⟨p+1,j+1,l'.set p u,rfl,by omega,by omega,by omega,by omega,Ni,?_,?_,fun z=>?_,JW⟩,by simp only;omega⟩
     ·have h:=congrArg (fun m:List HT=>m.drop 1) Qc
      simp only [List.drop_drop]at h;rw [List.drop_set,if_pos (by omega),show k+(j+1)-1=k+j-1+1 by omega];exact h
     ·rw [yS]
      refine A0 CU fun z hz=>?_;obtain⟨i,hi⟩:=List.mem_iff_getElem?.1 ((IL z).1 hz);rw [List.getElem?_take]at hi;split at hi
      ·rename_i hik
       have YB:cK v u=true:=lt_of_le_ne huv (fun e=>heq e.symm);by_cases e:i=k+j-1
       ·subst e;rw [hv]at hi;cases hi;exact YB
       ·exact qQ (hle.get (by omega) hi hv) YB
      ·cases hi
     ·rw [yS,Y6 z]
      simp
   ·simp only at Vp
    have hj:k+j=n:=by omega
    rw [aY,ag.lL];unfold ag.jY;refine⟨⟨by omega,by omega⟩,?_⟩;rw [Int.toNat_natCast];obtain⟨w2,hr,r7,k2⟩:=r6 BJ (k:=p) (by omega) 0 (A:=if c=p then some ⟨b,0,none⟩else(some ⟨b,0,none⟩:Option Addr).map (·.add (p*32))) (cx:=c-p) (fun hp=>by
     rw [if_neg (by omega)];simp [bu])
    refine⟨_,w2,hr,⟨by omega,by omega⟩,?_⟩;have e:l'.take p=dh l:=yp CU fun z=>by rw [IL z,hj,List.take_of_length_le (by omega)]
    have el:p=(dh l).length:=by
     have h:=r7.len;rw [e]at h;exact h.symm
    have e0:(if c=0 then(some ⟨b,0,none⟩:Option Addr)else(some ⟨b,0,none⟩:Option Addr).map (·.add (0*32)))=some ⟨b,0,none⟩:=by
     rw [if_neg (by omega)];simp [add_zero]
    rw [e0,Nat.sub_zero,Nat.sub_zero];rw [e,el]at r7;have:=hK (some ⟨b,0,none⟩) c w2 r7 (fun k h=>h) ((k1.tt k2).mono fun i _ h=>by rw [h];rfl);rw [<-el]at this;exact this
  ·rw [eK (n:=(k:Int)) (by omega) (by omega)]
   refine⟨(none,0,0,(k:Int)+1),rfl,⟨k+1,rfl,by omega,by omega,?_,k5⟩,by simp only;omega⟩;rw [List.take_add_one,hx];refine A0 vv fun z hz=>?_;have RK:cK y x=true:=lt_of_le_ne lZ (fun e=>he e.symm);obtain⟨i,hi⟩:=List.mem_iff_getElem?.1 hz;rw [List.getElem?_take]at hi;split at hi
   ·by_cases e:i=k-1
    ·subst e;rw [hy]at hi;cases hi;exact RK
    ·exact qQ (hle.get (by omega) hi hy) RK
   ·cases hi
 ·simp only at iK
  have e:k=n:=by omega
  subst e;rw [aY,ag.dB];rw [List.take_of_length_le (by omega)]at vv;have e:dh l=l:=wm vv;have:=hK (some ⟨b,0,none⟩) c w' (by rw [e,hlen];exact Row.aK row kw (fun _ _ h=>h)) (fun k h=>h) (kw.mono fun _ _ h=>h.elim);rw [e,hlen]at this;exact this
theorem fX(hl:HS w A n l)(hn:n<=400000)
 (hK:∀A' c' w',cg w' w.heap.size A' (dh l).length c' (dh l)->Kept Nil w w'->K (.slice A' (dh l).length c') w'):
 bm prog ir.id #[.slice A n c] w K:=by
 have hlen:=hl.len;refine ir.of ?_;refine cR.of ?_;unfold cR.W;intro w2;have k2:Kept Nil w w2:=(Kept.refl _ _).alloc _;have oy:w2.heap[w.heap.size]? =some (.cells #[.slice A n c] aW (0,0)):=aR w _;clear_value w2;refine⟨_,rfl,?_⟩;refine cO.of ?_;refine zv (xs:=l) aC.at_ (by rfl) (wg (l:=l) ⟨w.heap.size,0,none⟩ (A:=A) (n:=n) (c:=c) (by omega)) (fun w' hk=>⟨(hl.same k2).same hk,by rw [aD (hk.heap oy (fun h=>h))];rfl⟩) (by omega) ?_;intro A4 c4 w4 wA k4;refine⟨A4,_,c4,rfl,?_⟩;refine Gj wA (by omega) fun l5 w5 hle jX qn k5=>⟨rfl,?_⟩;refine⟨A4,_,c4,rfl,?_⟩;refine zu qn hle (by omega) fun A6 c6 w6 BI pQ k6=>⟨A6,_,c6,rfl,?_⟩;have e:dh l5=dh l:=zZ jX;rw [e]at BI⊢;have Sg:∀k,bp A4=some k->w.heap.size<=k:=fun k hk=>Nat.le_trans k2.size (Row.bS wA hk).1;refine hK A6 c6 w6 (Row.base BI fun k hk=>Sg k (pQ k hk)) ?_;exact((k2.tt k4).trans k5 (fun k hk h=>absurd (Sg k h) (by omega))).trans k6 (fun k hk h=>absurd (Sg k h) (by omega))
end
theorem jD{x:Nat}(h:x<18446744073709551616):u64.wrap (x:Int)=(x:Int):=by
 simp only [IntKind.wrap,IntKind.bits,IntKind.signed];simp;omega
theorem XR{x y:Nat}(hx:x<18446744073709551616)(hy:y<18446744073709551616):
 u64.wrap ((BitVec.ofInt 64 (x:Int)|||BitVec.ofInt 64 (y:Int)).toNat:Int)=((x|||y:Nat):Int):=by
 have h:(BitVec.ofInt 64 (x:Int)|||BitVec.ofInt 64 (y:Int)).toNat=x|||y:=by
  rw [BitVec.ofInt_natCast,BitVec.ofInt_natCast,BitVec.toNat_or,BitVec.toNat_ofNat,BitVec.toNat_ofNat,Nat.mod_eq_of_lt (by omega),Nat.mod_eq_of_lt (by omega)]
 rw [h];exact jD (Nat.or_lt_two_pow (n:=64) hx hy)
theorem W7{x y:Nat}(hx:x<18446744073709551616)(hy:y<18446744073709551616):
 u64.wrap ((BitVec.ofInt 64 (x:Int)&&& BitVec.ofInt 64 (y:Int)).toNat:Int)=((x&&& y:Nat):Int):=by
 have h:(BitVec.ofInt 64 (x:Int)&&& BitVec.ofInt 64 (y:Int)).toNat=x&&& y:=by
  rw [BitVec.ofInt_natCast,BitVec.ofInt_natCast,BitVec.toNat_and,BitVec.toNat_ofNat,BitVec.toNat_ofNat,Nat.mod_eq_of_lt (by omega),Nat.mod_eq_of_lt (by omega)]
 rw [h];exact jD (Nat.lt_of_le_of_lt Nat.and_le_left hx)
theorem Te{i:Nat}(hi:i<64):u64.wrap ((1:Int)*2 ^ (min i 64))=((2 ^ i:Nat):Int):=by
 rw [Nat.min_eq_left (by omega),Int.one_mul];have h:2 ^ i<18446744073709551616:=Nat.pow_lt_pow_right (by omega) (n:=64) hi;have:=jD h;rw [<-this];simp
def bit(ws:List Nat)(i:Nat):Bool:=(ws.getD (i/64) 0).testBit (i%64)
def okW(ws:List Nat):Prop:=∀x∈ws,x<18446744073709551616
theorem vJ(i:Nat):bit [] i=false:=by simp [bit]
theorem xM(ws:List Nat)(i:Nat):bit (ws++ [0]) i=bit ws i:=by
 unfold bit
 congr 1
 simp only [List.getD_eq_getElem?_getD,List.getElem?_append];split
 ·rfl
 ·rename_i h
  rw [List.getElem?_eq_none (l:=ws) (by omega)];cases i/64-ws.length<;>simp
theorem AU{ws:List Nat}{q:Nat}(hq:q<ws.length)(v i:Nat):bit (ws.set q v) i=if i/64=q then v.testBit (i%64)else bit ws i:=by
 unfold bit;simp only [List.getD_eq_getElem?_getD,List.getElem?_set];by_cases h:i/64=q
 ·subst h;simp [hq]
 ·rw [if_neg (fun e=>h e.symm),if_neg h]
theorem Ag{ws:List Nat}(h:okW ws){x:Nat}(hx:x<18446744073709551616):okW (ws++ [x]):=fun y hy=>by
 rw [List.mem_append,List.mem_singleton]at hy;rcases hy with hy|rfl
 ·exact h y hy
 ·exact hx
theorem Af{ws:List Nat}(h:okW ws){x:Nat}(hx:x<18446744073709551616)(q:Nat):okW (ws.set q x):=fun y hy=>by
 rcases List.mem_or_eq_of_mem_set hy with hy|rfl
 ·exact h y hy
 ·exact hx
def us(l:List Nat):List Value:=l.map fun x:Nat=>.int .u64 (x:Int)
theorem nr(l:List Nat):(us l).length=l.length:=by simp [us]
theorem ns{l:List Nat}{j x:Nat}(h:l[j]? =some x):(us l)[j]? =some (.int .u64 (x:Int)):=by simp [us,h]
theorem vf(l:List Nat)(q v:Nat):(us l).set q (.int .u64 (v:Int))=us (l.set q v):=by simp [us,List.map_set]
theorem Ju(l m:List Nat):us (l++m)=us l++us m:=by simp [us]
structure US(w:World)(A:Option Addr)(n:Nat)(l:List Nat):Prop where
 len:l.length=n
 at_:∀(i x:Nat),l[i]? =some x->∃a,A=some a/\a.block<w.heap.size/\w.cell? (a.add i)=some (.int .u64 (x:Int))
theorem US.aK{S:Nat->Prop}{w w':World}{A:Option Addr}{n:Nat}{l:List Nat}(h:US w A n l)(hk:Kept S w w')(hn:∀a,A=some a->¬S a.block):US w' A n l:=⟨h.len,fun i x hi=>by
 obtain⟨a,h1,h2,h3⟩:=h.at_ i x hi;exact⟨a,h1,Nat.lt_of_lt_of_le h2 hk.size,hk.cell h3 (by rw [iy];exact hn a h1)⟩⟩
theorem US.load{w:World}{A:Option Addr}{n:Nat}{l:List Nat}(hl:US w A n l){i:Int}{x:Nat}(h0:0<=i)(hx:l[i.toNat]? =some x){k:Int->Prop}(hk:k x):
 (0<=i/\i<(n:Int))/\Is A fun a=>∃t:Int,w.cell? (a.add (i.toNat*1))=some (.int .u64 t)/\k t:=by
 obtain⟨a,rfl,_,hc⟩:=hl.at_ _ x hx;have:=(lgeS hx).1;have:=hl.len;exact⟨⟨h0,by omega⟩,x,by rw [Nat.mul_one];exact hc,hk⟩
theorem JC:AZ prog jC eJ 1 8:=⟨by kernel_rfl,by kernel_rfl⟩
abbrev jw(w:World)(B:Nat)(A:Option Addr)(n c:Nat)(l:List Nat):Prop:=Row w B eJ 1 A n c (us l)
section
variable{w w':World}{B n c:Nat}{A:Option Addr}{l:List Nat}
theorem jw.len(h:jw w B A n c l):l.length=n:=by have:=Row.len h;rw [nr]at this;omega
theorem jw.us(h:jw w B A n c l):US w A n l:=⟨h.len,fun i x hi=>by
 have hlen:=h.len;have:=(lgeS hi).1;obtain⟨b,rfl⟩:=Row.some h (by omega);obtain⟨_,cur,vB⟩:=Row.bS h (k:=b) rfl;exact⟨_,rfl,bf vB,by rw [bu,Nat.zero_add];exact Row.cell h (ns hi)⟩⟩
theorem Dt(i:Nat):((i:Int).tdiv 64)=((i/64:Nat):Int):=by
 rw [Int.tdiv_eq_ediv_of_nonneg (by omega)];omega
theorem Jz(i:Nat):((i:Int).tmod 64)=((i%64:Nat):Int):=by
 rw [Int.tmod_eq_emod_of_nonneg (by omega)];omega
theorem q9(h:jw w B A n c l)(hn:n<=1000000)(hB:B<=w.heap.size){t:Nat}(x:Nat):
 ∃A' c' w',(Builtin.append_ #[jC,jC] jC #[.slice A n c,.slice (some ⟨w.heap.size,0,none⟩) 1 1]).run prog (w.alloc (.cells #[.int .u64 (x:Int)] t))=.ok (.slice A' (n+1) c') w'/\
  jw w' B A' (n+1) c' (l++ [x])/\Kept (fun k=>bp A=some k) w w'/\(∀k,bp A'=some k->bp A=some k\/w.heap.size<=k):=by
 have k1:Kept Nil w (w.alloc (.cells #[.int .u64 (x:Int)] t)):=(Kept.refl _ _).alloc _;have hb:=aR w (.cells #[.int .u64 (x:Int)] t);have h1:jw (w.alloc (.cells #[.int .u64 (x:Int)] t)) B A n c l:=Row.aK h k1 (fun _ _ h=>h);obtain⟨A',c',w',hr,fW,hg,ub⟩:=iu (P:=prog) (t:=jC) (ty:=jC) (bytes:=8) JC h1 (a:=⟨w.heap.size,0,none⟩) (m:=1) (cx:=1) (news:=us [x]) rfl
  (fun j u hj=>by rw [bu,Nat.zero_add,aD hb];simpa [us]using hj) (fun u hu=>by simp [us]at hu;subst hu;rfl) (by omega) (by unfold maxLen;omega) (by have:=k1.size;omega)
 refine⟨A',c',w',hr,?_,?_,fun k hk=>?_⟩
 ·show Row w' B eJ 1 A' (n+1) c' (Proofs.YtfleamccglihoaaGreatDoor.us (l++ [x]))
  rw [Ju];exact fW
 ·exact(k1.mono (S':=fun k=>bp A=some k) (fun _ _ h=>h.elim)).tt (Kept.grown (S:=fun k=>bp A=some k) (Kept.refl _ _) hg (fun k hk _=>hk))
 ·rcases ub k hk with h|h
  ·exact .inl h
  ·have:=k1.size;exact .inr (by omega)
theorem wq{b:Nat}(h:jw w B (some ⟨b,0,none⟩) n c l){q:Nat}(hq:q<n)(x:Nat):
 jw (w.setCell ⟨b,q,none⟩ (.int .u64 (x:Int))) B (some ⟨b,0,none⟩) n c (l.set q x):=by
 have:=Row.set h (j:=q) (by rw [nr,h.len];exact hq) (.int .u64 (x:Int));rw [vf]at this;exact this
theorem wx{K:Value->World->Prop}(h:jw w B A n c l)(ho:okW l)(hn:n<=100000)(hB:B<=w.heap.size){i:Nat}(hi:i<=1000000)
 (hK:∀A' n' c' l' w',jw w' B A' n' c' l'->okW l'->(n'<=n\/n'<=i/64+1)->(∀j,bit l' j=(bit l j||decide (j=i)))->Kept (fun k=>bp A=some k) w w'->(∀k,bp A'=some k->bp A=some k\/w.heap.size<=k)->K (.slice A' n' c') w'):
 bm prog bC.id #[.slice A n c,.int .i64 (i:Int)] w K:=by
 refine bC.of ?_;refine bC.cf (I:=fun s w'=>∃A' n' c' l',s=(A',n',c')/\jw w' B A' n' c' l'/\okW l'/\(n'<=n\/n'<=i/64+1)/\(∀j,bit l' j=bit l j)/\Kept (fun k=>bp A=some k) w w'/\(∀k,bp A'=some k->bp A=some k\/w.heap.size<=k))
  (μ:=fun s _=>i/64+1-s.2.1) (s:=(A,n,c)) ⟨A,n,c,l,rfl,h,ho,.inl (Nat.le_refl _),fun _=>rfl,Kept.refl _ _,fun k hk=>.inl hk⟩ ?_
 rintro s w' ⟨A',n',c',l',rfl,row,FM,U1,oG,kw,hb⟩;unfold bC.B1;rw [Dt,iI (by omega) (by omega)];refine⟨by omega,?_⟩;refine Split.dec (fun hle=>?_) (fun xq=>?_)
 ·simp only at hle
  have acO:n'<=i/64:=by omega
  obtain⟨A2,c2,w2,hr,r7,k2,oy⟩:=q9 row (by omega) (Nat.le_trans hB kw.size) (t:=eJ) 0;intro w6;refine⟨A2,n'+1,c2,w2,hr,?_⟩;refine⟨(A2,n'+1,c2),rfl,⟨A2,n'+1,c2,l'++ [0],rfl,r7,Ag FM (by omega),by omega,fun j=>by rw [xM,oG],?_,fun k hk=>?_⟩,by simp only;omega⟩
  ·exact kw.trans k2 (fun k hk e=>by
    rcases hb k e with h|h
    ·exact h
    ·omega)
  ·rcases oy k hk with h|h
   ·exact hb k h
   ·exact .inr (Nat.le_trans kw.size h)
 ·simp only at xq
  have fg:i/64<n':=by omega
  rw [aY,bC.dB];unfold bC.cX;intro pg;have FC:Kept Nil w' pg:=(Kept.refl _ _).drew;have Qc:pg=w'.drew:=rfl;clear_value pg;have r8:jw pg B A' n' c' l':=Row.aK row FC (fun _ _ h=>h);have hlen:=row.len;rw [Dt,Jz,iI (by omega) (by omega)];obtain⟨b,rfl⟩:=Row.some r8 (by omega);obtain⟨x,hx⟩:∃x,l'[i/64]? =some x:=⟨_,List.getElem?_eq_getElem (by omega)⟩;refine⟨by omega,r8.us.load (by omega) (by rw [Int.toNat_natCast];exact hx) ⟨by omega,by omega,⟨⟨by omega,by simp only;omega⟩,?_⟩⟩⟩;have sH:=FM x (List.mem_of_getElem? hx);have hp:2 ^ (i%64)<18446744073709551616:=Nat.pow_lt_pow_right (by omega) (n:=64) (Nat.mod_lt _ (by omega));simp only [Is,Int.toNat_natCast,Nat.mul_one,bu,Nat.zero_add];rw [Te (Nat.mod_lt _ (by omega)),XR sH hp];refine⟨Row.wr r8 (by rw [nr,hlen];exact fg),?_⟩;have oC:Kept (fun k=>bp A=some k) w (pg.setCell ⟨b,i/64,none⟩ (.int .u64 ((x|||2 ^ (i%64):Nat):Int))):=
   Kept.setCell (kw.trans FC (fun _ _ h=>h.elim)) (p:=⟨b,i/64,none⟩) (fun cK=>by
    rcases hb b rfl with h|h
    ·exact h
    ·exact absurd cK (by simp only;omega)) _
  refine hK _ _ _ _ _ (wq r8 fg _) (Af FM (Nat.or_lt_two_pow (n:=64) sH hp) _) U1 (fun j=>?_) oC hb;rw [AU (by omega),oG];have ZD:bit l' i=x.testBit (i%64):=by unfold bit;rw [List.getD_eq_getElem?_getD,hx];rfl
  by_cases e:j/64=i/64
  ·rw [if_pos e,Nat.testBit_or,Nat.testBit_two_pow]
   have hbj:bit l' j=x.testBit (j%64):=by unfold bit;rw [e,List.getD_eq_getElem?_getD,hx];rfl
   rw [<-hbj,oG]
   congr 1
   exact decide_eq_decide.2 ⟨fun h=>by omega,fun h=>by rw [h]⟩
  ·rw [if_neg e,decide_eq_false (fun h=>e (by rw [h]))]
   simp
end
section
variable{w w':World}{B n c:Nat}{A:Option Addr}{l:List Nat}
theorem uz{K:Value->World->Prop}(h:jw w B A n c l)(ho:okW l)(hn:n<=100000)(hB:B<=w.heap.size){A2:Option Addr}{n2 c2:Nat}{v:List Nat}(hv:US w A2 n2 v)(T6:okW v)(U0:n2<=100000)
 (Wg:∀a,A2=some a->∀k,bp A=some k->a.block≠k)
 (hK:∀A' n' c' l' w',jw w' B A' n' c' l'->okW l'->(n'<=n\/n'<=n2)->(∀j,bit l' j=(bit l j||bit v j))->Kept (fun k=>bp A=some k) w w'->(∀k,bp A'=some k->bp A=some k\/w.heap.size<=k)->K (.slice A' n' c') w'):
 bm prog bP.id #[.slice A n c,.slice A2 n2 c2] w K:=by
 have YC:=hv.len;refine bP.of ?_;refine bP.cf (I:=fun s w'=>∃(i:Nat) (A':Option Addr) (n' c':Nat) (l':List Nat),s=(A',n',c',(i:Int))/\i<=n2/\jw w' B A' n' c' l'/\okW l'/\i<=n'/\n<=n'/\(n'<=n\/n'<=i)/\(∀j,bit l' j=(bit l j||(decide (j/64<i)&&bit v j)))/\Kept (fun k=>bp A=some k) w w'/\(∀k,bp A'=some k->bp A=some k\/w.heap.size<=k))
  (μ:=fun s _=>((n2:Int)-s.2.2.2).toNat) (s:=(A,n,c,0)) ⟨0,A,n,c,l,rfl,Nat.zero_le _,h,ho,Nat.zero_le _,Nat.le_refl _,.inl (Nat.le_refl _),by simp,Kept.refl _ _,fun k hk=>.inl hk⟩ ?_
 rintro s w' ⟨i,A',n',c',l',rfl,hi,row,FM,gM,O9,RY,oG,kw,hb⟩;have EB:=row.len;refine Split.dec (fun lH=>?_) (fun iK=>?_)
 ·simp only at lH
  have fg:i<n2:=by omega
  obtain⟨x,hx⟩:∃x,v[i]? =some x:=⟨_,List.getElem?_eq_getElem (by omega)⟩;have sH:=T6 x (List.mem_of_getElem? hx);have hvw:US w' A2 n2 v:=hv.aK kw (fun a ha e=>Wg a ha _ e rfl);refine hvw.load (i:=(i:Int)) (by omega) hx ?_;have step:∀(A2:Option Addr) (n3 c3:Nat) (l3:List Nat) (w3:World),jw w3 B A2 n3 c3 l3->okW l3->i<n3->n<=n3->(n3<=n\/n3<=i+1)->(∀j,bit l3 j=(bit l j||(decide (j/64<i)&&bit v j)))->Kept (fun k=>bp A=some k) w w3->(∀k,bp A2=some k->bp A=some k\/w.heap.size<=k)->
   (0<=(i:Int)/\(i:Int)<(n3:Int))/\Is A2 fun a=>∃t:Int,w3.cell? (a.add ((i:Int).toNat*1))=some (.int .u64 t)/\(0<=(i:Int)/\(i:Int)<(n3:Int))/\Is A2 fun a'=>Wr w3 (a'.add ((i:Int).toNat*1))/\
     ∃(l4:List Nat),
     jw (w3.setCell (a'.add ((i:Int).toNat*1)) (.int .u64 (u64.wrap ((BitVec.ofInt 64 t|||BitVec.ofInt 64 (x:Int)).toNat)))) B A2 n3 c3 l4/\okW l4/\(∀j,bit l4 j=(bit l j||(decide (j/64<i+1)&&bit v j)))/\Kept (fun k=>bp A=some k) w (w3.setCell (a'.add ((i:Int).toNat*1)) (.int .u64 (u64.wrap ((BitVec.ofInt 64 t|||BitVec.ofInt 64 (x:Int)).toNat)))):=by
   intro A2 n3 c3 l3 w3 rp YY Vk hn3 acE I1 k3 o5;have Zg:=rp.len;obtain⟨b,rfl⟩:=Row.some rp (by omega);obtain⟨y,hy⟩:∃y,l3[i]? =some y:=⟨_,List.getElem?_eq_getElem (by omega)⟩;have Yu:=YY y (List.mem_of_getElem? hy);refine rp.us.load (i:=(i:Int)) (by omega) hy ⟨⟨by omega,by omega⟩,?_⟩;simp only [Is,Int.toNat_natCast,Nat.mul_one,bu,Nat.zero_add];rw [XR Yu sH];refine⟨Row.wr rp (by rw [nr];omega),l3.set i (y|||x),wq rp Vk _,Af YY (Nat.or_lt_two_pow (n:=64) Yu sH) _,fun j=>?_,?_⟩
   ·rw [AU (by omega),I1]
    have EM:j/64=i->bit v j=x.testBit (j%64):=fun e=>by unfold bit;rw [e,List.getD_eq_getElem?_getD,hx];rfl
    have FU:j/64=i->bit l3 j=y.testBit (j%64):=fun e=>by unfold bit;rw [e,List.getD_eq_getElem?_getD,hy];rfl
    by_cases e:j/64=i
    ·rw [if_pos e,Nat.testBit_or,<-FU e,<-EM e,I1]
     rw [decide_eq_false (show ¬j/64<i by omega),decide_eq_true (show j/64<i+1 by omega)];simp
    ·rw [if_neg e]
     congr 2
     exact decide_eq_decide.2 (by omega)
   ·refine Kept.setCell k3 (p:=⟨b,i,none⟩) (fun cK=>?_) _
    rcases o5 b rfl with h|h
    ·exact h
    ·exact absurd cK (by simp only;omega)
  by_cases he:i=n'
  ·refine Split.yes (by simp [he]) ?_
   obtain⟨Xu,ML,w2,hr,r7,k2,oy⟩:=q9 row (by omega) (Nat.le_trans hB kw.size) (t:=eJ) 0;intro w10;refine⟨Xu,n'+1,ML,w2,hr,?_⟩;have st:=step Xu (n'+1) ML (l'++ [0]) w2 r7 (Ag FM (by omega)) (by omega) (by omega) (by omega) (fun j=>by rw [xM,oG])
    (kw.trans k2 (fun k hk e=>by
      rcases hb k e with h|h
      ·exact h
      ·omega)) (fun k hk=>by
      rcases oy k hk with h|h
      ·exact hb k h
      ·exact .inr (Nat.le_trans kw.size h))
   clear step;obtain⟨s1,s2⟩:=st;refine⟨s1,?_⟩;cases Xu with
   |none=>exact s2.elim
   |some a=>
    obtain⟨t,s3,s4,s5,l4,s6,s7,s8,s9⟩:=s2;refine⟨t,s3,s4,s5,?_⟩;intro lr;simp only;rw [eK (n:=(i:Int)) (by omega) (by omega)];exact⟨(some a,n'+1,ML,(i:Int)+1),rfl,⟨i+1,some a,n'+1,ML,l4,rfl,fg,s6,s7,by omega,by omega,by omega,s8,s9,fun k hk=>by
     rcases oy k hk with h|h
     ·exact hb k h
     ·exact .inr (Nat.le_trans kw.size h)⟩,by simp only;omega⟩
  ·refine Split.no (beq_eq_false_iff_ne.2 (by simp only;omega)) ?_
   have st:=step A' n' c' l' w' row FM (by omega) O9 (by omega) oG kw hb;clear step;obtain⟨s1,s2⟩:=st;refine⟨s1,?_⟩;cases A' with
   |none=>exact s2.elim
   |some a=>
    obtain⟨t,s3,s4,s5,l4,s6,s7,s8,s9⟩:=s2;refine⟨t,s3,s4,s5,?_⟩;intro lr;simp only;rw [eK (n:=(i:Int)) (by omega) (by omega)];exact⟨(some a,n',c',(i:Int)+1),rfl,⟨i+1,some a,n',c',l4,rfl,fg,s6,s7,by omega,O9,by omega,s8,s9,hb⟩,by simp only;omega⟩
 ·simp only at iK
  have:i=n2:=by omega
  subst this;rw [aY,bP.dB];refine hK A' n' c' l' w' row FM (by omega) (fun j=>?_) kw hb;rw [oG]
  congr 1
  by_cases e:j/64<i
  ·rw [decide_eq_true e];simp
  ·rw [decide_eq_false e]
   unfold bit;rw [List.getD_eq_getElem?_getD,List.getElem?_eq_none (by omega)];simp
end
theorem xQ:∀k m:Nat,(2 ^ k*(2*m+1))&&& (2 ^ k*(2*m+1)-1)=2 ^ (k+1)*m
 |0,m=>by
  apply Nat.eq_of_testBit_eq;intro i;rw [Nat.testBit_and];cases i with
  |zero=>simp [Nat.testBit_zero]
  |succ i=>
   simp only [Nat.testBit_succ];rw [show(2 ^ 0*(2*m+1))/2=m by omega,show(2 ^ 0*(2*m+1)-1)/2=m by omega,show 2 ^ (0+1)*m/2=m by omega];simp
 |k+1,m=>by
  have ih:=xQ k m;have hp:0<2 ^ k*(2*m+1):=Nat.mul_pos (Nat.pow_pos (by omega)) (by omega);rw [show 2 ^ (k+1)*(2*m+1)=2*(2 ^ k*(2*m+1))by rw [Nat.pow_succ];ac_rfl,show 2 ^ (k+1+1)*m=2*(2 ^ (k+1)*m)by rw [Nat.pow_succ 2 (k+1)];ac_rfl];generalize 2 ^ k*(2*m+1)=x at ih hp⊢;rw [<-ih];apply Nat.eq_of_testBit_eq;intro i;rw [Nat.testBit_and];cases i with
  |zero=>simp [Nat.testBit_zero]
  |succ i=>
   simp only [Nat.testBit_succ];rw [show 2*x/2=x by omega,show(2*x-1)/2=x-1 by omega,show 2*(x&&& (x-1))/2=x&&& (x-1)by omega,Nat.testBit_and]
theorem Ai{x:Nat}(h0:x≠0)(hx:x<18446744073709551616):Lib.ctz 64 x<64/\x.testBit (Lib.ctz 64 x)=true/\∀t,(x&&& (x-1)).testBit t=(x.testBit t&&decide (t≠Lib.ctz 64 x)):=by
 obtain⟨m,h1,h2⟩:=Lib.ctzFrom_spec 64 x (by omega) hx;have e:Lib.ctz 64 x=Lib.ctzFrom 64 x:=by unfold Lib.ctz;rw [if_neg h0]
 rw [e];generalize Lib.ctzFrom 64 x=k at h1 h2⊢;have hand:x&&& (x-1)=2 ^ (k+1)*m:=by rw [h1];exact xQ k m
 have hb:∀t,x.testBit t=(decide (t>=k)&&(2*m+1).testBit (t-k)):=fun t=>by rw [h1,Nat.testBit_two_pow_mul]
 refine⟨h2,by rw [hb];simp,fun t=>?_⟩;rw [hand,Nat.testBit_two_pow_mul,hb];by_cases ht:t=k
 ·subst ht
  simp;intro h;omega
 ·rw [decide_eq_true ht,Bool.and_true]
  by_cases hk:t>=k
  ·obtain⟨d,hd⟩:∃d,t-k=d+1:=⟨t-k-1,by omega⟩
   rw [decide_eq_true hk,decide_eq_true (show t>=k+1 by omega),hd,show t-(k+1)=d by omega,Nat.testBit_succ,show(2*m+1)/2=m by omega]
  ·rw [decide_eq_false hk,decide_eq_false (show ¬t>=k+1 by omega)]
   simp
theorem vM{x:Nat}(h0:x≠0):x&&& (x-1)<x:=Nat.lt_of_le_of_lt Nat.and_le_right (by omega)
def sy(x:Nat):List Nat:=if h:x=0 then []else Lib.ctz 64 x::sy (x&&& (x-1))
termination_by x
decreasing_by exact vM h
theorem uI:sy 0= []:=by rw [sy];simp
theorem uK{x:Nat}(h0:x≠0):sy x=Lib.ctz 64 x::sy (x&&& (x-1)):=by rw [sy,dif_neg h0]
theorem uJ:∀(x:Nat),x<18446744073709551616->(∀t,t∈sy x↔x.testBit t=true)/\(sy x).Nodup/\∀t∈sy x,t<64:=by
 intro x
 induction x using Nat.strongRecOn with
 |_ x ih=>
  intro hx;by_cases h0:x=0
  ·subst h0;rw [uI];simp
  ·obtain⟨h1,h2,h3⟩:=Ai h0 hx
   obtain⟨i1,i2,i3⟩:=ih _ (vM h0) (Nat.lt_trans (vM h0) hx);rw [uK h0];refine⟨fun t=>?_,?_,fun t ht=>?_⟩
   ·rw [List.mem_cons,i1,h3]
    by_cases e:t=Lib.ctz 64 x
    ·rw [e,h2];simp
    ·simp [e]
   ·rw [List.nodup_cons,i1,h3]
    exact⟨by simp,i2⟩
   ·rcases List.mem_cons.1 ht with rfl|ht
    ·exact h1
    ·exact i3 t ht
def nH:Nat->List Nat->List Nat
 |_,[]=> []
 |k,x::ws=>(sy x).map (64*k+ ·)++nH (k+1) ws
theorem Fk(x:Nat)(ws:List Nat)(j:Nat):bit (x::ws) j=if j<64 then x.testBit j else bit ws (j-64):=by
 unfold bit;split
 ·rename_i h
  rw [show j/64=0 by omega,show j%64=j by omega];rfl
 ·rename_i h
  rw [show j/64=(j-64)/64+1 by omega,show j%64=(j-64)%64 by omega];rfl
theorem nJ:∀(ws:List Nat) (k j:Nat),okW ws->(j∈nH k ws↔64*k<=j/\bit ws (j-64*k)=true)
 | [],k,j,_=>by simp [nH,bit]
 |x::ws,k,j,ho=>by
  obtain⟨h1,_,h3⟩:=uJ x (ho x (by simp));have ih:=nJ ws (k+1) j (fun y hy=>ho y (by simp [hy]));rw [nH,List.mem_append,ih,Fk,List.mem_map];constructor
  ·rintro(⟨t,ht,rfl⟩|⟨h,hb⟩)
   ·have:=h3 t ht
    refine⟨by omega,?_⟩;rw [if_pos (by omega),show 64*k+t-64*k=t by omega];exact(h1 t).1 ht
   ·refine⟨by omega,?_⟩
    rw [if_neg (by omega),show j-64*k-64=j-64*(k+1)by omega];exact hb
  ·rintro⟨h,hb⟩
   split at hb
   ·exact .inl ⟨j-64*k,(h1 _).2 hb,by omega⟩
   ·refine .inr ⟨by omega,?_⟩
    rw [show j-64*(k+1)=j-64*k-64 by omega];exact hb
theorem sk:∀ {l m:List Nat},l.Nodup->(∀x∈l,x∈m)->l.length<=m.length
 | [],_,_,_=>Nat.zero_le _
 |x::l,m,hn,h=>by
  rw [List.nodup_cons]at hn;have hx:=h x (by simp);have:=sk (l:=l) (m:=m.erase x) hn.2 (fun y hy=>by
   have fJ:y≠x:=fun e=>hn.1 (e▸hy);exact(List.mem_erase_of_ne fJ).2 (h y (by simp [hy])))
  rw [List.length_erase_of_mem hx]at this;have ko:0<m.length:=List.length_pos_of_mem hx;simp only [List.length_cons];omega
def p6(w:World):Prop:=TabAt (Tryz.jh.g 1) Lib.deBruijn64tab w
theorem p6.aK{S:Nat->Prop}{w w':World}(h:p6 w)(hk:Kept S w w')(hn:¬S (Tryz.jh.g 1)):p6 w':=fun j hj=>hk.cell (h j hj) hn
theorem p6.same{w w':World}(h:p6 w)(hk:Kept Nil w w'):p6 w':=h.aK hk fun h=>h
theorem p6.lt{w:World}(h:p6 w):Tryz.jh.g 1<w.heap.size:=World.block_lt_of_cell? w _ (h 0 (by decide))
section
variable{w:World}{K:Value->World->Prop}
theorem M1{x:Nat}(hx:x<18446744073709551616)(hT:p6 w)(hK:K (.int .i64 (Lib.ctz 64 x:Nat)) w):bm prog bits_TrailingZeros64.id #[.int .u64 (x:Int)] w K:=by
 refine Calls.mono (Any7.bits_TrailingZeros64 Tryz.tzL x hx w (fun _=>hT)) ?_;rintro e w' ⟨rfl,rfl⟩;exact⟨_,rfl,hK⟩
abbrev encI(i:Nat):List Value:= [.int .i64 (i:Int)]
theorem Fo(p:Addr){A:Option Addr}{n c:Nat}{l:List Nat}(hn:n<=100000)(ho:okW l):
 lY prog aE.id #[] #[.pointer (some p)] ((nH 0 l).map encI) (fun w=>US w A n l/\w.cell? p=some (.slice A n c)/\p6 w):=by
 intro y I D w0 hI hD pN h0 oY;refine aE.of ?_;obtain⟨vz,Mu,_⟩:=pN 0 w0 h0;have hlen:=vz.len;refine⟨A,n,c,Mu,?_⟩;refine aE.cf (I:=fun s w'=>∃(i:Nat) (dn:List Nat),s=(i:Int)/\i<=n/\dn++nH i (l.drop i)=nH 0 l/\I dn.length w') (μ:=fun s _=>((n:Int)-s).toNat) (s:=0) ⟨0,[],rfl,Nat.zero_le _,rfl,h0⟩ ?_;rintro s w' ⟨i,dn,rfl,hi,EH,hw⟩;refine Split.dec (fun lH=>?_) (fun iK=>?_)
 ·have fg:i<n:=by omega
  obtain⟨x,hx⟩:∃x,l[i]? =some x:=⟨_,List.getElem?_eq_getElem (by omega)⟩;have sH:=ho x (List.mem_of_getElem? hx);have hl:=(pN _ w' hw).1;have P9:l.drop i=x::l.drop (i+1):=by
   obtain⟨h1,h2⟩:=lgeS hx;rw [List.drop_eq_getElem_cons h1,h2]
  rw [P9,nH]at EH;refine hl.load (i:=(i:Int)) (by omega) hx ?_;refine aE.iN (I:=fun s w'=>∃(v:Nat) (dn:List Nat),s=(v:Int)/\v<18446744073709551616/\dn++((sy v).map (64*i+ ·)++nH (i+1) (l.drop (i+1)))=nH 0 l/\I dn.length w') (μ:=fun s _=>s.toNat) (s:=(x:Int)) ⟨x,dn,rfl,sH,EH,hw⟩ ?_;clear hw EH;rintro s w1 ⟨v,St,rfl,hv,EG,FF⟩;by_cases h0:v=0
  ·refine Split.no (by subst h0;rfl) ?_
   rw [aY,aE.lL];unfold aE.jY;rw [eK (n:=(i:Int)) (by omega) (by omega)];rw [h0,uI,List.map_nil,List.nil_append]at EG;exact⟨(i:Int)+1,rfl,⟨i+1,St,rfl,fg,EG,FF⟩,by simp only;omega⟩
  ·refine Split.yes (bne_iff_ne.2 (by omega)) ?_
   have hpr:=pN _ w1 FF;obtain⟨hk,IM,hkr⟩:=Ai h0 hv;rw [uK h0,List.map_cons,List.cons_append]at EG;refine M1 hv hpr.2.2 ⟨_,rfl,?_⟩;have fu:((nH 0 l).map encI)[St.length]? =some (encI (64*i+Lib.ctz 64 v)):=by
    rw [List.getElem?_map,<-EG,List.getElem?_append_right (Nat.le_refl _),Nat.sub_self];rfl
   have GY:i64.wrap (i64.wrap ((64:Int)*(i:Int))+((Lib.ctz 64 v:Nat):Int))=((64*i+Lib.ctz 64 v:Nat):Int):=by
    rw [iI (x:=(64:Int)*(i:Int)) (by omega) (by omega),iI (by omega) (by omega)];omega
   rw [GY];refine(oY St.length _ w1 fu FF).mono ?_;rintro b lf ⟨ht,hf⟩;have nO:u64.wrap ((BitVec.ofInt 64 (v:Int)&&& BitVec.ofInt 64 (u64.wrap ((v:Int)-(1:Int)))).toNat:Int)=((v&&& (v-1):Nat):Int):=by
    have e1:(v:Int)-1=((v-1:Nat):Int):=by omega
    rw [e1,jD (x:=v-1) (by omega),W7 hv (by omega)]
   cases b with
   |true=>
    refine Split.no rfl ?_;rw [nO];have cK:=vM h0;refine⟨((v&&& (v-1):Nat):Int),rfl,⟨v&&& (v-1),St++ [64*i+Lib.ctz 64 v],rfl,by omega,by rw [List.append_assoc];exact EG,?_⟩,by simp only;omega⟩;rw [List.length_append];exact ht rfl
   |false=>
    refine Split.yes rfl ?_;exact Or.inr (hf rfl)
 ·rw [aY,aE.dB]
  have e:i=n:=by omega
  subst e;refine Or.inl ?_;rw [List.drop_eq_nil_of_le (by omega),nH,List.append_nil]at EH;rw [List.length_map,<-EH];exact hw
end
def pos(h:HT):List HT->Nat->Option Nat
 | [],_=>none
 |x::l,i=>if h=x then some i else pos h l (i+1)
theorem sf{h:HT}:∀ {l:List HT} {i:Nat},pos h l i=none↔h∉l
 | [],i=>by simp [pos]
 |x::l,i=>by
  unfold pos;split
  ·rename_i e;simp [e]
  ·rename_i e
   rw [sf (l:=l)];simp [e]
theorem wD{h:HT}:∀ {l:List HT} {i j:Nat},pos h l i=some j->i<=j/\l[j-i]? =some h
 | [],i,j,e=>by simp [pos]at e
 |x::l,i,j,e=>by
  unfold pos at e;split at e
  ·rename_i hx
   cases e;subst hx;exact⟨Nat.le_refl _,by rw [Nat.sub_self];rfl⟩
  ·obtain⟨h1,h2⟩:=wD e
   refine⟨by omega,?_⟩;rw [show j-i=(j-(i+1))+1 by omega];exact h2
theorem jz{h:HT}:∀ {l:List HT} (i j:Nat),l.Nodup->l[j]? =some h->pos h l i=some (i+j)
 | [],i,j,_,e=>by simp at e
 |x::l,i,0,_,e=>by
  simp only [List.getElem?_cons_zero,Option.some.injEq]at e;unfold pos;rw [if_pos e.symm];simp
 |x::l,i,j+1,hn,e=>by
  simp only [List.getElem?_cons_succ]at e;rw [List.nodup_cons]at hn;unfold pos;rw [if_neg (fun hx=>hn.1 (by rw [<-hx];exact List.mem_of_getElem? e)),jz (i+1) j hn.2 e]
  congr 1
  omega
section
variable{w:World}
theorem Gf:prog.underlying ax=some (.array 32 gU):=by kernel_rfl
theorem Jv:prog.underlying gU=some (.int .u8):=by kernel_rfl
theorem Ip:∃i,prog.info? gU=some i/\i.size=1:=by
 have h:(match prog.info? gU with|some i=>Nat.beq i.size 1|none=>false)=true:=by kernel_rfl
 split at h
 ·rename_i i hi;exact⟨i,hi,Nat.eq_of_beq_eq_true h⟩
 ·cases h
theorem Jw:prog.underlying b0=some (.map ax fE):=by kernel_rfl
theorem r4(a b:HT)(w:World):(Op.equal ax (.agg a.1) (.agg b.1)).run prog w=.ok (decide (a=b)) w:=by
 obtain⟨i,hi,h1⟩:=Ip;have:=ny (P:=prog) 9998 w Gf Jv hi h1 a.2.ints b.2.ints;rw [gB]at this;simp only [Op.equal,Op.maxDepth];exact this
theorem hU(h:HT)(em:Bool)(w:World):(Instr.checkKey em 10000 ax (.agg h.1)).run prog w=.ok () w:=by
 obtain⟨i,hi,h1⟩:=Ip;have hc:prog.cellsOf gU=1:=by simp [Program.cellsOf,hi,h1]
 rw [show(10000:Nat)=9999+1 from rfl,Instr.checkKey];simp only [Sem.run_bind,run_underlying Gf,Result.andThen_ok];simp only [Std.Legacy.Range.forIn_eq_forIn_range',Std.Legacy.Range.size,Nat.sub_zero,Nat.add_one_sub_one,Nat.div_one];have each:∀j∈List.range' 0 32,∃v,h.1[j]? =some v/\∃x:Int,v=.int .u8 x:=fun j hj=>by
  have uT:j<h.1.size:=by rw [h.2.1];simpa using hj
  obtain⟨x,hx,_⟩:=h.2.2 h.1[j] (by simp);exact⟨_,Array.getElem?_eq_getElem uT,x,hx⟩
 generalize List.range' 0 32=is at each
 induction is with
 |nil=>simp
 |cons j is ih=>
  obtain⟨v,hv,x,rfl⟩:=each j (by simp);have Hv:(isAgg gU).run prog w=.ok false w:=by simp [isAgg,run_underlying Jv]
  have p1:(part gU h.1 (j*1)).run prog w=.ok (.int .u8 x) w:=by simp [part,Hv,hv]
  have p2:(Instr.checkKey em 9999 gU (.int .u8 x)).run prog w=.ok () w:=by
   rw [show(9999:Nat)=9998+1 from rfl,Instr.checkKey];simp [run_underlying Jv]
  simp only [List.forIn_cons,Sem.run_bind,Go.bE.run_sizeOf hi w,hc,Result.andThen_ok,p1,p2,Sem.run_pure];exact ih (fun y hy=>each y (by simp [hy]))
def xW(es:List MapEntry)(l:List HT)(i:Nat):Prop:=match es,l with
 | [],[]=>True
 |e::es,h::l=>(e.key=.agg h.1/\e.val=.int .i64 (i:Int))/\xW es l (i+1)
 |_,_=>False
theorem xW.snoc:∀ {es:List MapEntry} {l:List HT} {i:Nat} {e:MapEntry} {h:HT},xW es l i->e.key=.agg h.1->e.val=.int .i64 ((i+l.length:Nat):Int)->xW (es++ [e]) (l++ [h]) i
 | [],[],i,e,h,_,h1,h2=>⟨⟨h1,by simpa using h2⟩,trivial⟩
 |x::es,y::l,i,e,h,he,h1,h2=>⟨he.1,xW.snoc he.2 h1 (by rw [h2];congr 2;simp;omega)⟩
 | [],_::_,_,_,_,he,_,_=>he.elim
 |_::_,[],_,_,_,he,_,_=>he.elim
theorem pv(h:HT)(w:World):∀(es:List MapEntry) (l:List HT) (i:Nat),xW es l i->
 (Instr.findAsking ax (.agg h.1) es i).run prog w=.ok ((pos h l i).map fun j=>(j,.int .i64 (j:Int))) w
 | [],[],i,_=>by simp [Instr.findAsking,pos]
 |e::es,x::l,i,he=>by
  have hq:=r4 h x w;have ih:=pv h w es l (i+1) he.2;simp only [Instr.findAsking,he.1.1,Sem.run_bind,hq,Result.andThen_ok];by_cases hx:h=x
  ·simp [hx,pos,he.1.2]
  ·simp [hx,pos,ih]
 | [],_::_,_,he=>he.elim
 |_::_,[],_,he=>he.elim
theorem mn(h:HT)(w:World){es:List MapEntry}{l:List HT}(he:xW es l 0):
 (Instr.findKey ax (.agg h.1) es).run prog w=.ok ((pos h l 0).map fun j=>(j,.int .i64 (j:Int))) w:=by
 have h1:=pv h w es l 0 he;simp only [Instr.findKey,Sem.run_bind,run_underlying Gf,Result.andThen_ok];cases es with
 |nil=>
  cases l with
  |nil=>simp [Instr.findNow,pos]
  |cons x l=>exact he.elim
 |cons e es=>
  have:Instr.findNow (.array 32 gU) (.agg h.1) (e::es) 0=none:=by
   simp only [Instr.findNow,Instr.sameNow]
  rw [this];exact h1
theorem nQ{r:Nat}{es:Array MapEntry}{clock:Nat}(hb:w.heap[r]? =some (.map es clock)):(getObj r).run prog w=.ok (.map es clock) w:=by
 simp [getObj,Sem.run,hb]
theorem yu{r:Nat}{es:Array MapEntry}{clock:Nat}(o:Obj)(hb:w.heap[r]? =some (.map es clock)):(setObj r o).run prog w=.ok () {w with heap:=w.heap.setIfInBounds r o}:=by
 simp [setObj,Sem.run,hb]
structure IsMap(w:World)(m:Nat)(l:List HT):Prop where
 ex:∃es clock,w.heap[m]? =some (.map es clock)/\xW es.toList l 0
theorem IsMap.aK{S:Nat->Prop}{w w':World}{m:Nat}{l:List HT}(h:IsMap w m l)(hk:Kept S w w')(hn:¬S m):IsMap w' m l:=by
 obtain⟨es,clock,h1,h2⟩:=h.ex;exact⟨es,clock,hk.heap h1 hn,h2⟩
theorem IsMap.lt{w:World}{m:Nat}{l:List HT}(h:IsMap w m l):m<w.heap.size:=by
 obtain⟨es,clock,h1,_⟩:=h.ex;exact bf h1
theorem IsMap.look{m:Nat}{l:List HT}(hm:IsMap w m l)(h:HT):
 (Instr.lookup b0 (.map (some m)) (.agg h.1) true).run prog w=.ok (.tuple #[.int .i64 (((pos h l 0).getD 0:Nat):Int),.bool (pos h l 0).isSome]) w:=by
 obtain⟨es,clock,h1,h2⟩:=hm.ex;have h3:=mn h w h2;simp only [Instr.lookup,Sem.run_bind,run_underlying Jw,nQ h1,Result.andThen_ok,Sem.run_pure,hU,h3];cases hp:pos h l 0<;>simp
theorem IsMap.uL{m:Nat}{l:List HT}(hm:IsMap w m l)(h:HT):
 (Instr.lookup b0 (.map (some m)) (.agg h.1) false).run prog w=.ok (.int .i64 (((pos h l 0).getD 0:Nat):Int)) w:=by
 obtain⟨es,clock,h1,h2⟩:=hm.ex;have h3:=mn h w h2;simp only [Instr.lookup,Sem.run_bind,run_underlying Jw,nQ h1,Result.andThen_ok,Sem.run_pure,hU,h3];cases hp:pos h l 0<;>simp
theorem IsMap.put{m:Nat}{l:List HT}(hm:IsMap w m l){h:HT}(hn:h∉l):
 ∃w',(Instr.mapUpdate b0 (.map (some m)) (.agg h.1) (.int .i64 ((l.length:Nat):Int))).run prog w=.ok () w'/\IsMap w' m (l++ [h])/\Kept (· =m) w w':=by
 obtain⟨es,clock,h1,h2⟩:=hm.ex;have h3:=mn h w h2;rw [sf.2 hn]at h3;refine⟨{w with heap:=w.heap.setIfInBounds m (.map (es.push {key:=.agg h.1,val:=.int .i64 ((l.length:Nat):Int),born:=clock}) (clock+1))},?_,⟨es.push {key:=.agg h.1,val:=.int .i64 ((l.length:Nat):Int),born:=clock},clock+1,?_,?_⟩,?_⟩
 ·simp only [Instr.mapUpdate,Sem.run_bind,run_underlying Jw,nQ h1,Result.andThen_ok,hU,h3,Option.map_none,yu _ h1]
 ·simp [bf h1]
 ·have:=h2.snoc (e:= {key:=.agg h.1,val:=.int .i64 ((l.length:Nat):Int),born:=clock}) (h:=h) rfl (by simp)
  simpa using this
 ·exact⟨rfl,rfl,rfl,by simp,fun k _ hk=>by simp [Ne.symm hk]⟩
end
end Go.Proofs.YtfleamccglihoaaGreatDoor
namespace Go.Proofs.YtfleamccglihoaaGreatDoor
open Go.Proofs.Tryz
open Go Go.bE
structure DN where
 id:HT
 ps:List HT
abbrev DG:=List DN
def ids(D:DG):List HT:=D.map (·.id)
def nf(D:DG)(p h:HT):Prop:=∃nd∈D,nd.id=h/\p∈nd.ps
inductive fG (D:DG):HT->HT->Prop
 |one {p h:HT}:nf D p h->fG D p h
 |more {a p h:HT}:fG D a p->nf D p h->fG D a h
theorem fG.trans{D:DG}{a b c:HT}(h:fG D a b)(h':fG D b c):fG D a c:=by
 induction h' with
 |one hp=>exact .more h hp
 |more _ hp ih=>exact .more ih hp
structure jZ(D:DG):Prop where
 pos:0<D.length
 nodup:(ids D).Nodup
 ss:∀nd∈D,SS nd.ps
 up:∀(i:Nat) nd p,D[i]? =some nd->p∈nd.ps->∃(j:Nat) (m:DN),j<i/\D[j]? =some m/\m.id=p
theorem jG(D:DG):(ids D).length=D.length:=by simp [ids]
theorem rL{D:DG}{i:Nat}{nd:DN}(h:D[i]? =some nd):(ids D)[i]? =some nd.id:=by simp [ids,h]
theorem Ks{D:DG}{i:Nat}{h:HT}(e:(ids D)[i]? =some h):∃nd,D[i]? =some nd/\nd.id=h:=by
 unfold ids at e;rw [List.getElem?_map]at e;cases hd:D[i]? with
 |none=>rw [hd]at e;cases e
 |some nd=>rw [hd]at e;exact⟨nd,rfl,by simpa using e⟩
theorem dz{D:DG}{h:HT}:h∈ids D↔∃nd∈D,nd.id=h:=by simp [ids]
section
variable{D:DG}
theorem jZ.inj(W:jZ D){i j:Nat}{a b:DN}(ha:D[i]? =some a)(hb:D[j]? =some b)(e:a.id=b.id):i=j:=by
 have h1:=jz 0 i W.nodup (rL ha);have h2:=jz 0 j W.nodup (rL hb);rw [e,h2]at h1;simpa using h1.symm
theorem jZ.pos_eq(W:jZ D){i:Nat}{nd:DN}(h:D[i]? =some nd):Proofs.YtfleamccglihoaaGreatDoor.pos nd.id (ids D) 0=some i:=by
 have:=jz 0 i W.nodup (rL h)
 rwa [Nat.zero_add]at this
theorem nf.at_(W:jZ D){p h:HT}(hp:nf D p h):∃(i j:Nat) (m nd:DN),i<j/\D[i]? =some m/\D[j]? =some nd/\m.id=p/\nd.id=h/\p∈nd.ps:=by
 obtain⟨nd,gL,rfl,vU⟩:=hp;obtain⟨j,hj⟩:=List.mem_iff_getElem?.1 gL;obtain⟨i,m,pP,hm,e⟩:=W.up j nd p hj vU;exact⟨i,j,m,nd,pP,hm,hj,e,rfl,vU⟩
theorem fG.at_(W:jZ D){a h:HT}(hp:fG D a h):∃(i j:Nat) (m nd:DN),i<j/\D[i]? =some m/\D[j]? =some nd/\m.id=a/\nd.id=h:=by
 induction hp with
 |one hp=>
  obtain⟨i,j,m,nd,h1,h2,h3,h4,h5,_⟩:=hp.at_ W;exact⟨i,j,m,nd,h1,h2,h3,h4,h5⟩
 |more _ hp ih=>
  obtain⟨i,j,m,nd,h1,h2,h3,h4,h5⟩:=ih;obtain⟨i',j',m',nd',qU,sO,AP,Sh,h5',_⟩:=hp.at_ W;have e:=W.inj h3 sO (by rw [h5,Sh]);exact⟨i,j',m,nd',by omega,h2,AP,h4,h5'⟩
theorem fG.irrefl(W:jZ D)(a:HT):¬fG D a a:=fun h=>by
 obtain⟨i,j,m,nd,h1,h2,h3,h4,h5⟩:=h.at_ W;have:=W.inj h2 h3 (by rw [h4,h5]);omega
theorem fG.mem(W:jZ D){a h:HT}(hp:fG D a h):a∈ids D/\h∈ids D:=by
 obtain⟨i,j,m,nd,_,h2,h3,h4,h5⟩:=hp.at_ W;exact⟨dz.2 ⟨m,List.mem_of_getElem? h2,h4⟩,dz.2 ⟨nd,List.mem_of_getElem? h3,h5⟩⟩
theorem AW(W:jZ D){i:Nat}{nd:DN}(h:D[i]? =some nd)(a:HT):fG D a nd.id↔∃p∈nd.ps,a=p\/fG D a p:=by
 have key:∀ {p},nf D p nd.id->p∈nd.ps:=fun⟨nd',hm,e,hp⟩=>by
  obtain⟨j,hj⟩:=List.mem_iff_getElem?.1 hm;have:=W.inj h hj e.symm;subst this;rw [h]at hj;cases hj;exact hp
 constructor
 ·intro ha
  generalize he:nd.id=x at ha;cases ha with
  |one hp=>subst he;exact⟨a,key hp,.inl rfl⟩
  |more zf hp=>subst he;exact⟨_,key hp,.inr zf⟩
 ·rintro⟨p,hp,e⟩
  have oE:nf D p nd.id:=⟨nd,List.mem_of_getElem? h,rfl,hp⟩;rcases e with rfl|e
  ·exact .one oE
  ·exact .more e oE
theorem lO{nd:DN}{p h:HT}:nf (D++ [nd]) p h↔nf D p h\/(nd.id=h/\p∈nd.ps):=by
 unfold nf;constructor
 ·rintro⟨m,hm,e,hp⟩
  rw [List.mem_append,List.mem_singleton]at hm;rcases hm with hm|rfl
  ·exact .inl ⟨m,hm,e,hp⟩
  ·exact .inr ⟨e,hp⟩
 ·rintro(⟨m,hm,e,hp⟩|⟨e,hp⟩)
  ·exact⟨m,by simp [hm],e,hp⟩
  ·exact⟨nd,by simp,e,hp⟩
theorem iw(W:jZ D){nd:DN}(hn:nd.id∉ids D){a h:HT}(hh:h∈ids D):fG (D++ [nd]) a h↔fG D a h:=by
 constructor
 ·intro ha
  induction ha with
  |one hp=>
   rcases lO.1 hp with hp|⟨e,_⟩
   ·exact .one hp
   ·subst e;exact absurd hh hn
  |more _ hp ih=>
   rcases lO.1 hp with hp|⟨e,_⟩
   ·exact .more (ih (fG.mem W (.one hp)).1) hp
   ·subst e;exact absurd hh hn
 ·intro ha
  induction ha with
  |one hp=>exact .one (lO.2 (.inl hp))
  |more zf hp ih=>exact .more (ih (fG.mem W zf).2) (lO.2 (.inl hp))
theorem jM(D:DG)(nd:DN):ids (D++ [nd])=ids D++ [nd.id]:=by simp [ids]
theorem jZ.snoc(W:jZ D){nd:DN}(hn:nd.id∉ids D)(vU:∀p∈nd.ps,p∈ids D)(hs:SS nd.ps):jZ (D++ [nd]) where
 pos:=by simp
 nodup:=by
  rw [jM,List.nodup_append];refine⟨W.nodup,by simp,fun a ha b hb=>?_⟩;rw [List.mem_singleton]at hb;subst hb;exact fun e=>hn (e▸ha)
 ss:=fun m hm=>by
  rw [List.mem_append,List.mem_singleton]at hm;rcases hm with hm|rfl
  ·exact W.ss m hm
  ·exact hs
 up:=fun i m p hi hp=>by
  rw [List.getElem?_append]at hi;split at hi
  ·rename_i cK
   obtain⟨j,q,h1,h2,h3⟩:=W.up i m p hi hp;exact⟨j,q,h1,by rw [List.getElem?_append_left (by omega)];exact h2,h3⟩
  ·rename_i iK
   have:m=nd:=by
    cases hk:i-D.length with
    |zero=>rw [hk]at hi;simpa using hi.symm
    |succ k=>rw [hk]at hi;simp at hi
   subst this;obtain⟨q,hq,e⟩:=dz.1 (vU p hp);obtain⟨j,hj⟩:=List.mem_iff_getElem?.1 hq;have tJ:=(lgeS hj).1;exact⟨j,q,by omega,by rw [List.getElem?_append_left tJ];exact hj,e⟩
end
theorem jZ.root(r:HT):jZ [⟨r,[]⟩] where
 pos:=by simp
 nodup:=by simp [ids]
 ss:=fun nd h=>by simp at h;subst h;exact List.Pairwise.nil
 up:=fun i nd p h hp=>by
  cases i with
  |zero=>simp at h;subst h;simp at hp
  |succ i=>simp at h
def eA(D:DG)(h:HT)(l:List HT):Int:=
 if h∈ids D then 7 else if(dh l).length=0\/(dh l).length≠l.length then 9 else if ∃p∈dh l,p∉ids D then 6 else 0
def mE(D:DG)(h:HT)(l:List HT):DG:=if eA D h l=0 then D++ [⟨h,dh l⟩]else D
theorem lC{D:DG}{h:HT}{l:List HT}(e:eA D h l=0):h∉ids D/\l≠ []/\l.Nodup/\∀p∈dh l,p∈ids D:=by
 unfold eA at e;split at e
 ·cases e
 ·rename_i h1
  split at e
  ·cases e
  ·rename_i h2
   split at e
   ·cases e
   ·rename_i h3
    simp only [not_or,Decidable.not_not]at h2;refine⟨h1,fun hl=>h2.1 (by rw [hl];rfl),pG h2.2,fun p hp=>Classical.byContradiction fun hn=>h3 ⟨p,hp,hn⟩⟩
theorem jZ.add{D:DG}(W:jZ D)(h:HT)(l:List HT):jZ (mE D h l):=by
 unfold mE;split
 ·rename_i e
  obtain⟨h1,_,_,h4⟩:=lC e;exact W.snoc h1 h4 (iL l)
 ·exact W
open Classical in
noncomputable def pick(D:DG)(is:HT->Prop):List HT:=dh ((ids D).filter fun a=>decide (is a))
theorem jL{D:DG}{is:HT->Prop}{a:HT}:a∈pick D is↔a∈ids D/\is a:=by
 unfold pick;rw [dJ,List.mem_filter];simp
theorem Gp{D:DG}{is:HT->Prop}{l:List HT}(h:∀a,a∈l↔a∈ids D/\is a):dh l=pick D is:=zZ fun x=>by
 rw [h,List.mem_filter];simp
theorem pC(D:DG)(is:HT->Prop):(pick D is).length<=D.length:=by
 unfold pick;refine Nat.le_trans (nY _) (Nat.le_trans (List.length_filter_le _ _) ?_);rw [jG];exact Nat.le_refl _
noncomputable def eT(D:DG)(l:List HT):List HT:=pick D fun a=>∃h∈l,fG D a h
noncomputable def fK(D:DG)(h:HT):List HT:=pick D fun a=>nf D h a
open Go.RowKit
section
variable{w w':World}{F F' S:Nat->Prop}{A:Option Addr}{n:Nat}{l:List DN}
theorem Dv:AZ prog mX o7 33 56:=⟨by kernel_rfl,by kernel_rfl⟩
variable{r:Nat}{D:DG}{K:Value->World->Prop}
end
section
variable{w w':World}{F F' S:Nat->Prop}{A:Option Addr}{n c B:Nat}{l:List DN}{news:List Value}{r:Nat}{D:DG}{K:Value->World->Prop}
end
section
variable{w w' lf:World}{F S:Nat->Prop}{D:DG}{l out:List HT}{A1 A2:Option Addr}{c1 c2 r:Nat}{K:Value->World->Prop}
theorem ln(w:World)(x:HT):HS (w.alloc (.cells (x.1.toList++ []).toArray ax)) (some ⟨w.heap.size,0,none⟩) 1 [x]:=by
 refine HS.one (t:=ax) (fr:=(0,0)) ?_;rw [List.append_nil,Array.toArray_toList];exact aR w _
end
section
variable{w w' lf:World}{F S:Nat->Prop}{D:DG}{is:HT->Prop}{i:Nat}{l out:List HT}{A:Option Addr}{c r:Nat}{K:Value->World->Prop}
theorem DJ(W:jZ D){j:Nat}{nd:DN}(h2:D[j]? =some nd)(p:HT):nf D p nd.id↔p∈nd.ps:=by
 constructor
 ·rintro⟨md,AB,e,hp⟩
  obtain⟨k,hk⟩:=List.mem_iff_getElem?.1 AB;have:=W.inj hk h2 e;subst this;rw [h2]at hk;cases hk;exact hp
 ·exact fun hp=>⟨nd,List.mem_of_getElem? h2,rfl,hp⟩
end
structure NM where
 b:Nat
 pA:Option Addr
 pn:Nat
 pc:Nat
 cA:Option Addr
 cn:Nat
 cc:Nat
 rA:Option Addr
 rn:Nat
 rc:Nat
 ws:List Nat
def eN(h:HT)(m:NM):Array Value:=h.1++ #[.slice m.pA m.pn m.pc,.slice m.cA m.cn m.cc,.slice m.rA m.rn m.rc]
theorem sq(h:HT)(m:NM):(eN h m).size=35:=by unfold eN;rw [Array.size_append,h.2.1];rfl
theorem DL(h:HT)(m:NM){j:Nat}{v:Value}(hj:h.1[j]? =some v):(eN h m)[j]? =some v:=by
 unfold eN;rw [Array.getElem?_append_left (Array.getElem?_eq_some_iff.1 hj).1];exact hj
theorem DM(h:HT)(m:NM):(eN h m)[33]? =some (.slice m.cA m.cn m.cc):=by
 unfold eN;rw [Array.getElem?_append_right (by rw [h.2.1];omega),h.2.1];rfl
theorem wO(h:HT)(m:NM):(eN h m)[34]? =some (.slice m.rA m.rn m.rc):=by
 unfold eN;rw [Array.getElem?_append_right (by rw [h.2.1];omega),h.2.1];rfl
theorem BQ{h h':HT}{m m':NM}(e:eN h m=eN h' m'):h=h':=by
 apply Subtype.ext;have h1:=h.2.1;have h2:=h'.2.1;have:=congrArg (fun a:Array Value=>a.toList.take 32) e;unfold eN at this;simp only [Array.toList_append]at this;rw [List.take_left' (by simpa using h1),List.take_left' (by simpa using h2)]at this;exact Array.ext' this
structure o8(w:World)(S F:Nat->Prop)(D:DG)(ch:List HT)(nd:DN)(m:NM):Prop where
 bS:w.heap[m.b]? =some (.cells (eN nd.id m) df (0,0))
 fh:S m.b
 ps:HS w m.pA m.pn nd.ps
 Gn:∀a,m.pA=some a->F a.block
 ch:cg w 0 m.cA m.cn m.cc ch
 LJ:∀k,bp m.cA=some k->S k
 past:US w m.rA m.rn m.ws
 nD:∀a,m.rA=some a->F a.block
 ok:okW m.ws
 bits:∀j,bit m.ws j=true↔∃nj,D[j]? =some nj/\fG D nj.id nd.id
 small:m.rn<=200
structure GV(w:World)(S F:Nat->Prop)(g:Nat)(D:DG)(C:HT->List HT)(bl c mb:Nat)(M:List NM):Prop where
 top:w.heap[g]? =some (.cells #[.slice (some ⟨bl,0,none⟩) D.length c,.map (some mb)] fS (0,0))
 row:Row w 0 dQ 1 (some ⟨bl,0,none⟩) D.length c (M.map fun m=>.pointer (some ⟨m.b,0,none⟩))
 map:IsMap w mb (ids D)
 len:M.length=D.length
 node:∀(i:Nat) nd m,D[i]? =some nd->M[i]? =some m->o8 w S F D (C nd.id) nd m
 apart:∀(i j:Nat) m m',M[i]? =some m->M[j]? =some m'->i≠j->∀k,bp m.cA=some k->bp m'.cA≠some k
 gg:S g
 qY:S bl
 sX:S mb
 C8:∀k,S k->¬F k
 low:∀k,S k\/F k->k<w.heap.size
def Ba(w:World)(S F:Nat->Prop)(g:Nat)(D:DG):Prop:=∃bl c mb M,GV w S F g D (fK D) bl c mb M
section
variable{w w':World}{S F S' F':Nat->Prop}{g bl c mb:Nat}{D:DG}{C:HT->List HT}{M:List NM}{K:Value->World->Prop}
theorem o8.aK{ch:List HT}{nd:DN}{m:NM}{S0:Nat->Prop}(h:o8 w S F D ch nd m)(hk:Kept S0 w w')(hS:∀k,S k->¬S0 k)(hF:∀k,F k->¬S0 k):o8 w' S F D ch nd m:=
 ⟨hk.heap h.bS (hS _ h.fh),h.fh,h.ps.aK hk (fun a ha=>hF _ (h.Gn a ha)),h.Gn,Row.aK h.ch hk (fun k hb=>hS k (h.LJ k hb)),h.LJ,h.past.aK hk (fun a ha=>hF _ (h.nD a ha)),h.nD,h.ok,h.bits,h.small⟩
theorem GV.aK{S0:Nat->Prop}(h:GV w S F g D C bl c mb M)(hk:Kept S0 w w')(hS:∀k,S k->¬S0 k)(hF:∀k,F k->¬S0 k):GV w' S F g D C bl c mb M:=
 ⟨hk.heap h.top (hS _ h.gg),Row.aK h.row hk (fun k e=>by cases e;exact hS _ h.qY),h.map.aK hk (hS _ h.sX),h.len,fun i nd m h1 h2=>(h.node i nd m h1 h2).aK hk hS hF,h.apart,h.gg,h.qY,h.sX,h.C8,fun k mZ=>Nat.lt_of_lt_of_le (h.low k mZ) hk.size⟩
theorem GV.same(h:GV w S F g D C bl c mb M)(hk:Kept Nil w w'):GV w' S F g D C bl c mb M:=h.aK hk (fun _ _ h=>h) (fun _ _ h=>h)
theorem Ba.aK{S0:Nat->Prop}(h:Ba w S F g D)(hk:Kept S0 w w')(hS:∀k,S k->¬S0 k)(hF:∀k,F k->¬S0 k):Ba w' S F g D:=let ⟨bl,c,mb,M,h⟩:=h;⟨bl,c,mb,M,h.aK hk hS hF⟩
theorem Ba.same(h:Ba w S F g D)(hk:Kept Nil w w'):Ba w' S F g D:=h.aK hk (fun _ _ h=>h) (fun _ _ h=>h)
theorem GV.get(h:GV w S F g D C bl c mb M){i:Nat}{nd:DN}(hi:D[i]? =some nd):∃m,M[i]? =some m/\o8 w S F D (C nd.id) nd m:=by
 have:=(lgeS hi).1;have hl:=h.len;exact⟨M[i],List.getElem?_eq_getElem (by omega),h.node i nd _ hi (List.getElem?_eq_getElem (by omega))⟩
theorem GV.nodes(h:GV w S F g D C bl c mb M):w.cell? ((⟨g,0,none⟩:Addr).add 0)=some (.slice (some ⟨bl,0,none⟩) D.length c):=by rw [add_zero,aD h.top];rfl
theorem GV.at_(h:GV w S F g D C bl c mb M):w.cell? ((⟨g,0,none⟩:Addr).add 1)=some (.map (some mb)):=by rw [bu,aD h.top];rfl
theorem GV.ptr(h:GV w S F g D C bl c mb M){i:Nat}{m:NM}(hm:M[i]? =some m):w.cell? ((⟨bl,0,none⟩:Addr).add (i*1))=some (.pointer (some ⟨m.b,0,none⟩)):=by
 rw [bu,Nat.zero_add,Nat.mul_one];exact Row.cell h.row (by rw [List.getElem?_map,hm];rfl)
theorem u6(h:GV w S F g D C bl c mb M)(hK:K (.bool true) w):bm prog eW.id #[.pointer (some ⟨g,0,none⟩)] w K:=
 eW.of (Split.yes rfl ⟨some mb,h.at_,hK⟩)
def Found(D:DG)(M:List NM)(h:HT)(x:Option Addr):Prop:=(x=none/\h∉ids D)\/∃(i:Nat) (nd:DN) (m:NM),D[i]? =some nd/\nd.id=h/\M[i]? =some m/\x=some ⟨m.b,0,none⟩
theorem Found.isSome{h:HT}{x:Option Addr}(f:Found D M h x):(!x.isNone)=decide (h∈ids D):=by
 rcases f with⟨rfl,hn⟩|⟨i,nd,m,h1,h2,_,rfl⟩
 ·rw [decide_eq_false hn];rfl
 ·rw [decide_eq_true (dz.2 ⟨nd,List.mem_of_getElem? h1,h2⟩)];rfl
theorem th(G:GV w S F g D C bl c mb M)(h:HT)(hK:∀w' x,Kept Nil w w'->Found D M h x->K (.pointer x) w'):
 bm prog eI.id #[.pointer (some ⟨g,0,none⟩),.agg h.1] w K:=by
 refine eI.of ?_;unfold eI.W;intro w3;have k3:Kept Nil w w3:=(Kept.refl _ _).alloc _;have o5:w3.heap[w.heap.size]? =some (.cells h.1 ax (0,0)):=aR w _;clear_value w3;refine u6 (G.same k3) ⟨true,rfl,Split.yes rfl ?_⟩;intro w7;have k7:Kept Nil w3 w7:=(Kept.refl _ _).drew;clear_value w7;have kw:Kept Nil w w7:=k3.tt k7;have G7:=G.same kw;refine⟨some mb,G7.at_,h.1,⟨h.2.1,Cells.bS (k7.heap o5 (fun h=>h))⟩,_,_,G7.map.look h,?_⟩;cases hp:pos h (ids D) 0 with
 |none=>exact Split.no rfl (hK w7 none kw (.inl ⟨rfl,sf.1 hp⟩))
 |some i=>
  obtain⟨_,hi⟩:=wD hp;obtain⟨nd,h1,h2⟩:=Ks hi;rw [Nat.sub_zero]at h1;obtain⟨m,hm,_⟩:=G7.get h1;have fg:=(lgeS h1).1;refine Split.yes rfl ⟨_,_,_,G7.nodes,⟨by simp,by simp only [Option.getD_some];omega⟩,some ⟨m.b,0,none⟩,?_,hK w7 _ kw (.inr ⟨i,nd,m,h1,h2,hm,rfl⟩)⟩;rw [Option.getD_some,Int.toNat_natCast];exact G7.ptr hm
theorem pV(G:GV w S F g D C bl c mb M)(h:HT)(hK:∀w',Kept Nil w w'->K (.bool (decide (h∈ids D))) w'):
 bm prog fC.id #[.pointer (some ⟨g,0,none⟩),.agg h.1] w K:=by
 refine fC.of ?_;unfold fC.W;intro w3;have k3:Kept Nil w w3:=(Kept.refl _ _).alloc _;have o5:w3.heap[w.heap.size]? =some (.cells h.1 ax (0,0)):=aR w _;clear_value w3;refine⟨h.1,⟨h.2.1,Cells.bS o5⟩,th (G.same k3) h fun w6 x k6 hx=>⟨x,rfl,?_⟩⟩;rw [hx.isSome];exact hK w6 (k3.tt k6)
end
section
variable{w w':World}{S F:Nat->Prop}{g bl c mb:Nat}{D:DG}{C:HT->List HT}{M:List NM}{K:Value->World->Prop}
end
section
variable{w w':World}{S F:Nat->Prop}{g bl c mb:Nat}{D:DG}{C:HT->List HT}{M:List NM}{K:Value->World->Prop}
theorem zz{A:Option Addr}{n c:Nat}{l:List HT}(hl:HS w A n l)(hn:n<=400000)(hK:∀A' c' w',cg w' w.heap.size A' n c' l->Kept Nil w w'->K (.slice A' n c') w'):
 bm prog cG.id #[.slice A n c] w K:=by
 refine cG.of ?_;cases A with
 |none=>
  obtain⟨rfl,rfl⟩:=hl.none;exact Split.yes rfl (hK none 0 w (cg.nil _ _) (Kept.refl _ _))
 |some a=>
  refine Split.no rfl ?_;intro w2;have k2:Kept Nil w w2:=(Kept.refl _ _).alloc _;have r0:cg w2 w.heap.size (some ⟨w.heap.size,0,none⟩) 0 0 []:=Row.made (n:=0) (cur:= #[]) (aR w _) (Nat.le_refl _) rfl (Nat.zero_le _);clear_value w2;obtain⟨A',c',w4,hr,row,hg,_⟩:=gz (cx:=c) aW r0 (hl.same k2) (by omega) k2.size;rw [Nat.zero_add]at hr row;rw [List.nil_append]at row;exact⟨A',n,c',w4,hr,hK A' c' w4 row (Kept.pR k2 hg (fun k hk=>by cases hk;exact Nat.le_refl _))⟩
theorem uD{D:DG}{nd:DN}{m:NM}{ch:List HT}(N:o8 w S F D ch nd m):w.cell? ((⟨m.b,0,none⟩:Addr).add 34)=some (.slice m.rA m.rn m.rc):=by
 rw [bu,Nat.zero_add,aD N.bS];exact wO _ _
theorem Ah{D:DG}{nd:DN}{m:NM}{ch:List HT}(N:o8 w S F D ch nd m):w.cell? ((⟨m.b,0,none⟩:Addr).add 33)=some (.slice m.cA m.cn m.cc):=by
 rw [bu,Nat.zero_add,aD N.bS];exact DM _ _
end
def mO(D:DG)(j:Nat):HT:=match D[j]? with|some nd=>nd.id|none=>default
theorem sj:∀(ws:List Nat) (k:Nat),okW ws->(nH k ws).Nodup
 | [],_,_=>List.Pairwise.nil
 |x::ws,k,ho=>by
  have hx:=ho x (by simp);have FM:okW ws:=fun y hy=>ho y (by simp [hy]);obtain⟨_,h2,h3⟩:=uJ x hx;rw [nH,List.nodup_append];refine⟨List.Pairwise.map _ (fun a b mJ e=>mJ (by omega)) h2,sj ws (k+1) FM,fun a ha b hb e=>?_⟩;rw [List.mem_map]at ha;obtain⟨t,ht,rfl⟩:=ha;have:=((nJ ws (k+1) b FM).1 hb).1;have:=h3 t ht;omega
section
variable{w w':World}{S F:Nat->Prop}{g bl c mb:Nat}{D:DG}{C:HT->List HT}{M:List NM}{K:Value->World->Prop}
theorem ti(G:GV w S F g D C bl c mb M)(W:jZ D)(hD:D.length<=10000)(hT:p6 w){A:Option Addr}{n cx:Nat}{l:List HT}(hl:HS w A n l)(hn:n<=10000)
 (hK:∀A' c' w',cg w' w.heap.size A' (eT D l).length c' (eT D l)->Kept Nil w w'->K (.slice A' (eT D l).length c') w'):
 bm prog aJ.id #[.pointer (some ⟨g,0,none⟩),.slice A n cx] w K:=by
 have hlen:=hl.len;refine aJ.of ?_;unfold aJ.W;intro w3;have k3:Kept Nil w w3:=(Kept.refl _ _).alloc _;have Vu:w3.heap[w.heap.size]? =some (.cells #[.pointer (some ⟨g,0,none⟩)] fZ (0,0)):=aR w _;have G3:w.heap.size<w3.heap.size:=bf Vu;clear_value w3;refine aJ.cf (I:=fun s w'=>∃(i:Nat) (A':Option Addr) (n' c':Nat) (ws:List Nat),s=(A',n',c',(i:Int))/\i<=n/\jw w' w3.heap.size A' n' c' ws/\okW ws/\n'<=200/\(∀j,bit ws j=true↔∃h∈l.take i,∃nj,D[j]? =some nj/\fG D nj.id h)/\Kept Nil w3 w')
  (μ:=fun s _=>((n:Int)-s.2.2.2).toNat) (s:=(none,0,0,0)) ⟨0,none,0,0,[],rfl,Nat.zero_le _,Row.nil _ _ _ _,by simp [okW],by omega,by simp [vJ],Kept.refl _ _⟩ ?_
 rintro s w' ⟨i,A',n',c',ws,rfl,hi,row,ho,U1,oG,kw⟩;have kk:Kept Nil w w':=k3.tt kw;refine Split.dec (fun lH=>?_) (fun iK=>?_)
 ·simp only at lH
  have fg:i<n:=by omega
  obtain⟨h,hh⟩:∃h,l[i]? =some h:=⟨_,List.getElem?_eq_getElem (by omega)⟩;refine(hl.same kk).load (i:=(i:Int)) (by omega) hh ?_;intro pg;obtain⟨ry,jv,jf⟩:=gh (w:=w') (z:=(yQ 0)) (cs:=h.1) (t:=ax) (by rw [h.2.1];rfl);refine⟨⟨h.2.1,h.2.one,fun j hj=>ry j (by rw [h.2.1];exact hj)⟩,?_⟩;intro np
  replace jv:np.heap[w'.heap.size]? =some (.cells h.1 ax (0,0)):=jv
  replace jf:Kept Nil w' np:=jf
  clear_value np;have uQ:Kept Nil w3 np:=kw.tt jf;refine⟨some ⟨g,0,none⟩,by rw [aD (uQ.heap Vu (fun h=>h))];rfl,h.1,⟨h.2.1,Cells.bS jv⟩,?_⟩;refine th (G.same (k3.tt uQ)) h fun p9 x Av hx=>⟨x,rfl,?_⟩;have GO:Kept Nil w3 p9:=uQ.tt Av;have DV:Kept Nil w p9:=k3.tt GO;have uB:jw p9 w3.heap.size A' n' c' ws:=Row.aK row (jf.tt Av) (fun _ _ h=>h);rcases hx with⟨rfl,rN⟩|⟨q,nd,m',hq,rfl,oF,rfl⟩
  ·refine Split.no rfl ?_
   simp only;rw [eK (n:=(i:Int)) (by omega) (by omega)];refine⟨(A',n',c',(i:Int)+1),rfl,⟨i+1,A',n',c',ws,rfl,fg,uB,ho,U1,fun j=>?_,GO⟩,by simp only;omega⟩;rw [oG];constructor
   ·rintro⟨h',h1,h2⟩;exact⟨h',(bI hh).2 (.inl h1),h2⟩
   ·rintro⟨h',h1,nj,h2,h3⟩
    rcases(bI hh).1 h1 with h1|rfl
    ·exact⟨h',h1,nj,h2,h3⟩
    ·exact absurd (h3.mem W).2 rN
  ·obtain⟨m,hm,N⟩:=(G.same DV).get hq
   rw [oF]at hm;cases hm;refine Split.yes rfl ⟨_,_,_,uD N,?_⟩;have Cb:=N.small;have Co:∀k,bp A'=some k->w3.heap.size<=k:=fun k hk=>(Row.bS uB hk).1;refine uz uB ho (by omega) GO.size N.past N.ok (by omega) (fun a ha k hk e=>?_) fun A2 n2 c2 l2 kr Nj UR Pe Lj rv Ht=>⟨A2,n2,c2,rfl,?_⟩
   ·have h1:=G.low a.block (.inr (N.nD a ha))
    have h2:=Co k hk;omega
   ·simp only
    rw [eK (n:=(i:Int)) (by omega) (by omega)];refine⟨(A2,n2,c2,(i:Int)+1),rfl,⟨i+1,A2,n2,c2,l2,rfl,fg,Nj,UR,by omega,fun j=>?_,GO.trans rv (fun k hk e=>absurd (Co k e) (by omega))⟩,by simp only;omega⟩;rw [Lj,Bool.or_eq_true,oG,N.bits];constructor
    ·rintro(⟨h',h1,h2⟩|h2)
     ·exact⟨h',(bI hh).2 (.inl h1),h2⟩
     ·exact⟨nd.id,(bI hh).2 (.inr rfl),h2⟩
    ·rintro⟨h',h1,h2⟩
     rcases(bI hh).1 h1 with h1|rfl
     ·exact .inl ⟨h',h1,h2⟩
     ·exact .inr h2
 ·simp only at iK
  have Zj:i=n:=by omega
  subst Zj;rw [List.take_of_length_le (by omega)]at oG;rw [aY,aJ.dB];unfold aJ.cX;intro uv;have Ii:Kept Nil w' uv:=(Kept.refl _ _).alloc _;have O5:uv.heap[w'.heap.size]? =some (.cells #[.slice none 0 0] aW (0,0)):=aR w' _;clear_value uv;refine iY.of ?_;unfold iY.W;intro mN;have xX:Kept Nil uv mN:=(Kept.refl _ _).alloc _;have OK:mN.heap[uv.heap.size]? =some (.cells #[.slice A' n' c'] jC (0,0)):=aR uv _;clear_value mN;refine⟨_,rfl,?_⟩;have O4:=xX.heap O5 (fun h=>h);have NW:Kept Nil w3 mN:=(kw.tt Ii).tt xX;have GA:Kept Nil w mN:=k3.tt NW;have Nh:jw mN w3.heap.size A' n' c' ws:=Row.aK (Row.aK row Ii (fun _ _ h=>h)) xX (fun _ _ h=>h);have Vt:=NW.heap Vu (fun h=>h);have x6:w.heap.size<w'.heap.size:=Nat.lt_of_lt_of_le G3 kw.size;have aca:w'.heap.size<mN.heap.size:=bf O4;have acb:uv.heap.size<mN.heap.size:=bf OK;have Ev:∀j∈nH 0 ws,∃nj,D[j]? =some nj:=fun j hj=>by
   have:=((nJ ws 0 j ho).1 hj).2;rw [Nat.mul_zero,Nat.sub_zero]at this;obtain⟨_,_,nj,h1,_⟩:=(oG j).1 this;exact⟨nj,h1⟩
  have UW:(nH 0 ws).length<=D.length:=by
   have:=sk (m:=List.range D.length) (sj ws 0 ho) (fun j hj=>by
    obtain⟨nj,h1⟩:=Ev j hj;exact List.mem_range.2 (lgeS h1).1)
   rwa [List.length_range]at this
  let xs:=nH 0 ws
  let ρ0:Env:= [(2,.pointer (some (aU w.heap.size))),(4,.slice none 0 0),(9,.pointer (some (aU w'.heap.size))),(30,.func (.func aE.id) #[] #[.pointer (some (aU uv.heap.size))])]
  let J:Nat->World->Prop:=fun i v=>∃A c,v.heap[w'.heap.size]? =some (.cells #[.slice A i c] aW (0,0))/\cg v mN.heap.size A i c ((xs.take i).map (mO D))/\Kept (· =w'.heap.size) mN v/\i<=xs.length
  have pN:∀i v,J i v->US v A' n' ws/\v.cell? ⟨uv.heap.size,0,none⟩=some (.slice A' n' c')/\p6 v:=by
   rintro i v ⟨A,c,h1,h2,h3,h4⟩;refine⟨Nh.us.aK h3 (fun a ha e=>?_),by rw [aD (h3.heap OK (by have:=bf O5;omega))];rfl,(hT.same GA).aK h3 (fun e=>by have:=hT.lt;omega)⟩;have hk:bp A'=some a.block:=by rw [ha];rfl
   obtain⟨_,cur,hc⟩:=Row.bS row hk;have:=bf hc;omega
  refine mu (ρ:=ρ0) (ρ0:=ρ0) ng mix aJ.k (t:=30) (ps:= #[31]) (by kernel_rfl) (by decide) rfl aE.at_ rfl (.inl rfl) (fun i v _ h=>h) rfl encI xs (fun _=>rfl) (by simp [fR]) (Fo ⟨uv.heap.size,0,none⟩ (c:=c') (by omega) ho) J (fun _ _=>False) ?_ (fun _ _ _ _ _ h=>h.elim) pN ?_ ?_ ?_ (fun _ _ h=>h.elim) (fun _ _ _ h=>h.elim)
  ·rintro i v v' R oZ ⟨A,c,h1,h2,h3,h4⟩ hk
   exact⟨A,c,hk.heap h1 (jF h1 oZ.loop),Row.apart h2 hk (fun cs t fr h=>by rw [oZ.loop]at h;cases h),h3.trans hk (fun k hk e=>by omega),h4⟩
  ·intro R
   exact⟨none,0,jE (jE O4 _) _,cg.nil _ _,(((Kept.refl _ _).alloc _).alloc _),Nat.zero_le _⟩
  ·rintro i x v R hx hj oZ
   have hJ:=hj;obtain⟨A,c,h1,h2,h3,h4⟩:=hj;have fg:i<xs.length:=(lgeS hx).1;have e7:jW ρ0 ((#[31]:Array Nat).toList.zip (encI x))= [(2,.pointer (some (aU w.heap.size))),(4,.slice none 0 0),(9,.pointer (some (aU w'.heap.size))),(30,.func (.func aE.id) #[] #[.pointer (some (aU uv.heap.size))]),(31,.int .i64 (x:Int))]:=rfl;rw [e7,aJ.a1];unfold aJ.A1;refine⟨oZ,fun w2 R2 mP vy=>?_⟩;have C5:=mP.heap h1 (jF h1 oZ.loop);have zh:cg w2 mN.heap.size A i c ((xs.take i).map (mO D)):=Row.apart h2 mP (fun cs t fr h=>by rw [oZ.loop]at h;cases h);have WK:Kept (· =w'.heap.size) mN w2:=h3.trans mP (fun k hk e=>by omega);clear hJ h1 h2 h3;rw [aJ.y1];unfold aJ.Y1;intro Jr;have RI:Kept Nil w2 Jr:=(Kept.refl _ _).drew;clear_value Jr;have QV:=RI.heap C5 (fun h=>h);have An:Kept (· =w'.heap.size) mN Jr:=WK.trans RI (fun _ _ h=>h.elim);obtain⟨nj,IH⟩:=Ev x (List.mem_of_getElem? hx);have sH:=(lgeS IH).1;have Tp:Kept Nil w Jr:=GA.trans An (fun k hk e=>by omega);obtain⟨m,hm,N⟩:=(G.same Tp).get IH;refine⟨A,i,c,by rw [aD QV];rfl,some ⟨g,0,none⟩,by rw [aD (An.heap Vt (by omega))];rfl,?_⟩;refine⟨_,_,_,(G.same Tp).nodes,⟨by omega,by omega⟩,some ⟨m.b,0,none⟩,by rw [Int.toNat_natCast];exact(G.same Tp).ptr hm,?_⟩;refine⟨nj.id.1,⟨nj.id.2.1,fun j v hj=>?_⟩,nj.id.2.1,?_⟩
   ·rw [add_zero,bu,Nat.zero_add,aD N.bS]
    exact DL _ _ hj
   intro L6;have NT:Kept Nil Jr L6:=(Kept.refl _ _).alloc _;have ln:HS L6 (some ⟨Jr.heap.size,0,none⟩) 1 [nj.id]:=ln Jr nj.id;clear_value L6;have QU:=NT.heap QV (fun h=>h);refine⟨by rw [aD QU];rfl,?_⟩;have Hz:cg L6 mN.heap.size A i c ((xs.take i).map (mO D)):=Row.aK (Row.aK zh RI (fun _ _ h=>h)) NT (fun _ _ h=>h);have Oz:mN.heap.size<=L6.heap.size:=Nat.le_trans An.size NT.size;have GW:xs.length<=D.length:=UW;obtain⟨A2,c2,oO,hr,uA,Hl,Ll⟩:=gz (cx:=1) aW Hz ln (by omega) Oz;have K6:Kept (fun k=>bp A=some k) L6 oO:=Kept.grown (Kept.refl _ _) Hl (fun k hk _=>hk);have QQ:∀k,bp A=some k->mN.heap.size<=k:=fun k hk=>(Row.bS Hz hk).1;have QT:=K6.heap QU (fun e=>by have:=QQ _ e;omega);have Vc:Live (mN.heap.size+1) mN.heap.size R2 oO:=by
    have KV:=(vy.aK RI (fun h=>h) (fun h=>h)).aK NT (fun h=>h) (fun h=>h);refine KV.aK K6 ?_ ?_
    ·intro h
     obtain⟨_,cur,hc⟩:=Row.bS Hz h;exact jF hc KV.loop rfl
    ·intro h
     obtain⟨_,cur,hc⟩:=Row.bS Hz h;exact vm hc KV.mark rfl
   refine⟨A2,_,c2,oO,hr,dL QT (by simp),?_⟩;intro SU;have TE:Kept (· =w'.heap.size) oO SU:=Kept.setCell (S:=fun k=>k=w'.heap.size) (Kept.refl _ oO) (p:=⟨w'.heap.size,0,none⟩) (fun _=>rfl) _;have V8:SU.heap[w'.heap.size]? =some (.cells #[.slice A2 (i+1) c2] aW (0,0)):=cY QT 0 _;clear_value SU;refine⟨Vc.aK TE (by omega) (by omega),A2,c2,V8,?_,((An.trans NT (fun _ _ h=>h.elim)).trans K6 (fun k hk e=>absurd (QQ k e) (by omega))).tt TE,fg⟩;have e:(xs.take (i+1)).map (mO D)=(xs.take i).map (mO D)++ [nj.id]:=by
    rw [List.take_add_one,hx];simp [mO,IH]
   rw [e];exact Row.aK uA TE (fun k hk e=>by have:=(Row.bS uA hk).1;omega)
  ·rintro v R ⟨A,c,h1,h2,h3,h4⟩ oZ
   have e7:gm ρ0 mN.heap.size= [(2,.pointer (some (aU w.heap.size))),(4,.slice none 0 0),(9,.pointer (some (aU w'.heap.size))),(30,.func (.func aE.id) #[] #[.pointer (some (aU uv.heap.size))]),(4294967296,.agg #[.pointer (some ⟨mN.heap.size,0,none⟩)])]:=rfl;rw [e7,aJ.jx];rw [List.take_of_length_le (Nat.le_refl _)]at h2;have GW:xs.length<=D.length:=UW;refine⟨A,xs.length,c,by rw [aD h1];rfl,fX h2.hs (by omega) fun A2 c2 SP DE TD=>⟨A2,_,c2,rfl,⟨TD.heap oZ.mark (fun h=>h),trivial⟩,?_⟩⟩;have hmk:=TD.heap oZ.mark (fun h=>h);have kp:Kept (· =mN.heap.size) SP (SP.putObj mN.heap.size (.deferred none)):=Kept.putAt _ _ _;have e:dh (xs.map (mO D))=eT D l:=Gp fun a=>by
    rw [List.mem_map];constructor
    ·rintro⟨j,hj,rfl⟩
     have hb:=((nJ ws 0 j ho).1 hj).2;rw [Nat.mul_zero,Nat.sub_zero]at hb;obtain⟨h',qU,nj,sO,AP⟩:=(oG j).1 hb;have:mO D j=nj.id:=by unfold mO;rw [sO]
     rw [this];exact⟨(AP.mem W).1,h',qU,AP⟩
    ·rintro⟨ha,h',hh',ES⟩
     obtain⟨nj,YZ,rfl⟩:=dz.1 ha;obtain⟨j,hj⟩:=List.mem_iff_getElem?.1 YZ;refine⟨j,(nJ ws 0 j ho).2 ⟨by omega,?_⟩,by unfold mO;rw [hj]⟩;rw [Nat.mul_zero,Nat.sub_zero];exact(oG j).2 ⟨h',hh',nj,hj,ES⟩
   rw [e]at DE⊢;have mv:Kept Nil w SP:=(GA.trans h3 (fun k hk e=>by omega)).tt TD;have hws:w.heap.size<=v.heap.size:=Nat.le_trans GA.size h3.size;refine hK A2 c2 _ (Row.base (Row.apart DE kp (fun cs t fr h=>by rw [hmk]at h;cases h)) fun b hb=>Nat.le_trans hws (Row.bS DE hb).1) (mv.trans kp (fun k hk e=>by omega))
end
section
variable{w w':World}{S F:Nat->Prop}{g bl c mb gb:Nat}{D:DG}{C:HT->List HT}{M:List NM}{K:Value->World->Prop}
theorem xJ(G:GV w S F g D C bl c mb M)(hg:w.heap[gb]? =some (.cells #[.pointer (some ⟨g,0,none⟩)] fZ (0,0))){A:Option Addr}{n cx:Nat}{l:List HT}(hl:HS w A n l)(hn:n<=400000)
 (hK:∀w' (x:Bool),(x=true↔∃p∈l,p∉ids D)->Kept Nil w w'->K (.bool x) w'):
 bm prog c9.id #[.slice A n cx,.func (.func du.id) #[] #[.pointer (some ⟨gb,0,none⟩)]] w K:=by
 have hlen:=hl.len;refine bO.of (au.of ?_);refine au.cf (I:=fun s w'=>∃i:Nat,s=(0,(i:Int))/\i<=n/\(∀p∈l.take i,p∈ids D)/\Kept Nil w w') (μ:=fun s _=>((n:Int)-s.2).toNat) (s:=(0,0)) ⟨0,rfl,Nat.zero_le _,by simp,Kept.refl _ _⟩ ?_;rintro s w' ⟨i,rfl,hi,cP,kw⟩;refine Split.dec (fun lH=>?_) (fun iK=>?_)
 ·simp only at lH
  have fg:i<n:=by omega
  obtain⟨x,hx⟩:∃x,l[i]? =some x:=⟨_,List.getElem?_eq_getElem (by omega)⟩;refine(hl.same kw).load (i:=(i:Int)) (by omega) hx ?_;refine du.of ?_;unfold du.W;intro w3;have k3:Kept Nil w' w3:=(Kept.refl _ _).alloc _;have o5:w3.heap[w'.heap.size]? =some (.cells x.1 ax (0,0)):=aR w' _;clear_value w3;have Ts:=kw.tt k3;refine⟨some ⟨g,0,none⟩,by rw [aD (Ts.heap hg (fun h=>h))];rfl,x.1,⟨x.2.1,Cells.bS o5⟩,pV (G.same Ts) x fun w7 k7=>⟨_,rfl,_,rfl,?_⟩⟩;have DU:=Ts.tt k7;by_cases hm:x∈ids D
  ·refine Split.no (by rw [decide_eq_true hm];rfl) ?_
   simp only;rw [eK (n:=(i:Int)) (by omega) (by omega)];refine⟨(0,(i:Int)+1),rfl,⟨i+1,rfl,fg,fun p hp=>?_,DU⟩,by simp only;omega⟩;rcases(bI hx).1 hp with hp|rfl
   ·exact cP p hp
   ·exact hm
  ·refine Split.yes (by rw [decide_eq_false hm];rfl) ?_
   refine⟨(i:Int),rfl,?_⟩;exact hK w7 _ ⟨fun _=>⟨x,List.mem_of_getElem? hx,hm⟩,fun _=>decide_eq_true (by omega)⟩ DU
 ·simp only at iK
  rw [aY,au.dB];rw [List.take_of_length_le (by omega)]at cP;exact⟨-1,rfl,hK w' _ ⟨fun h=>absurd (of_decide_eq_true h) (by omega),fun⟨p,hp,hn⟩=>absurd (cP p hp) hn⟩ kw⟩
theorem iU{w:World}{a b:Nat}{ca cb:Array Value}{ta tb:TypeId}{fa fb:Nat×Nat}(ha:w.heap[a]? =some (.cells ca ta fa))(hb:w.heap[b]? =some (.cells cb tb fb))(fJ:ta≠tb):a≠b:=by
 rintro rfl;rw [ha]at hb;simp only [Option.some.injEq,Obj.cells.injEq]at hb;exact fJ hb.2.1
theorem GV.upd(G:GV w S F g D C bl c mb M)(W:jZ D){q:Nat}{nd:DN}{m:NM}(hq:D[q]? =some nd)(hm:M[q]? =some m){A5:Option Addr}{n5 c5:Nat}{ch':List HT}
 (kT:Kept (fun k=>bp m.cA=some k\/k=m.b) w w') (hb:w'.heap[m.b]? =some (.cells (eN nd.id {m with cA:=A5,cn:=n5,cc:=c5}) df (0,0))) (fW:cg w' w.heap.size A5 n5 c5 ch'):
 GV w' (fun k=>S k\/bp A5=some k) F g D (fun x=>if x=nd.id then ch' else C x) bl c mb (M.set q {m with cA:=A5,cn:=n5,cc:=c5}):=by
 have N:=G.node q nd m hq hm;have Mq:q<M.length:=(lgeS hm).1;have mR:∀k,bp m.cA=some k->∃cur,w.heap[k]? =some (.cells cur ax (0,0)):=fun k hk=>(Row.bS N.ch hk).2;have hF:∀k,F k->¬(bp m.cA=some k\/k=m.b):=fun k hk e=>by
  rcases e with e|rfl
  ·exact G.C8 k (N.LJ k e) hk
  ·exact G.C8 _ N.fh hk
 have XC:∀ {k:Nat} {cs:Array Value} {t:TypeId},w.heap[k]? =some (.cells cs t (0,0))->t≠ax->t≠df->¬(bp m.cA=some k\/k=m.b):=fun h h1 h2 e=>by
  rcases e with e|rfl
  ·obtain⟨cur,hc⟩:=mR _ e
   exact iU h hc h1 rfl
  ·exact iU h N.bS h2 rfl
 have Hy:∀k,bp A5=some k->w.heap.size<=k:=fun k hk=>(Row.bS fW hk).1;have fu:∀(i:Nat) m',(M.set q {m with cA:=A5,cn:=n5,cc:=c5})[i]? =some m'->(i=q/\m'= {m with cA:=A5,cn:=n5,cc:=c5})\/(i≠q/\M[i]? =some m'):=fun i m' h=>by
  by_cases e:i=q
  ·subst e
   rw [List.getElem?_set_self Mq]at h;exact .inl ⟨rfl,(Option.some.inj h).symm⟩
  ·rw [List.getElem?_set_ne (Ne.symm e)]at h
   exact .inr ⟨e,h⟩
 refine⟨?_,?_,?_,by simpa using G.len,?_,?_,.inl G.gg,.inl G.qY,.inl G.sX,?_,?_⟩
 ·exact kT.heap G.top (XC G.top (by decide) (by decide))
 ·have KS:(M.set q {m with cA:=A5,cn:=n5,cc:=c5}).map (fun m=>Value.pointer (some ⟨m.b,0,none⟩))=M.map fun m=>Value.pointer (some ⟨m.b,0,none⟩):=by
   apply List.ext_getElem?;intro i;rw [List.getElem?_map,List.getElem?_map];by_cases e:i=q
   ·subst e
    rw [List.getElem?_set_self Mq,hm];rfl
   ·rw [List.getElem?_set_ne (Ne.symm e)]
  rw [KS];refine Row.aK G.row kT (fun k e=>?_);cases e;obtain⟨_,cur,hc⟩:=Row.bS G.row (k:=bl) rfl;exact XC hc (by decide) (by decide)
 ·refine G.map.aK kT (fun e=>?_)
  obtain⟨es,clock,Hd,_⟩:=G.map.ex;rcases e with e|e
  ·obtain⟨cur,hc⟩:=mR _ e
   rw [hc]at Hd;cases Hd
  ·rw [e,N.bS]at Hd;cases Hd
 ·intro i nd' m' hi oF
  rcases fu i m' oF with⟨rfl,rfl⟩|⟨fJ,Pn⟩
  ·rw [hq]at hi
   cases hi;rw [if_pos rfl];exact⟨hb,.inl N.fh,N.ps.aK kT (fun a ha=>hF _ (N.Gn a ha)),N.Gn,Row.base fW (fun _ _=>Nat.zero_le _),fun k hk=>.inr hk,N.past.aK kT (fun a ha=>hF _ (N.nD a ha)),N.nD,N.ok,N.bits,N.small⟩
  ·have N':=G.node i nd' m' hi Pn
   have hid:nd'.id≠nd.id:=fun e=>fJ (W.inj hi hq e);rw [if_neg hid];have VU:m'.b≠m.b:=fun e=>by
    have h1:=N'.bS;rw [e,N.bS]at h1;simp only [Option.some.injEq,Obj.cells.injEq]at h1;exact hid (BQ h1.1).symm
   refine⟨kT.heap N'.bS (fun e=>?_),.inl N'.fh,N'.ps.aK kT (fun a ha=>hF _ (N'.Gn a ha)),N'.Gn,Row.aK N'.ch kT (fun k hk e=>?_),fun k hk=>.inl (N'.LJ k hk),N'.past.aK kT (fun a ha=>hF _ (N'.nD a ha)),N'.nD,N'.ok,N'.bits,N'.small⟩
   ·rcases e with e|e
    ·obtain⟨cur,hc⟩:=mR _ e
     exact iU N'.bS hc (by decide) rfl
    ·exact VU e
   ·rcases e with e|rfl
    ·exact G.apart i q m' m Pn hm fJ k hk e
    ·obtain⟨cur,hc⟩:=(Row.bS N'.ch hk).2
     exact iU hc N.bS (by decide) rfl
 ·intro i j m1 m2 h1 h2 pP k Hf mP
  rcases fu i m1 h1 with⟨rfl,rfl⟩|⟨hi,qU⟩
  ·rcases fu j m2 h2 with⟨rfl,rfl⟩|⟨hj,sO⟩
   ·exact pP rfl
   ·have:=Hy k Hf
    have tJ:j<D.length:=by rw [<-G.len];exact(lgeS sO).1
    obtain⟨cur,hc⟩:=(Row.bS (G.node j _ m2 (List.getElem?_eq_getElem tJ) sO).ch mP).2;have:=bf hc;omega
  ·rcases fu j m2 h2 with⟨rfl,rfl⟩|⟨hj,sO⟩
   ·have:=Hy k mP
    have fg:i<D.length:=by rw [<-G.len];exact(lgeS qU).1
    obtain⟨cur,hc⟩:=(Row.bS (G.node i _ m1 (List.getElem?_eq_getElem fg) qU).ch Hf).2;have:=bf hc;omega
   ·exact G.apart i j m1 m2 qU sO pP k Hf mP
 ·intro k hk hf
  rcases hk with hk|hk
  ·exact G.C8 k hk hf
  ·have:=Hy k hk
   have:=G.low k (.inr hf);omega
 ·intro k hk
  rcases hk with(hk|hk)|hk
  ·exact Nat.lt_of_lt_of_le (G.low k (.inl hk)) kT.size
  ·obtain⟨cur,hc⟩:=(Row.bS fW hk).2
   exact bf hc
  ·exact Nat.lt_of_lt_of_le (G.low k (.inr hk)) kT.size
end
theorem wM(h:HT)(m:NM)(A:Option Addr)(n c:Nat):(eN h m).setIfInBounds 33 (.slice A n c)=eN h {m with cA:=A,cn:=n,cc:=c}:=by
 have hs:=h.2.1;apply Array.ext_getElem?;intro i;unfold eN;rw [Array.getElem?_setIfInBounds,Array.getElem?_append,Array.getElem?_append];by_cases h1:i<h.1.size
 ·rw [if_neg (by omega),if_pos h1,if_pos h1]
 ·rw [if_neg h1,if_neg h1]
  by_cases h2:i=33
  ·subst h2
   rw [if_pos rfl,if_pos (by simp;omega),hs];rfl
  ·rw [if_neg (Ne.symm h2),hs]
   match i-32,show i-32≠1 by omega with
   |0,_=>rfl
   |2,_=>rfl
   |(k+3),_=>rfl
theorem wL(h:HT)(m:NM)(A:Option Addr)(n c:Nat):(eN h m).setIfInBounds 34 (.slice A n c)=eN h {m with rA:=A,rn:=n,rc:=c}:=by
 have hs:=h.2.1;apply Array.ext_getElem?;intro i;unfold eN;rw [Array.getElem?_setIfInBounds,Array.getElem?_append,Array.getElem?_append];by_cases h1:i<h.1.size
 ·rw [if_neg (by omega),if_pos h1,if_pos h1]
 ·rw [if_neg h1,if_neg h1]
  by_cases h2:i=34
  ·subst h2
   rw [if_pos rfl,if_pos (by simp;omega),hs];rfl
  ·rw [if_neg (Ne.symm h2),hs]
   match i-32,show i-32≠2 by omega with
   |0,_=>rfl
   |1,_=>rfl
   |(k+3),_=>rfl
section
variable{w w0 w':World}{S F F1 S':Nat->Prop}{g bl c mb gb ib nb:Nat}{D:DG}{C:HT->List HT}{M:List NM}{K:Value->World->Prop}
noncomputable def gQ(D:DG)(h:HT)(l:List HT):HT->List HT:=fun x=>if x∈l then dh (fK D x++ [h])else fK D x
structure AL(w0 w':World)(S F1 S':Nat->Prop)(g:Nat)(D:DG)(h:HT)(l:List HT)(gb ib nb:Nat)(pA:Option Addr)(pc i bl c mb:Nat)(M:List NM)(rA:Option Addr)(rn rc:Nat)(ws:List Nat):Prop where
 G:GV w' S' F1 g D (gQ D h (l.take i)) bl c mb M
 sub:∀k,S k->S' k
 new:∀k,S' k->S k\/w0.heap.size<=k
 node:w'.heap[nb]? =some (.cells (eN h ⟨nb,pA,l.length,pc,none,0,0,rA,rn,rc,ws⟩) df (0,0))
 Th:¬S' nb
 row:jw w' nb rA rn rc ws
 ok:okW ws
 small:rn<=200
 Tg:∀k,bp rA=some k->¬S' k
 bits:∀j,bit ws j=true↔∃p∈l.take i,∃nj,D[j]? =some nj/\(nj.id=p\/fG D nj.id p)
 Sl:w'.heap[gb]? =some (.cells #[.pointer (some ⟨g,0,none⟩)] fZ (0,0))
 Yo:w'.heap[ib]? =some (.cells h.1 ax (0,0))
 XY:¬S' gb
 XX:¬S' ib
 hl:HS w' pA l.length l
 kp:Kept S w0 w'
theorem CH{h:HT}{l:List HT}{pA:Option Addr}{pc i:Nat}{rA:Option Addr}{rn rc:Nat}{ws:List Nat}{Q:aM}
 (L:AL w0 w' S F1 S' g D h l gb ib nb pA pc i bl c mb M rA rn rc ws) (W:jZ D) (hD:D.length<=10000) (vv:SS l) (gM:∀p∈l,p∈ids D) (C1:∀k,F1 k->k<nb) (IE:∀a,pA=some a->F1 a.block) (h0:w0.heap.size<=nb) (fg:i<l.length) (hll:l.length<=10000)
 (hQ:∀S2 M rA rn rc ws v,AL w0 v S F1 S2 g D h l gb ib nb pA pc (i+1) bl c mb M rA rn rc ws->Q .normal (br.e1 ⟨gb,0,none⟩ ⟨ib,0,none⟩ 0 ⟨nb,0,none⟩ pA l.length pc (l.length:Int) ((i:Int)+1)) v):
 br.B1 ⟨gb,0,none⟩ ⟨ib,0,none⟩ 0 ⟨nb,0,none⟩ pA l.length pc (l.length:Int) (i:Int) Q w':=by
 obtain⟨p,hp⟩:∃p,l[i]? =some p:=⟨_,List.getElem?_eq_getElem fg⟩;have rM:=List.mem_of_getElem? hp;have UH:=gM p rM;refine Split.yes (decide_eq_true (by omega)) ?_;refine L.hl.load (i:=(i:Int)) (by omega) hp ?_;intro p8;obtain⟨ry,jv,jf⟩:=gh (w:=w') (z:=(yQ 0)) (cs:=p.1) (t:=ax) (by rw [p.2.1];rfl);refine⟨⟨p.2.1,p.2.one,fun j hj=>ry j (by rw [p.2.1];exact hj)⟩,?_⟩;intro qH
 replace jv:qH.heap[w'.heap.size]? =some (.cells p.1 ax (0,0)):=jv
 replace qv:Kept Nil w' qH:=jf
 clear_value qH;refine⟨some ⟨g,0,none⟩,by rw [aD (qv.heap L.Sl (fun h=>h))];rfl,p.1,⟨p.2.1,Cells.bS jv⟩,?_⟩;refine th (L.G.same qv) p fun w40 x Ym hx=>⟨x,rfl,?_⟩;rcases hx with⟨rfl,rN⟩|⟨q,nd,m',hq,gL,oF,rfl⟩
 ·exact absurd UH rN
 intro Df;have GM:Kept Nil w' Df:=(qv.tt Ym).drew;have EK:Df.heap[w'.heap.size]? =some (.cells p.1 ax (0,0)):=Ym.heap jv (fun h=>h);clear_value Df;have ab9:=GM.size;have SC:=L.G.same GM;obtain⟨m,hm,MO⟩:=SC.get hq;rw [oF]at hm;cases hm;have KR:=GM.heap L.node (fun h=>h);have wz:jw Df nb rA rn rc ws:=Row.aK L.row GM (fun _ _ h=>h);refine⟨rA,rn,rc,by rw [bu,Nat.zero_add,aD KR];exact wO _ _,?_⟩;refine⟨_,_,_,uD MO,some ⟨g,0,none⟩,by rw [aD (GM.heap L.Sl (fun h=>h))];rfl,?_⟩;refine⟨some mb,SC.at_,p.1,⟨p.2.1,Cells.bS EK⟩,_,SC.map.uL p,?_⟩;rw [show pos p (ids D) 0=some q by rw [<-gL];exact W.pos_eq hq,Option.getD_some];have Mq:=(lgeS hq).1;have Cb:=MO.small;have abX:=L.small;have Ul:∀k,bp rA=some k->nb<=k/\k<w'.heap.size:=fun k hk=>by
  obtain⟨h1,cur,hc⟩:=Row.bS L.row hk;exact⟨h1,bf hc⟩
 have UY:nb<w'.heap.size:=bf L.node;have HY:∀ {v:World} {A:Option Addr} {n c:Nat} {l:List Nat} {B:Nat},jw v B A n c l->∀ {k:Nat} {cs:Array Value} {t:TypeId},v.heap[k]? =some (.cells cs t (0,0))->t≠eJ->¬bp A=some k:=fun hr _ _ _ hk fJ e=>by
  obtain⟨_,cur,hc⟩:=Row.bS hr e;exact iU hk hc fJ rfl
 refine uz wz L.ok (by omega) (by omega) MO.past MO.ok (by omega) (fun a ha k hk e=>?_) fun A2 n2 c2 l2 HV qL UP acD Li D4 V9=>⟨A2,n2,c2,rfl,?_⟩
 ·have h1:=C1 a.block (MO.nD a ha)
  have h2:=(Ul k hk).1;omega
 have Y2:∀k,F1 k->¬bp rA=some k:=fun k hk e=>by have:=C1 k hk;have:=(Ul k e).1;omega
 have Xn:=SC.aK D4 (fun k hk e=>L.Tg k e hk) Y2;have Qg:=D4.heap EK (HY wz EK (by decide));have PU:=GM.heap L.Sl (fun h=>h);have K8:=D4.heap PU (HY wz PU (by decide));have PI:=GM.heap L.Yo (fun h=>h);have PF:=D4.heap PI (HY wz PI (by decide));have IK:=D4.heap KR (HY wz KR (by decide));have ab8:=D4.size;have Pu:=Xn.map.uL p;rw [show pos p (ids D) 0=some q by rw [<-gL];exact W.pos_eq hq,Option.getD_some]at Pu;refine⟨Pu,⟨p.1,rfl,p.2.1,Cells.bS Qg⟩,Xn.at_,by rw [aD K8];rfl,?_⟩;have ZS:∀k,bp A2=some k->bp rA=some k\/Df.heap.size<=k:=V9;refine wx qL UP (by omega) (by omega) (by omega) fun A3 n3 c3 l3 oO uA UO acC Lh BZ Ll=>⟨A3,n3,c3,rfl,?_⟩;have y0:∀k,bp A2=some k->¬S' k:=fun k hk hs=>by
  rcases ZS k hk with h|h
  ·exact L.Tg k h hs
  ·have:=L.G.low k (.inl hs);omega
 have Ex:∀k,F1 k->¬bp A2=some k:=fun k hf hk=>by
  have:=C1 k hf;have:=(Row.bS qL hk).1;omega
 have G55:=Xn.aK BZ (fun k hk e=>y0 k e hk) Ex;have Hl:=BZ.heap K8 (HY qL K8 (by decide));have PE:=BZ.heap PF (HY qL PF (by decide));have xp:=BZ.heap IK (HY qL IK (by decide));have ab7:=BZ.size;have YK:=sq h ⟨nb,pA,l.length,pc,none,0,0,rA,rn,rc,ws⟩;refine⟨by rw [bu,Nat.zero_add];exact dL xp (by omega),?_⟩;intro Xz Dd;have GL:Kept (· =nb) oO Xz:=by
  show Kept (· =nb) oO (oO.setCell ((⟨nb,0,none⟩:Addr).add 34) (.slice A3 n3 c3))
  exact Kept.setCell (S:=fun k=>k=nb) (Kept.refl _ oO) (by rw [iy];exact fun _=>rfl) _
 have Pd:Xz.heap[nb]? =some (.cells (eN h ⟨nb,pA,l.length,pc,none,0,0,A3,n3,c3,l3⟩) df (0,0)):=by
  show(oO.setCell ((⟨nb,0,none⟩:Addr).add 34) (.slice A3 n3 c3)).heap[nb]? =_;rw [bu,Nat.zero_add,cY xp 34,wL];rfl
 have D3:Kept (· =nb) oO Dd:=GL.drew;have Pc:Dd.heap[nb]? =some (.cells (eN h ⟨nb,pA,l.length,pc,none,0,0,A3,n3,c3,l3⟩) df (0,0)):=Pd;clear_value Dd;clear Pd GL;have ab6:=D3.size;have Xm:=G55.aK D3 (fun k hk e=>L.Th (e▸hk)) (fun k hk e=>by have:=C1 k hk;omega);have PS:=D3.heap Hl (iU Hl xp (by decide));have K4:=D3.heap PE (iU PE xp (by decide));have Ng:jw Dd nb A3 n3 c3 l3:=Row.aK uA D3 (fun k hk e=>by
  subst e;exact HY uA xp (by decide) hk)
 obtain⟨m,hm,Xa⟩:=Xm.get hq;rw [oF]at hm;cases hm;refine⟨m'.cA,m'.cn,m'.cc,Ah Xa,h.1,⟨h.2.1,Cells.bS K4⟩,h.2.1,?_⟩;intro Rv;have TC:Kept Nil Dd Rv:=(Kept.refl _ _).alloc _;have Lg:HS Rv (some ⟨Dd.heap.size,0,none⟩) 1 [h]:=ln Dd h;clear_value Rv;have G62:=Xm.same TC;obtain⟨m,hm,MN⟩:=G62.get hq;rw [oF]at hm;cases hm;refine⟨Ah MN,?_⟩;have Qe:=MN.ch.len;have AG:gQ D h (l.take i) nd.id=fK D p:=by
  unfold gQ;rw [gL,if_neg];intro jX;obtain⟨j,hj⟩:=List.mem_iff_getElem?.1 jX;rw [List.getElem?_take]at hj;split at hj
  ·have:=vv.get (by omega) hj hp
   rw [hZ]at this;cases this
  ·cases hj
 have vC:=pC D fun a=>nf D p a;have Sa:m'.cn<=10000:=by
  rw [<-Qe,AG];unfold fK;omega
 obtain⟨A7,c7,CP,Ur,Nf,Vs,V7⟩:=gz (cx:=1) aW MN.ch Lg (by omega) (Nat.zero_le _);have BY:Kept (fun k=>bp m'.cA=some k) Rv CP:=Kept.grown (Kept.refl _ _) Vs (fun k hk _=>hk);refine⟨A7,_,c7,CP,Ur,?_⟩;have ab5:=TC.size;have OD:=BY.size;refine fX Nf.hs (by omega) fun A5 c5 Jq DD TB=>⟨A5,_,c5,rfl,?_⟩;have ab4:=TB.size;have Pk:=BY.heap MN.bS (fun e=>by
  obtain⟨_,cur,hc⟩:=Row.bS MN.ch e;exact iU MN.bS hc (by decide) rfl)
 have Ez:=TB.heap Pk (fun h=>h);refine⟨by rw [bu,Nat.zero_add];exact dL Ez (by rw [sq];omega),?_⟩;intro zU;have NQ:Kept (· =m'.b) Jq zU:=by
  show Kept (· =m'.b) Jq (Jq.setCell ((⟨m'.b,0,none⟩:Addr).add 33) (.slice A5 (dh (gQ D h (l.take i) nd.id++ [h])).length c5))
  exact Kept.setCell (S:=fun k=>k=m'.b) (Kept.refl _ Jq) (by rw [iy];exact fun _=>rfl) _
 have Pj:zU.heap[m'.b]? =some (.cells (eN nd.id {m' with cA:=A5,cn:=(dh (gQ D h (l.take i) nd.id++ [h])).length,cc:=c5}) df (0,0)):=by
  show(Jq.setCell ((⟨m'.b,0,none⟩:Addr).add 33) (.slice A5 (dh (gQ D h (l.take i) nd.id++ [h])).length c5)).heap[m'.b]? =_;rw [bu,Nat.zero_add,cY Ez 33,wM]
 clear_value zU;have kT:Kept (fun k=>bp m'.cA=some k\/k=m'.b) Dd zU:=
  (((TC.mono (S':=fun k=>bp m'.cA=some k\/k=m'.b) (fun _ _ h=>h.elim)).trans BY (fun _ _ h=>.inl h)).trans TB (fun _ _ h=>h.elim)).trans NQ (fun _ _ h=>.inr h)
 have Eo:cg zU Dd.heap.size A5 (dh (gQ D h (l.take i) nd.id++ [h])).length c5 (dh (gQ D h (l.take i) nd.id++ [h])):=
  Row.base (Row.aK DD NQ (fun k hk e=>by
   subst e;obtain⟨_,cur,hc⟩:=Row.bS DD hk;exact iU Ez hc (by decide) rfl)) (fun k hk=>by have:=(Row.bS DD hk).1;omega)
 have G69:=Xm.upd W hq oF kT Pj Eo;have Hy:∀k,bp A5=some k->Dd.heap.size<=k:=fun k hk=>(Row.bS Eo hk).1;have MF:∀k,(bp m'.cA=some k\/k=m'.b)->S' k:=fun k e=>by
  rcases e with e|rfl
  ·exact Xa.LJ k e
  ·exact Xa.fh
 have hkf:(fun x=>if x=nd.id then dh (gQ D h (l.take i) nd.id++ [h])else gQ D h (l.take i) x)=gQ D h (l.take (i+1)):=by
  funext x
  by_cases hx:x=nd.id
  ·rw [if_pos hx,AG,hx,gL]
   unfold gQ;rw [if_pos ((bI hp).2 (.inr rfl))]
  ·rw [if_neg hx]
   unfold gQ;have:x∈l.take (i+1)↔x∈l.take i:=by
    rw [bI hp];exact⟨fun e=>e.resolve_right (fun e=>hx (by rw [gL];exact e)),.inl⟩
   by_cases hm:x∈l.take i
   ·rw [if_pos hm,if_pos (this.2 hm)]
   ·rw [if_neg hm,if_neg (fun e=>hm (this.1 e))]
 rw [hkf]at G69;rw [eK (n:=(i:Int)) (by omega) (by omega)];have Y0:nb<Dd.heap.size:=bf Pc;have mv:Kept S w0 zU:=by
  have k1:=L.kp.trans GM (fun _ _ h=>h.elim);have k2:=k1.trans D4 (fun k hk e=>absurd (Ul k e).1 (by omega));have k3:=k2.trans BZ (fun k hk e=>absurd (Row.bS qL e).1 (by omega));have k4:=k3.trans D3 (fun k hk e=>by omega);exact k4.trans kT (fun k hk e=>by
   rcases L.new k (MF k e)with h|h
   ·exact h
   ·omega)
 refine hQ _ _ A3 n3 c3 l3 zU ⟨G69,fun k hk=>.inl (L.sub k hk),fun k hk=>?_,kT.heap Pc (fun e=>L.Th (MF _ e)),fun e=>?_,Row.aK Ng kT (fun k hk e=>?_),UO,by omega,fun k hk e=>?_,fun j=>?_,
  kT.heap PS (fun e=>L.XY (MF _ e)),kT.heap K4 (fun e=>L.XX (MF _ e)),fun e=>?_,fun e=>?_,?_,mv⟩
 ·rcases hk with hk|hk
  ·exact L.new k hk
  ·have:=Hy k hk
   have:=L.kp.size;exact .inr (by omega)
 ·rcases e with e|e
  ·exact L.Th e
  ·have:=Hy _ e;omega
 ·have hs:=MF k e
  rcases Ll k hk with h|h
  ·exact y0 k h hs
  ·have:=L.G.low k (.inl hs);omega
 ·have hk3:k<oO.heap.size:=by
   obtain⟨_,cur,hc⟩:=Row.bS uA hk;exact bf hc
  rcases e with e|e
  ·rcases Ll k hk with h|h
   ·exact y0 k h e
   ·have:=L.G.low k (.inl e);omega
  ·have:=Hy _ e;omega
 ·rw [Lh,Bool.or_eq_true,Li,Bool.or_eq_true,L.bits,MO.bits,decide_eq_true_iff]
  constructor
  ·rintro((⟨p',h1,h2⟩|⟨nj,h1,h2⟩)|rfl)
   ·exact⟨p',(bI hp).2 (.inl h1),h2⟩
   ·exact⟨p,(bI hp).2 (.inr rfl),nj,h1,.inr (gL▸h2)⟩
   ·exact⟨p,(bI hp).2 (.inr rfl),nd,hq,.inl gL⟩
  ·rintro⟨p',h1,nj,h2,h3⟩
   rcases(bI hp).1 h1 with h1|rfl
   ·exact .inl (.inl ⟨p',h1,nj,h2,h3⟩)
   ·rcases h3 with h3|h3
    ·exact .inr (W.inj h2 hq (h3.trans gL.symm))
    ·exact .inl (.inr ⟨nj,h2,gL▸h3⟩)
 ·rcases e with e|e
  ·exact L.XY e
  ·have:=Hy _ e;have:=bf PS;omega
 ·rcases e with e|e
  ·exact L.XX e
  ·have:=Hy _ e;have:=bf K4;omega
 ·have hb:∀a,pA=some a->F1 a.block/\a.block<nb:=fun a ha=>⟨IE a ha,C1 _ (IE a ha)⟩
  have k1:=L.hl.same GM;have k2:=k1.aK D4 (fun a ha=>Y2 _ (hb a ha).1);have k3:=k2.aK BZ (fun a ha=>Ex _ (hb a ha).1);have k4:=k3.aK D3 (fun a ha e=>by have:=(hb a ha).2;omega);exact k4.aK kT (fun a ha e=>L.G.C8 _ (MF _ e) (hb a ha).1)
end
theorem M9:AZ prog j0 dQ 1 8:=⟨by kernel_rfl,by kernel_rfl⟩
theorem Fh:Rc prog df=some ([(0,32),(32,1),(33,1),(34,1)],List.replicate 32 (.int .u8 0)++ [.slice none 0 0,.slice none 0 0,.slice none 0 0]):=by kernel_rfl
theorem Fe(h:HT)(b:Nat)(A:Option Addr)(n c:Nat):prog.built df [(0,.agg h.1),(1,.slice A n c)]=some (eN h ⟨b,A,n,c,none,0,0,none,0,0,[]⟩):=by
 have hs:=h.2.1;rw [pX Fh,jB (off:=0) (size:=32) rfl (by simpa [Value.cells]using hs) (by simp),jB (off:=32) (size:=1) rfl rfl (by
  rw [List.size_toArray,mf (by simp [Value.cells,hs])];simp)]
 simp only [Instr.fill,Option.some.injEq];apply Array.ext';unfold gu eN;simp [Value.cells,hs];rw [List.drop_append];simp [hs]
theorem CB(h:HT)(b:Nat):prog.built df [(0,.agg h.1)]=some (eN h ⟨b,none,0,0,none,0,0,none,0,0,[]⟩):=by
 have hs:=h.2.1;rw [pX Fh,jB (off:=0) (size:=32) rfl (by simpa [Value.cells]using hs) (by simp)];simp only [Instr.fill,Option.some.injEq];apply Array.ext';unfold gu eN;simp [Value.cells,hs]
section
variable{D:DG}{h:HT}{l:List HT}
theorem zB(W:jZ D)(hn:h∉ids D){x:HT}:gQ D h l x=fK (D++ [⟨h,l⟩]) x:=by
 have jX:∀a,a∈fK (D++ [⟨h,l⟩]) x↔(a∈fK D x\/(a=h/\x∈l)):=fun a=>by
  unfold fK;rw [jL,jL,lO,jM,List.mem_append,List.mem_singleton];constructor
  ·rintro⟨h1,h2|⟨h2,h3⟩⟩
   ·exact .inl ⟨(fG.mem W (.one h2)).2,h2⟩
   ·exact .inr ⟨h2.symm,h3⟩
  ·rintro(⟨h1,h2⟩|⟨rfl,h2⟩)
   ·exact⟨.inl h1,.inl h2⟩
   ·exact⟨.inr rfl,.inr ⟨rfl,h2⟩⟩
 unfold gQ;by_cases sH:x∈l
 ·rw [if_pos sH]
  refine(yp (l:=fK (D++ [⟨h,l⟩]) x) (iL _) fun a=>?_).symm;rw [jX,List.mem_append,List.mem_singleton];exact⟨fun e=>e.imp (fun e=>e) (fun e=>e.1),fun e=>e.imp (fun e=>e) (fun e=>⟨e,sH⟩)⟩
 ·rw [if_neg sH]
  refine vQ (iL _) (iL _) fun a=>?_;have:=jX a;unfold fK pick at this⊢;rw [this];exact⟨.inl,fun e=>e.resolve_right (fun e=>sH e.2)⟩
theorem Cz(W:jZ D)(hn:h∉ids D)(gM:∀p∈l,p∈ids D):fK (D++ [⟨h,l⟩]) h= []:=by
 cases hc:fK (D++ [⟨h,l⟩]) h with
 |nil=>rfl
 |cons b t=>
  exfalso;have:b∈fK (D++ [⟨h,l⟩]) h:=by rw [hc];simp
  rcases lO.1 (jL.1 this).2 with h1|⟨_,h2⟩
  ·exact hn (fG.mem W (.one h1)).1
  ·exact hn (gM h h2)
theorem Fi(W:jZ D)(hn:h∉ids D){x:HT}(hx:x∈ids D)(j:Nat):(∃nj,(D++ [⟨h,l⟩])[j]? =some nj/\fG (D++ [⟨h,l⟩]) nj.id x)↔∃nj,D[j]? =some nj/\fG D nj.id x:=by
 constructor
 ·rintro⟨nj,h1,h2⟩
  have sO:=(iw W (nd:=⟨h,l⟩) hn hx).1 h2;rw [List.getElem?_append]at h1;split at h1
  ·exact⟨nj,h1,sO⟩
  ·exfalso
   have:nj=⟨h,l⟩:=by
    cases hk:j-D.length with
    |zero=>rw [hk]at h1;simpa using h1.symm
    |succ k=>rw [hk]at h1;simp at h1
   subst this;exact hn (sO.mem W).1
 ·rintro⟨nj,h1,h2⟩
  exact⟨nj,by rw [List.getElem?_append_left (lgeS h1).1];exact h1,(iw W (nd:=⟨h,l⟩) hn hx).2 h2⟩
theorem Fj(W:jZ D)(hn:h∉ids D)(gM:∀p∈l,p∈ids D)(hs:SS l)(j:Nat):
 (∃nj,(D++ [⟨h,l⟩])[j]? =some nj/\fG (D++ [⟨h,l⟩]) nj.id h)↔∃p∈l,∃nj,D[j]? =some nj/\(nj.id=p\/fG D nj.id p):=by
 have W':jZ (D++ [⟨h,l⟩]):=W.snoc (nd:=⟨h,l⟩) hn gM hs;have fu:(D++ [⟨h,l⟩])[D.length]? =some ⟨h,l⟩:=by rw [List.getElem?_append_right (Nat.le_refl _),Nat.sub_self];rfl
 have key:∀a,fG (D++ [⟨h,l⟩]) a h↔∃p∈l,a=p\/fG D a p:=fun a=>by
  rw [AW W' fu a];constructor
  ·rintro⟨p,hp,e⟩
   exact⟨p,hp,e.imp (fun e=>e) (fun e=>(iw W (nd:=⟨h,l⟩) hn (gM p hp)).1 e)⟩
  ·rintro⟨p,hp,e⟩
   exact⟨p,hp,e.imp (fun e=>e) (fun e=>(iw W (nd:=⟨h,l⟩) hn (gM p hp)).2 e)⟩
 constructor
 ·rintro⟨nj,h1,h2⟩
  obtain⟨p,hp,e⟩:=(key _).1 h2;have hid:nj.id∈ids D:=by
   rcases e with e|e
   ·rw [e];exact gM p hp
   ·exact(e.mem W).1
  rw [List.getElem?_append]at h1;split at h1
  ·exact⟨p,hp,nj,h1,e⟩
  ·exfalso
   have:nj=⟨h,l⟩:=by
    cases hk:j-D.length with
    |zero=>rw [hk]at h1;simpa using h1.symm
    |succ k=>rw [hk]at h1;simp at h1
   subst this;exact hn hid
 ·rintro⟨p,hp,nj,h1,e⟩
  exact⟨nj,by rw [List.getElem?_append_left (lgeS h1).1];exact h1,(key _).2 ⟨p,hp,e⟩⟩
end
section
variable{w w':World}{S F F':Nat->Prop}{g bl c mb:Nat}{D:DG}{C:HT->List HT}{M:List NM}{K:Value->World->Prop}
theorem GV.Ns(G:GV w S F g D C bl c mb M)(hf:∀k,F k->F' k)(hd:∀k,S k->¬F' k)(hl:∀k,F' k->k<w.heap.size):GV w S F' g D C bl c mb M:=
 ⟨G.top,G.row,G.map,G.len,fun i nd m h1 h2=>by
   have N:=G.node i nd m h1 h2;exact⟨N.bS,N.fh,N.ps,fun a ha=>hf _ (N.Gn a ha),N.ch,N.LJ,N.past,fun a ha=>hf _ (N.nD a ha),N.ok,N.bits,N.small⟩,G.apart,G.gg,G.qY,G.sX,hd,fun k hk=>hk.elim (fun h=>G.low k (.inl h)) (hl k)⟩
theorem HR{w0:World}{F1 S':Nat->Prop}{h:HT}{l:List HT}{gb ib nb:Nat}{pA:Option Addr}{pc i:Nat}{rA:Option Addr}{rn rc:Nat}{ws:List Nat}
 (L:AL w0 w S F1 S' g D h l gb ib nb pA pc i bl c mb M rA rn rc ws) (W:jZ D) (hD:D.length<=5000) (vv:SS l) (gM:∀p∈l,p∈ids D) (hn:h∉ids D) (C1:∀k,F1 k->k<nb) (IE:∀a,pA=some a->F1 a.block) (h0:w0.heap.size<=nb) (fg:l.length<=i)
 (hK:∀v S2 F2,Ba v S2 F2 g (D++ [⟨h,l⟩])->Kept S w0 v->(∀k,S2 k->S k\/w0.heap.size<=k)->(∀k,F2 k->F1 k\/w0.heap.size<=k)->K (.int .i64 0) v):
 br.CK ⟨gb,0,none⟩ ⟨ib,0,none⟩ 0 ⟨nb,0,none⟩ pA l.length pc (l.length:Int) (i:Int) K w:=by
 have FI:l.take i=l:=List.take_of_length_le fg;have hG:=L.G;rw [FI]at hG;have I0:=L.bits;rw [FI]at I0;unfold br.CK;intro L5;have Ic:Kept Nil w L5:=(Kept.refl _ _).drew;clear_value L5;have rR:=hG.same Ic;have Hk:=Ic.heap L.Sl (fun h=>h);have Ey:=Ic.heap L.node (fun h=>h);have z8:jw L5 nb rA rn rc ws:=Row.aK L.row Ic (fun _ _ h=>h);refine⟨some ⟨g,0,none⟩,by rw [aD Hk];rfl,some mb,rR.at_,h.1,⟨h.2.1,Cells.bS (Ic.heap L.Yo (fun h=>h))⟩,some ⟨g,0,none⟩,by rw [aD Hk];rfl,?_⟩;refine⟨_,_,_,rR.nodes,?_⟩;obtain⟨Xx,OJ,Nw,k85⟩:=rR.map.put hn;rw [jG]at OJ;refine⟨Xx,OJ,?_⟩;intro Gb;have JS:Kept (· =mb) L5 Gb:=k85.drew;have H9:IsMap Gb mb (ids D++ [h]):=Nw.aK ((Kept.refl Nil Xx).drew) (fun h=>h);clear_value Gb;have Gg:∀ {v:World} {k:Nat} {cs:Array Value} {t:TypeId},IsMap v mb (ids D)->v.heap[k]? =some (.cells cs t (0,0))->k≠mb:=fun hm hk e=>by
  obtain⟨es,clock,Hd,_⟩:=hm.ex;rw [e,Hd]at hk;cases hk
 have K7:=JS.heap Hk (Gg rR.map Hk);have acB:=JS.heap Ey (Gg rR.map Ey);have Ek:=JS.heap rR.top (Gg rR.map rR.top);have Nc:Row Gb 0 dQ 1 (some ⟨bl,0,none⟩) D.length c (M.map fun m=>.pointer (some ⟨m.b,0,none⟩)):=Row.aK rR.row JS (fun k hk e=>by
  obtain⟨_,cur,hc⟩:=Row.bS rR.row hk;exact Gg rR.map hc e)
 have Td:jw Gb nb rA rn rc ws:=Row.aK z8 JS (fun k hk e=>by
  obtain⟨_,cur,hc⟩:=Row.bS z8 hk;exact Gg rR.map hc e)
 refine⟨some ⟨g,0,none⟩,by rw [aD K7];rfl,some ⟨g,0,none⟩,by rw [aD K7];rfl,?_⟩;refine⟨some ⟨bl,0,none⟩,D.length,c,by rw [add_zero,aD Ek];rfl,?_⟩;intro Jo;have Me:Kept Nil Gb Jo:=(Kept.refl _ _).alloc _;have V6:Jo.heap[Gb.heap.size]? =some (.cells #[.pointer (some ⟨nb,0,none⟩)] dQ (0,0)):=aR Gb _;clear_value Jo;have Hj:=Me.heap K7 (fun h=>h);have yR:=Me.heap Ek (fun h=>h);refine⟨by rw [add_zero,aD yR];rfl,by rw [aD Hj];rfl,by rw [aD Hj];rfl,?_⟩;have DB:Row Jo 0 dQ 1 (some ⟨bl,0,none⟩) D.length c (M.map fun m=>.pointer (some ⟨m.b,0,none⟩)):=Row.aK Nc Me (fun _ _ h=>h);obtain⟨SE,MK,Jn,Uo,DA,PM,V4⟩:=iu (P:=prog) (t:=j0) (ty:=j0) (bytes:=8) M9 DB (a:=⟨Gb.heap.size,0,none⟩) (m:=1) (cx:=1) (news:= [.pointer (some ⟨nb,0,none⟩)]) rfl
  (fun j u hj=>by rw [bu,Nat.zero_add,aD V6];simpa using hj) (fun u hu=>by simp at hu;subst hu;rfl) (by omega) (by unfold maxLen;omega) (Nat.zero_le _)
 have RF:Kept (· =bl) Jo Jn:=Kept.grown (S:=fun k=>k=bl) (Kept.refl _ _) PM (fun k hk _=>by cases hk;rfl);refine⟨SE,_,MK,Jn,Uo,?_⟩;have XE:∀ {k:Nat} {cs:Array Value} {t:TypeId},Jo.heap[k]? =some (.cells cs t (0,0))->t≠dQ->k≠bl:=fun hk fJ=>by
  obtain⟨_,cur,hc⟩:=Row.bS DB (k:=bl) rfl;exact iU hk hc fJ
 have Vr:=RF.heap Hj (XE Hj (by decide));have vt:=RF.heap yR (XE yR (by decide));refine⟨by rw [aD Vr];rfl,by rw [add_zero];exact dL vt (by simp),?_⟩;intro Fx;have Tz:Kept (· =g) Jn Fx:=by
  show Kept (· =g) Jn (Jn.setCell ((⟨g,0,none⟩:Addr).add 0) (.slice SE (D.length+1) MK))
  exact Kept.setCell (S:=fun k=>k=g) (Kept.refl _ Jn) (by rw [iy];exact fun _=>rfl) _
 have Ky:Fx.heap[g]? =some (.cells #[.slice SE (D.length+1) MK,.map (some mb)] fS (0,0)):=by
  show(Jn.setCell ((⟨g,0,none⟩:Addr).add 0) (.slice SE (D.length+1) MK)).heap[g]? =_;rw [add_zero,cY vt 0];rfl
 clear_value Fx;obtain⟨MM,rfl⟩:=Row.some DA (by omega);have ab2:=JS.size;have ab1:=Me.size;have mv:Kept (fun k=>k=g\/k=bl\/k=mb) L5 Fx:=
  (((JS.mono (S':=fun k=>k=g\/k=bl\/k=mb) (fun _ _ h=>.inr (.inr h))).trans Me (fun _ _ h=>h.elim)).trans RF (fun _ _ h=>.inr (.inl h))).trans Tz (fun _ _ h=>.inl h)
 have ZL:∀k,F1 k->¬(k=g\/k=bl\/k=mb):=fun k hk e=>by
  rcases e with rfl|rfl|rfl
  ·exact rR.C8 _ rR.gg hk
  ·exact rR.C8 _ rR.qY hk
  ·exact rR.C8 _ rR.sX hk
 have ty:∀ {k:Nat} {cs:Array Value} {t:TypeId},L5.heap[k]? =some (.cells cs t (0,0))->t≠fS->t≠dQ->¬(k=g\/k=bl\/k=mb):=fun hk h1 h2 e=>by
  rcases e with e|e|e
  ·rw [e]at hk
   exact iU hk rR.top h1 rfl
  ·rw [e]at hk
   obtain⟨_,cur,hc⟩:=Row.bS rR.row (k:=bl) rfl;exact iU hk hc h2 rfl
  ·exact Gg rR.map hk e
 have yU:Row Fx 0 dQ 1 (some ⟨MM,0,none⟩) (D.length+1) MK ((M.map fun m=>.pointer (some ⟨m.b,0,none⟩))++ [.pointer (some ⟨nb,0,none⟩)]):=Row.aK DA Tz (fun k hk e=>by
  obtain⟨_,cur,hc⟩:=Row.bS DA hk;exact iU hc vt (by decide) e)
 have Nv:IsMap Fx mb (ids D++ [h]):=by
  obtain⟨es,clock,Hd,_⟩:=H9.ex;have h1:=H9.aK Me (fun h=>h);have h2:=h1.aK RF (fun e=>by
   obtain⟨_,cur,hc⟩:=Row.bS DB (k:=bl) rfl;obtain⟨_,_,oF,_⟩:=h1.ex;rw [e,hc]at oF;cases oF)
  exact h2.aK Tz (fun e=>by
   obtain⟨_,_,oF,_⟩:=h2.ex;rw [e,vt]at oF;cases oF)
 have KQ:=mv.heap Ey (ty Ey (by decide) (by decide));have vh:jw Fx nb rA rn rc ws:=Row.aK z8 mv (fun k hk e=>by
  obtain⟨_,cur,hc⟩:=Row.bS z8 hk;exact ty hc (by decide) (by decide) e)
 have EA:(D++ [(⟨h,l⟩:DN)]).length=D.length+1:=by simp
 have Qt:MM=bl\/Jo.heap.size<=MM:=by
  rcases V4 MM rfl with e|e
  ·exact .inl (by cases e;rfl)
  ·exact .inr e
 have nN:=L.kp.size;have ab3:=Ic.size;have UY:=bf Ey;have OI:∀k,bp rA=some k->nb<=k/\k<Fx.heap.size:=fun k hk=>by
  obtain⟨h1,cur,hc⟩:=Row.bS vh hk;exact⟨h1,bf hc⟩
 have fu:∀ {X:Type} (xs:List X) (y:X) (j:Nat) (z:X),(xs++ [y])[j]? =some z->(j<xs.length/\xs[j]? =some z)\/(j=xs.length/\z=y):=fun xs y j z e=>by
  rw [List.getElem?_append]at e;split at e
  ·rename_i cK;exact .inl ⟨cK,e⟩
  ·rename_i iK
   cases hk:j-xs.length with
   |zero=>rw [hk]at e;exact .inr ⟨by omega,by simpa using e.symm⟩
   |succ k=>rw [hk]at e;simp at e
 refine hK Fx (fun k=>S' k\/k=nb\/k=MM) (fun k=>F1 k\/bp rA=some k) ⟨MM,MK,mb,M++ [⟨nb,pA,l.length,pc,none,0,0,rA,rn,rc,ws⟩],?_⟩ ?_ ?_ ?_
 ·refine⟨by rw [EA];exact Ky,?_,by rw [jM];exact Nv,by simp [hG.len],fun j nd m h1 h2=>?_,fun j j' m m' h1 h2 fJ k hk mZ=>?_,.inl hG.gg,.inr (.inr rfl),.inl hG.sX,fun k hk hf=>?_,fun k hk=>?_⟩
  ·rw [EA,List.map_append]
   exact yU
  ·rcases fu _ _ _ _ h1 with⟨hj,qU⟩|⟨hj,rfl⟩
   ·rcases fu _ _ _ _ h2 with⟨_,sO⟩|⟨uT,_⟩
    ·have N:=rR.node j nd m qU sO
     have hid:nd.id∈ids D:=dz.2 ⟨nd,List.mem_of_getElem? qU,rfl⟩;have hF:∀k,F1 k->¬(k=g\/k=bl\/k=mb):=ZL;rw [<-zB W hn];refine⟨mv.heap N.bS (ty N.bS (by decide) (by decide)),.inl N.fh,N.ps.aK mv (fun a ha=>hF _ (N.Gn a ha)),fun a ha=>.inl (N.Gn a ha),Row.aK N.ch mv (fun k hk e=>?_),fun k hk=>.inl (N.LJ k hk),N.past.aK mv (fun a ha=>hF _ (N.nD a ha)),fun a ha=>.inl (N.nD a ha),N.ok,fun j=>?_,N.small⟩
     ·obtain⟨cur,hc⟩:=(Row.bS N.ch hk).2
      exact ty hc (by decide) (by decide) e
     ·rw [N.bits,Fi W hn hid]
    ·rw [hG.len]at uT;omega
   ·rcases fu _ _ _ _ h2 with⟨uT,_⟩|⟨_,rfl⟩
    ·rw [hG.len]at uT;omega
    ·rw [Cz W hn gM]
     refine⟨KQ,.inr (.inl rfl),(L.hl.same Ic).aK mv (fun a ha=>ZL _ (IE a ha)),fun a ha=>.inl (IE a ha),cg.nil _ _,(fun k hk=>by cases hk),vh.us,fun a ha=>.inr (congrArg bp ha),L.ok,fun j=>?_,L.small⟩;rw [I0,Fj W hn gM vv]
  ·rcases fu _ _ _ _ h1 with⟨_,qU⟩|⟨_,rfl⟩
   ·rcases fu _ _ _ _ h2 with⟨_,sO⟩|⟨_,rfl⟩
    ·exact hG.apart j j' m m' qU sO fJ k hk mZ
    ·cases mZ
   ·cases hk
  ·rcases hk with hk|rfl|rfl
   ·rcases hf with hf|hf
    ·exact hG.C8 k hk hf
    ·exact L.Tg k hf hk
   ·rcases hf with hf|hf
    ·have:=C1 k hf;omega
    ·obtain⟨_,cur,hc⟩:=Row.bS vh hf
     exact iU KQ hc (by decide) rfl
   ·rcases hf with hf|hf
    ·rcases Qt with e|e
     ·rw [e]at hf;exact hG.C8 _ hG.qY hf
     ·have:=C1 _ hf;omega
    ·obtain⟨_,cur,hc⟩:=Row.bS vh hf
     obtain⟨_,Q7,sM⟩:=Row.bS yU (k:=k) rfl;exact iU sM hc (by decide) rfl
  ·have ab0:=mv.size
   rcases hk with(hk|rfl|rfl)|hk|hk
   ·have:=rR.low k (.inl hk);omega
   ·exact bf KQ
   ·obtain⟨_,Q7,sM⟩:=Row.bS yU (k:=k) rfl
    exact bf sM
   ·have:=rR.low k (.inr hk);omega
   ·exact(OI k hk).2
 ·exact(L.kp.trans Ic (fun _ _ h=>h.elim)).trans mv (fun k hk e=>by
   have hs:S' k:=by
    rcases e with rfl|rfl|rfl
    ·exact hG.gg
    ·exact hG.qY
    ·exact hG.sX
   rcases L.new k hs with h|h
   ·exact h
   ·omega)
 ·intro k hk
  rcases hk with hk|rfl|rfl
  ·exact L.new k hk
  ·exact .inr h0
  ·rcases Qt with e|e
   ·rw [e];exact L.new _ hG.qY
   ·exact .inr (by omega)
 ·intro k hk
  rcases hk with hk|hk
  ·exact .inl hk
  ·exact .inr (by have:=(OI k hk).1;omega)
theorem HJ(G:GV w S F g D (fK D) bl c mb M)(W:jZ D)(hD:D.length<=5000){A:Option Addr}{n cx:Nat}{lp:List HT}(hl:HS w A n lp)(hn:n<=10000)(h:HT)
 (hK:∀v S2 F2,Ba v S2 F2 g (mE D h lp)->Kept S w v->(∀k,S2 k->S k\/w.heap.size<=k)->(∀k,F2 k->F k\/w.heap.size<=k)->K (.int .i64 (eA D h lp)) v):
 bm prog br.id #[.pointer (some ⟨g,0,none⟩),.agg h.1,.slice A n cx] w K:=by
 have hlen:=hl.len;have rN:∀v,Kept Nil w v->∀e,eA D h lp=e->e≠0->K (.int .i64 e) v:=fun v k e he fJ=>by
  have:=hK v S F ?_ (k.mono fun _ _ h=>h.elim) (fun _ h=>.inl h) (fun _ h=>.inl h)
  ·rw [he]at this;exact this
  ·unfold mE
   rw [if_neg (by rw [he];exact fJ)];exact⟨bl,c,mb,M,G.same k⟩
 refine br.of ?_;unfold br.W;intro w4 w5;have k4:Kept Nil w w4:=(Kept.refl _ _).alloc _;have Zq:w4.heap[w.heap.size]? =some (.cells #[.pointer (some ⟨g,0,none⟩)] fZ (0,0)):=aR w _;have k5:Kept Nil w4 w5:=(Kept.refl _ _).alloc _;have PH:w5.heap[w4.heap.size]? =some (.cells h.1 ax (0,0)):=aR w4 _;have PT:=k5.heap Zq (fun h=>h);clear_value w5;have Tq:Kept Nil w w5:=k4.tt k5;have PO:w.heap.size<w4.heap.size:=bf Zq;have ac0:w4.heap.size<w5.heap.size:=bf PH;clear_value w4;refine fX (hl.same Tq) (by omega) fun C9 Rb w7 yw k7=>⟨C9,_,Rb,rfl,?_⟩;have DU:Kept Nil w w7:=Tq.tt k7;have PR:=k7.heap PT (fun h=>h);have Zk:=k7.heap PH (fun h=>h);have G7:=G.same DU;have FJ:(dh lp).length<=n:=by have:=nY lp;omega
 refine⟨some ⟨g,0,none⟩,by rw [aD PR];rfl,u6 G7 ⟨true,rfl,Split.no rfl ?_⟩⟩;refine⟨some ⟨g,0,none⟩,by rw [aD PR];rfl,h.1,⟨h.2.1,Cells.bS Zk⟩,pV G7 h fun lr tT=>⟨_,rfl,?_⟩⟩;have DW:=DU.tt tT;by_cases hm:h∈ids D
 ·refine Split.yes (decide_eq_true hm) (rN lr DW 7 ?_ (by omega))
  unfold eA;rw [if_pos hm]
 refine Split.no (decide_eq_false hm) ?_;by_cases h0:(dh lp).length=0
 ·refine Split.yes (by simp [h0]) (rN lr DW 9 ?_ (by omega))
  unfold eA;rw [if_neg hm,if_pos (.inl h0)]
 refine Split.no (beq_eq_false_iff_ne.2 (by omega)) ?_;by_cases h1:(dh lp).length≠n
 ·refine Split.yes (bne_iff_ne.2 (by omega)) (rN lr DW 9 ?_ (by omega))
  unfold eA;rw [if_neg hm,if_pos (.inr (by omega))]
 replace h1:(dh lp).length=n:=by omega
 refine Split.no (by rw [h1];simp) ?_;have PV:=tT.heap PR (fun h=>h);have H4:=Row.aK yw tT (fun _ _ h=>h);refine xJ (G.same DW) PV (cg.hs H4) (by omega) fun p9 x hx Av=>⟨x,rfl,?_⟩;have DV:=DW.tt Av;cases x with
 |true=>
  refine Split.yes rfl (rN p9 DV 6 ?_ (by omega));unfold eA;rw [if_neg hm,if_neg (by omega),if_pos (hx.1 rfl)]
 |false=>
  have gM:∀p∈dh lp,p∈ids D:=fun p hp=>Classical.byContradiction fun UU=>by have:=hx.2 ⟨p,hp,UU⟩;cases this
  have ZC:eA D h lp=0:=by
   unfold eA;rw [if_neg hm,if_neg (by omega),if_neg (fun⟨p,hp,RW⟩=>RW (gM p hp))]
  have hD':mE D h lp=D++ [⟨h,dh lp⟩]:=by unfold mE;rw [if_pos ZC]
  rw [ZC,hD']at hK;refine Split.no rfl ?_;have PJ:=Av.heap (tT.heap Zk (fun h=>h)) (fun h=>h);have Vv:=Av.heap PV (fun h=>h);have uB:cg p9 w5.heap.size C9 (dh lp).length Rb (dh lp):=Row.aK H4 Av (fun _ _ h=>h);refine⟨h.1,⟨h.2.1,Cells.bS PJ⟩,?_⟩;rw [Fe h p9.heap.size];refine Is.mk rfl ?_;intro Fz;have JZ:Kept Nil p9 Fz:=(Kept.refl _ _).alloc _;have UZ:Fz.heap[p9.heap.size]? =some (.cells (eN h ⟨p9.heap.size,C9,(dh lp).length,Rb,none,0,0,none,0,0,[]⟩) df (0,0)):=aR p9 _;clear_value Fz;have ND:=DV.tt JZ;have Ly:∀k,bp C9=some k->w5.heap.size<=k/\k<p9.heap.size:=fun k hk=>by
   obtain⟨e1,cur,hc⟩:=Row.bS uB hk;exact⟨e1,bf hc⟩
  have YO:=Tq.size;have ace:=DV.size;have C1:∀k,(F k\/bp C9=some k)->k<p9.heap.size:=fun k hk=>by
   rcases hk with hk|hk
   ·have:=G.low k (.inr hk);omega
   ·exact(Ly k hk).2
  have Hx:∀k,S k->k<w.heap.size:=fun k hk=>G.low k (.inl hk);have G23:GV Fz S (fun k=>F k\/bp C9=some k) g D (fK D) bl c mb M:=(G.same ND).Ns (fun _ h=>.inl h) (fun k hs e=>by
   rcases e with e|e
   ·exact G.C8 k hs e
   ·have:=Hx k hs;have:=(Ly k e).1;omega) (fun k hk=>by have:=C1 k hk;have:=JZ.size;omega)
  have AG:gQ D h ((dh lp).take 0)=fK D:=by
   funext y
   unfold gQ;rw [if_neg (by simp)]
  have L0:AL w Fz S (fun k=>F k\/bp C9=some k) S g D h (dh lp) w.heap.size w4.heap.size p9.heap.size C9 Rb 0 bl c mb M none 0 0 []:=
   ⟨by rw [AG];exact G23,fun _ h=>h,fun _ h=>.inl h,UZ,fun e=>by have:=Hx _ e;omega,Row.nil _ _ _ _,by simp [okW],by omega,(fun k hk=>by cases hk),fun j=>by simp [vJ],JZ.heap Vv (fun h=>h),JZ.heap PJ (fun h=>h),
     fun e=>by have:=Hx _ e;omega,fun e=>by have:=Hx _ e;omega,(uB.hs).same JZ,ND.mono fun _ _ h=>h.elim⟩
  refine br.cf (I:=fun s v=>∃(i:Nat) (S2:Nat->Prop) (M2:List NM) (rA:Option Addr) (rn rc:Nat) (ws:List Nat),s=(i:Int)/\i<=(dh lp).length/\AL w v S (fun k=>F k\/bp C9=some k) S2 g D h (dh lp) w.heap.size w4.heap.size p9.heap.size C9 Rb i bl c mb M2 rA rn rc ws)
   (μ:=fun s _=>(((dh lp).length:Int)-s).toNat) (s:=0) ⟨0,S,M,none,0,0,[],rfl,Nat.zero_le _,L0⟩ ?_
  rintro s v ⟨i,S2,M2,rA,rn,rc,ws,rfl,hi,L⟩;have IE:∀a,C9=some a->F a.block\/bp C9=some a.block:=fun a ha=>.inr (by rw [ha];rfl);by_cases fg:i<(dh lp).length
  ·refine CH L W (by omega) (iL _) gM C1 IE (by omega) fg (by omega) fun S3 M3 rA3 rn3 rc3 ws3 v3 L3=>?_
   exact⟨(i:Int)+1,rfl,⟨i+1,S3,M3,rA3,rn3,rc3,ws3,rfl,fg,L3⟩,by simp only;omega⟩
  ·refine Split.no (decide_eq_false (by omega)) ?_
   rw [aY,br.Jl];refine HR L W hD (iL _) gM hm C1 IE (by omega) (by omega) fun v2 S4 F4 hI Px hS4 hF4=>hK v2 S4 F4 hI Px hS4 (fun k hk=>?_);rcases hF4 k hk with(e|e)|e
   ·exact .inl e
   ·exact .inr (by have:=(Ly k e).1;omega)
   ·exact .inr e
end
def nz(nb:Nat):NM:=⟨nb,none,0,0,none,0,0,none,0,0,[]⟩
structure NP(w v:World)(r:HT)(A B E:Option Nat)(l:List HT):Prop where
 kp:Kept Nil w v
 node:∀b,A=some b->w.heap.size<=b/\v.heap[b]? =some (.cells (eN r (nz b)) df (0,0))
 list:∀b,B=some b->w.heap.size<=b/\∃nb,A=some nb/\v.heap[b]? =some (.cells #[.pointer (some ⟨nb,0,none⟩)] dQ (0,0))
 map:∀b,E=some b->w.heap.size<=b/\IsMap v b l
section
variable{w v:World}{r:HT}{A B E:Option Nat}{l:List HT}{K:Value->World->Prop}
theorem NP.grow(h:NP w v r A B E l)(o:Obj):NP w (v.alloc o) r A B E l:=
 ⟨h.kp.alloc o,fun b e=>⟨(h.node b e).1,jE (h.node b e).2 o⟩,fun b e=>⟨(h.list b e).1,let ⟨nb,h1,h2⟩:=(h.list b e).2;⟨nb,h1,jE h2 o⟩⟩,fun b e=>⟨(h.map b e).1,(h.map b e).2.aK ((Kept.refl Nil v).alloc o) (fun h=>h)⟩⟩
theorem NP.addNode(h:NP w v r none none E l):NP w (v.alloc (.cells (eN r (nz v.heap.size)) df)) r (some v.heap.size) none E l:=
 have g:=h.grow (.cells (eN r (nz v.heap.size)) df)
 ⟨g.kp,fun b e=>by cases e;exact⟨h.kp.size,aR v _⟩,fun b e=>(by cases e),g.map⟩
theorem NP.oA{nb:Nat}(h:NP w v r (some nb) none E l):NP w (v.alloc (.cells #[.pointer (some ⟨nb,0,none⟩)] dQ)) r (some nb) (some v.heap.size) E l:=
 have g:=h.grow (.cells #[.pointer (some ⟨nb,0,none⟩)] dQ)
 ⟨g.kp,g.node,fun b e=>by cases e;exact⟨h.kp.size,nb,rfl,aR v _⟩,g.map⟩
theorem NP.zK(h:NP w v r A B none []):NP w (v.alloc (.map #[] 0)) r A B (some v.heap.size) []:=
 have g:=h.grow (.map #[] 0)
 ⟨g.kp,g.node,g.list,fun b e=>by cases e;exact⟨h.kp.size,⟨#[],0,aR v _,trivial⟩⟩⟩
theorem NP.put{mb:Nat}(h:NP w v r A B (some mb) []):∃v',(Instr.mapUpdate b0 (.map (some mb)) (.agg r.1) (.int .i64 0)).run prog v=.ok () v'/\NP w v' r A B (some mb) [r]:=by
 obtain⟨h1,h2⟩:=h.map mb rfl;obtain⟨v',hr,hm,hk⟩:=h2.put (h:=r) (by simp);have Gg:∀ {k:Nat} {cs:Array Value} {t:TypeId},v.heap[k]? =some (.cells cs t (0,0))->¬(k=mb):=fun hk e=>by
  obtain⟨es,clock,Hd,_⟩:=h2.ex;rw [e,Hd]at hk;cases hk
 refine⟨v',hr,h.kp.trans hk (fun k hk e=>by omega),fun b e=>⟨(h.node b e).1,hk.heap (h.node b e).2 (Gg (h.node b e).2)⟩,fun b e=>⟨(h.list b e).1,?_⟩,fun b e=>by cases e;exact⟨h1,hm⟩⟩;obtain⟨nb,e1,e2⟩:=(h.list b e).2;exact⟨nb,e1,hk.heap e2 (Gg e2)⟩
theorem qo(r:HT){a b:HT}:¬nf [(⟨r,[]⟩:DN)] a b:=fun⟨nd,h1,_,h2⟩=>by
 simp at h1;subst h1;simp at h2
theorem wB(r:HT){a b:HT}:¬fG [(⟨r,[]⟩:DN)] a b:=fun h=>by
 cases h with
 |one h=>exact qo r h
 |more _ h=>exact qo r h
theorem NP.fin{w0:World}{nb lb mb:Nat}(h:NP w v r (some nb) (some lb) (some mb) [r])(hw:w0.heap.size<=w.heap.size):
 Ba (v.alloc (.cells #[.slice (some ⟨lb,0,none⟩) 1 1,.map (some mb)] fS)) (fun k=>w0.heap.size<=k/\k<(v.alloc (.cells #[.slice (some ⟨lb,0,none⟩) 1 1,.map (some mb)] fS)).heap.size) (fun _=>False) v.heap.size [⟨r,[]⟩]:=by
 have g:=h.grow (.cells #[.slice (some ⟨lb,0,none⟩) 1 1,.map (some mb)] fS);have jr:=aR v (.cells #[.slice (some ⟨lb,0,none⟩) 1 1,.map (some mb)] fS);generalize v.alloc (.cells #[.slice (some ⟨lb,0,none⟩) 1 1,.map (some mb)] fS)=u at g jr;have hs:=h.kp.size;obtain⟨n1,n2⟩:=g.node nb rfl;obtain⟨l1,nb',e,l2⟩:=g.list lb rfl;cases e;obtain⟨m1,m2⟩:=g.map mb rfl;have mR:fK [⟨r,[]⟩] r= []:=by
  cases hc:fK [⟨r,[]⟩] r with
  |nil=>rfl
  |cons b t=>exact absurd (jL.1 (show b∈fK [⟨r,[]⟩] r by rw [hc];simp)).2 (qo r)
 refine⟨lb,1,mb,[nz nb],jr,Row.made (n:=1) (cur:= #[.pointer (some ⟨nb,0,none⟩)]) l2 (Nat.zero_le _) rfl (by decide),m2,rfl,fun i nd m hi hm=>?_,fun i j m m' h1 h2 fJ k hk=>?_,⟨by omega,bf jr⟩,⟨by omega,bf l2⟩,⟨by omega,m2.lt⟩,fun _ _ h=>h,fun k hk=>hk.elim (fun h=>h.2) (fun h=>h.elim)⟩
 ·cases i with
  |zero=>
   simp at hi hm;subst hi;subst hm;refine⟨n2,⟨Nat.le_trans hw n1,bf n2⟩,HS.nil _ _,(fun a ha=>by cases ha),?_,(fun k hk=>by cases hk),⟨rfl,fun i x hx=>by simp [nz]at hx⟩,(fun a ha=>by cases ha),by simp [okW,nz],fun j=>?_,by simp [nz]⟩
   ·show cg u 0 none 0 0 (fK [⟨r,[]⟩] r)
    rw [mR];exact cg.nil _ _
   ·show bit [] j=true↔_
    rw [vJ];exact⟨(fun h=>by cases h),fun⟨nj,_,h⟩=>absurd h (wB r)⟩
  |succ i=>simp at hi
 ·have hm:m=nz nb:=by
   have:=List.mem_of_getElem? h1;simpa using this
  subst hm;cases hk
theorem eV(r:HT)(hK:∀v gb,Ba v (fun k=>w.heap.size<=k/\k<v.heap.size) (fun _=>False) gb [⟨r,[]⟩]->Kept Nil w v->K (.pointer (some ⟨gb,0,none⟩)) v):
 bm prog lA.id #[.agg r.1] w K:=by
 refine lA.of ?_;unfold lA.W;intro w2 w3;have k2:Kept Nil w w2:=(Kept.refl _ _).alloc _;have oy:w2.heap[w.heap.size]? =some (.cells r.1 ax (0,0)):=aR w _;have k3:Kept Nil w w3:=k2.drew;have o5:w3.heap[w.heap.size]? =some (.cells r.1 ax (0,0)):=oy;clear_value w3;have N3:NP w3 w3 r none none none []:=⟨Kept.refl _ _,(fun b e=>by cases e),(fun b e=>by cases e),(fun b e=>by cases e)⟩;have mH:∀ {v:World},Kept Nil w3 v->∃cs:Array Value,(.agg r.1:Value)=.agg cs/\cs.size=32/\Cells v (aU w.heap.size) cs:=fun k=>⟨r.1,rfl,r.2.1,Cells.bS (k.heap o5 (fun h=>h))⟩;have sK:∀ {v:World} {nb lb mb:Nat},NP w3 v r (some nb) (some lb) (some mb) [r]->K (.pointer (some ⟨v.heap.size,0,none⟩)) (v.alloc (.cells #[.slice (some ⟨lb,0,none⟩) 1 1,.map (some mb)] fS)):=fun h=>hK _ _ (h.fin k3.size) ((k3.tt h.kp).alloc _);refine⟨r.1,⟨r.2.1,Cells.bS o5⟩,?_⟩;have O8:∀b,prog.built df [(0,.agg r.1)]=some (eN r (nz b)):=fun b=>CB r b;rw [O8 0];refine Is.mk rfl ?_;refine⟨r.1,⟨r.2.1,Cells.bS o5⟩,?_⟩;refine⟨?_,?_⟩
 ·have N7:NP w3 (w3.alloc (.cells (eN r (nz w3.heap.size)) df)) r (some w3.heap.size) none none []:=N3.addNode
  refine⟨mH N7.kp,?_,?_⟩
  ·have N8:=N7.oA
   have N9:=N8.zK;obtain⟨v,hr,MS⟩:=N9.put;exact⟨mH N8.kp,mH N9.kp,v,hr,sK MS⟩
  ·have LX:=N7.zK
   refine⟨mH LX.kp,?_,?_⟩
   ·have HU:=LX.oA
    obtain⟨v,hr,LW⟩:=HU.put;exact⟨mH HU.kp,v,hr,sK LW⟩
   ·obtain⟨v,hr,MR⟩:=LX.put
    exact⟨v,hr,sK MR.oA⟩
 ·have F6:=N3.zK
  refine⟨mH F6.kp,mH F6.kp,?_,?_⟩
  ·have Ji:NP w3 ((w3.alloc (.map #[] 0)).alloc (.cells (eN r (nz (w3.alloc (.map #[] 0)).heap.size)) df)) r (some (w3.alloc (.map #[] 0)).heap.size) none (some w3.heap.size) []:=F6.addNode
   refine⟨mH Ji.kp,?_,?_⟩
   ·have Jh:=Ji.oA
    obtain⟨v,hr,MP⟩:=Jh.put;exact⟨mH Jh.kp,v,hr,sK MP⟩
   ·obtain⟨v,hr,Rn⟩:=Ji.put
    exact⟨v,hr,sK Rn.oA⟩
  ·obtain⟨v,hr,LV⟩:=F6.put
   exact⟨v,hr,mH LV.kp,sK LV.addNode.oA⟩
end
section
variable{w w':World}{S S' F:Nat->Prop}{g bl c mb:Nat}{D:DG}{C:HT->List HT}{M:List NM}{K:Value->World->Prop}
end
section
variable{w w':World}{S S' F:Nat->Prop}{g bl c mb:Nat}{D:DG}{C:HT->List HT}{M:List NM}{K:Value->World->Prop}
end
theorem lu{w:World}{b:Nat}{z cs:Array Value}{t:TypeId}(h:w.heap[b]? =some (.cells z t (0,0)))(hz:z.size=cs.size):
 (∀j,j<cs.size->Wr w ((⟨b,0,none⟩:Addr).add j))/\(setCells w ⟨b,0,none⟩ cs.toList 0).heap[b]? =some (.cells cs t (0,0))/\Kept (· =b) w (setCells w ⟨b,0,none⟩ cs.toList 0):=by
 refine⟨fun j hj=>?_,?_,fU _ _ _ _⟩
 ·rw [bu,Nat.zero_add]
  exact dL h (by omega)
 ·have h1:=jn cs.toList z w t 0 0 h (by simp;omega)
  rw [h1,rY (by simp [hz])]
def hx(i:Nat)(hi:i<256):HT:=⟨#[.int .u8 (i:Int),.int .u8 0,.int .u8 0,.int .u8 0,.int .u8 0,.int .u8 0,.int .u8 0,.int .u8 0,.int .u8 0,.int .u8 0,.int .u8 0,.int .u8 0,.int .u8 0,.int .u8 0,.int .u8 0,.int .u8 0,.int .u8 0,.int .u8 0,.int .u8 0,.int .u8 0,.int .u8 0,.int .u8 0,.int .u8 0,.int .u8 0,.int .u8 0,.int .u8 0,.int .u8 0,.int .u8 0,.int .u8 0,.int .u8 0,.int .u8 0,.int .u8 0],rfl,fun v hv=>by
 simp only [List.mem_cons,List.not_mem_nil,or_false]at hv;rcases hv with rfl|hv
 ·exact⟨i,rfl,by omega,by omega⟩
 ·exact⟨0,by simpa using hv,by omega,by omega⟩⟩
theorem yP{i j:Nat}{hi:i<256}{hj:j<256}(h:i≠j):hx i hi≠hx j hj:=fun e=>by
 have:=congrArg (fun a:HT=>a.1[0]?) e;simp [hx]at this;omega
section
variable{w w':World}{K:Value->World->Prop}
end
theorem HS.lay{w:World}{b:Nat}{l:List HT}{t:TypeId}(hb:w.heap[b]? =some (.cells (cD l).toArray t (0,0))):HS w (some ⟨b,0,Option.none⟩) l.length l:=
 ⟨rfl,fun i x hi=>⟨_,rfl,bf hb,fun j v hj=>by
   rw [bu,bu,Nat.zero_add,aD hb];simpa using jA hi hj⟩⟩
section
variable{r a b c:HT}(KI:r≠a)(FL:r≠b)(RS:r≠c)(mJ:a≠b)(Sd:a≠c)(Lk:b≠c)
abbrev kD(r a b c:HT):DG:= [⟨r,[]⟩,⟨a,[r]⟩,⟨b,[r]⟩,⟨c,dh [a,b]⟩]
include KI in
theorem k1:eA [⟨r,[]⟩] a [r]=0/\mE [⟨r,[]⟩] a [r]= [⟨r,[]⟩,⟨a,[r]⟩]:=by
 have h:eA [⟨r,[]⟩] a [r]=0:=by
  unfold eA;rw [if_neg (by simp [ids];exact fun e=>KI e.symm),mc,if_neg (by simp),if_neg (by simp [ids])]
 exact⟨h,by unfold mE;rw [if_pos h,mc];rfl⟩
include FL mJ in
theorem k2:eA [⟨r,[]⟩,⟨a,[r]⟩] b [r]=0/\mE [⟨r,[]⟩,⟨a,[r]⟩] b [r]= [⟨r,[]⟩,⟨a,[r]⟩,⟨b,[r]⟩]:=by
 have h:eA [⟨r,[]⟩,⟨a,[r]⟩] b [r]=0:=by
  unfold eA;rw [if_neg (by simp [ids];exact⟨fun e=>FL e.symm,fun e=>mJ e.symm⟩),mc,if_neg (by simp),if_neg (by simp [ids])]
 exact⟨h,by unfold mE;rw [if_pos h,mc];rfl⟩
include RS mJ Sd Lk in
theorem k3:eA [⟨r,[]⟩,⟨a,[r]⟩,⟨b,[r]⟩] c [a,b]=0/\mE [⟨r,[]⟩,⟨a,[r]⟩,⟨b,[r]⟩] c [a,b]=kD r a b c:=by
 have hl:(dh [a,b]).length=2:=oH (by simp [mJ]);have h:eA [⟨r,[]⟩,⟨a,[r]⟩,⟨b,[r]⟩] c [a,b]=0:=by
  unfold eA;rw [if_neg (by simp [ids];exact⟨fun e=>RS e.symm,fun e=>Sd e.symm,fun e=>Lk e.symm⟩),hl,if_neg (by simp),if_neg];rintro⟨p,hp,hn⟩;rw [dJ]at hp;simp at hp;simp [ids]at hn;rcases hp with rfl|rfl
  ·exact hn.2.1 rfl
  ·exact hn.2.2 rfl
 exact⟨h,by unfold mE;rw [if_pos h];rfl⟩
end
section
variable{w w':World}{K:Value->World->Prop}
end
section
variable{w v w':World}{S F S2 F2 FR:Nat->Prop}{g r:Nat}{D D':DG}{K:Value->World->Prop}
end
end Go.Proofs.YtfleamccglihoaaGreatDoor
