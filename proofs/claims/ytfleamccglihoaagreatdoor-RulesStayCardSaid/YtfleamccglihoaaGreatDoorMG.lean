import Derived.Test.YtfleamccglihoaaGreatDoorProg
import Derived.Shelf.SlSortCmp.NoneTotal
import Derived.Shelf.SlMaps.Clone
import Derived.Shelf.Spec.TrailingZeros
import Derived.Shelf.Strconv.Itoa0
import Derived.Shelf.Bits.Mul64
import Derived.Test.YtfleamccglihoaaGreatDoorMA
import Derived.Test.YtfleamccglihoaaGreatDoorMB
import Derived.Lib.BytesEntry
import Derived.Test.YtfleamccglihoaaGreatDoorMC
import Derived.LaidEql
open Go.IntKind (i64 u64)
set_option linter.unusedVariables false
namespace Go.Proofs
open Go.Shelf
def Tryz.qy:Go.Shelf.Ren:=⟨fun|6=>53|15=>98|14=>97|28=>135|29=>136|20=>127|21=>128|22=>129|23=>130|24=>131|25=>132|26=>133|27=>134|46=>152|47=>153|48=>154|49=>155|50=>156|57=>163|n=>n,fun|22=>33|24=>24|25=>106|3=>3|39=>150|0=>0|53=>182|55=>22|4=>4|46=>176|45=>175|50=>162|5=>5|9=>9|66=>204|70=>208|76=>215|77=>216|n=>n,fun|n=>n⟩
theorem Tryz.xE:Go.Proofs.SlLaysF0.n6 prog Tryz.qy:= {
 mixed:=by kernel_rfl
 f6:=⟨f53.name,by decide,func53.trans (congrArg some (by kernel_rfl))⟩
 f14:=⟨f97.name,by decide,func97.trans (congrArg some (by kernel_rfl))⟩
 f15:=func98.trans (congrArg some (by kernel_rfl))
 f20:=⟨f127.name,by decide,func127.trans (congrArg some (by kernel_rfl))⟩
 f21:=⟨f128.name,by decide,func128.trans (congrArg some (by kernel_rfl))⟩
 f22:=⟨Tryz.f129.name,by decide,func129.trans (congrArg some (by kernel_rfl))⟩
 f23:=⟨f130.name,by decide,func130.trans (congrArg some (by kernel_rfl))⟩
 f24:=⟨f131.name,by decide,func131.trans (congrArg some (by kernel_rfl))⟩
 f25:=⟨f132.name,by decide,func132.trans (congrArg some (by kernel_rfl))⟩
 f26:=⟨f133.name,by decide,func133.trans (congrArg some (by kernel_rfl))⟩
 f27:=⟨f134.name,by decide,func134.trans (congrArg some (by kernel_rfl))⟩
 f28:=func135.trans (congrArg some (by kernel_rfl))
 f29:=func136.trans (congrArg some (by kernel_rfl))
 f46:=⟨f152.name,by decide,func152.trans (congrArg some (by kernel_rfl))⟩
 f47:=func153.trans (congrArg some (by kernel_rfl))
 f48:=func154.trans (congrArg some (by kernel_rfl))
 f49:=⟨f155.name,by decide,func155.trans (congrArg some (by kernel_rfl))⟩
 f50:=⟨f156.name,by decide,func156.trans (congrArg some (by kernel_rfl))⟩
 f57:=⟨f163.name,by decide,func163.trans (congrArg some (by kernel_rfl))⟩
 t0:=underlying0
 a0:=isAgg0
 z0:=sizeOf0
 v0:=zeroValue0
 t3:=underlying3
 a3:=isAgg3
 z3:=sizeOf3
 v3:=zeroValue3
 t4:=underlying4
 a4:=isAgg4
 z4:=sizeOf4
 v4:=zeroValue4
 t5:=underlying5
 a5:=isAgg5
 z5:=sizeOf5
 v5:=zeroValue5
 t9:=underlying9
 a9:=isAgg9
 z9:=sizeOf9
 v9:=zeroValue9
 t22:=underlying33
 a22:=isAgg33
 z22:=sizeOf33
 v22:=zeroValue33
 t25:=underlying106
 a25:=isAgg106
 z25:=sizeOf106
 v25:=zeroValue106
 t39:=underlying150
 a39:=isAgg150
 z39:=sizeOf150
 v39:=zeroValue150
 t45:=underlying175
 a45:=isAgg175
 z45:=sizeOf175
 v45:=zeroValue175
 t46:=underlying176
 a46:=isAgg176
 z46:=sizeOf176
 v46:=zeroValue176
 t50:=underlying162
 a50:=isAgg162
 z50:=sizeOf162
 v50:=zeroValue162
 t53:=underlying182
 a53:=isAgg182
 z53:=sizeOf182
 v53:=zeroValue182
 t55:=underlying22
 a55:=isAgg22
 z55:=sizeOf22
 v55:=zeroValue22
 t66:=underlying204
 a66:=isAgg204
 z66:=sizeOf204
 v66:=zeroValue204
 t70:=underlying208
 a70:=isAgg208
 z70:=sizeOf208
 v70:=zeroValue208
 t76:=underlying215
 a76:=isAgg215
 z76:=sizeOf215
 v76:=zeroValue215
 t77:=underlying216
 a77:=isAgg216
 z77:=sizeOf216
 v77:=zeroValue216}
def Tryz.ko:Go.Shelf.Ren:=⟨fun|29=>159|n=>n,fun|22=>22|3=>3|4=>4|25=>150|54=>218|0=>0|5=>5|n=>n,fun|1=>1|n=>n⟩
theorem Tryz.tzL:Go.Proofs.Lays7.n29 prog Tryz.ko:= {
 mixed:=by kernel_rfl
 f29:=func159.trans (congrArg some (by kernel_rfl))
 t0:=underlying0
 a0:=isAgg0
 z0:=sizeOf0
 v0:=zeroValue0
 i0:=by kernel_rfl
 t3:=underlying3
 a3:=isAgg3
 z3:=sizeOf3
 v3:=zeroValue3
 i3:=by kernel_rfl
 t4:=underlying4
 a4:=isAgg4
 z4:=sizeOf4
 v4:=zeroValue4
 i4:=by kernel_rfl
 t5:=underlying5
 a5:=isAgg5
 z5:=sizeOf5
 v5:=zeroValue5
 i5:=by kernel_rfl
 t22:=underlying22
 a22:=isAgg22
 z22:=sizeOf22
 v22:=zeroValue22
 i22:=by kernel_rfl
 t25:=underlying150
 a25:=isAgg150
 z25:=sizeOf150
 v25:=zeroValue150
 i25:=by kernel_rfl
 t54:=underlying218
 a54:=isAgg218
 z54:=sizeOf218
 g1:=by kernel_rfl}
def Tryz.AF:Go.Shelf.Ren:=⟨fun|129=>136|n=>n,fun|53=>22|3=>3|4=>4|46=>150|5=>5|9=>9|n=>n,fun|n=>n⟩
theorem Tryz.KR:Go.Proofs.Lays.n129 prog Tryz.AF:= {
 mixed:=by kernel_rfl
 f129:=func136.trans (congrArg some (by kernel_rfl))
 t3:=underlying3
 a3:=isAgg3
 z3:=sizeOf3
 v3:=zeroValue3
 t4:=underlying4
 a4:=isAgg4
 z4:=sizeOf4
 v4:=zeroValue4
 t5:=underlying5
 a5:=isAgg5
 z5:=sizeOf5
 v5:=zeroValue5
 t9:=underlying9
 a9:=isAgg9
 z9:=sizeOf9
 v9:=zeroValue9
 t46:=underlying150
 a46:=isAgg150
 z46:=sizeOf150
 v46:=zeroValue150
 t53:=underlying22
 a53:=isAgg22
 z53:=sizeOf22
 v53:=zeroValue22}
def Tryz.AD:Go.Shelf.Ren:=⟨fun|264=>161|n=>n,fun|53=>22|46=>150|n=>n,fun|n=>n⟩
theorem Tryz.KQ:Go.Proofs.Lays.n264 prog Tryz.AD:= {
 mixed:=by kernel_rfl
 f264:=func161.trans (congrArg some (by kernel_rfl))
 t46:=underlying150
 a46:=isAgg150
 z46:=sizeOf150
 v46:=zeroValue150
 t53:=underlying22
 a53:=isAgg22
 z53:=sizeOf22
 v53:=zeroValue22}
end Go.Proofs
namespace Go.b0
open Go.RowKit
theorem lA.mono{P:Program}{l:Nat}{args:Array Value}{w:World}{R R':Bool->World->Prop}(h:lA P l args w R)(hr:∀b w',R b w'->R' b w'):lA P l args w R':=by
 obtain⟨g,tmps,assign,body,h1,h2⟩:=h;exact⟨g,tmps,assign,body,h1,fun r m=>RoundIn.mono (h2 r m) fun e w' ⟨b,he,hb⟩=>⟨b,he,hr _ _ hb⟩⟩
def iC(xs:List Value)(k:Nat)(vs:List Value):List Value:=xs.take k++vs++xs.drop (k+vs.length)
theorem rf(xs:List Value)(k:Nat):iC xs k []=xs:=by simp [iC]
theorem pG{xs:List Value}{k:Nat}(hk:k<xs.length)(v:Value)(vs:List Value):iC xs k (v::vs)=iC (xs.set k v) (k+1) vs:=by
 unfold iC;rw [List.take_add_one,List.take_set_of_le (Nat.le_refl k),List.getElem?_set_self hk,List.drop_set];rw [if_pos (by omega),List.length_cons,show k+(vs.length+1)=k+1+vs.length by omega];simp
theorem mJ{xs:List Value}{k:Nat}{vs:List Value}(h:k+vs.length<=xs.length):(iC xs k vs).length=xs.length:=by
 unfold iC;simp;omega
theorem uW{xs vs:List Value}(h:vs.length=xs.length):iC xs 0 vs=vs:=by
 unfold iC;simp [h]
section
variable{w:World}{B:Nat}{e:TypeId}{size n c b:Nat}
theorem rY:∀(vs:List Value) (xs:List Value) (w:World) (o i:Nat),Row w B e size (some ⟨b,0,none⟩) n c xs->o+i+vs.length<=xs.length->
 Row (setCells w ⟨b,o,none⟩ vs i) B e size (some ⟨b,0,none⟩) n c (iC xs (o+i) vs)
 | [],xs,w,o,i,h,_=>by rw [rf];exact h
 |v::vs,xs,w,o,i,h,hl=>by
  rw [List.length_cons]at hl;rw [pG (by omega)];simp only [setCells];rw [bC];have h1:=Row.set h (j:=o+i) (by omega) v;have:=rY vs (xs.set (o+i) v) _ o (i+1) h1 (by rw [List.length_set];omega)
  rwa [show o+(i+1)=o+i+1 by omega]at this
theorem gV:∀(vs:List Value) (w:World) (o i:Nat),Kept (· =b) w (setCells w ⟨b,o,none⟩ vs i)
 | [],w,o,i=>Kept.refl _ _
 |v::vs,w,o,i=>by
  simp only [setCells];rw [bC];exact(Kept.setCell (S:=fun k=>k=b) (Kept.refl _ w) (p:=⟨b,o+i,none⟩) (fun _=>rfl) v).tt (gV vs _ o (i+1))
theorem lj:∀(vs:List Value) (cur:Array Value) (w:World) (t:TypeId) (o i:Nat),w.heap[b]? =some (.cells cur t (0,0))->o+i+vs.length<=cur.size->
 (setCells w ⟨b,o,none⟩ vs i).heap[b]? =some (.cells (iC cur.toList (o+i) vs).toArray t (0,0))
 | [],cur,w,t,o,i,h,_=>by rw [rf];simpa [setCells]using h
 |v::vs,cur,w,t,o,i,h,hl=>by
  rw [List.length_cons]at hl;rw [pG (by simp;omega)];simp only [setCells];rw [bC];have h1:=dp h (o+i) v;have:=lj vs _ _ t o (i+1) h1 (by simp;omega);rw [show o+(i+1)=o+i+1 by omega]at this;rw [this];simp
theorem iL{z cs:Array Value}{t:TypeId}(hz:z.size=cs.size):
 (∀j,j<cs.size->Wr (w.alloc (.cells z t)) ((aU w.heap.size).add j))/\
 (setCells (w.alloc (.cells z t)) ⟨w.heap.size,0,none⟩ cs.toList 0).heap[w.heap.size]? =some (.cells cs t (0,0))/\
 Kept Nil w (setCells (w.alloc (.cells z t)) ⟨w.heap.size,0,none⟩ cs.toList 0):=by
 refine⟨fun j hj=>?_,?_,?_⟩
 ·rw [bC,Nat.zero_add]
  exact dN (aM w _) (by omega)
 ·have h:=lj cs.toList z (w.alloc (.cells z t)) t 0 0 (aM w _) (by simp;omega)
  rw [h,uW (by simp [hz])]
 ·exact((Kept.refl Nil w).alloc _).trans (gV cs.toList _ 0 0) (fun k hk e=>absurd hk (by omega))
end
end Go.b0
namespace Go.b0
theorem EK:∀(vs:List Value) (off k:Nat) (cells:Array Value),off+k+vs.length<=cells.size->
 ((vs.zipIdx k).foldl (fun(cs:Array Value) (p:Value×Nat)=>cs.setIfInBounds (off+p.2) p.1) cells)=(iC cells.toList (off+k) vs).toArray
 | [],off,k,cells,_=>by rw [rf];simp
 |v::vs,off,k,cells,h=>by
  rw [List.length_cons]at h;rw [pG (by simp;omega),List.zipIdx_cons,List.foldl_cons];have:=EK vs off (k+1) (cells.setIfInBounds (off+k) v) (by simp;omega);rw [this,Array.toList_setIfInBounds];rfl
theorem js{place:Nat->Option (Nat×Nat)}{cells:Array Value}{i off size:Nat}{v:Value}{rest:List (Nat×Value)}(hp:place i=some (off,size))(hs:v.cells.size=size)(hle:off+size<=cells.size):
 Instr.fill place cells ((i,v)::rest)=Instr.fill place (iC cells.toList off v.cells.toList).toArray rest:=by
 rw [Instr.fill,hp];simp only;rw [if_neg (by simp;omega)]
 congr 1
 have h:=EK v.cells.toList off 0 cells (by simp;omega);rw [Nat.add_zero]at h;rw [<-h,<-Array.foldl_toList,Array.toList_zipIdx]
def R4(P:Program)(t:TypeId):Option (List (Nat×Nat)×List Value):=
 match P.info? t,P.underlying t with
 |some it,some (.struct fields)=>
  match it.zero,fields.toList.mapM (fun f=>(P.info? f.type).map fun i=>(f.offset,i.size))with
  |some z,some places=>some (places,z.cells.toList)
  |_,_=>none
 |_,_=>none
theorem ow{P:Program}{t:TypeId}{pl:List (Nat×Nat)}{z:List Value}(h:R4 P t=some (pl,z))(parts:List (Nat×Value)):
 P.built t parts=Instr.fill (pl.toArray[·]?) z.toArray parts:=by
 unfold R4 at h;split at h
 ·rename_i it fields h1 h2
  split at h
  ·rename_i z' pl' h3 h4
   simp only [Option.some.injEq,Prod.mk.injEq]at h;obtain⟨rfl,rfl⟩:=h;unfold Program.built;rw [h1,h2];simp only [h3,h4]
  ·cases h
 ·cases h
def ru:List Nat->Array Value
 | []=> #[]
 |D::l=> #[.pointer (some ⟨D,0,none⟩)]++ru l
theorem om:∀l,marksOf (.agg (ru l))=l
 | []=>rfl
 |D::l=>by
  have ih:=om l;simp only [ru,marksOf]at*;simp [ih]
theorem mQ:∀(l:List Nat) (w:World),l.Nodup->(∀D∈l,w.heap[D]? =some (.deferred (some [])))->lP l w
 | [],_,_,_=>trivial
 |D::l,w,hn,h=>by
  rw [List.nodup_cons]at hn;refine⟨h D (by simp),mQ l _ hn.2 fun E hE=>?_⟩;have fP:D≠E:=fun e=>hn.1 (by rw [e];exact hE);exact(World.putObj_heap_other fP.symm).trans (h E (by simp [hE]))
theorem lf:∀(l:List Nat) (w:World),Kept (· ∈l) w (gQ l w)
 | [],w=>Kept.refl _ w
 |D::l,w=>((Kept.putAt w D (.deferred none)).mono (S':=fun k=>k∈D::l) (fun k _ e=>by subst e;simp)).trans (lf l _) (fun k _ h=>by simp [h])
open Go.RowKit
section
variable{P:Program}{n:Nat}
end
end Go.b0
namespace Go.Proofs.YtfleamccglihoaaGreatDoor
open Go.Proofs.Tryz
open Go Go.b0 Go.RowKit
def Rz(cs:Array Value):Prop:=cs.size=32/\∀v∈cs.toList,∃i:Int,v=.int .u8 i/\0<=i/\i<256
abbrev HT:= {cs:Array Value//Rz cs}
def key(h:HT):List Int:=h.1.toList.map mI
theorem Rz.ints{cs:Array Value}(h:Rz cs):fD .u8 32 cs:=⟨h.1,fun v hv=>let ⟨i,e,_⟩:=h.2 v hv;⟨i,e⟩⟩
theorem AQ:∀ {a b:List Value},(∀v∈a,∃i:Int,v=.int .u8 i)->(∀v∈b,∃i:Int,v=.int .u8 i)->a.map mI=b.map mI->a=b
 | [],[],_,_,_=>rfl
 | [],_::_,_,_,h=>by simp at h
 |_::_,[],_,_,h=>by simp at h
 |x::a,y::b,ha,hb,h=>by
  obtain⟨i,rfl⟩:=ha x (by simp);obtain⟨j,rfl⟩:=hb y (by simp);simp only [List.map_cons,List.cons.injEq,mI]at h;rw [h.1,AQ (fun v hv=>ha v (by simp [hv])) (fun v hv=>hb v (by simp [hv])) h.2]
theorem key_inj{a b:HT}(h:key a=key b):a=b:=by
 apply Subtype.ext;apply Array.ext';exact AQ (fun v hv=>a.2.ints.2 v hv) (fun v hv=>b.2.ints.2 v hv) h
instance:DecidableEq HT:=fun a b=>if h:key a=key b then isTrue (key_inj h)else isFalse fun e=>h (by rw [e])
theorem fL(a b:HT):gu a.1 b.1=decide (a=b):=by
 unfold gu;by_cases e:a=b
 ·subst e;simp
 ·rw [decide_eq_false e]
  have:¬(key a=key b):=fun h=>e (key_inj h);simpa [key]using this
theorem Rz.one{cs:Array Value}(h:Rz cs):∀v∈cs.toList,v.oneCell'=true:=fun v hv=>by
 obtain⟨i,rfl,_⟩:=h.2 v hv;rfl
def uL:List Int->List Int->Bool
 | [],[]=>false
 | [],_::_=>true
 |_::_,[]=>false
 |x::a,y::b=>if x<y then true else if y<x then false else uL a b
def dg(a b:HT):Bool:=uL (key a) (key b)
theorem vy:∀a,uL a a=false
 | []=>rfl
 |x::a=>by simp [uL,vy a]
theorem xO:∀ {a b c},uL a b=true->uL b c=true->uL a c=true
 | [],[],_,h,_=>by simp [uL]at h
 | [],_::_,[],_,h=>by simp [uL]at h
 | [],_::_,_::_,_,_=>rfl
 |_::_,[],_,h,_=>by simp [uL]at h
 |_::_,_::_,[],_,h=>by simp [uL]at h
 |x::a,y::b,z::c,h,h'=>by
  simp only [uL]at*;by_cases h1:x<y
  ·by_cases h2:y<z
   ·rw [if_pos (by omega)]
   ·rw [if_neg h2]at h'
    by_cases h3:z<y
    ·rw [if_pos h3]at h';cases h'
    ·rw [if_pos (by omega)]
  ·rw [if_neg h1]at h
   by_cases h2:y<x
   ·rw [if_pos h2]at h;cases h
   ·rw [if_neg h2]at h
    by_cases h3:y<z
    ·rw [if_pos (by omega)]
    ·rw [if_neg h3]at h'
     by_cases h4:z<y
     ·rw [if_pos h4]at h';cases h'
     ·rw [if_neg h4]at h'
      rw [if_neg (by omega),if_neg (by omega)];exact xO h h'
theorem xP:∀ {a b},a.length=b.length->uL a b=false->uL b a=false->a=b
 | [],[],_,_,_=>rfl
 | [],_::_,h,_,_=>by simp at h
 |_::_,[],h,_,_=>by simp at h
 |x::a,y::b,hl,h,h'=>by
  simp only [uL]at*;by_cases h1:x<y
  ·rw [if_pos h1]at h;cases h
  ·rw [if_neg h1]at h
   by_cases h2:y<x
   ·rw [if_pos h2]at h';cases h'
   ·rw [if_neg h2]at h h'
    rw [if_neg h1]at h';have:x=y:=by omega
    rw [this,xP (by simpa using hl) h h']
theorem nx(a:HT):(key a).length=32:=by have:=a.2.1;simpa [key]using this
theorem qF{a b:HT}(h:dg a b=false)(h':dg b a=false):a=b:=key_inj (xP (by rw [nx,nx]) h h')
theorem lJ{a b c:HT}(h:dg a b=true)(h':dg b c=true):dg a c=true:=xO h h'
theorem jl(a:HT):dg a a=false:=vy _
theorem tw{a b:HT}(h:dg a b=true):dg b a=false:=by
 cases h':dg b a
 ·rfl
 ·have:=lJ h h';rw [jl]at this;cases this
end Go.Proofs.YtfleamccglihoaaGreatDoor
namespace Go.Proofs.YtfleamccglihoaaGreatDoor
open Go.Proofs.Tryz
open Go Go.b0
def SS(l:List HT):Prop:=l.Pairwise fun a b=>dg a b=true
theorem SS.nodup{l:List HT}(h:SS l):l.Nodup:=List.Pairwise.imp (fun {a b} mB e=>by subst e;rw [jl]at mB;cases mB) h
theorem SS.cons{x:HT}{l:List HT}:SS (x::l)↔(∀y∈l,dg x y=true)/\SS l:=List.pairwise_cons
theorem zo:∀ {l m:List HT},SS l->SS m->(∀x,x∈l↔x∈m)->l=m
 | [],[],_,_,_=>rfl
 | [],y::m,_,_,h=>by have:=(h y).2 (by simp);simp at this
 |x::l,[],_,_,h=>by have:=(h x).1 (by simp);simp at this
 |x::l,y::m,hl,hm,h=>by
  rw [SS.cons]at hl hm;have ny:x=y:=by
   have h1:=(h x).1 (by simp);have h2:=(h y).2 (by simp);rcases List.mem_cons.1 h1 with h1|h1
   ·exact h1
   ·rcases List.mem_cons.1 h2 with h2|h2
    ·exact h2.symm
    ·have a:=hl.1 _ h2
     have b:=hm.1 _ h1;rw [tw a]at b;cases b
  subst ny
  congr 1
  refine zo hl.2 hm.2 fun z=>?_;have hz:=h z;constructor
  ·intro hzl
   rcases List.mem_cons.1 (hz.1 (by simp [hzl]))with e|e
   ·subst e;have:=hl.1 _ hzl;rw [jl]at this;cases this
   ·exact e
  ·intro hzm
   rcases List.mem_cons.1 (hz.2 (by simp [hzm]))with e|e
   ·subst e;have:=hm.1 _ hzm;rw [jl]at this;cases this
   ·exact e
def ins(x:HT):List HT->List HT
 | []=> [x]
 |y::l=>if dg x y then x::y::l else if x=y then y::l else y::ins x l
theorem yL(x z:HT):∀l,z∈ins x l↔z=x\/z∈l
 | []=>by simp [ins]
 |y::l=>by
  unfold ins;split
  ·simp
  ·split
   ·rename_i e;subst e;simp
   ·simp only [List.mem_cons,yL x z l]
    constructor
    ·rintro(h|h|h)<;>simp [h]
    ·rintro(h|h|h)<;>simp [h]
theorem JK(x:HT):∀ {l:List HT},SS l->SS (ins x l)
 | [],_=>by simp [ins,SS]
 |y::l,h=>by
  have h':=SS.cons.1 h;unfold ins;split
  ·rename_i ny
   refine SS.cons.2 ⟨fun z hz=>?_,h⟩;rcases List.mem_cons.1 hz with rfl|hz
   ·exact ny
   ·exact lJ ny (h'.1 _ hz)
  ·split
   ·exact h
   ·rename_i h1 h2
    refine SS.cons.2 ⟨fun z hz=>?_,JK x h'.2⟩;rcases(yL x z l).1 hz with rfl|hz
    ·cases RA:dg y z
     ·exact absurd (qF RA (by simpa using h1)).symm h2
     ·rfl
    ·exact h'.1 _ hz
def dB(l:List HT):List HT:=l.foldr ins []
theorem dT{z:HT}:∀ {l:List HT},z∈dB l↔z∈l
 | []=>by simp [dB]
 |x::l=>by
  have:= @dT z l;simp only [dB,List.foldr_cons,yL,List.mem_cons]at this⊢;rw [this]
theorem ju:∀l:List HT,SS (dB l)
 | []=>List.Pairwise.nil
 |x::l=>JK x (ju l)
theorem DX{l m:List HT}(h:∀x,x∈l↔x∈m):dB l=dB m:=zo (ju l) (ju m) fun x=>by rw [dT,dT,h]
theorem yy{l m:List HT}(hs:SS l)(h:∀x,x∈l↔x∈m):l=dB m:=zo hs (ju m) fun x=>by rw [dT,h]
theorem Et(x:HT):∀l,(ins x l).length<=l.length+1
 | []=>by simp [ins]
 |y::l=>by
  have:=Et x l;unfold ins;split
  ·simp
  ·split<;>simp<;>omega
theorem oF:∀l:List HT,(dB l).length<=l.length
 | []=>by simp [dB]
 |x::l=>by
  have h1:=Et x (dB l);have h2:=oF l;simp only [dB,List.foldr_cons,List.length_cons]at*;omega
theorem rC{x:HT}:∀ {l:List HT},x∉l->(ins x l).length=l.length+1
 | [],_=>by simp [ins]
 |y::l,h=>by
  simp only [List.mem_cons,not_or]at h;have:=rC h.2;unfold ins;split
  ·simp
  ·rw [if_neg h.1];simp;omega
theorem qN:∀ {l:List HT},l.Nodup->(dB l).length=l.length
 | [],_=>by simp [dB]
 |x::l,h=>by
  rw [List.nodup_cons]at h;have h2:=qN h.2;have:=rC (l:=dB l) (x:=x) (fun hm=>h.1 (dT.1 hm));simp only [dB,List.foldr_cons,List.length_cons]at*;omega
theorem tY{x:HT}:∀ {l:List HT},SS l->x∈l->(ins x l).length=l.length
 | [],_,h=>by simp at h
 |y::l,hs,h=>by
  have h':=SS.cons.1 hs;unfold ins;split
  ·rename_i ny
   rcases List.mem_cons.1 h with rfl|h
   ·rw [jl]at ny;cases ny
   ·have:=h'.1 _ h;rw [tw ny]at this;cases this
  ·split
   ·rfl
   ·rename_i h1 h2
    rcases List.mem_cons.1 h with rfl|h
    ·exact absurd rfl h2
    ·simp [tY h'.2 h]
theorem si:∀ {l:List HT},(dB l).length=l.length->l.Nodup
 | [],_=>List.Pairwise.nil
 |x::l,h=>by
  have h2:=oF l;by_cases hm:x∈l
  ·have:=tY (ju l) (dT.2 hm)
   simp only [dB,List.foldr_cons,List.length_cons]at*;omega
  ·have h3:=rC (l:=dB l) (x:=x) (fun h=>hm (dT.1 h))
   simp only [dB,List.foldr_cons,List.length_cons]at*;exact List.nodup_cons.2 ⟨hm,si (by simp only [dB];omega)⟩
theorem KB:dB []= []:=rfl
theorem oE(x:HT):dB [x]= [x]:=rfl
theorem zT{l:List HT}(h:SS l):dB l=l:=(yy h fun _=>Iff.rfl).symm
theorem JJ{l:List HT}{x:HT}{k:Nat}(hs:SS l)(h1:∀y∈l.take k,dg y x=true)(h2:∀y∈l.drop k,dg x y=true):SS (l.take k++x::l.drop k):=by
 unfold SS at*;rw [<-List.take_append_drop k l,List.pairwise_append]at hs;rw [List.pairwise_append,List.pairwise_cons];refine⟨hs.1,⟨h2,hs.2.1⟩,fun y hy z hz=>?_⟩;rcases List.mem_cons.1 hz with rfl|hz
 ·exact h1 y hy
 ·exact hs.2.2 y hy z hz
theorem SS.get{l:List HT}(h:SS l){i j:Nat}(sD:i<j){x y:HT}(hx:l[i]? =some x)(hy:l[j]? =some y):dg x y=true:=by
 obtain⟨h1,rfl⟩:=lgeS hx;obtain⟨h2,rfl⟩:=lgeS hy;exact List.pairwise_iff_getElem.1 h i j h1 h2 sD
theorem ET{l:List HT}{x:HT}(hs:SS l)(h:∀y∈l,dg y x=true):SS (l++ [x]):=by
 have:=JJ (k:=l.length) hs (x:=x) (by simpa using h) (by simp);simpa using this
def LE(l:List HT):Prop:=l.Pairwise fun a b=>dg b a=false
theorem lt_of_le_ne{a b:HT}(h:dg b a=false)(hn:a≠b):dg a b=true:=by
 cases mB:dg a b
 ·exact absurd (qF mB h) hn
 ·rfl
theorem tV{a b c:HT}(h:dg b a=false)(h':dg b c=true):dg a c=true:=by
 by_cases e:a=b
 ·subst e;exact h'
 ·exact lJ (lt_of_le_ne h e) h'
theorem LE.get{l:List HT}(h:LE l){i j:Nat}(sD:i<j){x y:HT}(hx:l[i]? =some x)(hy:l[j]? =some y):dg y x=false:=by
 obtain⟨h1,rfl⟩:=lgeS hx;obtain⟨h2,rfl⟩:=lgeS hy;exact List.pairwise_iff_getElem.1 h i j h1 h2 sD
theorem bT{l:List HT}{k:Nat}{x z:HT}(hx:l[k]? =some x):z∈l.take (k+1)↔z∈l.take k\/z=x:=by
 rw [List.take_add_one,hx];simp
open Go.RowKit
theorem fg(a:Addr)(k:Nat):(a.add k).block=a.block:=by unfold Addr.add;split<;>rfl
theorem aX{σ:Type}(e:σ->Env)(I:σ->World->Prop)(μ:σ->World->Nat)(s:σ)(w:World)(Q:aR)(l:Nat)(ρ:Env)(w':World):bW e I μ s w Q (.exit l) ρ w'=Q (.exit l) ρ w':=rfl
theorem iO{σ:Type}(e:σ->Env)(I:σ->World->Prop)(μ:σ->World->Nat)(s:σ)(w:World)(Q:aR)(ρ:Env)(w':World):bW e I μ s w Q .ret ρ w'=Q .ret ρ w':=rfl
theorem iZ{x:Int}(h0: -9223372036854775808<=x)(h1:x<9223372036854775808):i64.wrap x=x:=by
 simp only [IntKind.wrap,IntKind.bits,IntKind.signed];simp;omega
theorem Cells.aJ{S:Nat->Prop}{w w':World}{a:Addr}{cs:Array Value}(h:Cells w a cs)(hk:Kept S w w')(hn:¬S a.block):Cells w' a cs:=
 fun j v hj=>hk.cell (h j v hj) (by rw [fg];exact hn)
theorem Cells.bV{w:World}{b:Nat}{cs:Array Value}{t:TypeId}{fr:Nat×Nat}(h:w.heap[b]? =some (.cells cs t fr)):Cells w ⟨b,0,none⟩ cs:=
 fun j v hj=>by rw [bC,Nat.zero_add,aE h];exact hj
structure HS(w:World)(A:Option Addr)(n:Nat)(l:List HT):Prop where
 len:l.length=n
 at_:∀(i:Nat) (h:HT),l[i]? =some h->∃a,A=some a/\a.block<w.heap.size/\Cells w (a.add (i*32)) h.1
theorem HS.aJ{S:Nat->Prop}{w w':World}{A:Option Addr}{n:Nat}{l:List HT}(h:HS w A n l)(hk:Kept S w w')(hn:∀a,A=some a->¬S a.block):HS w' A n l:=⟨h.len,fun i x hi=>by
 obtain⟨a,h1,h2,h3⟩:=h.at_ i x hi;exact⟨a,h1,Nat.lt_of_lt_of_le h2 hk.size,Cells.aJ h3 hk (by rw [fg];exact hn a h1)⟩⟩
theorem HS.same{w w':World}{A:Option Addr}{n:Nat}{l:List HT}(h:HS w A n l)(hk:Kept Nil w w'):HS w' A n l:=h.aJ hk fun _ _ h=>h
section
variable{w:World}{K:Value->World->Prop}
theorem yE{A:Option Addr}{n c:Nat}{l:List HT}(h:HT)(hl:HS w A n l)(hn:n<=1000000)(hK:∀w',Kept Nil w w'->K (.bool (decide (h∈l))) w'):
 bD prog c9.id #[.slice A n c,.agg h.1] w K:=by
 refine c9.of ?_;unfold c9.W;intro w3;have k3:Kept Nil w w3:=(Kept.refl Nil w).alloc _;have qf:w3.heap[w.heap.size]? =some (.cells h.1 al (0,0)):=aM w _;clear_value w3;have hlen:=hl.len;refine c9.cJ (I:=fun s w'=>∃i:Nat,s=(false,(i:Int))/\i<=n/\Kept Nil w3 w'/\h∉l.take i) (μ:=fun s _=>((n:Int)-s.2).toNat) (s:=(false,0)) ⟨0,rfl,Nat.zero_le _,Kept.refl _ _,by simp⟩ ?_;rintro s w' ⟨i,rfl,hi,kw,mG⟩;refine Split.dec (fun dg=>?_) (fun gK=>?_)
 ·simp only at dg
  have eh:i<n:=by omega
  obtain⟨x,hx⟩:∃x,l[i]? =some x:=⟨_,List.getElem?_eq_getElem (by omega)⟩;have kk:Kept Nil w w'.drew:=(k3.tt kw).drew;obtain⟨a,rfl,_,hc⟩:=(hl.same kk).at_ i x hx;intro w8;have k8:Kept Nil w3 w8:=kw.drew;refine⟨⟨by simp only;omega,by simp only;omega⟩,x.1,⟨x.2.1,hc⟩,h.1,⟨h.2.1,Cells.bV (k8.heap qf (fun h=>h))⟩,⟨x.2.ints,h.2.ints⟩,?_⟩;rw [fL];have Rq:Kept Nil w w8:=kk;refine Split.dec (fun he=>?_) (fun he=>?_)
  ·have:=hK w8 Rq
   rw [decide_eq_true (by rw [<-he];exact List.mem_of_getElem? hx)]at this;exact this
  ·simp only
   rw [iZ (x:=(i:Int)+1) (by omega) (by omega)];refine⟨(false,(i:Int)+1),rfl,⟨i+1,rfl,eh,k8,?_⟩,by simp only;omega⟩;rw [List.take_add_one,hx];simp only [Option.toList_some,List.mem_append,List.mem_singleton,not_or];exact⟨mG,fun e=>he e.symm⟩
 ·simp only at gK
  rw [aX,c9.dv];have:=hK w' (k3.tt kw);rw [List.take_of_length_le (by omega)]at mG;rw [decide_eq_false mG]at this;exact this
end
def lW(a b:HT):Int:=if dg a b then-1 else if dg b a then 1 else 0
theorem vz:∀(i:Nat) (a b:List Int),a.take i=b.take i->uL a b=uL (a.drop i) (b.drop i)
 |0,a,b,_=>rfl
 |i+1,[],[],_=>rfl
 |i+1,[],y::b,h=>by simp at h
 |i+1,x::a,[],h=>by simp at h
 |i+1,x::a,y::b,h=>by
  simp only [List.take_succ_cons,List.cons.injEq]at h;obtain⟨rfl,h⟩:=h;simp only [uL,List.drop_succ_cons];rw [if_neg (by omega),if_neg (by omega)];exact vz i a b h
theorem yM{h:HT}{i:Nat}(hi:i<32):∃x:Int,h.1[i]? =some (.int .u8 x)/\(key h)[i]? =some x/\0<=x/\x<256:=by
 have hs:i<h.1.size:=by rw [h.2.1];exact hi
 obtain⟨x,hx,h1,h2⟩:=h.2.2 h.1[i] (by simp);refine⟨x,by rw [Array.getElem?_eq_getElem hs,hx],?_,h1,h2⟩;unfold key;rw [List.getElem?_map,Array.getElem?_toList,Array.getElem?_eq_getElem hs,hx];rfl
section
variable{w:World}{K:Value->World->Prop}
theorem tP(a b:HT)(hK:∀w',Kept Nil w w'->K (.int .i64 (lW a b)) w'):bD prog bS.id #[.agg a.1,.agg b.1] w K:=by
 refine bS.of ?_;unfold bS.W;intro w3 w4;have k3:Kept Nil w w3:=(Kept.refl Nil w).alloc _;have k4:Kept Nil w w4:=k3.alloc _;have C1:w4.heap[w.heap.size]? =some (.cells a.1 al (0,0)):=lu (aM w _) _;have ud:w4.heap[w3.heap.size]? =some (.cells b.1 al (0,0)):=aM w3 _;clear_value w4;refine bS.cJ (I:=fun s w'=>∃i:Nat,s=(0,(i:Int))/\i<=32/\Kept Nil w4 w'/\(key a).take i=(key b).take i) (μ:=fun s _=>(32-s.2).toNat) (s:=(0,0)) ⟨0,rfl,by omega,Kept.refl _ _,by simp⟩ ?_;rintro s w' ⟨i,rfl,hi,kw,heq⟩;refine Split.dec (fun jV=>?_) (fun gK=>?_)
 ·simp only at jV
  have eh:i<32:=by omega
  obtain⟨x,hx,kx,_⟩:=yM (h:=a) eh;obtain⟨y,hy,ky,_⟩:=yM (h:=b) eh;have e1:dg a b=uL ((key a).drop i) ((key b).drop i):=vz i _ _ heq;have e2:dg b a=uL ((key b).drop i) ((key a).drop i):=vz i _ _ heq.symm;have da:(key a).drop i=x::(key a).drop (i+1):=by
   obtain⟨h1,h2⟩:=lgeS kx;rw [List.drop_eq_getElem_cons h1,h2]
  have db:(key b).drop i=y::(key b).drop (i+1):=by
   obtain⟨h1,h2⟩:=lgeS ky;rw [List.drop_eq_getElem_cons h1,h2]
  rw [da,db]at e1 e2;simp only [uL]at e1 e2;intro w9;have k9:Kept Nil w4 w9:=kw.drew;clear_value w9;have hb:0<=(i:Int)/\(i:Int)<32:=⟨by omega,by omega⟩;have ca:∀ {w':World},Kept Nil w4 w'->w'.cell? ((aU w.heap.size).add ((i:Int).toNat*1))=some (.int .u8 x):=fun k=>by
   rw [bC,Nat.zero_add,Nat.mul_one,Int.toNat_natCast,aE (k.heap C1 (fun h=>h))];exact hx
  have cb:∀ {w':World},Kept Nil w4 w'->w'.cell? ((aU w3.heap.size).add ((i:Int).toNat*1))=some (.int .u8 y):=fun k=>by
   rw [bC,Nat.zero_add,Nat.mul_one,Int.toNat_natCast,aE (k.heap ud (fun h=>h))];exact hy
  refine⟨hb,x,ca k9,hb,y,cb k9,Split.dec (fun ny=>?_) (fun ny=>?_)⟩
  ·have:=hK w9 (k4.tt k9)
   rw [show lW a b= -1 by unfold lW;rw [e1,if_pos ny];rfl]at this;exact this
  ·intro nv
   have zt:Kept Nil w4 nv:=k9.drew;clear_value nv;refine⟨hb,x,ca zt,hb,y,cb zt,Split.dec (fun Ev=>?_) (fun Ev=>?_)⟩
   ·have:=hK nv (k4.tt zt)
    rw [show lW a b=1 by unfold lW;rw [e1,e2,if_neg ny,if_pos (show y<x from Ev),if_pos (show y<x from Ev)];rfl]at this;exact this
   ·simp only
    rw [iZ (x:=(i:Int)+1) (by omega) (by omega)];refine⟨(0,(i:Int)+1),rfl,⟨i+1,rfl,eh,zt,?_⟩,by simp only;omega⟩;have:x=y:=by omega
    rw [List.take_add_one,List.take_add_one,kx,ky,heq,this]
 ·simp only at gK
  rw [aX,bS.dv];have:=hK w' (k4.tt kw);have mB:a=b:=by
   apply key_inj;rw [List.take_of_length_le (by rw [nx];omega),List.take_of_length_le (by rw [nx];omega)]at heq;exact heq
  rw [show lW a b=0 by unfold lW;rw [mB,jl];rfl]at this;exact this
end
theorem EM{x y:Int}(hx:0<=x/\x<256)(hy:0<=y/\y<256):(x.toNat.toUInt8<y.toNat.toUInt8)↔x<y:=by
 rw [UInt8.lt_iff_toNat_lt];simp only [Nat.toUInt8,UInt8.toNat_ofNat'];omega
theorem ou:∀ {a b:List Int},a.length=b.length->(∀x∈a,0<=x/\x<256)->(∀x∈b,0<=x/\x<256)->
 Lib.compareBytes (Lib.bytesOf a) (Lib.bytesOf b)=if uL a b then-1 else if uL b a then 1 else 0
 | [],[],_,_,_=>rfl
 | [],_::_,h,_,_=>by simp at h
 |_::_,[],h,_,_=>by simp at h
 |x::a,y::b,h,ha,hb=>by
  have hx:=ha x (by simp);have hy:=hb y (by simp);have ih:=ou (a:=a) (b:=b) (by simpa using h) (fun z hz=>ha z (by simp [hz])) (fun z hz=>hb z (by simp [hz]));simp only [Lib.bytesOf,List.map_cons,Lib.compareBytes,EM hx hy,EM hy hx,uL];by_cases h1:x<y
  ·simp [h1]
  ·by_cases h2:y<x
   ·simp [h1,h2]
   ·simp only [h1,h2,if_false]
    exact ih
theorem xV(h:HT):∀x∈key h,0<=x/\x<256:=by
 intro x hx;simp only [key,List.mem_map]at hx;obtain⟨v,hv,rfl⟩:=hx;obtain⟨i,rfl,h1,h2⟩:=h.2.2 v hv;exact⟨h1,h2⟩
theorem sH(a b:HT):Lib.compareBytes (Lib.bytesOf (key a)) (Lib.bytesOf (key b))=lW a b:=
 ou (by rw [nx,nx]) (xV a) (xV b)
section
variable{w:World}{K:Value->World->Prop}
theorem tB(a b:HT){p q:Addr}{c c':Nat}(ha:Cells w p a.1)(hb:Cells w q b.1)(hK:K (.int .i64 (lW a b)) w):
 bD prog iQ.id #[.slice (some p) 32 c,.slice (some q) 32 c'] w K:=by
 refine iQ.of ⟨.int .i64 (lW a b),w,?_,_,rfl,hK⟩;have Bb:∀(h:HT) (r:Addr),Cells w r h.1->∀j x,(key h)[j]? =some x->w.cell? (r.add j)=some (.int .u8 x):=by
  intro h r hr j x hx;have hj:j<32:=by have:=(lgeS hx).1;rw [nx]at this;exact this
  obtain⟨y,hy,ky,_⟩:=yM (h:=h) hj;rw [hx]at ky;cases ky;exact hr j _ hy
 have l1:=Lib.run_loadBytesX (P:=prog) w (key a) p .empty (Bb a p ha);have l2:=Lib.run_loadBytesX (P:=prog) w (key b) q .empty (Bb b q hb);rw [nx]at l1 l2;rw [run_callFunc_extern uC.at_ (by kernel_rfl) (by kernel_rfl) (by kernel_rfl) (e:=Extern.BytealgCompare.compare) (by kernel_rfl)];have hr:(Extern.BytealgCompare.compare #[.slice (some p) 32 c,.slice (some q) 32 c']).run prog w=.ok (.int .i64 (lW a b)) w:=by
  change Sem.run prog (do pure (goInt (Extern.BytealgCompare.cmp (<-Extern.Bytes.bytesOf (.slice (some p) 32 c)) (<-Extern.Bytes.bytesOf (.slice (some q) 32 c'))))) w=_
  simp only [Extern.Bytes.bytesOf,Sem.run_bind,l1,l2,Result.andThen_ok,Sem.run_pure,Lib.cmp_eq,goInt];rw [<-sH];simp
 rw [hr];rfl
theorem ql(a b:HT)(hK:K (.int .i64 (lW a b)) ((w.alloc (.cells a.1 al)).alloc (.cells b.1 al)).drew):bD prog dM.id #[.agg a.1,.agg b.1] w K:=by
 refine dM.of ?_;unfold dM.W;intro w3 w4 w5;have ha:w5.heap[w.heap.size]? =some (.cells a.1 al (0,0)):=lu (aM w _) _;have hb:w5.heap[w3.heap.size]? =some (.cells b.1 al (0,0)):=aM w3 _;simp only [if_neg (show ¬(32:Nat)=0 by omega),Nat.zero_mul,add_zero,Nat.sub_zero];exact tB a b (Cells.bV ha) (Cells.bV hb) ⟨_,rfl,hK⟩
end
theorem lY(a:Addr)(m n:Nat):(a.add m).add n=a.add (m+n):=by
 unfold Addr.add;by_cases hm:m=0<;>by_cases hn:n=0<;>simp [hm,hn,Nat.add_assoc]
def dt(l:List HT):List Value:=l.flatMap fun h=>h.1.toList
theorem lU(h:HT)(l:List HT):dt (h::l)=h.1.toList++dt l:=by simp [dt]
theorem mS(l m:List HT):dt (l++m)=dt l++dt m:=by simp [dt]
theorem fc:∀l:List HT,(dt l).length=l.length*32
 | []=>rfl
 |h::l=>by
  have:=h.2.1;rw [lU,List.length_append,fc l,Array.length_toList,this,List.length_cons];omega
theorem CX(l:List HT):∀u∈dt l,u.oneCell'=true:=by
 intro u hu;simp only [dt,List.mem_flatMap]at hu;obtain⟨h,_,hu⟩:=hu;exact h.2.one u hu
theorem lK:∀ {l:List HT} {i:Nat} {h:HT},l[i]? =some h->∀ {j:Nat} {v:Value},h.1[j]? =some v->(dt l)[i*32+j]? =some v
 | [],_,_,hi,_,_,_=>by simp at hi
 |x::l,0,h,hi,j,v,hj=>by
  simp only [List.getElem?_cons_zero,Option.some.injEq]at hi;subst hi;have dg:j<x.1.toList.length:=by simpa using (Array.getElem?_eq_some_iff.1 hj).1
  rw [lU,Nat.zero_mul,Nat.zero_add,List.getElem?_append_left dg,Array.getElem?_toList,hj]
 |x::l,i+1,h,hi,j,v,hj=>by
  simp only [List.getElem?_cons_succ]at hi;have:=x.2.1;rw [lU,List.getElem?_append_right (by simp;omega),Array.length_toList,this,show(i+1)*32+j-32=i*32+j by omega];exact lK hi hj
theorem Gq{l:List HT}{j:Nat}{v:Value}(h:(dt l)[j]? =some v):∃x,l[j/32]? =some x/\x.1[j%32]? =some v:=by
 have hj:=(lgeS h).1;rw [fc]at hj;have hi:j/32<l.length:=by omega
 refine⟨l[j/32],List.getElem?_eq_getElem hi,?_⟩;have hs:=l[j/32].2.1;have hm:j%32<l[j/32].1.size:=by rw [hs];omega
 obtain⟨u,hu⟩:∃u,l[j/32].1[j%32]? =some u:=⟨_,Array.getElem?_eq_getElem hm⟩;have:=lK (List.getElem?_eq_getElem hi) hu;rw [show j/32*32+j%32=j by omega,h]at this;rw [hu,this]
theorem pI:zD prog aF al 32 32:=⟨by kernel_rfl,by kernel_rfl⟩
abbrev cC(w:World)(B:Nat)(A:Option Addr)(n c:Nat)(l:List HT):Prop:=Row w B al 32 A n c (dt l)
section
variable{w w':World}{B:Nat}{A:Option Addr}{n c:Nat}{l:List HT}
theorem cC.len(h:cC w B A n c l):l.length=n:=by
 have:=Row.len h;rw [fc]at this;omega
theorem cC.hs(h:cC w B A n c l):HS w A n l:=⟨h.len,fun i x hi=>by
 have hlen:=h.len;have eh:=(lgeS hi).1;obtain⟨b,rfl⟩:=Row.some h (by omega);obtain⟨_,cur,p9⟩:=Row.bV h (k:=b) rfl;refine⟨_,rfl,aY p9,fun j v hj=>?_⟩;rw [lY];exact Row.cells h _ _ (lK hi hj)⟩
theorem cC.nil(w:World)(B:Nat):cC w B none 0 0 []:=Row.nil _ _ _ _
theorem HS.cells{a:Addr}(h:HS w (some a) n l):∀j u,(dt l)[j]? =some u->w.cell? (a.add j)=some u:=by
 intro j u hj;obtain⟨x,hx,hu⟩:=Gq hj;obtain⟨a',ha,_,hc⟩:=h.at_ _ x hx;cases ha;have:=hc _ _ hu
 rwa [lY,show j/32*32+j%32=j by omega]at this
theorem HS.nil(w:World)(A:Option Addr):HS w A 0 []:=⟨rfl,fun i x hi=>by simp at hi⟩
theorem HS.none(h:HS w none n l):n=0/\l= []:=by
 cases l with
 |nil=>exact⟨h.len.symm,rfl⟩
 |cons x l=>obtain⟨a,ha,_⟩:=h.at_ 0 x rfl;cases ha
theorem HS.take(h:HS w A n l){k:Nat}(hk:k<=n):HS w A k (l.take k):=⟨by have:=h.len;simp;omega,fun i x hi=>by
 rw [List.getElem?_take]at hi;split at hi
 ·exact h.at_ i x hi
 ·cases hi⟩
theorem HS.drop(h:HS w A n l){k:Nat}(hc:n<=c)(hk:k<=n):HS w (if c=k then A else A.map (·.add (k*32))) (n-k) (l.drop k):=⟨by have:=h.len;simp;omega,fun i x hi=>by
 rw [List.getElem?_drop]at hi;have hlen:=h.len;have:=(lgeS hi).1;obtain⟨a,rfl,hb,rU⟩:=h.at_ _ x hi;rw [if_neg (by omega)];refine⟨_,rfl,by rw [fg];exact hb,?_⟩;rw [lY,<-Nat.add_mul];exact rU⟩
theorem HS.one{w:World}{b:Nat}{h:HT}{t:TypeId}{fr:Nat×Nat}(hb:w.heap[b]? =some (.cells h.1 t fr)):HS w (some ⟨b,0,Option.none⟩) 1 [h]:=⟨rfl,fun i x hi=>by
 cases i with
 |zero=>
  simp only [List.getElem?_cons_zero,Option.some.injEq]at hi;subst hi;exact⟨_,rfl,aY hb,by rw [Nat.zero_mul,add_zero];exact Cells.bV hb⟩
 |succ i=>simp at hi⟩
theorem dc(ty:Nat)(h:cC w B A n c l){A2:Option Addr}{m cx:Nat}{l2:List HT}(h2:HS w A2 m l2)(hm:n+m<=1000000)(hB:B<=w.heap.size):
 ∃A' c' w',(Builtin.append_ #[aF,aF] ty #[.slice A n c,.slice A2 m cx]).run prog w=.ok (.slice A' (n+m) c') w'/\
  cC w' B A' (n+m) c' (l++l2)/\w.grownBy w' (bG A)/\(∀k,bG A'=some k->bG A=some k\/w.heap.size<=k):=by
 cases A2 with
 |some a=>
  have uA:=h2.len;obtain⟨A',c',w',hr,fJ,hg,hb⟩:=fR (P:=prog) (t:=aF) (bytes:=32) (ty:=ty) pI h (a:=a) (m:=m) (cx:=cx) (news:=dt l2) (by rw [fc,uA]) h2.cells (CX l2) (by omega) (by unfold maxLen;omega) hB;refine⟨A',c',w',hr,?_,hg,hb⟩;rw [<-mS]at fJ;exact fJ
 |none=>
  obtain⟨rfl,rfl⟩:=h2.none;refine⟨A,c,w,?_,by simpa using h,⟨rfl,rfl,rfl,Nat.le_refl _,fun _ _ _=>rfl⟩,fun k hk=>.inl hk⟩;obtain⟨i,z,hi,hz,hs,Kj,Eu⟩:=pI.inf;have hn:n<=c:=by rcases Row.own h with⟨_,h1,h2,_⟩|⟨_,_,_,_,_,h1,_⟩<;>omega
  simp [Builtin.append_,run_underlying pI.pz,sizeOf,typeInfo,hi,Builtin.lenOf,Builtin.firstCells,hn];cases A<;>simp [storeCells]
end
theorem HS.load{w:World}{A:Option Addr}{n:Nat}{l:List HT}(hl:HS w A n l){i:Int}{x:HT}(h0:0<=i)(hx:l[i.toNat]? =some x){k:Array Value->Prop}(hk:k x.1):
 (0<=i/\i<(n:Int))/\Is A fun a=>∃t:Array Value,(t.size=32/\Cells w (a.add (i.toNat*32)) t)/\k t:=by
 obtain⟨a,rfl,_,hc⟩:=hl.at_ _ x hx;have:=(lgeS hx).1;have:=hl.len;exact⟨⟨h0,by omega⟩,x.1,⟨x.2.1,hc⟩,hk⟩
theorem sJ{a b:HT}:(lW a b<0)↔dg a b=true:=by
 unfold lW;by_cases h:dg a b=true
 ·simp [h]
 ·by_cases h':dg b a=true<;>simp [h,h']
theorem dH{n:Int}(h0:0<=n)(h1:n<=2000000):i64.wrap (n+1)=n+1:=iZ (by omega) (by omega)
theorem wrapM{n:Int}(h0:0<=n)(h1:n<=2000000):i64.wrap (n-1)=n-1:=iZ (by omega) (by omega)
theorem Kept.eA{w w' mD:World}{A:Option Addr}(h:Kept Nil w w')(hg:w'.grownBy mD (bG A))(hr:∀k,bG A=some k->w.heap.size<=k):Kept Nil w mD:=
 Kept.grown h hg fun k hk dg=>absurd (hr k hk) (by omega)
section
variable{w:World}{K:Value->World->Prop}
theorem rh{A:Option Addr}{n c:Nat}{l:List HT}(hl:HS w A n l)(hn:n<=400000)
 (hK:∀A' c' w',cC w' w.heap.size A' (dB l).length c' (dB l)->Kept Nil w w'->K (.slice A' (dB l).length c') w'):
 bD prog aO.id #[.slice A n c] w K:=by
 refine aO.of ?_;have hlen:=hl.len;refine aO.cJ (I:=fun s w'=>∃(i:Nat) (out:List HT) (B:Option Addr) (m:Nat),s=(B,out.length,m,(i:Int))/\i<=n/\cC w' w.heap.size B out.length m out/\SS out/\(∀x,x∈out↔x∈l.take i)/\out.length<=i/\Kept Nil w w')
  (μ:=fun s _=>((n:Int)-s.2.2.2).toNat) (s:=(none,0,0,0)) ⟨0,[],none,0,rfl,Nat.zero_le _,cC.nil _ _,List.Pairwise.nil,by simp,by simp,Kept.refl _ _⟩ ?_
 rintro s w' ⟨i,out,B,m,rfl,hi,row,uM,ji,hol,kw⟩;refine Split.dec (fun jV=>?_) (fun gK=>?_)
 ·simp only at jV
  have eh:i<n:=by omega
  obtain⟨x,hx⟩:∃x,l[i]? =some x:=⟨_,List.getElem?_eq_getElem (by omega)⟩;refine(hl.same kw).load (i:=(i:Int)) (by omega) hx (yE x row.hs (by simp only;omega) fun w9 k9=>⟨_,rfl,?_⟩);simp only;have Ta:Kept Nil w w9:=kw.tt k9;have Sv:cC w9 w.heap.size B out.length m out:=Row.aJ row k9 (fun _ _ h=>h);have zw:l.take (i+1)=l.take i++ [x]:=by rw [List.take_add_one,hx];rfl
  refine Split.dec (fun gB=>?_) (fun mG=>?_)
  ·rw [dH (n:=(i:Int)) (by omega) (by omega)]
   refine⟨(B,out.length,m,(i:Int)+1),rfl,⟨i+1,out,B,m,rfl,eh,Sv,uM,fun y=>?_,by omega,Ta⟩,by simp only;omega⟩;rw [zw,List.mem_append,List.mem_singleton,<-ji y];constructor
   ·exact .inl
   ·rintro(h|rfl)
    ·exact h
    ·exact gB
  ·refine aO.iG (I:=fun s w'=>∃k:Nat,s=(k:Int)/\k<=out.length/\(∀y∈out.drop k,dg x y=true)/\Kept Nil w9 w') (μ:=fun s _=>s.toNat) (s:=(out.length:Int)) ⟨out.length,rfl,Nat.le_refl _,by simp,Kept.refl _ _⟩ ?_
   rintro s w1 ⟨k,rfl,hk,vQ,k1⟩;have Nu:HS w1 A n l:=(hl.same Ta).same k1;have yA:cC w1 w.heap.size B out.length m out:=Row.aJ Sv k1 (fun _ _ h=>h);have kx:Kept Nil w w1:=Ta.tt k1;have vP:∀w1,HS w1 A n l->cC w1 w.heap.size B out.length m out->Kept Nil w w1->(∀y∈out.take k,dg y x=true)->
    aO.jr A n c none 0 0 B out.length m (i:Int) (k:Int) (bW (aO.e1 A n c none 0 0) (fun s w'=>∃(i:Nat) (out:List HT) (B:Option Addr) (m:Nat),s=(B,out.length,m,(i:Int))/\i<=n/\cC w' w.heap.size B out.length m out/\SS out/\(∀x,x∈out↔x∈l.take i)/\out.length<=i/\Kept Nil w w') (fun s _=>((n:Int)-s.2.2.2).toNat) (B,out.length,m,(i:Int)) w' (aO.q1 K)) w1:=by
    intro w1 Nu yA kx Iz;have I0:out.length<=m:=by rcases Row.own yA with⟨_,h1,h2,_⟩|⟨_,_,_,_,_,h1,_⟩<;>omega
    have mF:=kx.size;unfold aO.jr;refine⟨⟨by omega,by omega⟩,?_⟩;have wG:HS w1 (if m=0 then B else B.map (·.add (0*32))) ((k:Int).toNat -0) (out.take k):=by
     have h:=yA.hs.take hk;rw [Nat.sub_zero,Int.toNat_natCast];have e:(if m=0 then B else B.map (·.add (0*32)))=B:=by
      split
      ·rfl
      ·cases B<;>simp [add_zero]
     rw [e];exact h
    obtain⟨A1,c1,w2,nz,hU,LK,nA⟩:=dc (cx:=m-0) aF (cC.nil w1 w.heap.size) wG (by simp;omega) mF;have k2:Kept Nil w1 w2:=Kept.eA (Kept.refl _ _) LK (fun k hk=>by cases hk);rw [Nat.zero_add,Nat.sub_zero,Int.toNat_natCast]at nz hU;rw [List.nil_append]at hU;refine⟨A1,_,c1,w2,by rw [Nat.sub_zero,Int.toNat_natCast];exact nz,?_⟩;have uA:=Nu.same k2;refine uA.load (i:=(i:Int)) (by omega) hx ⟨x.2.1,?_⟩;intro w3;have k3:Kept Nil w2 w3:=(Kept.refl _ _).alloc _;have jF:HS w3 (some ⟨w2.heap.size,0,none⟩) 1 [x]:=by
     refine HS.one (t:=al) (fr:=(0,0)) ?_;have e3:w3=w2.alloc (.cells x.1 al):=by
      show w2.alloc (.cells (x.1.toList++ []).toArray al)=_
      simp
     rw [e3];exact aM w2 _
    clear_value w3;have nE:cC w3 w.heap.size A1 k c1 (out.take k):=Row.aJ hU k3 (fun _ _ h=>h);have aat:w.heap.size<=w3.heap.size:=Nat.le_trans (Nat.le_trans mF k2.size) k3.size;obtain⟨A4,c4,w4,x7,kL,EG,ud⟩:=dc (cx:=1) aF nE jF (by omega) aat;have k4:Kept Nil w1 w4:=Kept.eA (k2.tt k3) EG (fun k hk=>by rcases nA k hk with h|h;cases h;exact h);refine⟨A4,_,c4,w4,x7,⟨by omega,by omega⟩,?_⟩;have Nf:HS w4 (if m=(k:Int).toNat then B else B.map (·.add ((k:Int).toNat*32))) (out.length-(k:Int).toNat) (out.drop k):=by
     rw [Int.toNat_natCast];exact(yA.hs.same k4).drop I0 hk
    have hdl:(out.length-(k:Int).toNat)=out.length-k:=by rw [Int.toNat_natCast]
    obtain⟨A5,c5,w5,sA,lC,LJ,pC⟩:=dc (cx:=m-(k:Int).toNat) aF kL Nf (by omega) (Nat.le_trans mF k4.size);have k5:Kept Nil w1 w5:=Kept.eA k4 LJ (fun b hb=>by
     rcases ud b hb with h|h
     ·rcases nA b h with h|h
      ·cases h
      ·exact h
     ·exact Nat.le_trans (Nat.le_trans k2.size k3.size) h)
    refine⟨A5,_,c5,w5,sA,?_⟩;rw [dH (n:=(i:Int)) (by omega) (by omega)];have nK:out.take k++ [x]++out.drop k=out.take k++x::out.drop k:=by simp
    have zy:(out.take k++x::out.drop k).length=out.length+1:=by simp;omega
    rw [nK]at lC;have e5:k+1+(out.length-(k:Int).toNat)=(out.take k++x::out.drop k).length:=by rw [zy];omega
    rw [e5]at lC⊢;refine⟨(A5,(out.take k++x::out.drop k).length,c5,(i:Int)+1),rfl,⟨i+1,_,A5,c5,rfl,eh,lC,JJ uM Iz vQ,fun y=>?_,by omega,kx.tt k5⟩,by simp only;omega⟩;rw [show y∈l.take (i+1)↔y∈out\/y=x by rw [zw,List.mem_append,List.mem_singleton,ji y],List.mem_append,List.mem_cons];constructor
    ·rintro(h|rfl|h)
     ·exact .inl (List.mem_of_mem_take h)
     ·exact .inr rfl
     ·exact .inl (List.mem_of_mem_drop h)
    ·rintro(h|rfl)
     ·rw [<-List.take_append_drop k out,List.mem_append]at h
      rcases h with h|h
      ·exact .inl h
      ·exact .inr (.inr h)
     ·exact .inr (.inl rfl)
   unfold aO.B2;intro w2;have k2:Kept Nil w1 w2:=(Kept.refl _ _).drew;clear_value w2;have uA:=Nu.same k2;have hU:cC w2 w.heap.size B out.length m out:=Row.aJ yA k2 (fun _ _ h=>h);have kx2:=kx.tt k2;refine Split.dec (fun jO=>?_) (fun AY=>?_)
   ·have pB:0<k:=by omega
    obtain⟨y,hy⟩:∃y,out[k-1]? =some y:=⟨_,List.getElem?_eq_getElem (by omega)⟩;rw [wrapM (n:=(k:Int)) (by omega) (by omega)];refine uA.load (i:=(i:Int)) (by omega) hx (hU.hs.load (by omega) (by rw [show((k:Int)-1).toNat=k-1 by omega];exact hy) (tP x y fun w3 k3=>⟨_,rfl,?_⟩));refine Split.dec (fun hc=>?_) (fun hc=>?_)
    ·refine⟨(k:Int)-1,rfl,⟨k-1,by omega,by omega,fun z hz=>?_,(k1.tt k2).tt k3⟩,by simp only;omega⟩
     have hd:out.drop (k-1)=y::out.drop k:=by
      obtain⟨h1,h2⟩:=lgeS hy;rw [List.drop_eq_getElem_cons h1,h2,show k-1+1=k by omega]
     rw [hd]at hz;rcases List.mem_cons.1 hz with rfl|hz
     ·exact sJ.1 hc
     ·exact vQ z hz
    ·rw [aX,aO.kW]
     refine vP w3 (uA.same k3) (Row.aJ hU k3 (fun _ _ h=>h)) (kx2.tt k3) fun z hz=>?_;have Ev:dg y x=true:=by
      have h1:dg x y=false:=by
       cases h:dg x y
       ·rfl
       ·exact absurd (sJ.2 h) hc
      refine lt_of_le_ne h1 fun e=>mG ?_;rw [<-e];exact List.mem_of_getElem? hy
     obtain⟨j,hj⟩:=List.mem_iff_getElem?.1 hz;rw [List.getElem?_take]at hj;split at hj
     ·rename_i Yh
      by_cases e:j=k-1
      ·subst e;rw [hy]at hj;cases hj;exact Ev
      ·exact lJ (uM.get (by omega) hj hy) Ev
     ·cases hj
   ·rw [aX,aO.kW]
    have pB:k=0:=by omega
    refine vP w2 uA hU kx2 fun z hz=>?_;rw [pB]at hz;simp at hz
 ·simp only at gK
  have:i=n:=by omega
  subst this;rw [aX,aO.dv];have e:out=dB l:=yy uM fun x=>by rw [ji,List.take_of_length_le (by omega)]
  rw [e]at row;have:=hK B m w' row kw;rw [<-e]at this;exact this
end
theorem lN{w:World}{k l:Nat}{cs:Array Value}{t:TypeId}{fr:Nat×Nat}{R:Loop}(h:w.heap[k]? =some (.cells cs t fr))(h':w.heap[l]? =some (.loop R)):k≠l:=by
 rintro rfl;rw [h]at h';cases h'
theorem yJ{w:World}{k l:Nat}{cs:Array Value}{t:TypeId}{fr:Nat×Nat}{d:Option (List Deferred)}(h:w.heap[k]? =some (.cells cs t fr))(h':w.heap[l]? =some (.deferred d)):k≠l:=by
 rintro rfl;rw [h]at h';cases h'
theorem Row.apart{w w':World}{B:Nat}{e:TypeId}{size:Nat}{A:Option Addr}{n c:Nat}{xs:List Value}(h:Row w B e size A n c xs){l:Nat}(hk:Kept (· =l) w w')
 (hl:∀cs t fr,w.heap[l]? ≠some (.cells cs t fr)):Row w' B e size A n c xs:=Row.aJ h hk fun k hb e=>by
 subst e;obtain⟨_,cur,hc⟩:=Row.bV h hb;exact hl _ _ _ hc
abbrev sF(h:HT):List Value:= [.agg h.1]
section
variable{w:World}{K:Value->World->Prop}
theorem zN(p:Addr){A:Option Addr}{n c:Nat}{l:List HT}(hn:n<=1000000):
 oB prog aH.id #[] #[.pointer (some p)] (l.map sF) (fun w=>HS w A n l/\w.cell? p=some (.slice A n c)):=by
 intro y I D w0 hI hD sC h0 rD;refine aH.of ?_;obtain⟨yX,RJ⟩:=sC 0 w0 h0;have hlen:=yX.len;refine⟨A,n,c,RJ,?_⟩;refine aH.cJ (I:=fun s w'=>∃i:Nat,s=(i:Int)/\i<=n/\I i w') (μ:=fun s _=>((n:Int)-s).toNat) (s:=0) ⟨0,rfl,Nat.zero_le _,h0⟩ ?_;rintro s w' ⟨i,rfl,hi,hw⟩;refine Split.dec (fun jV=>?_) (fun gK=>?_)
 ·have eh:i<n:=by omega
  obtain⟨x,hx⟩:∃x,l[i]? =some x:=⟨_,List.getElem?_eq_getElem (by omega)⟩;have hl:=(sC i w' hw).1;refine hl.load (i:=(i:Int)) (by omega) hx ?_;intro w10;obtain⟨tq,hb,hk⟩:=iL (w:=w') (z:=(CF 0)) (cs:=x.1) (t:=al) (by rw [x.2.1];rfl);refine⟨⟨x.2.1,x.2.one,fun j hj=>tq j (by rw [x.2.1];exact hj)⟩,?_⟩;intro pw
  replace hb:pw.heap[w'.heap.size]? =some (.cells x.1 al (0,0)):=hb
  replace hk:Kept Nil w' pw:=hk
  clear_value pw;refine⟨x.1,⟨x.2.1,Cells.bV hb⟩,?_⟩;refine(rD i (sF x) pw (by rw [List.getElem?_map,hx];rfl) (hI i w' pw hw hk)).mono ?_;rintro b mD ⟨ht,hf⟩;cases b with
  |true=>
   refine Split.no rfl ?_;rw [dH (n:=(i:Int)) (by omega) (by omega)];exact⟨(i:Int)+1,rfl,⟨i+1,rfl,eh,ht rfl⟩,by simp only;omega⟩
  |false=>
   refine Split.yes rfl ?_;exact Or.inr (hf rfl)
 ·rw [aX,aH.dv]
  have e:i=n:=by omega
  subst e;refine Or.inl ?_;rw [List.length_map,hlen];exact hw
theorem xp{gf:FuncId}{gP:Array Value}{xs:List HT}{fn:Func}(Ki:prog.funcs[gf]? =some fn)(hb:fn.body.isSome){Kq:World->Prop}
 (hit:oB prog gf #[] gP (xs.map sF) Kq) (hp:∀w',Kept Nil w w'->Kq w') (Lh:xs.length<=1000000)
 (hK:∀A c w',cC w' w.heap.size A xs.length c xs->Kept Nil w w'->K (.slice A xs.length c) w'):
 bD prog aN.id #[.slice none 0 0,.func (.func gf) #[] gP] w K:=by
 refine aN.of ?_;unfold aN.W;intro w3;have k3:Kept Nil w w3:=(Kept.refl Nil w).alloc _;have qf:w3.heap[w.heap.size]? =some (.cells #[.slice none 0 0] aF (0,0)):=aM w _;have CI:w.heap.size<w3.heap.size:=aY qf;clear_value w3
 let ρ0:Env:= [(2,.pointer (some (aU w.heap.size))),(4,.slice none 0 0),(6,.func (.func gf) #[] gP)]
 let J:Nat->World->Prop:=fun i w'=>∃A c,w'.heap[w.heap.size]? =some (.cells #[.slice A i c] aF (0,0))/\cC w' w.heap.size A i c (xs.take i)/\Kept Nil w w'/\i<=xs.length/\∀k,bG A=some k->k≠w.heap.size
 refine oK (ρ:=ρ0) (ρ0:=ρ0) ng mix aN.k (t:=6) (ps:= #[7]) (by kernel_rfl) (by decide) rfl Ki hb (.inl rfl) (fun i v _ h=>h) rfl sF xs (fun _=>rfl) (by simp [iK]) hit J (fun _ _=>False) ?_ (fun _ _ _ _ _ h=>h.elim) (fun i w' h=>hp w' (let ⟨_,_,_,_,h,_⟩:=h;h)) ?_ ?_ ?_ (fun _ _ h=>h.elim) (fun _ _ _ h=>h.elim)
 ·rintro i w' mD R hl ⟨A,c,h1,h2,h3,h4,h5⟩ hk
  exact⟨A,c,hk.heap h1 (lN h1 hl.loop),Row.apart h2 hk (fun cs t fr h=>by rw [hl.loop]at h;cases h),h3.trans hk (fun k hk e=>by omega),h4,h5⟩
 ·intro R
  exact⟨none,0,lu (lu qf _) _,cC.nil _ _,(k3.alloc _).alloc _,Nat.zero_le _,fun k hk=>by cases hk⟩
 ·rintro i x w' R hx ⟨A,c,h1,h2,h3,h4,h5⟩ hl
  have eh:i<xs.length:=(lgeS hx).1;have e7:ml ρ0 ((#[7]:Array Nat).toList.zip (sF x))= [(2,.pointer (some (aU w.heap.size))),(4,.slice none 0 0),(6,.func (.func gf) #[] gP),(7,.agg x.1)]:=rfl;rw [e7,aN.a1];unfold aN.A1;intro w8;obtain⟨tq,j0,kz⟩:=iL (w:=w') (z:=(CF 0)) (cs:=x.1) (t:=al) (by rw [x.2.1];rfl);refine⟨⟨x.2.1,x.2.one,fun j hj=>tq j (by rw [x.2.1];exact hj)⟩,?_⟩;intro xC
  replace j0:xC.heap[w'.heap.size]? =some (.cells x.1 al (0,0)):=j0
  replace kz:Kept Nil w' xC:=kz
  clear_value xC;have LA:=hl.aJ kz (fun h=>h) (fun h=>h);refine⟨LA,fun w2 R2 oV uA=>?_⟩;have acd:=oV.heap j0 (lN j0 LA.loop);have h1b:=kz.heap h1 (fun h=>h);have BS:=oV.heap h1b (lN h1b LA.loop);have C8:cC w2 w.heap.size A i c (xs.take i):=Row.apart (Row.aJ h2 kz (fun _ _ h=>h)) oV (fun cs t fr h=>by rw [LA.loop]at h;cases h);have WO:Kept Nil w w2:=(h3.tt kz).trans oV (fun k hk e=>by omega);have dg:w.heap.size<w2.heap.size:=aY BS;rw [aN.y1];unfold aN.Y1;refine⟨A,i,c,by rw [aE BS];rfl,x.1,⟨x.2.1,Cells.bV acd⟩,x.2.1,?_⟩;intro nn;have rz:Kept Nil w2 nn:=(Kept.refl _ _).alloc _;have jF:HS nn (some ⟨w2.heap.size,0,none⟩) 1 [x]:=by
   refine HS.one (t:=al) (fr:=(0,0)) ?_;have e3:nn=w2.alloc (.cells x.1 al):=by
    show w2.alloc (.cells (x.1.toList++ []).toArray al)=_
    simp
   rw [e3];exact aM w2 _
  clear_value nn;have L5:cC nn w.heap.size A i c (xs.take i):=Row.aJ C8 rz (fun _ _ h=>h);have ac9:=rz.heap BS (fun h=>h);have aiN:=rz.size;obtain⟨A',c',xz,hr,nV,hg,xf⟩:=dc (cx:=1) aF L5 jF (by omega) (by omega);have Qj:Kept (fun k=>bG A=some k) nn xz:=Kept.grown (Kept.refl _ _) hg (fun k hk _=>hk);have L6:=Qj.heap ac9 (fun h=>h5 _ h rfl);have P9:Live (w3.heap.size+1) w3.heap.size R2 xz:=by
   have Qa:=uA.aJ rz (fun h=>h) (fun h=>h);refine Qa.aJ Qj ?_ ?_
   ·intro h
    obtain⟨_,cur,hc⟩:=Row.bV L5 h;exact lN hc Qa.loop rfl
   ·intro h
    obtain⟨_,cur,hc⟩:=Row.bV L5 h;exact yJ hc Qa.mark rfl
  have JV:Kept Nil w xz:=(WO.tt rz).trans Qj (fun k hk e=>by
   obtain⟨h,_⟩:=Row.bV L5 e;omega)
  refine⟨A',_,c',xz,hr,dN L6 (by simp),?_⟩;intro pv;have x5:Kept (· =w.heap.size) xz pv:=Kept.setCell (S:=fun k=>k=w.heap.size) (Kept.refl _ xz) (p:=⟨w.heap.size,0,none⟩) (fun _=>rfl) _;have acw:pv.heap[w.heap.size]? =some (.cells #[.slice A' (i+1) c'] aF (0,0)):=dp L6 0 _;clear_value pv;have Gt:∀k,bG A'=some k->k≠w.heap.size:=fun k hk=>by
   rcases xf k hk with h|h
   ·exact h5 k h
   ·omega
  refine⟨P9.aJ x5 (lN L6 P9.loop).symm (yJ L6 P9.mark).symm,A',c',acw,?_,JV.trans x5 (fun k hk e=>by omega),eh,Gt⟩;rw [List.take_add_one,hx];exact Row.aJ nV x5 Gt
 ·rintro w' R ⟨A,c,h1,h2,h3,h4,h5⟩ hl
  have e7:iU ρ0 w3.heap.size= [(2,.pointer (some (aU w.heap.size))),(4,.slice none 0 0),(6,.func (.func gf) #[] gP),(4294967296,.agg #[.pointer (some ⟨w3.heap.size,0,none⟩)])]:=rfl;rw [e7,aN.lG];refine⟨A,xs.length,c,by rw [aE h1];rfl,⟨hl.mark,trivial⟩,?_⟩;have kp:Kept (· =w3.heap.size) w' (w'.putObj w3.heap.size (.deferred none)):=Kept.putAt _ _ _;refine hK A c _ ?_ (h3.trans kp (fun k hk e=>by omega));have:=Row.apart h2 kp (fun cs t fr h=>by rw [hl.mark]at h;cases h)
  rwa [List.take_of_length_le (Nat.le_refl _)]at this
theorem Dm{gf:FuncId}{gP:Array Value}{xs:List HT}{fn:Func}(Ki:prog.funcs[gf]? =some fn)(hb:fn.body.isSome){Kq:World->Prop}
 (hit:oB prog gf #[] gP (xs.map sF) Kq) (hp:∀w',Kept Nil w w'->Kq w') (Lh:xs.length<=1000000)
 (hK:∀A c w',cC w' w.heap.size A xs.length c xs->Kept Nil w w'->K (.slice A xs.length c) w'):
 bD prog dm.id #[.func (.func gf) #[] gP] w K:=by
 refine dm.of (xp Ki hb hit hp Lh fun A c w' h1 h2=>⟨_,_,_,rfl,hK A c w' h1 h2⟩)
end
open Go.Sort
instance:Inhabited HT:=⟨⟨Array.replicate 32 (.int .u8 0),by simp,fun v hv=>⟨0,by simpa using hv,by omega,by omega⟩⟩⟩
abbrev nP(h:HT):List Value:=h.1.toList
theorem Bn(h:HT):(nP h).length=32:=by have:=h.2.1;simpa using this
theorem wc(d:Array HT):(flatK nP 32 d).toList=dt d.toList:=by
 apply List.ext_getElem?;intro t;by_cases ht:t<d.size*32
 ·have hi:t/32<d.size:=by omega
  have hx:d.toList[t/32]? =some d[t/32]:=by rw [Array.getElem?_toList,Array.getElem?_eq_getElem hi]
  have hs:t%32<d[t/32].1.size:=by rw [d[t/32].2.1];omega
  have h1:=lK hx (Array.getElem?_eq_getElem hs);rw [show t/32*32+t%32=t by omega]at h1;rw [h1];have h2:t<(flatK nP 32 d).size:=by rw [size_flatK];exact ht
  have h3:=get_flatK nP 32 d t ht;rw [getElem!_pos _ t h2]at h3;rw [Array.getElem?_toList,Array.getElem?_eq_getElem h2,h3,getElem!_pos d _ hi];rw [getElem!_pos _ _ (by rw [Bn];omega)];simp [nP]
 ·rw [List.getElem?_eq_none (by simp;omega),List.getElem?_eq_none (by rw [fc];simp;omega)]
theorem HK{F cur:Array Value}{k:Nat}(hk:F.size=k)(h:k<=cur.size):(putCells id 0 F cur).toList.take k=F.toList:=by
 apply List.ext_getElem?;intro i;rw [List.getElem?_take];split
 ·rename_i hi
  have h1:i<cur.size:=by omega
  have h2:i<F.size:=by omega
  rw [Array.getElem?_toList,Array.getElem?_toList,putCells,Array.getElem?_mapIdx,Array.getElem?_eq_getElem h1,Array.getElem?_eq_getElem h2];simp [h2]
 ·rw [List.getElem?_eq_none (by simp;omega)]
theorem wP{w:World}{b:Nat}{f:Array Value->Array Value}{cur:Array Value}{t:TypeId}{fr:Nat×Nat}(h:w.heap[b]? =some (.cells cur t fr)):(mapBlock w b f).heap[b]? =some (.cells (f cur) t fr):=by
 simp [mapBlock,Array.getElem?_modify,h,onCells]
theorem wO(w:World)(b:Nat)(f:Array Value->Array Value):Kept (· =b) w (mapBlock w b f):=
 ⟨rfl,rfl,rfl,by simp [mapBlock],fun k _ hn=>by simp [mapBlock,Array.getElem?_modify,Ne.symm hn]⟩
theorem Gv(w:World)(os:Array Obj):Kept Nil w (grow w os):=
 ⟨rfl,rfl,rfl,by simp,fun k hk _=>heap_grow_old w os hk⟩
theorem DC(w:World)(m:Nat):Kept Nil w (Sort.ahead w m):=⟨rfl,rfl,rfl,Nat.le_refl _,fun _ _ _=>rfl⟩
section
variable{w:World}{B n c b:Nat}{l:List HT}
theorem wJ(row:cC w B (some ⟨b,0,none⟩) n c l)(m:Nat)(dk:Array HT)(os:Array Obj)(hd:dk.size=n):
 cC (sortWorldK nP 32 w b 0 m dk os) B (some ⟨b,0,none⟩) n c dk.toList/\Kept (· =b) w (sortWorldK nP 32 w b 0 m dk os):=by
 have hka:=DC w m;have k1:=wO (Sort.ahead w m) b (putCells id 0 (flatK nP 32 dk));have kk:=((hka.mono (S':=fun k=>k=b) (fun _ _ h=>h.elim)).tt k1).trans (Gv _ os) (fun _ _ h=>h.elim);refine⟨?_,?_⟩
 ·rcases Row.own row with⟨h,_⟩|⟨b',cur,hA,hB,hg,Gj,oX,nR,zw⟩
  ·cases h
  ·cases hA
   refine⟨by rw [fc,Array.length_toList,hd],.inr ⟨b,c,putCells id 0 (flatK nP 32 dk) cur,rfl,hB,?_,Gj,oX,by simp [putCells,nR],?_⟩⟩
   ·have h1:(mapBlock (Sort.ahead w m) b (putCells id 0 (flatK nP 32 dk))).heap[b]? =some (.cells (putCells id 0 (flatK nP 32 dk) cur) al (0,0)):=wP hg
    exact(heap_grow_old _ os (aY h1)).trans h1
   ·rw [<-wc]
    refine HK (by rw [size_flatK,hd]) ?_;rw [nR];exact Nat.mul_le_mul_right _ Gj
 ·exact kk
theorem CQ(row:cC w B (some ⟨b,0,none⟩) n c l):HoldsK nP 32 w b 0 l.toArray:=by
 intro j hj;rw [size_flatK]at hj;have vN:j<l.length*32:=by simpa using hj
 rw [Nat.zero_add];have hlen:=Row.len row;have hx:(flatK nP 32 l.toArray).toList[j]? =(dt l)[j]? :=by rw [wc]
 have hjs:j<(flatK nP 32 l.toArray).size:=by rw [size_flatK];exact hj
 rw [Array.getElem?_toList,Array.getElem?_eq_getElem hjs]at hx;have hc:=Row.cell row hx.symm;refine⟨?_,?_⟩
 ·rw [hc,getElem!_pos _ j hjs];rfl
 ·exact(Row.wr row (j:=j) (by rw [fc];exact vN)).2
theorem pZ(x y:HT):ltOf lW x y=dg x y:=by
 unfold ltOf;cases h:dg x y
 ·exact decide_eq_false fun h'=>by rw [sJ.1 h']at h;cases h
 ·exact decide_eq_true (sJ.2 h)
theorem le_trans'{x y z:HT}(h:dg y x=false)(h':dg z y=false):dg z x=false:=by
 cases TM:dg z x
 ·rfl
 ·exfalso
  by_cases e:y=z
  ·subst e;rw [h]at TM;cases TM
  ·have RA:=lt_of_le_ne h' e
   have:=lJ RA TM;rw [h]at this;cases this
theorem Zd:SWO (ltOf lW) where
 irrefl x:=by rw [pZ];exact jl x
 trans x y z h h':=by rw [pZ]at*;exact lJ h h'
 ntrans x y z h h':=by
  rw [pZ]at*;exact le_trans' h' h
theorem KC{A:Option Addr}{K:Value->World->Prop}(row:cC w B A n c l)(hn:n<=1000000)
 (hK:∀l' w',LE l'->(∀x,x∈l'↔x∈l)->cC w' B A n c l'->Kept (fun k=>bG A=some k) w w'->K (.tuple #[]) w'):
 bD prog jv.id #[.slice A n c,.func (.func dM.id) #[] #[]] w K:=by
 have hlen:=row.len;by_cases h0:n=0
 ·subst h0
  have h:=AnyF.slices_SortFunc_none Tryz.xE A c (.func (.func dM.id) #[] #[]) w;refine Calls.mono h ?_;rintro e w' ⟨rfl,rfl⟩;have:l= []:=List.eq_nil_of_length_eq_zero hlen;subst this;exact⟨_,rfl,hK [] _ List.Pairwise.nil (fun _=>Iff.rfl) row (Kept.refl _ _)⟩
 ·obtain⟨b,rfl⟩:=Row.some row (by omega)
  have hblk:b<w.heap.size:=by
   obtain⟨_,cur,hc⟩:=Row.bV row (k:=b) rfl;exact aY hc
  have mF:l.toArray.size=n:=by simpa using hlen
  have eg:∀args w,(callFunc dM.id args).run prog w=.ok (.enter dM.id args) w:=enters_of dM.at_ (by kernel_rfl) rfl;have hk:nI prog al=.agg 32:=by kernel_rfl
  obtain⟨e32,ha⟩:=sx hk;obtain⟨i,hi⟩:=Go.b0.info_of_underlying (P:=prog) (t:=al) (by kernel_rfl);have ab1:CmpLays prog dM.id #[] nP 32 lW b 0 l.toArray.size w:=fun m os dk _ x y=>by
   have e:(#[.agg (nP x).toArray,.agg (nP y).toArray]++ #[]:Array Value)= #[.agg x.1,.agg y.1]:=by simp [nP]
   rw [e];have h:=ql (w:=sortWorldK nP 32 w b 0 m dk os) x y (K:=fun v w'=>v=.int .i64 (lW x y)/\w'=(((sortWorldK nP 32 w b 0 m dk os).alloc (.cells x.1 al)).alloc (.cells y.1 al)).drew) ⟨rfl,rfl⟩;refine Calls.mono h ?_;rintro e w' ⟨v,rfl,rfl,rfl⟩;refine⟨rfl,1,#[.cells x.1 al,.cells y.1 al],?_⟩;rw [alloc_eq_grow,alloc_eq_grow,grow_grow,drew_grow];rfl
  have h:=AnyQ.slices_SortFunc_total Tryz.xE 32 ha (fun w=>by rw [e32];exact Go.b0.run_sizeOf hi w) nP Bn (fun x=>x.2.one) lW Zd dM.id #[] b 0 c l.toArray w eg ab1 (CQ row) hblk (by omega)
   (fun x y h1 h2=>by rw [pZ]at h1 h2;exact qF h1 h2)
  rw [mF]at h;refine Calls.mono h ?_;rintro e w' ⟨rfl,m,os,rfl⟩;have hp:=List.mergeSort_perm l.toArray.toList (fun x y=> !(ltOf lW) y x);have IQ:(l.toArray.toList.mergeSort fun x y=> !(ltOf lW) y x).toArray.size=n:=by
   have:=hp.length_eq;simp only [List.size_toArray];rw [this];simpa using hlen
  obtain⟨h1,h2⟩:=wJ row m _ os IQ;refine⟨_,rfl,hK _ _ ?_ (fun x=>?_) h1 (h2.mono fun k _ e=>by rw [e];rfl)⟩
  ·have hs:=List.pairwise_mergeSort (le:=fun x y=> !(ltOf lW) y x) (fun a b c h h'=>by
    rw [pZ]at*;simp only [Bool.not_eq_true']at*;exact le_trans' h h') (fun a b=>by
    rw [pZ,pZ];cases mB:dg b a
    ·rfl
    ·rw [tw mB];rfl) l.toArray.toList
   refine List.Pairwise.imp ?_ hs;intro a b mB;rw [pZ]at mB;simpa using mB
  ·simp
end
end Go.Proofs.YtfleamccglihoaaGreatDoor
namespace Go.Proofs.YtfleamccglihoaaGreatDoor
open Go.Proofs.Tryz
open Go Go.b0 Go.RowKit
theorem CW{l:List HT}{k:Nat}(hk:k<l.length)(x:HT):dt (l.set k x)=iC (dt l) (k*32) x.1.toList:=by
 have h1:l=l.take k++l[k]::l.drop (k+1):=by rw [<-List.drop_eq_getElem_cons hk,List.take_append_drop]
 have e1:(dt (l.take k)).length=k*32:=by rw [fc,List.length_take];omega
 have hx:=x.2.1;have hl:=l[k].2.1;have hs:l.set k x=l.take k++x::l.drop (k+1):=List.set_eq_take_append_cons_drop .. |>.trans (if_pos hk)
 rw [hs]
 conv=>rhs;rw [h1]
 rw [mS,mS,lU,lU];generalize dt (l.take k)=p at e1;generalize dt (l.drop (k+1))=r;have eq:l[k].1.toList.length=32:=by simpa using hl
 have ev:x.1.toList.length=32:=by simpa using hx
 generalize l[k].1.toList=q at eq;generalize x.1.toList=v at ev;unfold iC;rw [List.take_left' e1,ev,show p++(q++r)=(p++q)++r by simp,List.drop_left' (by rw [List.length_append,e1,eq])];simp
theorem cC.setAt{w:World}{B n c b:Nat}{l:List HT}(row:cC w B (some ⟨b,0,none⟩) n c l){k:Nat}(hk:k<n)(x:HT):
 cC (setCells w ⟨b,k*32,none⟩ x.1.toList 0) B (some ⟨b,0,none⟩) n c (l.set k x):=by
 have hlen:=row.len;have hx:=x.2.1;have:=rY x.1.toList (dt l) w (k*32) 0 row (by rw [fc];simp;omega);rw [Nat.add_zero]at this;rw [<-CW (by omega)]at this;exact this
theorem cC.Ol{w:World}{B n c b:Nat}{l:List HT}(row:cC w B (some ⟨b,0,none⟩) n c l){k:Nat}(hk:k<n)(j:Nat)(hj:j<32):Wr w ((⟨b,k*32,none⟩:Addr).add j):=by
 rw [bC];refine Row.wr row ?_;rw [fc,row.len];omega
theorem cC.cap{w:World}{B:Nat}{A:Option Addr}{n c:Nat}{l:List HT}(row:cC w B A n c l):n<=c:=by
 rcases Row.own row with⟨_,h1,h2,_⟩|⟨_,_,_,_,_,h1,_⟩<;>omega
theorem cC.cut{w w':World}{B n c b:Nat}{l:List HT}(row:cC w B (some ⟨b,0,none⟩) n c l){k:Nat}(hk:k<=n)(vs:List Value)(hv:vs.length=(n-k)*32)(hw:w'=setCells w ⟨b,k*32,none⟩ vs 0):
 cC w' B (some ⟨b,0,none⟩) k c (l.take k):=by
 subst hw;have hlen:=row.len;rcases Row.own row with⟨h,_⟩|⟨b',cur,hA,hB,hg,Gj,oX,nR,zw⟩
 ·cases h
 ·cases hA
  have hle:n*32<=c*32:=Nat.mul_le_mul_right _ Gj;have mF:k*32+0+vs.length<=cur.size:=by omega
  have h1:=lj vs cur w al (k*32) 0 hg mF;refine⟨by rw [fc,List.length_take];omega,.inr ⟨b,c,_,rfl,hB,h1,by omega,oX,?_,?_⟩⟩
  ·have:=mJ (xs:=cur.toList) (k:=k*32+0) (vs:=vs) (by simpa using mF)
   rw [List.size_toArray,this];simpa using nR
  ·have e1:(dt (l.take k)).length=k*32:=by rw [fc,List.length_take];omega
   have e2:(dt l).take (k*32)=dt (l.take k):=by
    conv=>lhs;rw [<-List.take_append_drop k l,mS]
    rw [<-e1,List.take_left'];rfl
   rw [<-e2,<-zw,List.take_take,Nat.min_eq_left (by omega)];unfold iC;simp only [Nat.add_zero];rw [List.append_assoc,List.take_append_of_le_length (by simp;omega),List.take_take,Nat.min_self]
def DM(P:Program)(e:TypeId):Bool:=
 match P.info? e with
 |some i=>match i.zero with
  |some z=>z.cells.toList.all fun v=>v.oneCell'
  |none=>false
 |none=>false
theorem u9{w:World}{B n c b:Nat}{l:List HT}(row:cC w B (some ⟨b,0,none⟩) n c l){k:Nat}(hk:k<=n)(ty:Nat){A:Option Addr}{cx:Nat}(hA:k<n->A=some ⟨b,k*32,none⟩):
 ∃w',(Builtin.clear_ #[aF] ty #[.slice A (n-k) cx]).run prog w=.ok (.tuple #[]) w'/\cC w' B (some ⟨b,0,none⟩) k c (l.take k)/\Kept (· =b) w w':=by
 have hlen:=row.len;by_cases wY:k<n
 ·obtain⟨i,z,hi,hz,hs,_,Eu⟩:=pI.inf
  have Lv:DM prog al=true:=by kernel_rfl
  unfold DM at Lv;rw [hi]at Lv;simp only [hz,List.all_eq_true]at Lv;rw [hA wY];obtain⟨m,hm⟩:∃m,n-k=m+1:=⟨n-k-1,by omega⟩;have XW:(Builtin.zeroCells z.cells (n-k)).toList.length=(n-k)*32:=by simp [Builtin.zeroCells,Eu]
  have oU:=jf (P:=prog) ⟨b,k*32,none⟩ (Builtin.zeroCells z.cells (n-k)).toList 0 w (fun v hv=>by
   simp only [Builtin.zeroCells,Array.toList_map,List.mem_map]at hv;obtain⟨t,ht,rfl⟩:=hv;have:t%z.cells.size<z.cells.size:=Nat.mod_lt _ (by omega);rw [getElem!_pos z.cells _ this];exact Lv _ (by simp)) (fun j hj=>by
   rw [Nat.zero_add,bC];refine Row.wr row ?_;rw [fc];omega)
  refine⟨_,?_,row.cut hk _ XW rfl,gV _ _ _ _⟩;simp only [Builtin.clear_,hm];rw [hm]at oU;simp [run_underlying pI.pz,zeroValue,typeInfo,hi,hz,oU]
 ·have:n=k:=by omega
  subst this;refine⟨w,?_,by rw [List.take_of_length_le (by omega)];exact row,Kept.refl _ _⟩;rw [Nat.sub_self];cases A<;>simp [Builtin.clear_,run_underlying pI.pz]
theorem Fi:∀ {l:List HT},l.length<2->dB l=l
 | [],_=>rfl
 | [_],_=>rfl
 |_::_::_,h=>by simp only [List.length_cons]at h;omega
section
variable{w:World}{B n c:Nat}{A:Option Addr}{l:List HT}{K:Value->World->Prop}
theorem Dk(row:cC w B A n c l)(hle:LE l)(hn:n<=400000)
 (hK:∀A' c' w',cC w' B A' (dB l).length c' (dB l)->(∀k,bG A'=some k->bG A=some k)->Kept (fun k=>bG A=some k) w w'->K (.slice A' (dB l).length c') w'):
 bD prog ah.id #[.slice A n c] w K:=by
 have hlen:=row.len;refine ah.of ?_;refine Split.dec (fun h2=>?_) (fun h2=>?_)
 ·have e:dB l=l:=Fi (by omega)
  have:=hK A c w (by rw [e,hlen];exact row) (fun k h=>h) (Kept.refl _ _);rw [e,hlen]at this;exact this
 obtain⟨b,rfl⟩:=Row.some row (by omega);have I0:=row.cap;refine ah.cJ (I:=fun s w'=>∃k:Nat,s=(none,0,0,(k:Int))/\1<=k/\k<=n/\SS (l.take k)/\Kept Nil w w') (μ:=fun s _=>((n:Int)-s.2.2.2).toNat) (s:=(none,0,0,1))
  ⟨1,rfl,Nat.le_refl _,by omega,?_,Kept.refl _ _⟩ ?_
 ·cases l with
  |nil=>exact List.Pairwise.nil
  |cons x l=>simp [SS]
 rintro s w' ⟨k,rfl,Kg,wY,uM,kw⟩;refine Split.dec (fun jV=>?_) (fun gK=>?_)
 ·simp only at jV
  have CT:k<n:=by omega
  obtain⟨x,hx⟩:∃x,l[k]? =some x:=⟨_,List.getElem?_eq_getElem (by omega)⟩;obtain⟨y,hy⟩:∃y,l[k-1]? =some y:=⟨_,List.getElem?_eq_getElem (by omega)⟩;intro w5;have k5:Kept Nil w w5:=kw.drew;clear_value w5;have lC:cC w5 B (some ⟨b,0,none⟩) n c l:=Row.aJ row k5 (fun _ _ h=>h);simp only;rw [wrapM (n:=(k:Int)) (by omega) (by omega)];have ny:dg x y=false:=hle.get (by omega) hy hx;refine lC.hs.load (i:=(k:Int)) (by omega) hx (lC.hs.load (i:=(k:Int)-1) (by omega) (by rw [show((k:Int)-1).toNat=k-1 by omega];exact hy) ⟨⟨x.2.ints,y.2.ints⟩,?_⟩);rw [fL];refine Split.dec (fun he=>?_) (fun he=>?_)
  ·refine⟨⟨by omega,by omega⟩,?_⟩
   rw [Int.toNat_natCast];rw [if_neg (show ¬c=k by omega)];simp only [Option.map_some,bC,Nat.zero_add];refine ah.iG (I:=fun s w'=>∃(p j:Nat) (l':List HT),s=((p:Int),(j:Int))/\1<=j/\k<=p/\p<k+j/\k+j<=n/\cC w' B (some ⟨b,0,none⟩) n c l'/\l'.drop (k+j-1)=l.drop (k+j-1)/\SS (l'.take p)/\(∀z,z∈l'.take p↔z∈l.take (k+j))/\Kept (· =b) w w')
    (μ:=fun s _=>((n:Int)-s.2).toNat) (s:=((k:Int),1)) ⟨k,1,l,rfl,Nat.le_refl _,Nat.le_refl _,by omega,by omega,lC,rfl,uM,fun z=>?_,k5.mono fun _ _ h=>h.elim⟩ ?_
   ·rw [bT hx]
    constructor
    ·exact .inl
    ·rintro(h|rfl)
     ·exact h
     ·rw [he]
      have:=bT (z:=y) hy;rw [show k-1+1=k by omega]at this;exact this.2 (.inr rfl)
   rintro s w1 ⟨p,j,l',rfl,hj1,U8,hpj,hjn,nW,VL,wG,Nt,k1⟩;have IU:=nW.len;refine Split.dec (fun Qe=>?_) (fun Qk=>?_)
   ·simp only at Qe
    have uN:k+j<n:=by omega
    obtain⟨u,hu⟩:∃u,l[k+j]? =some u:=⟨_,List.getElem?_eq_getElem (by omega)⟩;obtain⟨v,hv⟩:∃v,l[k+j-1]? =some v:=⟨_,List.getElem?_eq_getElem (by omega)⟩;have Lk:l'[k+j]? =some u:=by
     have h:=congrArg (fun m:List HT=>m[1]?) VL;simp only [List.getElem?_drop]at h;rw [show k+j-1+1=k+j by omega]at h;rw [h,hu]
    have hv':l'[k+j-1]? =some v:=by
     have h:=congrArg (fun m:List HT=>m[0]?) VL;simp only [List.getElem?_drop,Nat.add_zero]at h;rw [h,hv]
    intro xz;have JV:Kept (· =b) w xz:=k1.drew;have nV:cC xz B (some ⟨b,0,none⟩) n c l':=Row.aJ nW ((Kept.refl Nil w1).drew) (fun _ _ h=>h);clear_value xz;have vK:HS xz (some ⟨b,k*32,none⟩) (n-k) (l'.drop k):=by
     have h:=nV.hs.drop (c:=c) I0 (k:=k) (by omega);rw [if_neg (show ¬c=k by omega)]at h;simpa [bC]using h
    have hsu:(l'.drop k)[(j:Int).toNat]? =some u:=by rw [Int.toNat_natCast,List.getElem?_drop];exact Lk
    have PH:(l'.drop k)[((j:Int)-1).toNat]? =some v:=by
     rw [show((j:Int)-1).toNat=j-1 by omega,List.getElem?_drop,show k+(j-1)=k+j-1 by omega];exact hv'
    simp-zeta only;rw [wrapM (n:=(j:Int)) (by omega) (by omega)];have huv:dg u v=false:=hle.get (by omega) hv hu;refine vK.load (i:=(j:Int)) (by omega) hsu (vK.load (i:=(j:Int)-1) (by omega) PH ⟨⟨u.2.ints,v.2.ints⟩,?_⟩);rw [fL,dH (n:=(j:Int)) (by omega) (by omega)];have hmu:∀z,z∈l.take (k+(j+1))↔z∈l'.take p\/z=u:=fun z=>by
     rw [show k+(j+1)=k+j+1 by omega,bT hu,Nt z]
    by_cases heq:u=v
    ·refine Split.no (by rw [decide_eq_true heq];rfl) ?_
     refine⟨((p:Int),(j:Int)+1),rfl,⟨p,j+1,l',rfl,by omega,U8,by omega,by omega,nV,?_,wG,fun z=>?_,JV⟩,by simp only;omega⟩
     ·have h:=congrArg (fun m:List HT=>m.drop 1) VL
      simp only [List.drop_drop]at h;rw [show k+(j+1)-1=k+j-1+1 by omega];exact h
     ·rw [hmu z]
      constructor
      ·exact .inl
      ·rintro(h|rfl)
       ·exact h
       ·refine(Nt _).2 ?_
        rw [heq];exact List.mem_of_getElem? (i:=k+j-1) (by rw [List.getElem?_take,if_pos (by omega)];exact hv)
    ·refine Split.yes (by rw [decide_eq_false heq];rfl) ?_
     refine vK.load (i:=(j:Int)) (by omega) hsu ⟨⟨by omega,by omega⟩,⟨u.2.1,u.2.one,fun i hi=>?_⟩,?_⟩
     ·rw [Int.toNat_natCast,bC,Nat.zero_add]
      exact nV.Ol (by omega) i hi
     intro GY;have TR:GY=setCells xz ⟨b,p*32,none⟩ u.1.toList 0:=by
      show setCells xz ((⟨b,0,none⟩:Addr).add ((p:Int).toNat*32)) u.1.toList 0=_
      rw [Int.toNat_natCast,bC,Nat.zero_add]
     have Sz:cC GY B (some ⟨b,0,none⟩) n c (l'.set p u):=by rw [TR];exact nV.setAt (by omega) u
     have Ia:Kept (· =b) w GY:=by rw [TR];exact JV.tt (gV _ _ _ _)
     clear_value GY;rw [dH (n:=(p:Int)) (by omega) (by omega)];have zw:(l'.set p u).take (p+1)=l'.take p++ [u]:=by
      rw [List.take_add_one,List.take_set_of_le (Nat.le_refl p),List.getElem?_set_self (by omega)];rfl
     refine⟨((p:Int)+1,(j:Int)+1),rfl,⟨p+1,j+1,l'.set p u,rfl,by omega,by omega,by omega,by omega,Sz,?_,?_,fun z=>?_,Ia⟩,by simp only;omega⟩
     ·have h:=congrArg (fun m:List HT=>m.drop 1) VL
      simp only [List.drop_drop]at h;rw [List.drop_set,if_pos (by omega),show k+(j+1)-1=k+j-1+1 by omega];exact h
     ·rw [zw]
      refine ET wG fun z hz=>?_;obtain⟨i,hi⟩:=List.mem_iff_getElem?.1 ((Nt z).1 hz);rw [List.getElem?_take]at hi;split at hi
      ·rename_i hik
       have hvu:dg v u=true:=lt_of_le_ne huv (fun e=>heq e.symm);by_cases e:i=k+j-1
       ·subst e;rw [hv]at hi;cases hi;exact hvu
       ·exact tV (hle.get (by omega) hi hv) hvu
      ·cases hi
     ·rw [zw,hmu z]
      simp
   ·simp only at Qk
    have hj:k+j=n:=by omega
    rw [aX,ah.kW];unfold ah.jr;refine⟨⟨by omega,by omega⟩,?_⟩;rw [Int.toNat_natCast];obtain⟨w2,hr,hU,k2⟩:=u9 nW (k:=p) (by omega) 0 (A:=if c=p then some ⟨b,0,none⟩else(some ⟨b,0,none⟩:Option Addr).map (·.add (p*32))) (cx:=c-p) (fun hp=>by
     rw [if_neg (by omega)];simp [bC])
    refine⟨_,w2,hr,⟨by omega,by omega⟩,?_⟩;have e:l'.take p=dB l:=yy wG fun z=>by rw [Nt z,hj,List.take_of_length_le (by omega)]
    have el:p=(dB l).length:=by
     have h:=hU.len;rw [e]at h;exact h.symm
    have e0:(if c=0 then(some ⟨b,0,none⟩:Option Addr)else(some ⟨b,0,none⟩:Option Addr).map (·.add (0*32)))=some ⟨b,0,none⟩:=by
     rw [if_neg (by omega)];simp [add_zero]
    rw [e0,Nat.sub_zero,Nat.sub_zero];rw [e,el]at hU;have:=hK (some ⟨b,0,none⟩) c w2 hU (fun k h=>h) ((k1.tt k2).mono fun i _ h=>by rw [h];rfl);rw [<-el]at this;exact this
  ·rw [dH (n:=(k:Int)) (by omega) (by omega)]
   refine⟨(none,0,0,(k:Int)+1),rfl,⟨k+1,rfl,by omega,by omega,?_,k5⟩,by simp only;omega⟩;rw [List.take_add_one,hx];refine ET uM fun z hz=>?_;have Ev:dg y x=true:=lt_of_le_ne ny (fun e=>he e.symm);obtain⟨i,hi⟩:=List.mem_iff_getElem?.1 hz;rw [List.getElem?_take]at hi;split at hi
   ·by_cases e:i=k-1
    ·subst e;rw [hy]at hi;cases hi;exact Ev
    ·exact tV (hle.get (by omega) hi hy) Ev
   ·cases hi
 ·simp only at gK
  have e:k=n:=by omega
  subst e;rw [aX,ah.dv];rw [List.take_of_length_le (by omega)]at uM;have e:dB l=l:=zT uM;have:=hK (some ⟨b,0,none⟩) c w' (by rw [e,hlen];exact Row.aJ row kw (fun _ _ h=>h)) (fun k h=>h) (kw.mono fun _ _ h=>h.elim);rw [e,hlen]at this;exact this
theorem iP(hl:HS w A n l)(hn:n<=400000)
 (hK:∀A' c' w',cC w' w.heap.size A' (dB l).length c' (dB l)->Kept Nil w w'->K (.slice A' (dB l).length c') w'):
 bD prog jH.id #[.slice A n c] w K:=by
 have hlen:=hl.len;refine jH.of ?_;refine dG.of ?_;unfold dG.W;intro w2;have k2:Kept Nil w w2:=(Kept.refl _ _).alloc _;have nA:w2.heap[w.heap.size]? =some (.cells #[.slice A n c] aF (0,0)):=aM w _;clear_value w2;refine⟨_,rfl,?_⟩;refine dE.of ?_;refine Dm (xs:=l) aH.at_ (by rfl) (zN (l:=l) ⟨w.heap.size,0,none⟩ (A:=A) (n:=n) (c:=c) (by omega)) (fun w' hk=>⟨(hl.same k2).same hk,by rw [aE (hk.heap nA (fun h=>h))];rfl⟩) (by omega) ?_;intro A4 c4 w4 kL k4;refine⟨A4,_,c4,rfl,?_⟩;refine KC kL (by omega) fun l5 w5 hle ji lC k5=>⟨rfl,?_⟩;refine⟨A4,_,c4,rfl,?_⟩;refine Dk lC hle (by omega) fun A6 c6 w6 yC qd k6=>⟨A6,_,c6,rfl,?_⟩;have e:dB l5=dB l:=DX ji;rw [e]at yC⊢;have RW:∀k,bG A4=some k->w.heap.size<=k:=fun k hk=>Nat.le_trans k2.size (Row.bV kL hk).1;refine hK A6 c6 w6 (Row.base yC fun k hk=>RW k (qd k hk)) ?_;exact((k2.tt k4).trans k5 (fun k hk h=>absurd (RW k h) (by omega))).trans k6 (fun k hk h=>absurd (RW k h) (by omega))
end
theorem km{x:Nat}(h:x<18446744073709551616):u64.wrap (x:Int)=(x:Int):=by
 simp only [IntKind.wrap,IntKind.bits,IntKind.signed];simp;omega
theorem orU{x y:Nat}(hx:x<18446744073709551616)(hy:y<18446744073709551616):
 u64.wrap ((BitVec.ofInt 64 (x:Int)|||BitVec.ofInt 64 (y:Int)).toNat:Int)=((x|||y:Nat):Int):=by
 have h:(BitVec.ofInt 64 (x:Int)|||BitVec.ofInt 64 (y:Int)).toNat=x|||y:=by
  rw [BitVec.ofInt_natCast,BitVec.ofInt_natCast,BitVec.toNat_or,BitVec.toNat_ofNat,BitVec.toNat_ofNat,Nat.mod_eq_of_lt (by omega),Nat.mod_eq_of_lt (by omega)]
 rw [h];exact km (Nat.or_lt_two_pow (n:=64) hx hy)
theorem adv{x y:Nat}(hx:x<18446744073709551616)(hy:y<18446744073709551616):
 u64.wrap ((BitVec.ofInt 64 (x:Int)&&& BitVec.ofInt 64 (y:Int)).toNat:Int)=((x&&& y:Nat):Int):=by
 have h:(BitVec.ofInt 64 (x:Int)&&& BitVec.ofInt 64 (y:Int)).toNat=x&&& y:=by
  rw [BitVec.ofInt_natCast,BitVec.ofInt_natCast,BitVec.toNat_and,BitVec.toNat_ofNat,BitVec.toNat_ofNat,Nat.mod_eq_of_lt (by omega),Nat.mod_eq_of_lt (by omega)]
 rw [h];exact km (Nat.lt_of_le_of_lt Nat.and_le_left hx)
theorem Zr{i:Nat}(hi:i<64):u64.wrap ((1:Int)*2 ^ (min i 64))=((2 ^ i:Nat):Int):=by
 rw [Nat.min_eq_left (by omega),Int.one_mul];have h:2 ^ i<18446744073709551616:=Nat.pow_lt_pow_right (by omega) (n:=64) hi;have:=km h;rw [<-this];simp
def bit(ws:List Nat)(i:Nat):Bool:=(ws.getD (i/64) 0).testBit (i%64)
def okW(ws:List Nat):Prop:=∀x∈ws,x<18446744073709551616
theorem zf(i:Nat):bit [] i=false:=by simp [bit]
theorem Bz(ws:List Nat)(i:Nat):bit (ws++ [0]) i=bit ws i:=by
 unfold bit
 congr 1
 simp only [List.getD_eq_getElem?_getD,List.getElem?_append];split
 ·rfl
 ·rename_i h
  rw [List.getElem?_eq_none (l:=ws) (by omega)];cases i/64-ws.length<;>simp
theorem EO{ws:List Nat}{q:Nat}(hq:q<ws.length)(v i:Nat):bit (ws.set q v) i=if i/64=q then v.testBit (i%64)else bit ws i:=by
 unfold bit;simp only [List.getD_eq_getElem?_getD,List.getElem?_set];by_cases h:i/64=q
 ·subst h;simp [hq]
 ·rw [if_neg (fun e=>h e.symm),if_neg h]
theorem Ee{ws:List Nat}(h:okW ws){x:Nat}(hx:x<18446744073709551616):okW (ws++ [x]):=fun y hy=>by
 rw [List.mem_append,List.mem_singleton]at hy;rcases hy with hy|rfl
 ·exact h y hy
 ·exact hx
theorem Ed{ws:List Nat}(h:okW ws){x:Nat}(hx:x<18446744073709551616)(q:Nat):okW (ws.set q x):=fun y hy=>by
 rcases List.mem_or_eq_of_mem_set hy with hy|rfl
 ·exact h y hy
 ·exact hx
def us(l:List Nat):List Value:=l.map fun x:Nat=>.int .u64 (x:Int)
theorem pE(l:List Nat):(us l).length=l.length:=by simp [us]
theorem pF{l:List Nat}{j x:Nat}(h:l[j]? =some x):(us l)[j]? =some (.int .u64 (x:Int)):=by simp [us,h]
theorem yw(l:List Nat)(q v:Nat):(us l).set q (.int .u64 (v:Int))=us (l.set q v):=by simp [us,List.map_set]
theorem Ox(l m:List Nat):us (l++m)=us l++us m:=by simp [us]
structure US(w:World)(A:Option Addr)(n:Nat)(l:List Nat):Prop where
 len:l.length=n
 at_:∀(i x:Nat),l[i]? =some x->∃a,A=some a/\a.block<w.heap.size/\w.cell? (a.add i)=some (.int .u64 (x:Int))
theorem US.aJ{S:Nat->Prop}{w w':World}{A:Option Addr}{n:Nat}{l:List Nat}(h:US w A n l)(hk:Kept S w w')(hn:∀a,A=some a->¬S a.block):US w' A n l:=⟨h.len,fun i x hi=>by
 obtain⟨a,h1,h2,h3⟩:=h.at_ i x hi;exact⟨a,h1,Nat.lt_of_lt_of_le h2 hk.size,hk.cell h3 (by rw [fg];exact hn a h1)⟩⟩
theorem US.load{w:World}{A:Option Addr}{n:Nat}{l:List Nat}(hl:US w A n l){i:Int}{x:Nat}(h0:0<=i)(hx:l[i.toNat]? =some x){k:Int->Prop}(hk:k x):
 (0<=i/\i<(n:Int))/\Is A fun a=>∃t:Int,w.cell? (a.add (i.toNat*1))=some (.int .u64 t)/\k t:=by
 obtain⟨a,rfl,_,hc⟩:=hl.at_ _ x hx;have:=(lgeS hx).1;have:=hl.len;exact⟨⟨h0,by omega⟩,x,by rw [Nat.mul_one];exact hc,hk⟩
theorem OG:zD prog lL gz 1 8:=⟨by kernel_rfl,by kernel_rfl⟩
abbrev lE(w:World)(B:Nat)(A:Option Addr)(n c:Nat)(l:List Nat):Prop:=Row w B gz 1 A n c (us l)
section
variable{w w':World}{B n c:Nat}{A:Option Addr}{l:List Nat}
theorem lE.len(h:lE w B A n c l):l.length=n:=by have:=Row.len h;rw [pE]at this;omega
theorem lE.us(h:lE w B A n c l):US w A n l:=⟨h.len,fun i x hi=>by
 have hlen:=h.len;have:=(lgeS hi).1;obtain⟨b,rfl⟩:=Row.some h (by omega);obtain⟨_,cur,p9⟩:=Row.bV h (k:=b) rfl;exact⟨_,rfl,aY p9,by rw [bC,Nat.zero_add];exact Row.cell h (pF hi)⟩⟩
theorem Hz(i:Nat):((i:Int).tdiv 64)=((i/64:Nat):Int):=by
 rw [Int.tdiv_eq_ediv_of_nonneg (by omega)];omega
theorem OD(i:Nat):((i:Int).tmod 64)=((i%64:Nat):Int):=by
 rw [Int.tmod_eq_emod_of_nonneg (by omega)];omega
theorem uu(h:lE w B A n c l)(hn:n<=1000000)(hB:B<=w.heap.size){t:Nat}(x:Nat):
 ∃A' c' w',(Builtin.append_ #[lL,lL] lL #[.slice A n c,.slice (some ⟨w.heap.size,0,none⟩) 1 1]).run prog (w.alloc (.cells #[.int .u64 (x:Int)] t))=.ok (.slice A' (n+1) c') w'/\
  lE w' B A' (n+1) c' (l++ [x])/\Kept (fun k=>bG A=some k) w w'/\(∀k,bG A'=some k->bG A=some k\/w.heap.size<=k):=by
 have k1:Kept Nil w (w.alloc (.cells #[.int .u64 (x:Int)] t)):=(Kept.refl _ _).alloc _;have hb:=aM w (.cells #[.int .u64 (x:Int)] t);have h1:lE (w.alloc (.cells #[.int .u64 (x:Int)] t)) B A n c l:=Row.aJ h k1 (fun _ _ h=>h);obtain⟨A',c',w',hr,fJ,hg,xf⟩:=fR (P:=prog) (t:=lL) (ty:=lL) (bytes:=8) OG h1 (a:=⟨w.heap.size,0,none⟩) (m:=1) (cx:=1) (news:=us [x]) rfl
  (fun j u hj=>by rw [bC,Nat.zero_add,aE hb];simpa [us]using hj) (fun u hu=>by simp [us]at hu;subst hu;rfl) (by omega) (by unfold maxLen;omega) (by have:=k1.size;omega)
 refine⟨A',c',w',hr,?_,?_,fun k hk=>?_⟩
 ·show Row w' B gz 1 A' (n+1) c' (Proofs.YtfleamccglihoaaGreatDoor.us (l++ [x]))
  rw [Ox];exact fJ
 ·exact(k1.mono (S':=fun k=>bG A=some k) (fun _ _ h=>h.elim)).tt (Kept.grown (S:=fun k=>bG A=some k) (Kept.refl _ _) hg (fun k hk _=>hk))
 ·rcases xf k hk with h|h
  ·exact .inl h
  ·have:=k1.size;exact .inr (by omega)
theorem zV{b:Nat}(h:lE w B (some ⟨b,0,none⟩) n c l){q:Nat}(hq:q<n)(x:Nat):
 lE (w.setCell ⟨b,q,none⟩ (.int .u64 (x:Int))) B (some ⟨b,0,none⟩) n c (l.set q x):=by
 have:=Row.set h (j:=q) (by rw [pE,h.len];exact hq) (.int .u64 (x:Int));rw [yw]at this;exact this
theorem z7{K:Value->World->Prop}(h:lE w B A n c l)(ho:okW l)(hn:n<=100000)(hB:B<=w.heap.size){i:Nat}(hi:i<=1000000)
 (hK:∀A' n' c' l' w',lE w' B A' n' c' l'->okW l'->(n'<=n\/n'<=i/64+1)->(∀j,bit l' j=(bit l j||decide (j=i)))->Kept (fun k=>bG A=some k) w w'->(∀k,bG A'=some k->bG A=some k\/w.heap.size<=k)->K (.slice A' n' c') w'):
 bD prog bX.id #[.slice A n c,.int .i64 (i:Int)] w K:=by
 refine bX.of ?_;refine bX.cJ (I:=fun s w'=>∃A' n' c' l',s=(A',n',c')/\lE w' B A' n' c' l'/\okW l'/\(n'<=n\/n'<=i/64+1)/\(∀j,bit l' j=bit l j)/\Kept (fun k=>bG A=some k) w w'/\(∀k,bG A'=some k->bG A=some k\/w.heap.size<=k))
  (μ:=fun s _=>i/64+1-s.2.1) (s:=(A,n,c)) ⟨A,n,c,l,rfl,h,ho,.inl (Nat.le_refl _),fun _=>rfl,Kept.refl _ _,fun k hk=>.inl hk⟩ ?_
 rintro s w' ⟨A',n',c',l',rfl,row,Kf,hn',qM,kw,hb⟩;unfold bX.B1;rw [Hz,iZ (by omega) (by omega)];refine⟨by omega,?_⟩;refine Split.dec (fun hle=>?_) (fun x9=>?_)
 ·simp only at hle
  have ajr:n'<=i/64:=by omega
  obtain⟨A2,c2,w2,hr,hU,k2,nA⟩:=uu row (by omega) (Nat.le_trans hB kw.size) (t:=gz) 0;intro w6;refine⟨A2,n'+1,c2,w2,hr,?_⟩;refine⟨(A2,n'+1,c2),rfl,⟨A2,n'+1,c2,l'++ [0],rfl,hU,Ee Kf (by omega),by omega,fun j=>by rw [Bz,qM],?_,fun k hk=>?_⟩,by simp only;omega⟩
  ·exact kw.trans k2 (fun k hk e=>by
    rcases hb k e with h|h
    ·exact h
    ·omega)
  ·rcases nA k hk with h|h
   ·exact hb k h
   ·exact .inr (Nat.le_trans kw.size h)
 ·simp only at x9
  have eh:i/64<n':=by omega
  rw [aX,bX.dv];unfold bX.dd;intro nv;have zt:Kept Nil w' nv:=(Kept.refl _ _).drew;have VL:nv=w'.drew:=rfl;clear_value nv;have vf:lE nv B A' n' c' l':=Row.aJ row zt (fun _ _ h=>h);have hlen:=row.len;rw [Hz,OD,iZ (by omega) (by omega)];obtain⟨b,rfl⟩:=Row.some vf (by omega);obtain⟨x,hx⟩:∃x,l'[i/64]? =some x:=⟨_,List.getElem?_eq_getElem (by omega)⟩;refine⟨by omega,vf.us.load (by omega) (by rw [Int.toNat_natCast];exact hx) ⟨by omega,by omega,⟨⟨by omega,by simp only;omega⟩,?_⟩⟩⟩;have tZ:=Kf x (List.mem_of_getElem? hx);have hp:2 ^ (i%64)<18446744073709551616:=Nat.pow_lt_pow_right (by omega) (n:=64) (Nat.mod_lt _ (by omega));simp only [Is,Int.toNat_natCast,Nat.mul_one,bC,Nat.zero_add];rw [Zr (Nat.mod_lt _ (by omega)),orU tZ hp];refine⟨Row.wr vf (by rw [pE,hlen];exact eh),?_⟩;have qL:Kept (fun k=>bG A=some k) w (nv.setCell ⟨b,i/64,none⟩ (.int .u64 ((x|||2 ^ (i%64):Nat):Int))):=
   Kept.setCell (kw.trans zt (fun _ _ h=>h.elim)) (p:=⟨b,i/64,none⟩) (fun dg=>by
    rcases hb b rfl with h|h
    ·exact h
    ·exact absurd dg (by simp only;omega)) _
  refine hK _ _ _ _ _ (zV vf eh _) (Ed Kf (Nat.or_lt_two_pow (n:=64) tZ hp) _) hn' (fun j=>?_) qL hb;rw [EO (by omega),qM];have hbi:bit l' i=x.testBit (i%64):=by unfold bit;rw [List.getD_eq_getElem?_getD,hx];rfl
  by_cases e:j/64=i/64
  ·rw [if_pos e,Nat.testBit_or,Nat.testBit_two_pow]
   have hbj:bit l' j=x.testBit (j%64):=by unfold bit;rw [e,List.getD_eq_getElem?_getD,hx];rfl
   rw [<-hbj,qM]
   congr 1
   exact decide_eq_decide.2 ⟨fun h=>by omega,fun h=>by rw [h]⟩
  ·rw [if_neg e,decide_eq_false (fun h=>e (by rw [h]))]
   simp
end
section
variable{w w':World}{B n c:Nat}{A:Option Addr}{l:List Nat}
theorem xF{K:Value->World->Prop}(h:lE w B A n c l)(ho:okW l)(hn:n<=100000)(hB:B<=w.heap.size){A2:Option Addr}{n2 c2:Nat}{v:List Nat}(hv:US w A2 n2 v)(hv':okW v)(hn2:n2<=100000)
 (Wo:∀a,A2=some a->∀k,bG A=some k->a.block≠k)
 (hK:∀A' n' c' l' w',lE w' B A' n' c' l'->okW l'->(n'<=n\/n'<=n2)->(∀j,bit l' j=(bit l j||bit v j))->Kept (fun k=>bG A=some k) w w'->(∀k,bG A'=some k->bG A=some k\/w.heap.size<=k)->K (.slice A' n' c') w'):
 bD prog cM.id #[.slice A n c,.slice A2 n2 c2] w K:=by
 have aeW:=hv.len;refine cM.of ?_;refine cM.cJ (I:=fun s w'=>∃(i:Nat) (A':Option Addr) (n' c':Nat) (l':List Nat),s=(A',n',c',(i:Int))/\i<=n2/\lE w' B A' n' c' l'/\okW l'/\i<=n'/\n<=n'/\(n'<=n\/n'<=i)/\(∀j,bit l' j=(bit l j||(decide (j/64<i)&&bit v j)))/\Kept (fun k=>bG A=some k) w w'/\(∀k,bG A'=some k->bG A=some k\/w.heap.size<=k))
  (μ:=fun s _=>((n2:Int)-s.2.2.2).toNat) (s:=(A,n,c,0)) ⟨0,A,n,c,l,rfl,Nat.zero_le _,h,ho,Nat.zero_le _,Nat.le_refl _,.inl (Nat.le_refl _),by simp,Kept.refl _ _,fun k hk=>.inl hk⟩ ?_
 rintro s w' ⟨i,A',n',c',l',rfl,hi,row,Kf,gB,UG,Yb,qM,kw,hb⟩;have IU:=row.len;refine Split.dec (fun jV=>?_) (fun gK=>?_)
 ·simp only at jV
  have eh:i<n2:=by omega
  obtain⟨x,hx⟩:∃x,v[i]? =some x:=⟨_,List.getElem?_eq_getElem (by omega)⟩;have tZ:=hv' x (List.mem_of_getElem? hx);have hvw:US w' A2 n2 v:=hv.aJ kw (fun a ha e=>Wo a ha _ e rfl);refine hvw.load (i:=(i:Int)) (by omega) hx ?_;have step:∀(A2:Option Addr) (n3 c3:Nat) (l3:List Nat) (w3:World),lE w3 B A2 n3 c3 l3->okW l3->i<n3->n<=n3->(n3<=n\/n3<=i+1)->(∀j,bit l3 j=(bit l j||(decide (j/64<i)&&bit v j)))->Kept (fun k=>bG A=some k) w w3->(∀k,bG A2=some k->bG A=some k\/w.heap.size<=k)->
   (0<=(i:Int)/\(i:Int)<(n3:Int))/\Is A2 fun a=>∃t:Int,w3.cell? (a.add ((i:Int).toNat*1))=some (.int .u64 t)/\(0<=(i:Int)/\(i:Int)<(n3:Int))/\Is A2 fun a'=>Wr w3 (a'.add ((i:Int).toNat*1))/\
     ∃(l4:List Nat),
     lE (w3.setCell (a'.add ((i:Int).toNat*1)) (.int .u64 (u64.wrap ((BitVec.ofInt 64 t|||BitVec.ofInt 64 (x:Int)).toNat)))) B A2 n3 c3 l4/\okW l4/\(∀j,bit l4 j=(bit l j||(decide (j/64<i+1)&&bit v j)))/\Kept (fun k=>bG A=some k) w (w3.setCell (a'.add ((i:Int).toNat*1)) (.int .u64 (u64.wrap ((BitVec.ofInt 64 t|||BitVec.ofInt 64 (x:Int)).toNat)))):=by
   intro A2 n3 c3 l3 w3 nE ho3 hi3 hn3 aje NN k3 qf;have afr:=nE.len;obtain⟨b,rfl⟩:=Row.some nE (by omega);obtain⟨y,hy⟩:∃y,l3[i]? =some y:=⟨_,List.getElem?_eq_getElem (by omega)⟩;have hyl:=ho3 y (List.mem_of_getElem? hy);refine nE.us.load (i:=(i:Int)) (by omega) hy ⟨⟨by omega,by omega⟩,?_⟩;simp only [Is,Int.toNat_natCast,Nat.mul_one,bC,Nat.zero_add];rw [orU hyl tZ];refine⟨Row.wr nE (by rw [pE];omega),l3.set i (y|||x),zV nE hi3 _,Ed ho3 (Nat.or_lt_two_pow (n:=64) hyl tZ) _,fun j=>?_,?_⟩
   ·rw [EO (by omega),NN]
    have CY:j/64=i->bit v j=x.testBit (j%64):=fun e=>by unfold bit;rw [e,List.getD_eq_getElem?_getD,hx];rfl
    have Kj:j/64=i->bit l3 j=y.testBit (j%64):=fun e=>by unfold bit;rw [e,List.getD_eq_getElem?_getD,hy];rfl
    by_cases e:j/64=i
    ·rw [if_pos e,Nat.testBit_or,<-Kj e,<-CY e,NN]
     rw [decide_eq_false (show ¬j/64<i by omega),decide_eq_true (show j/64<i+1 by omega)];simp
    ·rw [if_neg e]
     congr 2
     exact decide_eq_decide.2 (by omega)
   ·refine Kept.setCell k3 (p:=⟨b,i,none⟩) (fun dg=>?_) _
    rcases qf b rfl with h|h
    ·exact h
    ·exact absurd dg (by simp only;omega)
  by_cases he:i=n'
  ·refine Split.yes (by simp [he]) ?_
   obtain⟨He,Dt,w2,hr,hU,k2,nA⟩:=uu row (by omega) (Nat.le_trans hB kw.size) (t:=gz) 0;intro w10;refine⟨He,n'+1,Dt,w2,hr,?_⟩;have st:=step He (n'+1) Dt (l'++ [0]) w2 hU (Ee Kf (by omega)) (by omega) (by omega) (by omega) (fun j=>by rw [Bz,qM])
    (kw.trans k2 (fun k hk e=>by
      rcases hb k e with h|h
      ·exact h
      ·omega)) (fun k hk=>by
      rcases nA k hk with h|h
      ·exact hb k h
      ·exact .inr (Nat.le_trans kw.size h))
   clear step;obtain⟨s1,s2⟩:=st;refine⟨s1,?_⟩;cases He with
   |none=>exact s2.elim
   |some a=>
    obtain⟨t,s3,s4,s5,l4,s6,s7,s8,s9⟩:=s2;refine⟨t,s3,s4,s5,?_⟩;intro nn;simp only;rw [dH (n:=(i:Int)) (by omega) (by omega)];exact⟨(some a,n'+1,Dt,(i:Int)+1),rfl,⟨i+1,some a,n'+1,Dt,l4,rfl,eh,s6,s7,by omega,by omega,by omega,s8,s9,fun k hk=>by
     rcases nA k hk with h|h
     ·exact hb k h
     ·exact .inr (Nat.le_trans kw.size h)⟩,by simp only;omega⟩
  ·refine Split.no (beq_eq_false_iff_ne.2 (by simp only;omega)) ?_
   have st:=step A' n' c' l' w' row Kf (by omega) UG (by omega) qM kw hb;clear step;obtain⟨s1,s2⟩:=st;refine⟨s1,?_⟩;cases A' with
   |none=>exact s2.elim
   |some a=>
    obtain⟨t,s3,s4,s5,l4,s6,s7,s8,s9⟩:=s2;refine⟨t,s3,s4,s5,?_⟩;intro nn;simp only;rw [dH (n:=(i:Int)) (by omega) (by omega)];exact⟨(some a,n',c',(i:Int)+1),rfl,⟨i+1,some a,n',c',l4,rfl,eh,s6,s7,by omega,UG,by omega,s8,s9,hb⟩,by simp only;omega⟩
 ·simp only at gK
  have:i=n2:=by omega
  subst this;rw [aX,cM.dv];refine hK A' n' c' l' w' row Kf (by omega) (fun j=>?_) kw hb;rw [qM]
  congr 1
  by_cases e:j/64<i
  ·rw [decide_eq_true e];simp
  ·rw [decide_eq_false e]
   unfold bit;rw [List.getD_eq_getElem?_getD,List.getElem?_eq_none (by omega)];simp
end
theorem BD:∀k m:Nat,(2 ^ k*(2*m+1))&&& (2 ^ k*(2*m+1)-1)=2 ^ (k+1)*m
 |0,m=>by
  apply Nat.eq_of_testBit_eq;intro i;rw [Nat.testBit_and];cases i with
  |zero=>simp [Nat.testBit_zero]
  |succ i=>
   simp only [Nat.testBit_succ];rw [show(2 ^ 0*(2*m+1))/2=m by omega,show(2 ^ 0*(2*m+1)-1)/2=m by omega,show 2 ^ (0+1)*m/2=m by omega];simp
 |k+1,m=>by
  have ih:=BD k m;have hp:0<2 ^ k*(2*m+1):=Nat.mul_pos (Nat.pow_pos (by omega)) (by omega);rw [show 2 ^ (k+1)*(2*m+1)=2*(2 ^ k*(2*m+1))by rw [Nat.pow_succ];ac_rfl,show 2 ^ (k+1+1)*m=2*(2 ^ (k+1)*m)by rw [Nat.pow_succ 2 (k+1)];ac_rfl];generalize 2 ^ k*(2*m+1)=x at ih hp⊢;rw [<-ih];apply Nat.eq_of_testBit_eq;intro i;rw [Nat.testBit_and];cases i with
  |zero=>simp [Nat.testBit_zero]
  |succ i=>
   simp only [Nat.testBit_succ];rw [show 2*x/2=x by omega,show(2*x-1)/2=x-1 by omega,show 2*(x&&& (x-1))/2=x&&& (x-1)by omega,Nat.testBit_and]
theorem Eg{x:Nat}(h0:x≠0)(hx:x<18446744073709551616):Lib.ctz 64 x<64/\x.testBit (Lib.ctz 64 x)=true/\∀t,(x&&& (x-1)).testBit t=(x.testBit t&&decide (t≠Lib.ctz 64 x)):=by
 obtain⟨m,h1,h2⟩:=Lib.ctzFrom_spec 64 x (by omega) hx;have e:Lib.ctz 64 x=Lib.ctzFrom 64 x:=by unfold Lib.ctz;rw [if_neg h0]
 rw [e];generalize Lib.ctzFrom 64 x=k at h1 h2⊢;have hand:x&&& (x-1)=2 ^ (k+1)*m:=by rw [h1];exact BD k m
 have hb:∀t,x.testBit t=(decide (t>=k)&&(2*m+1).testBit (t-k)):=fun t=>by rw [h1,Nat.testBit_two_pow_mul]
 refine⟨h2,by rw [hb];simp,fun t=>?_⟩;rw [hand,Nat.testBit_two_pow_mul,hb];by_cases ht:t=k
 ·subst ht
  simp;intro h;omega
 ·rw [decide_eq_true ht,Bool.and_true]
  by_cases hk:t>=k
  ·obtain⟨d,hd⟩:∃d,t-k=d+1:=⟨t-k-1,by omega⟩
   rw [decide_eq_true hk,decide_eq_true (show t>=k+1 by omega),hd,show t-(k+1)=d by omega,Nat.testBit_succ,show(2*m+1)/2=m by omega]
  ·rw [decide_eq_false hk,decide_eq_false (show ¬t>=k+1 by omega)]
   simp
theorem zl{x:Nat}(h0:x≠0):x&&& (x-1)<x:=Nat.lt_of_le_of_lt Nat.and_le_right (by omega)
def vA(x:Nat):List Nat:=if h:x=0 then []else Lib.ctz 64 x::vA (x&&& (x-1))
termination_by x
decreasing_by exact zl h
theorem xQ:vA 0= []:=by rw [vA];simp
theorem xS{x:Nat}(h0:x≠0):vA x=Lib.ctz 64 x::vA (x&&& (x-1)):=by rw [vA,dif_neg h0]
theorem xR:∀(x:Nat),x<18446744073709551616->(∀t,t∈vA x↔x.testBit t=true)/\(vA x).Nodup/\∀t∈vA x,t<64:=by
 intro x
 induction x using Nat.strongRecOn with
 |_ x ih=>
  intro hx;by_cases h0:x=0
  ·subst h0;rw [xQ];simp
  ·obtain⟨h1,h2,h3⟩:=Eg h0 hx
   obtain⟨i1,i2,i3⟩:=ih _ (zl h0) (Nat.lt_trans (zl h0) hx);rw [xS h0];refine⟨fun t=>?_,?_,fun t ht=>?_⟩
   ·rw [List.mem_cons,i1,h3]
    by_cases e:t=Lib.ctz 64 x
    ·rw [e,h2];simp
    ·simp [e]
   ·rw [List.nodup_cons,i1,h3]
    exact⟨by simp,i2⟩
   ·rcases List.mem_cons.1 ht with rfl|ht
    ·exact h1
    ·exact i3 t ht
def pV:Nat->List Nat->List Nat
 |_,[]=> []
 |k,x::ws=>(vA x).map (64*k+ ·)++pV (k+1) ws
theorem Jy(x:Nat)(ws:List Nat)(j:Nat):bit (x::ws) j=if j<64 then x.testBit j else bit ws (j-64):=by
 unfold bit;split
 ·rename_i h
  rw [show j/64=0 by omega,show j%64=j by omega];rfl
 ·rename_i h
  rw [show j/64=(j-64)/64+1 by omega,show j%64=(j-64)%64 by omega];rfl
theorem pY:∀(ws:List Nat) (k j:Nat),okW ws->(j∈pV k ws↔64*k<=j/\bit ws (j-64*k)=true)
 | [],k,j,_=>by simp [pV,bit]
 |x::ws,k,j,ho=>by
  obtain⟨h1,_,h3⟩:=xR x (ho x (by simp));have ih:=pY ws (k+1) j (fun y hy=>ho y (by simp [hy]));rw [pV,List.mem_append,ih,Jy,List.mem_map];constructor
  ·rintro(⟨t,ht,rfl⟩|⟨h,hb⟩)
   ·have:=h3 t ht
    refine⟨by omega,?_⟩;rw [if_pos (by omega),show 64*k+t-64*k=t by omega];exact(h1 t).1 ht
   ·refine⟨by omega,?_⟩
    rw [if_neg (by omega),show j-64*k-64=j-64*(k+1)by omega];exact hb
  ·rintro⟨h,hb⟩
   split at hb
   ·exact .inl ⟨j-64*k,(h1 _).2 hb,by omega⟩
   ·refine .inr ⟨by omega,?_⟩
    rw [show j-64*(k+1)=j-64*k-64 by omega];exact hb
theorem vt:∀ {l m:List Nat},l.Nodup->(∀x∈l,x∈m)->l.length<=m.length
 | [],_,_,_=>Nat.zero_le _
 |x::l,m,hn,h=>by
  rw [List.nodup_cons]at hn;have hx:=h x (by simp);have:=vt (l:=l) (m:=m.erase x) hn.2 (fun y hy=>by
   have fP:y≠x:=fun e=>hn.1 (e▸hy);exact(List.mem_erase_of_ne fP).2 (h y (by simp [hy])))
  rw [List.length_erase_of_mem hx]at this;have jO:0<m.length:=List.length_pos_of_mem hx;simp only [List.length_cons];omega
def sP(w:World):Prop:=TabAt (Tryz.ko.g 1) Lib.deBruijn64tab w
theorem sP.aJ{S:Nat->Prop}{w w':World}(h:sP w)(hk:Kept S w w')(hn:¬S (Tryz.ko.g 1)):sP w':=fun j hj=>hk.cell (h j hj) hn
theorem sP.same{w w':World}(h:sP w)(hk:Kept Nil w w'):sP w':=h.aJ hk fun h=>h
theorem sP.lt{w:World}(h:sP w):Tryz.ko.g 1<w.heap.size:=World.block_lt_of_cell? w _ (h 0 (by decide))
section
variable{w:World}{K:Value->World->Prop}
theorem Sk{x:Nat}(hx:x<18446744073709551616)(hT:sP w)(hK:K (.int .i64 (Lib.ctz 64 x:Nat)) w):bD prog bits_TrailingZeros64.id #[.int .u64 (x:Int)] w K:=by
 refine Calls.mono (Any7.bits_TrailingZeros64 Tryz.tzL x hx w (fun _=>hT)) ?_;rintro e w' ⟨rfl,rfl⟩;exact⟨_,rfl,hK⟩
abbrev encI(i:Nat):List Value:= [.int .i64 (i:Int)]
theorem JB(p:Addr){A:Option Addr}{n c:Nat}{l:List Nat}(hn:n<=100000)(ho:okW l):
 oB prog aK.id #[] #[.pointer (some p)] ((pV 0 l).map encI) (fun w=>US w A n l/\w.cell? p=some (.slice A n c)/\sP w):=by
 intro y I D w0 hI hD sC h0 rD;refine aK.of ?_;obtain⟨yX,RJ,_⟩:=sC 0 w0 h0;have hlen:=yX.len;refine⟨A,n,c,RJ,?_⟩;refine aK.cJ (I:=fun s w'=>∃(i:Nat) (dn:List Nat),s=(i:Int)/\i<=n/\dn++pV i (l.drop i)=pV 0 l/\I dn.length w') (μ:=fun s _=>((n:Int)-s).toNat) (s:=0) ⟨0,[],rfl,Nat.zero_le _,rfl,h0⟩ ?_;rintro s w' ⟨i,dn,rfl,hi,IZ,hw⟩;refine Split.dec (fun jV=>?_) (fun gK=>?_)
 ·have eh:i<n:=by omega
  obtain⟨x,hx⟩:∃x,l[i]? =some x:=⟨_,List.getElem?_eq_getElem (by omega)⟩;have tZ:=ho x (List.mem_of_getElem? hx);have hl:=(sC _ w' hw).1;have vQ:l.drop i=x::l.drop (i+1):=by
   obtain⟨h1,h2⟩:=lgeS hx;rw [List.drop_eq_getElem_cons h1,h2]
  rw [vQ,pV]at IZ;refine hl.load (i:=(i:Int)) (by omega) hx ?_;refine aK.iG (I:=fun s w'=>∃(v:Nat) (dn:List Nat),s=(v:Int)/\v<18446744073709551616/\dn++((vA v).map (64*i+ ·)++pV (i+1) (l.drop (i+1)))=pV 0 l/\I dn.length w') (μ:=fun s _=>s.toNat) (s:=(x:Int)) ⟨x,dn,rfl,tZ,IZ,hw⟩ ?_;clear hw IZ;rintro s w1 ⟨v,YM,rfl,hv,IY,JZ⟩;by_cases h0:v=0
  ·refine Split.no (by subst h0;rfl) ?_
   rw [aX,aK.kW];unfold aK.jr;rw [dH (n:=(i:Int)) (by omega) (by omega)];rw [h0,xQ,List.map_nil,List.nil_append]at IY;exact⟨(i:Int)+1,rfl,⟨i+1,YM,rfl,eh,IY,JZ⟩,by simp only;omega⟩
  ·refine Split.yes (bne_iff_ne.2 (by omega)) ?_
   have hpr:=sC _ w1 JZ;obtain⟨hk,Nw,hkr⟩:=Eg h0 hv;rw [xS h0,List.map_cons,List.cons_append]at IY;refine Sk hv hpr.2.2 ⟨_,rfl,?_⟩;have gR:((pV 0 l).map encI)[YM.length]? =some (encI (64*i+Lib.ctz 64 v)):=by
    rw [List.getElem?_map,<-IY,List.getElem?_append_right (Nat.le_refl _),Nat.sub_self];rfl
   have AS:i64.wrap (i64.wrap ((64:Int)*(i:Int))+((Lib.ctz 64 v:Nat):Int))=((64*i+Lib.ctz 64 v:Nat):Int):=by
    rw [iZ (x:=(64:Int)*(i:Int)) (by omega) (by omega),iZ (by omega) (by omega)];omega
   rw [AS];refine(rD YM.length _ w1 gR JZ).mono ?_;rintro b mD ⟨ht,hf⟩;have nK:u64.wrap ((BitVec.ofInt 64 (v:Int)&&& BitVec.ofInt 64 (u64.wrap ((v:Int)-(1:Int)))).toNat:Int)=((v&&& (v-1):Nat):Int):=by
    have e1:(v:Int)-1=((v-1:Nat):Int):=by omega
    rw [e1,km (x:=v-1) (by omega),adv hv (by omega)]
   cases b with
   |true=>
    refine Split.no rfl ?_;rw [nK];have dg:=zl h0;refine⟨((v&&& (v-1):Nat):Int),rfl,⟨v&&& (v-1),YM++ [64*i+Lib.ctz 64 v],rfl,by omega,by rw [List.append_assoc];exact IY,?_⟩,by simp only;omega⟩;rw [List.length_append];exact ht rfl
   |false=>
    refine Split.yes rfl ?_;exact Or.inr (hf rfl)
 ·rw [aX,aK.dv]
  have e:i=n:=by omega
  subst e;refine Or.inl ?_;rw [List.drop_eq_nil_of_le (by omega),pV,List.append_nil]at IZ;rw [List.length_map,<-IZ];exact hw
end
def pos(h:HT):List HT->Nat->Option Nat
 | [],_=>none
 |x::l,i=>if h=x then some i else pos h l (i+1)
theorem pS{h:HT}:∀ {l:List HT} {i:Nat},pos h l i=none↔h∉l
 | [],i=>by simp [pos]
 |x::l,i=>by
  unfold pos;split
  ·rename_i e;simp [e]
  ·rename_i e
   rw [pS (l:=l)];simp [e]
theorem vn{h:HT}:∀ {l:List HT} {i j:Nat},pos h l i=some j->i<=j/\l[j-i]? =some h
 | [],i,j,e=>by simp [pos]at e
 |x::l,i,j,e=>by
  unfold pos at e;split at e
  ·rename_i hx
   cases e;subst hx;exact⟨Nat.le_refl _,by rw [Nat.sub_self];rfl⟩
  ·obtain⟨h1,h2⟩:=vn e
   refine⟨by omega,?_⟩;rw [show j-i=(j-(i+1))+1 by omega];exact h2
theorem lI{h:HT}:∀ {l:List HT} (i j:Nat),l.Nodup->l[j]? =some h->pos h l i=some (i+j)
 | [],i,j,_,e=>by simp at e
 |x::l,i,0,_,e=>by
  simp only [List.getElem?_cons_zero,Option.some.injEq]at e;unfold pos;rw [if_pos e.symm];simp
 |x::l,i,j+1,hn,e=>by
  simp only [List.getElem?_cons_succ]at e;rw [List.nodup_cons]at hn;unfold pos;rw [if_neg (fun hx=>hn.1 (by rw [<-hx];exact List.mem_of_getElem? e)),lI (i+1) j hn.2 e]
  congr 1
  omega
section
variable{w:World}
theorem Kx:prog.underlying al=some (.array 32 jn):=by kernel_rfl
theorem Oy:prog.underlying jn=some (.int .u8):=by kernel_rfl
theorem MX:∃i,prog.info? jn=some i/\i.size=1:=by
 have h:(match prog.info? jn with|some i=>Nat.beq i.size 1|none=>false)=true:=by kernel_rfl
 split at h
 ·rename_i i hi;exact⟨i,hi,Nat.eq_of_beq_eq_true h⟩
 ·cases h
theorem Oz:prog.underlying cU=some (.map al gZ):=by kernel_rfl
theorem uZ(a b:HT)(w:World):(Op.equal al (.agg a.1) (.agg b.1)).run prog w=.ok (decide (a=b)) w:=by
 obtain⟨i,hi,h1⟩:=MX;have:=pK (P:=prog) 9998 w Kx Oy hi h1 a.2.ints b.2.ints;rw [fL]at this;simp only [Op.equal,Op.maxDepth];exact this
theorem jC(h:HT)(em:Bool)(w:World):(Instr.checkKey em 10000 al (.agg h.1)).run prog w=.ok () w:=by
 obtain⟨i,hi,h1⟩:=MX;have hc:prog.cellsOf jn=1:=by simp [Program.cellsOf,hi,h1]
 rw [show(10000:Nat)=9999+1 from rfl,Instr.checkKey];simp only [Sem.run_bind,run_underlying Kx,Result.andThen_ok];simp only [Std.Legacy.Range.forIn_eq_forIn_range',Std.Legacy.Range.size,Nat.sub_zero,Nat.add_one_sub_one,Nat.div_one];have each:∀j∈List.range' 0 32,∃v,h.1[j]? =some v/\∃x:Int,v=.int .u8 x:=fun j hj=>by
  have vN:j<h.1.size:=by rw [h.2.1];simpa using hj
  obtain⟨x,hx,_⟩:=h.2.2 h.1[j] (by simp);exact⟨_,Array.getElem?_eq_getElem vN,x,hx⟩
 generalize List.range' 0 32=is at each
 induction is with
 |nil=>simp
 |cons j is ih=>
  obtain⟨v,hv,x,rfl⟩:=each j (by simp);have LW:(isAgg jn).run prog w=.ok false w:=by simp [isAgg,run_underlying Oy]
  have p1:(part jn h.1 (j*1)).run prog w=.ok (.int .u8 x) w:=by simp [part,LW,hv]
  have p2:(Instr.checkKey em 9999 jn (.int .u8 x)).run prog w=.ok () w:=by
   rw [show(9999:Nat)=9998+1 from rfl,Instr.checkKey];simp [run_underlying Oy]
  simp only [List.forIn_cons,Sem.run_bind,Go.b0.run_sizeOf hi w,hc,Result.andThen_ok,p1,p2,Sem.run_pure];exact ih (fun y hy=>each y (by simp [hy]))
def BJ(es:List MapEntry)(l:List HT)(i:Nat):Prop:=match es,l with
 | [],[]=>True
 |e::es,h::l=>(e.key=.agg h.1/\e.val=.int .i64 (i:Int))/\BJ es l (i+1)
 |_,_=>False
theorem BJ.snoc:∀ {es:List MapEntry} {l:List HT} {i:Nat} {e:MapEntry} {h:HT},BJ es l i->e.key=.agg h.1->e.val=.int .i64 ((i+l.length:Nat):Int)->BJ (es++ [e]) (l++ [h]) i
 | [],[],i,e,h,_,h1,h2=>⟨⟨h1,by simpa using h2⟩,trivial⟩
 |x::es,y::l,i,e,h,he,h1,h2=>⟨he.1,BJ.snoc he.2 h1 (by rw [h2];congr 2;simp;omega)⟩
 | [],_::_,_,_,_,he,_,_=>he.elim
 |_::_,[],_,_,_,he,_,_=>he.elim
theorem r6(h:HT)(w:World):∀(es:List MapEntry) (l:List HT) (i:Nat),BJ es l i->
 (Instr.findAsking al (.agg h.1) es i).run prog w=.ok ((pos h l i).map fun j=>(j,.int .i64 (j:Int))) w
 | [],[],i,_=>by simp [Instr.findAsking,pos]
 |e::es,x::l,i,he=>by
  have hq:=uZ h x w;have ih:=r6 h w es l (i+1) he.2;simp only [Instr.findAsking,he.1.1,Sem.run_bind,hq,Result.andThen_ok];by_cases hx:h=x
  ·simp [hx,pos,he.1.2]
  ·simp [hx,pos,ih]
 | [],_::_,_,he=>he.elim
 |_::_,[],_,he=>he.elim
theorem oI(h:HT)(w:World){es:List MapEntry}{l:List HT}(he:BJ es l 0):
 (Instr.findKey al (.agg h.1) es).run prog w=.ok ((pos h l 0).map fun j=>(j,.int .i64 (j:Int))) w:=by
 have h1:=r6 h w es l 0 he;simp only [Instr.findKey,Sem.run_bind,run_underlying Kx,Result.andThen_ok];cases es with
 |nil=>
  cases l with
  |nil=>simp [Instr.findNow,pos]
  |cons x l=>exact he.elim
 |cons e es=>
  have:Instr.findNow (.array 32 jn) (.agg h.1) (e::es) 0=none:=by
   simp only [Instr.findNow,Instr.sameNow]
  rw [this];exact h1
theorem qh{r:Nat}{es:Array MapEntry}{clock:Nat}(hb:w.heap[r]? =some (.map es clock)):(getObj r).run prog w=.ok (.map es clock) w:=by
 simp [getObj,Sem.run,hb]
theorem Ce{r:Nat}{es:Array MapEntry}{clock:Nat}(o:Obj)(hb:w.heap[r]? =some (.map es clock)):(setObj r o).run prog w=.ok () {w with heap:=w.heap.setIfInBounds r o}:=by
 simp [setObj,Sem.run,hb]
structure IsMap(w:World)(m:Nat)(l:List HT):Prop where
 ex:∃es clock,w.heap[m]? =some (.map es clock)/\BJ es.toList l 0
theorem IsMap.aJ{S:Nat->Prop}{w w':World}{m:Nat}{l:List HT}(h:IsMap w m l)(hk:Kept S w w')(hn:¬S m):IsMap w' m l:=by
 obtain⟨es,clock,h1,h2⟩:=h.ex;exact⟨es,clock,hk.heap h1 hn,h2⟩
theorem IsMap.lt{w:World}{m:Nat}{l:List HT}(h:IsMap w m l):m<w.heap.size:=by
 obtain⟨es,clock,h1,_⟩:=h.ex;exact aY h1
theorem IsMap.look{m:Nat}{l:List HT}(hm:IsMap w m l)(h:HT):
 (Instr.lookup cU (.map (some m)) (.agg h.1) true).run prog w=.ok (.tuple #[.int .i64 (((pos h l 0).getD 0:Nat):Int),.bool (pos h l 0).isSome]) w:=by
 obtain⟨es,clock,h1,h2⟩:=hm.ex;have h3:=oI h w h2;simp only [Instr.lookup,Sem.run_bind,run_underlying Oz,qh h1,Result.andThen_ok,Sem.run_pure,jC,h3];cases hp:pos h l 0<;>simp
theorem IsMap.xT{m:Nat}{l:List HT}(hm:IsMap w m l)(h:HT):
 (Instr.lookup cU (.map (some m)) (.agg h.1) false).run prog w=.ok (.int .i64 (((pos h l 0).getD 0:Nat):Int)) w:=by
 obtain⟨es,clock,h1,h2⟩:=hm.ex;have h3:=oI h w h2;simp only [Instr.lookup,Sem.run_bind,run_underlying Oz,qh h1,Result.andThen_ok,Sem.run_pure,jC,h3];cases hp:pos h l 0<;>simp
theorem IsMap.put{m:Nat}{l:List HT}(hm:IsMap w m l){h:HT}(hn:h∉l):
 ∃w',(Instr.mapUpdate cU (.map (some m)) (.agg h.1) (.int .i64 ((l.length:Nat):Int))).run prog w=.ok () w'/\IsMap w' m (l++ [h])/\Kept (· =m) w w':=by
 obtain⟨es,clock,h1,h2⟩:=hm.ex;have h3:=oI h w h2;rw [pS.2 hn]at h3;refine⟨{w with heap:=w.heap.setIfInBounds m (.map (es.push {key:=.agg h.1,val:=.int .i64 ((l.length:Nat):Int),born:=clock}) (clock+1))},?_,⟨es.push {key:=.agg h.1,val:=.int .i64 ((l.length:Nat):Int),born:=clock},clock+1,?_,?_⟩,?_⟩
 ·simp only [Instr.mapUpdate,Sem.run_bind,run_underlying Oz,qh h1,Result.andThen_ok,jC,h3,Option.map_none,Ce _ h1]
 ·simp [aY h1]
 ·have:=h2.snoc (e:= {key:=.agg h.1,val:=.int .i64 ((l.length:Nat):Int),born:=clock}) (h:=h) rfl (by simp)
  simpa using this
 ·exact⟨rfl,rfl,rfl,by simp,fun k _ hk=>by simp [Ne.symm hk]⟩
end
end Go.Proofs.YtfleamccglihoaaGreatDoor
namespace Go.Proofs.YtfleamccglihoaaGreatDoor
open Go.Proofs.Tryz
open Go Go.b0
structure DN where
 id:HT
 ps:List HT
abbrev DG:=List DN
def ids(D:DG):List HT:=D.map (·.id)
def oz(D:DG)(p h:HT):Prop:=∃nd∈D,nd.id=h/\p∈nd.ps
inductive fw (D:DG):HT->HT->Prop
 |one {p h:HT}:oz D p h->fw D p h
 |more {a p h:HT}:fw D a p->oz D p h->fw D a h
theorem fw.trans{D:DG}{a b c:HT}(h:fw D a b)(h':fw D b c):fw D a c:=by
 induction h' with
 |one hp=>exact .more h hp
 |more _ hp ih=>exact .more ih hp
structure jX(D:DG):Prop where
 pos:0<D.length
 nodup:(ids D).Nodup
 ss:∀nd∈D,SS nd.ps
 up:∀(i:Nat) nd p,D[i]? =some nd->p∈nd.ps->∃(j:Nat) (m:DN),j<i/\D[j]? =some m/\m.id=p
theorem iI(D:DG):(ids D).length=D.length:=by simp [ids]
theorem qE{D:DG}{i:Nat}{nd:DN}(h:D[i]? =some nd):(ids D)[i]? =some nd.id:=by simp [ids,h]
theorem Ir{D:DG}{i:Nat}{h:HT}(e:(ids D)[i]? =some h):∃nd,D[i]? =some nd/\nd.id=h:=by
 unfold ids at e;rw [List.getElem?_map]at e;cases hd:D[i]? with
 |none=>rw [hd]at e;cases e
 |some nd=>rw [hd]at e;exact⟨nd,rfl,by simpa using e⟩
theorem dI{D:DG}{h:HT}:h∈ids D↔∃nd∈D,nd.id=h:=by simp [ids]
section
variable{D:DG}
theorem jX.inj(W:jX D){i j:Nat}{a b:DN}(ha:D[i]? =some a)(hb:D[j]? =some b)(e:a.id=b.id):i=j:=by
 have h1:=lI 0 i W.nodup (qE ha);have h2:=lI 0 j W.nodup (qE hb);rw [e,h2]at h1;simpa using h1.symm
theorem jX.pos_eq(W:jX D){i:Nat}{nd:DN}(h:D[i]? =some nd):Proofs.YtfleamccglihoaaGreatDoor.pos nd.id (ids D) 0=some i:=by
 have:=lI 0 i W.nodup (qE h)
 rwa [Nat.zero_add]at this
theorem oz.at_(W:jX D){p h:HT}(hp:oz D p h):∃(i j:Nat) (m nd:DN),i<j/\D[i]? =some m/\D[j]? =some nd/\m.id=p/\nd.id=h/\p∈nd.ps:=by
 obtain⟨nd,gA,rfl,qV⟩:=hp;obtain⟨j,hj⟩:=List.mem_iff_getElem?.1 gA;obtain⟨i,m,sD,hm,e⟩:=W.up j nd p hj qV;exact⟨i,j,m,nd,sD,hm,hj,e,rfl,qV⟩
theorem fw.at_(W:jX D){a h:HT}(hp:fw D a h):∃(i j:Nat) (m nd:DN),i<j/\D[i]? =some m/\D[j]? =some nd/\m.id=a/\nd.id=h:=by
 induction hp with
 |one hp=>
  obtain⟨i,j,m,nd,h1,h2,h3,h4,h5,_⟩:=hp.at_ W;exact⟨i,j,m,nd,h1,h2,h3,h4,h5⟩
 |more _ hp ih=>
  obtain⟨i,j,m,nd,h1,h2,h3,h4,h5⟩:=ih;obtain⟨i',j',m',nd',uf,vU,BQ,YB,h5',_⟩:=hp.at_ W;have e:=W.inj h3 vU (by rw [h5,YB]);exact⟨i,j',m,nd',by omega,h2,BQ,h4,h5'⟩
theorem fw.irrefl(W:jX D)(a:HT):¬fw D a a:=fun h=>by
 obtain⟨i,j,m,nd,h1,h2,h3,h4,h5⟩:=h.at_ W;have:=W.inj h2 h3 (by rw [h4,h5]);omega
theorem fw.mem(W:jX D){a h:HT}(hp:fw D a h):a∈ids D/\h∈ids D:=by
 obtain⟨i,j,m,nd,_,h2,h3,h4,h5⟩:=hp.at_ W;exact⟨dI.2 ⟨m,List.mem_of_getElem? h2,h4⟩,dI.2 ⟨nd,List.mem_of_getElem? h3,h5⟩⟩
theorem EP(W:jX D){i:Nat}{nd:DN}(h:D[i]? =some nd)(a:HT):fw D a nd.id↔∃p∈nd.ps,a=p\/fw D a p:=by
 have key:∀ {p},oz D p nd.id->p∈nd.ps:=fun⟨nd',hm,e,hp⟩=>by
  obtain⟨j,hj⟩:=List.mem_iff_getElem?.1 hm;have:=W.inj h hj e.symm;subst this;rw [h]at hj;cases hj;exact hp
 constructor
 ·intro ha
  generalize he:nd.id=x at ha;cases ha with
  |one hp=>subst he;exact⟨a,key hp,.inl rfl⟩
  |more yZ hp=>subst he;exact⟨_,key hp,.inr yZ⟩
 ·rintro⟨p,hp,e⟩
  have mz:oz D p nd.id:=⟨nd,List.mem_of_getElem? h,rfl,hp⟩;rcases e with rfl|e
  ·exact .one mz
  ·exact .more e mz
theorem nZ{nd:DN}{p h:HT}:oz (D++ [nd]) p h↔oz D p h\/(nd.id=h/\p∈nd.ps):=by
 unfold oz;constructor
 ·rintro⟨m,hm,e,hp⟩
  rw [List.mem_append,List.mem_singleton]at hm;rcases hm with hm|rfl
  ·exact .inl ⟨m,hm,e,hp⟩
  ·exact .inr ⟨e,hp⟩
 ·rintro(⟨m,hm,e,hp⟩|⟨e,hp⟩)
  ·exact⟨m,by simp [hm],e,hp⟩
  ·exact⟨nd,by simp,e,hp⟩
theorem jI(W:jX D){nd:DN}(hn:nd.id∉ids D){a h:HT}(hh:h∈ids D):fw (D++ [nd]) a h↔fw D a h:=by
 constructor
 ·intro ha
  induction ha with
  |one hp=>
   rcases nZ.1 hp with hp|⟨e,_⟩
   ·exact .one hp
   ·subst e;exact absurd hh hn
  |more _ hp ih=>
   rcases nZ.1 hp with hp|⟨e,_⟩
   ·exact .more (ih (fw.mem W (.one hp)).1) hp
   ·subst e;exact absurd hh hn
 ·intro ha
  induction ha with
  |one hp=>exact .one (nZ.2 (.inl hp))
  |more yZ hp ih=>exact .more (ih (fw.mem W yZ).2) (nZ.2 (.inl hp))
theorem lT(D:DG)(nd:DN):ids (D++ [nd])=ids D++ [nd.id]:=by simp [ids]
theorem jX.snoc(W:jX D){nd:DN}(hn:nd.id∉ids D)(qV:∀p∈nd.ps,p∈ids D)(hs:SS nd.ps):jX (D++ [nd]) where
 pos:=by simp
 nodup:=by
  rw [lT,List.nodup_append];refine⟨W.nodup,by simp,fun a ha b hb=>?_⟩;rw [List.mem_singleton]at hb;subst hb;exact fun e=>hn (e▸ha)
 ss:=fun m hm=>by
  rw [List.mem_append,List.mem_singleton]at hm;rcases hm with hm|rfl
  ·exact W.ss m hm
  ·exact hs
 up:=fun i m p hi hp=>by
  rw [List.getElem?_append]at hi;split at hi
  ·rename_i dg
   obtain⟨j,q,h1,h2,h3⟩:=W.up i m p hi hp;exact⟨j,q,h1,by rw [List.getElem?_append_left (by omega)];exact h2,h3⟩
  ·rename_i gK
   have:m=nd:=by
    cases hk:i-D.length with
    |zero=>rw [hk]at hi;simpa using hi.symm
    |succ k=>rw [hk]at hi;simp at hi
   subst this;obtain⟨q,hq,e⟩:=dI.1 (qV p hp);obtain⟨j,hj⟩:=List.mem_iff_getElem?.1 hq;have uN:=(lgeS hj).1;exact⟨j,q,by omega,by rw [List.getElem?_append_left uN];exact hj,e⟩
end
theorem jX.root(r:HT):jX [⟨r,[]⟩] where
 pos:=by simp
 nodup:=by simp [ids]
 ss:=fun nd h=>by simp at h;subst h;exact List.Pairwise.nil
 up:=fun i nd p h hp=>by
  cases i with
  |zero=>simp at h;subst h;simp at hp
  |succ i=>simp at h
def dR(D:DG)(h:HT)(l:List HT):Int:=
 if h∈ids D then 7 else if(dB l).length=0\/(dB l).length≠l.length then 9 else if ∃p∈dB l,p∉ids D then 6 else 0
def mo(D:DG)(h:HT)(l:List HT):DG:=if dR D h l=0 then D++ [⟨h,dB l⟩]else D
theorem lO{D:DG}{h:HT}{l:List HT}(e:dR D h l=0):h∉ids D/\l≠ []/\l.Nodup/\∀p∈dB l,p∈ids D:=by
 unfold dR at e;split at e
 ·cases e
 ·rename_i h1
  split at e
  ·cases e
  ·rename_i h2
   split at e
   ·cases e
   ·rename_i h3
    simp only [not_or,Decidable.not_not]at h2;refine⟨h1,fun hl=>h2.1 (by rw [hl];rfl),si h2.2,fun p hp=>Classical.byContradiction fun hn=>h3 ⟨p,hp,hn⟩⟩
theorem jX.add{D:DG}(W:jX D)(h:HT)(l:List HT):jX (mo D h l):=by
 unfold mo;split
 ·rename_i e
  obtain⟨h1,_,_,h4⟩:=lO e;exact W.snoc h1 h4 (ju l)
 ·exact W
open Classical in
noncomputable def pick(D:DG)(is:HT->Prop):List HT:=dB ((ids D).filter fun a=>decide (is a))
theorem ki{D:DG}{is:HT->Prop}{a:HT}:a∈pick D is↔a∈ids D/\is a:=by
 unfold pick;rw [dT,List.mem_filter];simp
theorem Ec{D:DG}{is:HT->Prop}{l:List HT}(h:∀a,a∈l↔a∈ids D/\is a):dB l=pick D is:=DX fun x=>by
 rw [h,List.mem_filter];simp
theorem nY(D:DG)(is:HT->Prop):(pick D is).length<=D.length:=by
 unfold pick;refine Nat.le_trans (oF _) (Nat.le_trans (List.length_filter_le _ _) ?_);rw [iI];exact Nat.le_refl _
noncomputable def eF(D:DG)(l:List HT):List HT:=pick D fun a=>∃h∈l,fw D a h
noncomputable def iu(D:DG)(h:HT):List HT:=pick D fun a=>oz D h a
open Go.RowKit
structure NS(w:World)(F:Nat->Prop)(A:Option Addr)(n:Nat)(l:List DN):Prop where
 len:l.length=n
 at_:∀(i:Nat) nd,l[i]? =some nd->∃a pA pn pc,A=some a/\a.block<w.heap.size/\F a.block/\Cells w (a.add (i*33)) (nd.id.1.push (.slice pA pn pc))/\HS w pA pn nd.ps/\∀b,pA=some b->F b.block
section
variable{w w':World}{F F' S:Nat->Prop}{A:Option Addr}{n:Nat}{l:List DN}
theorem NS.aJ(h:NS w F A n l)(hk:Kept S w w')(hn:∀k,F k->¬S k):NS w' F A n l:=⟨h.len,fun i nd hi=>by
 obtain⟨a,pA,pn,pc,h1,h2,h3,h4,h5,h6⟩:=h.at_ i nd hi;exact⟨a,pA,pn,pc,h1,Nat.lt_of_lt_of_le h2 hk.size,h3,Cells.aJ h4 hk (by rw [fg];exact hn _ h3),h5.aJ hk (fun b hb=>hn _ (h6 b hb)),h6⟩⟩
theorem NS.mono(h:NS w F A n l)(hf:∀k,F k->F' k):NS w F' A n l:=⟨h.len,fun i nd hi=>by
 obtain⟨a,pA,pn,pc,h1,h2,h3,h4,h5,h6⟩:=h.at_ i nd hi;exact⟨a,pA,pn,pc,h1,h2,hf _ h3,h4,h5,fun b hb=>hf _ (h6 b hb)⟩⟩
theorem r9{h:HT}{v:Value}{j:Nat}{u:Value}(hj:h.1[j]? =some u):(h.1.push v)[j]? =some u:=by
 have dg:=(Array.getElem?_eq_some_iff.1 hj).1;rw [Array.getElem?_push,if_neg (by omega),hj]
theorem nX(h:HT)(v:Value):(h.1.push v)[32]? =some v:=by
 have:=h.2.1;rw [Array.getElem?_push,if_pos (by omega)]
theorem NS.id(h:NS w F A n l){i:Int}{nd:DN}(h0:0<=i)(hx:l[i.toNat]? =some nd){k:Array Value->Prop}(hk:k nd.id.1):
 (0<=i/\i<(n:Int))/\Is A fun a=>∃t:Array Value,(t.size=32/\Cells w ((a.add (i.toNat*33)).add 0) t)/\k t:=by
 obtain⟨a,pA,pn,pc,rfl,_,_,h4,_,_⟩:=h.at_ _ nd hx;have:=(lgeS hx).1;have:=h.len;refine⟨⟨h0,by omega⟩,nd.id.1,⟨nd.id.2.1,fun j v hj=>?_⟩,hk⟩;rw [add_zero];exact h4 j v (r9 hj)
theorem NS.ps(h:NS w F A n l){i:Int}{nd:DN}(h0:0<=i)(hx:l[i.toNat]? =some nd){k:Option Addr->Nat->Nat->Prop}(hk:∀pA pn pc,HS w pA pn nd.ps->(∀b,pA=some b->F b.block)->k pA pn pc):
 (0<=i/\i<(n:Int))/\Is A fun a=>∃pA pn pc,w.cell? ((a.add (i.toNat*33)).add 32)=some (.slice pA pn pc)/\k pA pn pc:=by
 obtain⟨a,pA,pn,pc,rfl,_,_,h4,h5,h6⟩:=h.at_ _ nd hx;have:=(lgeS hx).1;have:=h.len;exact⟨⟨h0,by omega⟩,pA,pn,pc,h4 32 _ (nX _ _),hk _ _ _ h5 h6⟩
theorem NS.cells(h:NS w F A n l):∀k,k<=n->∃news:List Value,news.length=k*33/\(∀a,A=some a->∀j u,news[j]? =some u->w.cell? (a.add j)=some u)/\(∀u∈news,u.oneCell'=true)/\
 ∀(i:Nat) nd,i<k->l[i]? =some nd->∃pA pn pc,HS w pA pn nd.ps/\(∀b,pA=some b->F b.block)/\∀(j:Nat) v,(nd.id.1.push (.slice pA pn pc))[j]? =some v->news[i*33+j]? =some v
 |0,_=>⟨[],rfl,by simp,by simp,by intro i nd hi;omega⟩
 |k+1,hk=>by
  obtain⟨news,e1,e2,e3,e4⟩:=h.cells k (by omega);have hlen:=h.len;obtain⟨nd,gA⟩:∃nd,l[k]? =some nd:=⟨_,List.getElem?_eq_getElem (by omega)⟩;obtain⟨a,pA,pn,pc,hA,h2,h3,h4,h5,h6⟩:=h.at_ _ nd gA;have mF:(nd.id.1.push (.slice pA pn pc)).size=33:=by rw [Array.size_push,nd.id.2.1]
  refine⟨news++(nd.id.1.push (.slice pA pn pc)).toList,by rw [List.length_append,e1,Array.length_toList,mF];omega,fun a' yZ j u hj=>?_,fun u hu=>?_,fun i md hi x8=>?_⟩
  ·rw [List.getElem?_append]at hj
   split at hj
   ·exact e2 a' yZ j u hj
   ·rename_i gK
    rw [hA]at yZ;cases yZ;have:=h4 (j-news.length) u (by rw [<-Array.getElem?_toList];exact hj)
    rwa [lY,show k*33+(j-news.length)=j by omega]at this
  ·rw [List.mem_append]at hu
   rcases hu with hu|hu
   ·exact e3 u hu
   ·simp only [Array.toList_push,List.mem_append,List.mem_singleton]at hu
    rcases hu with hu|rfl
    ·exact nd.id.2.one u hu
    ·rfl
  ·by_cases hik:i<k
   ·obtain⟨qA,qn,qc,f1,f2,f3⟩:=e4 i md hik x8
    exact⟨qA,qn,qc,f1,f2,fun j v hj=>by
     have:=f3 j v hj;rw [List.getElem?_append_left (lgeS this).1];exact this⟩
   ·have:i=k:=by omega
    subst this;rw [gA]at x8;cases x8;exact⟨pA,pn,pc,h5,h6,fun j v hj=>by
     rw [List.getElem?_append_right (by omega),e1,show i*33+j-i*33=j by omega,Array.getElem?_toList];exact hj⟩
theorem yz:zD prog cX b6 33 56:=⟨by kernel_rfl,by kernel_rfl⟩
theorem EN:R4 prog b6=some ([(0,32),(32,1)],List.replicate 32 (.int .u8 0)++ [.slice none 0 0]):=by kernel_rfl
theorem GI(h:HT)(A:Option Addr)(n c:Nat):prog.built b6 [(0,.agg h.1),(1,.slice A n c)]=some (h.1.push (.slice A n c)):=by
 have hs:=h.2.1;rw [ow EN,js (off:=0) (size:=32) rfl (by simpa [Value.cells]using hs) (by simp),js (off:=32) (size:=1) rfl rfl (by
  rw [List.size_toArray,mJ (by simp [Value.cells,hs])];simp)]
 simp only [Instr.fill,Option.some.injEq];apply Array.ext';unfold iC;simp [Value.cells,hs]
structure uG(w:World)(F:Nat->Prop)(r:Nat)(D:DG):Prop where
 ex:∃(A:Option Addr) (c:Nat) (cs:Array Value) (t:TypeId),w.heap[r]? =some (.cells cs t (0,0))/\cs[0]? =some (.slice A D.length c)/\NS w F A D.length D
 iT:¬F r
theorem uG.aJ{r:Nat}{D:DG}(h:uG w F r D)(hk:Kept S w w')(hr:¬S r)(hn:∀k,F k->¬S k):uG w' F r D:=by
 obtain⟨A,c,cs,t,h1,h0,h2⟩:=h.ex;exact⟨⟨A,c,cs,t,hk.heap h1 hr,h0,h2.aJ hk hn⟩,h.iT⟩
theorem uG.same{r:Nat}{D:DG}(h:uG w F r D)(hk:Kept Nil w w'):uG w' F r D:=h.aJ hk (fun h=>h) (fun _ _ h=>h)
theorem uG.lt{r:Nat}{D:DG}(h:uG w F r D):r<w.heap.size:=by obtain⟨A,c,cs,t,h1,_⟩:=h.ex;exact aY h1
theorem uG.go{r:Nat}{D:DG}(h:uG w F r D){k:Option Addr->Nat->Nat->Prop}(hk:∀A c,NS w F A D.length D->k A D.length c):
 ∃A n m,w.cell? ((⟨r,0,none⟩:Addr).add 0)=some (.slice A n m)/\k A n m:=by
 obtain⟨A,c,cs,t,h1,h0,h2⟩:=h.ex;exact⟨A,_,c,by rw [add_zero,aE h1];exact h0,hk A c h2⟩
theorem uG.go'{r:Nat}{D:DG}(h:uG w F r D)(kw:Kept Nil w w'){k:Option Addr->Nat->Nat->Prop}(hk:∀A c,NS w F A D.length D->k A D.length c):
 ∃A n m,w'.cell? ((⟨r,0,none⟩:Addr).add 0)=some (.slice A n m)/\k A n m:=by
 obtain⟨A,c,cs,t,h1,h0,h2⟩:=h.ex;exact⟨A,_,c,by rw [add_zero,aE (kw.heap h1 (fun h=>h))];exact h0,hk A c h2⟩
theorem NS.ps'(h:NS w F A n l)(kw:Kept Nil w w'){i:Int}{nd:DN}(h0:0<=i)(hx:l[i.toNat]? =some nd){k:Option Addr->Nat->Nat->Prop}(hk:∀pA pn pc,HS w pA pn nd.ps->k pA pn pc):
 (0<=i/\i<(n:Int))/\Is A fun a=>∃pA pn pc,w'.cell? ((a.add (i.toNat*33)).add 32)=some (.slice pA pn pc)/\k pA pn pc:=by
 obtain⟨a,pA,pn,pc,rfl,_,_,h4,h5,h6⟩:=h.at_ _ nd hx;have:=(lgeS hx).1;have:=h.len;exact⟨⟨h0,by omega⟩,pA,pn,pc,(kw.cell (h4 32 _ (nX _ _)) (fun h=>h)),hk _ _ _ h5⟩
def Hc(D:DG)(h:HT):Int:=match pos h (ids D) 0 with|some j=>(j:Int)|none=> -1
theorem sM{D:DG}{h:HT}:Hc D h<0↔h∉ids D:=by
 unfold Hc;rw [<-pS (l:=ids D) (i:=0)];cases hp:pos h (ids D) 0<;>simp
theorem tF{D:DG}{h:HT}:Hc D h>=0↔h∈ids D:=by
 have:= @sM D h;constructor
 ·intro hg;exact Classical.byContradiction fun hn=>by have:=this.2 hn;omega
 ·intro hm;exact Classical.byContradiction fun hn=>this.1 (by omega) hm
theorem Mp{D:DG}{h:HT}(hm:h∈ids D):∃nd,Hc D h>=0/\D[(Hc D h).toNat]? =some nd/\nd.id=h:=by
 have h1:=tF.2 hm;unfold Hc at*;cases hp:pos h (ids D) 0 with
 |none=>rw [hp]at h1;simp at h1
 |some j=>
  obtain⟨_,h2⟩:=vn hp;obtain⟨nd,h3,h4⟩:=Ir h2;exact⟨nd,by simp,by simpa using h3,h4⟩
theorem yR{D:DG}{i:Nat}{nd:DN}(h:D[i]? =some nd):(ids D).take (i+1)=(ids D).take i++ [nd.id]:=by
 rw [List.take_add_one,qE h];rfl
theorem xJ{h:HT}:∀ {l:List HT} {i k:Nat},h∉l.take k->l[k]? =some h->pos h l i=some (i+k)
 | [],_,_,_,e=>by simp at e
 |x::l,i,0,_,e=>by
  simp only [List.getElem?_cons_zero,Option.some.injEq]at e;unfold pos;rw [if_pos e.symm,Nat.add_zero]
 |x::l,i,k+1,hn,e=>by
  simp only [List.getElem?_cons_succ]at e;rw [List.take_succ_cons,List.mem_cons,not_or]at hn;unfold pos;rw [if_neg hn.1,xJ (i:=i+1) hn.2 e]
  congr 1
  omega
variable{r:Nat}{D:DG}{K:Value->World->Prop}
theorem pN(H:uG w F r D)(hD:D.length<=1000000)(h:HT)(hK:∀w',Kept Nil w w'->K (.int .i64 (Hc D h)) w'):
 bD prog bO.id #[.pointer (some ⟨r,0,none⟩),.agg h.1] w K:=by
 refine bO.of ?_;unfold bO.W;intro w3;have k3:Kept Nil w w3:=(Kept.refl Nil w).alloc _;have qf:w3.heap[w.heap.size]? =some (.cells h.1 al (0,0)):=aM w _;clear_value w3;refine bO.cJ (I:=fun s w'=>∃i:Nat,s=(0,(i:Int))/\i<=D.length/\Kept Nil w3 w'/\h∉(ids D).take i) (μ:=fun s _=>((D.length:Int)-s.2).toNat) (s:=(0,0)) ⟨0,rfl,Nat.zero_le _,Kept.refl _ _,by simp⟩ ?_;rintro s w' ⟨i,rfl,hi,kw,mG⟩;have kk:Kept Nil w w':=k3.tt kw;refine(H.same kk).go fun A c uc=>?_;refine Split.dec (fun jV=>?_) (fun gK=>?_)
 ·simp only at jV
  have eh:i<D.length:=by omega
  obtain⟨nd,gA⟩:∃nd,D[i]? =some nd:=⟨_,List.getElem?_eq_getElem eh⟩;intro w10;have rR:Kept Nil w3 w10:=kw.drew;have FY:Kept Nil w w10:=k3.tt rR;clear_value w10;refine(H.same FY).go fun A c uc=>?_;refine uc.id (i:=(i:Int)) (by omega) (by rw [Int.toNat_natCast];exact gA) ⟨h.1,⟨h.2.1,Cells.bV (rR.heap qf (fun h=>h))⟩,⟨nd.id.2.ints,h.2.ints⟩,?_⟩;rw [fL];refine Split.dec (fun he=>?_) (fun he=>?_)
  ·have:=hK w10 FY
   unfold Hc at this;rw [xJ (i:=0) mG (by rw [<-he];exact qE gA),Nat.zero_add]at this;exact this
  ·simp only
   rw [dH (n:=(i:Int)) (by omega) (by omega)];refine⟨(0,(i:Int)+1),rfl,⟨i+1,rfl,eh,rR,?_⟩,by simp only;omega⟩;rw [yR gA,List.mem_append,List.mem_singleton,not_or];exact⟨mG,fun e=>he e.symm⟩
 ·simp only at gK
  rw [aX,bO.dv];rw [List.take_of_length_le (by rw [iI];omega)]at mG;have:=hK w' kk;unfold Hc at this;rw [pS.2 mG]at this;exact this
end
section
variable{w w':World}{F F' S:Nat->Prop}{A:Option Addr}{n c B:Nat}{l:List DN}{news:List Value}{r:Nat}{D:DG}{K:Value->World->Prop}
theorem FJ(h:Row w B b6 33 A n c news)(hl:l.length=n)(hF:∀k,bG A=some k->F k)
 (hc:∀(i:Nat) nd,l[i]? =some nd->∃pA pn pc,HS w pA pn nd.ps/\(∀b,pA=some b->F b.block)/\∀(j:Nat) v,(nd.id.1.push (.slice pA pn pc))[j]? =some v->news[i*33+j]? =some v):NS w F A n l:=
 ⟨hl,fun i nd hi=>by
   obtain⟨pA,pn,pc,h1,h2,h3⟩:=hc i nd hi;have:=(lgeS hi).1;obtain⟨b,rfl⟩:=Row.some h (by omega);obtain⟨_,cur,p9⟩:=Row.bV h (k:=b) rfl;exact⟨_,pA,pn,pc,rfl,aY p9,hF b rfl,fun j v hj=>by rw [lY];exact Row.cells h _ _ (h3 j v hj),h1,h2⟩⟩
theorem yu(h:NS w F A n l){cx:Nat}(h0:0<n)(hn:n<=100000):
 ∃A' c' w' news,(Builtin.append_ #[cX,cX] cX #[.slice none 0 0,.slice A n cx]).run prog w=.ok (.slice A' n c') w'/\
  Row w' w.heap.size b6 33 A' n c' news/\Kept Nil w w'/\
  ∀(i:Nat) nd,l[i]? =some nd->∃pA pn pc,HS w pA pn nd.ps/\(∀b,pA=some b->F b.block)/\∀(j:Nat) v,(nd.id.1.push (.slice pA pn pc))[j]? =some v->news[i*33+j]? =some v:=by
 obtain⟨news,e1,e2,e3,e4⟩:=h.cells n (Nat.le_refl _);have hlen:=h.len;obtain⟨nd,gA⟩:∃nd,l[0]? =some nd:=⟨_,List.getElem?_eq_getElem (by omega)⟩;obtain⟨a,_,_,_,rfl,_⟩:=h.at_ _ nd gA;obtain⟨A',c',w',hr,fJ,hg,hb⟩:=fR (P:=prog) (t:=cX) (ty:=cX) (bytes:=56) yz (Row.nil w w.heap.size _ _) (a:=a) (m:=n) (cx:=cx) (news:=news) e1 (e2 a rfl) e3 (by omega) (by unfold maxLen;omega) (Nat.le_refl _);rw [Nat.zero_add]at hr fJ;rw [List.nil_append]at fJ;exact⟨A',c',w',news,hr,fJ,Kept.eA (Kept.refl _ _) hg (fun k hk=>by cases hk),fun i nd hi=>e4 i nd (by have:=(lgeS hi).1;omega) hi⟩
theorem yv(h:Row w B b6 33 A n c news)(hn:n<=100000)(hB:B<=w.heap.size){b:Nat}{arr:Array Value}(hb:w.heap[b]? =some (.cells arr b6 (0,0)))(hs:arr.size=33)(h1:∀u∈arr.toList,u.oneCell'=true):
 ∃A' c' w',(Builtin.append_ #[cX,cX] cX #[.slice A n c,.slice (some ⟨b,0,none⟩) 1 1]).run prog w=.ok (.slice A' (n+1) c') w'/\
  Row w' B b6 33 A' (n+1) c' (news++arr.toList)/\w.grownBy w' (bG A):=by
 obtain⟨A',c',w',hr,fJ,hg,hb⟩:=fR (P:=prog) (t:=cX) (ty:=cX) (bytes:=56) yz h (a:=⟨b,0,none⟩) (m:=1) (cx:=1) (news:=arr.toList) (by simpa using hs)
  (fun j u hj=>by rw [bC,Nat.zero_add,aE hb];simpa using hj) h1 (by omega) (by unfold maxLen;omega) hB
 exact⟨A',c',w',hr,fJ,hg⟩
theorem KM{nd:DN}{pA:Option Addr}{pn pc:Nat}(h:Row w B b6 33 A (n+1) c (news++(nd.id.1.push (.slice pA pn pc)).toList))(zy:news.length=n*33)(hl:l.length=n)(hF:∀k,bG A=some k->F k)
 (hc:∀(i:Nat) nd,l[i]? =some nd->∃pA pn pc,HS w pA pn nd.ps/\(∀b,pA=some b->F b.block)/\∀(j:Nat) v,(nd.id.1.push (.slice pA pn pc))[j]? =some v->news[i*33+j]? =some v)
 (hp:HS w pA pn nd.ps) (Ke:∀b,pA=some b->F b.block):NS w F A (n+1) (l++ [nd]):=by
 refine FJ h (by simp [hl]) hF fun i md hi=>?_;rw [List.getElem?_append]at hi;split at hi
 ·obtain⟨qA,qn,qc,h1,h2,h3⟩:=hc i md hi
  exact⟨qA,qn,qc,h1,h2,fun j v hj=>by
   have:=h3 j v hj;rw [List.getElem?_append_left (lgeS this).1];exact this⟩
 ·rename_i gK
  have Gm:i=n/\md=nd:=by
   cases hk:i-l.length with
   |zero=>rw [hk]at hi;exact⟨by omega,by simpa using hi.symm⟩
   |succ k=>rw [hk]at hi;simp at hi
  obtain⟨rfl,rfl⟩:=Gm;exact⟨pA,pn,pc,hp,Ke,fun j v hj=>by
   rw [List.getElem?_append_right (by omega),zy,show i*33+j-i*33=j by omega,Array.getElem?_toList];exact hj⟩
theorem NS.same(h:NS w F A n l)(hk:Kept Nil w w'):NS w' F A n l:=h.aJ hk fun _ _ h=>h
theorem uG.mono(h:uG w F r D)(hf:∀k,F k->F' k)(hr:¬F' r):uG w F' r D:=by
 obtain⟨A,c,cs,t,h1,h0,h2⟩:=h.ex;exact⟨⟨A,c,cs,t,h1,h0,h2.mono hf⟩,hr⟩
theorem Ah(h:HT)(A:Option Addr)(n c:Nat):∀u∈(h.1.push (.slice A n c)).toList,u.oneCell'=true:=fun u hu=>by
 simp only [Array.toList_push,List.mem_append,List.mem_singleton]at hu;rcases hu with hu|rfl
 ·exact h.2.one u hu
 ·rfl
theorem D9(H:uG w F r D)(W:jX D)(hD:D.length<=10000){h:HT}{lp:List HT}{A:Option Addr}{n c:Nat}(hl:HS w A n lp)(hn:n<=400000)
 (hK:∀w',uG w' (fun k=>F k\/(w.heap.size<=k/\k<w'.heap.size)) r (mo D h lp)->Kept (· =r) w w'->K (.int .i64 (dR D h lp)) w'):
 bD prog bJ.id #[.pointer (some ⟨r,0,none⟩),.agg h.1,.slice A n c] w K:=by
 have aaz:=H.lt;have hlen:=hl.len;have mG:∀w',Kept Nil w w'->∀e,dR D h lp=e->e≠0->K (.int .i64 e) w':=fun w' k e he fP=>by
  have:=hK w' ?_ (k.mono fun _ _ h=>h.elim)
  ·rw [he]at this;exact this
  ·unfold mo
   rw [if_neg (by rw [he];exact fP)];exact(H.same k).mono (fun _ h=>.inl h) (fun e=>e.elim H.iT (fun h=>absurd h.1 (by omega)))
 refine bJ.of ?_;unfold bJ.W;intro w4;have k4:Kept Nil w w4:=(Kept.refl _ _).alloc _;have ud:w4.heap[w.heap.size]? =some (.cells h.1 al (0,0)):=aM w _;clear_value w4;refine⟨h.1,⟨h.2.1,Cells.bV ud⟩,pN (H.same k4) (by omega) h fun w7 k7=>⟨_,rfl,Split.dec (fun gK=>?_) (fun P6=>?_)⟩⟩
 ·refine mG w7 (k4.tt k7) 7 ?_ (by omega)
  unfold dR;rw [if_pos (tF.1 gK)]
 have yW:h∉ids D:=fun hm=>P6 (tF.2 hm);have Cx:Kept Nil w w7:=k4.tt k7;refine rh (hl.same Cx) hn fun Hg Kp w10 D8 rR=>⟨Hg,_,Kp,rfl,?_⟩;have FY:Kept Nil w w10:=Cx.tt rR;have CH:(dB lp).length<=n:=by have:=oF lp;omega
 by_cases h0:(dB lp).length=0
 ·refine Split.yes (by simp [h0]) ?_
  refine mG w10 FY 9 ?_ (by omega);unfold dR;rw [if_neg yW,if_pos (.inl h0)]
 refine Split.no (beq_eq_false_iff_ne.2 (by omega)) ?_;by_cases h1:(dB lp).length≠n
 ·refine Split.yes (bne_iff_ne.2 (by omega)) ?_
  refine mG w10 FY 9 ?_ (by omega);unfold dR;rw [if_neg yW,if_pos (.inr (by omega))]
 replace h1:(dB lp).length=n:=by omega
 refine Split.no (by rw [h1];simp) ?_;refine bJ.cJ (I:=fun s w'=>∃i:Nat,s=(0,(i:Int))/\i<=(dB lp).length/\(∀p∈(dB lp).take i,p∈ids D)/\Kept Nil w10 w') (μ:=fun s _=>(((dB lp).length:Int)-s.2).toNat) (s:=(0,0)) ⟨0,rfl,Nat.zero_le _,by simp,Kept.refl _ _⟩ ?_;rintro s w' ⟨i,rfl,hi,cZ,kw⟩;have kk:Kept Nil w w':=FY.tt kw;have Zq:cC w' w7.heap.size Hg (dB lp).length Kp (dB lp):=Row.aJ D8 kw (fun _ _ h=>h);refine Split.dec (fun jV=>?_) (fun gK=>?_)
 ·simp only at jV
  have eh:i<(dB lp).length:=by omega
  obtain⟨x,hx⟩:∃x,(dB lp)[i]? =some x:=⟨_,List.getElem?_eq_getElem eh⟩;refine Zq.hs.load (i:=(i:Int)) (by omega) hx (pN (H.same kk) (by omega) x fun w2 k2=>⟨_,rfl,Split.dec (fun AY=>?_) (fun jO=>?_)⟩)
  ·have XT:=sM.1 AY
   refine mG w2 (kk.tt k2) 6 ?_ (by omega);unfold dR;rw [if_neg yW,if_neg (by omega),if_pos ⟨x,List.mem_of_getElem? hx,XT⟩]
  ·simp only
   rw [dH (n:=(i:Int)) (by omega) (by omega)];refine⟨(0,(i:Int)+1),rfl,⟨i+1,rfl,eh,fun p hp=>?_,kw.tt k2⟩,by simp only;omega⟩;rcases(bT hx).1 hp with hp|rfl
   ·exact cZ p hp
   ·exact tF.1 (by omega)
 ·simp only at gK
  rw [List.take_of_length_le (by omega)]at cZ;have VU:dR D h lp=0:=by
   unfold dR;rw [if_neg yW,if_neg (by omega),if_neg (fun⟨p,hp,Kc⟩=>Kc (cZ p hp))]
  have Yz:mo D h lp=D++ [⟨h,dB lp⟩]:=by unfold mo;rw [if_pos VU]
  rw [VU,Yz]at hK;have NW:=W.pos;rw [aX,bJ.dv];unfold bJ.dd;intro DQ;have La:Kept Nil w DQ:=kk.drew;have Il:Kept Nil w10 DQ:=kw.drew;have aih:DQ.heap=w'.heap:=rfl;clear_value DQ;have Wi:DQ.heap[w.heap.size]? =some (.cells h.1 al (0,0)):=(Il.heap (rR.heap (k7.heap ud (fun h=>h)) (fun h=>h)) (fun h=>h));obtain⟨A,c,alb,t27,Ix,VQ,uc⟩:=(H.same La).ex;refine⟨A,_,c,by rw [add_zero,aE Ix];exact VQ,h.1,⟨h.2.1,Cells.bV Wi⟩,?_⟩;rw [GI];have mF:(h.1.push (.slice Hg (dB lp).length Kp)).size=33:=by rw [Array.size_push,h.2.1]
  have ajk:∀ {v},Kept Nil w v->w.heap.size<=v.heap.size:=fun k=>k.size;have ac5:∀b,Hg=some b->w.heap.size<=b.block:=fun b hb=>Nat.le_trans Cx.size (Row.bV D8 (k:=b.block) (by rw [hb];rfl)).1;have LL:∀(A':Option Addr) (c':Nat) (v:World) (news:List Value),Row v DQ.heap.size b6 33 A' (D.length+1) c' (news++(h.1.push (.slice Hg (dB lp).length Kp)).toList)->news.length=D.length*33->Kept Nil DQ v->
   (∀(i:Nat) nd,D[i]? =some nd->∃pA pn pc,HS v pA pn nd.ps/\(∀b,pA=some b->F b.block)/\∀(j:Nat) u,(nd.id.1.push (.slice pA pn pc))[j]? =some u->news[i*33+j]? =some u)->
   Wr v ((⟨r,0,none⟩:Addr).add 0)/\K (.int .i64 0) (v.setCell ((⟨r,0,none⟩:Addr).add 0) (.slice A' (D.length+1) c')):=by
   intro A' c' v news fJ zy kv vR;have FV:Kept Nil w v:=La.tt kv;obtain⟨A0,c0,cs0,t0,jE,acb,_⟩:=(H.same FV).ex;have Nv:=(Array.getElem?_eq_some_iff.1 acb).1;rw [add_zero];have k3:Kept (· =r) v (v.setCell ⟨r,0,none⟩ (.slice A' (D.length+1) c')):=Kept.setCell (S:=fun k=>k=r) (Kept.refl _ v) (p:=⟨r,0,none⟩) (fun _=>rfl) _;refine⟨dN jE Nv,hK _ ⟨⟨A',c',cs0.setIfInBounds 0 (.slice A' (D.length+1) c'),t0,?_,?_,?_⟩,fun e=>e.elim H.iT (fun h=>absurd h.1 (by omega))⟩ ((FV.mono (S':=fun k=>k=r) (fun _ _ h=>h.elim)).tt k3)⟩
   ·rw [dp jE 0]
   ·rw [List.length_append]
    simp [Nv]
   ·have CI:=k3.size
    have WN:∀b,Hg=some b->b.block<v.heap.size:=fun b hb=>by
     obtain⟨_,cur,hc⟩:=Row.bV D8 (k:=b.block) (by rw [hb];rfl);have:=aY hc;have:=Il.size;have:=kv.size;omega
    have PX:=KM (F:=fun k=>F k\/(w.heap.size<=k/\k<(v.setCell ⟨r,0,none⟩ (.slice A' (D.length+1) c')).heap.size)) (nd:=⟨h,dB lp⟩) fJ zy rfl (fun k hk=>by
     obtain⟨h1,cur,hc⟩:=Row.bV fJ hk;have:=aY hc;have:=La.size;exact .inr ⟨by omega,by omega⟩) (fun i nd hi=>by
     obtain⟨pA,pn,pc,h1,h2,h3⟩:=vR i nd hi;exact⟨pA,pn,pc,h1,fun b hb=>.inl (h2 b hb),h3⟩) ((D8.hs.same Il).same kv) (fun b hb=>.inr ⟨ac5 b hb,by have:=WN b hb;omega⟩)
    have:=PX.aJ k3 (fun k hk e=>by
     subst e;rcases hk with hk|hk
     ·exact H.iT hk
     ·omega)
    rw [List.length_append];exact this
  refine⟨?_,?_⟩
  ·obtain⟨A1,c1,qx,news,nz,nW,zr,vR⟩:=yu uc (cx:=c) NW (by omega)
   refine⟨A1,_,c1,qx,nz,⟨h.1,rfl,h.2.1,Cells.bV (zr.heap Wi (fun h=>h))⟩,mF,?_⟩;intro nh;have aai:nh=qx.alloc (.cells (h.1.push (.slice Hg (dB lp).length Kp)) b6):=by
    show qx.alloc (.cells ((h.1.push (.slice Hg (dB lp).length Kp)).toList++ []).toArray b6)=_
    rw [List.append_nil,Array.toArray_toList]
   have wE:Kept Nil qx nh:=(Kept.refl _ _).alloc _;have I7:nh.heap[qx.heap.size]? =some (.cells (h.1.push (.slice Hg (dB lp).length Kp)) b6 (0,0)):=by rw [aai];exact aM qx _
   clear_value nh;have Ad:=Row.aJ nW wE (fun _ _ h=>h);obtain⟨A2,c2,rP,jU,hU,LK⟩:=yv Ad (by omega) (Nat.le_trans zr.size wE.size) I7 mF (Ah _ _ _ _);have rQ:Kept Nil DQ rP:=Kept.eA (zr.tt wE) LK (fun k hk=>(Row.bV nW hk).1);refine⟨A2,_,c2,rP,jU,?_⟩;exact LL A2 c2 rP news hU (Row.len nW) rQ (fun i nd hi=>by
    obtain⟨pA,pn,pc,h1,h2,h3⟩:=vR i nd hi;exact⟨pA,pn,pc,h1.same rQ,h2,h3⟩)
  ·refine⟨mF,?_⟩
   intro Mw;have aah:Mw=DQ.alloc (.cells (h.1.push (.slice Hg (dB lp).length Kp)) b6):=by
    show DQ.alloc (.cells ((h.1.push (.slice Hg (dB lp).length Kp)).toList++ []).toArray b6)=_
    rw [List.append_nil,Array.toArray_toList]
   have MQ:Kept Nil DQ Mw:=(Kept.refl _ _).alloc _;have Wg:Mw.heap[DQ.heap.size]? =some (.cells (h.1.push (.slice Hg (dB lp).length Kp)) b6 (0,0)):=by rw [aah];exact aM DQ _
   clear_value Mw;refine⟨by rw [add_zero,aE (MQ.heap Ix (fun h=>h))];exact VQ,?_⟩;obtain⟨A1,c1,Si,news,nz,nW,Tv,vR⟩:=yu (uc.same MQ) (cx:=c) NW (by omega);have Wf:=Tv.heap Wg (fun h=>h);obtain⟨A2,c2,Rk,jU,hU,LK⟩:=yv nW (by omega) Tv.size Wf mF (Ah _ _ _ _);have Tu:Kept Nil Mw Rk:=Kept.eA Tv LK (fun k hk=>(Row.bV nW hk).1);have k43:Kept Nil DQ Rk:=MQ.tt Tu;refine⟨A1,_,c1,Si,nz,A2,_,c2,Rk,jU,?_⟩;exact LL A2 c2 Rk news (Row.base hU fun k hk=>Nat.le_trans MQ.size (Row.bV hU hk).1) (Row.len nW) k43 (fun i nd hi=>by
    obtain⟨pA,pn,pc,h1,h2,h3⟩:=vR i nd hi;exact⟨pA,pn,pc,h1.same Tu,h2,h3⟩)
end
theorem th:∀ {l m:List HT},l.Nodup->(∀x∈l,x∈m)->l.length<=m.length
 | [],_,_,_=>Nat.zero_le _
 |x::l,m,hn,h=>by
  rw [List.nodup_cons]at hn;have hx:=h x (by simp);have:=th (l:=l) (m:=m.erase x) hn.2 (fun y hy=>by
   have fP:y≠x:=fun e=>hn.1 (e▸hy);exact(List.mem_erase_of_ne fP).2 (h y (by simp [hy])))
  rw [List.length_erase_of_mem hx]at this;have jO:0<m.length:=List.length_pos_of_mem hx;simp only [List.length_cons];omega
structure PB(w0 w':World)(D:DG)(l out:List HT)(A1:Option Addr)(c1:Nat)(A2:Option Addr)(c2:Nat):Prop where
 r1:cC w' w0.heap.size A1 out.length c1 out
 r2:cC w' w0.heap.size A2 (l.length+out.length) c2 (l++out)
 ap:∀k,bG A1=some k->bG A2≠some k
 nd:out.Nodup
 zB:∀x∈out,∃h∈l,fw D x h
 kp:Kept Nil w0 w'
section
variable{w w' mD:World}{F S:Nat->Prop}{D:DG}{l out:List HT}{A1 A2:Option Addr}{c1 c2 r:Nat}{K:Value->World->Prop}
theorem PB.same(h:PB w w' D l out A1 c1 A2 c2)(k:Kept Nil w' mD):PB w mD D l out A1 c1 A2 c2:=
 ⟨Row.aJ h.r1 k (fun _ _ h=>h),Row.aJ h.r2 k (fun _ _ h=>h),h.ap,h.nd,h.zB,h.kp.tt k⟩
theorem PB.len(h:PB w w' D l out A1 c1 A2 c2)(W:jX D):out.length<=D.length:=by
 rw [<-iI D];exact th h.nd fun x hx=>by obtain⟨_,_,ha⟩:=h.zB x hx;exact(ha.mem W).1
theorem jF(w:World)(x:HT):HS (w.alloc (.cells (x.1.toList++ []).toArray al)) (some ⟨w.heap.size,0,none⟩) 1 [x]:=by
 refine HS.one (t:=al) (fr:=(0,0)) ?_;rw [List.append_nil,Array.toArray_toList];exact aM w _
theorem PB.add(h:PB w w' D l out A1 c1 A2 c2){x:HT}(hx:x∉out)(ha:∃h∈l,fw D x h)(hb:l.length+out.length<=500000):
 ∃JN Mm v,(Builtin.append_ #[aF,aF] aF #[.slice A1 out.length c1,.slice (some ⟨w'.heap.size,0,none⟩) 1 1]).run prog (w'.alloc (.cells (x.1.toList++ []).toArray al))=.ok (.slice JN (out.length+1) Mm) v/\Kept (fun k=>w.heap.size<=k) w' v/\
 ∃He Dt u,(Builtin.append_ #[aF,aF] aF #[.slice A2 (l.length+out.length) c2,.slice (some ⟨v.heap.size,0,none⟩) 1 1]).run prog (v.alloc (.cells (x.1.toList++ []).toArray al))=.ok (.slice He (l.length+out.length+1) Dt) u/\
  PB w u D l (out++ [x]) JN Mm He Dt:=by
 have hkw:=h.kp.size;have k1:Kept Nil w' (w'.alloc (.cells (x.1.toList++ []).toArray al)):=(Kept.refl _ _).alloc _;have wG:=jF w' x;generalize w'.alloc (.cells (x.1.toList++ []).toArray al)=w1 at k1 wG⊢;have r1:cC w1 w.heap.size A1 out.length c1 out:=Row.aJ h.r1 k1 (fun _ _ h=>h);have aiO:=k1.size;obtain⟨JN,Mm,v,nz,nW,hg1,Be⟩:=dc (cx:=1) aF r1 wG (by omega) (by omega);have ZK:Kept (fun k=>bG A1=some k) w1 v:=Kept.grown (Kept.refl _ _) hg1 (fun k hk _=>hk);have hA1:∀k,bG A1=some k->w.heap.size<=k/\k<w'.heap.size:=fun k hk=>by
  obtain⟨h1,cur,hc⟩:=Row.bV h.r1 hk;exact⟨h1,aY hc⟩
 have WM:∀k,bG A2=some k->w.heap.size<=k/\k<w'.heap.size:=fun k hk=>by
  obtain⟨h1,cur,hc⟩:=Row.bV h.r2 hk;exact⟨h1,aY hc⟩
 have kv:Kept (fun k=>w.heap.size<=k) w' v:=(k1.mono (fun _ _ h=>h.elim)).trans ZK (fun k _ e=>(hA1 k e).1);refine⟨JN,Mm,v,nz,kv,?_⟩;have k2:Kept Nil v (v.alloc (.cells (x.1.toList++ []).toArray al)):=(Kept.refl _ _).alloc _;have zx:=jF v x;generalize v.alloc (.cells (x.1.toList++ []).toArray al)=w2 at k2 zx⊢;have r2v:cC v w.heap.size A2 (l.length+out.length) c2 (l++out):=Row.aJ (Row.aJ h.r2 k1 (fun _ _ h=>h)) ZK (fun k hk e=>h.ap k e hk);have r2:cC w2 w.heap.size A2 (l.length+out.length) c2 (l++out):=Row.aJ r2v k2 (fun _ _ h=>h);have PH:=ZK.size;have aiL:=k2.size;obtain⟨He,Dt,u,jU,hU,LK,nA⟩:=dc (cx:=1) aF r2 zx (by omega) (by omega);have ku:Kept (fun k=>bG A2=some k) w2 u:=Kept.grown (Kept.refl _ _) LK (fun k hk _=>hk);have ac4:∀k,bG JN=some k->k<v.heap.size:=fun k hk=>by
  obtain⟨_,cur,hc⟩:=Row.bV nW hk;exact aY hc
 have Wn:∀k,bG JN=some k->bG A2≠some k:=fun k hk e=>by
  rcases Be k hk with h'|h'
  ·exact h.ap k h' e
  ·have:=(WM k e).2;omega
 have SB:cC u w.heap.size JN (out.length+1) Mm (out++ [x]):=Row.aJ (Row.aJ nW k2 (fun _ _ h=>h)) ku (fun k hk e=>Wn k hk e);refine⟨He,Dt,u,jU,?_⟩;refine⟨?_,?_,fun k hk e=>?_,?_,fun y hy=>?_,?_⟩
 ·rw [List.length_append];exact SB
 ·rw [List.length_append,<-List.append_assoc,List.length_singleton,<-Nat.add_assoc];exact hU
 ·rcases nA k e with h'|h'
  ·exact Wn k hk h'
  ·have:=ac4 k hk;omega
 ·rw [List.nodup_append]
  exact⟨h.nd,by simp,fun u hu v hv e=>hx (by rw [List.mem_singleton]at hv;rw [<-hv,<-e];exact hu)⟩
 ·rw [List.mem_append,List.mem_singleton]at hy
  rcases hy with hy|rfl
  ·exact h.zB y hy
  ·exact ha
 ·exact((h.kp.trans kv (fun k hk e=>absurd hk (by omega))).tt k2).trans ku (fun k hk e=>absurd (WM k e).1 (by omega))
theorem FF(W:jX D){l out:List HT}(ha:∀x∈out,∃h∈l,fw D x h)(hc:∀h∈l++out,∀p,oz D p h->p∈out):dB out=eF D l:=by
 refine Ec fun a=>⟨fun h=>?_,fun⟨_,h,hl,han⟩=>?_⟩
 ·obtain⟨b,hb,mB⟩:=ha a h
  exact⟨(mB.mem W).1,b,hb,mB⟩
 ·have key:∀ {a h},fw D a h->h∈l++out->a∈out:=by
   intro a h han
   induction han with
   |one hp=>exact fun hm=>hc _ hm _ hp
   |more _ hp ih=>exact fun hm=>ih (by rw [List.mem_append];exact .inr (hc _ hm _ hp))
  exact key han (by rw [List.mem_append];exact .inl hl)
theorem Ag(H:uG w F r D)(W:jX D)(hD:D.length<=10000){A:Option Addr}{n c:Nat}(hl:HS w A n l)(hn:n<=10000)
 (hK:∀A' c' w',cC w' w.heap.size A' (eF D l).length c' (eF D l)->Kept Nil w w'->K (.slice A' (eF D l).length c') w'):
 bD prog aI.id #[.pointer (some ⟨r,0,none⟩),.slice A n c] w K:=by
 refine aI.of ?_;unfold aI.W;have hlen:=hl.len;obtain⟨A4,c4,w4,x7,kL,EG,ud⟩:=dc (cx:=c) aF (cC.nil w w.heap.size) hl (by omega) (Nat.le_refl _);rw [Nat.zero_add]at x7 kL;rw [List.nil_append]at kL;have k4:Kept Nil w w4:=Kept.eA (Kept.refl _ _) EG (fun k hk=>by cases hk);refine⟨A4,n,c4,w4,x7,?_⟩;refine aI.cJ (I:=fun s w'=>∃(i:Nat) (out:List HT) (A1:Option Addr) (c1:Nat) (A2:Option Addr) (c2:Nat),s=(A1,out.length,c1,A2,n+out.length,c2,(i:Int))/\PB w w' D l out A1 c1 A2 c2/\i<=n+out.length/\∀h∈(l++out).take i,∀p,oz D p h->p∈out)
  (μ:=fun s _=>((n:Int)+D.length-s.2.2.2.2.2.2).toNat) (s:=(none,0,0,A4,n,c4,0))
  ⟨0,[],none,0,A4,c4,by simp,⟨cC.nil _ _,by simpa [hlen]using kL,(fun k hk=>by cases hk),List.Pairwise.nil,by simp,k4⟩,by omega,by simp⟩ ?_
 rintro s w' ⟨i,out,A1,c1,A2,c2,rfl,vL,hi,rU⟩;have hol:=vL.len W;have jU:=vL.r2;rw [hlen]at jU;refine Split.dec (fun jV=>?_) (fun gK=>?_)
 ·simp only at jV
  have eh:i<n+out.length:=by omega
  obtain⟨h,hh⟩:∃h,(l++out)[i]? =some h:=⟨_,List.getElem?_eq_getElem (by simp;omega)⟩;refine jU.hs.load (i:=(i:Int)) (by omega) hh (pN (H.same vL.kp) (by omega) h fun pw Cz=>⟨_,rfl,Split.dec (fun AY=>?_) (fun jO=>?_)⟩)
  ·simp only
   rw [dH (n:=(i:Int)) (by omega) (by omega)];refine⟨(A1,out.length,c1,A2,n+out.length,c2,(i:Int)+1),rfl,⟨i+1,out,A1,c1,A2,c2,rfl,vL.same Cz,by omega,fun x hx p hp=>?_⟩,by simp only;omega⟩;rcases(bT hh).1 hx with hx|rfl
   ·exact rU x hx p hp
   ·exact absurd (fw.mem W (.one hp)).2 (sM.1 AY)
  ·have ji:h∈ids D:=tF.1 (by omega)
   obtain⟨nd,h1,h2,h3⟩:=Mp ji;have Ex:=vL.same Cz;have H13:=H.same Ex.kp;have C0:∃b∈l,h=b\/fw D h b:=by
    have hm:=List.mem_of_getElem? hh;rw [List.mem_append]at hm;rcases hm with hm|hm
    ·exact⟨h,hm,.inl rfl⟩
    ·obtain⟨b,hb,mB⟩:=vL.zB h hm
     exact⟨b,hb,.inr mB⟩
   have mz:∀p,oz D p h↔p∈nd.ps:=fun p=>by
    constructor
    ·rintro⟨md,x8,e,hp⟩
     obtain⟨j,hj⟩:=List.mem_iff_getElem?.1 x8;have:=W.inj hj h2 (by rw [e,h3]);subst this;rw [h2]at hj;cases hj;exact hp
    ·exact fun hp=>⟨nd,List.mem_of_getElem? h2,h3,hp⟩
   have rT:nd.ps.length<=D.length:=by
    rw [<-iI D];exact th (W.ss nd (List.mem_of_getElem? h2)).nodup fun x hx=>(fw.mem W (.one ((mz x).2 hx))).1
   refine H.go' Ex.kp fun A c uc=>uc.ps' Ex.kp h1 h2 fun pA pn pc qV=>?_;have Kc:=qV.len;refine aI.iG (I:=fun s w'=>∃(k:Nat) (nH:List HT) (A1:Option Addr) (c1:Nat) (A2:Option Addr) (c2:Nat),s=(A1,nH.length,c1,A2,n+nH.length,c2,(k:Int))/\PB w w' D l nH A1 c1 A2 c2/\k<=pn/\(∃m,nH=out++m)/\(∀p∈nd.ps.take k,p∈nH))
    (μ:=fun s _=>((pn:Int)-s.2.2.2.2.2.2).toNat) (s:=(A1,out.length,c1,A2,n+out.length,c2,0)) ⟨0,out,A1,c1,A2,c2,rfl,Ex,Nat.zero_le _,⟨[],by simp⟩,by simp⟩ ?_
   rintro s w1 ⟨k,nH,B1,d1,B2,d2,rfl,hq,hk,⟨m,hm⟩,gB⟩;have ai2:=hq.len W;refine Split.dec (fun Qe=>?_) (fun Qk=>?_)
   ·simp only at Qe
    have CT:k<pn:=by omega
    obtain⟨p,hp⟩:∃p,nd.ps[k]? =some p:=⟨_,List.getElem?_eq_getElem (by omega)⟩;have Uo:=List.mem_of_getElem? hp;refine(qV.same hq.kp).load (i:=(k:Int)) (by omega) hp (yE p hq.r1.hs (by simp only;omega) fun wD yN=>⟨_,rfl,?_⟩);have Ls:=hq.same yN;have ai0:(nd.ps.length:Int)<=10000:=by omega
    by_cases wZ:p∈nH
    ·refine Split.no (by rw [decide_eq_true wZ];rfl) ?_
     simp only;rw [dH (n:=(k:Int)) (by omega) (by omega)];refine⟨(B1,nH.length,d1,B2,n+nH.length,d2,(k:Int)+1),rfl,⟨k+1,nH,B1,d1,B2,d2,rfl,Ls,CT,⟨m,hm⟩,fun q AX=>?_⟩,by simp only;omega⟩;rcases(bT hp).1 AX with AX|rfl
     ·exact gB q AX
     ·exact wZ
    ·refine Split.yes (by rw [decide_eq_false wZ];rfl) ?_
     have Wo:∃b∈l,fw D p b:=by
      obtain⟨b,hb,e|e⟩:=C0
      ·subst e;exact⟨_,hb,.one ((mz p).2 Uo)⟩
      ·exact⟨b,hb,fw.trans (.one ((mz p).2 Uo)) e⟩
     obtain⟨JN,Mm,v,nz,kv,He,Dt,u,Lq,hqu⟩:=Ls.add wZ Wo (by omega);rw [hlen]at Lq;refine(qV.same Ls.kp).load (i:=(k:Int)) (by omega) hp ⟨p.2.1,?_⟩;refine⟨JN,_,Mm,v,nz,?_⟩;have FV:Kept Nil w v:=Ls.kp.trans kv (fun k hk e=>absurd hk (by omega));refine(qV.same FV).load (i:=(k:Int)) (by omega) hp ⟨p.2.1,?_⟩;refine⟨He,_,Dt,u,Lq,?_⟩;simp only;rw [dH (n:=(k:Int)) (by omega) (by omega)];have e1:nH.length+1=(nH++ [p]).length:=by simp
     rw [e1,show n+nH.length+1=n+(nH++ [p]).length by simp;omega];refine⟨(JN,(nH++ [p]).length,Mm,He,n+(nH++ [p]).length,Dt,(k:Int)+1),rfl,⟨k+1,nH++ [p],JN,Mm,He,Dt,rfl,hqu,CT,⟨m++ [p],by rw [hm];simp⟩,fun q AX=>?_⟩,by simp only;omega⟩;rw [List.mem_append,List.mem_singleton];rcases(bT hp).1 AX with AX|rfl
     ·exact .inl (gB q AX)
     ·exact .inr rfl
   ·simp only at Qk
    rw [aX,aI.kW];unfold aI.jr;rw [dH (n:=(i:Int)) (by omega) (by omega)];rw [List.take_of_length_le (by omega)]at gB;refine⟨(B1,nH.length,d1,B2,n+nH.length,d2,(i:Int)+1),rfl,⟨i+1,nH,B1,d1,B2,d2,rfl,hq,by rw [hm];simp;omega,fun x hx q It=>?_⟩,by simp only;omega⟩;have hh':(l++nH)[i]? =some h:=by
     rw [hm,<-List.append_assoc,List.getElem?_append_left (lgeS hh).1];exact hh
    rcases(bT hh').1 hx with hx|rfl
    ·have XU:x∈(l++out).take i:=by
      rw [hm,<-List.append_assoc,List.take_append_of_le_length (by simp;omega)]at hx;exact hx
     rw [hm,List.mem_append];exact .inl (rU x XU q It)
    ·exact gB q ((mz q).1 It)
 ·simp only at gK
  have hie:i=n+out.length:=by omega
  rw [aX,aI.dv];rw [List.take_of_length_le (by simp;omega)]at rU;have e:=FF W vL.zB rU;refine rh vL.r1.hs (by simp only;omega) fun A' c' w2 row k2=>⟨A',_,c',rfl,?_⟩;rw [e]at row⊢;exact hK A' c' w2 (Row.base row fun b hb=>Nat.le_trans vL.kp.size (Row.bV row hb).1) (vL.kp.tt k2)
end
section
variable{w w' mD:World}{F S:Nat->Prop}{D:DG}{is:HT->Prop}{i:Nat}{l out:List HT}{A:Option Addr}{c r:Nat}{K:Value->World->Prop}
theorem ri(H:uG w F r D)(W:jX D)(hD:D.length<=10000)(a b:HT)(hK:∀w' (x:Bool),(x=true↔fw D a b)->Kept Nil w w'->K (.bool x) w'):
 bD prog dW.id #[.pointer (some ⟨r,0,none⟩),.agg a.1,.agg b.1] w K:=by
 refine dW.of ?_;unfold dW.W;intro w4 w5 w6;have k4:Kept Nil w w4:=(Kept.refl _ _).alloc _;have C1:w4.heap[w.heap.size]? =some (.cells a.1 al (0,0)):=aM w _;have k5:Kept Nil w4 w5:=(Kept.refl _ _).alloc _;have pC:w5.heap[w4.heap.size]? =some (.cells b.1 al (0,0)):=aM w4 _;have k6:Kept Nil w5 w6:=(Kept.refl _ _).drew;have xg:=k6.heap (k5.heap C1 (fun h=>h)) (fun h=>h);have qd:=k6.heap pC (fun h=>h);have Rr:Kept Nil w w6:=(k4.tt k5).tt k6;clear_value w6;refine⟨a.1,⟨a.2.1,Cells.bV xg⟩,pN (H.same Rr) (by omega) a fun w9 k9=>⟨_,rfl,Split.dec (fun gK=>?_) (fun P6=>?_)⟩⟩
 ·have ha9:=k9.heap xg (fun h=>h)
  have Ta:Kept Nil w w9:=Rr.tt k9;refine⟨b.1,⟨b.2.1,Cells.bV (k9.heap qd (fun h=>h))⟩,a.1,⟨a.2.1,Cells.bV ha9⟩,b.2.1,?_⟩;intro pw;have Cz:Kept Nil w9 pw:=(Kept.refl _ _).alloc _;have j0:HS pw (some ⟨w9.heap.size,0,none⟩) 1 [b]:=jF w9 b;clear_value pw;have Te:Kept Nil w pw:=Ta.tt Cz;have Ws:=Cz.heap ha9 (fun h=>h);refine⟨⟨a.1,rfl,a.2.1,Cells.bV Ws⟩,Ag (H.same Te) W hD j0 (by omega) fun A15 c15 nS SC tX=>⟨A15,_,c15,rfl,?_⟩⟩;have rT:=nY D fun x=>∃h∈ [b],fw D x h;refine⟨⟨a.1,rfl,a.2.1,Cells.bV (tX.heap Ws (fun h=>h))⟩,yE a SC.hs (by unfold eF;omega) fun xz JV=>⟨_,rfl,?_⟩⟩;refine hK xz _ ?_ ((Te.tt tX).tt JV);rw [decide_eq_true_iff];unfold eF;rw [ki];constructor
  ·rintro⟨_,h,hh,ha⟩
   rw [List.mem_singleton]at hh;subst hh;exact ha
  ·intro ha
   exact⟨(ha.mem W).1,b,by simp,ha⟩
 ·refine hK w9 false ?_ (Rr.tt k9)
  constructor
  ·intro h;cases h
  ·intro ha;exact absurd (tF.2 (ha.mem W).1) P6
theorem HN(W:jX D){j:Nat}{nd:DN}(h2:D[j]? =some nd)(p:HT):oz D p nd.id↔p∈nd.ps:=by
 constructor
 ·rintro⟨md,x8,e,hp⟩
  obtain⟨k,hk⟩:=List.mem_iff_getElem?.1 x8;have:=W.inj hk h2 e;subst this;rw [h2]at hk;cases hk;exact hp
 ·exact fun hp=>⟨nd,List.mem_of_getElem? h2,rfl,hp⟩
theorem FB(H:uG w F r D)(W:jX D)(hD:D.length<=10000)(a b:HT)(hK:∀w' (x:Bool),(x=true↔a≠b/\¬fw D a b/\¬fw D b a)->Kept Nil w w'->K (.bool x) w'):
 bD prog eK.id #[.pointer (some ⟨r,0,none⟩),.agg a.1,.agg b.1] w K:=by
 refine eK.of ?_;unfold eK.W;intro w4 w5;have k4:Kept Nil w w4:=(Kept.refl _ _).alloc _;have C1:w4.heap[w.heap.size]? =some (.cells a.1 al (0,0)):=aM w _;have k5:Kept Nil w4 w5:=(Kept.refl _ _).alloc _;have pC:w5.heap[w4.heap.size]? =some (.cells b.1 al (0,0)):=aM w4 _;have LX:=k5.heap C1 (fun h=>h);have JS:Kept Nil w w5:=k4.tt k5;clear_value w5;refine⟨a.1,⟨a.2.1,Cells.bV LX⟩,b.1,⟨b.2.1,Cells.bV pC⟩,⟨a.2.ints,b.2.ints⟩,?_⟩;rw [fL];by_cases e:a=b
 ·refine Split.no (by rw [decide_eq_true e];rfl) ?_
  exact hK w5 false (by simp [e]) JS
 ·refine Split.yes (by rw [decide_eq_false e];rfl) ?_
  refine⟨a.1,⟨a.2.1,Cells.bV LX⟩,b.1,⟨b.2.1,Cells.bV pC⟩,ri (H.same JS) W hD a b fun xC x hx JX=>⟨x,rfl,?_⟩⟩;cases x with
  |true=>
   refine Split.no rfl ?_;exact hK xC false (by simp [hx.1 rfl]) (JS.tt JX)
  |false=>
   refine Split.yes rfl ?_;have hn:¬fw D a b:=fun h=>by have:=hx.2 h;cases this
   have Tf:=JS.tt JX;refine⟨b.1,⟨b.2.1,Cells.bV (JX.heap pC (fun h=>h))⟩,a.1,⟨a.2.1,Cells.bV (JX.heap LX (fun h=>h))⟩,ri (H.same Tf) W hD b a fun nn y hy rz=>⟨y,rfl,?_⟩⟩;refine hK nn _ ?_ (Tf.tt rz);rw [Bool.not_eq_true',<-Bool.not_eq_true,hy];exact⟨fun h=>⟨e,hn,h⟩,fun h=>h.2.2⟩
end
structure NM where
 b:Nat
 pA:Option Addr
 pn:Nat
 pc:Nat
 cA:Option Addr
 cn:Nat
 cc:Nat
 rA:Option Addr
 rn:Nat
 rc:Nat
 ws:List Nat
def gD(h:HT)(m:NM):Array Value:=h.1++ #[.slice m.pA m.pn m.pc,.slice m.cA m.cn m.cc,.slice m.rA m.rn m.rc]
theorem vw(h:HT)(m:NM):(gD h m).size=35:=by unfold gD;rw [Array.size_append,h.2.1];rfl
theorem HP(h:HT)(m:NM){j:Nat}{v:Value}(hj:h.1[j]? =some v):(gD h m)[j]? =some v:=by
 unfold gD;rw [Array.getElem?_append_left (Array.getElem?_eq_some_iff.1 hj).1];exact hj
theorem HQ(h:HT)(m:NM):(gD h m)[33]? =some (.slice m.cA m.cn m.cc):=by
 unfold gD;rw [Array.getElem?_append_right (by rw [h.2.1];omega),h.2.1];rfl
theorem Av(h:HT)(m:NM):(gD h m)[34]? =some (.slice m.rA m.rn m.rc):=by
 unfold gD;rw [Array.getElem?_append_right (by rw [h.2.1];omega),h.2.1];rfl
theorem FK{h h':HT}{m m':NM}(e:gD h m=gD h' m'):h=h':=by
 apply Subtype.ext;have h1:=h.2.1;have h2:=h'.2.1;have:=congrArg (fun a:Array Value=>a.toList.take 32) e;unfold gD at this;simp only [Array.toList_append]at this;rw [List.take_left' (by simpa using h1),List.take_left' (by simpa using h2)]at this;exact Array.ext' this
structure rM(w:World)(S F:Nat->Prop)(D:DG)(ch:List HT)(nd:DN)(m:NM):Prop where
 bV:w.heap[m.b]? =some (.cells (gD nd.id m) dZ (0,0))
 gM:S m.b
 ps:HS w m.pA m.pn nd.ps
 KH:∀a,m.pA=some a->F a.block
 ch:cC w 0 m.cA m.cn m.cc ch
 Q0:∀k,bG m.cA=some k->S k
 past:US w m.rA m.rn m.ws
 pT:∀a,m.rA=some a->F a.block
 ok:okW m.ws
 bits:∀j,bit m.ws j=true↔∃nj,D[j]? =some nj/\fw D nj.id nd.id
 small:m.rn<=200
structure GV(w:World)(S F:Nat->Prop)(g:Nat)(D:DG)(C:HT->List HT)(bl c mb:Nat)(M:List NM):Prop where
 top:w.heap[g]? =some (.cells #[.slice (some ⟨bl,0,none⟩) D.length c,.map (some mb)] iM (0,0))
 row:Row w 0 fG 1 (some ⟨bl,0,none⟩) D.length c (M.map fun m=>.pointer (some ⟨m.b,0,none⟩))
 map:IsMap w mb (ids D)
 len:M.length=D.length
 node:∀(i:Nat) nd m,D[i]? =some nd->M[i]? =some m->rM w S F D (C nd.id) nd m
 apart:∀(i j:Nat) m m',M[i]? =some m->M[j]? =some m'->i≠j->∀k,bG m.cA=some k->bG m'.cA≠some k
 iS:S g
 ui:S bl
 v8:S mb
 Hb:∀k,S k->¬F k
 low:∀k,S k\/F k->k<w.heap.size
def DK(w:World)(S F:Nat->Prop)(g:Nat)(D:DG):Prop:=∃bl c mb M,GV w S F g D (iu D) bl c mb M
section
variable{w w':World}{S F S' F':Nat->Prop}{g bl c mb:Nat}{D:DG}{C:HT->List HT}{M:List NM}{K:Value->World->Prop}
theorem rM.aJ{ch:List HT}{nd:DN}{m:NM}{S0:Nat->Prop}(h:rM w S F D ch nd m)(hk:Kept S0 w w')(hS:∀k,S k->¬S0 k)(hF:∀k,F k->¬S0 k):rM w' S F D ch nd m:=
 ⟨hk.heap h.bV (hS _ h.gM),h.gM,h.ps.aJ hk (fun a ha=>hF _ (h.KH a ha)),h.KH,Row.aJ h.ch hk (fun k hb=>hS k (h.Q0 k hb)),h.Q0,h.past.aJ hk (fun a ha=>hF _ (h.pT a ha)),h.pT,h.ok,h.bits,h.small⟩
theorem GV.aJ{S0:Nat->Prop}(h:GV w S F g D C bl c mb M)(hk:Kept S0 w w')(hS:∀k,S k->¬S0 k)(hF:∀k,F k->¬S0 k):GV w' S F g D C bl c mb M:=
 ⟨hk.heap h.top (hS _ h.iS),Row.aJ h.row hk (fun k e=>by cases e;exact hS _ h.ui),h.map.aJ hk (hS _ h.v8),h.len,fun i nd m h1 h2=>(h.node i nd m h1 h2).aJ hk hS hF,h.apart,h.iS,h.ui,h.v8,h.Hb,fun k oW=>Nat.lt_of_lt_of_le (h.low k oW) hk.size⟩
theorem GV.same(h:GV w S F g D C bl c mb M)(hk:Kept Nil w w'):GV w' S F g D C bl c mb M:=h.aJ hk (fun _ _ h=>h) (fun _ _ h=>h)
theorem DK.aJ{S0:Nat->Prop}(h:DK w S F g D)(hk:Kept S0 w w')(hS:∀k,S k->¬S0 k)(hF:∀k,F k->¬S0 k):DK w' S F g D:=let ⟨bl,c,mb,M,h⟩:=h;⟨bl,c,mb,M,h.aJ hk hS hF⟩
theorem DK.same(h:DK w S F g D)(hk:Kept Nil w w'):DK w' S F g D:=h.aJ hk (fun _ _ h=>h) (fun _ _ h=>h)
theorem GV.get(h:GV w S F g D C bl c mb M){i:Nat}{nd:DN}(hi:D[i]? =some nd):∃m,M[i]? =some m/\rM w S F D (C nd.id) nd m:=by
 have:=(lgeS hi).1;have hl:=h.len;exact⟨M[i],List.getElem?_eq_getElem (by omega),h.node i nd _ hi (List.getElem?_eq_getElem (by omega))⟩
theorem GV.nodes(h:GV w S F g D C bl c mb M):w.cell? ((⟨g,0,none⟩:Addr).add 0)=some (.slice (some ⟨bl,0,none⟩) D.length c):=by rw [add_zero,aE h.top];rfl
theorem GV.at_(h:GV w S F g D C bl c mb M):w.cell? ((⟨g,0,none⟩:Addr).add 1)=some (.map (some mb)):=by rw [bC,aE h.top];rfl
theorem GV.ptr(h:GV w S F g D C bl c mb M){i:Nat}{m:NM}(hm:M[i]? =some m):w.cell? ((⟨bl,0,none⟩:Addr).add (i*1))=some (.pointer (some ⟨m.b,0,none⟩)):=by
 rw [bC,Nat.zero_add,Nat.mul_one];exact Row.cell h.row (by rw [List.getElem?_map,hm];rfl)
theorem ym(h:GV w S F g D C bl c mb M)(hK:K (.bool true) w):bD prog gI.id #[.pointer (some ⟨g,0,none⟩)] w K:=
 gI.of (Split.yes rfl ⟨some mb,h.at_,hK⟩)
def Found(D:DG)(M:List NM)(h:HT)(x:Option Addr):Prop:=(x=none/\h∉ids D)\/∃(i:Nat) (nd:DN) (m:NM),D[i]? =some nd/\nd.id=h/\M[i]? =some m/\x=some ⟨m.b,0,none⟩
theorem Found.isSome{h:HT}{x:Option Addr}(f:Found D M h x):(!x.isNone)=decide (h∈ids D):=by
 rcases f with⟨rfl,hn⟩|⟨i,nd,m,h1,h2,_,rfl⟩
 ·rw [decide_eq_false hn];rfl
 ·rw [decide_eq_true (dI.2 ⟨nd,List.mem_of_getElem? h1,h2⟩)];rfl
theorem wi(G:GV w S F g D C bl c mb M)(h:HT)(hK:∀w' x,Kept Nil w w'->Found D M h x->K (.pointer x) w'):
 bD prog gw.id #[.pointer (some ⟨g,0,none⟩),.agg h.1] w K:=by
 refine gw.of ?_;unfold gw.W;intro w3;have k3:Kept Nil w w3:=(Kept.refl _ _).alloc _;have qf:w3.heap[w.heap.size]? =some (.cells h.1 al (0,0)):=aM w _;clear_value w3;refine ym (G.same k3) ⟨true,rfl,Split.yes rfl ?_⟩;intro w7;have k7:Kept Nil w3 w7:=(Kept.refl _ _).drew;clear_value w7;have kw:Kept Nil w w7:=k3.tt k7;have G7:=G.same kw;refine⟨some mb,G7.at_,h.1,⟨h.2.1,Cells.bV (k7.heap qf (fun h=>h))⟩,_,_,G7.map.look h,?_⟩;cases hp:pos h (ids D) 0 with
 |none=>exact Split.no rfl (hK w7 none kw (.inl ⟨rfl,pS.1 hp⟩))
 |some i=>
  obtain⟨_,hi⟩:=vn hp;obtain⟨nd,h1,h2⟩:=Ir hi;rw [Nat.sub_zero]at h1;obtain⟨m,hm,_⟩:=G7.get h1;have eh:=(lgeS h1).1;refine Split.yes rfl ⟨_,_,_,G7.nodes,⟨by simp,by simp only [Option.getD_some];omega⟩,some ⟨m.b,0,none⟩,?_,hK w7 _ kw (.inr ⟨i,nd,m,h1,h2,hm,rfl⟩)⟩;rw [Option.getD_some,Int.toNat_natCast];exact G7.ptr hm
theorem sG(G:GV w S F g D C bl c mb M)(h:HT)(hK:∀w',Kept Nil w w'->K (.bool (decide (h∈ids D))) w'):
 bD prog gX.id #[.pointer (some ⟨g,0,none⟩),.agg h.1] w K:=by
 refine gX.of ?_;unfold gX.W;intro w3;have k3:Kept Nil w w3:=(Kept.refl _ _).alloc _;have qf:w3.heap[w.heap.size]? =some (.cells h.1 al (0,0)):=aM w _;clear_value w3;refine⟨h.1,⟨h.2.1,Cells.bV qf⟩,wi (G.same k3) h fun w6 x k6 hx=>⟨x,rfl,?_⟩⟩;rw [hx.isSome];exact hK w6 (k3.tt k6)
end
section
variable{w w':World}{S F:Nat->Prop}{g bl c mb:Nat}{D:DG}{C:HT->List HT}{M:List NM}{K:Value->World->Prop}
end
section
variable{w w':World}{S F:Nat->Prop}{g bl c mb:Nat}{D:DG}{C:HT->List HT}{M:List NM}{K:Value->World->Prop}
theorem Dq{A:Option Addr}{n c:Nat}{l:List HT}(hl:HS w A n l)(hn:n<=400000)(hK:∀A' c' w',cC w' w.heap.size A' n c' l->Kept Nil w w'->K (.slice A' n c') w'):
 bD prog dw.id #[.slice A n c] w K:=by
 refine dw.of ?_;cases A with
 |none=>
  obtain⟨rfl,rfl⟩:=hl.none;exact Split.yes rfl (hK none 0 w (cC.nil _ _) (Kept.refl _ _))
 |some a=>
  refine Split.no rfl ?_;intro w2;have k2:Kept Nil w w2:=(Kept.refl _ _).alloc _;have r0:cC w2 w.heap.size (some ⟨w.heap.size,0,none⟩) 0 0 []:=Row.made (n:=0) (cur:= #[]) (aM w _) (Nat.le_refl _) rfl (Nat.zero_le _);clear_value w2;obtain⟨A',c',w4,hr,row,hg,_⟩:=dc (cx:=c) aF r0 (hl.same k2) (by omega) k2.size;rw [Nat.zero_add]at hr row;rw [List.nil_append]at row;exact⟨A',n,c',w4,hr,hK A' c' w4 row (Kept.eA k2 hg (fun k hk=>by cases hk;exact Nat.le_refl _))⟩
theorem xK{D:DG}{nd:DN}{m:NM}{ch:List HT}(N:rM w S F D ch nd m):w.cell? ((⟨m.b,0,none⟩:Addr).add 34)=some (.slice m.rA m.rn m.rc):=by
 rw [bC,Nat.zero_add,aE N.bV];exact Av _ _
theorem Ef{D:DG}{nd:DN}{m:NM}{ch:List HT}(N:rM w S F D ch nd m):w.cell? ((⟨m.b,0,none⟩:Addr).add 33)=some (.slice m.cA m.cn m.cc):=by
 rw [bC,Nat.zero_add,aE N.bV];exact HQ _ _
end
def o8(D:DG)(j:Nat):HT:=match D[j]? with|some nd=>nd.id|none=>default
theorem vr:∀(ws:List Nat) (k:Nat),okW ws->(pV k ws).Nodup
 | [],_,_=>List.Pairwise.nil
 |x::ws,k,ho=>by
  have hx:=ho x (by simp);have Kf:okW ws:=fun y hy=>ho y (by simp [hy]);obtain⟨_,h2,h3⟩:=xR x hx;rw [pV,List.nodup_append];refine⟨List.Pairwise.map _ (fun a b mB e=>mB (by omega)) h2,vr ws (k+1) Kf,fun a ha b hb e=>?_⟩;rw [List.mem_map]at ha;obtain⟨t,ht,rfl⟩:=ha;have:=((pY ws (k+1) b Kf).1 hb).1;have:=h3 t ht;omega
section
variable{w w':World}{S F:Nat->Prop}{g bl c mb:Nat}{D:DG}{C:HT->List HT}{M:List NM}{K:Value->World->Prop}
theorem wj(G:GV w S F g D C bl c mb M)(W:jX D)(hD:D.length<=10000)(hT:sP w){A:Option Addr}{n cx:Nat}{l:List HT}(hl:HS w A n l)(hn:n<=10000)
 (hK:∀A' c' w',cC w' w.heap.size A' (eF D l).length c' (eF D l)->Kept Nil w w'->K (.slice A' (eF D l).length c') w'):
 bD prog aW.id #[.pointer (some ⟨g,0,none⟩),.slice A n cx] w K:=by
 have hlen:=hl.len;refine aW.of ?_;unfold aW.W;intro w3;have k3:Kept Nil w w3:=(Kept.refl _ _).alloc _;have Vs:w3.heap[w.heap.size]? =some (.cells #[.pointer (some ⟨g,0,none⟩)] iR (0,0)):=aM w _;have CI:w.heap.size<w3.heap.size:=aY Vs;clear_value w3;refine aW.cJ (I:=fun s w'=>∃(i:Nat) (A':Option Addr) (n' c':Nat) (ws:List Nat),s=(A',n',c',(i:Int))/\i<=n/\lE w' w3.heap.size A' n' c' ws/\okW ws/\n'<=200/\(∀j,bit ws j=true↔∃h∈l.take i,∃nj,D[j]? =some nj/\fw D nj.id h)/\Kept Nil w3 w')
  (μ:=fun s _=>((n:Int)-s.2.2.2).toNat) (s:=(none,0,0,0)) ⟨0,none,0,0,[],rfl,Nat.zero_le _,Row.nil _ _ _ _,by simp [okW],by omega,by simp [zf],Kept.refl _ _⟩ ?_
 rintro s w' ⟨i,A',n',c',ws,rfl,hi,row,ho,hn',qM,kw⟩;have kk:Kept Nil w w':=k3.tt kw;refine Split.dec (fun jV=>?_) (fun gK=>?_)
 ·simp only at jV
  have eh:i<n:=by omega
  obtain⟨h,hh⟩:∃h,l[i]? =some h:=⟨_,List.getElem?_eq_getElem (by omega)⟩;refine(hl.same kk).load (i:=(i:Int)) (by omega) hh ?_;intro nv;obtain⟨tq,j0,kz⟩:=iL (w:=w') (z:=(CF 0)) (cs:=h.1) (t:=al) (by rw [h.2.1];rfl);refine⟨⟨h.2.1,h.2.one,fun j hj=>tq j (by rw [h.2.1];exact hj)⟩,?_⟩;intro nS
  replace j0:nS.heap[w'.heap.size]? =some (.cells h.1 al (0,0)):=j0
  replace kz:Kept Nil w' nS:=kz
  clear_value nS;have tX:Kept Nil w3 nS:=kw.tt kz;refine⟨some ⟨g,0,none⟩,by rw [aE (tX.heap Vs (fun h=>h))];rfl,h.1,⟨h.2.1,Cells.bV j0⟩,?_⟩;refine wi (G.same (k3.tt tX)) h fun pv x x5 hx=>⟨x,rfl,?_⟩;have K8:Kept Nil w3 pv:=tX.tt x5;have H0:Kept Nil w pv:=k3.tt K8;have xH:lE pv w3.heap.size A' n' c' ws:=Row.aJ row (kz.tt x5) (fun _ _ h=>h);rcases hx with⟨rfl,mG⟩|⟨q,nd,m',hq,rfl,nN,rfl⟩
  ·refine Split.no rfl ?_
   simp only;rw [dH (n:=(i:Int)) (by omega) (by omega)];refine⟨(A',n',c',(i:Int)+1),rfl,⟨i+1,A',n',c',ws,rfl,eh,xH,ho,hn',fun j=>?_,K8⟩,by simp only;omega⟩;rw [qM];constructor
   ·rintro⟨h',h1,h2⟩;exact⟨h',(bT hh).2 (.inl h1),h2⟩
   ·rintro⟨h',h1,nj,h2,h3⟩
    rcases(bT hh).1 h1 with h1|rfl
    ·exact⟨h',h1,nj,h2,h3⟩
    ·exact absurd (h3.mem W).2 mG
  ·obtain⟨m,hm,N⟩:=(G.same H0).get hq
   rw [nN]at hm;cases hm;refine Split.yes rfl ⟨_,_,_,xK N,?_⟩;have wF:=N.small;have Gt:∀k,bG A'=some k->w3.heap.size<=k:=fun k hk=>(Row.bV xH hk).1;refine xF xH ho (by omega) K8.size N.past N.ok (by omega) (fun a ha k hk e=>?_) fun A2 n2 c2 l2 mC SA aa8 UM QB qT LU=>⟨A2,n2,c2,rfl,?_⟩
   ·have h1:=G.low a.block (.inr (N.pT a ha))
    have h2:=Gt k hk;omega
   ·simp only
    rw [dH (n:=(i:Int)) (by omega) (by omega)];refine⟨(A2,n2,c2,(i:Int)+1),rfl,⟨i+1,A2,n2,c2,l2,rfl,eh,SA,aa8,by omega,fun j=>?_,K8.trans qT (fun k hk e=>absurd (Gt k e) (by omega))⟩,by simp only;omega⟩;rw [QB,Bool.or_eq_true,qM,N.bits];constructor
    ·rintro(⟨h',h1,h2⟩|h2)
     ·exact⟨h',(bT hh).2 (.inl h1),h2⟩
     ·exact⟨nd.id,(bT hh).2 (.inr rfl),h2⟩
    ·rintro⟨h',h1,h2⟩
     rcases(bT hh).1 h1 with h1|rfl
     ·exact .inl ⟨h',h1,h2⟩
     ·exact .inr h2
 ·simp only at gK
  have hie:i=n:=by omega
  subst hie;rw [List.take_of_length_le (by omega)]at qM;rw [aX,aW.dv];unfold aW.dd;intro uJ;have G0:Kept Nil w' uJ:=(Kept.refl _ _).alloc _;have UB:uJ.heap[w'.heap.size]? =some (.cells #[.slice none 0 0] aF (0,0)):=aM w' _;clear_value uJ;refine kV.of ?_;unfold kV.W;intro nh;have wE:Kept Nil uJ nh:=(Kept.refl _ _).alloc _;have Lp:nh.heap[uJ.heap.size]? =some (.cells #[.slice A' n' c'] lL (0,0)):=aM uJ _;clear_value nh;refine⟨_,rfl,?_⟩;have UA:=wE.heap UB (fun h=>h);have Ty:Kept Nil w3 nh:=(kw.tt G0).tt wE;have KW:Kept Nil w nh:=k3.tt Ty;have Ad:lE nh w3.heap.size A' n' c' ws:=Row.aJ (Row.aJ row G0 (fun _ _ h=>h)) wE (fun _ _ h=>h);have Qn:=Ty.heap Vs (fun h=>h);have BP:w.heap.size<w'.heap.size:=Nat.lt_of_lt_of_le CI kw.size;have aiI:w'.heap.size<nh.heap.size:=aY UA;have aiJ:uJ.heap.size<nh.heap.size:=aY Lp;have IK:∀j∈pV 0 ws,∃nj,D[j]? =some nj:=fun j hj=>by
   have:=((pY ws 0 j ho).1 hj).2;rw [Nat.mul_zero,Nat.sub_zero]at this;obtain⟨_,_,nj,h1,_⟩:=(qM j).1 this;exact⟨nj,h1⟩
  have zy:(pV 0 ws).length<=D.length:=by
   have:=vt (m:=List.range D.length) (vr ws 0 ho) (fun j hj=>by
    obtain⟨nj,h1⟩:=IK j hj;exact List.mem_range.2 (lgeS h1).1)
   rwa [List.length_range]at this
  let xs:=pV 0 ws
  let ρ0:Env:= [(2,.pointer (some (aU w.heap.size))),(4,.slice none 0 0),(9,.pointer (some (aU w'.heap.size))),(30,.func (.func aK.id) #[] #[.pointer (some (aU uJ.heap.size))])]
  let J:Nat->World->Prop:=fun i v=>∃A c,v.heap[w'.heap.size]? =some (.cells #[.slice A i c] aF (0,0))/\cC v nh.heap.size A i c ((xs.take i).map (o8 D))/\Kept (· =w'.heap.size) nh v/\i<=xs.length
  have sC:∀i v,J i v->US v A' n' ws/\v.cell? ⟨uJ.heap.size,0,none⟩=some (.slice A' n' c')/\sP v:=by
   rintro i v ⟨A,c,h1,h2,h3,h4⟩;refine⟨Ad.us.aJ h3 (fun a ha e=>?_),by rw [aE (h3.heap Lp (by have:=aY UB;omega))];rfl,(hT.same KW).aJ h3 (fun e=>by have:=hT.lt;omega)⟩;have hk:bG A'=some a.block:=by rw [ha];rfl
   obtain⟨_,cur,hc⟩:=Row.bV row hk;have:=aY hc;omega
  refine oK (ρ:=ρ0) (ρ0:=ρ0) ng mix aW.k (t:=30) (ps:= #[31]) (by kernel_rfl) (by decide) rfl aK.at_ rfl (.inl rfl) (fun i v _ h=>h) rfl encI xs (fun _=>rfl) (by simp [iK]) (JB ⟨uJ.heap.size,0,none⟩ (c:=c') (by omega) ho) J (fun _ _=>False) ?_ (fun _ _ _ _ _ h=>h.elim) sC ?_ ?_ ?_ (fun _ _ h=>h.elim) (fun _ _ _ h=>h.elim)
  ·rintro i v v' R rG ⟨A,c,h1,h2,h3,h4⟩ hk
   exact⟨A,c,hk.heap h1 (lN h1 rG.loop),Row.apart h2 hk (fun cs t fr h=>by rw [rG.loop]at h;cases h),h3.trans hk (fun k hk e=>by omega),h4⟩
  ·intro R
   exact⟨none,0,lu (lu UA _) _,cC.nil _ _,(((Kept.refl _ _).alloc _).alloc _),Nat.zero_le _⟩
  ·rintro i x v R hx hj rG
   have hJ:=hj;obtain⟨A,c,h1,h2,h3,h4⟩:=hj;have eh:i<xs.length:=(lgeS hx).1;have e7:ml ρ0 ((#[31]:Array Nat).toList.zip (encI x))= [(2,.pointer (some (aU w.heap.size))),(4,.slice none 0 0),(9,.pointer (some (aU w'.heap.size))),(30,.func (.func aK.id) #[] #[.pointer (some (aU uJ.heap.size))]),(31,.int .i64 (x:Int))]:=rfl;rw [e7,aW.a1];unfold aW.A1;refine⟨rG,fun w2 R2 oV uA=>?_⟩;have BS:=oV.heap h1 (lN h1 rG.loop);have C8:cC w2 nh.heap.size A i c ((xs.take i).map (o8 D)):=Row.apart h2 oV (fun cs t fr h=>by rw [rG.loop]at h;cases h);have WO:Kept (· =w'.heap.size) nh w2:=h3.trans oV (fun k hk e=>by omega);clear hJ h1 h2 h3;rw [aW.y1];unfold aW.Y1;intro Ot;have XL:Kept Nil w2 Ot:=(Kept.refl _ _).drew;clear_value Ot;have WU:=XL.heap BS (fun h=>h);have Ek:Kept (· =w'.heap.size) nh Ot:=WO.trans XL (fun _ _ h=>h.elim);obtain⟨nj,No⟩:=IK x (List.mem_of_getElem? hx);have tZ:=(lgeS No).1;have ZF:Kept Nil w Ot:=KW.trans Ek (fun k hk e=>by omega);obtain⟨m,hm,N⟩:=(G.same ZF).get No;refine⟨A,i,c,by rw [aE WU];rfl,some ⟨g,0,none⟩,by rw [aE (Ek.heap Qn (by omega))];rfl,?_⟩;refine⟨_,_,_,(G.same ZF).nodes,⟨by omega,by omega⟩,some ⟨m.b,0,none⟩,by rw [Int.toNat_natCast];exact(G.same ZF).ptr hm,?_⟩;refine⟨nj.id.1,⟨nj.id.2.1,fun j v hj=>?_⟩,nj.id.2.1,?_⟩
   ·rw [add_zero,bC,Nat.zero_add,aE N.bV]
    exact HP _ _ hj
   intro Rj;have Tt:Kept Nil Ot Rj:=(Kept.refl _ _).alloc _;have jF:HS Rj (some ⟨Ot.heap.size,0,none⟩) 1 [nj.id]:=jF Ot nj.id;clear_value Rj;have WT:=Tt.heap WU (fun h=>h);refine⟨by rw [aE WT];rfl,?_⟩;have L4:cC Rj nh.heap.size A i c ((xs.take i).map (o8 D)):=Row.aJ (Row.aJ C8 XL (fun _ _ h=>h)) Tt (fun _ _ h=>h);have TY:nh.heap.size<=Rj.heap.size:=Nat.le_trans Ek.size Tt.size;have Lh:xs.length<=D.length:=zy;obtain⟨A2,c2,qZ,hr,xG,LI,QD⟩:=dc (cx:=1) aF L4 jF (by omega) TY;have Qj:Kept (fun k=>bG A=some k) Rj qZ:=Kept.grown (Kept.refl _ _) LI (fun k hk _=>hk);have WL:∀k,bG A=some k->nh.heap.size<=k:=fun k hk=>(Row.bV L4 hk).1;have WS:=Qj.heap WT (fun e=>by have:=WL _ e;omega);have abp:Live (nh.heap.size+1) nh.heap.size R2 qZ:=by
    have P8:=(uA.aJ XL (fun h=>h) (fun h=>h)).aJ Tt (fun h=>h) (fun h=>h);refine P8.aJ Qj ?_ ?_
    ·intro h
     obtain⟨_,cur,hc⟩:=Row.bV L4 h;exact lN hc P8.loop rfl
    ·intro h
     obtain⟨_,cur,hc⟩:=Row.bV L4 h;exact yJ hc P8.mark rfl
   refine⟨A2,_,c2,qZ,hr,dN WS (by simp),?_⟩;intro Zb;have ZS:Kept (· =w'.heap.size) qZ Zb:=Kept.setCell (S:=fun k=>k=w'.heap.size) (Kept.refl _ qZ) (p:=⟨w'.heap.size,0,none⟩) (fun _=>rfl) _;have acr:Zb.heap[w'.heap.size]? =some (.cells #[.slice A2 (i+1) c2] aF (0,0)):=dp WS 0 _;clear_value Zb;refine⟨abp.aJ ZS (by omega) (by omega),A2,c2,acr,?_,((Ek.trans Tt (fun _ _ h=>h.elim)).trans Qj (fun k hk e=>absurd (WL k e) (by omega))).tt ZS,eh⟩;have e:(xs.take (i+1)).map (o8 D)=(xs.take i).map (o8 D)++ [nj.id]:=by
    rw [List.take_add_one,hx];simp [o8,No]
   rw [e];exact Row.aJ xG ZS (fun k hk e=>by have:=(Row.bV xG hk).1;omega)
  ·rintro v R ⟨A,c,h1,h2,h3,h4⟩ rG
   have e7:iU ρ0 nh.heap.size= [(2,.pointer (some (aU w.heap.size))),(4,.slice none 0 0),(9,.pointer (some (aU w'.heap.size))),(30,.func (.func aK.id) #[] #[.pointer (some (aU uJ.heap.size))]),(4294967296,.agg #[.pointer (some ⟨nh.heap.size,0,none⟩)])]:=rfl;rw [e7,aW.lG];rw [List.take_of_length_le (Nat.le_refl _)]at h2;have Lh:xs.length<=D.length:=zy;refine⟨A,xs.length,c,by rw [aE h1];rfl,iP h2.hs (by omega) fun A2 c2 Za HI ZR=>⟨A2,_,c2,rfl,⟨ZR.heap rG.mark (fun h=>h),trivial⟩,?_⟩⟩;have hmk:=ZR.heap rG.mark (fun h=>h);have kp:Kept (· =nh.heap.size) Za (Za.putObj nh.heap.size (.deferred none)):=Kept.putAt _ _ _;have e:dB (xs.map (o8 D))=eF D l:=Ec fun a=>by
    rw [List.mem_map];constructor
    ·rintro⟨j,hj,rfl⟩
     have hb:=((pY ws 0 j ho).1 hj).2;rw [Nat.mul_zero,Nat.sub_zero]at hb;obtain⟨h',uf,nj,vU,BQ⟩:=(qM j).1 hb;have:o8 D j=nj.id:=by unfold o8;rw [vU]
     rw [this];exact⟨(BQ.mem W).1,h',uf,BQ⟩
    ·rintro⟨ha,h',hh',C0⟩
     obtain⟨nj,hnm,rfl⟩:=dI.1 ha;obtain⟨j,hj⟩:=List.mem_iff_getElem?.1 hnm;refine⟨j,(pY ws 0 j ho).2 ⟨by omega,?_⟩,by unfold o8;rw [hj]⟩;rw [Nat.mul_zero,Nat.sub_zero];exact(qM j).2 ⟨h',hh',nj,hj,C0⟩
   rw [e]at HI⊢;have lS:Kept Nil w Za:=(KW.trans h3 (fun k hk e=>by omega)).tt ZR;have hws:w.heap.size<=v.heap.size:=Nat.le_trans KW.size h3.size;refine hK A2 c2 _ (Row.base (Row.apart HI kp (fun cs t fr h=>by rw [hmk]at h;cases h)) fun b hb=>Nat.le_trans hws (Row.bV HI hb).1) (lS.trans kp (fun k hk e=>by omega))
end
section
variable{w w':World}{S F:Nat->Prop}{g bl c mb gb:Nat}{D:DG}{C:HT->List HT}{M:List NM}{K:Value->World->Prop}
theorem Bt(G:GV w S F g D C bl c mb M)(hg:w.heap[gb]? =some (.cells #[.pointer (some ⟨g,0,none⟩)] iR (0,0))){A:Option Addr}{n cx:Nat}{l:List HT}(hl:HS w A n l)(hn:n<=400000)
 (hK:∀w' (x:Bool),(x=true↔∃p∈l,p∉ids D)->Kept Nil w w'->K (.bool x) w'):
 bD prog dS.id #[.slice A n cx,.func (.func eQ.id) #[] #[.pointer (some ⟨gb,0,none⟩)]] w K:=by
 have hlen:=hl.len;refine cH.of (ay.of ?_);refine ay.cJ (I:=fun s w'=>∃i:Nat,s=(0,(i:Int))/\i<=n/\(∀p∈l.take i,p∈ids D)/\Kept Nil w w') (μ:=fun s _=>((n:Int)-s.2).toNat) (s:=(0,0)) ⟨0,rfl,Nat.zero_le _,by simp,Kept.refl _ _⟩ ?_;rintro s w' ⟨i,rfl,hi,cZ,kw⟩;refine Split.dec (fun jV=>?_) (fun gK=>?_)
 ·simp only at jV
  have eh:i<n:=by omega
  obtain⟨x,hx⟩:∃x,l[i]? =some x:=⟨_,List.getElem?_eq_getElem (by omega)⟩;refine(hl.same kw).load (i:=(i:Int)) (by omega) hx ?_;refine eQ.of ?_;unfold eQ.W;intro w3;have k3:Kept Nil w' w3:=(Kept.refl _ _).alloc _;have qf:w3.heap[w'.heap.size]? =some (.cells x.1 al (0,0)):=aM w' _;clear_value w3;have MK:=kw.tt k3;refine⟨some ⟨g,0,none⟩,by rw [aE (MK.heap hg (fun h=>h))];rfl,x.1,⟨x.2.1,Cells.bV qf⟩,sG (G.same MK) x fun w7 k7=>⟨_,rfl,_,rfl,?_⟩⟩;have Cx:=MK.tt k7;by_cases hm:x∈ids D
  ·refine Split.no (by rw [decide_eq_true hm];rfl) ?_
   simp only;rw [dH (n:=(i:Int)) (by omega) (by omega)];refine⟨(0,(i:Int)+1),rfl,⟨i+1,rfl,eh,fun p hp=>?_,Cx⟩,by simp only;omega⟩;rcases(bT hx).1 hp with hp|rfl
   ·exact cZ p hp
   ·exact hm
  ·refine Split.yes (by rw [decide_eq_false hm];rfl) ?_
   refine⟨(i:Int),rfl,?_⟩;exact hK w7 _ ⟨fun _=>⟨x,List.mem_of_getElem? hx,hm⟩,fun _=>decide_eq_true (by omega)⟩ Cx
 ·simp only at gK
  rw [aX,ay.dv];rw [List.take_of_length_le (by omega)]at cZ;exact⟨-1,rfl,hK w' _ ⟨fun h=>absurd (of_decide_eq_true h) (by omega),fun⟨p,hp,hn⟩=>absurd (cZ p hp) hn⟩ kw⟩
theorem kM{w:World}{a b:Nat}{ca cb:Array Value}{ta tb:TypeId}{fa fb:Nat×Nat}(ha:w.heap[a]? =some (.cells ca ta fa))(hb:w.heap[b]? =some (.cells cb tb fb))(fP:ta≠tb):a≠b:=by
 rintro rfl;rw [ha]at hb;simp only [Option.some.injEq,Obj.cells.injEq]at hb;exact fP hb.2.1
theorem GV.upd(G:GV w S F g D C bl c mb M)(W:jX D){q:Nat}{nd:DN}{m:NM}(hq:D[q]? =some nd)(hm:M[q]? =some m){A5:Option Addr}{n5 c5:Nat}{ch':List HT}
 (kT:Kept (fun k=>bG m.cA=some k\/k=m.b) w w') (hb:w'.heap[m.b]? =some (.cells (gD nd.id {m with cA:=A5,cn:=n5,cc:=c5}) dZ (0,0))) (fJ:cC w' w.heap.size A5 n5 c5 ch'):
 GV w' (fun k=>S k\/bG A5=some k) F g D (fun x=>if x=nd.id then ch' else C x) bl c mb (M.set q {m with cA:=A5,cn:=n5,cc:=c5}):=by
 have N:=G.node q nd m hq hm;have Lr:q<M.length:=(lgeS hm).1;have pf:∀k,bG m.cA=some k->∃cur,w.heap[k]? =some (.cells cur al (0,0)):=fun k hk=>(Row.bV N.ch hk).2;have hF:∀k,F k->¬(bG m.cA=some k\/k=m.b):=fun k hk e=>by
  rcases e with e|rfl
  ·exact G.Hb k (N.Q0 k e) hk
  ·exact G.Hb _ N.gM hk
 have typ:∀ {k:Nat} {cs:Array Value} {t:TypeId},w.heap[k]? =some (.cells cs t (0,0))->t≠al->t≠dZ->¬(bG m.cA=some k\/k=m.b):=fun h h1 h2 e=>by
  rcases e with e|rfl
  ·obtain⟨cur,hc⟩:=pf _ e
   exact kM h hc h1 rfl
  ·exact kM h N.bV h2 rfl
 have Gs:∀k,bG A5=some k->w.heap.size<=k:=fun k hk=>(Row.bV fJ hk).1;have gR:∀(i:Nat) m',(M.set q {m with cA:=A5,cn:=n5,cc:=c5})[i]? =some m'->(i=q/\m'= {m with cA:=A5,cn:=n5,cc:=c5})\/(i≠q/\M[i]? =some m'):=fun i m' h=>by
  by_cases e:i=q
  ·subst e
   rw [List.getElem?_set_self Lr]at h;exact .inl ⟨rfl,(Option.some.inj h).symm⟩
  ·rw [List.getElem?_set_ne (Ne.symm e)]at h
   exact .inr ⟨e,h⟩
 refine⟨?_,?_,?_,by simpa using G.len,?_,?_,.inl G.iS,.inl G.ui,.inl G.v8,?_,?_⟩
 ·exact kT.heap G.top (typ G.top (by decide) (by decide))
 ·have P5:(M.set q {m with cA:=A5,cn:=n5,cc:=c5}).map (fun m=>Value.pointer (some ⟨m.b,0,none⟩))=M.map fun m=>Value.pointer (some ⟨m.b,0,none⟩):=by
   apply List.ext_getElem?;intro i;rw [List.getElem?_map,List.getElem?_map];by_cases e:i=q
   ·subst e
    rw [List.getElem?_set_self Lr,hm];rfl
   ·rw [List.getElem?_set_ne (Ne.symm e)]
  rw [P5];refine Row.aJ G.row kT (fun k e=>?_);cases e;obtain⟨_,cur,hc⟩:=Row.bV G.row (k:=bl) rfl;exact typ hc (by decide) (by decide)
 ·refine G.map.aJ kT (fun e=>?_)
  obtain⟨es,clock,Lz,_⟩:=G.map.ex;rcases e with e|e
  ·obtain⟨cur,hc⟩:=pf _ e
   rw [hc]at Lz;cases Lz
  ·rw [e,N.bV]at Lz;cases Lz
 ·intro i nd' m' hi nN
  rcases gR i m' nN with⟨rfl,rfl⟩|⟨fP,UX⟩
  ·rw [hq]at hi
   cases hi;rw [if_pos rfl];exact⟨hb,.inl N.gM,N.ps.aJ kT (fun a ha=>hF _ (N.KH a ha)),N.KH,Row.base fJ (fun _ _=>Nat.zero_le _),fun k hk=>.inr hk,N.past.aJ kT (fun a ha=>hF _ (N.pT a ha)),N.pT,N.ok,N.bits,N.small⟩
  ·have N':=G.node i nd' m' hi UX
   have hid:nd'.id≠nd.id:=fun e=>fP (W.inj hi hq e);rw [if_neg hid];have ace:m'.b≠m.b:=fun e=>by
    have h1:=N'.bV;rw [e,N.bV]at h1;simp only [Option.some.injEq,Obj.cells.injEq]at h1;exact hid (FK h1.1).symm
   refine⟨kT.heap N'.bV (fun e=>?_),.inl N'.gM,N'.ps.aJ kT (fun a ha=>hF _ (N'.KH a ha)),N'.KH,Row.aJ N'.ch kT (fun k hk e=>?_),fun k hk=>.inl (N'.Q0 k hk),N'.past.aJ kT (fun a ha=>hF _ (N'.pT a ha)),N'.pT,N'.ok,N'.bits,N'.small⟩
   ·rcases e with e|e
    ·obtain⟨cur,hc⟩:=pf _ e
     exact kM N'.bV hc (by decide) rfl
    ·exact ace e
   ·rcases e with e|rfl
    ·exact G.apart i q m' m UX hm fP k hk e
    ·obtain⟨cur,hc⟩:=(Row.bV N'.ch hk).2
     exact kM hc N.bV (by decide) rfl
 ·intro i j m1 m2 h1 h2 sD k Kg oV
  rcases gR i m1 h1 with⟨rfl,rfl⟩|⟨hi,uf⟩
  ·rcases gR j m2 h2 with⟨rfl,rfl⟩|⟨hj,vU⟩
   ·exact sD rfl
   ·have:=Gs k Kg
    have uN:j<D.length:=by rw [<-G.len];exact(lgeS vU).1
    obtain⟨cur,hc⟩:=(Row.bV (G.node j _ m2 (List.getElem?_eq_getElem uN) vU).ch oV).2;have:=aY hc;omega
  ·rcases gR j m2 h2 with⟨rfl,rfl⟩|⟨hj,vU⟩
   ·have:=Gs k oV
    have eh:i<D.length:=by rw [<-G.len];exact(lgeS uf).1
    obtain⟨cur,hc⟩:=(Row.bV (G.node i _ m1 (List.getElem?_eq_getElem eh) uf).ch Kg).2;have:=aY hc;omega
   ·exact G.apart i j m1 m2 uf vU sD k Kg oV
 ·intro k hk hf
  rcases hk with hk|hk
  ·exact G.Hb k hk hf
  ·have:=Gs k hk
   have:=G.low k (.inr hf);omega
 ·intro k hk
  rcases hk with(hk|hk)|hk
  ·exact Nat.lt_of_lt_of_le (G.low k (.inl hk)) kT.size
  ·obtain⟨cur,hc⟩:=(Row.bV fJ hk).2
   exact aY hc
  ·exact Nat.lt_of_lt_of_le (G.low k (.inr hk)) kT.size
end
theorem Au(h:HT)(m:NM)(A:Option Addr)(n c:Nat):(gD h m).setIfInBounds 33 (.slice A n c)=gD h {m with cA:=A,cn:=n,cc:=c}:=by
 have hs:=h.2.1;apply Array.ext_getElem?;intro i;unfold gD;rw [Array.getElem?_setIfInBounds,Array.getElem?_append,Array.getElem?_append];by_cases h1:i<h.1.size
 ·rw [if_neg (by omega),if_pos h1,if_pos h1]
 ·rw [if_neg h1,if_neg h1]
  by_cases h2:i=33
  ·subst h2
   rw [if_pos rfl,if_pos (by simp;omega),hs];rfl
  ·rw [if_neg (Ne.symm h2),hs]
   match i-32,show i-32≠1 by omega with
   |0,_=>rfl
   |2,_=>rfl
   |(k+3),_=>rfl
theorem Ar(h:HT)(m:NM)(A:Option Addr)(n c:Nat):(gD h m).setIfInBounds 34 (.slice A n c)=gD h {m with rA:=A,rn:=n,rc:=c}:=by
 have hs:=h.2.1;apply Array.ext_getElem?;intro i;unfold gD;rw [Array.getElem?_setIfInBounds,Array.getElem?_append,Array.getElem?_append];by_cases h1:i<h.1.size
 ·rw [if_neg (by omega),if_pos h1,if_pos h1]
 ·rw [if_neg h1,if_neg h1]
  by_cases h2:i=34
  ·subst h2
   rw [if_pos rfl,if_pos (by simp;omega),hs];rfl
  ·rw [if_neg (Ne.symm h2),hs]
   match i-32,show i-32≠2 by omega with
   |0,_=>rfl
   |1,_=>rfl
   |(k+3),_=>rfl
section
variable{w w0 w':World}{S F F1 S':Nat->Prop}{g bl c mb gb ib nb:Nat}{D:DG}{C:HT->List HT}{M:List NM}{K:Value->World->Prop}
noncomputable def jt(D:DG)(h:HT)(l:List HT):HT->List HT:=fun x=>if x∈l then dB (iu D x++ [h])else iu D x
structure AL(w0 w':World)(S F1 S':Nat->Prop)(g:Nat)(D:DG)(h:HT)(l:List HT)(gb ib nb:Nat)(pA:Option Addr)(pc i bl c mb:Nat)(M:List NM)(rA:Option Addr)(rn rc:Nat)(ws:List Nat):Prop where
 G:GV w' S' F1 g D (jt D h (l.take i)) bl c mb M
 sub:∀k,S k->S' k
 new:∀k,S' k->S k\/w0.heap.size<=k
 node:w'.heap[nb]? =some (.cells (gD h ⟨nb,pA,l.length,pc,none,0,0,rA,rn,rc,ws⟩) dZ (0,0))
 Zv:¬S' nb
 row:lE w' nb rA rn rc ws
 ok:okW ws
 small:rn<=200
 Zu:∀k,bG rA=some k->¬S' k
 bits:∀j,bit ws j=true↔∃p∈l.take i,∃nj,D[j]? =some nj/\(nj.id=p\/fw D nj.id p)
 YF:w'.heap[gb]? =some (.cells #[.pointer (some ⟨g,0,none⟩)] iR (0,0))
 ibx:w'.heap[ib]? =some (.cells h.1 al (0,0))
 noG:¬S' gb
 noI:¬S' ib
 hl:HS w' pA l.length l
 kp:Kept S w0 w'
theorem GO{h:HT}{l:List HT}{pA:Option Addr}{pc i:Nat}{rA:Option Addr}{rn rc:Nat}{ws:List Nat}{Q:aR}
 (L:AL w0 w' S F1 S' g D h l gb ib nb pA pc i bl c mb M rA rn rc ws) (W:jX D) (hD:D.length<=10000) (uM:SS l) (gB:∀p∈l,p∈ids D) (G9:∀k,F1 k->k<nb) (Ke:∀a,pA=some a->F1 a.block) (h0:w0.heap.size<=nb) (eh:i<l.length) (hll:l.length<=10000)
 (hQ:∀S2 M rA rn rc ws v,AL w0 v S F1 S2 g D h l gb ib nb pA pc (i+1) bl c mb M rA rn rc ws->Q .normal (bN.e1 ⟨gb,0,none⟩ ⟨ib,0,none⟩ 0 ⟨nb,0,none⟩ pA l.length pc (l.length:Int) ((i:Int)+1)) v):
 bN.B1 ⟨gb,0,none⟩ ⟨ib,0,none⟩ 0 ⟨nb,0,none⟩ pA l.length pc (l.length:Int) (i:Int) Q w':=by
 obtain⟨p,hp⟩:∃p,l[i]? =some p:=⟨_,List.getElem?_eq_getElem eh⟩;have rT:=List.mem_of_getElem? hp;have aaX:=gB p rT;refine Split.yes (decide_eq_true (by omega)) ?_;refine L.hl.load (i:=(i:Int)) (by omega) hp ?_;intro qx;obtain⟨tq,j0,kz⟩:=iL (w:=w') (z:=(CF 0)) (cs:=p.1) (t:=al) (by rw [p.2.1];rfl);refine⟨⟨p.2.1,p.2.one,fun j hj=>tq j (by rw [p.2.1];exact hj)⟩,?_⟩;intro rP
 replace j0:rP.heap[w'.heap.size]? =some (.cells p.1 al (0,0)):=j0
 replace rQ:Kept Nil w' rP:=kz
 clear_value rP;refine⟨some ⟨g,0,none⟩,by rw [aE (rQ.heap L.YF (fun h=>h))];rfl,p.1,⟨p.2.1,Cells.bV j0⟩,?_⟩;refine wi (L.G.same rQ) p fun w40 x k40 hx=>⟨x,rfl,?_⟩;rcases hx with⟨rfl,mG⟩|⟨q,nd,m',hq,gA,nN,rfl⟩
 ·exact absurd aaX mG
 intro Hm;have K7:Kept Nil w' Hm:=(rQ.tt k40).drew;have I3:Hm.heap[w'.heap.size]? =some (.cells p.1 al (0,0)):=k40.heap j0 (fun h=>h);clear_value Hm;have aiH:=K7.size;have YW:=L.G.same K7;obtain⟨m,hm,R8⟩:=YW.get hq;rw [nN]at hm;cases hm;have P0:=K7.heap L.node (fun h=>h);have Ac:lE Hm nb rA rn rc ws:=Row.aJ L.row K7 (fun _ _ h=>h);refine⟨rA,rn,rc,by rw [bC,Nat.zero_add,aE P0];exact Av _ _,?_⟩;refine⟨_,_,_,xK R8,some ⟨g,0,none⟩,by rw [aE (K7.heap L.YF (fun h=>h))];rfl,?_⟩;refine⟨some mb,YW.at_,p.1,⟨p.2.1,Cells.bV I3⟩,_,YW.map.xT p,?_⟩;rw [show pos p (ids D) 0=some q by rw [<-gA];exact W.pos_eq hq,Option.getD_some];have Lr:=(lgeS hq).1;have wF:=R8.small;have aiv:=L.small;have hrA:∀k,bG rA=some k->nb<=k/\k<w'.heap.size:=fun k hk=>by
  obtain⟨h1,cur,hc⟩:=Row.bV L.row hk;exact⟨h1,aY hc⟩
 have abb:nb<w'.heap.size:=aY L.node;have Mx:∀ {v:World} {A:Option Addr} {n c:Nat} {l:List Nat} {B:Nat},lE v B A n c l->∀ {k:Nat} {cs:Array Value} {t:TypeId},v.heap[k]? =some (.cells cs t (0,0))->t≠gz->¬bG A=some k:=fun hr _ _ _ hk fP e=>by
  obtain⟨_,cur,hc⟩:=Row.bV hr e;exact kM hk hc fP rfl
 refine xF Ac L.ok (by omega) (by omega) R8.past R8.ok (by omega) (fun a ha k hk e=>?_) fun A2 n2 c2 l2 Mu tO aa6 ajd QA H8 acs=>⟨A2,n2,c2,rfl,?_⟩
 ·have h1:=G9 a.block (R8.pT a ha)
  have h2:=(hrA k hk).1;omega
 have hnF:∀k,F1 k->¬bG rA=some k:=fun k hk e=>by have:=G9 k hk;have:=(hrA k e).1;omega
 have G52:=YW.aJ H8 (fun k hk e=>L.Zu k e hk) hnF;have VV:=H8.heap I3 (Mx Ac I3 (by decide));have Vr:=K7.heap L.YF (fun h=>h);have Qm:=H8.heap Vr (Mx Ac Vr (by decide));have Vi:=K7.heap L.ibx (fun h=>h);have Vh:=H8.heap Vi (Mx Ac Vi (by decide));have Ns:=H8.heap P0 (Mx Ac P0 (by decide));have aiG:=H8.size;have U5:=G52.map.xT p;rw [show pos p (ids D) 0=some q by rw [<-gA];exact W.pos_eq hq,Option.getD_some]at U5;refine⟨U5,⟨p.1,rfl,p.2.1,Cells.bV VV⟩,G52.at_,by rw [aE Qm];rfl,?_⟩;have WM:∀k,bG A2=some k->bG rA=some k\/Hm.heap.size<=k:=acs;refine z7 tO aa6 (by omega) (by omega) (by omega) fun A3 n3 c3 l3 qZ xG aa5 ajc Qz F7 QD=>⟨A3,n3,c3,rfl,?_⟩;have CR:∀k,bG A2=some k->¬S' k:=fun k hk hs=>by
  rcases WM k hk with h|h
  ·exact L.Zu k h hs
  ·have:=L.G.low k (.inl hs);omega
 have IN:∀k,F1 k->¬bG A2=some k:=fun k hf hk=>by
  have:=G9 k hf;have:=(Row.bV tO hk).1;omega
 have G55:=G52.aJ F7 (fun k hk e=>CR k e hk) IN;have LI:=F7.heap Qm (Mx tO Qm (by decide));have Vg:=F7.heap Vh (Mx tO Vh (by decide));have AZ:=F7.heap Ns (Mx tO Ns (by decide));have aiF:=F7.size;have ae5:=vw h ⟨nb,pA,l.length,pc,none,0,0,rA,rn,rc,ws⟩;refine⟨by rw [bC,Nat.zero_add];exact dN AZ (by omega),?_⟩;intro w57 Hk;have K6:Kept (· =nb) qZ w57:=by
  show Kept (· =nb) qZ (qZ.setCell ((⟨nb,0,none⟩:Addr).add 34) (.slice A3 n3 c3))
  exact Kept.setCell (S:=fun k=>k=nb) (Kept.refl _ qZ) (by rw [fg];exact fun _=>rfl) _
 have UL:w57.heap[nb]? =some (.cells (gD h ⟨nb,pA,l.length,pc,none,0,0,A3,n3,c3,l3⟩) dZ (0,0)):=by
  show(qZ.setCell ((⟨nb,0,none⟩:Addr).add 34) (.slice A3 n3 c3)).heap[nb]? =_;rw [bC,Nat.zero_add,dp AZ 34,Ar];rfl
 have H7:Kept (· =nb) qZ Hk:=K6.drew;have UK:Hk.heap[nb]? =some (.cells (gD h ⟨nb,pA,l.length,pc,none,0,0,A3,n3,c3,l3⟩) dZ (0,0)):=UL;clear_value Hk;clear UL K6;have aiE:=H7.size;have G58:=G55.aJ H7 (fun k hk e=>L.Zv (e▸hk)) (fun k hk e=>by have:=G9 k hk;omega);have Vq:=H7.heap LI (kM LI AZ (by decide));have Qi:=H7.heap Vg (kM Vg AZ (by decide));have Sy:lE Hk nb A3 n3 c3 l3:=Row.aJ xG H7 (fun k hk e=>by
  subst e;exact Mx xG AZ (by decide) hk)
 obtain⟨m,hm,N58⟩:=G58.get hq;rw [nN]at hm;cases hm;refine⟨m'.cA,m'.cn,m'.cc,Ef N58,h.1,⟨h.2.1,Cells.bV Qi⟩,h.2.1,?_⟩;intro Xu;have ZQ:Kept Nil Hk Xu:=(Kept.refl _ _).alloc _;have Qy:HS Xu (some ⟨Hk.heap.size,0,none⟩) 1 [h]:=jF Hk h;clear_value Xu;have G62:=G58.same ZQ;obtain⟨m,hm,R7⟩:=G62.get hq;rw [nN]at hm;cases hm;refine⟨Ef R7,?_⟩;have VN:=R7.ch.len;have EC:jt D h (l.take i) nd.id=iu D p:=by
  unfold jt;rw [gA,if_neg];intro ji;obtain⟨j,hj⟩:=List.mem_iff_getElem?.1 ji;rw [List.getElem?_take]at hj;split at hj
  ·have:=uM.get (by omega) hj hp
   rw [jl]at this;cases this
  ·cases hj
 have rU:=nY D fun a=>oz D p a;have Yo:m'.cn<=10000:=by
  rw [<-VN,EC];unfold iu;omega
 obtain⟨A7,c7,GX,aaG,Sx,abH,acq⟩:=dc (cx:=1) aF R7.ch Qy (by omega) (Nat.zero_le _);have F5:Kept (fun k=>bG m'.cA=some k) Xu GX:=Kept.grown (Kept.refl _ _) abH (fun k hk _=>hk);refine⟨A7,_,c7,GX,aaG,?_⟩;have aiD:=ZQ.size;have T5:=F5.size;refine iP Sx.hs (by omega) fun A5 c5 Oq HH ZP=>⟨A5,_,c5,rfl,?_⟩;have aiC:=ZP.size;have UT:=F5.heap R7.bV (fun e=>by
  obtain⟨_,cur,hc⟩:=Row.bV R7.ch e;exact kM R7.bV hc (by decide) rfl)
 have IS:=ZP.heap UT (fun h=>h);refine⟨by rw [bC,Nat.zero_add];exact dN IS (by rw [vw];omega),?_⟩;intro DP;have Tp:Kept (· =m'.b) Oq DP:=by
  show Kept (· =m'.b) Oq (Oq.setCell ((⟨m'.b,0,none⟩:Addr).add 33) (.slice A5 (dB (jt D h (l.take i) nd.id++ [h])).length c5))
  exact Kept.setCell (S:=fun k=>k=m'.b) (Kept.refl _ Oq) (by rw [fg];exact fun _=>rfl) _
 have UR:DP.heap[m'.b]? =some (.cells (gD nd.id {m' with cA:=A5,cn:=(dB (jt D h (l.take i) nd.id++ [h])).length,cc:=c5}) dZ (0,0)):=by
  show(Oq.setCell ((⟨m'.b,0,none⟩:Addr).add 33) (.slice A5 (dB (jt D h (l.take i) nd.id++ [h])).length c5)).heap[m'.b]? =_;rw [bC,Nat.zero_add,dp IS 33,Au]
 clear_value DP;have kT:Kept (fun k=>bG m'.cA=some k\/k=m'.b) Hk DP:=
  (((ZQ.mono (S':=fun k=>bG m'.cA=some k\/k=m'.b) (fun _ _ h=>h.elim)).trans F5 (fun _ _ h=>.inl h)).trans ZP (fun _ _ h=>h.elim)).trans Tp (fun _ _ h=>.inr h)
 have IE:cC DP Hk.heap.size A5 (dB (jt D h (l.take i) nd.id++ [h])).length c5 (dB (jt D h (l.take i) nd.id++ [h])):=
  Row.base (Row.aJ HH Tp (fun k hk e=>by
   subst e;obtain⟨_,cur,hc⟩:=Row.bV HH hk;exact kM IS hc (by decide) rfl)) (fun k hk=>by have:=(Row.bV HH hk).1;omega)
 have G69:=G58.upd W hq nN kT UR IE;have Gs:∀k,bG A5=some k->Hk.heap.size<=k:=fun k hk=>(Row.bV IE hk).1;have RU:∀k,(bG m'.cA=some k\/k=m'.b)->S' k:=fun k e=>by
  rcases e with e|rfl
  ·exact N58.Q0 k e
  ·exact N58.gM
 have hkf:(fun x=>if x=nd.id then dB (jt D h (l.take i) nd.id++ [h])else jt D h (l.take i) x)=jt D h (l.take (i+1)):=by
  funext x
  by_cases hx:x=nd.id
  ·rw [if_pos hx,EC,hx,gA]
   unfold jt;rw [if_pos ((bT hp).2 (.inr rfl))]
  ·rw [if_neg hx]
   unfold jt;have:x∈l.take (i+1)↔x∈l.take i:=by
    rw [bT hp];exact⟨fun e=>e.resolve_right (fun e=>hx (by rw [gA];exact e)),.inl⟩
   by_cases hm:x∈l.take i
   ·rw [if_pos hm,if_pos (this.2 hm)]
   ·rw [if_neg hm,if_neg (fun e=>hm (this.1 e))]
 rw [hkf]at G69;rw [dH (n:=(i:Int)) (by omega) (by omega)];have aff:nb<Hk.heap.size:=aY UK;have lS:Kept S w0 DP:=by
  have k1:=L.kp.trans K7 (fun _ _ h=>h.elim);have k2:=k1.trans H8 (fun k hk e=>absurd (hrA k e).1 (by omega));have k3:=k2.trans F7 (fun k hk e=>absurd (Row.bV tO e).1 (by omega));have k4:=k3.trans H7 (fun k hk e=>by omega);exact k4.trans kT (fun k hk e=>by
   rcases L.new k (RU k e)with h|h
   ·exact h
   ·omega)
 refine hQ _ _ A3 n3 c3 l3 DP ⟨G69,fun k hk=>.inl (L.sub k hk),fun k hk=>?_,kT.heap UK (fun e=>L.Zv (RU _ e)),fun e=>?_,Row.aJ Sy kT (fun k hk e=>?_),aa5,by omega,fun k hk e=>?_,fun j=>?_,
  kT.heap Vq (fun e=>L.noG (RU _ e)),kT.heap Qi (fun e=>L.noI (RU _ e)),fun e=>?_,fun e=>?_,?_,lS⟩
 ·rcases hk with hk|hk
  ·exact L.new k hk
  ·have:=Gs k hk
   have:=L.kp.size;exact .inr (by omega)
 ·rcases e with e|e
  ·exact L.Zv e
  ·have:=Gs _ e;omega
 ·have hs:=RU k e
  rcases QD k hk with h|h
  ·exact CR k h hs
  ·have:=L.G.low k (.inl hs);omega
 ·have hk3:k<qZ.heap.size:=by
   obtain⟨_,cur,hc⟩:=Row.bV xG hk;exact aY hc
  rcases e with e|e
  ·rcases QD k hk with h|h
   ·exact CR k h e
   ·have:=L.G.low k (.inl e);omega
  ·have:=Gs _ e;omega
 ·rw [Qz,Bool.or_eq_true,QA,Bool.or_eq_true,L.bits,R8.bits,decide_eq_true_iff]
  constructor
  ·rintro((⟨p',h1,h2⟩|⟨nj,h1,h2⟩)|rfl)
   ·exact⟨p',(bT hp).2 (.inl h1),h2⟩
   ·exact⟨p,(bT hp).2 (.inr rfl),nj,h1,.inr (gA▸h2)⟩
   ·exact⟨p,(bT hp).2 (.inr rfl),nd,hq,.inl gA⟩
  ·rintro⟨p',h1,nj,h2,h3⟩
   rcases(bT hp).1 h1 with h1|rfl
   ·exact .inl (.inl ⟨p',h1,nj,h2,h3⟩)
   ·rcases h3 with h3|h3
    ·exact .inr (W.inj h2 hq (h3.trans gA.symm))
    ·exact .inl (.inr ⟨nj,h2,gA▸h3⟩)
 ·rcases e with e|e
  ·exact L.noG e
  ·have:=Gs _ e;have:=aY Vq;omega
 ·rcases e with e|e
  ·exact L.noI e
  ·have:=Gs _ e;have:=aY Qi;omega
 ·have hb:∀a,pA=some a->F1 a.block/\a.block<nb:=fun a ha=>⟨Ke a ha,G9 _ (Ke a ha)⟩
  have k1:=L.hl.same K7;have k2:=k1.aJ H8 (fun a ha=>hnF _ (hb a ha).1);have k3:=k2.aJ F7 (fun a ha=>IN _ (hb a ha).1);have k4:=k3.aJ H7 (fun a ha e=>by have:=(hb a ha).2;omega);exact k4.aJ kT (fun a ha e=>L.G.Hb _ (RU _ e) (hb a ha).1)
end
theorem Sq:zD prog mr fG 1 8:=⟨by kernel_rfl,by kernel_rfl⟩
theorem Jv:R4 prog dZ=some ([(0,32),(32,1),(33,1),(34,1)],List.replicate 32 (.int .u8 0)++ [.slice none 0 0,.slice none 0 0,.slice none 0 0]):=by kernel_rfl
theorem Jt(h:HT)(b:Nat)(A:Option Addr)(n c:Nat):prog.built dZ [(0,.agg h.1),(1,.slice A n c)]=some (gD h ⟨b,A,n,c,none,0,0,none,0,0,[]⟩):=by
 have hs:=h.2.1;rw [ow Jv,js (off:=0) (size:=32) rfl (by simpa [Value.cells]using hs) (by simp),js (off:=32) (size:=1) rfl rfl (by
  rw [List.size_toArray,mJ (by simp [Value.cells,hs])];simp)]
 simp only [Instr.fill,Option.some.injEq];apply Array.ext';unfold iC gD;simp [Value.cells,hs];rw [List.drop_append];simp [hs]
theorem GH(h:HT)(b:Nat):prog.built dZ [(0,.agg h.1)]=some (gD h ⟨b,none,0,0,none,0,0,none,0,0,[]⟩):=by
 have hs:=h.2.1;rw [ow Jv,js (off:=0) (size:=32) rfl (by simpa [Value.cells]using hs) (by simp)];simp only [Instr.fill,Option.some.injEq];apply Array.ext';unfold iC gD;simp [Value.cells,hs]
section
variable{D:DG}{h:HT}{l:List HT}
theorem Ds(W:jX D)(hn:h∉ids D){x:HT}:jt D h l x=iu (D++ [⟨h,l⟩]) x:=by
 have ji:∀a,a∈iu (D++ [⟨h,l⟩]) x↔(a∈iu D x\/(a=h/\x∈l)):=fun a=>by
  unfold iu;rw [ki,ki,nZ,lT,List.mem_append,List.mem_singleton];constructor
  ·rintro⟨h1,h2|⟨h2,h3⟩⟩
   ·exact .inl ⟨(fw.mem W (.one h2)).2,h2⟩
   ·exact .inr ⟨h2.symm,h3⟩
  ·rintro(⟨h1,h2⟩|⟨rfl,h2⟩)
   ·exact⟨.inl h1,.inl h2⟩
   ·exact⟨.inr rfl,.inr ⟨rfl,h2⟩⟩
 unfold jt;by_cases tZ:x∈l
 ·rw [if_pos tZ]
  refine(yy (l:=iu (D++ [⟨h,l⟩]) x) (ju _) fun a=>?_).symm;rw [ji,List.mem_append,List.mem_singleton];exact⟨fun e=>e.imp (fun e=>e) (fun e=>e.1),fun e=>e.imp (fun e=>e) (fun e=>⟨e,tZ⟩)⟩
 ·rw [if_neg tZ]
  refine zo (ju _) (ju _) fun a=>?_;have:=ji a;unfold iu pick at this⊢;rw [this];exact⟨.inl,fun e=>e.resolve_right (fun e=>tZ e.2)⟩
theorem GF(W:jX D)(hn:h∉ids D)(gB:∀p∈l,p∈ids D):iu (D++ [⟨h,l⟩]) h= []:=by
 cases hc:iu (D++ [⟨h,l⟩]) h with
 |nil=>rfl
 |cons b t=>
  exfalso;have:b∈iu (D++ [⟨h,l⟩]) h:=by rw [hc];simp
  rcases nZ.1 (ki.1 this).2 with h1|⟨_,h2⟩
  ·exact hn (fw.mem W (.one h1)).1
  ·exact hn (gB h h2)
theorem Jw(W:jX D)(hn:h∉ids D){x:HT}(hx:x∈ids D)(j:Nat):(∃nj,(D++ [⟨h,l⟩])[j]? =some nj/\fw (D++ [⟨h,l⟩]) nj.id x)↔∃nj,D[j]? =some nj/\fw D nj.id x:=by
 constructor
 ·rintro⟨nj,h1,h2⟩
  have vU:=(jI W (nd:=⟨h,l⟩) hn hx).1 h2;rw [List.getElem?_append]at h1;split at h1
  ·exact⟨nj,h1,vU⟩
  ·exfalso
   have:nj=⟨h,l⟩:=by
    cases hk:j-D.length with
    |zero=>rw [hk]at h1;simpa using h1.symm
    |succ k=>rw [hk]at h1;simp at h1
   subst this;exact hn (vU.mem W).1
 ·rintro⟨nj,h1,h2⟩
  exact⟨nj,by rw [List.getElem?_append_left (lgeS h1).1];exact h1,(jI W (nd:=⟨h,l⟩) hn hx).2 h2⟩
theorem Jx(W:jX D)(hn:h∉ids D)(gB:∀p∈l,p∈ids D)(hs:SS l)(j:Nat):
 (∃nj,(D++ [⟨h,l⟩])[j]? =some nj/\fw (D++ [⟨h,l⟩]) nj.id h)↔∃p∈l,∃nj,D[j]? =some nj/\(nj.id=p\/fw D nj.id p):=by
 have W':jX (D++ [⟨h,l⟩]):=W.snoc (nd:=⟨h,l⟩) hn gB hs;have gR:(D++ [⟨h,l⟩])[D.length]? =some ⟨h,l⟩:=by rw [List.getElem?_append_right (Nat.le_refl _),Nat.sub_self];rfl
 have key:∀a,fw (D++ [⟨h,l⟩]) a h↔∃p∈l,a=p\/fw D a p:=fun a=>by
  rw [EP W' gR a];constructor
  ·rintro⟨p,hp,e⟩
   exact⟨p,hp,e.imp (fun e=>e) (fun e=>(jI W (nd:=⟨h,l⟩) hn (gB p hp)).1 e)⟩
  ·rintro⟨p,hp,e⟩
   exact⟨p,hp,e.imp (fun e=>e) (fun e=>(jI W (nd:=⟨h,l⟩) hn (gB p hp)).2 e)⟩
 constructor
 ·rintro⟨nj,h1,h2⟩
  obtain⟨p,hp,e⟩:=(key _).1 h2;have hid:nj.id∈ids D:=by
   rcases e with e|e
   ·rw [e];exact gB p hp
   ·exact(e.mem W).1
  rw [List.getElem?_append]at h1;split at h1
  ·exact⟨p,hp,nj,h1,e⟩
  ·exfalso
   have:nj=⟨h,l⟩:=by
    cases hk:j-D.length with
    |zero=>rw [hk]at h1;simpa using h1.symm
    |succ k=>rw [hk]at h1;simp at h1
   subst this;exact hn hid
 ·rintro⟨p,hp,nj,h1,e⟩
  exact⟨nj,by rw [List.getElem?_append_left (lgeS h1).1];exact h1,(key _).2 ⟨p,hp,e⟩⟩
end
section
variable{w w':World}{S F F':Nat->Prop}{g bl c mb:Nat}{D:DG}{C:HT->List HT}{M:List NM}{K:Value->World->Prop}
theorem GV.SN(G:GV w S F g D C bl c mb M)(hf:∀k,F k->F' k)(hd:∀k,S k->¬F' k)(hl:∀k,F' k->k<w.heap.size):GV w S F' g D C bl c mb M:=
 ⟨G.top,G.row,G.map,G.len,fun i nd m h1 h2=>by
   have N:=G.node i nd m h1 h2;exact⟨N.bV,N.gM,N.ps,fun a ha=>hf _ (N.KH a ha),N.ch,N.Q0,N.past,fun a ha=>hf _ (N.pT a ha),N.ok,N.bits,N.small⟩,G.apart,G.iS,G.ui,G.v8,hd,fun k hk=>hk.elim (fun h=>G.low k (.inl h)) (hl k)⟩
theorem Mr{w0:World}{F1 S':Nat->Prop}{h:HT}{l:List HT}{gb ib nb:Nat}{pA:Option Addr}{pc i:Nat}{rA:Option Addr}{rn rc:Nat}{ws:List Nat}
 (L:AL w0 w S F1 S' g D h l gb ib nb pA pc i bl c mb M rA rn rc ws) (W:jX D) (hD:D.length<=5000) (uM:SS l) (gB:∀p∈l,p∈ids D) (hn:h∉ids D) (G9:∀k,F1 k->k<nb) (Ke:∀a,pA=some a->F1 a.block) (h0:w0.heap.size<=nb) (eh:l.length<=i)
 (hK:∀v S2 F2,DK v S2 F2 g (D++ [⟨h,l⟩])->Kept S w0 v->(∀k,S2 k->S k\/w0.heap.size<=k)->(∀k,F2 k->F1 k\/w0.heap.size<=k)->K (.int .i64 0) v):
 bN.GR ⟨gb,0,none⟩ ⟨ib,0,none⟩ 0 ⟨nb,0,none⟩ pA l.length pc (l.length:Int) (i:Int) K w:=by
 have Kb:l.take i=l:=List.take_of_length_le eh;have hG:=L.G;rw [Kb]at hG;have NL:=L.bits;rw [Kb]at NL;unfold bN.GR;intro Ri;have MN:Kept Nil w Ri:=(Kept.refl _ _).drew;clear_value Ri;have uQ:=hG.same MN;have LH:=MN.heap L.YF (fun h=>h);have IP:=MN.heap L.node (fun h=>h);have D3:lE Ri nb rA rn rc ws:=Row.aJ L.row MN (fun _ _ h=>h);refine⟨some ⟨g,0,none⟩,by rw [aE LH];rfl,some mb,uQ.at_,h.1,⟨h.2.1,Cells.bV (MN.heap L.ibx (fun h=>h))⟩,some ⟨g,0,none⟩,by rw [aE LH];rfl,?_⟩;refine⟨_,_,_,uQ.nodes,?_⟩;obtain⟨w85,Ud,SY,k85⟩:=uQ.map.put hn;rw [iI]at Ud;refine⟨w85,Ud,?_⟩;intro Kv;have O4:Kept (· =mb) Ri Kv:=k85.drew;have MI:IsMap Kv mb (ids D++ [h]):=SY.aJ ((Kept.refl Nil w85).drew) (fun h=>h);clear_value Kv;have Ky:∀ {v:World} {k:Nat} {cs:Array Value} {t:TypeId},IsMap v mb (ids D)->v.heap[k]? =some (.cells cs t (0,0))->k≠mb:=fun hm hk e=>by
  obtain⟨es,clock,Lz,_⟩:=hm.ex;rw [e,Lz]at hk;cases hk
 have Ql:=O4.heap LH (Ky uQ.map LH);have ajb:=O4.heap IP (Ky uQ.map IP);have Iu:=O4.heap uQ.top (Ky uQ.map uQ.top);have Sw:Row Kv 0 fG 1 (some ⟨bl,0,none⟩) D.length c (M.map fun m=>.pointer (some ⟨m.b,0,none⟩)):=Row.aJ uQ.row O4 (fun k hk e=>by
  obtain⟨_,cur,hc⟩:=Row.bV uQ.row hk;exact Ky uQ.map hc e)
 have Zo:lE Kv nb rA rn rc ws:=Row.aJ D3 O4 (fun k hk e=>by
  obtain⟨_,cur,hc⟩:=Row.bV D3 hk;exact Ky uQ.map hc e)
 refine⟨some ⟨g,0,none⟩,by rw [aE Ql];rfl,some ⟨g,0,none⟩,by rw [aE Ql];rfl,?_⟩;refine⟨some ⟨bl,0,none⟩,D.length,c,by rw [add_zero,aE Iu];rfl,?_⟩;intro On;have Rw:Kept Nil Kv On:=(Kept.refl _ _).alloc _;have aco:On.heap[Kv.heap.size]? =some (.cells #[.pointer (some ⟨nb,0,none⟩)] fG (0,0)):=aM Kv _;clear_value On;have LG:=Rw.heap Ql (fun h=>h);have CG:=Rw.heap Iu (fun h=>h);refine⟨by rw [add_zero,aE CG];rfl,by rw [aE LG];rfl,by rw [aE LG];rfl,?_⟩;have HF:Row On 0 fG 1 (some ⟨bl,0,none⟩) D.length c (M.map fun m=>.pointer (some ⟨m.b,0,none⟩)):=Row.aJ Sw Rw (fun _ _ h=>h);obtain⟨YZ,R1,Om,aaE,HE,Vl,acn⟩:=fR (P:=prog) (t:=mr) (ty:=mr) (bytes:=8) Sq HF (a:=⟨Kv.heap.size,0,none⟩) (m:=1) (cx:=1) (news:= [.pointer (some ⟨nb,0,none⟩)]) rfl
  (fun j u hj=>by rw [bC,Nat.zero_add,aE aco];simpa using hj) (fun u hu=>by simp at hu;subst hu;rfl) (by omega) (by unfold maxLen;omega) (Nat.zero_le _)
 have XG:Kept (· =bl) On Om:=Kept.grown (S:=fun k=>k=bl) (Kept.refl _ _) Vl (fun k hk _=>by cases hk;rfl);refine⟨YZ,_,R1,Om,aaE,?_⟩;have tyL:∀ {k:Nat} {cs:Array Value} {t:TypeId},On.heap[k]? =some (.cells cs t (0,0))->t≠fG->k≠bl:=fun hk fP=>by
  obtain⟨_,cur,hc⟩:=Row.bV HF (k:=bl) rfl;exact kM hk hc fP
 have abG:=XG.heap LG (tyL LG (by decide));have yS:=XG.heap CG (tyL CG (by decide));refine⟨by rw [aE abG];rfl,by rw [add_zero];exact dN yS (by simp),?_⟩;intro JO;have ZN:Kept (· =g) Om JO:=by
  show Kept (· =g) Om (Om.setCell ((⟨g,0,none⟩:Addr).add 0) (.slice YZ (D.length+1) R1))
  exact Kept.setCell (S:=fun k=>k=g) (Kept.refl _ Om) (by rw [fg];exact fun _=>rfl) _
 have PC:JO.heap[g]? =some (.cells #[.slice YZ (D.length+1) R1,.map (some mb)] iM (0,0)):=by
  show(Om.setCell ((⟨g,0,none⟩:Addr).add 0) (.slice YZ (D.length+1) R1)).heap[g]? =_;rw [add_zero,dp yS 0];rfl
 clear_value JO;obtain⟨R6,rfl⟩:=Row.some HE (by omega);have aiA:=O4.size;have aiz:=Rw.size;have lS:Kept (fun k=>k=g\/k=bl\/k=mb) Ri JO:=
  (((O4.mono (S':=fun k=>k=g\/k=bl\/k=mb) (fun _ _ h=>.inr (.inr h))).trans Rw (fun _ _ h=>h.elim)).trans XG (fun _ _ h=>.inr (.inl h))).trans ZN (fun _ _ h=>.inl h)
 have hTF:∀k,F1 k->¬(k=g\/k=bl\/k=mb):=fun k hk e=>by
  rcases e with rfl|rfl|rfl
  ·exact uQ.Hb _ uQ.iS hk
  ·exact uQ.Hb _ uQ.ui hk
  ·exact uQ.Hb _ uQ.v8 hk
 have ty:∀ {k:Nat} {cs:Array Value} {t:TypeId},Ri.heap[k]? =some (.cells cs t (0,0))->t≠iM->t≠fG->¬(k=g\/k=bl\/k=mb):=fun hk h1 h2 e=>by
  rcases e with e|e|e
  ·rw [e]at hk
   exact kM hk uQ.top h1 rfl
  ·rw [e]at hk
   obtain⟨_,cur,hc⟩:=Row.bV uQ.row (k:=bl) rfl;exact kM hk hc h2 rfl
  ·exact Ky uQ.map hk e
 have CJ:Row JO 0 fG 1 (some ⟨R6,0,none⟩) (D.length+1) R1 ((M.map fun m=>.pointer (some ⟨m.b,0,none⟩))++ [.pointer (some ⟨nb,0,none⟩)]):=Row.aJ HE ZN (fun k hk e=>by
  obtain⟨_,cur,hc⟩:=Row.bV HE hk;exact kM hc yS (by decide) e)
 have SV:IsMap JO mb (ids D++ [h]):=by
  obtain⟨es,clock,Lz,_⟩:=MI.ex;have h1:=MI.aJ Rw (fun h=>h);have h2:=h1.aJ XG (fun e=>by
   obtain⟨_,cur,hc⟩:=Row.bV HF (k:=bl) rfl;obtain⟨_,_,nN,_⟩:=h1.ex;rw [e,hc]at nN;cases nN)
  exact h2.aJ ZN (fun e=>by
   obtain⟨_,_,nN,_⟩:=h2.ex;rw [e,yS]at nN;cases nN)
 have PZ:=lS.heap IP (ty IP (by decide) (by decide));have yB:lE JO nb rA rn rc ws:=Row.aJ D3 lS (fun k hk e=>by
  obtain⟨_,cur,hc⟩:=Row.bV D3 hk;exact ty hc (by decide) (by decide) e)
 have IT:(D++ [(⟨h,l⟩:DN)]).length=D.length+1:=by simp
 have We:R6=bl\/On.heap.size<=R6:=by
  rcases acn R6 rfl with e|e
  ·exact .inl (by cases e;rfl)
  ·exact .inr e
 have mF:=L.kp.size;have aiB:=MN.size;have abb:=aY IP;have Uc:∀k,bG rA=some k->nb<=k/\k<JO.heap.size:=fun k hk=>by
  obtain⟨h1,cur,hc⟩:=Row.bV yB hk;exact⟨h1,aY hc⟩
 have gR:∀ {X:Type} (xs:List X) (y:X) (j:Nat) (z:X),(xs++ [y])[j]? =some z->(j<xs.length/\xs[j]? =some z)\/(j=xs.length/\z=y):=fun xs y j z e=>by
  rw [List.getElem?_append]at e;split at e
  ·rename_i dg;exact .inl ⟨dg,e⟩
  ·rename_i gK
   cases hk:j-xs.length with
   |zero=>rw [hk]at e;exact .inr ⟨by omega,by simpa using e.symm⟩
   |succ k=>rw [hk]at e;simp at e
 refine hK JO (fun k=>S' k\/k=nb\/k=R6) (fun k=>F1 k\/bG rA=some k) ⟨R6,R1,mb,M++ [⟨nb,pA,l.length,pc,none,0,0,rA,rn,rc,ws⟩],?_⟩ ?_ ?_ ?_
 ·refine⟨by rw [IT];exact PC,?_,by rw [lT];exact SV,by simp [hG.len],fun j nd m h1 h2=>?_,fun j j' m m' h1 h2 fP k hk oW=>?_,.inl hG.iS,.inr (.inr rfl),.inl hG.v8,fun k hk hf=>?_,fun k hk=>?_⟩
  ·rw [IT,List.map_append]
   exact CJ
  ·rcases gR _ _ _ _ h1 with⟨hj,uf⟩|⟨hj,rfl⟩
   ·rcases gR _ _ _ _ h2 with⟨_,vU⟩|⟨vN,_⟩
    ·have N:=uQ.node j nd m uf vU
     have hid:nd.id∈ids D:=dI.2 ⟨nd,List.mem_of_getElem? uf,rfl⟩;have hF:∀k,F1 k->¬(k=g\/k=bl\/k=mb):=hTF;rw [<-Ds W hn];refine⟨lS.heap N.bV (ty N.bV (by decide) (by decide)),.inl N.gM,N.ps.aJ lS (fun a ha=>hF _ (N.KH a ha)),fun a ha=>.inl (N.KH a ha),Row.aJ N.ch lS (fun k hk e=>?_),fun k hk=>.inl (N.Q0 k hk),N.past.aJ lS (fun a ha=>hF _ (N.pT a ha)),fun a ha=>.inl (N.pT a ha),N.ok,fun j=>?_,N.small⟩
     ·obtain⟨cur,hc⟩:=(Row.bV N.ch hk).2
      exact ty hc (by decide) (by decide) e
     ·rw [N.bits,Jw W hn hid]
    ·rw [hG.len]at vN;omega
   ·rcases gR _ _ _ _ h2 with⟨vN,_⟩|⟨_,rfl⟩
    ·rw [hG.len]at vN;omega
    ·rw [GF W hn gB]
     refine⟨PZ,.inr (.inl rfl),(L.hl.same MN).aJ lS (fun a ha=>hTF _ (Ke a ha)),fun a ha=>.inl (Ke a ha),cC.nil _ _,(fun k hk=>by cases hk),yB.us,fun a ha=>.inr (congrArg bG ha),L.ok,fun j=>?_,L.small⟩;rw [NL,Jx W hn gB uM]
  ·rcases gR _ _ _ _ h1 with⟨_,uf⟩|⟨_,rfl⟩
   ·rcases gR _ _ _ _ h2 with⟨_,vU⟩|⟨_,rfl⟩
    ·exact hG.apart j j' m m' uf vU fP k hk oW
    ·cases oW
   ·cases hk
  ·rcases hk with hk|rfl|rfl
   ·rcases hf with hf|hf
    ·exact hG.Hb k hk hf
    ·exact L.Zu k hf hk
   ·rcases hf with hf|hf
    ·have:=G9 k hf;omega
    ·obtain⟨_,cur,hc⟩:=Row.bV yB hf
     exact kM PZ hc (by decide) rfl
   ·rcases hf with hf|hf
    ·rcases We with e|e
     ·rw [e]at hf;exact hG.Hb _ hG.ui hf
     ·have:=G9 _ hf;omega
    ·obtain⟨_,cur,hc⟩:=Row.bV yB hf
     obtain⟨_,W7,vS⟩:=Row.bV CJ (k:=k) rfl;exact kM vS hc (by decide) rfl
  ·have aiy:=lS.size
   rcases hk with(hk|rfl|rfl)|hk|hk
   ·have:=uQ.low k (.inl hk);omega
   ·exact aY PZ
   ·obtain⟨_,W7,vS⟩:=Row.bV CJ (k:=k) rfl
    exact aY vS
   ·have:=uQ.low k (.inr hk);omega
   ·exact(Uc k hk).2
 ·exact(L.kp.trans MN (fun _ _ h=>h.elim)).trans lS (fun k hk e=>by
   have hs:S' k:=by
    rcases e with rfl|rfl|rfl
    ·exact hG.iS
    ·exact hG.ui
    ·exact hG.v8
   rcases L.new k hs with h|h
   ·exact h
   ·omega)
 ·intro k hk
  rcases hk with hk|rfl|rfl
  ·exact L.new k hk
  ·exact .inr h0
  ·rcases We with e|e
   ·rw [e];exact L.new _ hG.ui
   ·exact .inr (by omega)
 ·intro k hk
  rcases hk with hk|hk
  ·exact .inl hk
  ·exact .inr (by have:=(Uc k hk).1;omega)
theorem Mg(G:GV w S F g D (iu D) bl c mb M)(W:jX D)(hD:D.length<=5000){A:Option Addr}{n cx:Nat}{lp:List HT}(hl:HS w A n lp)(hn:n<=10000)(h:HT)
 (hK:∀v S2 F2,DK v S2 F2 g (mo D h lp)->Kept S w v->(∀k,S2 k->S k\/w.heap.size<=k)->(∀k,F2 k->F k\/w.heap.size<=k)->K (.int .i64 (dR D h lp)) v):
 bD prog bN.id #[.pointer (some ⟨g,0,none⟩),.agg h.1,.slice A n cx] w K:=by
 have hlen:=hl.len;have mG:∀v,Kept Nil w v->∀e,dR D h lp=e->e≠0->K (.int .i64 e) v:=fun v k e he fP=>by
  have:=hK v S F ?_ (k.mono fun _ _ h=>h.elim) (fun _ h=>.inl h) (fun _ h=>.inl h)
  ·rw [he]at this;exact this
  ·unfold mo
   rw [if_neg (by rw [he];exact fP)];exact⟨bl,c,mb,M,G.same k⟩
 refine bN.of ?_;unfold bN.W;intro w4 w5;have k4:Kept Nil w w4:=(Kept.refl _ _).alloc _;have EG:w4.heap[w.heap.size]? =some (.cells #[.pointer (some ⟨g,0,none⟩)] iR (0,0)):=aM w _;have k5:Kept Nil w4 w5:=(Kept.refl _ _).alloc _;have LD:w5.heap[w4.heap.size]? =some (.cells h.1 al (0,0)):=aM w4 _;have LJ:=k5.heap EG (fun h=>h);clear_value w5;have JS:Kept Nil w w5:=k4.tt k5;have Vm:w.heap.size<w4.heap.size:=aY EG;have ajD:w4.heap.size<w5.heap.size:=aY LD;clear_value w4;refine iP (hl.same JS) (by omega) fun Hf Xa w7 Ci k7=>⟨Hf,_,Xa,rfl,?_⟩;have Cx:Kept Nil w w7:=JS.tt k7;have Vp:=k7.heap LJ (fun h=>h);have hi7:=k7.heap LD (fun h=>h);have G7:=G.same Cx;have CH:(dB lp).length<=n:=by have:=oF lp;omega
 refine⟨some ⟨g,0,none⟩,by rw [aE Vp];rfl,ym G7 ⟨true,rfl,Split.no rfl ?_⟩⟩;refine⟨some ⟨g,0,none⟩,by rw [aE Vp];rfl,h.1,⟨h.2.1,Cells.bV hi7⟩,sG G7 h fun nn rz=>⟨_,rfl,?_⟩⟩;have H3:=Cx.tt rz;by_cases hm:h∈ids D
 ·refine Split.yes (decide_eq_true hm) (mG nn H3 7 ?_ (by omega))
  unfold dR;rw [if_pos hm]
 refine Split.no (decide_eq_false hm) ?_;by_cases h0:(dB lp).length=0
 ·refine Split.yes (by simp [h0]) (mG nn H3 9 ?_ (by omega))
  unfold dR;rw [if_neg hm,if_pos (.inl h0)]
 refine Split.no (beq_eq_false_iff_ne.2 (by omega)) ?_;by_cases h1:(dB lp).length≠n
 ·refine Split.yes (bne_iff_ne.2 (by omega)) (mG nn H3 9 ?_ (by omega))
  unfold dR;rw [if_neg hm,if_pos (.inr (by omega))]
 replace h1:(dB lp).length=n:=by omega
 refine Split.no (by rw [h1];simp) ?_;have Vw:=rz.heap Vp (fun h=>h);have MD:=Row.aJ Ci rz (fun _ _ h=>h);refine Bt (G.same H3) Vw (cC.hs MD) (by omega) fun pv x hx x5=>⟨x,rfl,?_⟩;have H0:=H3.tt x5;cases x with
 |true=>
  refine Split.yes rfl (mG pv H0 6 ?_ (by omega));unfold dR;rw [if_neg hm,if_neg (by omega),if_pos (hx.1 rfl)]
 |false=>
  have gB:∀p∈dB lp,p∈ids D:=fun p hp=>Classical.byContradiction fun aa9=>by have:=hx.2 ⟨p,hp,aa9⟩;cases this
  have VU:dR D h lp=0:=by
   unfold dR;rw [if_neg hm,if_neg (by omega),if_neg (fun⟨p,hp,Kc⟩=>Kc (gB p hp))]
  have Yz:mo D h lp=D++ [⟨h,dB lp⟩]:=by unfold mo;rw [if_pos VU]
  rw [VU,Yz]at hK;refine Split.no rfl ?_;have Vj:=x5.heap (rz.heap hi7 (fun h=>h)) (fun h=>h);have Qp:=x5.heap Vw (fun h=>h);have xH:cC pv w5.heap.size Hf (dB lp).length Xa (dB lp):=Row.aJ MD x5 (fun _ _ h=>h);refine⟨h.1,⟨h.2.1,Cells.bV Vj⟩,?_⟩;rw [Jt h pv.heap.size];refine Is.mk rfl ?_;intro JQ;have O8:Kept Nil pv JQ:=(Kept.refl _ _).alloc _;have abc:JQ.heap[pv.heap.size]? =some (.cells (gD h ⟨pv.heap.size,Hf,(dB lp).length,Xa,none,0,0,none,0,0,[]⟩) dZ (0,0)):=aM pv _;clear_value JQ;have Tc:=H0.tt O8;have QR:∀k,bG Hf=some k->w5.heap.size<=k/\k<pv.heap.size:=fun k hk=>by
   obtain⟨e1,cur,hc⟩:=Row.bV xH hk;exact⟨e1,aY hc⟩
  have hs5:=JS.size;have aiM:=H0.size;have G9:∀k,(F k\/bG Hf=some k)->k<pv.heap.size:=fun k hk=>by
   rcases hk with hk|hk
   ·have:=G.low k (.inr hk);omega
   ·exact(QR k hk).2
  have LZ:∀k,S k->k<w.heap.size:=fun k hk=>G.low k (.inl hk);have G23:GV JQ S (fun k=>F k\/bG Hf=some k) g D (iu D) bl c mb M:=(G.same Tc).SN (fun _ h=>.inl h) (fun k hs e=>by
   rcases e with e|e
   ·exact G.Hb k hs e
   ·have:=LZ k hs;have:=(QR k e).1;omega) (fun k hk=>by have:=G9 k hk;have:=O8.size;omega)
  have EC:jt D h ((dB lp).take 0)=iu D:=by
   funext y
   unfold jt;rw [if_neg (by simp)]
  have L0:AL w JQ S (fun k=>F k\/bG Hf=some k) S g D h (dB lp) w.heap.size w4.heap.size pv.heap.size Hf Xa 0 bl c mb M none 0 0 []:=
   ⟨by rw [EC];exact G23,fun _ h=>h,fun _ h=>.inl h,abc,fun e=>by have:=LZ _ e;omega,Row.nil _ _ _ _,by simp [okW],by omega,(fun k hk=>by cases hk),fun j=>by simp [zf],O8.heap Qp (fun h=>h),O8.heap Vj (fun h=>h),
     fun e=>by have:=LZ _ e;omega,fun e=>by have:=LZ _ e;omega,(xH.hs).same O8,Tc.mono fun _ _ h=>h.elim⟩
  refine bN.cJ (I:=fun s v=>∃(i:Nat) (S2:Nat->Prop) (M2:List NM) (rA:Option Addr) (rn rc:Nat) (ws:List Nat),s=(i:Int)/\i<=(dB lp).length/\AL w v S (fun k=>F k\/bG Hf=some k) S2 g D h (dB lp) w.heap.size w4.heap.size pv.heap.size Hf Xa i bl c mb M2 rA rn rc ws)
   (μ:=fun s _=>(((dB lp).length:Int)-s).toNat) (s:=0) ⟨0,S,M,none,0,0,[],rfl,Nat.zero_le _,L0⟩ ?_
  rintro s v ⟨i,S2,M2,rA,rn,rc,ws,rfl,hi,L⟩;have Ke:∀a,Hf=some a->F a.block\/bG Hf=some a.block:=fun a ha=>.inr (by rw [ha];rfl);by_cases eh:i<(dB lp).length
  ·refine GO L W (by omega) (ju _) gB G9 Ke (by omega) eh (by omega) fun S3 M3 rA3 rn3 rc3 ws3 v3 L3=>?_
   exact⟨(i:Int)+1,rfl,⟨i+1,S3,M3,rA3,rn3,rc3,ws3,rfl,eh,L3⟩,by simp only;omega⟩
  ·refine Split.no (decide_eq_false (by omega)) ?_
   rw [aX,bN.Oj];refine Mr L W hD (ju _) gB hm G9 Ke (by omega) (by omega) fun v2 S4 F4 hI U8 hS4 hF4=>hK v2 S4 F4 hI U8 hS4 (fun k hk=>?_);rcases hF4 k hk with(e|e)|e
   ·exact .inl e
   ·exact .inr (by have:=(QR k e).1;omega)
   ·exact .inr e
end
def pM(nb:Nat):NM:=⟨nb,none,0,0,none,0,0,none,0,0,[]⟩
structure NP(w v:World)(r:HT)(A B E:Option Nat)(l:List HT):Prop where
 kp:Kept Nil w v
 node:∀b,A=some b->w.heap.size<=b/\v.heap[b]? =some (.cells (gD r (pM b)) dZ (0,0))
 list:∀b,B=some b->w.heap.size<=b/\∃nb,A=some nb/\v.heap[b]? =some (.cells #[.pointer (some ⟨nb,0,none⟩)] fG (0,0))
 map:∀b,E=some b->w.heap.size<=b/\IsMap v b l
section
variable{w v:World}{r:HT}{A B E:Option Nat}{l:List HT}{K:Value->World->Prop}
theorem NP.grow(h:NP w v r A B E l)(o:Obj):NP w (v.alloc o) r A B E l:=
 ⟨h.kp.alloc o,fun b e=>⟨(h.node b e).1,lu (h.node b e).2 o⟩,fun b e=>⟨(h.list b e).1,let ⟨nb,h1,h2⟩:=(h.list b e).2;⟨nb,h1,lu h2 o⟩⟩,fun b e=>⟨(h.map b e).1,(h.map b e).2.aJ ((Kept.refl Nil v).alloc o) (fun h=>h)⟩⟩
theorem NP.addNode(h:NP w v r none none E l):NP w (v.alloc (.cells (gD r (pM v.heap.size)) dZ)) r (some v.heap.size) none E l:=
 have g:=h.grow (.cells (gD r (pM v.heap.size)) dZ)
 ⟨g.kp,fun b e=>by cases e;exact⟨h.kp.size,aM v _⟩,fun b e=>(by cases e),g.map⟩
theorem NP.qI{nb:Nat}(h:NP w v r (some nb) none E l):NP w (v.alloc (.cells #[.pointer (some ⟨nb,0,none⟩)] fG)) r (some nb) (some v.heap.size) E l:=
 have g:=h.grow (.cells #[.pointer (some ⟨nb,0,none⟩)] fG)
 ⟨g.kp,g.node,fun b e=>by cases e;exact⟨h.kp.size,nb,rfl,aM v _⟩,g.map⟩
theorem NP.DE(h:NP w v r A B none []):NP w (v.alloc (.map #[] 0)) r A B (some v.heap.size) []:=
 have g:=h.grow (.map #[] 0)
 ⟨g.kp,g.node,g.list,fun b e=>by cases e;exact⟨h.kp.size,⟨#[],0,aM v _,trivial⟩⟩⟩
theorem NP.put{mb:Nat}(h:NP w v r A B (some mb) []):∃v',(Instr.mapUpdate cU (.map (some mb)) (.agg r.1) (.int .i64 0)).run prog v=.ok () v'/\NP w v' r A B (some mb) [r]:=by
 obtain⟨h1,h2⟩:=h.map mb rfl;obtain⟨v',hr,hm,hk⟩:=h2.put (h:=r) (by simp);have Ky:∀ {k:Nat} {cs:Array Value} {t:TypeId},v.heap[k]? =some (.cells cs t (0,0))->¬(k=mb):=fun hk e=>by
  obtain⟨es,clock,Lz,_⟩:=h2.ex;rw [e,Lz]at hk;cases hk
 refine⟨v',hr,h.kp.trans hk (fun k hk e=>by omega),fun b e=>⟨(h.node b e).1,hk.heap (h.node b e).2 (Ky (h.node b e).2)⟩,fun b e=>⟨(h.list b e).1,?_⟩,fun b e=>by cases e;exact⟨h1,hm⟩⟩;obtain⟨nb,e1,e2⟩:=(h.list b e).2;exact⟨nb,e1,hk.heap e2 (Ky e2)⟩
theorem tf(r:HT){a b:HT}:¬oz [(⟨r,[]⟩:DN)] a b:=fun⟨nd,h1,_,h2⟩=>by
 simp at h1;subst h1;simp at h2
theorem Ae(r:HT){a b:HT}:¬fw [(⟨r,[]⟩:DN)] a b:=fun h=>by
 cases h with
 |one h=>exact tf r h
 |more _ h=>exact tf r h
theorem NP.fin{w0:World}{nb lb mb:Nat}(h:NP w v r (some nb) (some lb) (some mb) [r])(hw:w0.heap.size<=w.heap.size):
 DK (v.alloc (.cells #[.slice (some ⟨lb,0,none⟩) 1 1,.map (some mb)] iM)) (fun k=>w0.heap.size<=k/\k<(v.alloc (.cells #[.slice (some ⟨lb,0,none⟩) 1 1,.map (some mb)] iM)).heap.size) (fun _=>False) v.heap.size [⟨r,[]⟩]:=by
 have g:=h.grow (.cells #[.slice (some ⟨lb,0,none⟩) 1 1,.map (some mb)] iM);have jE:=aM v (.cells #[.slice (some ⟨lb,0,none⟩) 1 1,.map (some mb)] iM);generalize v.alloc (.cells #[.slice (some ⟨lb,0,none⟩) 1 1,.map (some mb)] iM)=u at g jE;have hs:=h.kp.size;obtain⟨n1,n2⟩:=g.node nb rfl;obtain⟨l1,nb',e,l2⟩:=g.list lb rfl;cases e;obtain⟨m1,m2⟩:=g.map mb rfl;have pf:iu [⟨r,[]⟩] r= []:=by
  cases hc:iu [⟨r,[]⟩] r with
  |nil=>rfl
  |cons b t=>exact absurd (ki.1 (show b∈iu [⟨r,[]⟩] r by rw [hc];simp)).2 (tf r)
 refine⟨lb,1,mb,[pM nb],jE,Row.made (n:=1) (cur:= #[.pointer (some ⟨nb,0,none⟩)]) l2 (Nat.zero_le _) rfl (by decide),m2,rfl,fun i nd m hi hm=>?_,fun i j m m' h1 h2 fP k hk=>?_,⟨by omega,aY jE⟩,⟨by omega,aY l2⟩,⟨by omega,m2.lt⟩,fun _ _ h=>h,fun k hk=>hk.elim (fun h=>h.2) (fun h=>h.elim)⟩
 ·cases i with
  |zero=>
   simp at hi hm;subst hi;subst hm;refine⟨n2,⟨Nat.le_trans hw n1,aY n2⟩,HS.nil _ _,(fun a ha=>by cases ha),?_,(fun k hk=>by cases hk),⟨rfl,fun i x hx=>by simp [pM]at hx⟩,(fun a ha=>by cases ha),by simp [okW,pM],fun j=>?_,by simp [pM]⟩
   ·show cC u 0 none 0 0 (iu [⟨r,[]⟩] r)
    rw [pf];exact cC.nil _ _
   ·show bit [] j=true↔_
    rw [zf];exact⟨(fun h=>by cases h),fun⟨nj,_,h⟩=>absurd h (Ae r)⟩
  |succ i=>simp at hi
 ·have hm:m=pM nb:=by
   have:=List.mem_of_getElem? h1;simpa using this
  subst hm;cases hk
theorem gH(r:HT)(hK:∀v gb,DK v (fun k=>w.heap.size<=k/\k<v.heap.size) (fun _=>False) gb [⟨r,[]⟩]->Kept Nil w v->K (.pointer (some ⟨gb,0,none⟩)) v):
 bD prog nD.id #[.agg r.1] w K:=by
 refine nD.of ?_;unfold nD.W;intro w2 w3;have k2:Kept Nil w w2:=(Kept.refl _ _).alloc _;have nA:w2.heap[w.heap.size]? =some (.cells r.1 al (0,0)):=aM w _;have k3:Kept Nil w w3:=k2.drew;have qf:w3.heap[w.heap.size]? =some (.cells r.1 al (0,0)):=nA;clear_value w3;have N3:NP w3 w3 r none none none []:=⟨Kept.refl _ _,(fun b e=>by cases e),(fun b e=>by cases e),(fun b e=>by cases e)⟩;have nR:∀ {v:World},Kept Nil w3 v->∃cs:Array Value,(.agg r.1:Value)=.agg cs/\cs.size=32/\Cells v (aU w.heap.size) cs:=fun k=>⟨r.1,rfl,r.2.1,Cells.bV (k.heap qf (fun h=>h))⟩;have vO:∀ {v:World} {nb lb mb:Nat},NP w3 v r (some nb) (some lb) (some mb) [r]->K (.pointer (some ⟨v.heap.size,0,none⟩)) (v.alloc (.cells #[.slice (some ⟨lb,0,none⟩) 1 1,.map (some mb)] iM)):=fun h=>hK _ _ (h.fin k3.size) ((k3.tt h.kp).alloc _);refine⟨r.1,⟨r.2.1,Cells.bV qf⟩,?_⟩;have UF:∀b,prog.built dZ [(0,.agg r.1)]=some (gD r (pM b)):=fun b=>GH r b;rw [UF 0];refine Is.mk rfl ?_;refine⟨r.1,⟨r.2.1,Cells.bV qf⟩,?_⟩;refine⟨?_,?_⟩
 ·have N7:NP w3 (w3.alloc (.cells (gD r (pM w3.heap.size)) dZ)) r (some w3.heap.size) none none []:=N3.addNode
  refine⟨nR N7.kp,?_,?_⟩
  ·have N8:=N7.qI
   have N9:=N8.DE;obtain⟨v,hr,Sc⟩:=N9.put;exact⟨nR N8.kp,nR N9.kp,v,hr,vO Sc⟩
  ·have Re:=N7.DE
   refine⟨nR Re.kp,?_,?_⟩
   ·have Mt:=Re.qI
    obtain⟨v,hr,Rc⟩:=Mt.put;exact⟨nR Mt.kp,v,hr,vO Rc⟩
   ·obtain⟨v,hr,Sb⟩:=Re.put
    exact⟨v,hr,vO Sb.qI⟩
 ·have Kr:=N3.DE
  refine⟨nR Kr.kp,nR Kr.kp,?_,?_⟩
  ·have Og:NP w3 ((w3.alloc (.map #[] 0)).alloc (.cells (gD r (pM (w3.alloc (.map #[] 0)).heap.size)) dZ)) r (some (w3.alloc (.map #[] 0)).heap.size) none (some w3.heap.size) []:=Kr.addNode
   refine⟨nR Og.kp,?_,?_⟩
   ·have Of:=Og.qI
    obtain⟨v,hr,R9⟩:=Of.put;exact⟨nR Of.kp,v,hr,vO R9⟩
   ·obtain⟨v,hr,Xl⟩:=Og.put
    exact⟨v,hr,vO Xl.qI⟩
  ·obtain⟨v,hr,Rb⟩:=Kr.put
   exact⟨v,hr,nR Rb.kp,vO Rb.addNode.qI⟩
end
section
variable{w w':World}{S S' F:Nat->Prop}{g bl c mb:Nat}{D:DG}{C:HT->List HT}{M:List NM}{K:Value->World->Prop}
end
section
variable{w w':World}{S S' F:Nat->Prop}{g bl c mb:Nat}{D:DG}{C:HT->List HT}{M:List NM}{K:Value->World->Prop}
end
theorem fY{w:World}{b:Nat}{z cs:Array Value}{t:TypeId}(h:w.heap[b]? =some (.cells z t (0,0)))(hz:z.size=cs.size):
 (∀j,j<cs.size->Wr w ((⟨b,0,none⟩:Addr).add j))/\(setCells w ⟨b,0,none⟩ cs.toList 0).heap[b]? =some (.cells cs t (0,0))/\Kept (· =b) w (setCells w ⟨b,0,none⟩ cs.toList 0):=by
 refine⟨fun j hj=>?_,?_,gV _ _ _ _⟩
 ·rw [bC,Nat.zero_add]
  exact dN h (by omega)
 ·have h1:=lj cs.toList z w t 0 0 h (by simp;omega)
  rw [h1,uW (by simp [hz])]
def hx(i:Nat)(hi:i<256):HT:=⟨#[.int .u8 (i:Int),.int .u8 0,.int .u8 0,.int .u8 0,.int .u8 0,.int .u8 0,.int .u8 0,.int .u8 0,.int .u8 0,.int .u8 0,.int .u8 0,.int .u8 0,.int .u8 0,.int .u8 0,.int .u8 0,.int .u8 0,.int .u8 0,.int .u8 0,.int .u8 0,.int .u8 0,.int .u8 0,.int .u8 0,.int .u8 0,.int .u8 0,.int .u8 0,.int .u8 0,.int .u8 0,.int .u8 0,.int .u8 0,.int .u8 0,.int .u8 0,.int .u8 0],rfl,fun v hv=>by
 simp only [List.mem_cons,List.not_mem_nil,or_false]at hv;rcases hv with rfl|hv
 ·exact⟨i,rfl,by omega,by omega⟩
 ·exact⟨0,by simpa using hv,by omega,by omega⟩⟩
theorem CE{i j:Nat}{hi:i<256}{hj:j<256}(h:i≠j):hx i hi≠hx j hj:=fun e=>by
 have:=congrArg (fun a:HT=>a.1[0]?) e;simp [hx]at this;omega
section
variable{w w':World}{K:Value->World->Prop}
end
theorem HS.lay{w:World}{b:Nat}{l:List HT}{t:TypeId}(hb:w.heap[b]? =some (.cells (dt l).toArray t (0,0))):HS w (some ⟨b,0,Option.none⟩) l.length l:=
 ⟨rfl,fun i x hi=>⟨_,rfl,aY hb,fun j v hj=>by
   rw [bC,bC,Nat.zero_add,aE hb];simpa using lK hi hj⟩⟩
section
variable{r a b c:HT}(PQ:r≠a)(Gh:r≠b)(X0:r≠c)(mB:a≠b)(Yt:a≠c)(QC:b≠c)
abbrev kD(r a b c:HT):DG:= [⟨r,[]⟩,⟨a,[r]⟩,⟨b,[r]⟩,⟨c,dB [a,b]⟩]
include PQ in
theorem k1:dR [⟨r,[]⟩] a [r]=0/\mo [⟨r,[]⟩] a [r]= [⟨r,[]⟩,⟨a,[r]⟩]:=by
 have h:dR [⟨r,[]⟩] a [r]=0:=by
  unfold dR;rw [if_neg (by simp [ids];exact fun e=>PQ e.symm),oE,if_neg (by simp),if_neg (by simp [ids])]
 exact⟨h,by unfold mo;rw [if_pos h,oE];rfl⟩
include Gh mB in
theorem k2:dR [⟨r,[]⟩,⟨a,[r]⟩] b [r]=0/\mo [⟨r,[]⟩,⟨a,[r]⟩] b [r]= [⟨r,[]⟩,⟨a,[r]⟩,⟨b,[r]⟩]:=by
 have h:dR [⟨r,[]⟩,⟨a,[r]⟩] b [r]=0:=by
  unfold dR;rw [if_neg (by simp [ids];exact⟨fun e=>Gh e.symm,fun e=>mB e.symm⟩),oE,if_neg (by simp),if_neg (by simp [ids])]
 exact⟨h,by unfold mo;rw [if_pos h,oE];rfl⟩
include X0 mB Yt QC in
theorem k3:dR [⟨r,[]⟩,⟨a,[r]⟩,⟨b,[r]⟩] c [a,b]=0/\mo [⟨r,[]⟩,⟨a,[r]⟩,⟨b,[r]⟩] c [a,b]=kD r a b c:=by
 have hl:(dB [a,b]).length=2:=qN (by simp [mB]);have h:dR [⟨r,[]⟩,⟨a,[r]⟩,⟨b,[r]⟩] c [a,b]=0:=by
  unfold dR;rw [if_neg (by simp [ids];exact⟨fun e=>X0 e.symm,fun e=>Yt e.symm,fun e=>QC e.symm⟩),hl,if_neg (by simp),if_neg];rintro⟨p,hp,hn⟩;rw [dT]at hp;simp at hp;simp [ids]at hn;rcases hp with rfl|rfl
  ·exact hn.2.1 rfl
  ·exact hn.2.2 rfl
 exact⟨h,by unfold mo;rw [if_pos h];rfl⟩
end
section
variable{w w':World}{K:Value->World->Prop}
end
structure alC(w:World)(S F:Nat->Prop)(g:Nat)(FR:Nat->Prop)(r:Nat)(D:DG):Prop where
 G:DK w S F g D
 R:uG w FR r D
 rS:¬S r
 rF:¬F r
 fS:∀k,FR k->¬S k
 low:∀k,FR k->k<w.heap.size
section
variable{w v w':World}{S F S2 F2 FR:Nat->Prop}{g r:Nat}{D D':DG}{K:Value->World->Prop}
theorem Js(h:HT):prog.built b6 [(0,.agg h.1)]=some (h.1.push (.slice none 0 0)):=by
 have hs:=h.2.1;rw [ow EN,js (off:=0) (size:=32) rfl (by simpa [Value.cells]using hs) (by simp)];simp only [Instr.fill,Option.some.injEq];apply Array.ext';unfold iC;simp [Value.cells,hs]
end
end Go.Proofs.YtfleamccglihoaaGreatDoor
