import Derived.Test.YtnboahlopghcjaaGreatDoorProg
import Derived.Shelf.SlSortCmp.NoneTotal
import Derived.Shelf.SlMaps.Clone
import Derived.Shelf.Spec.TrailingZeros
import Derived.Shelf.Strconv.Itoa0
import Derived.Shelf.Bits.Mul64
import Derived.Test.YtnboahlopghcjaaGreatDoorMA
import Derived.Test.YtnboahlopghcjaaGreatDoorMB
import Derived.Lib.BytesEntry
import Derived.Test.YtnboahlopghcjaaGreatDoorMC
import Derived.LaidEql
open Go.IntKind (i64 u64)
set_option linter.unusedVariables false
namespace Go.Proofs
open Go.Shelf
def Tryz.pg:Go.Shelf.Ren:=⟨fun|6=>72|15=>106|14=>105|28=>130|29=>131|20=>122|21=>123|22=>124|23=>125|24=>126|25=>127|26=>128|27=>129|46=>135|47=>136|48=>137|49=>138|50=>139|57=>141|n=>n,fun|22=>35|24=>23|25=>97|3=>3|39=>161|0=>0|53=>181|55=>49|4=>4|46=>175|45=>174|50=>127|5=>5|9=>9|66=>188|70=>192|76=>196|77=>197|n=>n,fun|n=>n⟩
theorem Tryz.vU:Go.Proofs.SlLaysF0.n6 prog Tryz.pg:= {
 mixed:=by kernel_rfl
 f6:=⟨f72.name,by decide,func72.trans (congrArg some (by kernel_rfl))⟩
 f14:=⟨f105.name,by decide,func105.trans (congrArg some (by kernel_rfl))⟩
 f15:=func106.trans (congrArg some (by kernel_rfl))
 f20:=⟨f122.name,by decide,func122.trans (congrArg some (by kernel_rfl))⟩
 f21:=⟨f123.name,by decide,func123.trans (congrArg some (by kernel_rfl))⟩
 f22:=⟨f124.name,by decide,func124.trans (congrArg some (by kernel_rfl))⟩
 f23:=⟨f125.name,by decide,func125.trans (congrArg some (by kernel_rfl))⟩
 f24:=⟨f126.name,by decide,func126.trans (congrArg some (by kernel_rfl))⟩
 f25:=⟨f127.name,by decide,func127.trans (congrArg some (by kernel_rfl))⟩
 f26:=⟨f128.name,by decide,func128.trans (congrArg some (by kernel_rfl))⟩
 f27:=⟨Tryz.f129.name,by decide,func129.trans (congrArg some (by kernel_rfl))⟩
 f28:=func130.trans (congrArg some (by kernel_rfl))
 f29:=func131.trans (congrArg some (by kernel_rfl))
 f46:=⟨f135.name,by decide,func135.trans (congrArg some (by kernel_rfl))⟩
 f47:=func136.trans (congrArg some (by kernel_rfl))
 f48:=func137.trans (congrArg some (by kernel_rfl))
 f49:=⟨f138.name,by decide,func138.trans (congrArg some (by kernel_rfl))⟩
 f50:=⟨f139.name,by decide,func139.trans (congrArg some (by kernel_rfl))⟩
 f57:=⟨f141.name,by decide,func141.trans (congrArg some (by kernel_rfl))⟩
 t0:=underlying0
 a0:=isAgg0
 z0:=sizeOf0
 v0:=zeroValue0
 t3:=underlying3
 a3:=isAgg3
 z3:=sizeOf3
 v3:=zeroValue3
 t4:=underlying4
 a4:=isAgg4
 z4:=sizeOf4
 v4:=zeroValue4
 t5:=underlying5
 a5:=isAgg5
 z5:=sizeOf5
 v5:=zeroValue5
 t9:=underlying9
 a9:=isAgg9
 z9:=sizeOf9
 v9:=zeroValue9
 t22:=underlying35
 a22:=isAgg35
 z22:=sizeOf35
 v22:=zeroValue35
 t25:=underlying97
 a25:=isAgg97
 z25:=sizeOf97
 v25:=zeroValue97
 t39:=underlying161
 a39:=isAgg161
 z39:=sizeOf161
 v39:=zeroValue161
 t45:=underlying174
 a45:=isAgg174
 z45:=sizeOf174
 v45:=zeroValue174
 t46:=underlying175
 a46:=isAgg175
 z46:=sizeOf175
 v46:=zeroValue175
 t50:=underlying127
 a50:=isAgg127
 z50:=sizeOf127
 v50:=zeroValue127
 t53:=underlying181
 a53:=isAgg181
 z53:=sizeOf181
 v53:=zeroValue181
 t55:=underlying49
 a55:=isAgg49
 z55:=sizeOf49
 v55:=zeroValue49
 t66:=underlying188
 a66:=isAgg188
 z66:=sizeOf188
 v66:=zeroValue188
 t70:=underlying192
 a70:=isAgg192
 z70:=sizeOf192
 v70:=zeroValue192
 t76:=underlying196
 a76:=isAgg196
 z76:=sizeOf196
 v76:=zeroValue196
 t77:=underlying197
 a77:=isAgg197
 z77:=sizeOf197
 v77:=zeroValue197}
def Tryz.jl:Go.Shelf.Ren:=⟨fun|29=>121|n=>n,fun|22=>49|3=>3|4=>4|25=>161|54=>187|0=>0|5=>5|n=>n,fun|1=>1|n=>n⟩
theorem Tryz.tzL:Go.Proofs.Lays7.n29 prog Tryz.jl:= {
 mixed:=by kernel_rfl
 f29:=func121.trans (congrArg some (by kernel_rfl))
 t0:=underlying0
 a0:=isAgg0
 z0:=sizeOf0
 v0:=zeroValue0
 i0:=by kernel_rfl
 t3:=underlying3
 a3:=isAgg3
 z3:=sizeOf3
 v3:=zeroValue3
 i3:=by kernel_rfl
 t4:=underlying4
 a4:=isAgg4
 z4:=sizeOf4
 v4:=zeroValue4
 i4:=by kernel_rfl
 t5:=underlying5
 a5:=isAgg5
 z5:=sizeOf5
 v5:=zeroValue5
 i5:=by kernel_rfl
 t22:=underlying49
 a22:=isAgg49
 z22:=sizeOf49
 v22:=zeroValue49
 i22:=by kernel_rfl
 t25:=underlying161
 a25:=isAgg161
 z25:=sizeOf161
 v25:=zeroValue161
 i25:=by kernel_rfl
 t54:=underlying187
 a54:=isAgg187
 z54:=sizeOf187
 g1:=by kernel_rfl}
def Tryz.yQ:Go.Shelf.Ren:=⟨fun|129=>131|n=>n,fun|53=>49|3=>3|4=>4|46=>161|5=>5|9=>9|n=>n,fun|n=>n⟩
theorem Tryz.Jn:Go.Proofs.Lays.n129 prog Tryz.yQ:= {
 mixed:=by kernel_rfl
 f129:=func131.trans (congrArg some (by kernel_rfl))
 t3:=underlying3
 a3:=isAgg3
 z3:=sizeOf3
 v3:=zeroValue3
 t4:=underlying4
 a4:=isAgg4
 z4:=sizeOf4
 v4:=zeroValue4
 t5:=underlying5
 a5:=isAgg5
 z5:=sizeOf5
 v5:=zeroValue5
 t9:=underlying9
 a9:=isAgg9
 z9:=sizeOf9
 v9:=zeroValue9
 t46:=underlying161
 a46:=isAgg161
 z46:=sizeOf161
 v46:=zeroValue161
 t53:=underlying49
 a53:=isAgg49
 z53:=sizeOf49
 v53:=zeroValue49}
def Tryz.yP:Go.Shelf.Ren:=⟨fun|264=>133|n=>n,fun|53=>49|46=>161|n=>n,fun|n=>n⟩
theorem Tryz.Jm:Go.Proofs.Lays.n264 prog Tryz.yP:= {
 mixed:=by kernel_rfl
 f264:=func133.trans (congrArg some (by kernel_rfl))
 t46:=underlying161
 a46:=isAgg161
 z46:=sizeOf161
 v46:=zeroValue161
 t53:=underlying49
 a53:=isAgg49
 z53:=sizeOf49
 v53:=zeroValue49}
end Go.Proofs
namespace Go.bU
open Go.RowKit
theorem jQ.mono{P:Program}{l:Nat}{args:Array Value}{w:World}{R R':Bool->World->Prop}(h:jQ P l args w R)(hr:∀b w',R b w'->R' b w'):jQ P l args w R':=by
 obtain⟨g,tmps,assign,body,h1,h2⟩:=h;exact⟨g,tmps,assign,body,h1,fun r m=>RoundIn.mono (h2 r m) fun e w' ⟨b,he,hb⟩=>⟨b,he,hr _ _ hb⟩⟩
def gq(xs:List Value)(k:Nat)(vs:List Value):List Value:=xs.take k++vs++xs.drop (k+vs.length)
theorem pX(xs:List Value)(k:Nat):gq xs k []=xs:=by simp [gq]
theorem ot{xs:List Value}{k:Nat}(hk:k<xs.length)(v:Value)(vs:List Value):gq xs k (v::vs)=gq (xs.set k v) (k+1) vs:=by
 unfold gq;rw [List.take_add_one,List.take_set_of_le (Nat.le_refl k),List.getElem?_set_self hk,List.drop_set];rw [if_pos (by omega),List.length_cons,show k+(vs.length+1)=k+1+vs.length by omega];simp
theorem lD{xs:List Value}{k:Nat}{vs:List Value}(h:k+vs.length<=xs.length):(gq xs k vs).length=xs.length:=by
 unfold gq;simp;omega
theorem tH{xs vs:List Value}(h:vs.length=xs.length):gq xs 0 vs=vs:=by
 unfold gq;simp [h]
section
variable{w:World}{B:Nat}{e:TypeId}{size n c b:Nat}
theorem qx:∀(vs:List Value) (xs:List Value) (w:World) (o i:Nat),Row w B e size (some ⟨b,0,none⟩) n c xs->o+i+vs.length<=xs.length->
 Row (setCells w ⟨b,o,none⟩ vs i) B e size (some ⟨b,0,none⟩) n c (gq xs (o+i) vs)
 | [],xs,w,o,i,h,_=>by rw [pX];exact h
 |v::vs,xs,w,o,i,h,hl=>by
  rw [List.length_cons]at hl;rw [ot (by omega)];simp only [setCells];rw [a8];have h1:=Row.set h (j:=o+i) (by omega) v;have:=qx vs (xs.set (o+i) v) _ o (i+1) h1 (by rw [List.length_set];omega)
  rwa [show o+(i+1)=o+i+1 by omega]at this
theorem fQ:∀(vs:List Value) (w:World) (o i:Nat),Kept (· =b) w (setCells w ⟨b,o,none⟩ vs i)
 | [],w,o,i=>Kept.refl _ _
 |v::vs,w,o,i=>by
  simp only [setCells];rw [a8];exact(Kept.setCell (S:=fun k=>k=b) (Kept.refl _ w) (p:=⟨b,o+i,none⟩) (fun _=>rfl) v).tt (fQ vs _ o (i+1))
theorem jH:∀(vs:List Value) (cur:Array Value) (w:World) (t:TypeId) (o i:Nat),w.heap[b]? =some (.cells cur t (0,0))->o+i+vs.length<=cur.size->
 (setCells w ⟨b,o,none⟩ vs i).heap[b]? =some (.cells (gq cur.toList (o+i) vs).toArray t (0,0))
 | [],cur,w,t,o,i,h,_=>by rw [pX];simpa [setCells]using h
 |v::vs,cur,w,t,o,i,h,hl=>by
  rw [List.length_cons]at hl;rw [ot (by simp;omega)];simp only [setCells];rw [a8];have h1:=cV h (o+i) v;have:=jH vs _ _ t o (i+1) h1 (by simp;omega);rw [show o+(i+1)=o+i+1 by omega]at this;rw [this];simp
theorem gg{z cs:Array Value}{t:TypeId}(hz:z.size=cs.size):
 (∀j,j<cs.size->Wr (w.alloc (.cells z t)) ((⟨w.heap.size,0,none⟩:Addr).add j))/\
 (setCells (w.alloc (.cells z t)) ⟨w.heap.size,0,none⟩ cs.toList 0).heap[w.heap.size]? =some (.cells cs t (0,0))/\
 Kept Nil w (setCells (w.alloc (.cells z t)) ⟨w.heap.size,0,none⟩ cs.toList 0):=by
 refine⟨fun j hj=>?_,?_,?_⟩
 ·rw [a8,Nat.zero_add]
  exact dL (aJ w _) (by omega)
 ·have h:=jH cs.toList z (w.alloc (.cells z t)) t 0 0 (aJ w _) (by simp;omega)
  rw [h,tH (by simp [hz])]
 ·exact((Kept.refl Nil w).alloc _).trans (fQ cs.toList _ 0 0) (fun k hk e=>absurd hk (by omega))
end
end Go.bU
namespace Go.bU
theorem Da:∀(vs:List Value) (off k:Nat) (cells:Array Value),off+k+vs.length<=cells.size->
 ((vs.zipIdx k).foldl (fun(cs:Array Value) (p:Value×Nat)=>cs.setIfInBounds (off+p.2) p.1) cells)=(gq cells.toList (off+k) vs).toArray
 | [],off,k,cells,_=>by rw [pX];simp
 |v::vs,off,k,cells,h=>by
  rw [List.length_cons]at h;rw [ot (by simp;omega),List.zipIdx_cons,List.foldl_cons];have:=Da vs off (k+1) (cells.setIfInBounds (off+k) v) (by simp;omega);rw [this,Array.toList_setIfInBounds];rfl
theorem iA{place:Nat->Option (Nat×Nat)}{cells:Array Value}{i off size:Nat}{v:Value}{rest:List (Nat×Value)}(hp:place i=some (off,size))(hs:v.cells.size=size)(hle:off+size<=cells.size):
 Instr.fill place cells ((i,v)::rest)=Instr.fill place (gq cells.toList off v.cells.toList).toArray rest:=by
 rw [Instr.fill,hp];simp only;rw [if_neg (by simp;omega)]
 congr 1
 have h:=Da v.cells.toList off 0 cells (by simp;omega);rw [Nat.add_zero]at h;rw [<-h,<-Array.foldl_toList,Array.toList_zipIdx]
def QD(P:Program)(t:TypeId):Option (List (Nat×Nat)×List Value):=
 match P.info? t,P.underlying t with
 |some it,some (.struct fields)=>
  match it.zero,fields.toList.mapM (fun f=>(P.info? f.type).map fun i=>(f.offset,i.size))with
  |some z,some places=>some (places,z.cells.toList)
  |_,_=>none
 |_,_=>none
theorem mU{P:Program}{t:TypeId}{pl:List (Nat×Nat)}{z:List Value}(h:QD P t=some (pl,z))(parts:List (Nat×Value)):
 P.built t parts=Instr.fill (pl.toArray[·]?) z.toArray parts:=by
 unfold QD at h;split at h
 ·rename_i it fields h1 h2
  split at h
  ·rename_i z' pl' h3 h4
   simp only [Option.some.injEq,Prod.mk.injEq]at h;obtain⟨rfl,rfl⟩:=h;unfold Program.built;rw [h1,h2];simp only [h3,h4]
  ·cases h
 ·cases h
def oM:List Nat->Array Value
 | []=> #[]
 |D::l=> #[.pointer (some ⟨D,0,none⟩)]++oM l
theorem lh:∀l,marksOf (.agg (oM l))=l
 | []=>rfl
 |D::l=>by
  have ih:=lh l;simp only [oM,marksOf]at*;simp [ih]
theorem jZ:∀(l:List Nat) (w:World),l.Nodup->(∀D∈l,w.heap[D]? =some (.deferred (some [])))->jR l w
 | [],_,_,_=>trivial
 |D::l,w,hn,h=>by
  rw [List.nodup_cons]at hn;refine⟨h D (by simp),jZ l _ hn.2 fun E hE=>?_⟩;have fC:D≠E:=fun e=>hn.1 (by rw [e];exact hE);exact(World.putObj_heap_other fC.symm).trans (h E (by simp [hE]))
theorem iR:∀(l:List Nat) (w:World),Kept (· ∈l) w (fD l w)
 | [],w=>Kept.refl _ w
 |D::l,w=>((Kept.putAt w D (.deferred none)).mono (S':=fun k=>k∈D::l) (fun k _ e=>by subst e;simp)).trans (iR l _) (fun k _ h=>by simp [h])
end Go.bU
namespace Go.Proofs.YtnboahlopghcjaaGreatDoor
open Go.Proofs.Tryz
open Go Go.bU Go.RowKit
def P7(cs:Array Value):Prop:=cs.size=32/\∀v∈cs.toList,∃i:Int,v=.int .u8 i/\0<=i/\i<256
abbrev HT:= {cs:Array Value//P7 cs}
def key(h:HT):List Int:=h.1.toList.map lA
theorem P7.ints{cs:Array Value}(h:P7 cs):dA .u8 32 cs:=⟨h.1,fun v hv=>let ⟨i,e,_⟩:=h.2 v hv;⟨i,e⟩⟩
theorem y8:∀ {a b:List Value},(∀v∈a,∃i:Int,v=.int .u8 i)->(∀v∈b,∃i:Int,v=.int .u8 i)->a.map lA=b.map lA->a=b
 | [],[],_,_,_=>rfl
 | [],_::_,_,_,h=>by simp at h
 |_::_,[],_,_,h=>by simp at h
 |x::a,y::b,ha,hb,h=>by
  obtain⟨i,rfl⟩:=ha x (by simp);obtain⟨j,rfl⟩:=hb y (by simp);simp only [List.map_cons,List.cons.injEq,lA]at h;rw [h.1,y8 (fun v hv=>ha v (by simp [hv])) (fun v hv=>hb v (by simp [hv])) h.2]
theorem key_inj{a b:HT}(h:key a=key b):a=b:=by
 apply Subtype.ext;apply Array.ext';exact y8 (fun v hv=>a.2.ints.2 v hv) (fun v hv=>b.2.ints.2 v hv) h
instance:DecidableEq HT:=fun a b=>if h:key a=key b then isTrue (key_inj h)else isFalse fun e=>h (by rw [e])
theorem du(a b:HT):ee a.1 b.1=decide (a=b):=by
 unfold ee;by_cases e:a=b
 ·subst e;simp
 ·rw [decide_eq_false e]
  have:¬(key a=key b):=fun h=>e (key_inj h);simpa [key]using this
theorem P7.one{cs:Array Value}(h:P7 cs):∀v∈cs.toList,v.oneCell'=true:=fun v hv=>by
 obtain⟨i,rfl,_⟩:=h.2 v hv;rfl
def tm:List Int->List Int->Bool
 | [],[]=>false
 | [],_::_=>true
 |_::_,[]=>false
 |x::a,y::b=>if x<y then true else if y<x then false else tm a b
def cH(a b:HT):Bool:=tm (key a) (key b)
theorem ui:∀a,tm a a=false
 | []=>rfl
 |x::a=>by simp [tm,ui a]
theorem we:∀ {a b c},tm a b=true->tm b c=true->tm a c=true
 | [],[],_,h,_=>by simp [tm]at h
 | [],_::_,[],_,h=>by simp [tm]at h
 | [],_::_,_::_,_,_=>rfl
 |_::_,[],_,h,_=>by simp [tm]at h
 |_::_,_::_,[],_,h=>by simp [tm]at h
 |x::a,y::b,z::c,h,h'=>by
  simp only [tm]at*;by_cases h1:x<y
  ·by_cases h2:y<z
   ·rw [if_pos (by omega)]
   ·rw [if_neg h2]at h'
    by_cases h3:z<y
    ·rw [if_pos h3]at h';cases h'
    ·rw [if_pos (by omega)]
  ·rw [if_neg h1]at h
   by_cases h2:y<x
   ·rw [if_pos h2]at h;cases h
   ·rw [if_neg h2]at h
    by_cases h3:y<z
    ·rw [if_pos (by omega)]
    ·rw [if_neg h3]at h'
     by_cases h4:z<y
     ·rw [if_pos h4]at h';cases h'
     ·rw [if_neg h4]at h'
      rw [if_neg (by omega),if_neg (by omega)];exact we h h'
theorem wg:∀ {a b},a.length=b.length->tm a b=false->tm b a=false->a=b
 | [],[],_,_,_=>rfl
 | [],_::_,h,_,_=>by simp at h
 |_::_,[],h,_,_=>by simp at h
 |x::a,y::b,hl,h,h'=>by
  simp only [tm]at*;by_cases h1:x<y
  ·rw [if_pos h1]at h;cases h
  ·rw [if_neg h1]at h
   by_cases h2:y<x
   ·rw [if_pos h2]at h';cases h'
   ·rw [if_neg h2]at h h'
    rw [if_neg h1]at h';have:x=y:=by omega
    rw [this,wg (by simpa using hl) h h']
theorem mf(a:HT):(key a).length=32:=by have:=a.2.1;simpa [key]using this
theorem pv{a b:HT}(h:cH a b=false)(h':cH b a=false):a=b:=key_inj (wg (by rw [mf,mf]) h h')
theorem jz{a b c:HT}(h:cH a b=true)(h':cH b c=true):cH a c=true:=we h h'
theorem gJ(a:HT):cH a a=false:=ui _
theorem rR{a b:HT}(h:cH a b=true):cH b a=false:=by
 cases h':cH b a
 ·rfl
 ·have:=jz h h';rw [gJ]at this;cases this
end Go.Proofs.YtnboahlopghcjaaGreatDoor
namespace Go.Proofs.YtnboahlopghcjaaGreatDoor
open Go.Proofs.Tryz
open Go Go.bU
def SS(l:List HT):Prop:=l.Pairwise fun a b=>cH a b=true
theorem SS.nodup{l:List HT}(h:SS l):l.Nodup:=List.Pairwise.imp (fun {a b} lM e=>by subst e;rw [gJ]at lM;cases lM) h
theorem SS.cons{x:HT}{l:List HT}:SS (x::l)↔(∀y∈l,cH x y=true)/\SS l:=List.pairwise_cons
theorem xL:∀ {l m:List HT},SS l->SS m->(∀x,x∈l↔x∈m)->l=m
 | [],[],_,_,_=>rfl
 | [],y::m,_,_,h=>by have:=(h y).2 (by simp);simp at this
 |x::l,[],_,_,h=>by have:=(h x).1 (by simp);simp at this
 |x::l,y::m,hl,hm,h=>by
  rw [SS.cons]at hl hm;have nS:x=y:=by
   have h1:=(h x).1 (by simp);have h2:=(h y).2 (by simp);rcases List.mem_cons.1 h1 with h1|h1
   ·exact h1
   ·rcases List.mem_cons.1 h2 with h2|h2
    ·exact h2.symm
    ·have a:=hl.1 _ h2
     have b:=hm.1 _ h1;rw [rR a]at b;cases b
  subst nS
  congr 1
  refine xL hl.2 hm.2 fun z=>?_;have hz:=h z;constructor
  ·intro hzl
   rcases List.mem_cons.1 (hz.1 (by simp [hzl]))with e|e
   ·subst e;have:=hl.1 _ hzl;rw [gJ]at this;cases this
   ·exact e
  ·intro P8
   rcases List.mem_cons.1 (hz.2 (by simp [P8]))with e|e
   ·subst e;have:=hm.1 _ P8;rw [gJ]at this;cases this
   ·exact e
def ins(x:HT):List HT->List HT
 | []=> [x]
 |y::l=>if cH x y then x::y::l else if x=y then y::l else y::ins x l
theorem xg(x z:HT):∀l,z∈ins x l↔z=x\/z∈l
 | []=>by simp [ins]
 |y::l=>by
  unfold ins;split
  ·simp
  ·split
   ·rename_i e;subst e;simp
   ·simp only [List.mem_cons,xg x z l]
    constructor
    ·rintro(h|h|h)<;>simp [h]
    ·rintro(h|h|h)<;>simp [h]
theorem Il(x:HT):∀ {l:List HT},SS l->SS (ins x l)
 | [],_=>by simp [ins,SS]
 |y::l,h=>by
  have h':=SS.cons.1 h;unfold ins;split
  ·rename_i nS
   refine SS.cons.2 ⟨fun z hz=>?_,h⟩;rcases List.mem_cons.1 hz with rfl|hz
   ·exact nS
   ·exact jz nS (h'.1 _ hz)
  ·split
   ·exact h
   ·rename_i h1 h2
    refine SS.cons.2 ⟨fun z hz=>?_,Il x h'.2⟩;rcases(xg x z l).1 hz with rfl|hz
    ·cases P9:cH y z
     ·exact absurd (pv P9 (by simpa using h1)).symm h2
     ·rfl
    ·exact h'.1 _ hz
def de(l:List HT):List HT:=l.foldr ins []
theorem df{z:HT}:∀ {l:List HT},z∈de l↔z∈l
 | []=>by simp [de]
 |x::l=>by
  have:= @df z l;simp only [de,List.foldr_cons,xg,List.mem_cons]at this⊢;rw [this]
theorem gN:∀l:List HT,SS (de l)
 | []=>List.Pairwise.nil
 |x::l=>Il x (gN l)
theorem tk{l m:List HT}(h:∀x,x∈l↔x∈m):de l=de m:=xL (gN l) (gN m) fun x=>by rw [df,df,h]
theorem wT{l m:List HT}(hs:SS l)(h:∀x,x∈l↔x∈m):l=de m:=xL hs (gN m) fun x=>by rw [df,h]
theorem CK(x:HT):∀l,(ins x l).length<=l.length+1
 | []=>by simp [ins]
 |y::l=>by
  have:=CK x l;unfold ins;split
  ·simp
  ·split<;>simp<;>omega
theorem me:∀l:List HT,(de l).length<=l.length
 | []=>by simp [de]
 |x::l=>by
  have h1:=CK x (de l);have h2:=me l;simp only [de,List.foldr_cons,List.length_cons]at*;omega
theorem qe{x:HT}:∀ {l:List HT},x∉l->(ins x l).length=l.length+1
 | [],_=>by simp [ins]
 |y::l,h=>by
  simp only [List.mem_cons,not_or]at h;have:=qe h.2;unfold ins;split
  ·simp
  ·rw [if_neg h.1];simp;omega
theorem pL:∀ {l:List HT},l.Nodup->(de l).length=l.length
 | [],_=>by simp [de]
 |x::l,h=>by
  rw [List.nodup_cons]at h;have h2:=pL h.2;have:=qe (l:=de l) (x:=x) (fun hm=>h.1 (df.1 hm));simp only [de,List.foldr_cons,List.length_cons]at*;omega
theorem sF{x:HT}:∀ {l:List HT},SS l->x∈l->(ins x l).length=l.length
 | [],_,h=>by simp at h
 |y::l,hs,h=>by
  have h':=SS.cons.1 hs;unfold ins;split
  ·rename_i nS
   rcases List.mem_cons.1 h with rfl|h
   ·rw [gJ]at nS;cases nS
   ·have:=h'.1 _ h;rw [rR nS]at this;cases this
  ·split
   ·rfl
   ·rename_i h1 h2
    rcases List.mem_cons.1 h with rfl|h
    ·exact absurd rfl h2
    ·simp [sF h'.2 h]
theorem qI:∀ {l:List HT},(de l).length=l.length->l.Nodup
 | [],_=>List.Pairwise.nil
 |x::l,h=>by
  have h2:=me l;by_cases hm:x∈l
  ·have:=sF (gN l) (df.2 hm)
   simp only [de,List.foldr_cons,List.length_cons]at*;omega
  ·have h3:=qe (l:=de l) (x:=x) (fun h=>hm (df.1 h))
   simp only [de,List.foldr_cons,List.length_cons]at*;exact List.nodup_cons.2 ⟨hm,qI (by simp only [de];omega)⟩
theorem I1:de []= []:=rfl
theorem tj(x:HT):de [x]= [x]:=rfl
theorem yl{l:List HT}(h:SS l):de l=l:=(wT h fun _=>Iff.rfl).symm
theorem Ik{l:List HT}{x:HT}{k:Nat}(hs:SS l)(h1:∀y∈l.take k,cH y x=true)(h2:∀y∈l.drop k,cH x y=true):SS (l.take k++x::l.drop k):=by
 unfold SS at*;rw [<-List.take_append_drop k l,List.pairwise_append]at hs;rw [List.pairwise_append,List.pairwise_cons];refine⟨hs.1,⟨h2,hs.2.1⟩,fun y hy z hz=>?_⟩;rcases List.mem_cons.1 hz with rfl|hz
 ·exact h1 y hy
 ·exact hs.2.2 y hy z hz
theorem SS.get{l:List HT}(h:SS l){i j:Nat}(qg:i<j){x y:HT}(hx:l[i]? =some x)(hy:l[j]? =some y):cH x y=true:=by
 obtain⟨h1,rfl⟩:=lgeS hx;obtain⟨h2,rfl⟩:=lgeS hy;exact List.pairwise_iff_getElem.1 h i j h1 h2 qg
theorem Dj{l:List HT}{x:HT}(hs:SS l)(h:∀y∈l,cH y x=true):SS (l++ [x]):=by
 have:=Ik (k:=l.length) hs (x:=x) (by simpa using h) (by simp);simpa using this
def LE(l:List HT):Prop:=l.Pairwise fun a b=>cH b a=false
theorem lt_of_le_ne{a b:HT}(h:cH b a=false)(hn:a≠b):cH a b=true:=by
 cases lM:cH a b
 ·exact absurd (pv lM h) hn
 ·rfl
theorem sC{a b c:HT}(h:cH b a=false)(h':cH b c=true):cH a c=true:=by
 by_cases e:a=b
 ·subst e;exact h'
 ·exact jz (lt_of_le_ne h e) h'
theorem LE.get{l:List HT}(h:LE l){i j:Nat}(qg:i<j){x y:HT}(hx:l[i]? =some x)(hy:l[j]? =some y):cH y x=false:=by
 obtain⟨h1,rfl⟩:=lgeS hx;obtain⟨h2,rfl⟩:=lgeS hy;exact List.pairwise_iff_getElem.1 h i j h1 h2 qg
theorem bG{l:List HT}{k:Nat}{x z:HT}(hx:l[k]? =some x):z∈l.take (k+1)↔z∈l.take k\/z=x:=by
 rw [List.take_add_one,hx];simp
open Go.RowKit
theorem eJ(a:Addr)(k:Nat):(a.add k).block=a.block:=by unfold Addr.add;split<;>rfl
theorem aP{σ:Type}(e:σ->Env)(I:σ->World->Prop)(μ:σ->World->Nat)(s:σ)(w:World)(Q:aN)(l:Nat)(ρ:Env)(w':World):bI e I μ s w Q (.exit l) ρ w'=Q (.exit l) ρ w':=rfl
theorem ij{σ:Type}(e:σ->Env)(I:σ->World->Prop)(μ:σ->World->Nat)(s:σ)(w:World)(Q:aN)(ρ:Env)(w':World):bI e I μ s w Q .ret ρ w'=Q .ret ρ w':=rfl
theorem gU{x:Int}(h0: -9223372036854775808<=x)(h1:x<9223372036854775808):i64.wrap x=x:=by
 simp only [IntKind.wrap,IntKind.bits,IntKind.signed];simp;omega
theorem Cells.aC{S:Nat->Prop}{w w':World}{a:Addr}{cs:Array Value}(h:Cells w a cs)(hk:Kept S w w')(hn:¬S a.block):Cells w' a cs:=
 fun j v hj=>hk.cell (h j v hj) (by rw [eJ];exact hn)
theorem Cells.bC{w:World}{b:Nat}{cs:Array Value}{t:TypeId}{fr:Nat×Nat}(h:w.heap[b]? =some (.cells cs t fr)):Cells w ⟨b,0,none⟩ cs:=
 fun j v hj=>by rw [a8,Nat.zero_add,ay h];exact hj
structure HS(w:World)(A:Option Addr)(n:Nat)(l:List HT):Prop where
 len:l.length=n
 at_:∀(i:Nat) (h:HT),l[i]? =some h->∃a,A=some a/\a.block<w.heap.size/\Cells w (a.add (i*32)) h.1
theorem HS.aC{S:Nat->Prop}{w w':World}{A:Option Addr}{n:Nat}{l:List HT}(h:HS w A n l)(hk:Kept S w w')(hn:∀a,A=some a->¬S a.block):HS w' A n l:=⟨h.len,fun i x hi=>by
 obtain⟨a,h1,h2,h3⟩:=h.at_ i x hi;exact⟨a,h1,Nat.lt_of_lt_of_le h2 hk.size,Cells.aC h3 hk (by rw [eJ];exact hn a h1)⟩⟩
theorem HS.same{w w':World}{A:Option Addr}{n:Nat}{l:List HT}(h:HS w A n l)(hk:Kept Nil w w'):HS w' A n l:=h.aC hk fun _ _ h=>h
section
variable{w:World}{K:Value->World->Prop}
theorem wY{A:Option Addr}{n c:Nat}{l:List HT}(h:HT)(hl:HS w A n l)(hn:n<=1000000)(hK:∀w',Kept Nil w w'->K (.bool (decide (h∈l))) w'):
 bk prog cG.id #[.slice A n c,.agg h.1] w K:=by
 refine cG.of ?_;unfold cG.W;intro w3;have k3:Kept Nil w w3:=(Kept.refl Nil w).alloc _;have pB:w3.heap[w.heap.size]? =some (.cells h.1 aj (0,0)):=aJ w _;clear_value w3;have hlen:=hl.len;refine cG.cf (I:=fun s w'=>∃i:Nat,s=(false,(i:Int))/\i<=n/\Kept Nil w3 w'/\h∉l.take i) (μ:=fun s _=>((n:Int)-s.2).toNat) (s:=(false,0)) ⟨0,rfl,Nat.zero_le _,Kept.refl _ _,by simp⟩ ?_;rintro s w' ⟨i,rfl,hi,kw,mP⟩;refine Split.dec (fun cH=>?_) (fun fV=>?_)
 ·simp only at cH
  have dQ:i<n:=by omega
  obtain⟨x,hx⟩:∃x,l[i]? =some x:=⟨_,List.getElem?_eq_getElem (by omega)⟩;have kk:Kept Nil w w'.drew:=(k3.tt kw).drew;obtain⟨a,rfl,_,hc⟩:=(hl.same kk).at_ i x hx;intro w8;have k8:Kept Nil w3 w8:=kw.drew;refine⟨⟨by simp only;omega,by simp only;omega⟩,x.1,⟨x.2.1,hc⟩,h.1,⟨h.2.1,Cells.bC (k8.heap pB (fun h=>h))⟩,⟨x.2.ints,h.2.ints⟩,?_⟩;rw [du];have PZ:Kept Nil w w8:=kk;refine Split.dec (fun he=>?_) (fun he=>?_)
  ·have:=hK w8 PZ
   rw [decide_eq_true (by rw [<-he];exact List.mem_of_getElem? hx)]at this;exact this
  ·simp only
   rw [gU (x:=(i:Int)+1) (by omega) (by omega)];refine⟨(false,(i:Int)+1),rfl,⟨i+1,rfl,dQ,k8,?_⟩,by simp only;omega⟩;rw [List.take_add_one,hx];simp only [Option.toList_some,List.mem_append,List.mem_singleton,not_or];exact⟨mP,fun e=>he e.symm⟩
 ·simp only at fV
  rw [aP,cG.dh];have:=hK w' (k3.tt kw);rw [List.take_of_length_le (by omega)]at mP;rw [decide_eq_false mP]at this;exact this
theorem vZ{A A':Option Addr}{n n' c c':Nat}{l l':List HT}(hl:HS w A n l)(hl':HS w A' n' l')(hn:n<=1000000)(hK:∀w',Kept Nil w w'->K (.bool (decide (l=l'))) w'):
 bk prog bW.id #[.slice A n c,.slice A' n' c'] w K:=by
 have hlen:=hl.len;have Hm:=hl'.len;refine bW.of ?_;by_cases fC:n=n'
 ·subst fC
  refine Split.no (by simp) ?_;refine bW.cf (I:=fun s w'=>∃i:Nat,s=(false,(i:Int))/\i<=n/\Kept Nil w w'/\l.take i=l'.take i) (μ:=fun s _=>((n:Int)-s.2).toNat) (s:=(false,0)) ⟨0,rfl,Nat.zero_le _,Kept.refl _ _,by simp⟩ ?_;rintro s w' ⟨i,rfl,hi,kw,heq⟩;refine Split.dec (fun cH=>?_) (fun fV=>?_)
  ·simp only at cH
   have dQ:i<n:=by omega
   obtain⟨x,hx⟩:∃x,l[i]? =some x:=⟨_,List.getElem?_eq_getElem (by omega)⟩;obtain⟨y,hy⟩:∃y,l'[i]? =some y:=⟨_,List.getElem?_eq_getElem (by omega)⟩;have kk:Kept Nil w w'.drew:=kw.drew;obtain⟨a,rfl,_,hc⟩:=(hl.same kk).at_ i x hx;obtain⟨a',rfl,_,sW⟩:=(hl'.same kk).at_ i y hy;intro w7;have k7:Kept Nil w w7:=kk;have hb:0<=(i:Int)/\(i:Int)<(n:Int):=⟨by omega,by omega⟩;refine⟨hb,x.1,⟨x.2.1,hc⟩,hb,y.1,⟨y.2.1,sW⟩,⟨x.2.ints,y.2.ints⟩,?_⟩;rw [du];by_cases he:x=y
   ·refine Split.no (by simp [he]) ?_
    simp only;rw [gU (x:=(i:Int)+1) (by omega) (by omega)];refine⟨(false,(i:Int)+1),rfl,⟨i+1,rfl,dQ,k7,?_⟩,by simp only;omega⟩;rw [List.take_add_one,List.take_add_one,hx,hy,heq,he]
   ·refine Split.yes (by simp [he]) ?_
    have:=hK w7 k7;rw [decide_eq_false (fun e=>he (by rw [e,hy]at hx;exact(Option.some.inj hx).symm))]at this;exact this
  ·simp only at fV
   rw [aP,bW.dh];have:=hK w' kw;rw [List.take_of_length_le (by omega),List.take_of_length_le (by omega)]at heq;rw [decide_eq_true heq]at this;exact this
 ·refine Split.yes (by simp;omega) ?_
  have:=hK w (Kept.refl _ _);rw [decide_eq_false (fun e=>fC (by rw [<-hlen,<-Hm,e]))]at this;exact this
end
def kI(a b:HT):Int:=if cH a b then-1 else if cH b a then 1 else 0
theorem uj:∀(i:Nat) (a b:List Int),a.take i=b.take i->tm a b=tm (a.drop i) (b.drop i)
 |0,a,b,_=>rfl
 |i+1,[],[],_=>rfl
 |i+1,[],y::b,h=>by simp at h
 |i+1,x::a,[],h=>by simp at h
 |i+1,x::a,y::b,h=>by
  simp only [List.take_succ_cons,List.cons.injEq]at h;obtain⟨rfl,h⟩:=h;simp only [tm,List.drop_succ_cons];rw [if_neg (by omega),if_neg (by omega)];exact uj i a b h
theorem xh{h:HT}{i:Nat}(hi:i<32):∃x:Int,h.1[i]? =some (.int .u8 x)/\(key h)[i]? =some x/\0<=x/\x<256:=by
 have hs:i<h.1.size:=by rw [h.2.1];exact hi
 obtain⟨x,hx,h1,h2⟩:=h.2.2 h.1[i] (by simp);refine⟨x,by rw [Array.getElem?_eq_getElem hs,hx],?_,h1,h2⟩;unfold key;rw [List.getElem?_map,Array.getElem?_toList,Array.getElem?_eq_getElem hs,hx];rfl
section
variable{w:World}{K:Value->World->Prop}
theorem sq(a b:HT)(hK:∀w',Kept Nil w w'->K (.int .i64 (kI a b)) w'):bk prog bD.id #[.agg a.1,.agg b.1] w K:=by
 refine bD.of ?_;unfold bD.W;intro w3 w4;have k3:Kept Nil w w3:=(Kept.refl Nil w).alloc _;have k4:Kept Nil w w4:=k3.alloc _;have xv:w4.heap[w.heap.size]? =some (.cells a.1 aj (0,0)):=iU (aJ w _) _;have rj:w4.heap[w3.heap.size]? =some (.cells b.1 aj (0,0)):=aJ w3 _;clear_value w4;refine bD.cf (I:=fun s w'=>∃i:Nat,s=(0,(i:Int))/\i<=32/\Kept Nil w4 w'/\(key a).take i=(key b).take i) (μ:=fun s _=>(32-s.2).toNat) (s:=(0,0)) ⟨0,rfl,by omega,Kept.refl _ _,by simp⟩ ?_;rintro s w' ⟨i,rfl,hi,kw,heq⟩;refine Split.dec (fun jb=>?_) (fun fV=>?_)
 ·simp only at jb
  have dQ:i<32:=by omega
  obtain⟨x,hx,kx,_⟩:=xh (h:=a) dQ;obtain⟨y,hy,ky,_⟩:=xh (h:=b) dQ;have e1:cH a b=tm ((key a).drop i) ((key b).drop i):=uj i _ _ heq;have e2:cH b a=tm ((key b).drop i) ((key a).drop i):=uj i _ _ heq.symm;have da:(key a).drop i=x::(key a).drop (i+1):=by
   obtain⟨h1,h2⟩:=lgeS kx;rw [List.drop_eq_getElem_cons h1,h2]
  have db:(key b).drop i=y::(key b).drop (i+1):=by
   obtain⟨h1,h2⟩:=lgeS ky;rw [List.drop_eq_getElem_cons h1,h2]
  rw [da,db]at e1 e2;simp only [tm]at e1 e2;intro w9;have k9:Kept Nil w4 w9:=kw.drew;clear_value w9;have hb:0<=(i:Int)/\(i:Int)<32:=⟨by omega,by omega⟩;have ca:∀ {w':World},Kept Nil w4 w'->w'.cell? ((⟨w.heap.size,0,none⟩:Addr).add ((i:Int).toNat*1))=some (.int .u8 x):=fun k=>by
   rw [a8,Nat.zero_add,Nat.mul_one,Int.toNat_natCast,ay (k.heap xv (fun h=>h))];exact hx
  have cb:∀ {w':World},Kept Nil w4 w'->w'.cell? ((⟨w3.heap.size,0,none⟩:Addr).add ((i:Int).toNat*1))=some (.int .u8 y):=fun k=>by
   rw [a8,Nat.zero_add,Nat.mul_one,Int.toNat_natCast,ay (k.heap rj (fun h=>h))];exact hy
  refine⟨hb,x,ca k9,hb,y,cb k9,Split.dec (fun nS=>?_) (fun nS=>?_)⟩
  ·have:=hK w9 (k4.tt k9)
   rw [show kI a b= -1 by unfold kI;rw [e1,if_pos nS];rfl]at this;exact this
  ·intro mc
   have xO:Kept Nil w4 mc:=k9.drew;clear_value mc;refine⟨hb,x,ca xO,hb,y,cb xO,Split.dec (fun CN=>?_) (fun CN=>?_)⟩
   ·have:=hK mc (k4.tt xO)
    rw [show kI a b=1 by unfold kI;rw [e1,e2,if_neg nS,if_pos (show y<x from CN),if_pos (show y<x from CN)];rfl]at this;exact this
   ·simp only
    rw [gU (x:=(i:Int)+1) (by omega) (by omega)];refine⟨(0,(i:Int)+1),rfl,⟨i+1,rfl,dQ,xO,?_⟩,by simp only;omega⟩;have:x=y:=by omega
    rw [List.take_add_one,List.take_add_one,kx,ky,heq,this]
 ·simp only at fV
  rw [aP,bD.dh];have:=hK w' (k4.tt kw);have lM:a=b:=by
   apply key_inj;rw [List.take_of_length_le (by rw [mf];omega),List.take_of_length_le (by rw [mf];omega)]at heq;exact heq
  rw [show kI a b=0 by unfold kI;rw [lM,gJ];rfl]at this;exact this
end
theorem Dd{x y:Int}(hx:0<=x/\x<256)(hy:0<=y/\y<256):(x.toNat.toUInt8<y.toNat.toUInt8)↔x<y:=by
 rw [UInt8.lt_iff_toNat_lt];simp only [Nat.toUInt8,UInt8.toNat_ofNat'];omega
theorem mT:∀ {a b:List Int},a.length=b.length->(∀x∈a,0<=x/\x<256)->(∀x∈b,0<=x/\x<256)->
 Lib.compareBytes (Lib.bytesOf a) (Lib.bytesOf b)=if tm a b then-1 else if tm b a then 1 else 0
 | [],[],_,_,_=>rfl
 | [],_::_,h,_,_=>by simp at h
 |_::_,[],h,_,_=>by simp at h
 |x::a,y::b,h,ha,hb=>by
  have hx:=ha x (by simp);have hy:=hb y (by simp);have ih:=mT (a:=a) (b:=b) (by simpa using h) (fun z hz=>ha z (by simp [hz])) (fun z hz=>hb z (by simp [hz]));simp only [Lib.bytesOf,List.map_cons,Lib.compareBytes,Dd hx hy,Dd hy hx,tm];by_cases h1:x<y
  ·simp [h1]
  ·by_cases h2:y<x
   ·simp [h1,h2]
   ·simp only [h1,h2,if_false]
    exact ih
theorem wm(h:HT):∀x∈key h,0<=x/\x<256:=by
 intro x hx;simp only [key,List.mem_map]at hx;obtain⟨v,hv,rfl⟩:=hx;obtain⟨i,rfl,h1,h2⟩:=h.2.2 v hv;exact⟨h1,h2⟩
theorem qT(a b:HT):Lib.compareBytes (Lib.bytesOf (key a)) (Lib.bytesOf (key b))=kI a b:=
 mT (by rw [mf,mf]) (wm a) (wm b)
section
variable{w:World}{K:Value->World->Prop}
theorem rW(a b:HT){p q:Addr}{c c':Nat}(ha:Cells w p a.1)(hb:Cells w q b.1)(hK:K (.int .i64 (kI a b)) w):
 bk prog gL.id #[.slice (some p) 32 c,.slice (some q) 32 c'] w K:=by
 refine gL.of ⟨.int .i64 (kI a b),w,?_,_,rfl,hK⟩;have zl:∀(h:HT) (r:Addr),Cells w r h.1->∀j x,(key h)[j]? =some x->w.cell? (r.add j)=some (.int .u8 x):=by
  intro h r hr j x hx;have hj:j<32:=by have:=(lgeS hx).1;rw [mf]at this;exact this
  obtain⟨y,hy,ky,_⟩:=xh (h:=h) hj;rw [hx]at ky;cases ky;exact hr j _ hy
 have l1:=Lib.run_loadBytesX (P:=prog) w (key a) p .empty (zl a p ha);have l2:=Lib.run_loadBytesX (P:=prog) w (key b) q .empty (zl b q hb);rw [mf]at l1 l2;rw [run_callFunc_extern sX.at_ (by kernel_rfl) (by kernel_rfl) (by kernel_rfl) (e:=Extern.BytealgCompare.compare) (by kernel_rfl)];have hr:(Extern.BytealgCompare.compare #[.slice (some p) 32 c,.slice (some q) 32 c']).run prog w=.ok (.int .i64 (kI a b)) w:=by
  change Sem.run prog (do pure (goInt (Extern.BytealgCompare.cmp (<-Extern.Bytes.bytesOf (.slice (some p) 32 c)) (<-Extern.Bytes.bytesOf (.slice (some q) 32 c'))))) w=_
  simp only [Extern.Bytes.bytesOf,Sem.run_bind,l1,l2,Result.andThen_ok,Sem.run_pure,Lib.cmp_eq,goInt];rw [<-qT];simp
 rw [hr];rfl
theorem oZ(a b:HT)(hK:K (.int .i64 (kI a b)) ((w.alloc (.cells a.1 aj)).alloc (.cells b.1 aj)).drew):bk prog dz.id #[.agg a.1,.agg b.1] w K:=by
 refine dz.of ?_;unfold dz.W;intro w3 w4 w5;have ha:w5.heap[w.heap.size]? =some (.cells a.1 aj (0,0)):=iU (aJ w _) _;have hb:w5.heap[w3.heap.size]? =some (.cells b.1 aj (0,0)):=aJ w3 _;simp only [if_neg (show ¬(32:Nat)=0 by omega),Nat.zero_mul,add_zero,Nat.sub_zero];exact rW a b (Cells.bC ha) (Cells.bC hb) ⟨_,rfl,hK⟩
end
theorem kK(a:Addr)(m n:Nat):(a.add m).add n=a.add (m+n):=by
 unfold Addr.add;by_cases hm:m=0<;>by_cases hn:n=0<;>simp [hm,hn,Nat.add_assoc]
def dc(l:List HT):List Value:=l.flatMap fun h=>h.1.toList
theorem kF(h:HT)(l:List HT):dc (h::l)=h.1.toList++dc l:=by simp [dc]
theorem lL(l m:List HT):dc (l++m)=dc l++dc m:=by simp [dc]
theorem eI:∀l:List HT,(dc l).length=l.length*32
 | []=>rfl
 |h::l=>by
  have:=h.2.1;rw [kF,List.length_append,eI l,Array.length_toList,this,List.length_cons];omega
theorem Bt(l:List HT):∀u∈dc l,u.oneCell'=true:=by
 intro u hu;simp only [dc,List.mem_flatMap]at hu;obtain⟨h,_,hu⟩:=hu;exact h.2.one u hu
theorem kc:∀ {l:List HT} {i:Nat} {h:HT},l[i]? =some h->∀ {j:Nat} {v:Value},h.1[j]? =some v->(dc l)[i*32+j]? =some v
 | [],_,_,hi,_,_,_=>by simp at hi
 |x::l,0,h,hi,j,v,hj=>by
  simp only [List.getElem?_cons_zero,Option.some.injEq]at hi;subst hi;have cH:j<x.1.toList.length:=by simpa using (Array.getElem?_eq_some_iff.1 hj).1
  rw [kF,Nat.zero_mul,Nat.zero_add,List.getElem?_append_left cH,Array.getElem?_toList,hj]
 |x::l,i+1,h,hi,j,v,hj=>by
  simp only [List.getElem?_cons_succ]at hi;have:=x.2.1;rw [kF,List.getElem?_append_right (by simp;omega),Array.length_toList,this,show(i+1)*32+j-32=i*32+j by omega];exact kc hi hj
theorem EE{l:List HT}{j:Nat}{v:Value}(h:(dc l)[j]? =some v):∃x,l[j/32]? =some x/\x.1[j%32]? =some v:=by
 have hj:=(lgeS h).1;rw [eI]at hj;have hi:j/32<l.length:=by omega
 refine⟨l[j/32],List.getElem?_eq_getElem hi,?_⟩;have hs:=l[j/32].2.1;have hm:j%32<l[j/32].1.size:=by rw [hs];omega
 obtain⟨u,hu⟩:∃u,l[j/32].1[j%32]? =some u:=⟨_,Array.getElem?_eq_getElem hm⟩;have:=kc (List.getElem?_eq_getElem hi) hu;rw [show j/32*32+j%32=j by omega,h]at this;rw [hu,this]
theorem ow:xY prog az aj 32 32:=⟨by kernel_rfl,by kernel_rfl⟩
abbrev bQ(w:World)(B:Nat)(A:Option Addr)(n c:Nat)(l:List HT):Prop:=Row w B aj 32 A n c (dc l)
section
variable{w w':World}{B:Nat}{A:Option Addr}{n c:Nat}{l:List HT}
theorem bQ.len(h:bQ w B A n c l):l.length=n:=by
 have:=Row.len h;rw [eI]at this;omega
theorem bQ.hs(h:bQ w B A n c l):HS w A n l:=⟨h.len,fun i x hi=>by
 have hlen:=h.len;have dQ:=(lgeS hi).1;obtain⟨b,rfl⟩:=Row.some h (by omega);obtain⟨_,cur,oQ⟩:=Row.bC h (k:=b) rfl;refine⟨_,rfl,aQ oQ,fun j v hj=>?_⟩;rw [kK];exact Row.cells h _ _ (kc hi hj)⟩
theorem bQ.nil(w:World)(B:Nat):bQ w B none 0 0 []:=Row.nil _ _ _ _
theorem HS.cells{a:Addr}(h:HS w (some a) n l):∀j u,(dc l)[j]? =some u->w.cell? (a.add j)=some u:=by
 intro j u hj;obtain⟨x,hx,hu⟩:=EE hj;obtain⟨a',ha,_,hc⟩:=h.at_ _ x hx;cases ha;have:=hc _ _ hu
 rwa [kK,show j/32*32+j%32=j by omega]at this
theorem HS.nil(w:World)(A:Option Addr):HS w A 0 []:=⟨rfl,fun i x hi=>by simp at hi⟩
theorem HS.none(h:HS w none n l):n=0/\l= []:=by
 cases l with
 |nil=>exact⟨h.len.symm,rfl⟩
 |cons x l=>obtain⟨a,ha,_⟩:=h.at_ 0 x rfl;cases ha
theorem HS.take(h:HS w A n l){k:Nat}(hk:k<=n):HS w A k (l.take k):=⟨by have:=h.len;simp;omega,fun i x hi=>by
 rw [List.getElem?_take]at hi;split at hi
 ·exact h.at_ i x hi
 ·cases hi⟩
theorem HS.drop(h:HS w A n l){k:Nat}(hc:n<=c)(hk:k<=n):HS w (if c=k then A else A.map (·.add (k*32))) (n-k) (l.drop k):=⟨by have:=h.len;simp;omega,fun i x hi=>by
 rw [List.getElem?_drop]at hi;have hlen:=h.len;have:=(lgeS hi).1;obtain⟨a,rfl,hb,qh⟩:=h.at_ _ x hi;rw [if_neg (by omega)];refine⟨_,rfl,by rw [eJ];exact hb,?_⟩;rw [kK,<-Nat.add_mul];exact qh⟩
theorem HS.one{w:World}{b:Nat}{h:HT}{t:TypeId}{fr:Nat×Nat}(hb:w.heap[b]? =some (.cells h.1 t fr)):HS w (some ⟨b,0,Option.none⟩) 1 [h]:=⟨rfl,fun i x hi=>by
 cases i with
 |zero=>
  simp only [List.getElem?_cons_zero,Option.some.injEq]at hi;subst hi;exact⟨_,rfl,aQ hb,by rw [Nat.zero_mul,add_zero];exact Cells.bC hb⟩
 |succ i=>simp at hi⟩
theorem cD(ty:Nat)(h:bQ w B A n c l){A2:Option Addr}{m cx:Nat}{l2:List HT}(h2:HS w A2 m l2)(hm:n+m<=1000000)(hB:B<=w.heap.size):
 ∃A' c' w',(Builtin.append_ #[az,az] ty #[.slice A n c,.slice A2 m cx]).run prog w=.ok (.slice A' (n+m) c') w'/\
  bQ w' B A' (n+m) c' (l++l2)/\w.grownBy w' (bg A)/\(∀k,bg A'=some k->bg A=some k\/w.heap.size<=k):=by
 cases A2 with
 |some a=>
  have ri:=h2.len;obtain⟨A',c',w',hr,e8,hg,hb⟩:=fi (P:=prog) (t:=az) (bytes:=32) (ty:=ty) ow h (a:=a) (m:=m) (cx:=cx) (news:=dc l2) (by rw [eI,ri]) h2.cells (Bt l2) (by omega) (by unfold maxLen;omega) hB;refine⟨A',c',w',hr,?_,hg,hb⟩;rw [<-lL]at e8;exact e8
 |none=>
  obtain⟨rfl,rfl⟩:=h2.none;refine⟨A,c,w,?_,by simpa using h,⟨rfl,rfl,rfl,Nat.le_refl _,fun _ _ _=>rfl⟩,fun k hk=>.inl hk⟩;obtain⟨i,z,hi,hz,hs,IJ,CL⟩:=ow.inf;have hn:n<=c:=by rcases Row.own h with⟨_,h1,h2,_⟩|⟨_,_,_,_,_,h1,_⟩<;>omega
  simp [Builtin.append_,run_underlying ow.oc,sizeOf,typeInfo,hi,Builtin.lenOf,Builtin.firstCells,hn];cases A<;>simp [storeCells]
end
theorem HS.load{w:World}{A:Option Addr}{n:Nat}{l:List HT}(hl:HS w A n l){i:Int}{x:HT}(h0:0<=i)(hx:l[i.toNat]? =some x){k:Array Value->Prop}(hk:k x.1):
 (0<=i/\i<(n:Int))/\Is A fun a=>∃t:Array Value,(t.size=32/\Cells w (a.add (i.toNat*32)) t)/\k t:=by
 obtain⟨a,rfl,_,hc⟩:=hl.at_ _ x hx;have:=(lgeS hx).1;have:=hl.len;exact⟨⟨h0,by omega⟩,x.1,⟨x.2.1,hc⟩,hk⟩
theorem qU{a b:HT}:(kI a b<0)↔cH a b=true:=by
 unfold kI;by_cases h:cH a b=true
 ·simp [h]
 ·by_cases h':cH b a=true<;>simp [h,h']
theorem dq{n:Int}(h0:0<=n)(h1:n<=2000000):i64.wrap (n+1)=n+1:=gU (by omega) (by omega)
theorem wrapM{n:Int}(h0:0<=n)(h1:n<=2000000):i64.wrap (n-1)=n-1:=gU (by omega) (by omega)
theorem Kept.dM{w w' lf:World}{A:Option Addr}(h:Kept Nil w w')(hg:w'.grownBy lf (bg A))(hr:∀k,bg A=some k->w.heap.size<=k):Kept Nil w lf:=
 Kept.grown h hg fun k hk cH=>absurd (hr k hk) (by omega)
section
variable{w:World}{K:Value->World->Prop}
theorem nu{A:Option Addr}{n c:Nat}{l:List HT}(hl:HS w A n l)(hn:n<=400000)
 (hK:∀A' c' w',bQ w' w.heap.size A' (de l).length c' (de l)->Kept Nil w w'->K (.slice A' (de l).length c') w'):
 bk prog aM.id #[.slice A n c] w K:=by
 refine aM.of ?_;have hlen:=hl.len;refine aM.cf (I:=fun s w'=>∃(i:Nat) (out:List HT) (B:Option Addr) (m:Nat),s=(B,out.length,m,(i:Int))/\i<=n/\bQ w' w.heap.size B out.length m out/\SS out/\(∀x,x∈out↔x∈l.take i)/\out.length<=i/\Kept Nil w w')
  (μ:=fun s _=>((n:Int)-s.2.2.2).toNat) (s:=(none,0,0,0)) ⟨0,[],none,0,rfl,Nat.zero_le _,bQ.nil _ _,List.Pairwise.nil,by simp,by simp,Kept.refl _ _⟩ ?_
 rintro s w' ⟨i,out,B,m,rfl,hi,row,tp,gB,hol,kw⟩;refine Split.dec (fun jb=>?_) (fun fV=>?_)
 ·simp only at jb
  have dQ:i<n:=by omega
  obtain⟨x,hx⟩:∃x,l[i]? =some x:=⟨_,List.getElem?_eq_getElem (by omega)⟩;refine(hl.same kw).load (i:=(i:Int)) (by omega) hx (wY x row.hs (by simp only;omega) fun w9 k9=>⟨_,rfl,?_⟩);simp only;have Ru:Kept Nil w w9:=kw.tt k9;have Q3:bQ w9 w.heap.size B out.length m out:=Row.aC row k9 (fun _ _ h=>h);have xQ:l.take (i+1)=l.take i++ [x]:=by rw [List.take_add_one,hx];rfl
  refine Split.dec (fun fF=>?_) (fun mP=>?_)
  ·rw [dq (n:=(i:Int)) (by omega) (by omega)]
   refine⟨(B,out.length,m,(i:Int)+1),rfl,⟨i+1,out,B,m,rfl,dQ,Q3,tp,fun y=>?_,by omega,Ru⟩,by simp only;omega⟩;rw [xQ,List.mem_append,List.mem_singleton,<-gB y];constructor
   ·exact .inl
   ·rintro(h|rfl)
    ·exact h
    ·exact fF
  ·refine aM.gz (I:=fun s w'=>∃k:Nat,s=(k:Int)/\k<=out.length/\(∀y∈out.drop k,cH x y=true)/\Kept Nil w9 w') (μ:=fun s _=>s.toNat) (s:=(out.length:Int)) ⟨out.length,rfl,Nat.le_refl _,by simp,Kept.refl _ _⟩ ?_
   rintro s w1 ⟨k,rfl,hk,uB,k1⟩;have LS:HS w1 A n l:=(hl.same Ru).same k1;have wV:bQ w1 w.heap.size B out.length m out:=Row.aC Q3 k1 (fun _ _ h=>h);have kx:Kept Nil w w1:=Ru.tt k1;have uA:∀w1,HS w1 A n l->bQ w1 w.heap.size B out.length m out->Kept Nil w w1->(∀y∈out.take k,cH y x=true)->
    aM.gY A n c none 0 0 B out.length m (i:Int) (k:Int) (bI (aM.e1 A n c none 0 0) (fun s w'=>∃(i:Nat) (out:List HT) (B:Option Addr) (m:Nat),s=(B,out.length,m,(i:Int))/\i<=n/\bQ w' w.heap.size B out.length m out/\SS out/\(∀x,x∈out↔x∈l.take i)/\out.length<=i/\Kept Nil w w') (fun s _=>((n:Int)-s.2.2.2).toNat) (B,out.length,m,(i:Int)) w' (aM.q1 K)) w1:=by
    intro w1 LS wV kx G3;have Hr:out.length<=m:=by rcases Row.own wV with⟨_,h1,h2,_⟩|⟨_,_,_,_,_,h1,_⟩<;>omega
    have kY:=kx.size;unfold aM.gY;refine⟨⟨by omega,by omega⟩,?_⟩;have xn:HS w1 (if m=0 then B else B.map (·.add (0*32))) ((k:Int).toNat -0) (out.take k):=by
     have h:=wV.hs.take hk;rw [Nat.sub_zero,Int.toNat_natCast];have e:(if m=0 then B else B.map (·.add (0*32)))=B:=by
      split
      ·rfl
      ·cases B<;>simp [add_zero]
     rw [e];exact h
    obtain⟨A1,c1,w2,kQ,fz,Kl,kZ⟩:=cD (cx:=m-0) az (bQ.nil w1 w.heap.size) xn (by simp;omega) kY;have k2:Kept Nil w1 w2:=Kept.dM (Kept.refl _ _) Kl (fun k hk=>by cases hk);rw [Nat.zero_add,Nat.sub_zero,Int.toNat_natCast]at kQ fz;rw [List.nil_append]at fz;refine⟨A1,_,c1,w2,by rw [Nat.sub_zero,Int.toNat_natCast];exact kQ,?_⟩;have ri:=LS.same k2;refine ri.load (i:=(i:Int)) (by omega) hx ⟨x.2.1,?_⟩;intro w3;have k3:Kept Nil w2 w3:=(Kept.refl _ _).alloc _;have iq:HS w3 (some ⟨w2.heap.size,0,none⟩) 1 [x]:=by
     refine HS.one (t:=aj) (fr:=(0,0)) ?_;have e3:w3=w2.alloc (.cells x.1 aj):=by
      show w2.alloc (.cells (x.1.toList++ []).toArray aj)=_
      simp
     rw [e3];exact aJ w2 _
    clear_value w3;have lX:bQ w3 w.heap.size A1 k c1 (out.take k):=Row.aC fz k3 (fun _ _ h=>h);have Y8:w.heap.size<=w3.heap.size:=Nat.le_trans (Nat.le_trans kY k2.size) k3.size;obtain⟨A4,c4,w4,xR,jI,C1,rj⟩:=cD (cx:=1) az lX iq (by omega) Y8;have k4:Kept Nil w1 w4:=Kept.dM (k2.tt k3) C1 (fun k hk=>by rcases kZ k hk with h|h;cases h;exact h);refine⟨A4,_,c4,w4,xR,⟨by omega,by omega⟩,?_⟩;have Qf:HS w4 (if m=(k:Int).toNat then B else B.map (·.add ((k:Int).toNat*32))) (out.length-(k:Int).toNat) (out.drop k):=by
     rw [Int.toNat_natCast];exact(wV.hs.same k4).drop Hr hk
    have hdl:(out.length-(k:Int).toNat)=out.length-k:=by rw [Int.toNat_natCast]
    obtain⟨A5,c5,w5,sT,kO,TS,nz⟩:=cD (cx:=m-(k:Int).toNat) az jI Qf (by omega) (Nat.le_trans kY k4.size);have k5:Kept Nil w1 w5:=Kept.dM k4 TS (fun b hb=>by
     rcases rj b hb with h|h
     ·rcases kZ b h with h|h
      ·cases h
      ·exact h
     ·exact Nat.le_trans (Nat.le_trans k2.size k3.size) h)
    refine⟨A5,_,c5,w5,sT,?_⟩;rw [dq (n:=(i:Int)) (by omega) (by omega)];have mu:out.take k++ [x]++out.drop k=out.take k++x::out.drop k:=by simp
    have xS:(out.take k++x::out.drop k).length=out.length+1:=by simp;omega
    rw [mu]at kO;have e5:k+1+(out.length-(k:Int).toNat)=(out.take k++x::out.drop k).length:=by rw [xS];omega
    rw [e5]at kO⊢;refine⟨(A5,(out.take k++x::out.drop k).length,c5,(i:Int)+1),rfl,⟨i+1,_,A5,c5,rfl,dQ,kO,Ik tp G3 uB,fun y=>?_,by omega,kx.tt k5⟩,by simp only;omega⟩;rw [show y∈l.take (i+1)↔y∈out\/y=x by rw [xQ,List.mem_append,List.mem_singleton,gB y],List.mem_append,List.mem_cons];constructor
    ·rintro(h|rfl|h)
     ·exact .inl (List.mem_of_mem_take h)
     ·exact .inr rfl
     ·exact .inl (List.mem_of_mem_drop h)
    ·rintro(h|rfl)
     ·rw [<-List.take_append_drop k out,List.mem_append]at h
      rcases h with h|h
      ·exact .inl h
      ·exact .inr (.inr h)
     ·exact .inr (.inl rfl)
   unfold aM.B2;intro w2;have k2:Kept Nil w1 w2:=(Kept.refl _ _).drew;clear_value w2;have ri:=LS.same k2;have fz:bQ w2 w.heap.size B out.length m out:=Row.aC wV k2 (fun _ _ h=>h);have kx2:=kx.tt k2;refine Split.dec (fun iX=>?_) (fun zi=>?_)
   ·have pS:0<k:=by omega
    obtain⟨y,hy⟩:∃y,out[k-1]? =some y:=⟨_,List.getElem?_eq_getElem (by omega)⟩;rw [wrapM (n:=(k:Int)) (by omega) (by omega)];refine ri.load (i:=(i:Int)) (by omega) hx (fz.hs.load (by omega) (by rw [show((k:Int)-1).toNat=k-1 by omega];exact hy) (sq x y fun w3 k3=>⟨_,rfl,?_⟩));refine Split.dec (fun hc=>?_) (fun hc=>?_)
    ·refine⟨(k:Int)-1,rfl,⟨k-1,by omega,by omega,fun z hz=>?_,(k1.tt k2).tt k3⟩,by simp only;omega⟩
     have hd:out.drop (k-1)=y::out.drop k:=by
      obtain⟨h1,h2⟩:=lgeS hy;rw [List.drop_eq_getElem_cons h1,h2,show k-1+1=k by omega]
     rw [hd]at hz;rcases List.mem_cons.1 hz with rfl|hz
     ·exact qU.1 hc
     ·exact uB z hz
    ·rw [aP,aM.jB]
     refine uA w3 (ri.same k3) (Row.aC fz k3 (fun _ _ h=>h)) (kx2.tt k3) fun z hz=>?_;have CN:cH y x=true:=by
      have h1:cH x y=false:=by
       cases h:cH x y
       ·rfl
       ·exact absurd (qU.2 h) hc
      refine lt_of_le_ne h1 fun e=>mP ?_;rw [<-e];exact List.mem_of_getElem? hy
     obtain⟨j,hj⟩:=List.mem_iff_getElem?.1 hz;rw [List.getElem?_take]at hj;split at hj
     ·rename_i Ww
      by_cases e:j=k-1
      ·subst e;rw [hy]at hj;cases hj;exact CN
      ·exact jz (tp.get (by omega) hj hy) CN
     ·cases hj
   ·rw [aP,aM.jB]
    have pS:k=0:=by omega
    refine uA w2 ri fz kx2 fun z hz=>?_;rw [pS]at hz;simp at hz
 ·simp only at fV
  have:i=n:=by omega
  subst this;rw [aP,aM.dh];have e:out=de l:=wT tp fun x=>by rw [gB,List.take_of_length_le (by omega)]
  rw [e]at row;have:=hK B m w' row kw;rw [<-e]at this;exact this
end
theorem iV{w:World}{k l:Nat}{cs:Array Value}{t:TypeId}{fr:Nat×Nat}{R:Loop}(h:w.heap[k]? =some (.cells cs t fr))(h':w.heap[l]? =some (.loop R)):k≠l:=by
 rintro rfl;rw [h]at h';cases h'
theorem qJ{w:World}{k l:Nat}{cs:Array Value}{t:TypeId}{fr:Nat×Nat}{d:Option (List Deferred)}(h:w.heap[k]? =some (.cells cs t fr))(h':w.heap[l]? =some (.deferred d)):k≠l:=by
 rintro rfl;rw [h]at h';cases h'
theorem Row.apart{w w':World}{B:Nat}{e:TypeId}{size:Nat}{A:Option Addr}{n c:Nat}{xs:List Value}(h:Row w B e size A n c xs){l:Nat}(hk:Kept (· =l) w w')
 (hl:∀cs t fr,w.heap[l]? ≠some (.cells cs t fr)):Row w' B e size A n c xs:=Row.aC h hk fun k hb e=>by
 subst e;obtain⟨_,cur,hc⟩:=Row.bC h hb;exact hl _ _ _ hc
abbrev pJ(h:HT):List Value:= [.agg h.1]
section
variable{w:World}{K:Value->World->Prop}
theorem yg(p:Addr){A:Option Addr}{n c:Nat}{l:List HT}(hn:n<=1000000):
 nf prog aF.id #[] #[.pointer (some p)] (l.map pJ) (fun w=>HS w A n l/\w.cell? p=some (.slice A n c)):=by
 intro y I D w0 hI hD qS h0 qf;refine aF.of ?_;obtain⟨CW,Qj⟩:=qS 0 w0 h0;have hlen:=CW.len;refine⟨A,n,c,Qj,?_⟩;refine aF.cf (I:=fun s w'=>∃i:Nat,s=(i:Int)/\i<=n/\I i w') (μ:=fun s _=>((n:Int)-s).toNat) (s:=0) ⟨0,rfl,Nat.zero_le _,h0⟩ ?_;rintro s w' ⟨i,rfl,hi,hw⟩;refine Split.dec (fun jb=>?_) (fun fV=>?_)
 ·have dQ:i<n:=by omega
  obtain⟨x,hx⟩:∃x,l[i]? =some x:=⟨_,List.getElem?_eq_getElem (by omega)⟩;have hl:=(qS i w' hw).1;refine hl.load (i:=(i:Int)) (by omega) hx ?_;intro w10;obtain⟨qR,hb,hk⟩:=gg (w:=w') (z:=(#[.int .u8 0,.int .u8 0,.int .u8 0,.int .u8 0,.int .u8 0,.int .u8 0,.int .u8 0,.int .u8 0,.int .u8 0,.int .u8 0,.int .u8 0,.int .u8 0,.int .u8 0,.int .u8 0,.int .u8 0,.int .u8 0,.int .u8 0,.int .u8 0,.int .u8 0,.int .u8 0,.int .u8 0,.int .u8 0,.int .u8 0,.int .u8 0,.int .u8 0,.int .u8 0,.int .u8 0,.int .u8 0,.int .u8 0,.int .u8 0,.int .u8 0,.int .u8 0]:Array Value)) (cs:=x.1) (t:=aj) (by rw [x.2.1];rfl);refine⟨⟨x.2.1,x.2.one,fun j hj=>qR j (by rw [x.2.1];exact hj)⟩,?_⟩;intro lV
  replace hb:lV.heap[w'.heap.size]? =some (.cells x.1 aj (0,0)):=hb
  replace hk:Kept Nil w' lV:=hk
  clear_value lV;refine⟨x.1,⟨x.2.1,Cells.bC hb⟩,?_⟩;refine(qf i (pJ x) lV (by rw [List.getElem?_map,hx];rfl) (hI i w' lV hw hk)).mono ?_;rintro b lf ⟨ht,hf⟩;cases b with
  |true=>
   refine Split.no rfl ?_;rw [dq (n:=(i:Int)) (by omega) (by omega)];exact⟨(i:Int)+1,rfl,⟨i+1,rfl,dQ,ht rfl⟩,by simp only;omega⟩
  |false=>
   refine Split.yes rfl ?_;exact Or.inr (hf rfl)
 ·rw [aP,aF.dh]
  have e:i=n:=by omega
  subst e;refine Or.inl ?_;rw [List.length_map,hlen];exact hw
theorem vI{gf:FuncId}{gE:Array Value}{xs:List HT}{fn:Func}(IH:prog.funcs[gf]? =some fn)(hb:fn.body.isSome){IP:World->Prop}
 (hit:nf prog gf #[] gE (xs.map pJ) IP) (hp:∀w',Kept Nil w w'->IP w') (JJ:xs.length<=1000000)
 (hK:∀A c w',bQ w' w.heap.size A xs.length c xs->Kept Nil w w'->K (.slice A xs.length c) w'):
 bk prog aL.id #[.slice none 0 0,.func (.func gf) #[] gE] w K:=by
 refine aL.of ?_;unfold aL.W;intro w3;have k3:Kept Nil w w3:=(Kept.refl Nil w).alloc _;have pB:w3.heap[w.heap.size]? =some (.cells #[.slice none 0 0] az (0,0)):=aJ w _;have Bc:w.heap.size<w3.heap.size:=aQ pB;clear_value w3
 let ρ0:Env:= [(2,.pointer (some (⟨w.heap.size,0,none⟩:Addr))),(4,.slice none 0 0),(6,.func (.func gf) #[] gE)]
 let J:Nat->World->Prop:=fun i w'=>∃A c,w'.heap[w.heap.size]? =some (.cells #[.slice A i c] az (0,0))/\bQ w' w.heap.size A i c (xs.take i)/\Kept Nil w w'/\i<=xs.length/\∀k,bg A=some k->k≠w.heap.size
 refine lH (ρ:=ρ0) (ρ0:=ρ0) ng mix aL.k (t:=6) (ps:= #[7]) (by kernel_rfl) (by decide) rfl IH hb (.inl rfl) (fun i v _ h=>h) rfl pJ xs (fun _=>rfl) (by simp [gD]) hit J (fun _ _=>False) ?_ (fun _ _ _ _ _ h=>h.elim) (fun i w' h=>hp w' (let ⟨_,_,_,_,h,_⟩:=h;h)) ?_ ?_ ?_ (fun _ _ h=>h.elim) (fun _ _ _ h=>h.elim)
 ·rintro i w' lf R hl ⟨A,c,h1,h2,h3,h4,h5⟩ hk
  exact⟨A,c,hk.heap h1 (iV h1 hl.loop),Row.apart h2 hk (fun cs t fr h=>by rw [hl.loop]at h;cases h),h3.trans hk (fun k hk e=>by omega),h4,h5⟩
 ·intro R
  exact⟨none,0,iU (iU pB _) _,bQ.nil _ _,(k3.alloc _).alloc _,Nat.zero_le _,fun k hk=>by cases hk⟩
 ·rintro i x w' R hx ⟨A,c,h1,h2,h3,h4,h5⟩ hl
  have dQ:i<xs.length:=(lgeS hx).1;have e7:jX ρ0 ((#[7]:Array Nat).toList.zip (pJ x))= [(2,.pointer (some (⟨w.heap.size,0,none⟩:Addr))),(4,.slice none 0 0),(6,.func (.func gf) #[] gE),(7,.agg x.1)]:=rfl;rw [e7,aL.a1];unfold aL.A1;intro w8;obtain⟨qR,iD,iH⟩:=gg (w:=w') (z:=(#[.int .u8 0,.int .u8 0,.int .u8 0,.int .u8 0,.int .u8 0,.int .u8 0,.int .u8 0,.int .u8 0,.int .u8 0,.int .u8 0,.int .u8 0,.int .u8 0,.int .u8 0,.int .u8 0,.int .u8 0,.int .u8 0,.int .u8 0,.int .u8 0,.int .u8 0,.int .u8 0,.int .u8 0,.int .u8 0,.int .u8 0,.int .u8 0,.int .u8 0,.int .u8 0,.int .u8 0,.int .u8 0,.int .u8 0,.int .u8 0,.int .u8 0,.int .u8 0]:Array Value)) (cs:=x.1) (t:=aj) (by rw [x.2.1];rfl);refine⟨⟨x.2.1,x.2.one,fun j hj=>qR j (by rw [x.2.1];exact hj)⟩,?_⟩;intro vS
  replace iD:vS.heap[w'.heap.size]? =some (.cells x.1 aj (0,0)):=iD
  replace iH:Kept Nil w' vS:=iH
  clear_value vS;have Kb:=hl.aC iH (fun h=>h) (fun h=>h);refine⟨Kb,fun w2 R2 mE ri=>?_⟩;have aaP:=mE.heap iD (iV iD Kb.loop);have h1b:=iH.heap h1 (fun h=>h);have C9:=mE.heap h1b (iV h1b Kb.loop);have Bz:bQ w2 w.heap.size A i c (xs.take i):=Row.apart (Row.aC h2 iH (fun _ _ h=>h)) mE (fun cs t fr h=>by rw [Kb.loop]at h;cases h);have C6:Kept Nil w w2:=(h3.tt iH).trans mE (fun k hk e=>by omega);have cH:w.heap.size<w2.heap.size:=aQ C9;rw [aL.y1];unfold aL.Y1;refine⟨A,i,c,by rw [ay C9];rfl,x.1,⟨x.2.1,Cells.bC aaP⟩,x.2.1,?_⟩;intro iZ;have lj:Kept Nil w2 iZ:=(Kept.refl _ _).alloc _;have iq:HS iZ (some ⟨w2.heap.size,0,none⟩) 1 [x]:=by
   refine HS.one (t:=aj) (fr:=(0,0)) ?_;have e3:iZ=w2.alloc (.cells x.1 aj):=by
    show w2.alloc (.cells (x.1.toList++ []).toArray aj)=_
    simp
   rw [e3];exact aJ w2 _
  clear_value iZ;have Kx:bQ iZ w.heap.size A i c (xs.take i):=Row.aC Bz lj (fun _ _ h=>h);have abJ:=lj.heap C9 (fun h=>h);have ahz:=lj.size;obtain⟨A',c',vQ,hr,mH,hg,vB⟩:=cD (cx:=1) az Kx iq (by omega) (by omega);have Ho:Kept (fun k=>bg A=some k) iZ vQ:=Kept.grown (Kept.refl _ _) hg (fun k hk _=>hk);have Ky:=Ho.heap abJ (fun h=>h5 _ h rfl);have Oz:Live (w3.heap.size+1) w3.heap.size R2 vQ:=by
   have OB:=ri.aC lj (fun h=>h) (fun h=>h);refine OB.aC Ho ?_ ?_
   ·intro h
    obtain⟨_,cur,hc⟩:=Row.bC Kx h;exact iV hc OB.loop rfl
   ·intro h
    obtain⟨_,cur,hc⟩:=Row.bC Kx h;exact qJ hc OB.mark rfl
  have Iw:Kept Nil w vQ:=(C6.tt lj).trans Ho (fun k hk e=>by
   obtain⟨h,_⟩:=Row.bC Kx e;omega)
  refine⟨A',_,c',vQ,hr,dL Ky (by simp),?_⟩;intro oa;have wx:Kept (· =w.heap.size) vQ oa:=Kept.setCell (S:=fun k=>k=w.heap.size) (Kept.refl _ vQ) (p:=⟨w.heap.size,0,none⟩) (fun _=>rfl) _;have aa5:oa.heap[w.heap.size]? =some (.cells #[.slice A' (i+1) c'] az (0,0)):=cV Ky 0 _;clear_value oa;have EH:∀k,bg A'=some k->k≠w.heap.size:=fun k hk=>by
   rcases vB k hk with h|h
   ·exact h5 k h
   ·omega
  refine⟨Oz.aC wx (iV Ky Oz.loop).symm (qJ Ky Oz.mark).symm,A',c',aa5,?_,Iw.trans wx (fun k hk e=>by omega),dQ,EH⟩;rw [List.take_add_one,hx];exact Row.aC mH wx EH
 ·rintro w' R ⟨A,c,h1,h2,h3,h4,h5⟩ hl
  have e7:gF ρ0 w3.heap.size= [(2,.pointer (some (⟨w.heap.size,0,none⟩:Addr))),(4,.slice none 0 0),(6,.func (.func gf) #[] gE),(4294967296,.agg #[.pointer (some ⟨w3.heap.size,0,none⟩)])]:=rfl;rw [e7,aL.iQ];refine⟨A,xs.length,c,by rw [ay h1];rfl,⟨hl.mark,trivial⟩,?_⟩;have kp:Kept (· =w3.heap.size) w' (w'.putObj w3.heap.size (.deferred none)):=Kept.putAt _ _ _;refine hK A c _ ?_ (h3.trans kp (fun k hk e=>by omega));have:=Row.apart h2 kp (fun cs t fr h=>by rw [hl.mark]at h;cases h)
  rwa [List.take_of_length_le (Nat.le_refl _)]at this
theorem BJ{gf:FuncId}{gE:Array Value}{xs:List HT}{fn:Func}(IH:prog.funcs[gf]? =some fn)(hb:fn.body.isSome){IP:World->Prop}
 (hit:nf prog gf #[] gE (xs.map pJ) IP) (hp:∀w',Kept Nil w w'->IP w') (JJ:xs.length<=1000000)
 (hK:∀A c w',bQ w' w.heap.size A xs.length c xs->Kept Nil w w'->K (.slice A xs.length c) w'):
 bk prog cM.id #[.func (.func gf) #[] gE] w K:=by
 refine cM.of (vI IH hb hit hp JJ fun A c w' h1 h2=>⟨_,_,_,rfl,hK A c w' h1 h2⟩)
end
open Go.Sort
instance:Inhabited HT:=⟨⟨Array.replicate 32 (.int .u8 0),by simp,fun v hv=>⟨0,by simpa using hv,by omega,by omega⟩⟩⟩
abbrev mC(h:HT):List Value:=h.1.toList
theorem zx(h:HT):(mC h).length=32:=by have:=h.2.1;simpa using this
theorem uL(d:Array HT):(flatK mC 32 d).toList=dc d.toList:=by
 apply List.ext_getElem?;intro t;by_cases ht:t<d.size*32
 ·have hi:t/32<d.size:=by omega
  have hx:d.toList[t/32]? =some d[t/32]:=by rw [Array.getElem?_toList,Array.getElem?_eq_getElem hi]
  have hs:t%32<d[t/32].1.size:=by rw [d[t/32].2.1];omega
  have h1:=kc hx (Array.getElem?_eq_getElem hs);rw [show t/32*32+t%32=t by omega]at h1;rw [h1];have h2:t<(flatK mC 32 d).size:=by rw [size_flatK];exact ht
  have h3:=get_flatK mC 32 d t ht;rw [getElem!_pos _ t h2]at h3;rw [Array.getElem?_toList,Array.getElem?_eq_getElem h2,h3,getElem!_pos d _ hi];rw [getElem!_pos _ _ (by rw [zx];omega)];simp [mC]
 ·rw [List.getElem?_eq_none (by simp;omega),List.getElem?_eq_none (by rw [eI];simp;omega)]
theorem Ga{F cur:Array Value}{k:Nat}(hk:F.size=k)(h:k<=cur.size):(putCells id 0 F cur).toList.take k=F.toList:=by
 apply List.ext_getElem?;intro i;rw [List.getElem?_take];split
 ·rename_i hi
  have h1:i<cur.size:=by omega
  have h2:i<F.size:=by omega
  rw [Array.getElem?_toList,Array.getElem?_toList,putCells,Array.getElem?_mapIdx,Array.getElem?_eq_getElem h1,Array.getElem?_eq_getElem h2];simp [h2]
 ·rw [List.getElem?_eq_none (by simp;omega)]
theorem vo{w:World}{b:Nat}{f:Array Value->Array Value}{cur:Array Value}{t:TypeId}{fr:Nat×Nat}(h:w.heap[b]? =some (.cells cur t fr)):(mapBlock w b f).heap[b]? =some (.cells (f cur) t fr):=by
 simp [mapBlock,Array.getElem?_modify,h,onCells]
theorem vn(w:World)(b:Nat)(f:Array Value->Array Value):Kept (· =b) w (mapBlock w b f):=
 ⟨rfl,rfl,rfl,by simp [mapBlock],fun k _ hn=>by simp [mapBlock,Array.getElem?_modify,Ne.symm hn]⟩
theorem EI(w:World)(os:Array Obj):Kept Nil w (grow w os):=
 ⟨rfl,rfl,rfl,by simp,fun k hk _=>heap_grow_old w os hk⟩
theorem BT(w:World)(m:Nat):Kept Nil w (Sort.ahead w m):=⟨rfl,rfl,rfl,Nat.le_refl _,fun _ _ _=>rfl⟩
section
variable{w:World}{B n c b:Nat}{l:List HT}
theorem vi(row:bQ w B (some ⟨b,0,none⟩) n c l)(m:Nat)(dk:Array HT)(os:Array Obj)(hd:dk.size=n):
 bQ (sortWorldK mC 32 w b 0 m dk os) B (some ⟨b,0,none⟩) n c dk.toList/\Kept (· =b) w (sortWorldK mC 32 w b 0 m dk os):=by
 have hka:=BT w m;have k1:=vn (Sort.ahead w m) b (putCells id 0 (flatK mC 32 dk));have kk:=((hka.mono (S':=fun k=>k=b) (fun _ _ h=>h.elim)).tt k1).trans (EI _ os) (fun _ _ h=>h.elim);refine⟨?_,?_⟩
 ·rcases Row.own row with⟨h,_⟩|⟨b',cur,hA,hB,hg,Ez,nK,mi,xQ⟩
  ·cases h
  ·cases hA
   refine⟨by rw [eI,Array.length_toList,hd],.inr ⟨b,c,putCells id 0 (flatK mC 32 dk) cur,rfl,hB,?_,Ez,nK,by simp [putCells,mi],?_⟩⟩
   ·have h1:(mapBlock (Sort.ahead w m) b (putCells id 0 (flatK mC 32 dk))).heap[b]? =some (.cells (putCells id 0 (flatK mC 32 dk) cur) aj (0,0)):=vo hg
    exact(heap_grow_old _ os (aQ h1)).trans h1
   ·rw [<-uL]
    refine Ga (by rw [size_flatK,hd]) ?_;rw [mi];exact Nat.mul_le_mul_right _ Ez
 ·exact kk
theorem Bm(row:bQ w B (some ⟨b,0,none⟩) n c l):HoldsK mC 32 w b 0 l.toArray:=by
 intro j hj;rw [size_flatK]at hj;have uy:j<l.length*32:=by simpa using hj
 rw [Nat.zero_add];have hlen:=Row.len row;have hx:(flatK mC 32 l.toArray).toList[j]? =(dc l)[j]? :=by rw [uL]
 have hjs:j<(flatK mC 32 l.toArray).size:=by rw [size_flatK];exact hj
 rw [Array.getElem?_toList,Array.getElem?_eq_getElem hjs]at hx;have hc:=Row.cell row hx.symm;refine⟨?_,?_⟩
 ·rw [hc,getElem!_pos _ j hjs];rfl
 ·exact(Row.wr row (j:=j) (by rw [eI];exact uy)).2
theorem oN(x y:HT):ltOf kI x y=cH x y:=by
 unfold ltOf;cases h:cH x y
 ·exact decide_eq_false fun h'=>by rw [qU.1 h']at h;cases h
 ·exact decide_eq_true (qU.2 h)
theorem le_trans'{x y z:HT}(h:cH y x=false)(h':cH z y=false):cH z x=false:=by
 cases Sb:cH z x
 ·rfl
 ·exfalso
  by_cases e:y=z
  ·subst e;rw [h]at Sb;cases Sb
  ·have P9:=lt_of_le_ne h' e
   have:=jz P9 Sb;rw [h]at this;cases this
theorem XC:SWO (ltOf kI) where
 irrefl x:=by rw [oN];exact gJ x
 trans x y z h h':=by rw [oN]at*;exact jz h h'
 ntrans x y z h h':=by
  rw [oN]at*;exact le_trans' h' h
theorem I2{A:Option Addr}{K:Value->World->Prop}(row:bQ w B A n c l)(hn:n<=1000000)
 (hK:∀l' w',LE l'->(∀x,x∈l'↔x∈l)->bQ w' B A n c l'->Kept (fun k=>bg A=some k) w w'->K (.tuple #[]) w'):
 bk prog iC.id #[.slice A n c,.func (.func dz.id) #[] #[]] w K:=by
 have hlen:=row.len;by_cases h0:n=0
 ·subst h0
  have h:=AnyF.slices_SortFunc_none Tryz.vU A c (.func (.func dz.id) #[] #[]) w;refine Calls.mono h ?_;rintro e w' ⟨rfl,rfl⟩;have:l= []:=List.eq_nil_of_length_eq_zero hlen;subst this;exact⟨_,rfl,hK [] _ List.Pairwise.nil (fun _=>Iff.rfl) row (Kept.refl _ _)⟩
 ·obtain⟨b,rfl⟩:=Row.some row (by omega)
  have hblk:b<w.heap.size:=by
   obtain⟨_,cur,hc⟩:=Row.bC row (k:=b) rfl;exact aQ hc
  have kY:l.toArray.size=n:=by simpa using hlen
  have eg:∀args w,(callFunc dz.id args).run prog w=.ok (.enter dz.id args) w:=enters_of dz.at_ (by kernel_rfl) rfl;have hk:nx prog aj=.agg 32:=by kernel_rfl
  obtain⟨e32,ha⟩:=qO hk;obtain⟨i,hi⟩:=Go.bU.info_of_underlying (P:=prog) (t:=aj) (by kernel_rfl);have aaF:CmpLays prog dz.id #[] mC 32 kI b 0 l.toArray.size w:=fun m os dk _ x y=>by
   have e:(#[.agg (mC x).toArray,.agg (mC y).toArray]++ #[]:Array Value)= #[.agg x.1,.agg y.1]:=by simp [mC]
   rw [e];have h:=oZ (w:=sortWorldK mC 32 w b 0 m dk os) x y (K:=fun v w'=>v=.int .i64 (kI x y)/\w'=(((sortWorldK mC 32 w b 0 m dk os).alloc (.cells x.1 aj)).alloc (.cells y.1 aj)).drew) ⟨rfl,rfl⟩;refine Calls.mono h ?_;rintro e w' ⟨v,rfl,rfl,rfl⟩;refine⟨rfl,1,#[.cells x.1 aj,.cells y.1 aj],?_⟩;rw [alloc_eq_grow,alloc_eq_grow,grow_grow,drew_grow];rfl
  have h:=AnyQ.slices_SortFunc_total Tryz.vU 32 ha (fun w=>by rw [e32];exact Go.bU.run_sizeOf hi w) mC zx (fun x=>x.2.one) kI XC dz.id #[] b 0 c l.toArray w eg aaF (Bm row) hblk (by omega)
   (fun x y h1 h2=>by rw [oN]at h1 h2;exact pv h1 h2)
  rw [kY]at h;refine Calls.mono h ?_;rintro e w' ⟨rfl,m,os,rfl⟩;have hp:=List.mergeSort_perm l.toArray.toList (fun x y=> !(ltOf kI) y x);have Hj:(l.toArray.toList.mergeSort fun x y=> !(ltOf kI) y x).toArray.size=n:=by
   have:=hp.length_eq;simp only [List.size_toArray];rw [this];simpa using hlen
  obtain⟨h1,h2⟩:=vi row m _ os Hj;refine⟨_,rfl,hK _ _ ?_ (fun x=>?_) h1 (h2.mono fun k _ e=>by rw [e];rfl)⟩
  ·have hs:=List.pairwise_mergeSort (le:=fun x y=> !(ltOf kI) y x) (fun a b c h h'=>by
    rw [oN]at*;simp only [Bool.not_eq_true']at*;exact le_trans' h h') (fun a b=>by
    rw [oN,oN];cases lM:cH b a
    ·rfl
    ·rw [rR lM];rfl) l.toArray.toList
   refine List.Pairwise.imp ?_ hs;intro a b lM;rw [oN]at lM;simpa using lM
  ·simp
end
end Go.Proofs.YtnboahlopghcjaaGreatDoor
namespace Go.Proofs.YtnboahlopghcjaaGreatDoor
open Go.Proofs.Tryz
open Go Go.bU Go.RowKit
theorem Bs{l:List HT}{k:Nat}(hk:k<l.length)(x:HT):dc (l.set k x)=gq (dc l) (k*32) x.1.toList:=by
 have h1:l=l.take k++l[k]::l.drop (k+1):=by rw [<-List.drop_eq_getElem_cons hk,List.take_append_drop]
 have e1:(dc (l.take k)).length=k*32:=by rw [eI,List.length_take];omega
 have hx:=x.2.1;have hl:=l[k].2.1;have hs:l.set k x=l.take k++x::l.drop (k+1):=List.set_eq_take_append_cons_drop .. |>.trans (if_pos hk)
 rw [hs]
 conv=>rhs;rw [h1]
 rw [lL,lL,kF,kF];generalize dc (l.take k)=p at e1;generalize dc (l.drop (k+1))=r;have eq:l[k].1.toList.length=32:=by simpa using hl
 have ev:x.1.toList.length=32:=by simpa using hx
 generalize l[k].1.toList=q at eq;generalize x.1.toList=v at ev;unfold gq;rw [List.take_left' e1,ev,show p++(q++r)=(p++q)++r by simp,List.drop_left' (by rw [List.length_append,e1,eq])];simp
theorem bQ.setAt{w:World}{B n c b:Nat}{l:List HT}(row:bQ w B (some ⟨b,0,none⟩) n c l){k:Nat}(hk:k<n)(x:HT):
 bQ (setCells w ⟨b,k*32,none⟩ x.1.toList 0) B (some ⟨b,0,none⟩) n c (l.set k x):=by
 have hlen:=row.len;have hx:=x.2.1;have:=qx x.1.toList (dc l) w (k*32) 0 row (by rw [eI];simp;omega);rw [Nat.add_zero]at this;rw [<-Bs (by omega)]at this;exact this
theorem bQ.Mz{w:World}{B n c b:Nat}{l:List HT}(row:bQ w B (some ⟨b,0,none⟩) n c l){k:Nat}(hk:k<n)(j:Nat)(hj:j<32):Wr w ((⟨b,k*32,none⟩:Addr).add j):=by
 rw [a8];refine Row.wr row ?_;rw [eI,row.len];omega
theorem bQ.cap{w:World}{B:Nat}{A:Option Addr}{n c:Nat}{l:List HT}(row:bQ w B A n c l):n<=c:=by
 rcases Row.own row with⟨_,h1,h2,_⟩|⟨_,_,_,_,_,h1,_⟩<;>omega
theorem bQ.cut{w w':World}{B n c b:Nat}{l:List HT}(row:bQ w B (some ⟨b,0,none⟩) n c l){k:Nat}(hk:k<=n)(vs:List Value)(hv:vs.length=(n-k)*32)(hw:w'=setCells w ⟨b,k*32,none⟩ vs 0):
 bQ w' B (some ⟨b,0,none⟩) k c (l.take k):=by
 subst hw;have hlen:=row.len;rcases Row.own row with⟨h,_⟩|⟨b',cur,hA,hB,hg,Ez,nK,mi,xQ⟩
 ·cases h
 ·cases hA
  have hle:n*32<=c*32:=Nat.mul_le_mul_right _ Ez;have kY:k*32+0+vs.length<=cur.size:=by omega
  have h1:=jH vs cur w aj (k*32) 0 hg kY;refine⟨by rw [eI,List.length_take];omega,.inr ⟨b,c,_,rfl,hB,h1,by omega,nK,?_,?_⟩⟩
  ·have:=lD (xs:=cur.toList) (k:=k*32+0) (vs:=vs) (by simpa using kY)
   rw [List.size_toArray,this];simpa using mi
  ·have e1:(dc (l.take k)).length=k*32:=by rw [eI,List.length_take];omega
   have e2:(dc l).take (k*32)=dc (l.take k):=by
    conv=>lhs;rw [<-List.take_append_drop k l,lL]
    rw [<-e1,List.take_left'];rfl
   rw [<-e2,<-xQ,List.take_take,Nat.min_eq_left (by omega)];unfold gq;simp only [Nat.add_zero];rw [List.append_assoc,List.take_append_of_le_length (by simp;omega),List.take_take,Nat.min_self]
def B7(P:Program)(e:TypeId):Bool:=
 match P.info? e with
 |some i=>match i.zero with
  |some z=>z.cells.toList.all fun v=>v.oneCell'
  |none=>false
 |none=>false
theorem tM{w:World}{B n c b:Nat}{l:List HT}(row:bQ w B (some ⟨b,0,none⟩) n c l){k:Nat}(hk:k<=n)(ty:Nat){A:Option Addr}{cx:Nat}(hA:k<n->A=some ⟨b,k*32,none⟩):
 ∃w',(Builtin.clear_ #[az] ty #[.slice A (n-k) cx]).run prog w=.ok (.tuple #[]) w'/\bQ w' B (some ⟨b,0,none⟩) k c (l.take k)/\Kept (· =b) w w':=by
 have hlen:=row.len;by_cases vy:k<n
 ·obtain⟨i,z,hi,hz,hs,_,CL⟩:=ow.inf
  have JV:B7 prog aj=true:=by kernel_rfl
  unfold B7 at JV;rw [hi]at JV;simp only [hz,List.all_eq_true]at JV;rw [hA vy];obtain⟨m,hm⟩:∃m,n-k=m+1:=⟨n-k-1,by omega⟩;have Wm:(Builtin.zeroCells z.cells (n-k)).toList.length=(n-k)*32:=by simp [Builtin.zeroCells,CL]
  have oh:=ie (P:=prog) ⟨b,k*32,none⟩ (Builtin.zeroCells z.cells (n-k)).toList 0 w (fun v hv=>by
   simp only [Builtin.zeroCells,Array.toList_map,List.mem_map]at hv;obtain⟨t,ht,rfl⟩:=hv;have:t%z.cells.size<z.cells.size:=Nat.mod_lt _ (by omega);rw [getElem!_pos z.cells _ this];exact JV _ (by simp)) (fun j hj=>by
   rw [Nat.zero_add,a8];refine Row.wr row ?_;rw [eI];omega)
  refine⟨_,?_,row.cut hk _ Wm rfl,fQ _ _ _ _⟩;simp only [Builtin.clear_,hm];rw [hm]at oh;simp [run_underlying ow.oc,zeroValue,typeInfo,hi,hz,oh]
 ·have:n=k:=by omega
  subst this;refine⟨w,?_,by rw [List.take_of_length_le (by omega)];exact row,Kept.refl _ _⟩;rw [Nat.sub_self];cases A<;>simp [Builtin.clear_,run_underlying ow.oc]
theorem DD:∀ {l:List HT},l.length<2->de l=l
 | [],_=>rfl
 | [_],_=>rfl
 |_::_::_,h=>by simp only [List.length_cons]at h;omega
section
variable{w:World}{B n c:Nat}{A:Option Addr}{l:List HT}{K:Value->World->Prop}
theorem BI(row:bQ w B A n c l)(hle:LE l)(hn:n<=400000)
 (hK:∀A' c' w',bQ w' B A' (de l).length c' (de l)->(∀k,bg A'=some k->bg A=some k)->Kept (fun k=>bg A=some k) w w'->K (.slice A' (de l).length c') w'):
 bk prog ah.id #[.slice A n c] w K:=by
 have hlen:=row.len;refine ah.of ?_;refine Split.dec (fun h2=>?_) (fun h2=>?_)
 ·have e:de l=l:=DD (by omega)
  have:=hK A c w (by rw [e,hlen];exact row) (fun k h=>h) (Kept.refl _ _);rw [e,hlen]at this;exact this
 obtain⟨b,rfl⟩:=Row.some row (by omega);have Hr:=row.cap;refine ah.cf (I:=fun s w'=>∃k:Nat,s=(none,0,0,(k:Int))/\1<=k/\k<=n/\SS (l.take k)/\Kept Nil w w') (μ:=fun s _=>((n:Int)-s.2.2.2).toNat) (s:=(none,0,0,1))
  ⟨1,rfl,Nat.le_refl _,by omega,?_,Kept.refl _ _⟩ ?_
 ·cases l with
  |nil=>exact List.Pairwise.nil
  |cons x l=>simp [SS]
 rintro s w' ⟨k,rfl,IF,vy,tp,kw⟩;refine Split.dec (fun jb=>?_) (fun fV=>?_)
 ·simp only at jb
  have Bp:k<n:=by omega
  obtain⟨x,hx⟩:∃x,l[k]? =some x:=⟨_,List.getElem?_eq_getElem (by omega)⟩;obtain⟨y,hy⟩:∃y,l[k-1]? =some y:=⟨_,List.getElem?_eq_getElem (by omega)⟩;intro w5;have k5:Kept Nil w w5:=kw.drew;clear_value w5;have kO:bQ w5 B (some ⟨b,0,none⟩) n c l:=Row.aC row k5 (fun _ _ h=>h);simp only;rw [wrapM (n:=(k:Int)) (by omega) (by omega)];have nS:cH x y=false:=hle.get (by omega) hy hx;refine kO.hs.load (i:=(k:Int)) (by omega) hx (kO.hs.load (i:=(k:Int)-1) (by omega) (by rw [show((k:Int)-1).toNat=k-1 by omega];exact hy) ⟨⟨x.2.ints,y.2.ints⟩,?_⟩);rw [du];refine Split.dec (fun he=>?_) (fun he=>?_)
  ·refine⟨⟨by omega,by omega⟩,?_⟩
   rw [Int.toNat_natCast];rw [if_neg (show ¬c=k by omega)];simp only [Option.map_some,a8,Nat.zero_add];refine ah.gz (I:=fun s w'=>∃(p j:Nat) (l':List HT),s=((p:Int),(j:Int))/\1<=j/\k<=p/\p<k+j/\k+j<=n/\bQ w' B (some ⟨b,0,none⟩) n c l'/\l'.drop (k+j-1)=l.drop (k+j-1)/\SS (l'.take p)/\(∀z,z∈l'.take p↔z∈l.take (k+j))/\Kept (· =b) w w')
    (μ:=fun s _=>((n:Int)-s.2).toNat) (s:=((k:Int),1)) ⟨k,1,l,rfl,Nat.le_refl _,Nat.le_refl _,by omega,by omega,kO,rfl,tp,fun z=>?_,k5.mono fun _ _ h=>h.elim⟩ ?_
   ·rw [bG hx]
    constructor
    ·exact .inl
    ·rintro(h|rfl)
     ·exact h
     ·rw [he]
      have:=bG (z:=y) hy;rw [show k-1+1=k by omega]at this;exact this.2 (.inr rfl)
   rintro s w1 ⟨p,j,l',rfl,hj1,TF,hpj,hjn,jW,Ua,xn,J0,k1⟩;have Hm:=jW.len;refine Split.dec (fun OG=>?_) (fun OM=>?_)
   ·simp only at OG
    have sV:k+j<n:=by omega
    obtain⟨u,hu⟩:∃u,l[k+j]? =some u:=⟨_,List.getElem?_eq_getElem (by omega)⟩;obtain⟨v,hv⟩:∃v,l[k+j-1]? =some v:=⟨_,List.getElem?_eq_getElem (by omega)⟩;have JK:l'[k+j]? =some u:=by
     have h:=congrArg (fun m:List HT=>m[1]?) Ua;simp only [List.getElem?_drop]at h;rw [show k+j-1+1=k+j by omega]at h;rw [h,hu]
    have Y2:l'[k+j-1]? =some v:=by
     have h:=congrArg (fun m:List HT=>m[0]?) Ua;simp only [List.getElem?_drop,Nat.add_zero]at h;rw [h,hv]
    intro vQ;have Iw:Kept (· =b) w vQ:=k1.drew;have mH:bQ vQ B (some ⟨b,0,none⟩) n c l':=Row.aC jW ((Kept.refl Nil w1).drew) (fun _ _ h=>h);clear_value vQ;have uw:HS vQ (some ⟨b,k*32,none⟩) (n-k) (l'.drop k):=by
     have h:=mH.hs.drop (c:=c) Hr (k:=k) (by omega);rw [if_neg (show ¬c=k by omega)]at h;simpa [a8]using h
    have hsu:(l'.drop k)[(j:Int).toNat]? =some u:=by rw [Int.toNat_natCast,List.getElem?_drop];exact JK
    have Ob:(l'.drop k)[((j:Int)-1).toNat]? =some v:=by
     rw [show((j:Int)-1).toNat=j-1 by omega,List.getElem?_drop,show k+(j-1)=k+j-1 by omega];exact Y2
    simp-zeta only;rw [wrapM (n:=(j:Int)) (by omega) (by omega)];have huv:cH u v=false:=hle.get (by omega) hv hu;refine uw.load (i:=(j:Int)) (by omega) hsu (uw.load (i:=(j:Int)-1) (by omega) Ob ⟨⟨u.2.ints,v.2.ints⟩,?_⟩);rw [du,dq (n:=(j:Int)) (by omega) (by omega)];have hmu:∀z,z∈l.take (k+(j+1))↔z∈l'.take p\/z=u:=fun z=>by
     rw [show k+(j+1)=k+j+1 by omega,bG hu,J0 z]
    by_cases heq:u=v
    ·refine Split.no (by rw [decide_eq_true heq];rfl) ?_
     refine⟨((p:Int),(j:Int)+1),rfl,⟨p,j+1,l',rfl,by omega,TF,by omega,by omega,mH,?_,xn,fun z=>?_,Iw⟩,by simp only;omega⟩
     ·have h:=congrArg (fun m:List HT=>m.drop 1) Ua
      simp only [List.drop_drop]at h;rw [show k+(j+1)-1=k+j-1+1 by omega];exact h
     ·rw [hmu z]
      constructor
      ·exact .inl
      ·rintro(h|rfl)
       ·exact h
       ·refine(J0 _).2 ?_
        rw [heq];exact List.mem_of_getElem? (i:=k+j-1) (by rw [List.getElem?_take,if_pos (by omega)];exact hv)
    ·refine Split.yes (by rw [decide_eq_false heq];rfl) ?_
     refine uw.load (i:=(j:Int)) (by omega) hsu ⟨⟨by omega,by omega⟩,⟨u.2.1,u.2.one,fun i hi=>?_⟩,?_⟩
     ·rw [Int.toNat_natCast,a8,Nat.zero_add]
      exact mH.Mz (by omega) i hi
     intro Fj;have Sg:Fj=setCells vQ ⟨b,p*32,none⟩ u.1.toList 0:=by
      show setCells vQ ((⟨b,0,none⟩:Addr).add ((p:Int).toNat*32)) u.1.toList 0=_
      rw [Int.toNat_natCast,a8,Nat.zero_add]
     have Q7:bQ Fj B (some ⟨b,0,none⟩) n c (l'.set p u):=by rw [Sg];exact mH.setAt (by omega) u
     have GB:Kept (· =b) w Fj:=by rw [Sg];exact Iw.tt (fQ _ _ _ _)
     clear_value Fj;rw [dq (n:=(p:Int)) (by omega) (by omega)];have xQ:(l'.set p u).take (p+1)=l'.take p++ [u]:=by
      rw [List.take_add_one,List.take_set_of_le (Nat.le_refl p),List.getElem?_set_self (by omega)];rfl
     refine⟨((p:Int)+1,(j:Int)+1),rfl,⟨p+1,j+1,l'.set p u,rfl,by omega,by omega,by omega,by omega,Q7,?_,?_,fun z=>?_,GB⟩,by simp only;omega⟩
     ·have h:=congrArg (fun m:List HT=>m.drop 1) Ua
      simp only [List.drop_drop]at h;rw [List.drop_set,if_pos (by omega),show k+(j+1)-1=k+j-1+1 by omega];exact h
     ·rw [xQ]
      refine Dj xn fun z hz=>?_;obtain⟨i,hi⟩:=List.mem_iff_getElem?.1 ((J0 z).1 hz);rw [List.getElem?_take]at hi;split at hi
      ·rename_i hik
       have hvu:cH v u=true:=lt_of_le_ne huv (fun e=>heq e.symm);by_cases e:i=k+j-1
       ·subst e;rw [hv]at hi;cases hi;exact hvu
       ·exact sC (hle.get (by omega) hi hv) hvu
      ·cases hi
     ·rw [xQ,hmu z]
      simp
   ·simp only at OM
    have hj:k+j=n:=by omega
    rw [aP,ah.jB];unfold ah.gY;refine⟨⟨by omega,by omega⟩,?_⟩;rw [Int.toNat_natCast];obtain⟨w2,hr,fz,k2⟩:=tM jW (k:=p) (by omega) 0 (A:=if c=p then some ⟨b,0,none⟩else(some ⟨b,0,none⟩:Option Addr).map (·.add (p*32))) (cx:=c-p) (fun hp=>by
     rw [if_neg (by omega)];simp [a8])
    refine⟨_,w2,hr,⟨by omega,by omega⟩,?_⟩;have e:l'.take p=de l:=wT xn fun z=>by rw [J0 z,hj,List.take_of_length_le (by omega)]
    have el:p=(de l).length:=by
     have h:=fz.len;rw [e]at h;exact h.symm
    have e0:(if c=0 then(some ⟨b,0,none⟩:Option Addr)else(some ⟨b,0,none⟩:Option Addr).map (·.add (0*32)))=some ⟨b,0,none⟩:=by
     rw [if_neg (by omega)];simp [add_zero]
    rw [e0,Nat.sub_zero,Nat.sub_zero];rw [e,el]at fz;have:=hK (some ⟨b,0,none⟩) c w2 fz (fun k h=>h) ((k1.tt k2).mono fun i _ h=>by rw [h];rfl);rw [<-el]at this;exact this
  ·rw [dq (n:=(k:Int)) (by omega) (by omega)]
   refine⟨(none,0,0,(k:Int)+1),rfl,⟨k+1,rfl,by omega,by omega,?_,k5⟩,by simp only;omega⟩;rw [List.take_add_one,hx];refine Dj tp fun z hz=>?_;have CN:cH y x=true:=lt_of_le_ne nS (fun e=>he e.symm);obtain⟨i,hi⟩:=List.mem_iff_getElem?.1 hz;rw [List.getElem?_take]at hi;split at hi
   ·by_cases e:i=k-1
    ·subst e;rw [hy]at hi;cases hi;exact CN
    ·exact sC (hle.get (by omega) hi hy) CN
   ·cases hi
 ·simp only at fV
  have e:k=n:=by omega
  subst e;rw [aP,ah.dh];rw [List.take_of_length_le (by omega)]at tp;have e:de l=l:=yl tp;have:=hK (some ⟨b,0,none⟩) c w' (by rw [e,hlen];exact Row.aC row kw (fun _ _ h=>h)) (fun k h=>h) (kw.mono fun _ _ h=>h.elim);rw [e,hlen]at this;exact this
theorem gK(hl:HS w A n l)(hn:n<=400000)
 (hK:∀A' c' w',bQ w' w.heap.size A' (de l).length c' (de l)->Kept Nil w w'->K (.slice A' (de l).length c') w'):
 bk prog iM.id #[.slice A n c] w K:=by
 have hlen:=hl.len;refine iM.of ?_;refine dp.of ?_;unfold dp.W;intro w2;have k2:Kept Nil w w2:=(Kept.refl _ _).alloc _;have kZ:w2.heap[w.heap.size]? =some (.cells #[.slice A n c] az (0,0)):=aJ w _;clear_value w2;refine⟨_,rfl,?_⟩;refine di.of ?_;refine BJ (xs:=l) aF.at_ (by rfl) (yg (l:=l) ⟨w.heap.size,0,none⟩ (A:=A) (n:=n) (c:=c) (by omega)) (fun w' hk=>⟨(hl.same k2).same hk,by rw [ay (hk.heap kZ (fun h=>h))];rfl⟩) (by omega) ?_;intro A4 c4 w4 jI k4;refine⟨A4,_,c4,rfl,?_⟩;refine I2 jI (by omega) fun l5 w5 hle gB kO k5=>⟨rfl,?_⟩;refine⟨A4,_,c4,rfl,?_⟩;refine BI kO hle (by omega) fun A6 c6 w6 F7 nM k6=>⟨A6,_,c6,rfl,?_⟩;have e:de l5=de l:=tk gB;rw [e]at F7⊢;have Va:∀k,bg A4=some k->w.heap.size<=k:=fun k hk=>Nat.le_trans k2.size (Row.bC jI hk).1;refine hK A6 c6 w6 (Row.base F7 fun k hk=>Va k (nM k hk)) ?_;exact((k2.tt k4).trans k5 (fun k hk h=>absurd (Va k h) (by omega))).trans k6 (fun k hk h=>absurd (Va k h) (by omega))
end
theorem jk{x:Nat}(h:x<18446744073709551616):u64.wrap (x:Int)=(x:Int):=by
 simp only [IntKind.wrap,IntKind.bits,IntKind.signed];simp;omega
theorem orU{x y:Nat}(hx:x<18446744073709551616)(hy:y<18446744073709551616):
 u64.wrap ((BitVec.ofInt 64 (x:Int)|||BitVec.ofInt 64 (y:Int)).toNat:Int)=((x|||y:Nat):Int):=by
 have h:(BitVec.ofInt 64 (x:Int)|||BitVec.ofInt 64 (y:Int)).toNat=x|||y:=by
  rw [BitVec.ofInt_natCast,BitVec.ofInt_natCast,BitVec.toNat_or,BitVec.toNat_ofNat,BitVec.toNat_ofNat,Nat.mod_eq_of_lt (by omega),Nat.mod_eq_of_lt (by omega)]
 rw [h];exact jk (Nat.or_lt_two_pow (n:=64) hx hy)
theorem ab2{x y:Nat}(hx:x<18446744073709551616)(hy:y<18446744073709551616):
 u64.wrap ((BitVec.ofInt 64 (x:Int)&&& BitVec.ofInt 64 (y:Int)).toNat:Int)=((x&&& y:Nat):Int):=by
 have h:(BitVec.ofInt 64 (x:Int)&&& BitVec.ofInt 64 (y:Int)).toNat=x&&& y:=by
  rw [BitVec.ofInt_natCast,BitVec.ofInt_natCast,BitVec.toNat_and,BitVec.toNat_ofNat,BitVec.toNat_ofNat,Nat.mod_eq_of_lt (by omega),Nat.mod_eq_of_lt (by omega)]
 rw [h];exact jk (Nat.lt_of_le_of_lt Nat.and_le_left hx)
theorem XT{i:Nat}(hi:i<64):u64.wrap ((1:Int)*2 ^ (min i 64))=((2 ^ i:Nat):Int):=by
 rw [Nat.min_eq_left (by omega),Int.one_mul];have h:2 ^ i<18446744073709551616:=Nat.pow_lt_pow_right (by omega) (n:=64) hi;have:=jk h;rw [<-this];simp
def bit(ws:List Nat)(i:Nat):Bool:=(ws.getD (i/64) 0).testBit (i%64)
def okW(ws:List Nat):Prop:=∀x∈ws,x<18446744073709551616
theorem xE(i:Nat):bit [] i=false:=by simp [bit]
theorem zG(ws:List Nat)(i:Nat):bit (ws++ [0]) i=bit ws i:=by
 unfold bit
 congr 1
 simp only [List.getD_eq_getElem?_getD,List.getElem?_append];split
 ·rfl
 ·rename_i h
  rw [List.getElem?_eq_none (l:=ws) (by omega)];cases i/64-ws.length<;>simp
theorem Df{ws:List Nat}{q:Nat}(hq:q<ws.length)(v i:Nat):bit (ws.set q v) i=if i/64=q then v.testBit (i%64)else bit ws i:=by
 unfold bit;simp only [List.getD_eq_getElem?_getD,List.getElem?_set];by_cases h:i/64=q
 ·subst h;simp [hq]
 ·rw [if_neg (fun e=>h e.symm),if_neg h]
theorem Cu{ws:List Nat}(h:okW ws){x:Nat}(hx:x<18446744073709551616):okW (ws++ [x]):=fun y hy=>by
 rw [List.mem_append,List.mem_singleton]at hy;rcases hy with hy|rfl
 ·exact h y hy
 ·exact hx
theorem Ct{ws:List Nat}(h:okW ws){x:Nat}(hx:x<18446744073709551616)(q:Nat):okW (ws.set q x):=fun y hy=>by
 rcases List.mem_or_eq_of_mem_set hy with hy|rfl
 ·exact h y hy
 ·exact hx
def us(l:List Nat):List Value:=l.map fun x:Nat=>.int .u64 (x:Int)
theorem oo(l:List Nat):(us l).length=l.length:=by simp [us]
theorem oq{l:List Nat}{j x:Nat}(h:l[j]? =some x):(us l)[j]? =some (.int .u64 (x:Int)):=by simp [us,h]
theorem wQ(l:List Nat)(q v:Nat):(us l).set q (.int .u64 (v:Int))=us (l.set q v):=by simp [us,List.map_set]
theorem MI(l m:List Nat):us (l++m)=us l++us m:=by simp [us]
structure US(w:World)(A:Option Addr)(n:Nat)(l:List Nat):Prop where
 len:l.length=n
 at_:∀(i x:Nat),l[i]? =some x->∃a,A=some a/\a.block<w.heap.size/\w.cell? (a.add i)=some (.int .u64 (x:Int))
theorem US.aC{S:Nat->Prop}{w w':World}{A:Option Addr}{n:Nat}{l:List Nat}(h:US w A n l)(hk:Kept S w w')(hn:∀a,A=some a->¬S a.block):US w' A n l:=⟨h.len,fun i x hi=>by
 obtain⟨a,h1,h2,h3⟩:=h.at_ i x hi;exact⟨a,h1,Nat.lt_of_lt_of_le h2 hk.size,hk.cell h3 (by rw [eJ];exact hn a h1)⟩⟩
theorem US.load{w:World}{A:Option Addr}{n:Nat}{l:List Nat}(hl:US w A n l){i:Int}{x:Nat}(h0:0<=i)(hx:l[i.toNat]? =some x){k:Int->Prop}(hk:k x):
 (0<=i/\i<(n:Int))/\Is A fun a=>∃t:Int,w.cell? (a.add (i.toNat*1))=some (.int .u64 t)/\k t:=by
 obtain⟨a,rfl,_,hc⟩:=hl.at_ _ x hx;have:=(lgeS hx).1;have:=hl.len;exact⟨⟨h0,by omega⟩,x,by rw [Nat.mul_one];exact hc,hk⟩
theorem MQ:xY prog ke iy 1 8:=⟨by kernel_rfl,by kernel_rfl⟩
abbrev jU(w:World)(B:Nat)(A:Option Addr)(n c:Nat)(l:List Nat):Prop:=Row w B iy 1 A n c (us l)
section
variable{w w':World}{B n c:Nat}{A:Option Addr}{l:List Nat}
theorem jU.len(h:jU w B A n c l):l.length=n:=by have:=Row.len h;rw [oo]at this;omega
theorem jU.us(h:jU w B A n c l):US w A n l:=⟨h.len,fun i x hi=>by
 have hlen:=h.len;have:=(lgeS hi).1;obtain⟨b,rfl⟩:=Row.some h (by omega);obtain⟨_,cur,oQ⟩:=Row.bC h (k:=b) rfl;exact⟨_,rfl,aQ oQ,by rw [a8,Nat.zero_add];exact Row.cell h (oq hi)⟩⟩
theorem FT(i:Nat):((i:Int).tdiv 64)=((i/64:Nat):Int):=by
 rw [Int.tdiv_eq_ediv_of_nonneg (by omega)];omega
theorem MN(i:Nat):((i:Int).tmod 64)=((i%64:Nat):Int):=by
 rw [Int.tmod_eq_emod_of_nonneg (by omega)];omega
theorem sN(h:jU w B A n c l)(hn:n<=1000000)(hB:B<=w.heap.size){t:Nat}(x:Nat):
 ∃A' c' w',(Builtin.append_ #[ke,ke] ke #[.slice A n c,.slice (some ⟨w.heap.size,0,none⟩) 1 1]).run prog (w.alloc (.cells #[.int .u64 (x:Int)] t))=.ok (.slice A' (n+1) c') w'/\
  jU w' B A' (n+1) c' (l++ [x])/\Kept (fun k=>bg A=some k) w w'/\(∀k,bg A'=some k->bg A=some k\/w.heap.size<=k):=by
 have k1:Kept Nil w (w.alloc (.cells #[.int .u64 (x:Int)] t)):=(Kept.refl _ _).alloc _;have hb:=aJ w (.cells #[.int .u64 (x:Int)] t);have h1:jU (w.alloc (.cells #[.int .u64 (x:Int)] t)) B A n c l:=Row.aC h k1 (fun _ _ h=>h);obtain⟨A',c',w',hr,e8,hg,vB⟩:=fi (P:=prog) (t:=ke) (ty:=ke) (bytes:=8) MQ h1 (a:=⟨w.heap.size,0,none⟩) (m:=1) (cx:=1) (news:=us [x]) rfl
  (fun j u hj=>by rw [a8,Nat.zero_add,ay hb];simpa [us]using hj) (fun u hu=>by simp [us]at hu;subst hu;rfl) (by omega) (by unfold maxLen;omega) (by have:=k1.size;omega)
 refine⟨A',c',w',hr,?_,?_,fun k hk=>?_⟩
 ·show Row w' B iy 1 A' (n+1) c' (Proofs.YtnboahlopghcjaaGreatDoor.us (l++ [x]))
  rw [MI];exact e8
 ·exact(k1.mono (S':=fun k=>bg A=some k) (fun _ _ h=>h.elim)).tt (Kept.grown (S:=fun k=>bg A=some k) (Kept.refl _ _) hg (fun k hk _=>hk))
 ·rcases vB k hk with h|h
  ·exact .inl h
  ·have:=k1.size;exact .inr (by omega)
theorem yn{b:Nat}(h:jU w B (some ⟨b,0,none⟩) n c l){q:Nat}(hq:q<n)(x:Nat):
 jU (w.setCell ⟨b,q,none⟩ (.int .u64 (x:Int))) B (some ⟨b,0,none⟩) n c (l.set q x):=by
 have:=Row.set h (j:=q) (by rw [oo,h.len];exact hq) (.int .u64 (x:Int));rw [wQ]at this;exact this
theorem yv{K:Value->World->Prop}(h:jU w B A n c l)(ho:okW l)(hn:n<=100000)(hB:B<=w.heap.size){i:Nat}(hi:i<=1000000)
 (hK:∀A' n' c' l' w',jU w' B A' n' c' l'->okW l'->(n'<=n\/n'<=i/64+1)->(∀j,bit l' j=(bit l j||decide (j=i)))->Kept (fun k=>bg A=some k) w w'->(∀k,bg A'=some k->bg A=some k\/w.heap.size<=k)->K (.slice A' n' c') w'):
 bk prog bH.id #[.slice A n c,.int .i64 (i:Int)] w K:=by
 refine bH.of ?_;refine bH.cf (I:=fun s w'=>∃A' n' c' l',s=(A',n',c')/\jU w' B A' n' c' l'/\okW l'/\(n'<=n\/n'<=i/64+1)/\(∀j,bit l' j=bit l j)/\Kept (fun k=>bg A=some k) w w'/\(∀k,bg A'=some k->bg A=some k\/w.heap.size<=k))
  (μ:=fun s _=>i/64+1-s.2.1) (s:=(A,n,c)) ⟨A,n,c,l,rfl,h,ho,.inl (Nat.le_refl _),fun _=>rfl,Kept.refl _ _,fun k hk=>.inl hk⟩ ?_
 rintro s w' ⟨A',n',c',l',rfl,row,IE,ZR,pI,kw,hb⟩;unfold bH.B1;rw [FT,gU (by omega) (by omega)];refine⟨by omega,?_⟩;refine Split.dec (fun hle=>?_) (fun wA=>?_)
 ·simp only at hle
  have ah9:n'<=i/64:=by omega
  obtain⟨A2,c2,w2,hr,fz,k2,kZ⟩:=sN row (by omega) (Nat.le_trans hB kw.size) (t:=iy) 0;intro w6;refine⟨A2,n'+1,c2,w2,hr,?_⟩;refine⟨(A2,n'+1,c2),rfl,⟨A2,n'+1,c2,l'++ [0],rfl,fz,Cu IE (by omega),by omega,fun j=>by rw [zG,pI],?_,fun k hk=>?_⟩,by simp only;omega⟩
  ·exact kw.trans k2 (fun k hk e=>by
    rcases hb k e with h|h
    ·exact h
    ·omega)
  ·rcases kZ k hk with h|h
   ·exact hb k h
   ·exact .inr (Nat.le_trans kw.size h)
 ·simp only at wA
  have dQ:i/64<n':=by omega
  rw [aP,bH.dh];unfold bH.cO;intro mc;have xO:Kept Nil w' mc:=(Kept.refl _ _).drew;have Ua:mc=w'.drew:=rfl;clear_value mc;have tN:jU mc B A' n' c' l':=Row.aC row xO (fun _ _ h=>h);have hlen:=row.len;rw [FT,MN,gU (by omega) (by omega)];obtain⟨b,rfl⟩:=Row.some tN (by omega);obtain⟨x,hx⟩:∃x,l'[i/64]? =some x:=⟨_,List.getElem?_eq_getElem (by omega)⟩;refine⟨by omega,tN.us.load (by omega) (by rw [Int.toNat_natCast];exact hx) ⟨by omega,by omega,⟨⟨by omega,by simp only;omega⟩,?_⟩⟩⟩;have tn:=IE x (List.mem_of_getElem? hx);have hp:2 ^ (i%64)<18446744073709551616:=Nat.pow_lt_pow_right (by omega) (n:=64) (Nat.mod_lt _ (by omega));simp only [Is,Int.toNat_natCast,Nat.mul_one,a8,Nat.zero_add];rw [XT (Nat.mod_lt _ (by omega)),orU tn hp];refine⟨Row.wr tN (by rw [oo,hlen];exact dQ),?_⟩;have mL:Kept (fun k=>bg A=some k) w (mc.setCell ⟨b,i/64,none⟩ (.int .u64 ((x|||2 ^ (i%64):Nat):Int))):=
   Kept.setCell (kw.trans xO (fun _ _ h=>h.elim)) (p:=⟨b,i/64,none⟩) (fun cH=>by
    rcases hb b rfl with h|h
    ·exact h
    ·exact absurd cH (by simp only;omega)) _
  refine hK _ _ _ _ _ (yn tN dQ _) (Ct IE (Nat.or_lt_two_pow (n:=64) tn hp) _) ZR (fun j=>?_) mL hb;rw [Df (by omega),pI];have hbi:bit l' i=x.testBit (i%64):=by unfold bit;rw [List.getD_eq_getElem?_getD,hx];rfl
  by_cases e:j/64=i/64
  ·rw [if_pos e,Nat.testBit_or,Nat.testBit_two_pow]
   have hbj:bit l' j=x.testBit (j%64):=by unfold bit;rw [e,List.getD_eq_getElem?_getD,hx];rfl
   rw [<-hbj,pI]
   congr 1
   exact decide_eq_decide.2 ⟨fun h=>by omega,fun h=>by rw [h]⟩
  ·rw [if_neg e,decide_eq_false (fun h=>e (by rw [h]))]
   simp
end
section
variable{w w':World}{B n c:Nat}{A:Option Addr}{l:List Nat}
theorem vW{K:Value->World->Prop}(h:jU w B A n c l)(ho:okW l)(hn:n<=100000)(hB:B<=w.heap.size){A2:Option Addr}{n2 c2:Nat}{v:List Nat}(hv:US w A2 n2 v)(Y2:okW v)(ZQ:n2<=100000)
 (O7:∀a,A2=some a->∀k,bg A=some k->a.block≠k)
 (hK:∀A' n' c' l' w',jU w' B A' n' c' l'->okW l'->(n'<=n\/n'<=n2)->(∀j,bit l' j=(bit l j||bit v j))->Kept (fun k=>bg A=some k) w w'->(∀k,bg A'=some k->bg A=some k\/w.heap.size<=k)->K (.slice A' n' c') w'):
 bk prog b9.id #[.slice A n c,.slice A2 n2 c2] w K:=by
 have adF:=hv.len;refine b9.of ?_;refine b9.cf (I:=fun s w'=>∃(i:Nat) (A':Option Addr) (n' c':Nat) (l':List Nat),s=(A',n',c',(i:Int))/\i<=n2/\jU w' B A' n' c' l'/\okW l'/\i<=n'/\n<=n'/\(n'<=n\/n'<=i)/\(∀j,bit l' j=(bit l j||(decide (j/64<i)&&bit v j)))/\Kept (fun k=>bg A=some k) w w'/\(∀k,bg A'=some k->bg A=some k\/w.heap.size<=k))
  (μ:=fun s _=>((n2:Int)-s.2.2.2).toNat) (s:=(A,n,c,0)) ⟨0,A,n,c,l,rfl,Nat.zero_le _,h,ho,Nat.zero_le _,Nat.le_refl _,.inl (Nat.le_refl _),by simp,Kept.refl _ _,fun k hk=>.inl hk⟩ ?_
 rintro s w' ⟨i,A',n',c',l',rfl,hi,row,IE,fF,Ql,Wt,pI,kw,hb⟩;have Hm:=row.len;refine Split.dec (fun jb=>?_) (fun fV=>?_)
 ·simp only at jb
  have dQ:i<n2:=by omega
  obtain⟨x,hx⟩:∃x,v[i]? =some x:=⟨_,List.getElem?_eq_getElem (by omega)⟩;have tn:=Y2 x (List.mem_of_getElem? hx);have hvw:US w' A2 n2 v:=hv.aC kw (fun a ha e=>O7 a ha _ e rfl);refine hvw.load (i:=(i:Int)) (by omega) hx ?_;have step:∀(A2:Option Addr) (n3 c3:Nat) (l3:List Nat) (w3:World),jU w3 B A2 n3 c3 l3->okW l3->i<n3->n<=n3->(n3<=n\/n3<=i+1)->(∀j,bit l3 j=(bit l j||(decide (j/64<i)&&bit v j)))->Kept (fun k=>bg A=some k) w w3->(∀k,bg A2=some k->bg A=some k\/w.heap.size<=k)->
   (0<=(i:Int)/\(i:Int)<(n3:Int))/\Is A2 fun a=>∃t:Int,w3.cell? (a.add ((i:Int).toNat*1))=some (.int .u64 t)/\(0<=(i:Int)/\(i:Int)<(n3:Int))/\Is A2 fun a'=>Wr w3 (a'.add ((i:Int).toNat*1))/\
     ∃(l4:List Nat),
     jU (w3.setCell (a'.add ((i:Int).toNat*1)) (.int .u64 (u64.wrap ((BitVec.ofInt 64 t|||BitVec.ofInt 64 (x:Int)).toNat)))) B A2 n3 c3 l4/\okW l4/\(∀j,bit l4 j=(bit l j||(decide (j/64<i+1)&&bit v j)))/\Kept (fun k=>bg A=some k) w (w3.setCell (a'.add ((i:Int).toNat*1)) (.int .u64 (u64.wrap ((BitVec.ofInt 64 t|||BitVec.ofInt 64 (x:Int)).toNat)))):=by
   intro A2 n3 c3 l3 w3 lX ho3 hi3 hn3 ahZ Mc k3 pB;have aec:=lX.len;obtain⟨b,rfl⟩:=Row.some lX (by omega);obtain⟨y,hy⟩:∃y,l3[i]? =some y:=⟨_,List.getElem?_eq_getElem (by omega)⟩;have hyl:=ho3 y (List.mem_of_getElem? hy);refine lX.us.load (i:=(i:Int)) (by omega) hy ⟨⟨by omega,by omega⟩,?_⟩;simp only [Is,Int.toNat_natCast,Nat.mul_one,a8,Nat.zero_add];rw [orU hyl tn];refine⟨Row.wr lX (by rw [oo];omega),l3.set i (y|||x),yn lX hi3 _,Ct ho3 (Nat.or_lt_two_pow (n:=64) hyl tn) _,fun j=>?_,?_⟩
   ·rw [Df (by omega),Mc]
    have Ad:j/64=i->bit v j=x.testBit (j%64):=fun e=>by unfold bit;rw [e,List.getD_eq_getElem?_getD,hx];rfl
    have IJ:j/64=i->bit l3 j=y.testBit (j%64):=fun e=>by unfold bit;rw [e,List.getD_eq_getElem?_getD,hy];rfl
    by_cases e:j/64=i
    ·rw [if_pos e,Nat.testBit_or,<-IJ e,<-Ad e,Mc]
     rw [decide_eq_false (show ¬j/64<i by omega),decide_eq_true (show j/64<i+1 by omega)];simp
    ·rw [if_neg e]
     congr 2
     exact decide_eq_decide.2 (by omega)
   ·refine Kept.setCell k3 (p:=⟨b,i,none⟩) (fun cH=>?_) _
    rcases pB b rfl with h|h
    ·exact h
    ·exact absurd cH (by simp only;omega)
  by_cases he:i=n'
  ·refine Split.yes (by simp [he]) ?_
   obtain⟨FA,xX,w2,hr,fz,k2,kZ⟩:=sN row (by omega) (Nat.le_trans hB kw.size) (t:=iy) 0;intro w10;refine⟨FA,n'+1,xX,w2,hr,?_⟩;have st:=step FA (n'+1) xX (l'++ [0]) w2 fz (Cu IE (by omega)) (by omega) (by omega) (by omega) (fun j=>by rw [zG,pI])
    (kw.trans k2 (fun k hk e=>by
      rcases hb k e with h|h
      ·exact h
      ·omega)) (fun k hk=>by
      rcases kZ k hk with h|h
      ·exact hb k h
      ·exact .inr (Nat.le_trans kw.size h))
   clear step;obtain⟨s1,s2⟩:=st;refine⟨s1,?_⟩;cases FA with
   |none=>exact s2.elim
   |some a=>
    obtain⟨t,s3,s4,s5,l4,s6,s7,s8,s9⟩:=s2;refine⟨t,s3,s4,s5,?_⟩;intro iZ;simp only;rw [dq (n:=(i:Int)) (by omega) (by omega)];exact⟨(some a,n'+1,xX,(i:Int)+1),rfl,⟨i+1,some a,n'+1,xX,l4,rfl,dQ,s6,s7,by omega,by omega,by omega,s8,s9,fun k hk=>by
     rcases kZ k hk with h|h
     ·exact hb k h
     ·exact .inr (Nat.le_trans kw.size h)⟩,by simp only;omega⟩
  ·refine Split.no (beq_eq_false_iff_ne.2 (by simp only;omega)) ?_
   have st:=step A' n' c' l' w' row IE (by omega) Ql (by omega) pI kw hb;clear step;obtain⟨s1,s2⟩:=st;refine⟨s1,?_⟩;cases A' with
   |none=>exact s2.elim
   |some a=>
    obtain⟨t,s3,s4,s5,l4,s6,s7,s8,s9⟩:=s2;refine⟨t,s3,s4,s5,?_⟩;intro iZ;simp only;rw [dq (n:=(i:Int)) (by omega) (by omega)];exact⟨(some a,n',c',(i:Int)+1),rfl,⟨i+1,some a,n',c',l4,rfl,dQ,s6,s7,by omega,Ql,by omega,s8,s9,hb⟩,by simp only;omega⟩
 ·simp only at fV
  have:i=n2:=by omega
  subst this;rw [aP,b9.dh];refine hK A' n' c' l' w' row IE (by omega) (fun j=>?_) kw hb;rw [pI]
  congr 1
  by_cases e:j/64<i
  ·rw [decide_eq_true e];simp
  ·rw [decide_eq_false e]
   unfold bit;rw [List.getD_eq_getElem?_getD,List.getElem?_eq_none (by omega)];simp
end
theorem zL:∀k m:Nat,(2 ^ k*(2*m+1))&&& (2 ^ k*(2*m+1)-1)=2 ^ (k+1)*m
 |0,m=>by
  apply Nat.eq_of_testBit_eq;intro i;rw [Nat.testBit_and];cases i with
  |zero=>simp [Nat.testBit_zero]
  |succ i=>
   simp only [Nat.testBit_succ];rw [show(2 ^ 0*(2*m+1))/2=m by omega,show(2 ^ 0*(2*m+1)-1)/2=m by omega,show 2 ^ (0+1)*m/2=m by omega];simp
 |k+1,m=>by
  have ih:=zL k m;have hp:0<2 ^ k*(2*m+1):=Nat.mul_pos (Nat.pow_pos (by omega)) (by omega);rw [show 2 ^ (k+1)*(2*m+1)=2*(2 ^ k*(2*m+1))by rw [Nat.pow_succ];ac_rfl,show 2 ^ (k+1+1)*m=2*(2 ^ (k+1)*m)by rw [Nat.pow_succ 2 (k+1)];ac_rfl];generalize 2 ^ k*(2*m+1)=x at ih hp⊢;rw [<-ih];apply Nat.eq_of_testBit_eq;intro i;rw [Nat.testBit_and];cases i with
  |zero=>simp [Nat.testBit_zero]
  |succ i=>
   simp only [Nat.testBit_succ];rw [show 2*x/2=x by omega,show(2*x-1)/2=x-1 by omega,show 2*(x&&& (x-1))/2=x&&& (x-1)by omega,Nat.testBit_and]
theorem Cw{x:Nat}(h0:x≠0)(hx:x<18446744073709551616):Lib.ctz 64 x<64/\x.testBit (Lib.ctz 64 x)=true/\∀t,(x&&& (x-1)).testBit t=(x.testBit t&&decide (t≠Lib.ctz 64 x)):=by
 obtain⟨m,h1,h2⟩:=Lib.ctzFrom_spec 64 x (by omega) hx;have e:Lib.ctz 64 x=Lib.ctzFrom 64 x:=by unfold Lib.ctz;rw [if_neg h0]
 rw [e];generalize Lib.ctzFrom 64 x=k at h1 h2⊢;have hand:x&&& (x-1)=2 ^ (k+1)*m:=by rw [h1];exact zL k m
 have hb:∀t,x.testBit t=(decide (t>=k)&&(2*m+1).testBit (t-k)):=fun t=>by rw [h1,Nat.testBit_two_pow_mul]
 refine⟨h2,by rw [hb];simp,fun t=>?_⟩;rw [hand,Nat.testBit_two_pow_mul,hb];by_cases ht:t=k
 ·subst ht
  simp;intro h;omega
 ·rw [decide_eq_true ht,Bool.and_true]
  by_cases hk:t>=k
  ·obtain⟨d,hd⟩:∃d,t-k=d+1:=⟨t-k-1,by omega⟩
   rw [decide_eq_true hk,decide_eq_true (show t>=k+1 by omega),hd,show t-(k+1)=d by omega,Nat.testBit_succ,show(2*m+1)/2=m by omega]
  ·rw [decide_eq_false hk,decide_eq_false (show ¬t>=k+1 by omega)]
   simp
theorem xI{x:Nat}(h0:x≠0):x&&& (x-1)<x:=Nat.lt_of_le_of_lt Nat.and_le_right (by omega)
def uk(x:Nat):List Nat:=if h:x=0 then []else Lib.ctz 64 x::uk (x&&& (x-1))
termination_by x
decreasing_by exact xI h
theorem wh:uk 0= []:=by rw [uk];simp
theorem wj{x:Nat}(h0:x≠0):uk x=Lib.ctz 64 x::uk (x&&& (x-1)):=by rw [uk,dif_neg h0]
theorem wi:∀(x:Nat),x<18446744073709551616->(∀t,t∈uk x↔x.testBit t=true)/\(uk x).Nodup/\∀t∈uk x,t<64:=by
 intro x
 induction x using Nat.strongRecOn with
 |_ x ih=>
  intro hx;by_cases h0:x=0
  ·subst h0;rw [wh];simp
  ·obtain⟨h1,h2,h3⟩:=Cw h0 hx
   obtain⟨i1,i2,i3⟩:=ih _ (xI h0) (Nat.lt_trans (xI h0) hx);rw [wj h0];refine⟨fun t=>?_,?_,fun t ht=>?_⟩
   ·rw [List.mem_cons,i1,h3]
    by_cases e:t=Lib.ctz 64 x
    ·rw [e,h2];simp
    ·simp [e]
   ·rw [List.nodup_cons,i1,h3]
    exact⟨by simp,i2⟩
   ·rcases List.mem_cons.1 ht with rfl|ht
    ·exact h1
    ·exact i3 t ht
def oJ:Nat->List Nat->List Nat
 |_,[]=> []
 |k,x::ws=>(uk x).map (64*k+ ·)++oJ (k+1) ws
theorem H7(x:Nat)(ws:List Nat)(j:Nat):bit (x::ws) j=if j<64 then x.testBit j else bit ws (j-64):=by
 unfold bit;split
 ·rename_i h
  rw [show j/64=0 by omega,show j%64=j by omega];rfl
 ·rename_i h
  rw [show j/64=(j-64)/64+1 by omega,show j%64=(j-64)%64 by omega];rfl
theorem oL:∀(ws:List Nat) (k j:Nat),okW ws->(j∈oJ k ws↔64*k<=j/\bit ws (j-64*k)=true)
 | [],k,j,_=>by simp [oJ,bit]
 |x::ws,k,j,ho=>by
  obtain⟨h1,_,h3⟩:=wi x (ho x (by simp));have ih:=oL ws (k+1) j (fun y hy=>ho y (by simp [hy]));rw [oJ,List.mem_append,ih,H7,List.mem_map];constructor
  ·rintro(⟨t,ht,rfl⟩|⟨h,hb⟩)
   ·have:=h3 t ht
    refine⟨by omega,?_⟩;rw [if_pos (by omega),show 64*k+t-64*k=t by omega];exact(h1 t).1 ht
   ·refine⟨by omega,?_⟩
    rw [if_neg (by omega),show j-64*k-64=j-64*(k+1)by omega];exact hb
  ·rintro⟨h,hb⟩
   split at hb
   ·exact .inl ⟨j-64*k,(h1 _).2 hb,by omega⟩
   ·refine .inr ⟨by omega,?_⟩
    rw [show j-64*(k+1)=j-64*k-64 by omega];exact hb
theorem uc:∀ {l m:List Nat},l.Nodup->(∀x∈l,x∈m)->l.length<=m.length
 | [],_,_,_=>Nat.zero_le _
 |x::l,m,hn,h=>by
  rw [List.nodup_cons]at hn;have hx:=h x (by simp);have:=uc (l:=l) (m:=m.erase x) hn.2 (fun y hy=>by
   have fC:y≠x:=fun e=>hn.1 (e▸hy);exact(List.mem_erase_of_ne fC).2 (h y (by simp [hy])))
  rw [List.length_erase_of_mem hx]at this;have iX:0<m.length:=List.length_pos_of_mem hx;simp only [List.length_cons];omega
def tc(w:World):Prop:=TabAt (Tryz.jl.g 1) Lib.deBruijn64tab w
theorem tc.aC{S:Nat->Prop}{w w':World}(h:tc w)(hk:Kept S w w')(hn:¬S (Tryz.jl.g 1)):tc w':=fun j hj=>hk.cell (h j hj) hn
theorem tc.same{w w':World}(h:tc w)(hk:Kept Nil w w'):tc w':=h.aC hk fun h=>h
theorem tc.lt{w:World}(h:tc w):Tryz.jl.g 1<w.heap.size:=World.block_lt_of_cell? w _ (h 0 (by decide))
section
variable{w:World}{K:Value->World->Prop}
theorem QT{x:Nat}(hx:x<18446744073709551616)(hT:tc w)(hK:K (.int .i64 (Lib.ctz 64 x:Nat)) w):bk prog bits_TrailingZeros64.id #[.int .u64 (x:Int)] w K:=by
 refine Calls.mono (Any7.bits_TrailingZeros64 Tryz.tzL x hx w (fun _=>hT)) ?_;rintro e w' ⟨rfl,rfl⟩;exact⟨_,rfl,hK⟩
abbrev encI(i:Nat):List Value:= [.int .i64 (i:Int)]
theorem Ia(p:Addr){A:Option Addr}{n c:Nat}{l:List Nat}(hn:n<=100000)(ho:okW l):
 nf prog aI.id #[] #[.pointer (some p)] ((oJ 0 l).map encI) (fun w=>US w A n l/\w.cell? p=some (.slice A n c)/\tc w):=by
 intro y I D w0 hI hD qS h0 qf;refine aI.of ?_;obtain⟨CW,Qj,_⟩:=qS 0 w0 h0;have hlen:=CW.len;refine⟨A,n,c,Qj,?_⟩;refine aI.cf (I:=fun s w'=>∃(i:Nat) (dn:List Nat),s=(i:Int)/\i<=n/\dn++oJ i (l.drop i)=oJ 0 l/\I dn.length w') (μ:=fun s _=>((n:Int)-s).toNat) (s:=0) ⟨0,[],rfl,Nat.zero_le _,rfl,h0⟩ ?_;rintro s w' ⟨i,dn,rfl,hi,Hq,hw⟩;refine Split.dec (fun jb=>?_) (fun fV=>?_)
 ·have dQ:i<n:=by omega
  obtain⟨x,hx⟩:∃x,l[i]? =some x:=⟨_,List.getElem?_eq_getElem (by omega)⟩;have tn:=ho x (List.mem_of_getElem? hx);have hl:=(qS _ w' hw).1;have uB:l.drop i=x::l.drop (i+1):=by
   obtain⟨h1,h2⟩:=lgeS hx;rw [List.drop_eq_getElem_cons h1,h2]
  rw [uB,oJ]at Hq;refine hl.load (i:=(i:Int)) (by omega) hx ?_;refine aI.gz (I:=fun s w'=>∃(v:Nat) (dn:List Nat),s=(v:Int)/\v<18446744073709551616/\dn++((uk v).map (64*i+ ·)++oJ (i+1) (l.drop (i+1)))=oJ 0 l/\I dn.length w') (μ:=fun s _=>s.toNat) (s:=(x:Int)) ⟨x,dn,rfl,tn,Hq,hw⟩ ?_;clear hw Hq;rintro s w1 ⟨v,W7,rfl,hv,Hp,IA⟩;by_cases h0:v=0
  ·refine Split.no (by subst h0;rfl) ?_
   rw [aP,aI.jB];unfold aI.gY;rw [dq (n:=(i:Int)) (by omega) (by omega)];rw [h0,wh,List.map_nil,List.nil_append]at Hp;exact⟨(i:Int)+1,rfl,⟨i+1,W7,rfl,dQ,Hp,IA⟩,by simp only;omega⟩
  ·refine Split.yes (bne_iff_ne.2 (by omega)) ?_
   have hpr:=qS _ w1 IA;obtain⟨hk,LW,hkr⟩:=Cw h0 hv;rw [wj h0,List.map_cons,List.cons_append]at Hp;refine QT hv hpr.2.2 ⟨_,rfl,?_⟩;have fX:((oJ 0 l).map encI)[W7.length]? =some (encI (64*i+Lib.ctz 64 v)):=by
    rw [List.getElem?_map,<-Hp,List.getElem?_append_right (Nat.le_refl _),Nat.sub_self];rfl
   have Er:i64.wrap (i64.wrap ((64:Int)*(i:Int))+((Lib.ctz 64 v:Nat):Int))=((64*i+Lib.ctz 64 v:Nat):Int):=by
    rw [gU (x:=(64:Int)*(i:Int)) (by omega) (by omega),gU (by omega) (by omega)];omega
   rw [Er];refine(qf W7.length _ w1 fX IA).mono ?_;rintro b lf ⟨ht,hf⟩;have mu:u64.wrap ((BitVec.ofInt 64 (v:Int)&&& BitVec.ofInt 64 (u64.wrap ((v:Int)-(1:Int)))).toNat:Int)=((v&&& (v-1):Nat):Int):=by
    have e1:(v:Int)-1=((v-1:Nat):Int):=by omega
    rw [e1,jk (x:=v-1) (by omega),ab2 hv (by omega)]
   cases b with
   |true=>
    refine Split.no rfl ?_;rw [mu];have cH:=xI h0;refine⟨((v&&& (v-1):Nat):Int),rfl,⟨v&&& (v-1),W7++ [64*i+Lib.ctz 64 v],rfl,by omega,by rw [List.append_assoc];exact Hp,?_⟩,by simp only;omega⟩;rw [List.length_append];exact ht rfl
   |false=>
    refine Split.yes rfl ?_;exact Or.inr (hf rfl)
 ·rw [aP,aI.dh]
  have e:i=n:=by omega
  subst e;refine Or.inl ?_;rw [List.drop_eq_nil_of_le (by omega),oJ,List.append_nil]at Hq;rw [List.length_map,<-Hq];exact hw
end
def pos(h:HT):List HT->Nat->Option Nat
 | [],_=>none
 |x::l,i=>if h=x then some i else pos h l (i+1)
theorem oG{h:HT}:∀ {l:List HT} {i:Nat},pos h l i=none↔h∉l
 | [],i=>by simp [pos]
 |x::l,i=>by
  unfold pos;split
  ·rename_i e;simp [e]
  ·rename_i e
   rw [oG (l:=l)];simp [e]
theorem tU{h:HT}:∀ {l:List HT} {i j:Nat},pos h l i=some j->i<=j/\l[j-i]? =some h
 | [],i,j,e=>by simp [pos]at e
 |x::l,i,j,e=>by
  unfold pos at e;split at e
  ·rename_i hx
   cases e;subst hx;exact⟨Nat.le_refl _,by rw [Nat.sub_self];rfl⟩
  ·obtain⟨h1,h2⟩:=tU e
   refine⟨by omega,?_⟩;rw [show j-i=(j-(i+1))+1 by omega];exact h2
theorem jY{h:HT}:∀ {l:List HT} (i j:Nat),l.Nodup->l[j]? =some h->pos h l i=some (i+j)
 | [],i,j,_,e=>by simp at e
 |x::l,i,0,_,e=>by
  simp only [List.getElem?_cons_zero,Option.some.injEq]at e;unfold pos;rw [if_pos e.symm];simp
 |x::l,i,j+1,hn,e=>by
  simp only [List.getElem?_cons_succ]at e;rw [List.nodup_cons]at hn;unfold pos;rw [if_neg (fun hx=>hn.1 (by rw [<-hx];exact List.mem_of_getElem? e)),jY (i+1) j hn.2 e]
  congr 1
  omega
section
variable{w:World}
theorem IY:prog.underlying aj=some (.array 32 iu):=by kernel_rfl
theorem MJ:prog.underlying iu=some (.int .u8):=by kernel_rfl
theorem Lp:∃i,prog.info? iu=some i/\i.size=1:=by
 have h:(match prog.info? iu with|some i=>Nat.beq i.size 1|none=>false)=true:=by kernel_rfl
 split at h
 ·rename_i i hi;exact⟨i,hi,Nat.eq_of_beq_eq_true h⟩
 ·cases h
theorem MK:prog.underlying ck=some (.map aj jh):=by kernel_rfl
theorem tK(a b:HT)(w:World):(Op.equal aj (.agg a.1) (.agg b.1)).run prog w=.ok (decide (a=b)) w:=by
 obtain⟨i,hi,h1⟩:=Lp;have:=oy (P:=prog) 9998 w IY MJ hi h1 a.2.ints b.2.ints;rw [du]at this;simp only [Op.equal,Op.maxDepth];exact this
theorem iJ(h:HT)(em:Bool)(w:World):(Instr.checkKey em 10000 aj (.agg h.1)).run prog w=.ok () w:=by
 obtain⟨i,hi,h1⟩:=Lp;have hc:prog.cellsOf iu=1:=by simp [Program.cellsOf,hi,h1]
 rw [show(10000:Nat)=9999+1 from rfl,Instr.checkKey];simp only [Sem.run_bind,run_underlying IY,Result.andThen_ok];simp only [Std.Legacy.Range.forIn_eq_forIn_range',Std.Legacy.Range.size,Nat.sub_zero,Nat.add_one_sub_one,Nat.div_one];have each:∀j∈List.range' 0 32,∃v,h.1[j]? =some v/\∃x:Int,v=.int .u8 x:=fun j hj=>by
  have uy:j<h.1.size:=by rw [h.2.1];simpa using hj
  obtain⟨x,hx,_⟩:=h.2.2 h.1[j] (by simp);exact⟨_,Array.getElem?_eq_getElem uy,x,hx⟩
 generalize List.range' 0 32=is at each
 induction is with
 |nil=>simp
 |cons j is ih=>
  obtain⟨v,hv,x,rfl⟩:=each j (by simp);have Kt:(isAgg iu).run prog w=.ok false w:=by simp [isAgg,run_underlying MJ]
  have p1:(part iu h.1 (j*1)).run prog w=.ok (.int .u8 x) w:=by simp [part,Kt,hv]
  have p2:(Instr.checkKey em 9999 iu (.int .u8 x)).run prog w=.ok () w:=by
   rw [show(9999:Nat)=9998+1 from rfl,Instr.checkKey];simp [run_underlying MJ]
  simp only [List.forIn_cons,Sem.run_bind,Go.bU.run_sizeOf hi w,hc,Result.andThen_ok,p1,p2,Sem.run_pure];exact ih (fun y hy=>each y (by simp [hy]))
def zR(es:List MapEntry)(l:List HT)(i:Nat):Prop:=match es,l with
 | [],[]=>True
 |e::es,h::l=>(e.key=.agg h.1/\e.val=.int .i64 (i:Int))/\zR es l (i+1)
 |_,_=>False
theorem zR.snoc:∀ {es:List MapEntry} {l:List HT} {i:Nat} {e:MapEntry} {h:HT},zR es l i->e.key=.agg h.1->e.val=.int .i64 ((i+l.length:Nat):Int)->zR (es++ [e]) (l++ [h]) i
 | [],[],i,e,h,_,h1,h2=>⟨⟨h1,by simpa using h2⟩,trivial⟩
 |x::es,y::l,i,e,h,he,h1,h2=>⟨he.1,zR.snoc he.2 h1 (by rw [h2];congr 2;simp;omega)⟩
 | [],_::_,_,_,_,he,_,_=>he.elim
 |_::_,[],_,_,_,he,_,_=>he.elim
theorem qz(h:HT)(w:World):∀(es:List MapEntry) (l:List HT) (i:Nat),zR es l i->
 (Instr.findAsking aj (.agg h.1) es i).run prog w=.ok ((pos h l i).map fun j=>(j,.int .i64 (j:Int))) w
 | [],[],i,_=>by simp [Instr.findAsking,pos]
 |e::es,x::l,i,he=>by
  have hq:=tK h x w;have ih:=qz h w es l (i+1) he.2;simp only [Instr.findAsking,he.1.1,Sem.run_bind,hq,Result.andThen_ok];by_cases hx:h=x
  ·simp [hx,pos,he.1.2]
  ·simp [hx,pos,ih]
 | [],_::_,_,he=>he.elim
 |_::_,[],_,he=>he.elim
theorem nt(h:HT)(w:World){es:List MapEntry}{l:List HT}(he:zR es l 0):
 (Instr.findKey aj (.agg h.1) es).run prog w=.ok ((pos h l 0).map fun j=>(j,.int .i64 (j:Int))) w:=by
 have h1:=qz h w es l 0 he;simp only [Instr.findKey,Sem.run_bind,run_underlying IY,Result.andThen_ok];cases es with
 |nil=>
  cases l with
  |nil=>simp [Instr.findNow,pos]
  |cons x l=>exact he.elim
 |cons e es=>
  have:Instr.findNow (.array 32 iu) (.agg h.1) (e::es) 0=none:=by
   simp only [Instr.findNow,Instr.sameNow]
  rw [this];exact h1
theorem oX{r:Nat}{es:Array MapEntry}{clock:Nat}(hb:w.heap[r]? =some (.map es clock)):(getObj r).run prog w=.ok (.map es clock) w:=by
 simp [getObj,Sem.run,hb]
theorem Ay{r:Nat}{es:Array MapEntry}{clock:Nat}(o:Obj)(hb:w.heap[r]? =some (.map es clock)):(setObj r o).run prog w=.ok () {w with heap:=w.heap.setIfInBounds r o}:=by
 simp [setObj,Sem.run,hb]
structure IsMap(w:World)(m:Nat)(l:List HT):Prop where
 ex:∃es clock,w.heap[m]? =some (.map es clock)/\zR es.toList l 0
theorem IsMap.aC{S:Nat->Prop}{w w':World}{m:Nat}{l:List HT}(h:IsMap w m l)(hk:Kept S w w')(hn:¬S m):IsMap w' m l:=by
 obtain⟨es,clock,h1,h2⟩:=h.ex;exact⟨es,clock,hk.heap h1 hn,h2⟩
theorem IsMap.lt{w:World}{m:Nat}{l:List HT}(h:IsMap w m l):m<w.heap.size:=by
 obtain⟨es,clock,h1,_⟩:=h.ex;exact aQ h1
theorem IsMap.look{m:Nat}{l:List HT}(hm:IsMap w m l)(h:HT):
 (Instr.lookup ck (.map (some m)) (.agg h.1) true).run prog w=.ok (.tuple #[.int .i64 (((pos h l 0).getD 0:Nat):Int),.bool (pos h l 0).isSome]) w:=by
 obtain⟨es,clock,h1,h2⟩:=hm.ex;have h3:=nt h w h2;simp only [Instr.lookup,Sem.run_bind,run_underlying MK,oX h1,Result.andThen_ok,Sem.run_pure,iJ,h3];cases hp:pos h l 0<;>simp
theorem IsMap.wk{m:Nat}{l:List HT}(hm:IsMap w m l)(h:HT):
 (Instr.lookup ck (.map (some m)) (.agg h.1) false).run prog w=.ok (.int .i64 (((pos h l 0).getD 0:Nat):Int)) w:=by
 obtain⟨es,clock,h1,h2⟩:=hm.ex;have h3:=nt h w h2;simp only [Instr.lookup,Sem.run_bind,run_underlying MK,oX h1,Result.andThen_ok,Sem.run_pure,iJ,h3];cases hp:pos h l 0<;>simp
theorem IsMap.put{m:Nat}{l:List HT}(hm:IsMap w m l){h:HT}(hn:h∉l):
 ∃w',(Instr.mapUpdate ck (.map (some m)) (.agg h.1) (.int .i64 ((l.length:Nat):Int))).run prog w=.ok () w'/\IsMap w' m (l++ [h])/\Kept (· =m) w w':=by
 obtain⟨es,clock,h1,h2⟩:=hm.ex;have h3:=nt h w h2;rw [oG.2 hn]at h3;refine⟨{w with heap:=w.heap.setIfInBounds m (.map (es.push {key:=.agg h.1,val:=.int .i64 ((l.length:Nat):Int),born:=clock}) (clock+1))},?_,⟨es.push {key:=.agg h.1,val:=.int .i64 ((l.length:Nat):Int),born:=clock},clock+1,?_,?_⟩,?_⟩
 ·simp only [Instr.mapUpdate,Sem.run_bind,run_underlying MK,oX h1,Result.andThen_ok,iJ,h3,Option.map_none,Ay _ h1]
 ·simp [aQ h1]
 ·have:=h2.snoc (e:= {key:=.agg h.1,val:=.int .i64 ((l.length:Nat):Int),born:=clock}) (h:=h) rfl (by simp)
  simpa using this
 ·exact⟨rfl,rfl,rfl,by simp,fun k _ hk=>by simp [Ne.symm hk]⟩
end
end Go.Proofs.YtnboahlopghcjaaGreatDoor
namespace Go.Proofs.YtnboahlopghcjaaGreatDoor
open Go.Proofs.Tryz
open Go Go.bU
structure DN where
 id:HT
 ps:List HT
abbrev DG:=List DN
def ids(D:DG):List HT:=D.map (·.id)
def ma(D:DG)(p h:HT):Prop:=∃nd∈D,nd.id=h/\p∈nd.ps
inductive eB (D:DG):HT->HT->Prop
 |one {p h:HT}:ma D p h->eB D p h
 |more {a p h:HT}:eB D a p->ma D p h->eB D a h
theorem eB.trans{D:DG}{a b c:HT}(h:eB D a b)(h':eB D b c):eB D a c:=by
 induction h' with
 |one hp=>exact .more h hp
 |more _ hp ih=>exact .more ih hp
structure jv(D:DG):Prop where
 pos:0<D.length
 nodup:(ids D).Nodup
 ss:∀nd∈D,SS nd.ps
 up:∀(i:Nat) nd p,D[i]? =some nd->p∈nd.ps->∃(j:Nat) (m:DN),j<i/\D[j]? =some m/\m.id=p
theorem fN(D:DG):(ids D).length=D.length:=by simp [ids]
theorem pr{D:DG}{i:Nat}{nd:DN}(h:D[i]? =some nd):(ids D)[i]? =some nd.id:=by simp [ids,h]
theorem GR{D:DG}{i:Nat}{h:HT}(e:(ids D)[i]? =some h):∃nd,D[i]? =some nd/\nd.id=h:=by
 unfold ids at e;rw [List.getElem?_map]at e;cases hd:D[i]? with
 |none=>rw [hd]at e;cases e
 |some nd=>rw [hd]at e;exact⟨nd,rfl,by simpa using e⟩
theorem dt{D:DG}{h:HT}:h∈ids D↔∃nd∈D,nd.id=h:=by simp [ids]
section
variable{D:DG}
theorem jv.inj(W:jv D){i j:Nat}{a b:DN}(ha:D[i]? =some a)(hb:D[j]? =some b)(e:a.id=b.id):i=j:=by
 have h1:=jY 0 i W.nodup (pr ha);have h2:=jY 0 j W.nodup (pr hb);rw [e,h2]at h1;simpa using h1.symm
theorem jv.pos_eq(W:jv D){i:Nat}{nd:DN}(h:D[i]? =some nd):Proofs.YtnboahlopghcjaaGreatDoor.pos nd.id (ids D) 0=some i:=by
 have:=jY 0 i W.nodup (pr h)
 rwa [Nat.zero_add]at this
theorem ma.at_(W:jv D){p h:HT}(hp:ma D p h):∃(i j:Nat) (m nd:DN),i<j/\D[i]? =some m/\D[j]? =some nd/\m.id=p/\nd.id=h/\p∈nd.ps:=by
 obtain⟨nd,eQ,rfl,oP⟩:=hp;obtain⟨j,hj⟩:=List.mem_iff_getElem?.1 eQ;obtain⟨i,m,qg,hm,e⟩:=W.up j nd p hj oP;exact⟨i,j,m,nd,qg,hm,hj,e,rfl,oP⟩
theorem eB.at_(W:jv D){a h:HT}(hp:eB D a h):∃(i j:Nat) (m nd:DN),i<j/\D[i]? =some m/\D[j]? =some nd/\m.id=a/\nd.id=h:=by
 induction hp with
 |one hp=>
  obtain⟨i,j,m,nd,h1,h2,h3,h4,h5,_⟩:=hp.at_ W;exact⟨i,j,m,nd,h1,h2,h3,h4,h5⟩
 |more _ hp ih=>
  obtain⟨i,j,m,nd,h1,h2,h3,h4,h5⟩:=ih;obtain⟨i',j',m',nd',sH,uD,C7,WT,h5',_⟩:=hp.at_ W;have e:=W.inj h3 uD (by rw [h5,WT]);exact⟨i,j',m,nd',by omega,h2,C7,h4,h5'⟩
theorem eB.irrefl(W:jv D)(a:HT):¬eB D a a:=fun h=>by
 obtain⟨i,j,m,nd,h1,h2,h3,h4,h5⟩:=h.at_ W;have:=W.inj h2 h3 (by rw [h4,h5]);omega
theorem eB.mem(W:jv D){a h:HT}(hp:eB D a h):a∈ids D/\h∈ids D:=by
 obtain⟨i,j,m,nd,_,h2,h3,h4,h5⟩:=hp.at_ W;exact⟨dt.2 ⟨m,List.mem_of_getElem? h2,h4⟩,dt.2 ⟨nd,List.mem_of_getElem? h3,h5⟩⟩
theorem tz(W:jv D){i:Nat}{nd:DN}(h:D[i]? =some nd)(a:HT):eB D a nd.id↔∃p∈nd.ps,a=p\/eB D a p:=by
 have key:∀ {p},ma D p nd.id->p∈nd.ps:=fun⟨nd',hm,e,hp⟩=>by
  obtain⟨j,hj⟩:=List.mem_iff_getElem?.1 hm;have:=W.inj h hj e.symm;subst this;rw [h]at hj;cases hj;exact hp
 constructor
 ·intro ha
  generalize he:nd.id=x at ha;cases ha with
  |one hp=>subst he;exact⟨a,key hp,.inl rfl⟩
  |more Ae hp=>subst he;exact⟨_,key hp,.inr Ae⟩
 ·rintro⟨p,hp,e⟩
  have jT:ma D p nd.id:=⟨nd,List.mem_of_getElem? h,rfl,hp⟩;rcases e with rfl|e
  ·exact .one jT
  ·exact .more e jT
theorem mJ{nd:DN}{p h:HT}:ma (D++ [nd]) p h↔ma D p h\/(nd.id=h/\p∈nd.ps):=by
 unfold ma;constructor
 ·rintro⟨m,hm,e,hp⟩
  rw [List.mem_append,List.mem_singleton]at hm;rcases hm with hm|rfl
  ·exact .inl ⟨m,hm,e,hp⟩
  ·exact .inr ⟨e,hp⟩
 ·rintro(⟨m,hm,e,hp⟩|⟨e,hp⟩)
  ·exact⟨m,by simp [hm],e,hp⟩
  ·exact⟨nd,by simp,e,hp⟩
theorem iN(W:jv D){nd:DN}(hn:nd.id∉ids D){a h:HT}(hh:h∈ids D):eB (D++ [nd]) a h↔eB D a h:=by
 constructor
 ·intro ha
  induction ha with
  |one hp=>
   rcases mJ.1 hp with hp|⟨e,_⟩
   ·exact .one hp
   ·subst e;exact absurd hh hn
  |more _ hp ih=>
   rcases mJ.1 hp with hp|⟨e,_⟩
   ·exact .more (ih (eB.mem W (.one hp)).1) hp
   ·subst e;exact absurd hh hn
 ·intro ha
  induction ha with
  |one hp=>exact .one (mJ.2 (.inl hp))
  |more Ae hp ih=>exact .more (ih (eB.mem W Ae).2) (mJ.2 (.inl hp))
theorem kr(D:DG)(nd:DN):ids (D++ [nd])=ids D++ [nd.id]:=by simp [ids]
theorem jv.snoc(W:jv D){nd:DN}(hn:nd.id∉ids D)(oP:∀p∈nd.ps,p∈ids D)(hs:SS nd.ps):jv (D++ [nd]) where
 pos:=by simp
 nodup:=by
  rw [kr,List.nodup_append];refine⟨W.nodup,by simp,fun a ha b hb=>?_⟩;rw [List.mem_singleton]at hb;subst hb;exact fun e=>hn (e▸ha)
 ss:=fun m hm=>by
  rw [List.mem_append,List.mem_singleton]at hm;rcases hm with hm|rfl
  ·exact W.ss m hm
  ·exact hs
 up:=fun i m p hi hp=>by
  rw [List.getElem?_append]at hi;split at hi
  ·rename_i cH
   obtain⟨j,q,h1,h2,h3⟩:=W.up i m p hi hp;exact⟨j,q,h1,by rw [List.getElem?_append_left (by omega)];exact h2,h3⟩
  ·rename_i fV
   have:m=nd:=by
    cases hk:i-D.length with
    |zero=>rw [hk]at hi;simpa using hi.symm
    |succ k=>rw [hk]at hi;simp at hi
   subst this;obtain⟨q,hq,e⟩:=dt.1 (oP p hp);obtain⟨j,hj⟩:=List.mem_iff_getElem?.1 hq;have sV:=(lgeS hj).1;exact⟨j,q,by omega,by rw [List.getElem?_append_left sV];exact hj,e⟩
end
theorem jv.root(r:HT):jv [⟨r,[]⟩] where
 pos:=by simp
 nodup:=by simp [ids]
 ss:=fun nd h=>by simp at h;subst h;exact List.Pairwise.nil
 up:=fun i nd p h hp=>by
  cases i with
  |zero=>simp at h;subst h;simp at hp
  |succ i=>simp at h
def dr(D:DG)(h:HT)(l:List HT):Int:=
 if h∈ids D then 7 else if(de l).length=0\/(de l).length≠l.length then 9 else if ∃p∈de l,p∉ids D then 6 else 0
def l9(D:DG)(h:HT)(l:List HT):DG:=if dr D h l=0 then D++ [⟨h,de l⟩]else D
theorem jP{D:DG}{h:HT}{l:List HT}(e:dr D h l=0):h∉ids D/\l≠ []/\l.Nodup/\∀p∈de l,p∈ids D:=by
 unfold dr at e;split at e
 ·cases e
 ·rename_i h1
  split at e
  ·cases e
  ·rename_i h2
   split at e
   ·cases e
   ·rename_i h3
    simp only [not_or,Decidable.not_not]at h2;refine⟨h1,fun hl=>h2.1 (by rw [hl];rfl),qI h2.2,fun p hp=>Classical.byContradiction fun hn=>h3 ⟨p,hp,hn⟩⟩
theorem jv.add{D:DG}(W:jv D)(h:HT)(l:List HT):jv (l9 D h l):=by
 unfold l9;split
 ·rename_i e
  obtain⟨h1,_,_,h4⟩:=jP e;exact W.snoc h1 h4 (gN l)
 ·exact W
open Classical in
noncomputable def pick(D:DG)(is:HT->Prop):List HT:=de ((ids D).filter fun a=>decide (is a))
theorem iw{D:DG}{is:HT->Prop}{a:HT}:a∈pick D is↔a∈ids D/\is a:=by
 unfold pick;rw [df,List.mem_filter];simp
theorem Cs{D:DG}{is:HT->Prop}{l:List HT}(h:∀a,a∈l↔a∈ids D/\is a):de l=pick D is:=tk fun x=>by
 rw [h,List.mem_filter];simp
theorem jK(D:DG)(is:HT->Prop):(pick D is).length<=D.length:=by
 unfold pick;refine Nat.le_trans (me _) (Nat.le_trans (List.length_filter_le _ _) ?_);rw [fN];exact Nat.le_refl _
noncomputable def cy(D:DG)(l:List HT):List HT:=pick D fun a=>∃h∈l,eB D a h
noncomputable def fY(D:DG)(h:HT):List HT:=pick D fun a=>ma D h a
open Go.RowKit
structure NS(w:World)(F:Nat->Prop)(A:Option Addr)(n:Nat)(l:List DN):Prop where
 len:l.length=n
 at_:∀(i:Nat) nd,l[i]? =some nd->∃a pA pn pc,A=some a/\a.block<w.heap.size/\F a.block/\Cells w (a.add (i*33)) (nd.id.1.push (.slice pA pn pc))/\HS w pA pn nd.ps/\∀b,pA=some b->F b.block
section
variable{w w':World}{F F' S:Nat->Prop}{A:Option Addr}{n:Nat}{l:List DN}
theorem NS.aC(h:NS w F A n l)(hk:Kept S w w')(hn:∀k,F k->¬S k):NS w' F A n l:=⟨h.len,fun i nd hi=>by
 obtain⟨a,pA,pn,pc,h1,h2,h3,h4,h5,h6⟩:=h.at_ i nd hi;exact⟨a,pA,pn,pc,h1,Nat.lt_of_lt_of_le h2 hk.size,h3,Cells.aC h4 hk (by rw [eJ];exact hn _ h3),h5.aC hk (fun b hb=>hn _ (h6 b hb)),h6⟩⟩
theorem NS.mono(h:NS w F A n l)(hf:∀k,F k->F' k):NS w F' A n l:=⟨h.len,fun i nd hi=>by
 obtain⟨a,pA,pn,pc,h1,h2,h3,h4,h5,h6⟩:=h.at_ i nd hi;exact⟨a,pA,pn,pc,h1,h2,hf _ h3,h4,h5,fun b hb=>hf _ (h6 b hb)⟩⟩
theorem tT{h:HT}{v:Value}{j:Nat}{u:Value}(hj:h.1[j]? =some u):(h.1.push v)[j]? =some u:=by
 have cH:=(Array.getElem?_eq_some_iff.1 hj).1;rw [Array.getElem?_push,if_neg (by omega),hj]
theorem po(h:HT)(v:Value):(h.1.push v)[32]? =some v:=by
 have:=h.2.1;rw [Array.getElem?_push,if_pos (by omega)]
theorem NS.id(h:NS w F A n l){i:Int}{nd:DN}(h0:0<=i)(hx:l[i.toNat]? =some nd){k:Array Value->Prop}(hk:k nd.id.1):
 (0<=i/\i<(n:Int))/\Is A fun a=>∃t:Array Value,(t.size=32/\Cells w ((a.add (i.toNat*33)).add 0) t)/\k t:=by
 obtain⟨a,pA,pn,pc,rfl,_,_,h4,_,_⟩:=h.at_ _ nd hx;have:=(lgeS hx).1;have:=h.len;refine⟨⟨h0,by omega⟩,nd.id.1,⟨nd.id.2.1,fun j v hj=>?_⟩,hk⟩;rw [add_zero];exact h4 j v (tT hj)
theorem NS.ps(h:NS w F A n l){i:Int}{nd:DN}(h0:0<=i)(hx:l[i.toNat]? =some nd){k:Option Addr->Nat->Nat->Prop}(hk:∀pA pn pc,HS w pA pn nd.ps->(∀b,pA=some b->F b.block)->k pA pn pc):
 (0<=i/\i<(n:Int))/\Is A fun a=>∃pA pn pc,w.cell? ((a.add (i.toNat*33)).add 32)=some (.slice pA pn pc)/\k pA pn pc:=by
 obtain⟨a,pA,pn,pc,rfl,_,_,h4,h5,h6⟩:=h.at_ _ nd hx;have:=(lgeS hx).1;have:=h.len;exact⟨⟨h0,by omega⟩,pA,pn,pc,h4 32 _ (po _ _),hk _ _ _ h5 h6⟩
theorem NS.cells(h:NS w F A n l):∀k,k<=n->∃news:List Value,news.length=k*33/\(∀a,A=some a->∀j u,news[j]? =some u->w.cell? (a.add j)=some u)/\(∀u∈news,u.oneCell'=true)/\
 ∀(i:Nat) nd,i<k->l[i]? =some nd->∃pA pn pc,HS w pA pn nd.ps/\(∀b,pA=some b->F b.block)/\∀(j:Nat) v,(nd.id.1.push (.slice pA pn pc))[j]? =some v->news[i*33+j]? =some v
 |0,_=>⟨[],rfl,by simp,by simp,by intro i nd hi;omega⟩
 |k+1,hk=>by
  obtain⟨news,e1,e2,e3,e4⟩:=h.cells k (by omega);have hlen:=h.len;obtain⟨nd,eQ⟩:∃nd,l[k]? =some nd:=⟨_,List.getElem?_eq_getElem (by omega)⟩;obtain⟨a,pA,pn,pc,hA,h2,h3,h4,h5,h6⟩:=h.at_ _ nd eQ;have kY:(nd.id.1.push (.slice pA pn pc)).size=33:=by rw [Array.size_push,nd.id.2.1]
  refine⟨news++(nd.id.1.push (.slice pA pn pc)).toList,by rw [List.length_append,e1,Array.length_toList,kY];omega,fun a' Ae j u hj=>?_,fun u hu=>?_,fun i md hi wz=>?_⟩
  ·rw [List.getElem?_append]at hj
   split at hj
   ·exact e2 a' Ae j u hj
   ·rename_i fV
    rw [hA]at Ae;cases Ae;have:=h4 (j-news.length) u (by rw [<-Array.getElem?_toList];exact hj)
    rwa [kK,show k*33+(j-news.length)=j by omega]at this
  ·rw [List.mem_append]at hu
   rcases hu with hu|hu
   ·exact e3 u hu
   ·simp only [Array.toList_push,List.mem_append,List.mem_singleton]at hu
    rcases hu with hu|rfl
    ·exact nd.id.2.one u hu
    ·rfl
  ·by_cases hik:i<k
   ·obtain⟨qA,qn,qc,f1,f2,f3⟩:=e4 i md hik wz
    exact⟨qA,qn,qc,f1,f2,fun j v hj=>by
     have:=f3 j v hj;rw [List.getElem?_append_left (lgeS this).1];exact this⟩
   ·have:i=k:=by omega
    subst this;rw [eQ]at wz;cases wz;exact⟨pA,pn,pc,h5,h6,fun j v hj=>by
     rw [List.getElem?_append_right (by omega),e1,show i*33+j-i*33=j by omega,Array.getElem?_toList];exact hj⟩
theorem wU:xY prog ct bM 33 56:=⟨by kernel_rfl,by kernel_rfl⟩
theorem De:QD prog bM=some ([(0,32),(32,1)],List.replicate 32 (.int .u8 0)++ [.slice none 0 0]):=by kernel_rfl
theorem EV(h:HT)(A:Option Addr)(n c:Nat):prog.built bM [(0,.agg h.1),(1,.slice A n c)]=some (h.1.push (.slice A n c)):=by
 have hs:=h.2.1;rw [mU De,iA (off:=0) (size:=32) rfl (by simpa [Value.cells]using hs) (by simp),iA (off:=32) (size:=1) rfl rfl (by
  rw [List.size_toArray,lD (by simp [Value.cells,hs])];simp)]
 simp only [Instr.fill,Option.some.injEq];apply Array.ext';unfold gq;simp [Value.cells,hs]
structure tg(w:World)(F:Nat->Prop)(r:Nat)(D:DG):Prop where
 ex:∃(A:Option Addr) (c:Nat) (cs:Array Value) (t:TypeId),w.heap[r]? =some (.cells cs t (0,0))/\cs[0]? =some (.slice A D.length c)/\NS w F A D.length D
 gR:¬F r
theorem tg.aC{r:Nat}{D:DG}(h:tg w F r D)(hk:Kept S w w')(hr:¬S r)(hn:∀k,F k->¬S k):tg w' F r D:=by
 obtain⟨A,c,cs,t,h1,h0,h2⟩:=h.ex;exact⟨⟨A,c,cs,t,hk.heap h1 hr,h0,h2.aC hk hn⟩,h.gR⟩
theorem tg.same{r:Nat}{D:DG}(h:tg w F r D)(hk:Kept Nil w w'):tg w' F r D:=h.aC hk (fun h=>h) (fun _ _ h=>h)
theorem tg.lt{r:Nat}{D:DG}(h:tg w F r D):r<w.heap.size:=by obtain⟨A,c,cs,t,h1,_⟩:=h.ex;exact aQ h1
theorem tg.go{r:Nat}{D:DG}(h:tg w F r D){k:Option Addr->Nat->Nat->Prop}(hk:∀A c,NS w F A D.length D->k A D.length c):
 ∃A n m,w.cell? ((⟨r,0,none⟩:Addr).add 0)=some (.slice A n m)/\k A n m:=by
 obtain⟨A,c,cs,t,h1,h0,h2⟩:=h.ex;exact⟨A,_,c,by rw [add_zero,ay h1];exact h0,hk A c h2⟩
theorem tg.go'{r:Nat}{D:DG}(h:tg w F r D)(kw:Kept Nil w w'){k:Option Addr->Nat->Nat->Prop}(hk:∀A c,NS w F A D.length D->k A D.length c):
 ∃A n m,w'.cell? ((⟨r,0,none⟩:Addr).add 0)=some (.slice A n m)/\k A n m:=by
 obtain⟨A,c,cs,t,h1,h0,h2⟩:=h.ex;exact⟨A,_,c,by rw [add_zero,ay (kw.heap h1 (fun h=>h))];exact h0,hk A c h2⟩
theorem NS.ps'(h:NS w F A n l)(kw:Kept Nil w w'){i:Int}{nd:DN}(h0:0<=i)(hx:l[i.toNat]? =some nd){k:Option Addr->Nat->Nat->Prop}(hk:∀pA pn pc,HS w pA pn nd.ps->k pA pn pc):
 (0<=i/\i<(n:Int))/\Is A fun a=>∃pA pn pc,w'.cell? ((a.add (i.toNat*33)).add 32)=some (.slice pA pn pc)/\k pA pn pc:=by
 obtain⟨a,pA,pn,pc,rfl,_,_,h4,h5,h6⟩:=h.at_ _ nd hx;have:=(lgeS hx).1;have:=h.len;exact⟨⟨h0,by omega⟩,pA,pn,pc,(kw.cell (h4 32 _ (po _ _)) (fun h=>h)),hk _ _ _ h5⟩
def Fy(D:DG)(h:HT):Int:=match pos h (ids D) 0 with|some j=>(j:Int)|none=> -1
theorem qY{D:DG}{h:HT}:Fy D h<0↔h∉ids D:=by
 unfold Fy;rw [<-oG (l:=ids D) (i:=0)];cases hp:pos h (ids D) 0<;>simp
theorem rZ{D:DG}{h:HT}:Fy D h>=0↔h∈ids D:=by
 have:= @qY D h;constructor
 ·intro hg;exact Classical.byContradiction fun hn=>by have:=this.2 hn;omega
 ·intro hm;exact Classical.byContradiction fun hn=>this.1 (by omega) hm
theorem KQ{D:DG}{h:HT}(hm:h∈ids D):∃nd,Fy D h>=0/\D[(Fy D h).toNat]? =some nd/\nd.id=h:=by
 have h1:=rZ.2 hm;unfold Fy at*;cases hp:pos h (ids D) 0 with
 |none=>rw [hp]at h1;simp at h1
 |some j=>
  obtain⟨_,h2⟩:=tU hp;obtain⟨nd,h3,h4⟩:=GR h2;exact⟨nd,by simp,by simpa using h3,h4⟩
theorem xk{D:DG}{i:Nat}{nd:DN}(h:D[i]? =some nd):(ids D).take (i+1)=(ids D).take i++ [nd.id]:=by
 rw [List.take_add_one,pr h];rfl
theorem v7{h:HT}:∀ {l:List HT} {i k:Nat},h∉l.take k->l[k]? =some h->pos h l i=some (i+k)
 | [],_,_,_,e=>by simp at e
 |x::l,i,0,_,e=>by
  simp only [List.getElem?_cons_zero,Option.some.injEq]at e;unfold pos;rw [if_pos e.symm,Nat.add_zero]
 |x::l,i,k+1,hn,e=>by
  simp only [List.getElem?_cons_succ]at e;rw [List.take_succ_cons,List.mem_cons,not_or]at hn;unfold pos;rw [if_neg hn.1,v7 (i:=i+1) hn.2 e]
  congr 1
  omega
variable{r:Nat}{D:DG}{K:Value->World->Prop}
theorem oB(H:tg w F r D)(hD:D.length<=1000000)(h:HT)(hK:∀w',Kept Nil w w'->K (.int .i64 (Fy D h)) w'):
 bk prog bu.id #[.pointer (some ⟨r,0,none⟩),.agg h.1] w K:=by
 refine bu.of ?_;unfold bu.W;intro w3;have k3:Kept Nil w w3:=(Kept.refl Nil w).alloc _;have pB:w3.heap[w.heap.size]? =some (.cells h.1 aj (0,0)):=aJ w _;clear_value w3;refine bu.cf (I:=fun s w'=>∃i:Nat,s=(0,(i:Int))/\i<=D.length/\Kept Nil w3 w'/\h∉(ids D).take i) (μ:=fun s _=>((D.length:Int)-s.2).toNat) (s:=(0,0)) ⟨0,rfl,Nat.zero_le _,Kept.refl _ _,by simp⟩ ?_;rintro s w' ⟨i,rfl,hi,kw,mP⟩;have kk:Kept Nil w w':=k3.tt kw;refine(H.same kk).go fun A c rh=>?_;refine Split.dec (fun jb=>?_) (fun fV=>?_)
 ·simp only at jb
  have dQ:i<D.length:=by omega
  obtain⟨nd,eQ⟩:∃nd,D[i]? =some nd:=⟨_,List.getElem?_eq_getElem dQ⟩;intro w10;have ny:Kept Nil w3 w10:=kw.drew;have Ef:Kept Nil w w10:=k3.tt ny;clear_value w10;refine(H.same Ef).go fun A c rh=>?_;refine rh.id (i:=(i:Int)) (by omega) (by rw [Int.toNat_natCast];exact eQ) ⟨h.1,⟨h.2.1,Cells.bC (ny.heap pB (fun h=>h))⟩,⟨nd.id.2.ints,h.2.ints⟩,?_⟩;rw [du];refine Split.dec (fun he=>?_) (fun he=>?_)
  ·have:=hK w10 Ef
   unfold Fy at this;rw [v7 (i:=0) mP (by rw [<-he];exact pr eQ),Nat.zero_add]at this;exact this
  ·simp only
   rw [dq (n:=(i:Int)) (by omega) (by omega)];refine⟨(0,(i:Int)+1),rfl,⟨i+1,rfl,dQ,ny,?_⟩,by simp only;omega⟩;rw [xk eQ,List.mem_append,List.mem_singleton,not_or];exact⟨mP,fun e=>he e.symm⟩
 ·simp only at fV
  rw [aP,bu.dh];rw [List.take_of_length_le (by rw [fN];omega)]at mP;have:=hK w' kk;unfold Fy at this;rw [oG.2 mP]at this;exact this
end
section
variable{w w':World}{F F' S:Nat->Prop}{A:Option Addr}{n c B:Nat}{l:List DN}{news:List Value}{r:Nat}{D:DG}{K:Value->World->Prop}
theorem D3(h:Row w B bM 33 A n c news)(hl:l.length=n)(hF:∀k,bg A=some k->F k)
 (hc:∀(i:Nat) nd,l[i]? =some nd->∃pA pn pc,HS w pA pn nd.ps/\(∀b,pA=some b->F b.block)/\∀(j:Nat) v,(nd.id.1.push (.slice pA pn pc))[j]? =some v->news[i*33+j]? =some v):NS w F A n l:=
 ⟨hl,fun i nd hi=>by
   obtain⟨pA,pn,pc,h1,h2,h3⟩:=hc i nd hi;have:=(lgeS hi).1;obtain⟨b,rfl⟩:=Row.some h (by omega);obtain⟨_,cur,oQ⟩:=Row.bC h (k:=b) rfl;exact⟨_,pA,pn,pc,rfl,aQ oQ,hF b rfl,fun j v hj=>by rw [kK];exact Row.cells h _ _ (h3 j v hj),h1,h2⟩⟩
theorem wL(h:NS w F A n l){cx:Nat}(h0:0<n)(hn:n<=100000):
 ∃A' c' w' news,(Builtin.append_ #[ct,ct] ct #[.slice none 0 0,.slice A n cx]).run prog w=.ok (.slice A' n c') w'/\
  Row w' w.heap.size bM 33 A' n c' news/\Kept Nil w w'/\
  ∀(i:Nat) nd,l[i]? =some nd->∃pA pn pc,HS w pA pn nd.ps/\(∀b,pA=some b->F b.block)/\∀(j:Nat) v,(nd.id.1.push (.slice pA pn pc))[j]? =some v->news[i*33+j]? =some v:=by
 obtain⟨news,e1,e2,e3,e4⟩:=h.cells n (Nat.le_refl _);have hlen:=h.len;obtain⟨nd,eQ⟩:∃nd,l[0]? =some nd:=⟨_,List.getElem?_eq_getElem (by omega)⟩;obtain⟨a,_,_,_,rfl,_⟩:=h.at_ _ nd eQ;obtain⟨A',c',w',hr,e8,hg,hb⟩:=fi (P:=prog) (t:=ct) (ty:=ct) (bytes:=56) wU (Row.nil w w.heap.size _ _) (a:=a) (m:=n) (cx:=cx) (news:=news) e1 (e2 a rfl) e3 (by omega) (by unfold maxLen;omega) (Nat.le_refl _);rw [Nat.zero_add]at hr e8;rw [List.nil_append]at e8;exact⟨A',c',w',news,hr,e8,Kept.dM (Kept.refl _ _) hg (fun k hk=>by cases hk),fun i nd hi=>e4 i nd (by have:=(lgeS hi).1;omega) hi⟩
theorem wM(h:Row w B bM 33 A n c news)(hn:n<=100000)(hB:B<=w.heap.size){b:Nat}{arr:Array Value}(hb:w.heap[b]? =some (.cells arr bM (0,0)))(hs:arr.size=33)(h1:∀u∈arr.toList,u.oneCell'=true):
 ∃A' c' w',(Builtin.append_ #[ct,ct] ct #[.slice A n c,.slice (some ⟨b,0,none⟩) 1 1]).run prog w=.ok (.slice A' (n+1) c') w'/\
  Row w' B bM 33 A' (n+1) c' (news++arr.toList)/\w.grownBy w' (bg A):=by
 obtain⟨A',c',w',hr,e8,hg,hb⟩:=fi (P:=prog) (t:=ct) (ty:=ct) (bytes:=56) wU h (a:=⟨b,0,none⟩) (m:=1) (cx:=1) (news:=arr.toList) (by simpa using hs)
  (fun j u hj=>by rw [a8,Nat.zero_add,ay hb];simpa using hj) h1 (by omega) (by unfold maxLen;omega) hB
 exact⟨A',c',w',hr,e8,hg⟩
theorem Jg{nd:DN}{pA:Option Addr}{pn pc:Nat}(h:Row w B bM 33 A (n+1) c (news++(nd.id.1.push (.slice pA pn pc)).toList))(xS:news.length=n*33)(hl:l.length=n)(hF:∀k,bg A=some k->F k)
 (hc:∀(i:Nat) nd,l[i]? =some nd->∃pA pn pc,HS w pA pn nd.ps/\(∀b,pA=some b->F b.block)/\∀(j:Nat) v,(nd.id.1.push (.slice pA pn pc))[j]? =some v->news[i*33+j]? =some v)
 (hp:HS w pA pn nd.ps) (ID:∀b,pA=some b->F b.block):NS w F A (n+1) (l++ [nd]):=by
 refine D3 h (by simp [hl]) hF fun i md hi=>?_;rw [List.getElem?_append]at hi;split at hi
 ·obtain⟨qA,qn,qc,h1,h2,h3⟩:=hc i md hi
  exact⟨qA,qn,qc,h1,h2,fun j v hj=>by
   have:=h3 j v hj;rw [List.getElem?_append_left (lgeS this).1];exact this⟩
 ·rename_i fV
  have EC:i=n/\md=nd:=by
   cases hk:i-l.length with
   |zero=>rw [hk]at hi;exact⟨by omega,by simpa using hi.symm⟩
   |succ k=>rw [hk]at hi;simp at hi
  obtain⟨rfl,rfl⟩:=EC;exact⟨pA,pn,pc,hp,ID,fun j v hj=>by
   rw [List.getElem?_append_right (by omega),xS,show i*33+j-i*33=j by omega,Array.getElem?_toList];exact hj⟩
theorem NS.same(h:NS w F A n l)(hk:Kept Nil w w'):NS w' F A n l:=h.aC hk fun _ _ h=>h
theorem tg.mono(h:tg w F r D)(hf:∀k,F k->F' k)(hr:¬F' r):tg w F' r D:=by
 obtain⟨A,c,cs,t,h1,h0,h2⟩:=h.ex;exact⟨⟨A,c,cs,t,h1,h0,h2.mono hf⟩,hr⟩
theorem yB(h:HT)(A:Option Addr)(n c:Nat):∀u∈(h.1.push (.slice A n c)).toList,u.oneCell'=true:=fun u hu=>by
 simp only [Array.toList_push,List.mem_append,List.mem_singleton]at hu;rcases hu with hu|rfl
 ·exact h.2.one u hu
 ·rfl
theorem Cp(H:tg w F r D)(W:jv D)(hD:D.length<=10000){h:HT}{lp:List HT}{A:Option Addr}{n c:Nat}(hl:HS w A n lp)(hn:n<=400000)
 (hK:∀w',tg w' (fun k=>F k\/(w.heap.size<=k/\k<w'.heap.size)) r (l9 D h lp)->Kept (· =r) w w'->K (.int .i64 (dr D h lp)) w'):
 bk prog bn.id #[.pointer (some ⟨r,0,none⟩),.agg h.1,.slice A n c] w K:=by
 have Zf:=H.lt;have hlen:=hl.len;have mP:∀w',Kept Nil w w'->∀e,dr D h lp=e->e≠0->K (.int .i64 e) w':=fun w' k e he fC=>by
  have:=hK w' ?_ (k.mono fun _ _ h=>h.elim)
  ·rw [he]at this;exact this
  ·unfold l9
   rw [if_neg (by rw [he];exact fC)];exact(H.same k).mono (fun _ h=>.inl h) (fun e=>e.elim H.gR (fun h=>absurd h.1 (by omega)))
 refine bn.of ?_;unfold bn.W;intro w4;have k4:Kept Nil w w4:=(Kept.refl _ _).alloc _;have rj:w4.heap[w.heap.size]? =some (.cells h.1 aj (0,0)):=aJ w _;clear_value w4;refine⟨h.1,⟨h.2.1,Cells.bC rj⟩,oB (H.same k4) (by omega) h fun w7 k7=>⟨_,rfl,Split.dec (fun fV=>?_) (fun Ow=>?_)⟩⟩
 ·refine mP w7 (k4.tt k7) 7 ?_ (by omega)
  unfold dr;rw [if_pos (rZ.1 fV)]
 have xp:h∉ids D:=fun hm=>Ow (rZ.2 hm);have AP:Kept Nil w w7:=k4.tt k7;refine nu (hl.same AP) hn fun FC IN w10 Co ny=>⟨FC,_,IN,rfl,?_⟩;have Ef:Kept Nil w w10:=AP.tt ny;have z6:(de lp).length<=n:=by have:=me lp;omega
 by_cases h0:(de lp).length=0
 ·refine Split.yes (by simp [h0]) ?_
  refine mP w10 Ef 9 ?_ (by omega);unfold dr;rw [if_neg xp,if_pos (.inl h0)]
 refine Split.no (beq_eq_false_iff_ne.2 (by omega)) ?_;by_cases h1:(de lp).length≠n
 ·refine Split.yes (bne_iff_ne.2 (by omega)) ?_
  refine mP w10 Ef 9 ?_ (by omega);unfold dr;rw [if_neg xp,if_pos (.inr (by omega))]
 replace h1:(de lp).length=n:=by omega
 refine Split.no (by rw [h1];simp) ?_;refine bn.cf (I:=fun s w'=>∃i:Nat,s=(0,(i:Int))/\i<=(de lp).length/\(∀p∈(de lp).take i,p∈ids D)/\Kept Nil w10 w') (μ:=fun s _=>(((de lp).length:Int)-s.2).toNat) (s:=(0,0)) ⟨0,rfl,Nat.zero_le _,by simp,Kept.refl _ _⟩ ?_;rintro s w' ⟨i,rfl,hi,cY,kw⟩;have kk:Kept Nil w w':=Ef.tt kw;have XS:bQ w' w7.heap.size FC (de lp).length IN (de lp):=Row.aC Co kw (fun _ _ h=>h);refine Split.dec (fun jb=>?_) (fun fV=>?_)
 ·simp only at jb
  have dQ:i<(de lp).length:=by omega
  obtain⟨x,hx⟩:∃x,(de lp)[i]? =some x:=⟨_,List.getElem?_eq_getElem dQ⟩;refine XS.hs.load (i:=(i:Int)) (by omega) hx (oB (H.same kk) (by omega) x fun w2 k2=>⟨_,rfl,Split.dec (fun zi=>?_) (fun iX=>?_)⟩)
  ·have Wi:=qY.1 zi
   refine mP w2 (kk.tt k2) 6 ?_ (by omega);unfold dr;rw [if_neg xp,if_neg (by omega),if_pos ⟨x,List.mem_of_getElem? hx,Wi⟩]
  ·simp only
   rw [dq (n:=(i:Int)) (by omega) (by omega)];refine⟨(0,(i:Int)+1),rfl,⟨i+1,rfl,dQ,fun p hp=>?_,kw.tt k2⟩,by simp only;omega⟩;rcases(bG hx).1 hp with hp|rfl
   ·exact cY p hp
   ·exact rZ.1 (by omega)
 ·simp only at fV
  rw [List.take_of_length_le (by omega)]at cY;have Um:dr D h lp=0:=by
   unfold dr;rw [if_neg xp,if_neg (by omega),if_neg (fun⟨p,hp,JU⟩=>JU (cY p hp))]
  have hD':l9 D h lp=D++ [⟨h,de lp⟩]:=by unfold l9;rw [if_pos Um]
  rw [Um,hD']at hK;have Ml:=W.pos;rw [aP,bn.dh];unfold bn.cO;intro Cb;have No:Kept Nil w Cb:=kk.drew;have GM:Kept Nil w10 Cb:=kw.drew;have ag2:Cb.heap=w'.heap:=rfl;clear_value Cb;have UH:Cb.heap[w.heap.size]? =some (.cells h.1 aj (0,0)):=(GM.heap (ny.heap (k7.heap rj (fun h=>h)) (fun h=>h)) (fun h=>h));obtain⟨A,c,ajN,t27,GZ,Uj,rh⟩:=(H.same No).ex;refine⟨A,_,c,by rw [add_zero,ay GZ];exact Uj,h.1,⟨h.2.1,Cells.bC UH⟩,?_⟩;rw [EV];have kY:(h.1.push (.slice FC (de lp).length IN)).size=33:=by rw [Array.size_push,h.2.1]
  have ah4:∀ {v},Kept Nil w v->w.heap.size<=v.heap.size:=fun k=>k.size;have abE:∀b,FC=some b->w.heap.size<=b.block:=fun b hb=>Nat.le_trans AP.size (Row.bC Co (k:=b.block) (by rw [hb];rfl)).1;have Km:∀(A':Option Addr) (c':Nat) (v:World) (news:List Value),Row v Cb.heap.size bM 33 A' (D.length+1) c' (news++(h.1.push (.slice FC (de lp).length IN)).toList)->news.length=D.length*33->Kept Nil Cb v->
   (∀(i:Nat) nd,D[i]? =some nd->∃pA pn pc,HS v pA pn nd.ps/\(∀b,pA=some b->F b.block)/\∀(j:Nat) u,(nd.id.1.push (.slice pA pn pc))[j]? =some u->news[i*33+j]? =some u)->
   Wr v ((⟨r,0,none⟩:Addr).add 0)/\K (.int .i64 0) (v.setCell ((⟨r,0,none⟩:Addr).add 0) (.slice A' (D.length+1) c')):=by
   intro A' c' v news e8 xS kv uC;have M9:Kept Nil w v:=No.tt kv;obtain⟨A0,c0,cs0,t0,iK,aaO,_⟩:=(H.same M9).ex;have LU:=(Array.getElem?_eq_some_iff.1 aaO).1;rw [add_zero];have k3:Kept (· =r) v (v.setCell ⟨r,0,none⟩ (.slice A' (D.length+1) c')):=Kept.setCell (S:=fun k=>k=r) (Kept.refl _ v) (p:=⟨r,0,none⟩) (fun _=>rfl) _;refine⟨dL iK LU,hK _ ⟨⟨A',c',cs0.setIfInBounds 0 (.slice A' (D.length+1) c'),t0,?_,?_,?_⟩,fun e=>e.elim H.gR (fun h=>absurd h.1 (by omega))⟩ ((M9.mono (S':=fun k=>k=r) (fun _ _ h=>h.elim)).tt k3)⟩
   ·rw [cV iK 0]
   ·rw [List.length_append]
    simp [LU]
   ·have Bc:=k3.size
    have Vc:∀b,FC=some b->b.block<v.heap.size:=fun b hb=>by
     obtain⟨_,cur,hc⟩:=Row.bC Co (k:=b.block) (by rw [hb];rfl);have:=aQ hc;have:=GM.size;have:=kv.size;omega
    have On:=Jg (F:=fun k=>F k\/(w.heap.size<=k/\k<(v.setCell ⟨r,0,none⟩ (.slice A' (D.length+1) c')).heap.size)) (nd:=⟨h,de lp⟩) e8 xS rfl (fun k hk=>by
     obtain⟨h1,cur,hc⟩:=Row.bC e8 hk;have:=aQ hc;have:=No.size;exact .inr ⟨by omega,by omega⟩) (fun i nd hi=>by
     obtain⟨pA,pn,pc,h1,h2,h3⟩:=uC i nd hi;exact⟨pA,pn,pc,h1,fun b hb=>.inl (h2 b hb),h3⟩) ((Co.hs.same GM).same kv) (fun b hb=>.inr ⟨abE b hb,by have:=Vc b hb;omega⟩)
    have:=On.aC k3 (fun k hk e=>by
     subst e;rcases hk with hk|hk
     ·exact H.gR hk
     ·omega)
    rw [List.length_append];exact this
  refine⟨?_,?_⟩
  ·obtain⟨A1,c1,re,news,kQ,jW,AS,uC⟩:=wL rh (cx:=c) Ml (by omega)
   refine⟨A1,_,c1,re,kQ,⟨h.1,rfl,h.2.1,Cells.bC (AS.heap UH (fun h=>h))⟩,kY,?_⟩;intro nh;have YX:nh=re.alloc (.cells (h.1.push (.slice FC (de lp).length IN)) bM):=by
    show re.alloc (.cells ((h.1.push (.slice FC (de lp).length IN)).toList++ []).toArray bM)=_
    rw [List.append_nil,Array.toArray_toList]
   have zX:Kept Nil re nh:=(Kept.refl _ _).alloc _;have UF:nh.heap[re.heap.size]? =some (.cells (h.1.push (.slice FC (de lp).length IN)) bM (0,0)):=by rw [YX];exact aJ re _
   clear_value nh;have yy:=Row.aC jW zX (fun _ _ h=>h);obtain⟨A2,c2,sP,ju,fz,Kl⟩:=wM yy (by omega) (Nat.le_trans AS.size zX.size) UF kY (yB _ _ _ _);have sS:Kept Nil Cb sP:=Kept.dM (AS.tt zX) Kl (fun k hk=>(Row.bC jW hk).1);refine⟨A2,_,c2,sP,ju,?_⟩;exact Km A2 c2 sP news fz (Row.len jW) sS (fun i nd hi=>by
    obtain⟨pA,pn,pc,h1,h2,h3⟩:=uC i nd hi;exact⟨pA,pn,pc,h1.same sS,h2,h3⟩)
  ·refine⟨kY,?_⟩
   intro Fi;have YW:Fi=Cb.alloc (.cells (h.1.push (.slice FC (de lp).length IN)) bM):=by
    show Cb.alloc (.cells ((h.1.push (.slice FC (de lp).length IN)).toList++ []).toArray bM)=_
    rw [List.append_nil,Array.toArray_toList]
   have Gz:Kept Nil Cb Fi:=(Kept.refl _ _).alloc _;have Kq:Fi.heap[Cb.heap.size]? =some (.cells (h.1.push (.slice FC (de lp).length IN)) bM (0,0)):=by rw [YW];exact aJ Cb _
   clear_value Fi;refine⟨by rw [add_zero,ay (Gz.heap GZ (fun h=>h))];exact Uj,?_⟩;obtain⟨A1,c1,Ca,news,kQ,jW,Nn,uC⟩:=wL (rh.same Gz) (cx:=c) Ml (by omega);have UD:=Nn.heap Kq (fun h=>h);obtain⟨A2,c2,Fh,ju,fz,Kl⟩:=wM jW (by omega) Nn.size UD kY (yB _ _ _ _);have RR:Kept Nil Fi Fh:=Kept.dM Nn Kl (fun k hk=>(Row.bC jW hk).1);have k43:Kept Nil Cb Fh:=Gz.tt RR;refine⟨A1,_,c1,Ca,kQ,A2,_,c2,Fh,ju,?_⟩;exact Km A2 c2 Fh news (Row.base fz fun k hk=>Nat.le_trans Gz.size (Row.bC fz hk).1) (Row.len jW) k43 (fun i nd hi=>by
    obtain⟨pA,pn,pc,h1,h2,h3⟩:=uC i nd hi;exact⟨pA,pn,pc,h1.same RR,h2,h3⟩)
end
theorem rH:∀ {l m:List HT},l.Nodup->(∀x∈l,x∈m)->l.length<=m.length
 | [],_,_,_=>Nat.zero_le _
 |x::l,m,hn,h=>by
  rw [List.nodup_cons]at hn;have hx:=h x (by simp);have:=rH (l:=l) (m:=m.erase x) hn.2 (fun y hy=>by
   have fC:y≠x:=fun e=>hn.1 (e▸hy);exact(List.mem_erase_of_ne fC).2 (h y (by simp [hy])))
  rw [List.length_erase_of_mem hx]at this;have iX:0<m.length:=List.length_pos_of_mem hx;simp only [List.length_cons];omega
structure PB(w0 w':World)(D:DG)(l out:List HT)(A1:Option Addr)(c1:Nat)(A2:Option Addr)(c2:Nat):Prop where
 r1:bQ w' w0.heap.size A1 out.length c1 out
 r2:bQ w' w0.heap.size A2 (l.length+out.length) c2 (l++out)
 ap:∀k,bg A1=some k->bg A2≠some k
 nd:out.Nodup
 Dg:∀x∈out,∃h∈l,eB D x h
 kp:Kept Nil w0 w'
section
variable{w w' lf:World}{F S:Nat->Prop}{D:DG}{l out:List HT}{A1 A2:Option Addr}{c1 c2 r:Nat}{K:Value->World->Prop}
theorem PB.same(h:PB w w' D l out A1 c1 A2 c2)(k:Kept Nil w' lf):PB w lf D l out A1 c1 A2 c2:=
 ⟨Row.aC h.r1 k (fun _ _ h=>h),Row.aC h.r2 k (fun _ _ h=>h),h.ap,h.nd,h.Dg,h.kp.tt k⟩
theorem PB.len(h:PB w w' D l out A1 c1 A2 c2)(W:jv D):out.length<=D.length:=by
 rw [<-fN D];exact rH h.nd fun x hx=>by obtain⟨_,_,ha⟩:=h.Dg x hx;exact(ha.mem W).1
theorem iq(w:World)(x:HT):HS (w.alloc (.cells (x.1.toList++ []).toArray aj)) (some ⟨w.heap.size,0,none⟩) 1 [x]:=by
 refine HS.one (t:=aj) (fr:=(0,0)) ?_;rw [List.append_nil,Array.toArray_toList];exact aJ w _
theorem PB.add(h:PB w w' D l out A1 c1 A2 c2){x:HT}(hx:x∉out)(ha:∃h∈l,eB D x h)(hb:l.length+out.length<=500000):
 ∃Ip Fx v,(Builtin.append_ #[az,az] az #[.slice A1 out.length c1,.slice (some ⟨w'.heap.size,0,none⟩) 1 1]).run prog (w'.alloc (.cells (x.1.toList++ []).toArray aj))=.ok (.slice Ip (out.length+1) Fx) v/\Kept (fun k=>w.heap.size<=k) w' v/\
 ∃FA xX u,(Builtin.append_ #[az,az] az #[.slice A2 (l.length+out.length) c2,.slice (some ⟨v.heap.size,0,none⟩) 1 1]).run prog (v.alloc (.cells (x.1.toList++ []).toArray aj))=.ok (.slice FA (l.length+out.length+1) xX) u/\
  PB w u D l (out++ [x]) Ip Fx FA xX:=by
 have hkw:=h.kp.size;have k1:Kept Nil w' (w'.alloc (.cells (x.1.toList++ []).toArray aj)):=(Kept.refl _ _).alloc _;have xn:=iq w' x;generalize w'.alloc (.cells (x.1.toList++ []).toArray aj)=w1 at k1 xn⊢;have r1:bQ w1 w.heap.size A1 out.length c1 out:=Row.aC h.r1 k1 (fun _ _ h=>h);have ahA:=k1.size;obtain⟨Ip,Fx,v,kQ,jW,hg1,xV⟩:=cD (cx:=1) az r1 xn (by omega) (by omega);have Yo:Kept (fun k=>bg A1=some k) w1 v:=Kept.grown (Kept.refl _ _) hg1 (fun k hk _=>hk);have hA1:∀k,bg A1=some k->w.heap.size<=k/\k<w'.heap.size:=fun k hk=>by
  obtain⟨h1,cur,hc⟩:=Row.bC h.r1 hk;exact⟨h1,aQ hc⟩
 have Vb:∀k,bg A2=some k->w.heap.size<=k/\k<w'.heap.size:=fun k hk=>by
  obtain⟨h1,cur,hc⟩:=Row.bC h.r2 hk;exact⟨h1,aQ hc⟩
 have kv:Kept (fun k=>w.heap.size<=k) w' v:=(k1.mono (fun _ _ h=>h.elim)).trans Yo (fun k _ e=>(hA1 k e).1);refine⟨Ip,Fx,v,kQ,kv,?_⟩;have k2:Kept Nil v (v.alloc (.cells (x.1.toList++ []).toArray aj)):=(Kept.refl _ _).alloc _;have Bd:=iq v x;generalize v.alloc (.cells (x.1.toList++ []).toArray aj)=w2 at k2 Bd⊢;have r2v:bQ v w.heap.size A2 (l.length+out.length) c2 (l++out):=Row.aC (Row.aC h.r2 k1 (fun _ _ h=>h)) Yo (fun k hk e=>h.ap k e hk);have r2:bQ w2 w.heap.size A2 (l.length+out.length) c2 (l++out):=Row.aC r2v k2 (fun _ _ h=>h);have Ob:=Yo.size;have ahx:=k2.size;obtain⟨FA,xX,u,ju,fz,Kl,kZ⟩:=cD (cx:=1) az r2 Bd (by omega) (by omega);have ku:Kept (fun k=>bg A2=some k) w2 u:=Kept.grown (Kept.refl _ _) Kl (fun k hk _=>hk);have abD:∀k,bg Ip=some k->k<v.heap.size:=fun k hk=>by
  obtain⟨_,cur,hc⟩:=Row.bC jW hk;exact aQ hc
 have UN:∀k,bg Ip=some k->bg A2≠some k:=fun k hk e=>by
  rcases xV k hk with h'|h'
  ·exact h.ap k h' e
  ·have:=(Vb k e).2;omega
 have Q9:bQ u w.heap.size Ip (out.length+1) Fx (out++ [x]):=Row.aC (Row.aC jW k2 (fun _ _ h=>h)) ku (fun k hk e=>UN k hk e);refine⟨FA,xX,u,ju,?_⟩;refine⟨?_,?_,fun k hk e=>?_,?_,fun y hy=>?_,?_⟩
 ·rw [List.length_append];exact Q9
 ·rw [List.length_append,<-List.append_assoc,List.length_singleton,<-Nat.add_assoc];exact fz
 ·rcases kZ k e with h'|h'
  ·exact UN k hk h'
  ·have:=abD k hk;omega
 ·rw [List.nodup_append]
  exact⟨h.nd,by simp,fun u hu v hv e=>hx (by rw [List.mem_singleton]at hv;rw [<-hv,<-e];exact hu)⟩
 ·rw [List.mem_append,List.mem_singleton]at hy
  rcases hy with hy|rfl
  ·exact h.Dg y hy
  ·exact ha
 ·exact((h.kp.trans kv (fun k hk e=>absurd hk (by omega))).tt k2).trans ku (fun k hk e=>absurd (Vb k e).1 (by omega))
theorem DY(W:jv D){l out:List HT}(ha:∀x∈out,∃h∈l,eB D x h)(hc:∀h∈l++out,∀p,ma D p h->p∈out):de out=cy D l:=by
 refine Cs fun a=>⟨fun h=>?_,fun⟨_,h,hl,han⟩=>?_⟩
 ·obtain⟨b,hb,lM⟩:=ha a h
  exact⟨(lM.mem W).1,b,hb,lM⟩
 ·have key:∀ {a h},eB D a h->h∈l++out->a∈out:=by
   intro a h han
   induction han with
   |one hp=>exact fun hm=>hc _ hm _ hp
   |more _ hp ih=>exact fun hm=>ih (by rw [List.mem_append];exact .inr (hc _ hm _ hp))
  exact key han (by rw [List.mem_append];exact .inl hl)
theorem mI(H:tg w F r D)(W:jv D)(hD:D.length<=10000){A:Option Addr}{n c:Nat}(hl:HS w A n l)(hn:n<=10000)
 (hK:∀A' c' w',bQ w' w.heap.size A' (cy D l).length c' (cy D l)->Kept Nil w w'->K (.slice A' (cy D l).length c') w'):
 bk prog aG.id #[.pointer (some ⟨r,0,none⟩),.slice A n c] w K:=by
 refine aG.of ?_;unfold aG.W;have hlen:=hl.len;obtain⟨A4,c4,w4,xR,jI,C1,rj⟩:=cD (cx:=c) az (bQ.nil w w.heap.size) hl (by omega) (Nat.le_refl _);rw [Nat.zero_add]at xR jI;rw [List.nil_append]at jI;have k4:Kept Nil w w4:=Kept.dM (Kept.refl _ _) C1 (fun k hk=>by cases hk);refine⟨A4,n,c4,w4,xR,?_⟩;refine aG.cf (I:=fun s w'=>∃(i:Nat) (out:List HT) (A1:Option Addr) (c1:Nat) (A2:Option Addr) (c2:Nat),s=(A1,out.length,c1,A2,n+out.length,c2,(i:Int))/\PB w w' D l out A1 c1 A2 c2/\i<=n+out.length/\∀h∈(l++out).take i,∀p,ma D p h->p∈out)
  (μ:=fun s _=>((n:Int)+D.length-s.2.2.2.2.2.2).toNat) (s:=(none,0,0,A4,n,c4,0))
  ⟨0,[],none,0,A4,c4,by simp,⟨bQ.nil _ _,by simpa [hlen]using jI,(fun k hk=>by cases hk),List.Pairwise.nil,by simp,k4⟩,by omega,by simp⟩ ?_
 rintro s w' ⟨i,out,A1,c1,A2,c2,rfl,z8,hi,qh⟩;have hol:=z8.len W;have ju:=z8.r2;rw [hlen]at ju;refine Split.dec (fun jb=>?_) (fun fV=>?_)
 ·simp only at jb
  have dQ:i<n+out.length:=by omega
  obtain⟨h,hh⟩:∃h,(l++out)[i]? =some h:=⟨_,List.getElem?_eq_getElem (by simp;omega)⟩;refine ju.hs.load (i:=(i:Int)) (by omega) hh (oB (H.same z8.kp) (by omega) h fun lV ve=>⟨_,rfl,Split.dec (fun zi=>?_) (fun iX=>?_)⟩)
  ·simp only
   rw [dq (n:=(i:Int)) (by omega) (by omega)];refine⟨(A1,out.length,c1,A2,n+out.length,c2,(i:Int)+1),rfl,⟨i+1,out,A1,c1,A2,c2,rfl,z8.same ve,by omega,fun x hx p hp=>?_⟩,by simp only;omega⟩;rcases(bG hh).1 hx with hx|rfl
   ·exact qh x hx p hp
   ·exact absurd (eB.mem W (.one hp)).2 (qY.1 zi)
  ·have gB:h∈ids D:=rZ.1 (by omega)
   obtain⟨nd,h1,h2,h3⟩:=KQ gB;have CP:=z8.same ve;have H13:=H.same CP.kp;have Bu:∃b∈l,h=b\/eB D h b:=by
    have hm:=List.mem_of_getElem? hh;rw [List.mem_append]at hm;rcases hm with hm|hm
    ·exact⟨h,hm,.inl rfl⟩
    ·obtain⟨b,hb,lM⟩:=z8.Dg h hm
     exact⟨b,hb,.inr lM⟩
   have jT:∀p,ma D p h↔p∈nd.ps:=fun p=>by
    constructor
    ·rintro⟨md,wz,e,hp⟩
     obtain⟨j,hj⟩:=List.mem_iff_getElem?.1 wz;have:=W.inj hj h2 (by rw [e,h3]);subst this;rw [h2]at hj;cases hj;exact hp
    ·exact fun hp=>⟨nd,List.mem_of_getElem? h2,h3,hp⟩
   have pH:nd.ps.length<=D.length:=by
    rw [<-fN D];exact rH (W.ss nd (List.mem_of_getElem? h2)).nodup fun x hx=>(eB.mem W (.one ((jT x).2 hx))).1
   refine H.go' CP.kp fun A c rh=>rh.ps' CP.kp h1 h2 fun pA pn pc oP=>?_;have JU:=oP.len;refine aG.gz (I:=fun s w'=>∃(k:Nat) (mq:List HT) (A1:Option Addr) (c1:Nat) (A2:Option Addr) (c2:Nat),s=(A1,mq.length,c1,A2,n+mq.length,c2,(k:Int))/\PB w w' D l mq A1 c1 A2 c2/\k<=pn/\(∃m,mq=out++m)/\(∀p∈nd.ps.take k,p∈mq))
    (μ:=fun s _=>((pn:Int)-s.2.2.2.2.2.2).toNat) (s:=(A1,out.length,c1,A2,n+out.length,c2,0)) ⟨0,out,A1,c1,A2,c2,rfl,CP,Nat.zero_le _,⟨[],by simp⟩,by simp⟩ ?_
   rintro s w1 ⟨k,mq,B1,d1,B2,d2,rfl,hq,hk,⟨m,hm⟩,fF⟩;have ahN:=hq.len W;refine Split.dec (fun OG=>?_) (fun OM=>?_)
   ·simp only at OG
    have Bp:k<pn:=by omega
    obtain⟨p,hp⟩:∃p,nd.ps[k]? =some p:=⟨_,List.getElem?_eq_getElem (by omega)⟩;have SQ:=List.mem_of_getElem? hp;refine(oP.same hq.kp).load (i:=(k:Int)) (by omega) hp (wY p hq.r1.hs (by simp only;omega) fun vP Ej=>⟨_,rfl,?_⟩);have JT:=hq.same Ej;have ahJ:(nd.ps.length:Int)<=10000:=by omega
    by_cases vz:p∈mq
    ·refine Split.no (by rw [decide_eq_true vz];rfl) ?_
     simp only;rw [dq (n:=(k:Int)) (by omega) (by omega)];refine⟨(B1,mq.length,d1,B2,n+mq.length,d2,(k:Int)+1),rfl,⟨k+1,mq,B1,d1,B2,d2,rfl,JT,Bp,⟨m,hm⟩,fun q zh=>?_⟩,by simp only;omega⟩;rcases(bG hp).1 zh with zh|rfl
     ·exact fF q zh
     ·exact vz
    ·refine Split.yes (by rw [decide_eq_false vz];rfl) ?_
     have O7:∃b∈l,eB D p b:=by
      obtain⟨b,hb,e|e⟩:=Bu
      ·subst e;exact⟨_,hb,.one ((jT p).2 SQ)⟩
      ·exact⟨b,hb,eB.trans (.one ((jT p).2 SQ)) e⟩
     obtain⟨Ip,Fx,v,kQ,kv,FA,xX,u,JR,hqu⟩:=JT.add vz O7 (by omega);rw [hlen]at JR;refine(oP.same JT.kp).load (i:=(k:Int)) (by omega) hp ⟨p.2.1,?_⟩;refine⟨Ip,_,Fx,v,kQ,?_⟩;have M9:Kept Nil w v:=JT.kp.trans kv (fun k hk e=>absurd hk (by omega));refine(oP.same M9).load (i:=(k:Int)) (by omega) hp ⟨p.2.1,?_⟩;refine⟨FA,_,xX,u,JR,?_⟩;simp only;rw [dq (n:=(k:Int)) (by omega) (by omega)];have e1:mq.length+1=(mq++ [p]).length:=by simp
     rw [e1,show n+mq.length+1=n+(mq++ [p]).length by simp;omega];refine⟨(Ip,(mq++ [p]).length,Fx,FA,n+(mq++ [p]).length,xX,(k:Int)+1),rfl,⟨k+1,mq++ [p],Ip,Fx,FA,xX,rfl,hqu,Bp,⟨m++ [p],by rw [hm];simp⟩,fun q zh=>?_⟩,by simp only;omega⟩;rw [List.mem_append,List.mem_singleton];rcases(bG hp).1 zh with zh|rfl
     ·exact .inl (fF q zh)
     ·exact .inr rfl
   ·simp only at OM
    rw [aP,aG.jB];unfold aG.gY;rw [dq (n:=(i:Int)) (by omega) (by omega)];rw [List.take_of_length_le (by omega)]at fF;refine⟨(B1,mq.length,d1,B2,n+mq.length,d2,(i:Int)+1),rfl,⟨i+1,mq,B1,d1,B2,d2,rfl,hq,by rw [hm];simp;omega,fun x hx q GU=>?_⟩,by simp only;omega⟩;have hh':(l++mq)[i]? =some h:=by
     rw [hm,<-List.append_assoc,List.getElem?_append_left (lgeS hh).1];exact hh
    rcases(bG hh').1 hx with hx|rfl
    ·have Wk:x∈(l++out).take i:=by
      rw [hm,<-List.append_assoc,List.take_append_of_le_length (by simp;omega)]at hx;exact hx
     rw [hm,List.mem_append];exact .inl (qh x Wk q GU)
    ·exact fF q ((jT q).1 GU)
 ·simp only at fV
  have hie:i=n+out.length:=by omega
  rw [aP,aG.dh];rw [List.take_of_length_le (by simp;omega)]at qh;have e:=DY W z8.Dg qh;refine nu z8.r1.hs (by simp only;omega) fun A' c' w2 row k2=>⟨A',_,c',rfl,?_⟩;rw [e]at row⊢;exact hK A' c' w2 (Row.base row fun b hb=>Nat.le_trans z8.kp.size (Row.bC row hb).1) (z8.kp.tt k2)
end
section
variable{w w' lf:World}{F S:Nat->Prop}{D:DG}{is:HT->Prop}{i:Nat}{l out:List HT}{A:Option Addr}{c r:Nat}{K:Value->World->Prop}
theorem pZ(H:tg w F r D)(W:jv D)(hD:D.length<=10000)(a b:HT)(hK:∀w' (x:Bool),(x=true↔eB D a b)->Kept Nil w w'->K (.bool x) w'):
 bk prog dH.id #[.pointer (some ⟨r,0,none⟩),.agg a.1,.agg b.1] w K:=by
 refine dH.of ?_;unfold dH.W;intro w4 w5 w6;have k4:Kept Nil w w4:=(Kept.refl _ _).alloc _;have xv:w4.heap[w.heap.size]? =some (.cells a.1 aj (0,0)):=aJ w _;have k5:Kept Nil w4 w5:=(Kept.refl _ _).alloc _;have nz:w5.heap[w4.heap.size]? =some (.cells b.1 aj (0,0)):=aJ w4 _;have k6:Kept Nil w5 w6:=(Kept.refl _ _).drew;have tq:=k6.heap (k5.heap xv (fun h=>h)) (fun h=>h);have nM:=k6.heap nz (fun h=>h);have Yk:Kept Nil w w6:=(k4.tt k5).tt k6;clear_value w6;refine⟨a.1,⟨a.2.1,Cells.bC tq⟩,oB (H.same Yk) (by omega) a fun w9 k9=>⟨_,rfl,Split.dec (fun fV=>?_) (fun Ow=>?_)⟩⟩
 ·have ha9:=k9.heap tq (fun h=>h)
  have Ru:Kept Nil w w9:=Yk.tt k9;refine⟨b.1,⟨b.2.1,Cells.bC (k9.heap nM (fun h=>h))⟩,a.1,⟨a.2.1,Cells.bC ha9⟩,b.2.1,?_⟩;intro lV;have ve:Kept Nil w9 lV:=(Kept.refl _ _).alloc _;have iD:HS lV (some ⟨w9.heap.size,0,none⟩) 1 [b]:=iq w9 b;clear_value lV;have Ry:Kept Nil w lV:=Ru.tt ve;have UQ:=ve.heap ha9 (fun h=>h);refine⟨⟨a.1,rfl,a.2.1,Cells.bC UQ⟩,mI (H.same Ry) W hD iD (by omega) fun A15 c15 mF Ra sE=>⟨A15,_,c15,rfl,?_⟩⟩;have pH:=jK D fun x=>∃h∈ [b],eB D x h;refine⟨⟨a.1,rfl,a.2.1,Cells.bC (sE.heap UQ (fun h=>h))⟩,wY a Ra.hs (by unfold cy;omega) fun vQ Iw=>⟨_,rfl,?_⟩⟩;refine hK vQ _ ?_ ((Ry.tt sE).tt Iw);rw [decide_eq_true_iff];unfold cy;rw [iw];constructor
  ·rintro⟨_,h,hh,ha⟩
   rw [List.mem_singleton]at hh;subst hh;exact ha
  ·intro ha
   exact⟨(ha.mem W).1,b,by simp,ha⟩
 ·refine hK w9 false ?_ (Yk.tt k9)
  constructor
  ·intro h;cases h
  ·intro ha;exact absurd (rZ.2 (ha.mem W).1) Ow
theorem Gd(W:jv D){j:Nat}{nd:DN}(h2:D[j]? =some nd)(p:HT):ma D p nd.id↔p∈nd.ps:=by
 constructor
 ·rintro⟨md,wz,e,hp⟩
  obtain⟨k,hk⟩:=List.mem_iff_getElem?.1 wz;have:=W.inj hk h2 e;subst this;rw [h2]at hk;cases hk;exact hp
 ·exact fun hp=>⟨nd,List.mem_of_getElem? h2,rfl,hp⟩
theorem rD(H:tg w F r D)(W:jv D)(hD:D.length<=10000)(a b:HT)(hK:∀w' (x:Bool),(x=true↔a≠b/\¬eB D a b/\¬eB D b a)->Kept Nil w w'->K (.bool x) w'):
 bk prog dU.id #[.pointer (some ⟨r,0,none⟩),.agg a.1,.agg b.1] w K:=by
 refine dU.of ?_;unfold dU.W;intro w4 w5;have k4:Kept Nil w w4:=(Kept.refl _ _).alloc _;have xv:w4.heap[w.heap.size]? =some (.cells a.1 aj (0,0)):=aJ w _;have k5:Kept Nil w4 w5:=(Kept.refl _ _).alloc _;have nz:w5.heap[w4.heap.size]? =some (.cells b.1 aj (0,0)):=aJ w4 _;have Bw:=k5.heap xv (fun h=>h);have K8:Kept Nil w w5:=k4.tt k5;clear_value w5;refine⟨a.1,⟨a.2.1,Cells.bC Bw⟩,b.1,⟨b.2.1,Cells.bC nz⟩,⟨a.2.ints,b.2.ints⟩,?_⟩;rw [du];by_cases e:a=b
 ·refine Split.no (by rw [decide_eq_true e];rfl) ?_
  exact hK w5 false (by simp [e]) K8
 ·refine Split.yes (by rw [decide_eq_false e];rfl) ?_
  refine⟨a.1,⟨a.2.1,Cells.bC Bw⟩,b.1,⟨b.2.1,Cells.bC nz⟩,pZ (H.same K8) W hD a b fun vS x hx Iy=>⟨x,rfl,?_⟩⟩;cases x with
  |true=>
   refine Split.no rfl ?_;exact hK vS false (by simp [hx.1 rfl]) (K8.tt Iy)
  |false=>
   refine Split.yes rfl ?_;have hn:¬eB D a b:=fun h=>by have:=hx.2 h;cases this
   have Rz:=K8.tt Iy;refine⟨b.1,⟨b.2.1,Cells.bC (Iy.heap nz (fun h=>h))⟩,a.1,⟨a.2.1,Cells.bC (Iy.heap Bw (fun h=>h))⟩,pZ (H.same Rz) W hD b a fun iZ y hy lj=>⟨y,rfl,?_⟩⟩;refine hK iZ _ ?_ (Rz.tt lj);rw [Bool.not_eq_true',<-Bool.not_eq_true,hy];exact⟨fun h=>⟨e,hn,h⟩,fun h=>h.2.2⟩
end
structure NM where
 b:Nat
 pA:Option Addr
 pn:Nat
 pc:Nat
 cA:Option Addr
 cn:Nat
 cc:Nat
 rA:Option Addr
 rn:Nat
 rc:Nat
 ws:List Nat
def fE(h:HT)(m:NM):Array Value:=h.1++ #[.slice m.pA m.pn m.pc,.slice m.cA m.cn m.cc,.slice m.rA m.rn m.rc]
theorem uf(h:HT)(m:NM):(fE h m).size=35:=by unfold fE;rw [Array.size_append,h.2.1];rfl
theorem Gf(h:HT)(m:NM){j:Nat}{v:Value}(hj:h.1[j]? =some v):(fE h m)[j]? =some v:=by
 unfold fE;rw [Array.getElem?_append_left (Array.getElem?_eq_some_iff.1 hj).1];exact hj
theorem Gg(h:HT)(m:NM):(fE h m)[33]? =some (.slice m.cA m.cn m.cc):=by
 unfold fE;rw [Array.getElem?_append_right (by rw [h.2.1];omega),h.2.1];rfl
theorem yK(h:HT)(m:NM):(fE h m)[34]? =some (.slice m.rA m.rn m.rc):=by
 unfold fE;rw [Array.getElem?_append_right (by rw [h.2.1];omega),h.2.1];rfl
theorem D4{h h':HT}{m m':NM}(e:fE h m=fE h' m'):h=h':=by
 apply Subtype.ext;have h1:=h.2.1;have h2:=h'.2.1;have:=congrArg (fun a:Array Value=>a.toList.take 32) e;unfold fE at this;simp only [Array.toList_append]at this;rw [List.take_left' (by simpa using h1),List.take_left' (by simpa using h2)]at this;exact Array.ext' this
structure qq(w:World)(S F:Nat->Prop)(D:DG)(ch:List HT)(nd:DN)(m:NM):Prop where
 bC:w.heap[m.b]? =some (.cells (fE nd.id m) dK (0,0))
 fM:S m.b
 ps:HS w m.pA m.pn nd.ps
 I9:∀a,m.pA=some a->F a.block
 ch:bQ w 0 m.cA m.cn m.cc ch
 Pw:∀k,bg m.cA=some k->S k
 past:US w m.rA m.rn m.ws
 oH:∀a,m.rA=some a->F a.block
 ok:okW m.ws
 bits:∀j,bit m.ws j=true↔∃nj,D[j]? =some nj/\eB D nj.id nd.id
 small:m.rn<=200
structure GV(w:World)(S F:Nat->Prop)(g:Nat)(D:DG)(C:HT->List HT)(bl c mb:Nat)(M:List NM):Prop where
 top:w.heap[g]? =some (.cells #[.slice (some ⟨bl,0,none⟩) D.length c,.map (some mb)] gH (0,0))
 row:Row w 0 eV 1 (some ⟨bl,0,none⟩) D.length c (M.map fun m=>.pointer (some ⟨m.b,0,none⟩))
 map:IsMap w mb (ids D)
 len:M.length=D.length
 node:∀(i:Nat) nd m,D[i]? =some nd->M[i]? =some m->qq w S F D (C nd.id) nd m
 apart:∀(i j:Nat) m m',M[i]? =some m->M[j]? =some m'->i≠j->∀k,bg m.cA=some k->bg m'.cA≠some k
 gQ:S g
 sI:S bl
 uJ:S mb
 Fw:∀k,S k->¬F k
 low:∀k,S k\/F k->k<w.heap.size
def BY(w:World)(S F:Nat->Prop)(g:Nat)(D:DG):Prop:=∃bl c mb M,GV w S F g D (fY D) bl c mb M
section
variable{w w':World}{S F S' F':Nat->Prop}{g bl c mb:Nat}{D:DG}{C:HT->List HT}{M:List NM}{K:Value->World->Prop}
theorem qq.aC{ch:List HT}{nd:DN}{m:NM}{S0:Nat->Prop}(h:qq w S F D ch nd m)(hk:Kept S0 w w')(hS:∀k,S k->¬S0 k)(hF:∀k,F k->¬S0 k):qq w' S F D ch nd m:=
 ⟨hk.heap h.bC (hS _ h.fM),h.fM,h.ps.aC hk (fun a ha=>hF _ (h.I9 a ha)),h.I9,Row.aC h.ch hk (fun k hb=>hS k (h.Pw k hb)),h.Pw,h.past.aC hk (fun a ha=>hF _ (h.oH a ha)),h.oH,h.ok,h.bits,h.small⟩
theorem GV.aC{S0:Nat->Prop}(h:GV w S F g D C bl c mb M)(hk:Kept S0 w w')(hS:∀k,S k->¬S0 k)(hF:∀k,F k->¬S0 k):GV w' S F g D C bl c mb M:=
 ⟨hk.heap h.top (hS _ h.gQ),Row.aC h.row hk (fun k e=>by cases e;exact hS _ h.sI),h.map.aC hk (hS _ h.uJ),h.len,fun i nd m h1 h2=>(h.node i nd m h1 h2).aC hk hS hF,h.apart,h.gQ,h.sI,h.uJ,h.Fw,fun k mw=>Nat.lt_of_lt_of_le (h.low k mw) hk.size⟩
theorem GV.same(h:GV w S F g D C bl c mb M)(hk:Kept Nil w w'):GV w' S F g D C bl c mb M:=h.aC hk (fun _ _ h=>h) (fun _ _ h=>h)
theorem BY.aC{S0:Nat->Prop}(h:BY w S F g D)(hk:Kept S0 w w')(hS:∀k,S k->¬S0 k)(hF:∀k,F k->¬S0 k):BY w' S F g D:=let ⟨bl,c,mb,M,h⟩:=h;⟨bl,c,mb,M,h.aC hk hS hF⟩
theorem BY.same(h:BY w S F g D)(hk:Kept Nil w w'):BY w' S F g D:=h.aC hk (fun _ _ h=>h) (fun _ _ h=>h)
theorem GV.get(h:GV w S F g D C bl c mb M){i:Nat}{nd:DN}(hi:D[i]? =some nd):∃m,M[i]? =some m/\qq w S F D (C nd.id) nd m:=by
 have:=(lgeS hi).1;have hl:=h.len;exact⟨M[i],List.getElem?_eq_getElem (by omega),h.node i nd _ hi (List.getElem?_eq_getElem (by omega))⟩
theorem GV.nodes(h:GV w S F g D C bl c mb M):w.cell? ((⟨g,0,none⟩:Addr).add 0)=some (.slice (some ⟨bl,0,none⟩) D.length c):=by rw [add_zero,ay h.top];rfl
theorem GV.at_(h:GV w S F g D C bl c mb M):w.cell? ((⟨g,0,none⟩:Addr).add 1)=some (.map (some mb)):=by rw [a8,ay h.top];rfl
theorem GV.ptr(h:GV w S F g D C bl c mb M){i:Nat}{m:NM}(hm:M[i]? =some m):w.cell? ((⟨bl,0,none⟩:Addr).add (i*1))=some (.pointer (some ⟨m.b,0,none⟩)):=by
 rw [a8,Nat.zero_add,Nat.mul_one];exact Row.cell h.row (by rw [List.getElem?_map,hm];rfl)
theorem wH(h:GV w S F g D C bl c mb M)(hK:K (.bool true) w):bk prog fJ.id #[.pointer (some ⟨g,0,none⟩)] w K:=
 fJ.of (Split.yes rfl ⟨some mb,h.at_,hK⟩)
def Found(D:DG)(M:List NM)(h:HT)(x:Option Addr):Prop:=(x=none/\h∉ids D)\/∃(i:Nat) (nd:DN) (m:NM),D[i]? =some nd/\nd.id=h/\M[i]? =some m/\x=some ⟨m.b,0,none⟩
theorem Found.isSome{h:HT}{x:Option Addr}(f:Found D M h x):(!x.isNone)=decide (h∈ids D):=by
 rcases f with⟨rfl,hn⟩|⟨i,nd,m,h1,h2,_,rfl⟩
 ·rw [decide_eq_false hn];rfl
 ·rw [decide_eq_true (dt.2 ⟨nd,List.mem_of_getElem? h1,h2⟩)];rfl
theorem uP(G:GV w S F g D C bl c mb M)(h:HT)(hK:∀w' x,Kept Nil w w'->Found D M h x->K (.pointer x) w'):
 bk prog fy.id #[.pointer (some ⟨g,0,none⟩),.agg h.1] w K:=by
 refine fy.of ?_;unfold fy.W;intro w3;have k3:Kept Nil w w3:=(Kept.refl _ _).alloc _;have pB:w3.heap[w.heap.size]? =some (.cells h.1 aj (0,0)):=aJ w _;clear_value w3;refine wH (G.same k3) ⟨true,rfl,Split.yes rfl ?_⟩;intro w7;have k7:Kept Nil w3 w7:=(Kept.refl _ _).drew;clear_value w7;have kw:Kept Nil w w7:=k3.tt k7;have G7:=G.same kw;refine⟨some mb,G7.at_,h.1,⟨h.2.1,Cells.bC (k7.heap pB (fun h=>h))⟩,_,_,G7.map.look h,?_⟩;cases hp:pos h (ids D) 0 with
 |none=>exact Split.no rfl (hK w7 none kw (.inl ⟨rfl,oG.1 hp⟩))
 |some i=>
  obtain⟨_,hi⟩:=tU hp;obtain⟨nd,h1,h2⟩:=GR hi;rw [Nat.sub_zero]at h1;obtain⟨m,hm,_⟩:=G7.get h1;have dQ:=(lgeS h1).1;refine Split.yes rfl ⟨_,_,_,G7.nodes,⟨by simp,by simp only [Option.getD_some];omega⟩,some ⟨m.b,0,none⟩,?_,hK w7 _ kw (.inr ⟨i,nd,m,h1,h2,hm,rfl⟩)⟩;rw [Option.getD_some,Int.toNat_natCast];exact G7.ptr hm
theorem tw(G:GV w S F g D C bl c mb M)(h:HT)(hK:∀w',Kept Nil w w'->K (.bool (decide (h∈ids D))) w'):
 bk prog fR.id #[.pointer (some ⟨g,0,none⟩),.agg h.1] w K:=by
 refine fR.of ?_;unfold fR.W;intro w3;have k3:Kept Nil w w3:=(Kept.refl _ _).alloc _;have pB:w3.heap[w.heap.size]? =some (.cells h.1 aj (0,0)):=aJ w _;clear_value w3;refine⟨h.1,⟨h.2.1,Cells.bC pB⟩,uP (G.same k3) h fun w6 x k6 hx=>⟨x,rfl,?_⟩⟩;rw [hx.isSome];exact hK w6 (k3.tt k6)
end
section
variable{w w':World}{S F:Nat->Prop}{g bl c mb:Nat}{D:DG}{C:HT->List HT}{M:List NM}{K:Value->World->Prop}
end
section
variable{w w':World}{S F:Nat->Prop}{g bl c mb:Nat}{D:DG}{C:HT->List HT}{M:List NM}{K:Value->World->Prop}
theorem BL{A:Option Addr}{n c:Nat}{l:List HT}(hl:HS w A n l)(hn:n<=400000)(hK:∀A' c' w',bQ w' w.heap.size A' n c' l->Kept Nil w w'->K (.slice A' n c') w'):
 bk prog cU.id #[.slice A n c] w K:=by
 refine cU.of ?_;cases A with
 |none=>
  obtain⟨rfl,rfl⟩:=hl.none;exact Split.yes rfl (hK none 0 w (bQ.nil _ _) (Kept.refl _ _))
 |some a=>
  refine Split.no rfl ?_;intro w2;have k2:Kept Nil w w2:=(Kept.refl _ _).alloc _;have r0:bQ w2 w.heap.size (some ⟨w.heap.size,0,none⟩) 0 0 []:=Row.made (n:=0) (cur:= #[]) (aJ w _) (Nat.le_refl _) rfl (Nat.zero_le _);clear_value w2;obtain⟨A',c',w4,hr,row,hg,_⟩:=cD (cx:=c) az r0 (hl.same k2) (by omega) k2.size;rw [Nat.zero_add]at hr row;rw [List.nil_append]at row;exact⟨A',n,c',w4,hr,hK A' c' w4 row (Kept.dM k2 hg (fun k hk=>by cases hk;exact Nat.le_refl _))⟩
theorem v8{D:DG}{nd:DN}{m:NM}{ch:List HT}(N:qq w S F D ch nd m):w.cell? ((⟨m.b,0,none⟩:Addr).add 34)=some (.slice m.rA m.rn m.rc):=by
 rw [a8,Nat.zero_add,ay N.bC];exact yK _ _
theorem Cv{D:DG}{nd:DN}{m:NM}{ch:List HT}(N:qq w S F D ch nd m):w.cell? ((⟨m.b,0,none⟩:Addr).add 33)=some (.slice m.cA m.cn m.cc):=by
 rw [a8,Nat.zero_add,ay N.bC];exact Gg _ _
end
def nR(D:DG)(j:Nat):HT:=match D[j]? with|some nd=>nd.id|none=>default
theorem ua:∀(ws:List Nat) (k:Nat),okW ws->(oJ k ws).Nodup
 | [],_,_=>List.Pairwise.nil
 |x::ws,k,ho=>by
  have hx:=ho x (by simp);have IE:okW ws:=fun y hy=>ho y (by simp [hy]);obtain⟨_,h2,h3⟩:=wi x hx;rw [oJ,List.nodup_append];refine⟨List.Pairwise.map _ (fun a b lM e=>lM (by omega)) h2,ua ws (k+1) IE,fun a ha b hb e=>?_⟩;rw [List.mem_map]at ha;obtain⟨t,ht,rfl⟩:=ha;have:=((oL ws (k+1) b IE).1 hb).1;have:=h3 t ht;omega
section
variable{w w':World}{S F:Nat->Prop}{g bl c mb:Nat}{D:DG}{C:HT->List HT}{M:List NM}{K:Value->World->Prop}
theorem uQ(G:GV w S F g D C bl c mb M)(W:jv D)(hD:D.length<=10000)(hT:tc w){A:Option Addr}{n cx:Nat}{l:List HT}(hl:HS w A n l)(hn:n<=10000)
 (hK:∀A' c' w',bQ w' w.heap.size A' (cy D l).length c' (cy D l)->Kept Nil w w'->K (.slice A' (cy D l).length c') w'):
 bk prog aR.id #[.pointer (some ⟨g,0,none⟩),.slice A n cx] w K:=by
 have hlen:=hl.len;refine aR.of ?_;unfold aR.W;intro w3;have k3:Kept Nil w w3:=(Kept.refl _ _).alloc _;have TU:w3.heap[w.heap.size]? =some (.cells #[.pointer (some ⟨g,0,none⟩)] kh (0,0)):=aJ w _;have Bc:w.heap.size<w3.heap.size:=aQ TU;clear_value w3;refine aR.cf (I:=fun s w'=>∃(i:Nat) (A':Option Addr) (n' c':Nat) (ws:List Nat),s=(A',n',c',(i:Int))/\i<=n/\jU w' w3.heap.size A' n' c' ws/\okW ws/\n'<=200/\(∀j,bit ws j=true↔∃h∈l.take i,∃nj,D[j]? =some nj/\eB D nj.id h)/\Kept Nil w3 w')
  (μ:=fun s _=>((n:Int)-s.2.2.2).toNat) (s:=(none,0,0,0)) ⟨0,none,0,0,[],rfl,Nat.zero_le _,Row.nil _ _ _ _,by simp [okW],by omega,by simp [xE],Kept.refl _ _⟩ ?_
 rintro s w' ⟨i,A',n',c',ws,rfl,hi,row,ho,ZR,pI,kw⟩;have kk:Kept Nil w w':=k3.tt kw;refine Split.dec (fun jb=>?_) (fun fV=>?_)
 ·simp only at jb
  have dQ:i<n:=by omega
  obtain⟨h,hh⟩:∃h,l[i]? =some h:=⟨_,List.getElem?_eq_getElem (by omega)⟩;refine(hl.same kk).load (i:=(i:Int)) (by omega) hh ?_;intro mc;obtain⟨qR,iD,iH⟩:=gg (w:=w') (z:=(#[.int .u8 0,.int .u8 0,.int .u8 0,.int .u8 0,.int .u8 0,.int .u8 0,.int .u8 0,.int .u8 0,.int .u8 0,.int .u8 0,.int .u8 0,.int .u8 0,.int .u8 0,.int .u8 0,.int .u8 0,.int .u8 0,.int .u8 0,.int .u8 0,.int .u8 0,.int .u8 0,.int .u8 0,.int .u8 0,.int .u8 0,.int .u8 0,.int .u8 0,.int .u8 0,.int .u8 0,.int .u8 0,.int .u8 0,.int .u8 0,.int .u8 0,.int .u8 0]:Array Value)) (cs:=h.1) (t:=aj) (by rw [h.2.1];rfl);refine⟨⟨h.2.1,h.2.one,fun j hj=>qR j (by rw [h.2.1];exact hj)⟩,?_⟩;intro mF
  replace iD:mF.heap[w'.heap.size]? =some (.cells h.1 aj (0,0)):=iD
  replace iH:Kept Nil w' mF:=iH
  clear_value mF;have sE:Kept Nil w3 mF:=kw.tt iH;refine⟨some ⟨g,0,none⟩,by rw [ay (sE.heap TU (fun h=>h))];rfl,h.1,⟨h.2.1,Cells.bC iD⟩,?_⟩;refine uP (G.same (k3.tt sE)) h fun oa x wx hx=>⟨x,rfl,?_⟩;have JC:Kept Nil w3 oa:=sE.tt wx;have Gq:Kept Nil w oa:=k3.tt JC;have vY:jU oa w3.heap.size A' n' c' ws:=Row.aC row (iH.tt wx) (fun _ _ h=>h);rcases hx with⟨rfl,mP⟩|⟨q,nd,m',hq,rfl,lZ,rfl⟩
  ·refine Split.no rfl ?_
   simp only;rw [dq (n:=(i:Int)) (by omega) (by omega)];refine⟨(A',n',c',(i:Int)+1),rfl,⟨i+1,A',n',c',ws,rfl,dQ,vY,ho,ZR,fun j=>?_,JC⟩,by simp only;omega⟩;rw [pI];constructor
   ·rintro⟨h',h1,h2⟩;exact⟨h',(bG hh).2 (.inl h1),h2⟩
   ·rintro⟨h',h1,nj,h2,h3⟩
    rcases(bG hh).1 h1 with h1|rfl
    ·exact⟨h',h1,nj,h2,h3⟩
    ·exact absurd (h3.mem W).2 mP
  ·obtain⟨m,hm,N⟩:=(G.same Gq).get hq
   rw [lZ]at hm;cases hm;refine Split.yes rfl ⟨_,_,_,v8 N,?_⟩;have vf:=N.small;have EH:∀k,bg A'=some k->w3.heap.size<=k:=fun k hk=>(Row.bC vY hk).1;refine vW vY ho (by omega) JC.size N.past N.ok (by omega) (fun a ha k hk e=>?_) fun A2 n2 c2 l2 la Q8 ZL To O3 pQ Kr=>⟨A2,n2,c2,rfl,?_⟩
   ·have h1:=G.low a.block (.inr (N.oH a ha))
    have h2:=EH k hk;omega
   ·simp only
    rw [dq (n:=(i:Int)) (by omega) (by omega)];refine⟨(A2,n2,c2,(i:Int)+1),rfl,⟨i+1,A2,n2,c2,l2,rfl,dQ,Q8,ZL,by omega,fun j=>?_,JC.trans pQ (fun k hk e=>absurd (EH k e) (by omega))⟩,by simp only;omega⟩;rw [O3,Bool.or_eq_true,pI,N.bits];constructor
    ·rintro(⟨h',h1,h2⟩|h2)
     ·exact⟨h',(bG hh).2 (.inl h1),h2⟩
     ·exact⟨nd.id,(bG hh).2 (.inr rfl),h2⟩
    ·rintro⟨h',h1,h2⟩
     rcases(bG hh).1 h1 with h1|rfl
     ·exact .inl ⟨h',h1,h2⟩
     ·exact .inr h2
 ·simp only at fV
  have hie:i=n:=by omega
  subst hie;rw [List.take_of_length_le (by omega)]at pI;rw [aP,aR.dh];unfold aR.cO;intro ti;have Fm:Kept Nil w' ti:=(Kept.refl _ _).alloc _;have Td:ti.heap[w'.heap.size]? =some (.cells #[.slice none 0 0] az (0,0)):=aJ w' _;clear_value ti;refine jA.of ?_;unfold jA.W;intro nh;have zX:Kept Nil ti nh:=(Kept.refl _ _).alloc _;have JQ:nh.heap[ti.heap.size]? =some (.cells #[.slice A' n' c'] ke (0,0)):=aJ ti _;clear_value nh;refine⟨_,rfl,?_⟩;have Tc:=zX.heap Td (fun h=>h);have RU:Kept Nil w3 nh:=(kw.tt Fm).tt zX;have Jq:Kept Nil w nh:=k3.tt RU;have yy:jU nh w3.heap.size A' n' c' ws:=Row.aC (Row.aC row Fm (fun _ _ h=>h)) zX (fun _ _ h=>h);have OP:=RU.heap TU (fun h=>h);have Ac:w.heap.size<w'.heap.size:=Nat.lt_of_lt_of_le Bc kw.size;have ahu:w'.heap.size<nh.heap.size:=aQ Tc;have ahv:ti.heap.size<nh.heap.size:=aQ JQ;have Hf:∀j∈oJ 0 ws,∃nj,D[j]? =some nj:=fun j hj=>by
   have:=((oL ws 0 j ho).1 hj).2;rw [Nat.mul_zero,Nat.sub_zero]at this;obtain⟨_,_,nj,h1,_⟩:=(pI j).1 this;exact⟨nj,h1⟩
  have xS:(oJ 0 ws).length<=D.length:=by
   have:=uc (m:=List.range D.length) (ua ws 0 ho) (fun j hj=>by
    obtain⟨nj,h1⟩:=Hf j hj;exact List.mem_range.2 (lgeS h1).1)
   rwa [List.length_range]at this
  let xs:=oJ 0 ws
  let ρ0:Env:= [(2,.pointer (some (⟨w.heap.size,0,none⟩:Addr))),(4,.slice none 0 0),(9,.pointer (some (⟨w'.heap.size,0,none⟩:Addr))),(30,.func (.func aI.id) #[] #[.pointer (some (⟨ti.heap.size,0,none⟩:Addr))])]
  let J:Nat->World->Prop:=fun i v=>∃A c,v.heap[w'.heap.size]? =some (.cells #[.slice A i c] az (0,0))/\bQ v nh.heap.size A i c ((xs.take i).map (nR D))/\Kept (· =w'.heap.size) nh v/\i<=xs.length
  have qS:∀i v,J i v->US v A' n' ws/\v.cell? ⟨ti.heap.size,0,none⟩=some (.slice A' n' c')/\tc v:=by
   rintro i v ⟨A,c,h1,h2,h3,h4⟩;refine⟨yy.us.aC h3 (fun a ha e=>?_),by rw [ay (h3.heap JQ (by have:=aQ Td;omega))];rfl,(hT.same Jq).aC h3 (fun e=>by have:=hT.lt;omega)⟩;have hk:bg A'=some a.block:=by rw [ha];rfl
   obtain⟨_,cur,hc⟩:=Row.bC row hk;have:=aQ hc;omega
  refine lH (ρ:=ρ0) (ρ0:=ρ0) ng mix aR.k (t:=30) (ps:= #[31]) (by kernel_rfl) (by decide) rfl aI.at_ rfl (.inl rfl) (fun i v _ h=>h) rfl encI xs (fun _=>rfl) (by simp [gD]) (Ia ⟨ti.heap.size,0,none⟩ (c:=c') (by omega) ho) J (fun _ _=>False) ?_ (fun _ _ _ _ _ h=>h.elim) qS ?_ ?_ ?_ (fun _ _ h=>h.elim) (fun _ _ _ h=>h.elim)
  ·rintro i v v' R nJ ⟨A,c,h1,h2,h3,h4⟩ hk
   exact⟨A,c,hk.heap h1 (iV h1 nJ.loop),Row.apart h2 hk (fun cs t fr h=>by rw [nJ.loop]at h;cases h),h3.trans hk (fun k hk e=>by omega),h4⟩
  ·intro R
   exact⟨none,0,iU (iU Tc _) _,bQ.nil _ _,(((Kept.refl _ _).alloc _).alloc _),Nat.zero_le _⟩
  ·rintro i x v R hx hj nJ
   have hJ:=hj;obtain⟨A,c,h1,h2,h3,h4⟩:=hj;have dQ:i<xs.length:=(lgeS hx).1;have e7:jX ρ0 ((#[31]:Array Nat).toList.zip (encI x))= [(2,.pointer (some (⟨w.heap.size,0,none⟩:Addr))),(4,.slice none 0 0),(9,.pointer (some (⟨w'.heap.size,0,none⟩:Addr))),(30,.func (.func aI.id) #[] #[.pointer (some (⟨ti.heap.size,0,none⟩:Addr))]),(31,.int .i64 (x:Int))]:=rfl;rw [e7,aR.a1];unfold aR.A1;refine⟨nJ,fun w2 R2 mE ri=>?_⟩;have C9:=mE.heap h1 (iV h1 nJ.loop);have Bz:bQ w2 nh.heap.size A i c ((xs.take i).map (nR D)):=Row.apart h2 mE (fun cs t fr h=>by rw [nJ.loop]at h;cases h);have C6:Kept (· =w'.heap.size) nh w2:=h3.trans mE (fun k hk e=>by omega);clear hJ h1 h2 h3;rw [aR.y1];unfold aR.Y1;intro Dq;have Nl:Kept Nil w2 Dq:=(Kept.refl _ _).drew;clear_value Dq;have Vg:=Nl.heap C9 (fun h=>h);have CC:Kept (· =w'.heap.size) nh Dq:=C6.trans Nl (fun _ _ h=>h.elim);obtain⟨nj,LN⟩:=Hf x (List.mem_of_getElem? hx);have tn:=(lgeS LN).1;have Yi:Kept Nil w Dq:=Jq.trans CC (fun k hk e=>by omega);obtain⟨m,hm,N⟩:=(G.same Yi).get LN;refine⟨A,i,c,by rw [ay Vg];rfl,some ⟨g,0,none⟩,by rw [ay (CC.heap OP (by omega))];rfl,?_⟩;refine⟨_,_,_,(G.same Yi).nodes,⟨by omega,by omega⟩,some ⟨m.b,0,none⟩,by rw [Int.toNat_natCast];exact(G.same Yi).ptr hm,?_⟩;refine⟨nj.id.1,⟨nj.id.2.1,fun j v hj=>?_⟩,nj.id.2.1,?_⟩
   ·rw [add_zero,a8,Nat.zero_add,ay N.bC]
    exact Gf _ _ hj
   intro PT;have RQ:Kept Nil Dq PT:=(Kept.refl _ _).alloc _;have iq:HS PT (some ⟨Dq.heap.size,0,none⟩) 1 [nj.id]:=iq Dq nj.id;clear_value PT;have Ve:=RQ.heap Vg (fun h=>h);refine⟨by rw [ay Ve];rfl,?_⟩;have Kw:bQ PT nh.heap.size A i c ((xs.take i).map (nR D)):=Row.aC (Row.aC Bz Nl (fun _ _ h=>h)) RQ (fun _ _ h=>h);have Sn:nh.heap.size<=PT.heap.size:=Nat.le_trans CC.size RQ.size;have JJ:xs.length<=D.length:=xS;obtain⟨A2,c2,pV,hr,vX,Kk,O4⟩:=cD (cx:=1) az Kw iq (by omega) Sn;have Ho:Kept (fun k=>bg A=some k) PT pV:=Kept.grown (Kept.refl _ _) Kk (fun k hk _=>hk);have U9:∀k,bg A=some k->nh.heap.size<=k:=fun k hk=>(Row.bC Kw hk).1;have Vd:=Ho.heap Ve (fun e=>by have:=U9 _ e;omega);have Z5:Live (nh.heap.size+1) nh.heap.size R2 pV:=by
    have Oy:=(ri.aC Nl (fun h=>h) (fun h=>h)).aC RQ (fun h=>h) (fun h=>h);refine Oy.aC Ho ?_ ?_
    ·intro h
     obtain⟨_,cur,hc⟩:=Row.bC Kw h;exact iV hc Oy.loop rfl
    ·intro h
     obtain⟨_,cur,hc⟩:=Row.bC Kw h;exact qJ hc Oy.mark rfl
   refine⟨A2,_,c2,pV,hr,dL Vd (by simp),?_⟩;intro XA;have Yx:Kept (· =w'.heap.size) pV XA:=Kept.setCell (S:=fun k=>k=w'.heap.size) (Kept.refl _ pV) (p:=⟨w'.heap.size,0,none⟩) (fun _=>rfl) _;have aa2:XA.heap[w'.heap.size]? =some (.cells #[.slice A2 (i+1) c2] az (0,0)):=cV Vd 0 _;clear_value XA;refine⟨Z5.aC Yx (by omega) (by omega),A2,c2,aa2,?_,((CC.trans RQ (fun _ _ h=>h.elim)).trans Ho (fun k hk e=>absurd (U9 k e) (by omega))).tt Yx,dQ⟩;have e:(xs.take (i+1)).map (nR D)=(xs.take i).map (nR D)++ [nj.id]:=by
    rw [List.take_add_one,hx];simp [nR,LN]
   rw [e];exact Row.aC vX Yx (fun k hk e=>by have:=(Row.bC vX hk).1;omega)
  ·rintro v R ⟨A,c,h1,h2,h3,h4⟩ nJ
   have e7:gF ρ0 nh.heap.size= [(2,.pointer (some (⟨w.heap.size,0,none⟩:Addr))),(4,.slice none 0 0),(9,.pointer (some (⟨w'.heap.size,0,none⟩:Addr))),(30,.func (.func aI.id) #[] #[.pointer (some (⟨ti.heap.size,0,none⟩:Addr))]),(4294967296,.agg #[.pointer (some ⟨nh.heap.size,0,none⟩)])]:=rfl;rw [e7,aR.iQ];rw [List.take_of_length_le (Nat.le_refl _)]at h2;have JJ:xs.length<=D.length:=xS;refine⟨A,xs.length,c,by rw [ay h1];rfl,gK h2.hs (by omega) fun A2 c2 Xw F8 Yw=>⟨A2,_,c2,rfl,⟨Yw.heap nJ.mark (fun h=>h),trivial⟩,?_⟩⟩;have hmk:=Yw.heap nJ.mark (fun h=>h);have kp:Kept (· =nh.heap.size) Xw (Xw.putObj nh.heap.size (.deferred none)):=Kept.putAt _ _ _;have e:de (xs.map (nR D))=cy D l:=Cs fun a=>by
    rw [List.mem_map];constructor
    ·rintro⟨j,hj,rfl⟩
     have hb:=((oL ws 0 j ho).1 hj).2;rw [Nat.mul_zero,Nat.sub_zero]at hb;obtain⟨h',sH,nj,uD,C7⟩:=(pI j).1 hb;have:nR D j=nj.id:=by unfold nR;rw [uD]
     rw [this];exact⟨(C7.mem W).1,h',sH,C7⟩
    ·rintro⟨ha,h',hh',Bu⟩
     obtain⟨nj,hnm,rfl⟩:=dt.1 ha;obtain⟨j,hj⟩:=List.mem_iff_getElem?.1 hnm;refine⟨j,(oL ws 0 j ho).2 ⟨by omega,?_⟩,by unfold nR;rw [hj]⟩;rw [Nat.mul_zero,Nat.sub_zero];exact(pI j).2 ⟨h',hh',nj,hj,Bu⟩
   rw [e]at F8⊢;have ko:Kept Nil w Xw:=(Jq.trans h3 (fun k hk e=>by omega)).tt Yw;have hws:w.heap.size<=v.heap.size:=Nat.le_trans Jq.size h3.size;refine hK A2 c2 _ (Row.base (Row.apart F8 kp (fun cs t fr h=>by rw [hmk]at h;cases h)) fun b hb=>Nat.le_trans hws (Row.bC F8 hb).1) (ko.trans kp (fun k hk e=>by omega))
end
section
variable{w w':World}{S F:Nat->Prop}{g bl c mb gb:Nat}{D:DG}{C:HT->List HT}{M:List NM}{K:Value->World->Prop}
theorem zD(G:GV w S F g D C bl c mb M)(hg:w.heap[gb]? =some (.cells #[.pointer (some ⟨g,0,none⟩)] kh (0,0))){A:Option Addr}{n cx:Nat}{l:List HT}(hl:HS w A n l)(hn:n<=400000)
 (hK:∀w' (x:Bool),(x=true↔∃p∈l,p∉ids D)->Kept Nil w w'->K (.bool x) w'):
 bk prog dE.id #[.slice A n cx,.func (.func dY.id) #[] #[.pointer (some ⟨gb,0,none⟩)]] w K:=by
 have hlen:=hl.len;refine b0.of (aq.of ?_);refine aq.cf (I:=fun s w'=>∃i:Nat,s=(0,(i:Int))/\i<=n/\(∀p∈l.take i,p∈ids D)/\Kept Nil w w') (μ:=fun s _=>((n:Int)-s.2).toNat) (s:=(0,0)) ⟨0,rfl,Nat.zero_le _,by simp,Kept.refl _ _⟩ ?_;rintro s w' ⟨i,rfl,hi,cY,kw⟩;refine Split.dec (fun jb=>?_) (fun fV=>?_)
 ·simp only at jb
  have dQ:i<n:=by omega
  obtain⟨x,hx⟩:∃x,l[i]? =some x:=⟨_,List.getElem?_eq_getElem (by omega)⟩;refine(hl.same kw).load (i:=(i:Int)) (by omega) hx ?_;refine dY.of ?_;unfold dY.W;intro w3;have k3:Kept Nil w' w3:=(Kept.refl _ _).alloc _;have pB:w3.heap[w'.heap.size]? =some (.cells x.1 aj (0,0)):=aJ w' _;clear_value w3;have K9:=kw.tt k3;refine⟨some ⟨g,0,none⟩,by rw [ay (K9.heap hg (fun h=>h))];rfl,x.1,⟨x.2.1,Cells.bC pB⟩,tw (G.same K9) x fun w7 k7=>⟨_,rfl,_,rfl,?_⟩⟩;have AP:=K9.tt k7;by_cases hm:x∈ids D
  ·refine Split.no (by rw [decide_eq_true hm];rfl) ?_
   simp only;rw [dq (n:=(i:Int)) (by omega) (by omega)];refine⟨(0,(i:Int)+1),rfl,⟨i+1,rfl,dQ,fun p hp=>?_,AP⟩,by simp only;omega⟩;rcases(bG hx).1 hp with hp|rfl
   ·exact cY p hp
   ·exact hm
  ·refine Split.yes (by rw [decide_eq_false hm];rfl) ?_
   refine⟨(i:Int),rfl,?_⟩;exact hK w7 _ ⟨fun _=>⟨x,List.mem_of_getElem? hx,hm⟩,fun _=>decide_eq_true (by omega)⟩ AP
 ·simp only at fV
  rw [aP,aq.dh];rw [List.take_of_length_le (by omega)]at cY;exact⟨-1,rfl,hK w' _ ⟨fun h=>absurd (of_decide_eq_true h) (by omega),fun⟨p,hp,hn⟩=>absurd (cY p hp) hn⟩ kw⟩
theorem js{w:World}{a b:Nat}{ca cb:Array Value}{ta tb:TypeId}{fa fb:Nat×Nat}(ha:w.heap[a]? =some (.cells ca ta fa))(hb:w.heap[b]? =some (.cells cb tb fb))(fC:ta≠tb):a≠b:=by
 rintro rfl;rw [ha]at hb;simp only [Option.some.injEq,Obj.cells.injEq]at hb;exact fC hb.2.1
theorem GV.upd(G:GV w S F g D C bl c mb M)(W:jv D){q:Nat}{nd:DN}{m:NM}(hq:D[q]? =some nd)(hm:M[q]? =some m){A5:Option Addr}{n5 c5:Nat}{ch':List HT}
 (kT:Kept (fun k=>bg m.cA=some k\/k=m.b) w w') (hb:w'.heap[m.b]? =some (.cells (fE nd.id {m with cA:=A5,cn:=n5,cc:=c5}) dK (0,0))) (e8:bQ w' w.heap.size A5 n5 c5 ch'):
 GV w' (fun k=>S k\/bg A5=some k) F g D (fun x=>if x=nd.id then ch' else C x) bl c mb (M.set q {m with cA:=A5,cn:=n5,cc:=c5}):=by
 have N:=G.node q nd m hq hm;have JS:q<M.length:=(lgeS hm).1;have oR:∀k,bg m.cA=some k->∃cur,w.heap[k]? =some (.cells cur aj (0,0)):=fun k hk=>(Row.bC N.ch hk).2;have hF:∀k,F k->¬(bg m.cA=some k\/k=m.b):=fun k hk e=>by
  rcases e with e|rfl
  ·exact G.Fw k (N.Pw k e) hk
  ·exact G.Fw _ N.fM hk
 have typ:∀ {k:Nat} {cs:Array Value} {t:TypeId},w.heap[k]? =some (.cells cs t (0,0))->t≠aj->t≠dK->¬(bg m.cA=some k\/k=m.b):=fun h h1 h2 e=>by
  rcases e with e|rfl
  ·obtain⟨cur,hc⟩:=oR _ e
   exact js h hc h1 rfl
  ·exact js h N.bC h2 rfl
 have EG:∀k,bg A5=some k->w.heap.size<=k:=fun k hk=>(Row.bC e8 hk).1;have fX:∀(i:Nat) m',(M.set q {m with cA:=A5,cn:=n5,cc:=c5})[i]? =some m'->(i=q/\m'= {m with cA:=A5,cn:=n5,cc:=c5})\/(i≠q/\M[i]? =some m'):=fun i m' h=>by
  by_cases e:i=q
  ·subst e
   rw [List.getElem?_set_self JS]at h;exact .inl ⟨rfl,(Option.some.inj h).symm⟩
  ·rw [List.getElem?_set_ne (Ne.symm e)]at h
   exact .inr ⟨e,h⟩
 refine⟨?_,?_,?_,by simpa using G.len,?_,?_,.inl G.gQ,.inl G.sI,.inl G.uJ,?_,?_⟩
 ·exact kT.heap G.top (typ G.top (by decide) (by decide))
 ·have Ov:(M.set q {m with cA:=A5,cn:=n5,cc:=c5}).map (fun m=>Value.pointer (some ⟨m.b,0,none⟩))=M.map fun m=>Value.pointer (some ⟨m.b,0,none⟩):=by
   apply List.ext_getElem?;intro i;rw [List.getElem?_map,List.getElem?_map];by_cases e:i=q
   ·subst e
    rw [List.getElem?_set_self JS,hm];rfl
   ·rw [List.getElem?_set_ne (Ne.symm e)]
  rw [Ov];refine Row.aC G.row kT (fun k e=>?_);cases e;obtain⟨_,cur,hc⟩:=Row.bC G.row (k:=bl) rfl;exact typ hc (by decide) (by decide)
 ·refine G.map.aC kT (fun e=>?_)
  obtain⟨es,clock,JZ,_⟩:=G.map.ex;rcases e with e|e
  ·obtain⟨cur,hc⟩:=oR _ e
   rw [hc]at JZ;cases JZ
  ·rw [e,N.bC]at JZ;cases JZ
 ·intro i nd' m' hi lZ
  rcases fX i m' lZ with⟨rfl,rfl⟩|⟨fC,Tw⟩
  ·rw [hq]at hi
   cases hi;rw [if_pos rfl];exact⟨hb,.inl N.fM,N.ps.aC kT (fun a ha=>hF _ (N.I9 a ha)),N.I9,Row.base e8 (fun _ _=>Nat.zero_le _),fun k hk=>.inr hk,N.past.aC kT (fun a ha=>hF _ (N.oH a ha)),N.oH,N.ok,N.bits,N.small⟩
  ·have N':=G.node i nd' m' hi Tw
   have hid:nd'.id≠nd.id:=fun e=>fC (W.inj hi hq e);rw [if_neg hid];have aaQ:m'.b≠m.b:=fun e=>by
    have h1:=N'.bC;rw [e,N.bC]at h1;simp only [Option.some.injEq,Obj.cells.injEq]at h1;exact hid (D4 h1.1).symm
   refine⟨kT.heap N'.bC (fun e=>?_),.inl N'.fM,N'.ps.aC kT (fun a ha=>hF _ (N'.I9 a ha)),N'.I9,Row.aC N'.ch kT (fun k hk e=>?_),fun k hk=>.inl (N'.Pw k hk),N'.past.aC kT (fun a ha=>hF _ (N'.oH a ha)),N'.oH,N'.ok,N'.bits,N'.small⟩
   ·rcases e with e|e
    ·obtain⟨cur,hc⟩:=oR _ e
     exact js N'.bC hc (by decide) rfl
    ·exact aaQ e
   ·rcases e with e|rfl
    ·exact G.apart i q m' m Tw hm fC k hk e
    ·obtain⟨cur,hc⟩:=(Row.bC N'.ch hk).2
     exact js hc N.bC (by decide) rfl
 ·intro i j m1 m2 h1 h2 qg k IF mE
  rcases fX i m1 h1 with⟨rfl,rfl⟩|⟨hi,sH⟩
  ·rcases fX j m2 h2 with⟨rfl,rfl⟩|⟨hj,uD⟩
   ·exact qg rfl
   ·have:=EG k IF
    have sV:j<D.length:=by rw [<-G.len];exact(lgeS uD).1
    obtain⟨cur,hc⟩:=(Row.bC (G.node j _ m2 (List.getElem?_eq_getElem sV) uD).ch mE).2;have:=aQ hc;omega
  ·rcases fX j m2 h2 with⟨rfl,rfl⟩|⟨hj,uD⟩
   ·have:=EG k mE
    have dQ:i<D.length:=by rw [<-G.len];exact(lgeS sH).1
    obtain⟨cur,hc⟩:=(Row.bC (G.node i _ m1 (List.getElem?_eq_getElem dQ) sH).ch IF).2;have:=aQ hc;omega
   ·exact G.apart i j m1 m2 sH uD qg k IF mE
 ·intro k hk hf
  rcases hk with hk|hk
  ·exact G.Fw k hk hf
  ·have:=EG k hk
   have:=G.low k (.inr hf);omega
 ·intro k hk
  rcases hk with(hk|hk)|hk
  ·exact Nat.lt_of_lt_of_le (G.low k (.inl hk)) kT.size
  ·obtain⟨cur,hc⟩:=(Row.bC e8 hk).2
   exact aQ hc
  ·exact Nat.lt_of_lt_of_le (G.low k (.inr hk)) kT.size
end
theorem yJ(h:HT)(m:NM)(A:Option Addr)(n c:Nat):(fE h m).setIfInBounds 33 (.slice A n c)=fE h {m with cA:=A,cn:=n,cc:=c}:=by
 have hs:=h.2.1;apply Array.ext_getElem?;intro i;unfold fE;rw [Array.getElem?_setIfInBounds,Array.getElem?_append,Array.getElem?_append];by_cases h1:i<h.1.size
 ·rw [if_neg (by omega),if_pos h1,if_pos h1]
 ·rw [if_neg h1,if_neg h1]
  by_cases h2:i=33
  ·subst h2
   rw [if_pos rfl,if_pos (by simp;omega),hs];rfl
  ·rw [if_neg (Ne.symm h2),hs]
   match i-32,show i-32≠1 by omega with
   |0,_=>rfl
   |2,_=>rfl
   |(k+3),_=>rfl
theorem yI(h:HT)(m:NM)(A:Option Addr)(n c:Nat):(fE h m).setIfInBounds 34 (.slice A n c)=fE h {m with rA:=A,rn:=n,rc:=c}:=by
 have hs:=h.2.1;apply Array.ext_getElem?;intro i;unfold fE;rw [Array.getElem?_setIfInBounds,Array.getElem?_append,Array.getElem?_append];by_cases h1:i<h.1.size
 ·rw [if_neg (by omega),if_pos h1,if_pos h1]
 ·rw [if_neg h1,if_neg h1]
  by_cases h2:i=34
  ·subst h2
   rw [if_pos rfl,if_pos (by simp;omega),hs];rfl
  ·rw [if_neg (Ne.symm h2),hs]
   match i-32,show i-32≠2 by omega with
   |0,_=>rfl
   |1,_=>rfl
   |(k+3),_=>rfl
section
variable{w w0 w':World}{S F F1 S':Nat->Prop}{g bl c mb gb ib nb:Nat}{D:DG}{C:HT->List HT}{M:List NM}{K:Value->World->Prop}
noncomputable def iB(D:DG)(h:HT)(l:List HT):HT->List HT:=fun x=>if x∈l then de (fY D x++ [h])else fY D x
structure AL(w0 w':World)(S F1 S':Nat->Prop)(g:Nat)(D:DG)(h:HT)(l:List HT)(gb ib nb:Nat)(pA:Option Addr)(pc i bl c mb:Nat)(M:List NM)(rA:Option Addr)(rn rc:Nat)(ws:List Nat):Prop where
 G:GV w' S' F1 g D (iB D h (l.take i)) bl c mb M
 sub:∀k,S k->S' k
 new:∀k,S' k->S k\/w0.heap.size<=k
 node:w'.heap[nb]? =some (.cells (fE h ⟨nb,pA,l.length,pc,none,0,0,rA,rn,rc,ws⟩) dK (0,0))
 X4:¬S' nb
 row:jU w' nb rA rn rc ws
 ok:okW ws
 small:rn<=200
 XZ:∀k,bg rA=some k->¬S' k
 bits:∀j,bit ws j=true↔∃p∈l.take i,∃nj,D[j]? =some nj/\(nj.id=p\/eB D nj.id p)
 WX:w'.heap[gb]? =some (.cells #[.pointer (some ⟨g,0,none⟩)] kh (0,0))
 ibx:w'.heap[ib]? =some (.cells h.1 aj (0,0))
 noG:¬S' gb
 noI:¬S' ib
 hl:HS w' pA l.length l
 kp:Kept S w0 w'
theorem E8{h:HT}{l:List HT}{pA:Option Addr}{pc i:Nat}{rA:Option Addr}{rn rc:Nat}{ws:List Nat}{Q:aN}
 (L:AL w0 w' S F1 S' g D h l gb ib nb pA pc i bl c mb M rA rn rc ws) (W:jv D) (hD:D.length<=10000) (tp:SS l) (fF:∀p∈l,p∈ids D) (Fu:∀k,F1 k->k<nb) (ID:∀a,pA=some a->F1 a.block) (h0:w0.heap.size<=nb) (dQ:i<l.length) (hll:l.length<=10000)
 (hQ:∀S2 M rA rn rc ws v,AL w0 v S F1 S2 g D h l gb ib nb pA pc (i+1) bl c mb M rA rn rc ws->Q .normal (bt.e1 ⟨gb,0,none⟩ ⟨ib,0,none⟩ 0 ⟨nb,0,none⟩ pA l.length pc (l.length:Int) ((i:Int)+1)) v):
 bt.B1 ⟨gb,0,none⟩ ⟨ib,0,none⟩ 0 ⟨nb,0,none⟩ pA l.length pc (l.length:Int) (i:Int) Q w':=by
 obtain⟨p,hp⟩:∃p,l[i]? =some p:=⟨_,List.getElem?_eq_getElem dQ⟩;have pH:=List.mem_of_getElem? hp;have ZC:=fF p pH;refine Split.yes (decide_eq_true (by omega)) ?_;refine L.hl.load (i:=(i:Int)) (by omega) hp ?_;intro re;obtain⟨qR,iD,iH⟩:=gg (w:=w') (z:=(#[.int .u8 0,.int .u8 0,.int .u8 0,.int .u8 0,.int .u8 0,.int .u8 0,.int .u8 0,.int .u8 0,.int .u8 0,.int .u8 0,.int .u8 0,.int .u8 0,.int .u8 0,.int .u8 0,.int .u8 0,.int .u8 0,.int .u8 0,.int .u8 0,.int .u8 0,.int .u8 0,.int .u8 0,.int .u8 0,.int .u8 0,.int .u8 0,.int .u8 0,.int .u8 0,.int .u8 0,.int .u8 0,.int .u8 0,.int .u8 0,.int .u8 0,.int .u8 0]:Array Value)) (cs:=p.1) (t:=aj) (by rw [p.2.1];rfl);refine⟨⟨p.2.1,p.2.one,fun j hj=>qR j (by rw [p.2.1];exact hj)⟩,?_⟩;intro sP
 replace iD:sP.heap[w'.heap.size]? =some (.cells p.1 aj (0,0)):=iD
 replace sS:Kept Nil w' sP:=iH
 clear_value sP;refine⟨some ⟨g,0,none⟩,by rw [ay (sS.heap L.WX (fun h=>h))];rfl,p.1,⟨p.2.1,Cells.bC iD⟩,?_⟩;refine uP (L.G.same sS) p fun w40 x k40 hx=>⟨x,rfl,?_⟩;rcases hx with⟨rfl,mP⟩|⟨q,nd,m',hq,eQ,lZ,rfl⟩
 ·exact absurd ZC mP
 intro zU;have Gx:Kept Nil w' zU:=(sS.tt k40).drew;have Ht:zU.heap[w'.heap.size]? =some (.cells p.1 aj (0,0)):=k40.heap iD (fun h=>h);clear_value zU;have aht:=Gx.size;have Xh:=L.G.same Gx;obtain⟨m,hm,QG⟩:=Xh.get hq;rw [lZ]at hm;cases hm;have Oq:=Gx.heap L.node (fun h=>h);have yx:jU zU nb rA rn rc ws:=Row.aC L.row Gx (fun _ _ h=>h);refine⟨rA,rn,rc,by rw [a8,Nat.zero_add,ay Oq];exact yK _ _,?_⟩;refine⟨_,_,_,v8 QG,some ⟨g,0,none⟩,by rw [ay (Gx.heap L.WX (fun h=>h))];rfl,?_⟩;refine⟨some mb,Xh.at_,p.1,⟨p.2.1,Cells.bC Ht⟩,_,Xh.map.wk p,?_⟩;rw [show pos p (ids D) 0=some q by rw [<-eQ];exact W.pos_eq hq,Option.getD_some];have JS:=(lgeS hq).1;have vf:=QG.small;have ahh:=L.small;have Zh:∀k,bg rA=some k->nb<=k/\k<w'.heap.size:=fun k hk=>by
  obtain⟨h1,cur,hc⟩:=Row.bC L.row hk;exact⟨h1,aQ hc⟩
 have ZO:nb<w'.heap.size:=aQ L.node;have KX:∀ {v:World} {A:Option Addr} {n c:Nat} {l:List Nat} {B:Nat},jU v B A n c l->∀ {k:Nat} {cs:Array Value} {t:TypeId},v.heap[k]? =some (.cells cs t (0,0))->t≠iy->¬bg A=some k:=fun hr _ _ _ hk fC e=>by
  obtain⟨_,cur,hc⟩:=Row.bC hr e;exact js hk hc fC rfl
 refine vW yx L.ok (by omega) (by omega) QG.past QG.ok (by omega) (fun a ha k hk e=>?_) fun A2 n2 c2 l2 Dp sn ZK ahX O2 Gv aa3=>⟨A2,n2,c2,rfl,?_⟩
 ·have h1:=Fu a.block (QG.oH a ha)
  have h2:=(Zh k hk).1;omega
 have hnF:∀k,F1 k->¬bg rA=some k:=fun k hk e=>by have:=Fu k hk;have:=(Zh k e).1;omega
 have G52:=Xh.aC Gv (fun k hk e=>L.XZ k e hk) hnF;have Un:=Gv.heap Ht (KX yx Ht (by decide));have TT:=Gx.heap L.WX (fun h=>h);have OO:=Gv.heap TT (KX yx TT (by decide));have TO:=Gx.heap L.ibx (fun h=>h);have TN:=Gv.heap TO (KX yx TO (by decide));have LR:=Gv.heap Oq (KX yx Oq (by decide));have ahs:=Gv.size;have TD:=G52.map.wk p;rw [show pos p (ids D) 0=some q by rw [<-eQ];exact W.pos_eq hq,Option.getD_some]at TD;refine⟨TD,⟨p.1,rfl,p.2.1,Cells.bC Un⟩,G52.at_,by rw [ay OO];rfl,?_⟩;have Vb:∀k,bg A2=some k->bg rA=some k\/zU.heap.size<=k:=aa3;refine yv sn ZK (by omega) (by omega) (by omega) fun A3 n3 c3 l3 pV vX ZJ ahW O1 Ei O4=>⟨A3,n3,c3,rfl,?_⟩;have Bn:∀k,bg A2=some k->¬S' k:=fun k hk hs=>by
  rcases Vb k hk with h|h
  ·exact L.XZ k h hs
  ·have:=L.G.low k (.inl hs);omega
 have Hh:∀k,F1 k->¬bg A2=some k:=fun k hf hk=>by
  have:=Fu k hf;have:=(Row.bC sn hk).1;omega
 have G55:=G52.aC Ei (fun k hk e=>Bn k e hk) Hh;have Kk:=Ei.heap OO (KX sn OO (by decide));have TM:=Ei.heap TN (KX sn TN (by decide));have zj:=Ei.heap LR (KX sn LR (by decide));have ahr:=Ei.size;have adO:=uf h ⟨nb,pA,l.length,pc,none,0,0,rA,rn,rc,ws⟩;refine⟨by rw [a8,Nat.zero_add];exact dL zj (by omega),?_⟩;intro w57 FE;have CA:Kept (· =nb) pV w57:=by
  show Kept (· =nb) pV (pV.setCell ((⟨nb,0,none⟩:Addr).add 34) (.slice A3 n3 c3))
  exact Kept.setCell (S:=fun k=>k=nb) (Kept.refl _ pV) (by rw [eJ];exact fun _=>rfl) _
 have Tn:w57.heap[nb]? =some (.cells (fE h ⟨nb,pA,l.length,pc,none,0,0,A3,n3,c3,l3⟩) dK (0,0)):=by
  show(pV.setCell ((⟨nb,0,none⟩:Addr).add 34) (.slice A3 n3 c3)).heap[nb]? =_;rw [a8,Nat.zero_add,cV zj 34,yI];rfl
 have Gu:Kept (· =nb) pV FE:=CA.drew;have Tm:FE.heap[nb]? =some (.cells (fE h ⟨nb,pA,l.length,pc,none,0,0,A3,n3,c3,l3⟩) dK (0,0)):=Tn;clear_value FE;clear Tn CA;have ahq:=Gu.size;have G58:=G55.aC Gu (fun k hk e=>L.X4 (e▸hk)) (fun k hk e=>by have:=Fu k hk;omega);have TR:=Gu.heap Kk (js Kk zj (by decide));have OK:=Gu.heap TM (js TM zj (by decide));have Q6:jU FE nb A3 n3 c3 l3:=Row.aC vX Gu (fun k hk e=>by
  subst e;exact KX vX zj (by decide) hk)
 obtain⟨m,hm,N58⟩:=G58.get hq;rw [lZ]at hm;cases hm;refine⟨m'.cA,m'.cn,m'.cc,Cv N58,h.1,⟨h.2.1,Cells.bC OK⟩,h.2.1,?_⟩;intro VW;have Yv:Kept Nil FE VW:=(Kept.refl _ _).alloc _;have O0:HS VW (some ⟨FE.heap.size,0,none⟩) 1 [h]:=iq FE h;clear_value VW;have G62:=G58.same Yv;obtain⟨m,hm,QF⟩:=G62.get hq;rw [lZ]at hm;cases hm;refine⟨Cv QF,?_⟩;have Ud:=QF.ch.len;have CY:iB D h (l.take i) nd.id=fY D p:=by
  unfold iB;rw [eQ,if_neg];intro gB;obtain⟨j,hj⟩:=List.mem_iff_getElem?.1 gB;rw [List.getElem?_take]at hj;split at hj
  ·have:=tp.get (by omega) hj hp
   rw [gJ]at this;cases this
  ·cases hj
 have qh:=jK D fun a=>ma D p a;have WD:m'.cn<=10000:=by
  rw [<-Ud,CY];unfold fY;omega
 obtain⟨A7,c7,Ff,Zm,Q5,aao,aa1⟩:=cD (cx:=1) az QF.ch O0 (by omega) (Nat.zero_le _);have Eh:Kept (fun k=>bg m'.cA=some k) VW Ff:=Kept.grown (Kept.refl _ _) aao (fun k hk _=>hk);refine⟨A7,_,c7,Ff,Zm,?_⟩;have ahp:=Yv.size;have Ss:=Eh.size;refine gK Q5.hs (by omega) fun A5 c5 ME F6 Yu=>⟨A5,_,c5,rfl,?_⟩;have aho:=Yu.size;have Tt:=Eh.heap QF.bC (fun e=>by
  obtain⟨_,cur,hc⟩:=Row.bC QF.ch e;exact js QF.bC hc (by decide) rfl)
 have Hk:=Yu.heap Tt (fun h=>h);refine⟨by rw [a8,Nat.zero_add];exact dL Hk (by rw [uf];omega),?_⟩;intro B9;have RN:Kept (· =m'.b) ME B9:=by
  show Kept (· =m'.b) ME (ME.setCell ((⟨m'.b,0,none⟩:Addr).add 33) (.slice A5 (de (iB D h (l.take i) nd.id++ [h])).length c5))
  exact Kept.setCell (S:=fun k=>k=m'.b) (Kept.refl _ ME) (by rw [eJ];exact fun _=>rfl) _
 have Ts:B9.heap[m'.b]? =some (.cells (fE nd.id {m' with cA:=A5,cn:=(de (iB D h (l.take i) nd.id++ [h])).length,cc:=c5}) dK (0,0)):=by
  show(ME.setCell ((⟨m'.b,0,none⟩:Addr).add 33) (.slice A5 (de (iB D h (l.take i) nd.id++ [h])).length c5)).heap[m'.b]? =_;rw [a8,Nat.zero_add,cV Hk 33,yJ]
 clear_value B9;have kT:Kept (fun k=>bg m'.cA=some k\/k=m'.b) FE B9:=
  (((Yv.mono (S':=fun k=>bg m'.cA=some k\/k=m'.b) (fun _ _ h=>h.elim)).trans Eh (fun _ _ h=>.inl h)).trans Yu (fun _ _ h=>h.elim)).trans RN (fun _ _ h=>.inr h)
 have G9:bQ B9 FE.heap.size A5 (de (iB D h (l.take i) nd.id++ [h])).length c5 (de (iB D h (l.take i) nd.id++ [h])):=
  Row.base (Row.aC F6 RN (fun k hk e=>by
   subst e;obtain⟨_,cur,hc⟩:=Row.bC F6 hk;exact js Hk hc (by decide) rfl)) (fun k hk=>by have:=(Row.bC F6 hk).1;omega)
 have G69:=G58.upd W hq lZ kT Ts G9;have EG:∀k,bg A5=some k->FE.heap.size<=k:=fun k hk=>(Row.bC G9 hk).1;have Qw:∀k,(bg m'.cA=some k\/k=m'.b)->S' k:=fun k e=>by
  rcases e with e|rfl
  ·exact N58.Pw k e
  ·exact N58.fM
 have hkf:(fun x=>if x=nd.id then de (iB D h (l.take i) nd.id++ [h])else iB D h (l.take i) x)=iB D h (l.take (i+1)):=by
  funext x
  by_cases hx:x=nd.id
  ·rw [if_pos hx,CY,hx,eQ]
   unfold iB;rw [if_pos ((bG hp).2 (.inr rfl))]
  ·rw [if_neg hx]
   unfold iB;have:x∈l.take (i+1)↔x∈l.take i:=by
    rw [bG hp];exact⟨fun e=>e.resolve_right (fun e=>hx (by rw [eQ];exact e)),.inl⟩
   by_cases hm:x∈l.take i
   ·rw [if_pos hm,if_pos (this.2 hm)]
   ·rw [if_neg hm,if_neg (fun e=>hm (this.1 e))]
 rw [hkf]at G69;rw [dq (n:=(i:Int)) (by omega) (by omega)];have ad0:nb<FE.heap.size:=aQ Tm;have ko:Kept S w0 B9:=by
  have k1:=L.kp.trans Gx (fun _ _ h=>h.elim);have k2:=k1.trans Gv (fun k hk e=>absurd (Zh k e).1 (by omega));have k3:=k2.trans Ei (fun k hk e=>absurd (Row.bC sn e).1 (by omega));have k4:=k3.trans Gu (fun k hk e=>by omega);exact k4.trans kT (fun k hk e=>by
   rcases L.new k (Qw k e)with h|h
   ·exact h
   ·omega)
 refine hQ _ _ A3 n3 c3 l3 B9 ⟨G69,fun k hk=>.inl (L.sub k hk),fun k hk=>?_,kT.heap Tm (fun e=>L.X4 (Qw _ e)),fun e=>?_,Row.aC Q6 kT (fun k hk e=>?_),ZJ,by omega,fun k hk e=>?_,fun j=>?_,
  kT.heap TR (fun e=>L.noG (Qw _ e)),kT.heap OK (fun e=>L.noI (Qw _ e)),fun e=>?_,fun e=>?_,?_,ko⟩
 ·rcases hk with hk|hk
  ·exact L.new k hk
  ·have:=EG k hk
   have:=L.kp.size;exact .inr (by omega)
 ·rcases e with e|e
  ·exact L.X4 e
  ·have:=EG _ e;omega
 ·have hs:=Qw k e
  rcases O4 k hk with h|h
  ·exact Bn k h hs
  ·have:=L.G.low k (.inl hs);omega
 ·have hk3:k<pV.heap.size:=by
   obtain⟨_,cur,hc⟩:=Row.bC vX hk;exact aQ hc
  rcases e with e|e
  ·rcases O4 k hk with h|h
   ·exact Bn k h e
   ·have:=L.G.low k (.inl e);omega
  ·have:=EG _ e;omega
 ·rw [O1,Bool.or_eq_true,O2,Bool.or_eq_true,L.bits,QG.bits,decide_eq_true_iff]
  constructor
  ·rintro((⟨p',h1,h2⟩|⟨nj,h1,h2⟩)|rfl)
   ·exact⟨p',(bG hp).2 (.inl h1),h2⟩
   ·exact⟨p,(bG hp).2 (.inr rfl),nj,h1,.inr (eQ▸h2)⟩
   ·exact⟨p,(bG hp).2 (.inr rfl),nd,hq,.inl eQ⟩
  ·rintro⟨p',h1,nj,h2,h3⟩
   rcases(bG hp).1 h1 with h1|rfl
   ·exact .inl (.inl ⟨p',h1,nj,h2,h3⟩)
   ·rcases h3 with h3|h3
    ·exact .inr (W.inj h2 hq (h3.trans eQ.symm))
    ·exact .inl (.inr ⟨nj,h2,eQ▸h3⟩)
 ·rcases e with e|e
  ·exact L.noG e
  ·have:=EG _ e;have:=aQ TR;omega
 ·rcases e with e|e
  ·exact L.noI e
  ·have:=EG _ e;have:=aQ OK;omega
 ·have hb:∀a,pA=some a->F1 a.block/\a.block<nb:=fun a ha=>⟨ID a ha,Fu _ (ID a ha)⟩
  have k1:=L.hl.same Gx;have k2:=k1.aC Gv (fun a ha=>hnF _ (hb a ha).1);have k3:=k2.aC Ei (fun a ha=>Hh _ (hb a ha).1);have k4:=k3.aC Gu (fun a ha e=>by have:=(hb a ha).2;omega);exact k4.aC kT (fun a ha e=>L.G.Fw _ (Qw _ e) (hb a ha).1)
end
theorem QY:xY prog kP eV 1 8:=⟨by kernel_rfl,by kernel_rfl⟩
theorem H4:QD prog dK=some ([(0,32),(32,1),(33,1),(34,1)],List.replicate 32 (.int .u8 0)++ [.slice none 0 0,.slice none 0 0,.slice none 0 0]):=by kernel_rfl
theorem HZ(h:HT)(b:Nat)(A:Option Addr)(n c:Nat):prog.built dK [(0,.agg h.1),(1,.slice A n c)]=some (fE h ⟨b,A,n,c,none,0,0,none,0,0,[]⟩):=by
 have hs:=h.2.1;rw [mU H4,iA (off:=0) (size:=32) rfl (by simpa [Value.cells]using hs) (by simp),iA (off:=32) (size:=1) rfl rfl (by
  rw [List.size_toArray,lD (by simp [Value.cells,hs])];simp)]
 simp only [Instr.fill,Option.some.injEq];apply Array.ext';unfold gq fE;simp [Value.cells,hs];rw [List.drop_append];simp [hs]
theorem EU(h:HT)(b:Nat):prog.built dK [(0,.agg h.1)]=some (fE h ⟨b,none,0,0,none,0,0,none,0,0,[]⟩):=by
 have hs:=h.2.1;rw [mU H4,iA (off:=0) (size:=32) rfl (by simpa [Value.cells]using hs) (by simp)];simp only [Instr.fill,Option.some.injEq];apply Array.ext';unfold gq fE;simp [Value.cells,hs]
section
variable{D:DG}{h:HT}{l:List HT}
theorem BN(W:jv D)(hn:h∉ids D){x:HT}:iB D h l x=fY (D++ [⟨h,l⟩]) x:=by
 have gB:∀a,a∈fY (D++ [⟨h,l⟩]) x↔(a∈fY D x\/(a=h/\x∈l)):=fun a=>by
  unfold fY;rw [iw,iw,mJ,kr,List.mem_append,List.mem_singleton];constructor
  ·rintro⟨h1,h2|⟨h2,h3⟩⟩
   ·exact .inl ⟨(eB.mem W (.one h2)).2,h2⟩
   ·exact .inr ⟨h2.symm,h3⟩
  ·rintro(⟨h1,h2⟩|⟨rfl,h2⟩)
   ·exact⟨.inl h1,.inl h2⟩
   ·exact⟨.inr rfl,.inr ⟨rfl,h2⟩⟩
 unfold iB;by_cases tn:x∈l
 ·rw [if_pos tn]
  refine(wT (l:=fY (D++ [⟨h,l⟩]) x) (gN _) fun a=>?_).symm;rw [gB,List.mem_append,List.mem_singleton];exact⟨fun e=>e.imp (fun e=>e) (fun e=>e.1),fun e=>e.imp (fun e=>e) (fun e=>⟨e,tn⟩)⟩
 ·rw [if_neg tn]
  refine xL (gN _) (gN _) fun a=>?_;have:=gB a;unfold fY pick at this⊢;rw [this];exact⟨.inl,fun e=>e.resolve_right (fun e=>tn e.2)⟩
theorem ET(W:jv D)(hn:h∉ids D)(fF:∀p∈l,p∈ids D):fY (D++ [⟨h,l⟩]) h= []:=by
 cases hc:fY (D++ [⟨h,l⟩]) h with
 |nil=>rfl
 |cons b t=>
  exfalso;have:b∈fY (D++ [⟨h,l⟩]) h:=by rw [hc];simp
  rcases mJ.1 (iw.1 this).2 with h1|⟨_,h2⟩
  ·exact hn (eB.mem W (.one h1)).1
  ·exact hn (fF h h2)
theorem H5(W:jv D)(hn:h∉ids D){x:HT}(hx:x∈ids D)(j:Nat):(∃nj,(D++ [⟨h,l⟩])[j]? =some nj/\eB (D++ [⟨h,l⟩]) nj.id x)↔∃nj,D[j]? =some nj/\eB D nj.id x:=by
 constructor
 ·rintro⟨nj,h1,h2⟩
  have uD:=(iN W (nd:=⟨h,l⟩) hn hx).1 h2;rw [List.getElem?_append]at h1;split at h1
  ·exact⟨nj,h1,uD⟩
  ·exfalso
   have:nj=⟨h,l⟩:=by
    cases hk:j-D.length with
    |zero=>rw [hk]at h1;simpa using h1.symm
    |succ k=>rw [hk]at h1;simp at h1
   subst this;exact hn (uD.mem W).1
 ·rintro⟨nj,h1,h2⟩
  exact⟨nj,by rw [List.getElem?_append_left (lgeS h1).1];exact h1,(iN W (nd:=⟨h,l⟩) hn hx).2 h2⟩
theorem H6(W:jv D)(hn:h∉ids D)(fF:∀p∈l,p∈ids D)(hs:SS l)(j:Nat):
 (∃nj,(D++ [⟨h,l⟩])[j]? =some nj/\eB (D++ [⟨h,l⟩]) nj.id h)↔∃p∈l,∃nj,D[j]? =some nj/\(nj.id=p\/eB D nj.id p):=by
 have W':jv (D++ [⟨h,l⟩]):=W.snoc (nd:=⟨h,l⟩) hn fF hs;have fX:(D++ [⟨h,l⟩])[D.length]? =some ⟨h,l⟩:=by rw [List.getElem?_append_right (Nat.le_refl _),Nat.sub_self];rfl
 have key:∀a,eB (D++ [⟨h,l⟩]) a h↔∃p∈l,a=p\/eB D a p:=fun a=>by
  rw [tz W' fX a];constructor
  ·rintro⟨p,hp,e⟩
   exact⟨p,hp,e.imp (fun e=>e) (fun e=>(iN W (nd:=⟨h,l⟩) hn (fF p hp)).1 e)⟩
  ·rintro⟨p,hp,e⟩
   exact⟨p,hp,e.imp (fun e=>e) (fun e=>(iN W (nd:=⟨h,l⟩) hn (fF p hp)).2 e)⟩
 constructor
 ·rintro⟨nj,h1,h2⟩
  obtain⟨p,hp,e⟩:=(key _).1 h2;have hid:nj.id∈ids D:=by
   rcases e with e|e
   ·rw [e];exact fF p hp
   ·exact(e.mem W).1
  rw [List.getElem?_append]at h1;split at h1
  ·exact⟨p,hp,nj,h1,e⟩
  ·exfalso
   have:nj=⟨h,l⟩:=by
    cases hk:j-D.length with
    |zero=>rw [hk]at h1;simpa using h1.symm
    |succ k=>rw [hk]at h1;simp at h1
   subst this;exact hn hid
 ·rintro⟨p,hp,nj,h1,e⟩
  exact⟨nj,by rw [List.getElem?_append_left (lgeS h1).1];exact h1,(key _).2 ⟨p,hp,e⟩⟩
end
section
variable{w w':World}{S F F':Nat->Prop}{g bl c mb:Nat}{D:DG}{C:HT->List HT}{M:List NM}{K:Value->World->Prop}
theorem GV.Rl(G:GV w S F g D C bl c mb M)(hf:∀k,F k->F' k)(hd:∀k,S k->¬F' k)(hl:∀k,F' k->k<w.heap.size):GV w S F' g D C bl c mb M:=
 ⟨G.top,G.row,G.map,G.len,fun i nd m h1 h2=>by
   have N:=G.node i nd m h1 h2;exact⟨N.bC,N.fM,N.ps,fun a ha=>hf _ (N.I9 a ha),N.ch,N.Pw,N.past,fun a ha=>hf _ (N.oH a ha),N.ok,N.bits,N.small⟩,G.apart,G.gQ,G.sI,G.uJ,hd,fun k hk=>hk.elim (fun h=>G.low k (.inl h)) (hl k)⟩
theorem KS{w0:World}{F1 S':Nat->Prop}{h:HT}{l:List HT}{gb ib nb:Nat}{pA:Option Addr}{pc i:Nat}{rA:Option Addr}{rn rc:Nat}{ws:List Nat}
 (L:AL w0 w S F1 S' g D h l gb ib nb pA pc i bl c mb M rA rn rc ws) (W:jv D) (hD:D.length<=5000) (tp:SS l) (fF:∀p∈l,p∈ids D) (hn:h∉ids D) (Fu:∀k,F1 k->k<nb) (ID:∀a,pA=some a->F1 a.block) (h0:w0.heap.size<=nb) (dQ:l.length<=i)
 (hK:∀v S2 F2,BY v S2 F2 g (D++ [⟨h,l⟩])->Kept S w0 v->(∀k,S2 k->S k\/w0.heap.size<=k)->(∀k,F2 k->F1 k\/w0.heap.size<=k)->K (.int .i64 0) v):
 bt.Fb ⟨gb,0,none⟩ ⟨ib,0,none⟩ 0 ⟨nb,0,none⟩ pA l.length pc (l.length:Int) (i:Int) K w:=by
 have Sm:l.take i=l:=List.take_of_length_le dQ;have hG:=L.G;rw [Sm]at hG;have Mb:=L.bits;rw [Sm]at Mb;unfold bt.Fb;intro PS;have Lc:Kept Nil w PS:=(Kept.refl _ _).drew;clear_value PS;have tA:=hG.same Lc;have Kj:=Lc.heap L.WX (fun h=>h);have Hi:=Lc.heap L.node (fun h=>h);have Ci:jU PS nb rA rn rc ws:=Row.aC L.row Lc (fun _ _ h=>h);refine⟨some ⟨g,0,none⟩,by rw [ay Kj];rfl,some mb,tA.at_,h.1,⟨h.2.1,Cells.bC (Lc.heap L.ibx (fun h=>h))⟩,some ⟨g,0,none⟩,by rw [ay Kj];rfl,?_⟩;refine⟨_,_,_,tA.nodes,?_⟩;obtain⟨w85,SA,Rq,k85⟩:=tA.map.put hn;rw [fN]at SA;refine⟨w85,SA,?_⟩;intro IW;have Ni:Kept (· =mb) PS IW:=k85.drew;have K6:IsMap IW mb (ids D++ [h]):=Rq.aC ((Kept.refl Nil w85).drew) (fun h=>h);clear_value IW;have IZ:∀ {v:World} {k:Nat} {cs:Array Value} {t:TypeId},IsMap v mb (ids D)->v.heap[k]? =some (.cells cs t (0,0))->k≠mb:=fun hm hk e=>by
  obtain⟨es,clock,JZ,_⟩:=hm.ex;rw [e,JZ]at hk;cases hk
 have ON:=Ni.heap Kj (IZ tA.map Kj);have ahV:=Ni.heap Hi (IZ tA.map Hi);have GX:=Ni.heap tA.top (IZ tA.map tA.top);have Q4:Row IW 0 eV 1 (some ⟨bl,0,none⟩) D.length c (M.map fun m=>.pointer (some ⟨m.b,0,none⟩)):=Row.aC tA.row Ni (fun k hk e=>by
  obtain⟨_,cur,hc⟩:=Row.bC tA.row hk;exact IZ tA.map hc e)
 have XP:jU IW nb rA rn rc ws:=Row.aC Ci Ni (fun k hk e=>by
  obtain⟨_,cur,hc⟩:=Row.bC Ci hk;exact IZ tA.map hc e)
 refine⟨some ⟨g,0,none⟩,by rw [ay ON];rfl,some ⟨g,0,none⟩,by rw [ay ON];rfl,?_⟩;refine⟨some ⟨bl,0,none⟩,D.length,c,by rw [add_zero,ay GX];rfl,?_⟩;intro MB;have P5:Kept Nil IW MB:=(Kept.refl _ _).alloc _;have aaZ:MB.heap[IW.heap.size]? =some (.cells #[.pointer (some ⟨nb,0,none⟩)] eV (0,0)):=aJ IW _;clear_value MB;have Ki:=P5.heap ON (fun h=>h);have Ba:=P5.heap GX (fun h=>h);refine⟨by rw [add_zero,ay Ba];rfl,by rw [ay Ki];rfl,by rw [ay Ki];rfl,?_⟩;have F0:Row MB 0 eV 1 (some ⟨bl,0,none⟩) D.length c (M.map fun m=>.pointer (some ⟨m.b,0,none⟩)):=Row.aC Q4 P5 (fun _ _ h=>h);obtain⟨Xk,QC,MA,Zk,FZ,TQ,aaY⟩:=fi (P:=prog) (t:=kP) (ty:=kP) (bytes:=8) QY F0 (a:=⟨IW.heap.size,0,none⟩) (m:=1) (cx:=1) (news:= [.pointer (some ⟨nb,0,none⟩)]) rfl
  (fun j u hj=>by rw [a8,Nat.zero_add,ay aaZ];simpa using hj) (fun u hu=>by simp at hu;subst hu;rfl) (by omega) (by unfold maxLen;omega) (Nat.zero_le _)
 have Wg:Kept (· =bl) MB MA:=Kept.grown (S:=fun k=>k=bl) (Kept.refl _ _) TQ (fun k hk _=>by cases hk;rfl);refine⟨Xk,_,QC,MA,Zk,?_⟩;have tyL:∀ {k:Nat} {cs:Array Value} {t:TypeId},MB.heap[k]? =some (.cells cs t (0,0))->t≠eV->k≠bl:=fun hk fC=>by
  obtain⟨_,cur,hc⟩:=Row.bC F0 (k:=bl) rfl;exact js hk hc fC
 have aam:=Wg.heap Ki (tyL Ki (by decide));have xl:=Wg.heap Ba (tyL Ba (by decide));refine⟨by rw [ay aam];rfl,by rw [add_zero];exact dL xl (by simp),?_⟩;intro Iq;have Yr:Kept (· =g) MA Iq:=by
  show Kept (· =g) MA (MA.setCell ((⟨g,0,none⟩:Addr).add 0) (.slice Xk (D.length+1) QC))
  exact Kept.setCell (S:=fun k=>k=g) (Kept.refl _ MA) (by rw [eJ];exact fun _=>rfl) _
 have NY:Iq.heap[g]? =some (.cells #[.slice Xk (D.length+1) QC,.map (some mb)] gH (0,0)):=by
  show(MA.setCell ((⟨g,0,none⟩:Addr).add 0) (.slice Xk (D.length+1) QC)).heap[g]? =_;rw [add_zero,cV xl 0];rfl
 clear_value Iq;obtain⟨QE,rfl⟩:=Row.some FZ (by omega);have ahm:=Ni.size;have ahl:=P5.size;have ko:Kept (fun k=>k=g\/k=bl\/k=mb) PS Iq:=
  (((Ni.mono (S':=fun k=>k=g\/k=bl\/k=mb) (fun _ _ h=>.inr (.inr h))).trans P5 (fun _ _ h=>h.elim)).trans Wg (fun _ _ h=>.inr (.inl h))).trans Yr (fun _ _ h=>.inl h)
 have hTF:∀k,F1 k->¬(k=g\/k=bl\/k=mb):=fun k hk e=>by
  rcases e with rfl|rfl|rfl
  ·exact tA.Fw _ tA.gQ hk
  ·exact tA.Fw _ tA.sI hk
  ·exact tA.Fw _ tA.uJ hk
 have ty:∀ {k:Nat} {cs:Array Value} {t:TypeId},PS.heap[k]? =some (.cells cs t (0,0))->t≠gH->t≠eV->¬(k=g\/k=bl\/k=mb):=fun hk h1 h2 e=>by
  rcases e with e|e|e
  ·rw [e]at hk
   exact js hk tA.top h1 rfl
  ·rw [e]at hk
   obtain⟨_,cur,hc⟩:=Row.bC tA.row (k:=bl) rfl;exact js hk hc h2 rfl
  ·exact IZ tA.map hk e
 have Be:Row Iq 0 eV 1 (some ⟨QE,0,none⟩) (D.length+1) QC ((M.map fun m=>.pointer (some ⟨m.b,0,none⟩))++ [.pointer (some ⟨nb,0,none⟩)]):=Row.aC FZ Yr (fun k hk e=>by
  obtain⟨_,cur,hc⟩:=Row.bC FZ hk;exact js hc xl (by decide) e)
 have Rp:IsMap Iq mb (ids D++ [h]):=by
  obtain⟨es,clock,JZ,_⟩:=K6.ex;have h1:=K6.aC P5 (fun h=>h);have h2:=h1.aC Wg (fun e=>by
   obtain⟨_,cur,hc⟩:=Row.bC F0 (k:=bl) rfl;obtain⟨_,_,lZ,_⟩:=h1.ex;rw [e,hc]at lZ;cases lZ)
  exact h2.aC Yr (fun e=>by
   obtain⟨_,_,lZ,_⟩:=h2.ex;rw [e,xl]at lZ;cases lZ)
 have Oo:=ko.heap Hi (ty Hi (by decide) (by decide));have wW:jU Iq nb rA rn rc ws:=Row.aC Ci ko (fun k hk e=>by
  obtain⟨_,cur,hc⟩:=Row.bC Ci hk;exact ty hc (by decide) (by decide) e)
 have Hl:(D++ [(⟨h,l⟩:DN)]).length=D.length+1:=by simp
 have UB:QE=bl\/MB.heap.size<=QE:=by
  rcases aaY QE rfl with e|e
  ·exact .inl (by cases e;rfl)
  ·exact .inr e
 have kY:=L.kp.size;have ahn:=Lc.size;have ZO:=aQ Hi;have Sz:∀k,bg rA=some k->nb<=k/\k<Iq.heap.size:=fun k hk=>by
  obtain⟨h1,cur,hc⟩:=Row.bC wW hk;exact⟨h1,aQ hc⟩
 have fX:∀ {X:Type} (xs:List X) (y:X) (j:Nat) (z:X),(xs++ [y])[j]? =some z->(j<xs.length/\xs[j]? =some z)\/(j=xs.length/\z=y):=fun xs y j z e=>by
  rw [List.getElem?_append]at e;split at e
  ·rename_i cH;exact .inl ⟨cH,e⟩
  ·rename_i fV
   cases hk:j-xs.length with
   |zero=>rw [hk]at e;exact .inr ⟨by omega,by simpa using e.symm⟩
   |succ k=>rw [hk]at e;simp at e
 refine hK Iq (fun k=>S' k\/k=nb\/k=QE) (fun k=>F1 k\/bg rA=some k) ⟨QE,QC,mb,M++ [⟨nb,pA,l.length,pc,none,0,0,rA,rn,rc,ws⟩],?_⟩ ?_ ?_ ?_
 ·refine⟨by rw [Hl];exact NY,?_,by rw [kr];exact Rp,by simp [hG.len],fun j nd m h1 h2=>?_,fun j j' m m' h1 h2 fC k hk mw=>?_,.inl hG.gQ,.inr (.inr rfl),.inl hG.uJ,fun k hk hf=>?_,fun k hk=>?_⟩
  ·rw [Hl,List.map_append]
   exact Be
  ·rcases fX _ _ _ _ h1 with⟨hj,sH⟩|⟨hj,rfl⟩
   ·rcases fX _ _ _ _ h2 with⟨_,uD⟩|⟨uy,_⟩
    ·have N:=tA.node j nd m sH uD
     have hid:nd.id∈ids D:=dt.2 ⟨nd,List.mem_of_getElem? sH,rfl⟩;have hF:∀k,F1 k->¬(k=g\/k=bl\/k=mb):=hTF;rw [<-BN W hn];refine⟨ko.heap N.bC (ty N.bC (by decide) (by decide)),.inl N.fM,N.ps.aC ko (fun a ha=>hF _ (N.I9 a ha)),fun a ha=>.inl (N.I9 a ha),Row.aC N.ch ko (fun k hk e=>?_),fun k hk=>.inl (N.Pw k hk),N.past.aC ko (fun a ha=>hF _ (N.oH a ha)),fun a ha=>.inl (N.oH a ha),N.ok,fun j=>?_,N.small⟩
     ·obtain⟨cur,hc⟩:=(Row.bC N.ch hk).2
      exact ty hc (by decide) (by decide) e
     ·rw [N.bits,H5 W hn hid]
    ·rw [hG.len]at uy;omega
   ·rcases fX _ _ _ _ h2 with⟨uy,_⟩|⟨_,rfl⟩
    ·rw [hG.len]at uy;omega
    ·rw [ET W hn fF]
     refine⟨Oo,.inr (.inl rfl),(L.hl.same Lc).aC ko (fun a ha=>hTF _ (ID a ha)),fun a ha=>.inl (ID a ha),bQ.nil _ _,(fun k hk=>by cases hk),wW.us,fun a ha=>.inr (congrArg bg ha),L.ok,fun j=>?_,L.small⟩;rw [Mb,H6 W hn fF tp]
  ·rcases fX _ _ _ _ h1 with⟨_,sH⟩|⟨_,rfl⟩
   ·rcases fX _ _ _ _ h2 with⟨_,uD⟩|⟨_,rfl⟩
    ·exact hG.apart j j' m m' sH uD fC k hk mw
    ·cases mw
   ·cases hk
  ·rcases hk with hk|rfl|rfl
   ·rcases hf with hf|hf
    ·exact hG.Fw k hk hf
    ·exact L.XZ k hf hk
   ·rcases hf with hf|hf
    ·have:=Fu k hf;omega
    ·obtain⟨_,cur,hc⟩:=Row.bC wW hf
     exact js Oo hc (by decide) rfl
   ·rcases hf with hf|hf
    ·rcases UB with e|e
     ·rw [e]at hf;exact hG.Fw _ hG.sI hf
     ·have:=Fu _ hf;omega
    ·obtain⟨_,cur,hc⟩:=Row.bC wW hf
     obtain⟨_,Vw,sW⟩:=Row.bC Be (k:=k) rfl;exact js sW hc (by decide) rfl
  ·have ahk:=ko.size
   rcases hk with(hk|rfl|rfl)|hk|hk
   ·have:=tA.low k (.inl hk);omega
   ·exact aQ Oo
   ·obtain⟨_,Vw,sW⟩:=Row.bC Be (k:=k) rfl
    exact aQ sW
   ·have:=tA.low k (.inr hk);omega
   ·exact(Sz k hk).2
 ·exact(L.kp.trans Lc (fun _ _ h=>h.elim)).trans ko (fun k hk e=>by
   have hs:S' k:=by
    rcases e with rfl|rfl|rfl
    ·exact hG.gQ
    ·exact hG.sI
    ·exact hG.uJ
   rcases L.new k hs with h|h
   ·exact h
   ·omega)
 ·intro k hk
  rcases hk with hk|rfl|rfl
  ·exact L.new k hk
  ·exact .inr h0
  ·rcases UB with e|e
   ·rw [e];exact L.new _ hG.sI
   ·exact .inr (by omega)
 ·intro k hk
  rcases hk with hk|hk
  ·exact .inl hk
  ·exact .inr (by have:=(Sz k hk).1;omega)
theorem KG(G:GV w S F g D (fY D) bl c mb M)(W:jv D)(hD:D.length<=5000){A:Option Addr}{n cx:Nat}{lp:List HT}(hl:HS w A n lp)(hn:n<=10000)(h:HT)
 (hK:∀v S2 F2,BY v S2 F2 g (l9 D h lp)->Kept S w v->(∀k,S2 k->S k\/w.heap.size<=k)->(∀k,F2 k->F k\/w.heap.size<=k)->K (.int .i64 (dr D h lp)) v):
 bk prog bt.id #[.pointer (some ⟨g,0,none⟩),.agg h.1,.slice A n cx] w K:=by
 have hlen:=hl.len;have mP:∀v,Kept Nil w v->∀e,dr D h lp=e->e≠0->K (.int .i64 e) v:=fun v k e he fC=>by
  have:=hK v S F ?_ (k.mono fun _ _ h=>h.elim) (fun _ h=>.inl h) (fun _ h=>.inl h)
  ·rw [he]at this;exact this
  ·unfold l9
   rw [if_neg (by rw [he];exact fC)];exact⟨bl,c,mb,M,G.same k⟩
 refine bt.of ?_;unfold bt.W;intro w4 w5;have k4:Kept Nil w w4:=(Kept.refl _ _).alloc _;have C1:w4.heap[w.heap.size]? =some (.cells #[.pointer (some ⟨g,0,none⟩)] kh (0,0)):=aJ w _;have k5:Kept Nil w4 w5:=(Kept.refl _ _).alloc _;have Kf:w5.heap[w4.heap.size]? =some (.cells h.1 aj (0,0)):=aJ w4 _;have TS:=k5.heap C1 (fun h=>h);clear_value w5;have K8:Kept Nil w w5:=k4.tt k5;have OL:w.heap.size<w4.heap.size:=aQ C1;have aim:w4.heap.size<w5.heap.size:=aQ Kf;clear_value w4;refine gK (hl.same K8) (by omega) fun FB Vy w7 I5 k7=>⟨FB,_,Vy,rfl,?_⟩;have AP:Kept Nil w w7:=K8.tt k7;have hg7:=k7.heap TS (fun h=>h);have hi7:=k7.heap Kf (fun h=>h);have G7:=G.same AP;have z6:(de lp).length<=n:=by have:=me lp;omega
 refine⟨some ⟨g,0,none⟩,by rw [ay hg7];rfl,wH G7 ⟨true,rfl,Split.no rfl ?_⟩⟩;refine⟨some ⟨g,0,none⟩,by rw [ay hg7];rfl,h.1,⟨h.2.1,Cells.bC hi7⟩,tw G7 h fun iZ lj=>⟨_,rfl,?_⟩⟩;have Gr:=AP.tt lj;by_cases hm:h∈ids D
 ·refine Split.yes (decide_eq_true hm) (mP iZ Gr 7 ?_ (by omega))
  unfold dr;rw [if_pos hm]
 refine Split.no (decide_eq_false hm) ?_;by_cases h0:(de lp).length=0
 ·refine Split.yes (by simp [h0]) (mP iZ Gr 9 ?_ (by omega))
  unfold dr;rw [if_neg hm,if_pos (.inl h0)]
 refine Split.no (beq_eq_false_iff_ne.2 (by omega)) ?_;by_cases h1:(de lp).length≠n
 ·refine Split.yes (bne_iff_ne.2 (by omega)) (mP iZ Gr 9 ?_ (by omega))
  unfold dr;rw [if_neg hm,if_pos (.inr (by omega))]
 replace h1:(de lp).length=n:=by omega
 refine Split.no (by rw [h1];simp) ?_;have TW:=lj.heap hg7 (fun h=>h);have K2:=Row.aC I5 lj (fun _ _ h=>h);refine zD (G.same Gr) TW (bQ.hs K2) (by omega) fun oa x hx wx=>⟨x,rfl,?_⟩;have Gq:=Gr.tt wx;cases x with
 |true=>
  refine Split.yes rfl (mP oa Gq 6 ?_ (by omega));unfold dr;rw [if_neg hm,if_neg (by omega),if_pos (hx.1 rfl)]
 |false=>
  have fF:∀p∈de lp,p∈ids D:=fun p hp=>Classical.byContradiction fun ZM=>by have:=hx.2 ⟨p,hp,ZM⟩;cases this
  have Um:dr D h lp=0:=by
   unfold dr;rw [if_neg hm,if_neg (by omega),if_neg (fun⟨p,hp,JU⟩=>JU (fF p hp))]
  have hD':l9 D h lp=D++ [⟨h,de lp⟩]:=by unfold l9;rw [if_pos Um]
  rw [Um,hD']at hK;refine Split.no rfl ?_;have TP:=wx.heap (lj.heap hi7 (fun h=>h)) (fun h=>h);have OQ:=wx.heap TW (fun h=>h);have vY:bQ oa w5.heap.size FB (de lp).length Vy (de lp):=Row.aC K2 wx (fun _ _ h=>h);refine⟨h.1,⟨h.2.1,Cells.bC TP⟩,?_⟩;rw [HZ h oa.heap.size];refine Is.mk rfl ?_;intro Ir;have Nq:Kept Nil oa Ir:=(Kept.refl _ _).alloc _;have ZP:Ir.heap[oa.heap.size]? =some (.cells (fE h ⟨oa.heap.size,FB,(de lp).length,Vy,none,0,0,none,0,0,[]⟩) dK (0,0)):=aJ oa _;clear_value Ir;have Rw:=Gq.tt Nq;have Pp:∀k,bg FB=some k->w5.heap.size<=k/\k<oa.heap.size:=fun k hk=>by
   obtain⟨e1,cur,hc⟩:=Row.bC vY hk;exact⟨e1,aQ hc⟩
  have hs5:=K8.size;have ahy:=Gq.size;have Fu:∀k,(F k\/bg FB=some k)->k<oa.heap.size:=fun k hk=>by
   rcases hk with hk|hk
   ·have:=G.low k (.inr hk);omega
   ·exact(Pp k hk).2
  have Kv:∀k,S k->k<w.heap.size:=fun k hk=>G.low k (.inl hk);have G23:GV Ir S (fun k=>F k\/bg FB=some k) g D (fY D) bl c mb M:=(G.same Rw).Rl (fun _ h=>.inl h) (fun k hs e=>by
   rcases e with e|e
   ·exact G.Fw k hs e
   ·have:=Kv k hs;have:=(Pp k e).1;omega) (fun k hk=>by have:=Fu k hk;have:=Nq.size;omega)
  have CY:iB D h ((de lp).take 0)=fY D:=by
   funext y
   unfold iB;rw [if_neg (by simp)]
  have L0:AL w Ir S (fun k=>F k\/bg FB=some k) S g D h (de lp) w.heap.size w4.heap.size oa.heap.size FB Vy 0 bl c mb M none 0 0 []:=
   ⟨by rw [CY];exact G23,fun _ h=>h,fun _ h=>.inl h,ZP,fun e=>by have:=Kv _ e;omega,Row.nil _ _ _ _,by simp [okW],by omega,(fun k hk=>by cases hk),fun j=>by simp [xE],Nq.heap OQ (fun h=>h),Nq.heap TP (fun h=>h),
     fun e=>by have:=Kv _ e;omega,fun e=>by have:=Kv _ e;omega,(vY.hs).same Nq,Rw.mono fun _ _ h=>h.elim⟩
  refine bt.cf (I:=fun s v=>∃(i:Nat) (S2:Nat->Prop) (M2:List NM) (rA:Option Addr) (rn rc:Nat) (ws:List Nat),s=(i:Int)/\i<=(de lp).length/\AL w v S (fun k=>F k\/bg FB=some k) S2 g D h (de lp) w.heap.size w4.heap.size oa.heap.size FB Vy i bl c mb M2 rA rn rc ws)
   (μ:=fun s _=>(((de lp).length:Int)-s).toNat) (s:=0) ⟨0,S,M,none,0,0,[],rfl,Nat.zero_le _,L0⟩ ?_
  rintro s v ⟨i,S2,M2,rA,rn,rc,ws,rfl,hi,L⟩;have ID:∀a,FB=some a->F a.block\/bg FB=some a.block:=fun a ha=>.inr (by rw [ha];rfl);by_cases dQ:i<(de lp).length
  ·refine E8 L W (by omega) (gN _) fF Fu ID (by omega) dQ (by omega) fun S3 M3 rA3 rn3 rc3 ws3 v3 L3=>?_
   exact⟨(i:Int)+1,rfl,⟨i+1,S3,M3,rA3,rn3,rc3,ws3,rfl,dQ,L3⟩,by simp only;omega⟩
  ·refine Split.no (decide_eq_false (by omega)) ?_
   rw [aP,bt.My];refine KS L W hD (gN _) fF hm Fu ID (by omega) (by omega) fun v2 S4 F4 hI TF hS4 hF4=>hK v2 S4 F4 hI TF hS4 (fun k hk=>?_);rcases hF4 k hk with(e|e)|e
   ·exact .inl e
   ·exact .inr (by have:=(Pp k e).1;omega)
   ·exact .inr e
end
def oz(nb:Nat):NM:=⟨nb,none,0,0,none,0,0,none,0,0,[]⟩
structure NP(w v:World)(r:HT)(A B E:Option Nat)(l:List HT):Prop where
 kp:Kept Nil w v
 node:∀b,A=some b->w.heap.size<=b/\v.heap[b]? =some (.cells (fE r (oz b)) dK (0,0))
 list:∀b,B=some b->w.heap.size<=b/\∃nb,A=some nb/\v.heap[b]? =some (.cells #[.pointer (some ⟨nb,0,none⟩)] eV (0,0))
 map:∀b,E=some b->w.heap.size<=b/\IsMap v b l
section
variable{w v:World}{r:HT}{A B E:Option Nat}{l:List HT}{K:Value->World->Prop}
theorem NP.grow(h:NP w v r A B E l)(o:Obj):NP w (v.alloc o) r A B E l:=
 ⟨h.kp.alloc o,fun b e=>⟨(h.node b e).1,iU (h.node b e).2 o⟩,fun b e=>⟨(h.list b e).1,let ⟨nb,h1,h2⟩:=(h.list b e).2;⟨nb,h1,iU h2 o⟩⟩,fun b e=>⟨(h.map b e).1,(h.map b e).2.aC ((Kept.refl Nil v).alloc o) (fun h=>h)⟩⟩
theorem NP.addNode(h:NP w v r none none E l):NP w (v.alloc (.cells (fE r (oz v.heap.size)) dK)) r (some v.heap.size) none E l:=
 have g:=h.grow (.cells (fE r (oz v.heap.size)) dK)
 ⟨g.kp,fun b e=>by cases e;exact⟨h.kp.size,aJ v _⟩,fun b e=>(by cases e),g.map⟩
theorem NP.pE{nb:Nat}(h:NP w v r (some nb) none E l):NP w (v.alloc (.cells #[.pointer (some ⟨nb,0,none⟩)] eV)) r (some nb) (some v.heap.size) E l:=
 have g:=h.grow (.cells #[.pointer (some ⟨nb,0,none⟩)] eV)
 ⟨g.kp,g.node,fun b e=>by cases e;exact⟨h.kp.size,nb,rfl,aJ v _⟩,g.map⟩
theorem NP.BV(h:NP w v r A B none []):NP w (v.alloc (.map #[] 0)) r A B (some v.heap.size) []:=
 have g:=h.grow (.map #[] 0)
 ⟨g.kp,g.node,g.list,fun b e=>by cases e;exact⟨h.kp.size,⟨#[],0,aJ v _,trivial⟩⟩⟩
theorem NP.put{mb:Nat}(h:NP w v r A B (some mb) []):∃v',(Instr.mapUpdate ck (.map (some mb)) (.agg r.1) (.int .i64 0)).run prog v=.ok () v'/\NP w v' r A B (some mb) [r]:=by
 obtain⟨h1,h2⟩:=h.map mb rfl;obtain⟨v',hr,hm,hk⟩:=h2.put (h:=r) (by simp);have IZ:∀ {k:Nat} {cs:Array Value} {t:TypeId},v.heap[k]? =some (.cells cs t (0,0))->¬(k=mb):=fun hk e=>by
  obtain⟨es,clock,JZ,_⟩:=h2.ex;rw [e,JZ]at hk;cases hk
 refine⟨v',hr,h.kp.trans hk (fun k hk e=>by omega),fun b e=>⟨(h.node b e).1,hk.heap (h.node b e).2 (IZ (h.node b e).2)⟩,fun b e=>⟨(h.list b e).1,?_⟩,fun b e=>by cases e;exact⟨h1,hm⟩⟩;obtain⟨nb,e1,e2⟩:=(h.list b e).2;exact⟨nb,e1,hk.heap e2 (IZ e2)⟩
theorem rC(r:HT){a b:HT}:¬ma [(⟨r,[]⟩:DN)] a b:=fun⟨nd,h1,_,h2⟩=>by
 simp at h1;subst h1;simp at h2
theorem yz(r:HT){a b:HT}:¬eB [(⟨r,[]⟩:DN)] a b:=fun h=>by
 cases h with
 |one h=>exact rC r h
 |more _ h=>exact rC r h
theorem NP.fin{w0:World}{nb lb mb:Nat}(h:NP w v r (some nb) (some lb) (some mb) [r])(hw:w0.heap.size<=w.heap.size):
 BY (v.alloc (.cells #[.slice (some ⟨lb,0,none⟩) 1 1,.map (some mb)] gH)) (fun k=>w0.heap.size<=k/\k<(v.alloc (.cells #[.slice (some ⟨lb,0,none⟩) 1 1,.map (some mb)] gH)).heap.size) (fun _=>False) v.heap.size [⟨r,[]⟩]:=by
 have g:=h.grow (.cells #[.slice (some ⟨lb,0,none⟩) 1 1,.map (some mb)] gH);have iK:=aJ v (.cells #[.slice (some ⟨lb,0,none⟩) 1 1,.map (some mb)] gH);generalize v.alloc (.cells #[.slice (some ⟨lb,0,none⟩) 1 1,.map (some mb)] gH)=u at g iK;have hs:=h.kp.size;obtain⟨n1,n2⟩:=g.node nb rfl;obtain⟨l1,nb',e,l2⟩:=g.list lb rfl;cases e;obtain⟨m1,m2⟩:=g.map mb rfl;have oR:fY [⟨r,[]⟩] r= []:=by
  cases hc:fY [⟨r,[]⟩] r with
  |nil=>rfl
  |cons b t=>exact absurd (iw.1 (show b∈fY [⟨r,[]⟩] r by rw [hc];simp)).2 (rC r)
 refine⟨lb,1,mb,[oz nb],iK,Row.made (n:=1) (cur:= #[.pointer (some ⟨nb,0,none⟩)]) l2 (Nat.zero_le _) rfl (by decide),m2,rfl,fun i nd m hi hm=>?_,fun i j m m' h1 h2 fC k hk=>?_,⟨by omega,aQ iK⟩,⟨by omega,aQ l2⟩,⟨by omega,m2.lt⟩,fun _ _ h=>h,fun k hk=>hk.elim (fun h=>h.2) (fun h=>h.elim)⟩
 ·cases i with
  |zero=>
   simp at hi hm;subst hi;subst hm;refine⟨n2,⟨Nat.le_trans hw n1,aQ n2⟩,HS.nil _ _,(fun a ha=>by cases ha),?_,(fun k hk=>by cases hk),⟨rfl,fun i x hx=>by simp [oz]at hx⟩,(fun a ha=>by cases ha),by simp [okW,oz],fun j=>?_,by simp [oz]⟩
   ·show bQ u 0 none 0 0 (fY [⟨r,[]⟩] r)
    rw [oR];exact bQ.nil _ _
   ·show bit [] j=true↔_
    rw [xE];exact⟨(fun h=>by cases h),fun⟨nj,_,h⟩=>absurd h (yz r)⟩
  |succ i=>simp at hi
 ·have hm:m=oz nb:=by
   have:=List.mem_of_getElem? h1;simpa using this
  subst hm;cases hk
theorem fI(r:HT)(hK:∀v gb,BY v (fun k=>w.heap.size<=k/\k<v.heap.size) (fun _=>False) gb [⟨r,[]⟩]->Kept Nil w v->K (.pointer (some ⟨gb,0,none⟩)) v):
 bk prog mo.id #[.agg r.1] w K:=by
 refine mo.of ?_;unfold mo.W;intro w2 w3;have k2:Kept Nil w w2:=(Kept.refl _ _).alloc _;have kZ:w2.heap[w.heap.size]? =some (.cells r.1 aj (0,0)):=aJ w _;have k3:Kept Nil w w3:=k2.drew;have pB:w3.heap[w.heap.size]? =some (.cells r.1 aj (0,0)):=kZ;clear_value w3;have N3:NP w3 w3 r none none none []:=⟨Kept.refl _ _,(fun b e=>by cases e),(fun b e=>by cases e),(fun b e=>by cases e)⟩;have mi:∀ {v:World},Kept Nil w3 v->∃cs:Array Value,(.agg r.1:Value)=.agg cs/\cs.size=32/\Cells v (⟨w.heap.size,0,none⟩:Addr) cs:=fun k=>⟨r.1,rfl,r.2.1,Cells.bC (k.heap pB (fun h=>h))⟩;have uz:∀ {v:World} {nb lb mb:Nat},NP w3 v r (some nb) (some lb) (some mb) [r]->K (.pointer (some ⟨v.heap.size,0,none⟩)) (v.alloc (.cells #[.slice (some ⟨lb,0,none⟩) 1 1,.map (some mb)] gH)):=fun h=>hK _ _ (h.fin k3.size) ((k3.tt h.kp).alloc _);refine⟨r.1,⟨r.2.1,Cells.bC pB⟩,?_⟩;have Th:∀b,prog.built dK [(0,.agg r.1)]=some (fE r (oz b)):=fun b=>EU r b;rw [Th 0];refine Is.mk rfl ?_;refine⟨r.1,⟨r.2.1,Cells.bC pB⟩,?_⟩;refine⟨?_,?_⟩
 ·have N7:NP w3 (w3.alloc (.cells (fE r (oz w3.heap.size)) dK)) r (some w3.heap.size) none none []:=N3.addNode
  refine⟨mi N7.kp,?_,?_⟩
  ·have N8:=N7.pE
   have N9:=N8.BV;obtain⟨v,hr,QK⟩:=N9.put;exact⟨mi N8.kp,mi N9.kp,v,hr,uz QK⟩
  ·have PM:=N7.BV
   refine⟨mi PM.kp,?_,?_⟩
   ·have KV:=PM.pE
    obtain⟨v,hr,PL⟩:=KV.put;exact⟨mi KV.kp,v,hr,uz PL⟩
   ·obtain⟨v,hr,QJ⟩:=PM.put
    exact⟨v,hr,uz QJ.pE⟩
 ·have IQ:=N3.BV
  refine⟨mi IQ.kp,mi IQ.kp,?_,?_⟩
  ·have Mu:NP w3 ((w3.alloc (.map #[] 0)).alloc (.cells (fE r (oz (w3.alloc (.map #[] 0)).heap.size)) dK)) r (some (w3.alloc (.map #[] 0)).heap.size) none (some w3.heap.size) []:=IQ.addNode
   refine⟨mi Mu.kp,?_,?_⟩
   ·have Mt:=Mu.pE
    obtain⟨v,hr,QH⟩:=Mt.put;exact⟨mi Mt.kp,v,hr,uz QH⟩
   ·obtain⟨v,hr,VM⟩:=Mu.put
    exact⟨v,hr,uz VM.pE⟩
  ·obtain⟨v,hr,PK⟩:=IQ.put
   exact⟨v,hr,mi PK.kp,uz PK.addNode.pE⟩
end
section
variable{w w':World}{S S' F:Nat->Prop}{g bl c mb:Nat}{D:DG}{C:HT->List HT}{M:List NM}{K:Value->World->Prop}
end
section
variable{w w':World}{S S' F:Nat->Prop}{g bl c mb:Nat}{D:DG}{C:HT->List HT}{M:List NM}{K:Value->World->Prop}
end
theorem dT{w:World}{b:Nat}{z cs:Array Value}{t:TypeId}(h:w.heap[b]? =some (.cells z t (0,0)))(hz:z.size=cs.size):
 (∀j,j<cs.size->Wr w ((⟨b,0,none⟩:Addr).add j))/\(setCells w ⟨b,0,none⟩ cs.toList 0).heap[b]? =some (.cells cs t (0,0))/\Kept (· =b) w (setCells w ⟨b,0,none⟩ cs.toList 0):=by
 refine⟨fun j hj=>?_,?_,fQ _ _ _ _⟩
 ·rw [a8,Nat.zero_add]
  exact dL h (by omega)
 ·have h1:=jH cs.toList z w t 0 0 h (by simp;omega)
  rw [h1,tH (by simp [hz])]
def hx(i:Nat)(hi:i<256):HT:=⟨#[.int .u8 (i:Int),.int .u8 0,.int .u8 0,.int .u8 0,.int .u8 0,.int .u8 0,.int .u8 0,.int .u8 0,.int .u8 0,.int .u8 0,.int .u8 0,.int .u8 0,.int .u8 0,.int .u8 0,.int .u8 0,.int .u8 0,.int .u8 0,.int .u8 0,.int .u8 0,.int .u8 0,.int .u8 0,.int .u8 0,.int .u8 0,.int .u8 0,.int .u8 0,.int .u8 0,.int .u8 0,.int .u8 0,.int .u8 0,.int .u8 0,.int .u8 0,.int .u8 0],rfl,fun v hv=>by
 simp only [List.mem_cons,List.not_mem_nil,or_false]at hv;rcases hv with rfl|hv
 ·exact⟨i,rfl,by omega,by omega⟩
 ·exact⟨0,by simpa using hv,by omega,by omega⟩⟩
theorem rO{i j:Nat}{hi:i<256}{hj:j<256}(h:i≠j):hx i hi≠hx j hj:=fun e=>by
 have:=congrArg (fun a:HT=>a.1[0]?) e;simp [hx]at this;omega
section
variable{w w':World}{K:Value->World->Prop}
end
theorem HS.lay{w:World}{b:Nat}{l:List HT}{t:TypeId}(hb:w.heap[b]? =some (.cells (dc l).toArray t (0,0))):HS w (some ⟨b,0,Option.none⟩) l.length l:=
 ⟨rfl,fun i x hi=>⟨_,rfl,aQ hb,fun j v hj=>by
   rw [a8,a8,Nat.zero_add,ay hb];simpa using kc hi hj⟩⟩
section
variable{r a b c:HT}(Ey:r≠a)(zf:r≠b)(LG:r≠c)(lM:a≠b)(Mj:a≠c)(Hw:b≠c)
abbrev kD(r a b c:HT):DG:= [⟨r,[]⟩,⟨a,[r]⟩,⟨b,[r]⟩,⟨c,de [a,b]⟩]
include Ey in
theorem k1:dr [⟨r,[]⟩] a [r]=0/\l9 [⟨r,[]⟩] a [r]= [⟨r,[]⟩,⟨a,[r]⟩]:=by
 have h:dr [⟨r,[]⟩] a [r]=0:=by
  unfold dr;rw [if_neg (by simp [ids];exact fun e=>Ey e.symm),tj,if_neg (by simp),if_neg (by simp [ids])]
 exact⟨h,by unfold l9;rw [if_pos h,tj];rfl⟩
include zf lM in
theorem k2:dr [⟨r,[]⟩,⟨a,[r]⟩] b [r]=0/\l9 [⟨r,[]⟩,⟨a,[r]⟩] b [r]= [⟨r,[]⟩,⟨a,[r]⟩,⟨b,[r]⟩]:=by
 have h:dr [⟨r,[]⟩,⟨a,[r]⟩] b [r]=0:=by
  unfold dr;rw [if_neg (by simp [ids];exact⟨fun e=>zf e.symm,fun e=>lM e.symm⟩),tj,if_neg (by simp),if_neg (by simp [ids])]
 exact⟨h,by unfold l9;rw [if_pos h,tj];rfl⟩
include LG lM Mj Hw in
theorem k3:dr [⟨r,[]⟩,⟨a,[r]⟩,⟨b,[r]⟩] c [a,b]=0/\l9 [⟨r,[]⟩,⟨a,[r]⟩,⟨b,[r]⟩] c [a,b]=kD r a b c:=by
 have hl:(de [a,b]).length=2:=pL (by simp [lM]);have h:dr [⟨r,[]⟩,⟨a,[r]⟩,⟨b,[r]⟩] c [a,b]=0:=by
  unfold dr;rw [if_neg (by simp [ids];exact⟨fun e=>LG e.symm,fun e=>Mj e.symm,fun e=>Hw e.symm⟩),hl,if_neg (by simp),if_neg];rintro⟨p,hp,hn⟩;rw [df]at hp;simp at hp;simp [ids]at hn;rcases hp with rfl|rfl
  ·exact hn.2.1 rfl
  ·exact hn.2.2 rfl
 exact⟨h,by unfold l9;rw [if_pos h];rfl⟩
end
section
variable{w w':World}{K:Value->World->Prop}
end
structure akg(w:World)(S F:Nat->Prop)(g:Nat)(FR:Nat->Prop)(r:Nat)(D:DG):Prop where
 G:BY w S F g D
 R:tg w FR r D
 rS:¬S r
 rF:¬F r
 fS:∀k,FR k->¬S k
 low:∀k,FR k->k<w.heap.size
section
variable{w v w':World}{S F S2 F2 FR:Nat->Prop}{g r:Nat}{D D':DG}{K:Value->World->Prop}
theorem HY(h:HT):prog.built bM [(0,.agg h.1)]=some (h.1.push (.slice none 0 0)):=by
 have hs:=h.2.1;rw [mU De,iA (off:=0) (size:=32) rfl (by simpa [Value.cells]using hs) (by simp)];simp only [Instr.fill,Option.some.injEq];apply Array.ext';unfold gq;simp [Value.cells,hs]
end
end Go.Proofs.YtnboahlopghcjaaGreatDoor
