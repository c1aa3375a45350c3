import Derived.Test.YtfleamccglihoaaGreatDoorProg
import Derived.Shelf.SlSortCmp.NoneTotal
import Derived.Shelf.SlMaps.Clone
import Derived.Shelf.Spec.TrailingZeros
import Derived.Shelf.Strconv.Itoa0
import Derived.Shelf.Bits.Mul64
import Derived.Test.YtfleamccglihoaaGreatDoorMA
import Derived.Test.YtfleamccglihoaaGreatDoorMB
import Derived.Lib.BytesEntry
import Derived.Test.YtfleamccglihoaaGreatDoorMC
import Derived.LaidEql
open Go.IntKind (i64 u64)
set_option linter.unusedVariables false
namespace Go.Proofs
open Go.Shelf
def Tryz.og:Go.Shelf.Ren:=⟨fun|6=>53|15=>98|14=>97|28=>135|29=>136|20=>127|21=>128|22=>129|23=>130|24=>131|25=>132|26=>133|27=>134|46=>152|47=>153|48=>154|49=>155|50=>156|57=>163|n=>n,fun|22=>33|24=>24|25=>106|3=>3|39=>150|0=>0|53=>182|55=>22|4=>4|46=>176|45=>175|50=>162|5=>5|9=>9|66=>204|70=>208|76=>215|77=>216|n=>n,fun|n=>n⟩
theorem Tryz.uB:Go.Proofs.SlLaysF0.n6 prog Tryz.og:= {
 mixed:=by kernel_rfl
 f6:=⟨f53.name,by decide,func53.trans (congrArg some (by kernel_rfl))⟩
 f14:=⟨f97.name,by decide,func97.trans (congrArg some (by kernel_rfl))⟩
 f15:=func98.trans (congrArg some (by kernel_rfl))
 f20:=⟨f127.name,by decide,func127.trans (congrArg some (by kernel_rfl))⟩
 f21:=⟨f128.name,by decide,func128.trans (congrArg some (by kernel_rfl))⟩
 f22:=⟨Tryz.f129.name,by decide,func129.trans (congrArg some (by kernel_rfl))⟩
 f23:=⟨f130.name,by decide,func130.trans (congrArg some (by kernel_rfl))⟩
 f24:=⟨f131.name,by decide,func131.trans (congrArg some (by kernel_rfl))⟩
 f25:=⟨f132.name,by decide,func132.trans (congrArg some (by kernel_rfl))⟩
 f26:=⟨f133.name,by decide,func133.trans (congrArg some (by kernel_rfl))⟩
 f27:=⟨f134.name,by decide,func134.trans (congrArg some (by kernel_rfl))⟩
 f28:=func135.trans (congrArg some (by kernel_rfl))
 f29:=func136.trans (congrArg some (by kernel_rfl))
 f46:=⟨f152.name,by decide,func152.trans (congrArg some (by kernel_rfl))⟩
 f47:=func153.trans (congrArg some (by kernel_rfl))
 f48:=func154.trans (congrArg some (by kernel_rfl))
 f49:=⟨f155.name,by decide,func155.trans (congrArg some (by kernel_rfl))⟩
 f50:=⟨f156.name,by decide,func156.trans (congrArg some (by kernel_rfl))⟩
 f57:=⟨f163.name,by decide,func163.trans (congrArg some (by kernel_rfl))⟩
 t0:=underlying0
 a0:=isAgg0
 z0:=sizeOf0
 v0:=zeroValue0
 t3:=underlying3
 a3:=isAgg3
 z3:=sizeOf3
 v3:=zeroValue3
 t4:=underlying4
 a4:=isAgg4
 z4:=sizeOf4
 v4:=zeroValue4
 t5:=underlying5
 a5:=isAgg5
 z5:=sizeOf5
 v5:=zeroValue5
 t9:=underlying9
 a9:=isAgg9
 z9:=sizeOf9
 v9:=zeroValue9
 t22:=underlying33
 a22:=isAgg33
 z22:=sizeOf33
 v22:=zeroValue33
 t25:=underlying106
 a25:=isAgg106
 z25:=sizeOf106
 v25:=zeroValue106
 t39:=underlying150
 a39:=isAgg150
 z39:=sizeOf150
 v39:=zeroValue150
 t45:=underlying175
 a45:=isAgg175
 z45:=sizeOf175
 v45:=zeroValue175
 t46:=underlying176
 a46:=isAgg176
 z46:=sizeOf176
 v46:=zeroValue176
 t50:=underlying162
 a50:=isAgg162
 z50:=sizeOf162
 v50:=zeroValue162
 t53:=underlying182
 a53:=isAgg182
 z53:=sizeOf182
 v53:=zeroValue182
 t55:=underlying22
 a55:=isAgg22
 z55:=sizeOf22
 v55:=zeroValue22
 t66:=underlying204
 a66:=isAgg204
 z66:=sizeOf204
 v66:=zeroValue204
 t70:=underlying208
 a70:=isAgg208
 z70:=sizeOf208
 v70:=zeroValue208
 t76:=underlying215
 a76:=isAgg215
 z76:=sizeOf215
 v76:=zeroValue215
 t77:=underlying216
 a77:=isAgg216
 z77:=sizeOf216
 v77:=zeroValue216}
def Tryz.ji:Go.Shelf.Ren:=⟨fun|29=>159|n=>n,fun|22=>22|3=>3|4=>4|25=>150|54=>218|0=>0|5=>5|n=>n,fun|1=>1|n=>n⟩
theorem Tryz.tzL:Go.Proofs.Lays7.n29 prog Tryz.ji:= {
 mixed:=by kernel_rfl
 f29:=func159.trans (congrArg some (by kernel_rfl))
 t0:=underlying0
 a0:=isAgg0
 z0:=sizeOf0
 v0:=zeroValue0
 i0:=by kernel_rfl
 t3:=underlying3
 a3:=isAgg3
 z3:=sizeOf3
 v3:=zeroValue3
 i3:=by kernel_rfl
 t4:=underlying4
 a4:=isAgg4
 z4:=sizeOf4
 v4:=zeroValue4
 i4:=by kernel_rfl
 t5:=underlying5
 a5:=isAgg5
 z5:=sizeOf5
 v5:=zeroValue5
 i5:=by kernel_rfl
 t22:=underlying22
 a22:=isAgg22
 z22:=sizeOf22
 v22:=zeroValue22
 i22:=by kernel_rfl
 t25:=underlying150
 a25:=isAgg150
 z25:=sizeOf150
 v25:=zeroValue150
 i25:=by kernel_rfl
 t54:=underlying218
 a54:=isAgg218
 z54:=sizeOf218
 g1:=by kernel_rfl}
def Tryz.xc:Go.Shelf.Ren:=⟨fun|129=>136|n=>n,fun|53=>22|3=>3|4=>4|46=>150|5=>5|9=>9|n=>n,fun|n=>n⟩
theorem Tryz.Gw:Go.Proofs.Lays.n129 prog Tryz.xc:= {
 mixed:=by kernel_rfl
 f129:=func136.trans (congrArg some (by kernel_rfl))
 t3:=underlying3
 a3:=isAgg3
 z3:=sizeOf3
 v3:=zeroValue3
 t4:=underlying4
 a4:=isAgg4
 z4:=sizeOf4
 v4:=zeroValue4
 t5:=underlying5
 a5:=isAgg5
 z5:=sizeOf5
 v5:=zeroValue5
 t9:=underlying9
 a9:=isAgg9
 z9:=sizeOf9
 v9:=zeroValue9
 t46:=underlying150
 a46:=isAgg150
 z46:=sizeOf150
 v46:=zeroValue150
 t53:=underlying22
 a53:=isAgg22
 z53:=sizeOf22
 v53:=zeroValue22}
def Tryz.wZ:Go.Shelf.Ren:=⟨fun|264=>161|n=>n,fun|53=>22|46=>150|n=>n,fun|n=>n⟩
theorem Tryz.Gv:Go.Proofs.Lays.n264 prog Tryz.wZ:= {
 mixed:=by kernel_rfl
 f264:=func161.trans (congrArg some (by kernel_rfl))
 t46:=underlying150
 a46:=isAgg150
 z46:=sizeOf150
 v46:=zeroValue150
 t53:=underlying22
 a53:=isAgg22
 z53:=sizeOf22
 v53:=zeroValue22}
end Go.Proofs
namespace Go.bE
open Go.RowKit
theorem jv.mono{P:Program}{l:Nat}{args:Array Value}{w:World}{R R':Bool->World->Prop}(h:jv P l args w R)(hr:∀b w',R b w'->R' b w'):jv P l args w R':=by
 obtain⟨g,tmps,assign,body,h1,h2⟩:=h;exact⟨g,tmps,assign,body,h1,fun r m=>RoundIn.mono (h2 r m) fun e w' ⟨b,he,hb⟩=>⟨b,he,hr _ _ hb⟩⟩
def gm(xs:List Value)(k:Nat)(vs:List Value):List Value:=xs.take k++vs++xs.drop (k+vs.length)
theorem oQ(xs:List Value)(k:Nat):gm xs k []=xs:=by simp [gm]
theorem nt{xs:List Value}{k:Nat}(hk:k<xs.length)(v:Value)(vs:List Value):gm xs k (v::vs)=gm (xs.set k v) (k+1) vs:=by
 unfold gm;rw [List.take_add_one,List.take_set_of_le (Nat.le_refl k),List.getElem?_set_self hk,List.drop_set];rw [if_pos (by omega),List.length_cons,show k+(vs.length+1)=k+1+vs.length by omega];simp
theorem mh{xs:List Value}{k:Nat}{vs:List Value}(h:k+vs.length<=xs.length):(gm xs k vs).length=xs.length:=by
 unfold gm;simp;omega
theorem r3{xs vs:List Value}(h:vs.length=xs.length):gm xs 0 vs=vs:=by
 unfold gm;simp [h]
section
variable{w:World}{B:Nat}{e:TypeId}{size n c b:Nat}
theorem pr:∀(vs:List Value) (xs:List Value) (w:World) (o i:Nat),Row w B e size (some ⟨b,0,none⟩) n c xs->o+i+vs.length<=xs.length->
 Row (setCells w ⟨b,o,none⟩ vs i) B e size (some ⟨b,0,none⟩) n c (gm xs (o+i) vs)
 | [],xs,w,o,i,h,_=>by rw [oQ];exact h
 |v::vs,xs,w,o,i,h,hl=>by
  rw [List.length_cons]at hl;rw [nt (by omega)];simp only [setCells];rw [bu];have h1:=Row.set h (j:=o+i) (by omega) v;have:=pr vs (xs.set (o+i) v) _ o (i+1) h1 (by rw [List.length_set];omega)
  rwa [show o+(i+1)=o+i+1 by omega]at this
theorem fT:∀(vs:List Value) (w:World) (o i:Nat),Kept (· =b) w (setCells w ⟨b,o,none⟩ vs i)
 | [],w,o,i=>Kept.refl _ _
 |v::vs,w,o,i=>by
  simp only [setCells];rw [bu];exact(Kept.setCell (S:=fun k=>k=b) (Kept.refl _ w) (p:=⟨b,o+i,none⟩) (fun _=>rfl) v).tt (fT vs _ o (i+1))
theorem jo:∀(vs:List Value) (cur:Array Value) (w:World) (t:TypeId) (o i:Nat),w.heap[b]? =some (.cells cur t (0,0))->o+i+vs.length<=cur.size->
 (setCells w ⟨b,o,none⟩ vs i).heap[b]? =some (.cells (gm cur.toList (o+i) vs).toArray t (0,0))
 | [],cur,w,t,o,i,h,_=>by rw [oQ];simpa [setCells]using h
 |v::vs,cur,w,t,o,i,h,hl=>by
  rw [List.length_cons]at hl;rw [nt (by simp;omega)];simp only [setCells];rw [bu];have h1:=cX h (o+i) v;have:=jo vs _ _ t o (i+1) h1 (by simp;omega);rw [show o+(i+1)=o+i+1 by omega]at this;rw [this];simp
theorem gg{z cs:Array Value}{t:TypeId}(hz:z.size=cs.size):
 (∀j,j<cs.size->Wr (w.alloc (.cells z t)) ((aU w.heap.size).add j))/\
 (setCells (w.alloc (.cells z t)) ⟨w.heap.size,0,none⟩ cs.toList 0).heap[w.heap.size]? =some (.cells cs t (0,0))/\
 Kept Nil w (setCells (w.alloc (.cells z t)) ⟨w.heap.size,0,none⟩ cs.toList 0):=by
 refine⟨fun j hj=>?_,?_,?_⟩
 ·rw [bu,Nat.zero_add]
  exact dK (aR w _) (by omega)
 ·have h:=jo cs.toList z (w.alloc (.cells z t)) t 0 0 (aR w _) (by simp;omega)
  rw [h,r3 (by simp [hz])]
 ·exact((Kept.refl Nil w).alloc _).trans (fT cs.toList _ 0 0) (fun k hk e=>absurd hk (by omega))
end
end Go.bE
namespace Go.bE
theorem AU:∀(vs:List Value) (off k:Nat) (cells:Array Value),off+k+vs.length<=cells.size->
 ((vs.zipIdx k).foldl (fun(cs:Array Value) (p:Value×Nat)=>cs.setIfInBounds (off+p.2) p.1) cells)=(gm cells.toList (off+k) vs).toArray
 | [],off,k,cells,_=>by rw [oQ];simp
 |v::vs,off,k,cells,h=>by
  rw [List.length_cons]at h;rw [nt (by simp;omega),List.zipIdx_cons,List.foldl_cons];have:=AU vs off (k+1) (cells.setIfInBounds (off+k) v) (by simp;omega);rw [this,Array.toList_setIfInBounds];rfl
theorem jC{place:Nat->Option (Nat×Nat)}{cells:Array Value}{i off size:Nat}{v:Value}{rest:List (Nat×Value)}(hp:place i=some (off,size))(hs:v.cells.size=size)(hle:off+size<=cells.size):
 Instr.fill place cells ((i,v)::rest)=Instr.fill place (gm cells.toList off v.cells.toList).toArray rest:=by
 rw [Instr.fill,hp];simp only;rw [if_neg (by simp;omega)]
 congr 1
 have h:=AU v.cells.toList off 0 cells (by simp;omega);rw [Nat.add_zero]at h;rw [<-h,<-Array.foldl_toList,Array.toList_zipIdx]
def Ra(P:Program)(t:TypeId):Option (List (Nat×Nat)×List Value):=
 match P.info? t,P.underlying t with
 |some it,some (.struct fields)=>
  match it.zero,fields.toList.mapM (fun f=>(P.info? f.type).map fun i=>(f.offset,i.size))with
  |some z,some places=>some (places,z.cells.toList)
  |_,_=>none
 |_,_=>none
theorem pY{P:Program}{t:TypeId}{pl:List (Nat×Nat)}{z:List Value}(h:Ra P t=some (pl,z))(parts:List (Nat×Value)):
 P.built t parts=Instr.fill (pl.toArray[·]?) z.toArray parts:=by
 unfold Ra at h;split at h
 ·rename_i it fields h1 h2
  split at h
  ·rename_i z' pl' h3 h4
   simp only [Option.some.injEq,Prod.mk.injEq]at h;obtain⟨rfl,rfl⟩:=h;unfold Program.built;rw [h1,h2];simp only [h3,h4]
  ·cases h
 ·cases h
def oV:List Nat->Array Value
 | []=> #[]
 |D::l=> #[.pointer (some ⟨D,0,none⟩)]++oV l
theorem lP:∀l,marksOf (.agg (oV l))=l
 | []=>rfl
 |D::l=>by
  have ih:=lP l;simp only [oV,marksOf]at*;simp [ih]
theorem kP:∀(l:List Nat) (w:World),l.Nodup->(∀D∈l,w.heap[D]? =some (.deferred (some [])))->jI l w
 | [],_,_,_=>trivial
 |D::l,w,hn,h=>by
  rw [List.nodup_cons]at hn;refine⟨h D (by simp),kP l _ hn.2 fun E hE=>?_⟩;have fH:D≠E:=fun e=>hn.1 (by rw [e];exact hE);exact(World.putObj_heap_other fH.symm).trans (h E (by simp [hE]))
theorem jl:∀(l:List Nat) (w:World),Kept (· ∈l) w (fi l w)
 | [],w=>Kept.refl _ w
 |D::l,w=>((Kept.putAt w D (.deferred none)).mono (S':=fun k=>k∈D::l) (fun k _ e=>by subst e;simp)).trans (jl l _) (fun k _ h=>by simp [h])
open Go.RowKit
section
variable{P:Program}{n:Nat}
end
end Go.bE
namespace Go.Proofs.YtfleamccglihoaaGreatDoor
open Go.Proofs.Tryz
open Go Go.bE Go.RowKit
def Mh(cs:Array Value):Prop:=cs.size=32/\∀v∈cs.toList,∃i:Int,v=.int .u8 i/\0<=i/\i<256
abbrev HT:= {cs:Array Value//Mh cs}
def key(h:HT):List Int:=h.1.toList.map kI
theorem Mh.ints{cs:Array Value}(h:Mh cs):fU .u8 32 cs:=⟨h.1,fun v hv=>let ⟨i,e,_⟩:=h.2 v hv;⟨i,e⟩⟩
theorem xo:∀ {a b:List Value},(∀v∈a,∃i:Int,v=.int .u8 i)->(∀v∈b,∃i:Int,v=.int .u8 i)->a.map kI=b.map kI->a=b
 | [],[],_,_,_=>rfl
 | [],_::_,_,_,h=>by simp at h
 |_::_,[],_,_,h=>by simp at h
 |x::a,y::b,ha,hb,h=>by
  obtain⟨i,rfl⟩:=ha x (by simp);obtain⟨j,rfl⟩:=hb y (by simp);simp only [List.map_cons,List.cons.injEq,kI]at h;rw [h.1,xo (fun v hv=>ha v (by simp [hv])) (fun v hv=>hb v (by simp [hv])) h.2]
theorem key_inj{a b:HT}(h:key a=key b):a=b:=by
 apply Subtype.ext;apply Array.ext';exact xo (fun v hv=>a.2.ints.2 v hv) (fun v hv=>b.2.ints.2 v hv) h
instance:DecidableEq HT:=fun a b=>if h:key a=key b then isTrue (key_inj h)else isFalse fun e=>h (by rw [e])
theorem gA(a b:HT):gu a.1 b.1=decide (a=b):=by
 unfold gu;by_cases e:a=b
 ·subst e;simp
 ·rw [decide_eq_false e]
  have:¬(key a=key b):=fun h=>e (key_inj h);simpa [key]using this
theorem Mh.one{cs:Array Value}(h:Mh cs):∀v∈cs.toList,v.oneCell'=true:=fun v hv=>by
 obtain⟨i,rfl,_⟩:=h.2 v hv;rfl
def vX:List Int->List Int->Bool
 | [],[]=>false
 | [],_::_=>true
 |_::_,[]=>false
 |x::a,y::b=>if x<y then true else if y<x then false else vX a b
def cJ(a b:HT):Bool:=vX (key a) (key b)
theorem sA:∀a,vX a a=false
 | []=>rfl
 |x::a=>by simp [vX,sA a]
theorem uJ:∀ {a b c},vX a b=true->vX b c=true->vX a c=true
 | [],[],_,h,_=>by simp [vX]at h
 | [],_::_,[],_,h=>by simp [vX]at h
 | [],_::_,_::_,_,_=>rfl
 |_::_,[],_,h,_=>by simp [vX]at h
 |_::_,_::_,[],_,h=>by simp [vX]at h
 |x::a,y::b,z::c,h,h'=>by
  simp only [vX]at*;by_cases h1:x<y
  ·by_cases h2:y<z
   ·rw [if_pos (by omega)]
   ·rw [if_neg h2]at h'
    by_cases h3:z<y
    ·rw [if_pos h3]at h';cases h'
    ·rw [if_pos (by omega)]
  ·rw [if_neg h1]at h
   by_cases h2:y<x
   ·rw [if_pos h2]at h;cases h
   ·rw [if_neg h2]at h
    by_cases h3:y<z
    ·rw [if_pos (by omega)]
    ·rw [if_neg h3]at h'
     by_cases h4:z<y
     ·rw [if_pos h4]at h';cases h'
     ·rw [if_neg h4]at h'
      rw [if_neg (by omega),if_neg (by omega)];exact uJ h h'
theorem uK:∀ {a b},a.length=b.length->vX a b=false->vX b a=false->a=b
 | [],[],_,_,_=>rfl
 | [],_::_,h,_,_=>by simp at h
 |_::_,[],h,_,_=>by simp at h
 |x::a,y::b,hl,h,h'=>by
  simp only [vX]at*;by_cases h1:x<y
  ·rw [if_pos h1]at h;cases h
  ·rw [if_neg h1]at h
   by_cases h2:y<x
   ·rw [if_pos h2]at h';cases h'
   ·rw [if_neg h2]at h h'
    rw [if_neg h1]at h';have:x=y:=by omega
    rw [this,uK (by simpa using hl) h h']
theorem ou(a:HT):(key a).length=32:=by have:=a.2.1;simpa [key]using this
theorem ox{a b:HT}(h:cJ a b=false)(h':cJ b a=false):a=b:=key_inj (uK (by rw [ou,ou]) h h')
theorem kH{a b c:HT}(h:cJ a b=true)(h':cJ b c=true):cJ a c=true:=uJ h h'
theorem hZ(a:HT):cJ a a=false:=sA _
theorem qC{a b:HT}(h:cJ a b=true):cJ b a=false:=by
 cases h':cJ b a
 ·rfl
 ·have:=kH h h';rw [hZ]at this;cases this
end Go.Proofs.YtfleamccglihoaaGreatDoor
namespace Go.Proofs.YtfleamccglihoaaGreatDoor
open Go.Proofs.Tryz
open Go Go.bE
def SS(l:List HT):Prop:=l.Pairwise fun a b=>cJ a b=true
theorem SS.nodup{l:List HT}(h:SS l):l.Nodup:=List.Pairwise.imp (fun {a b} mJ e=>by subst e;rw [hZ]at mJ;cases mJ) h
theorem SS.cons{x:HT}{l:List HT}:SS (x::l)↔(∀y∈l,cJ x y=true)/\SS l:=List.pairwise_cons
theorem vU:∀ {l m:List HT},SS l->SS m->(∀x,x∈l↔x∈m)->l=m
 | [],[],_,_,_=>rfl
 | [],y::m,_,_,h=>by have:=(h y).2 (by simp);simp at this
 |x::l,[],_,_,h=>by have:=(h x).1 (by simp);simp at this
 |x::l,y::m,hl,hm,h=>by
  rw [SS.cons]at hl hm;have l9:x=y:=by
   have h1:=(h x).1 (by simp);have h2:=(h y).2 (by simp);rcases List.mem_cons.1 h1 with h1|h1
   ·exact h1
   ·rcases List.mem_cons.1 h2 with h2|h2
    ·exact h2.symm
    ·have a:=hl.1 _ h2
     have b:=hm.1 _ h1;rw [qC a]at b;cases b
  subst l9
  congr 1
  refine vU hl.2 hm.2 fun z=>?_;have hz:=h z;constructor
  ·intro Yo
   rcases List.mem_cons.1 (hz.1 (by simp [Yo]))with e|e
   ·subst e;have:=hl.1 _ Yo;rw [hZ]at this;cases this
   ·exact e
  ·intro Yn
   rcases List.mem_cons.1 (hz.2 (by simp [Yn]))with e|e
   ·subst e;have:=hm.1 _ Yn;rw [hZ]at this;cases this
   ·exact e
def ins(x:HT):List HT->List HT
 | []=> [x]
 |y::l=>if cJ x y then x::y::l else if x=y then y::l else y::ins x l
theorem vr(x z:HT):∀l,z∈ins x l↔z=x\/z∈l
 | []=>by simp [ins]
 |y::l=>by
  unfold ins;split
  ·simp
  ·split
   ·rename_i e;subst e;simp
   ·simp only [List.mem_cons,vr x z l]
    constructor
    ·rintro(h|h|h)<;>simp [h]
    ·rintro(h|h|h)<;>simp [h]
theorem Fw(x:HT):∀ {l:List HT},SS l->SS (ins x l)
 | [],_=>by simp [ins,SS]
 |y::l,h=>by
  have h':=SS.cons.1 h;unfold ins;split
  ·rename_i l9
   refine SS.cons.2 ⟨fun z hz=>?_,h⟩;rcases List.mem_cons.1 hz with rfl|hz
   ·exact l9
   ·exact kH l9 (h'.1 _ hz)
  ·split
   ·exact h
   ·rename_i h1 h2
    refine SS.cons.2 ⟨fun z hz=>?_,Fw x h'.2⟩;rcases(vr x z l).1 hz with rfl|hz
    ·cases Mi:cJ y z
     ·exact absurd (ox Mi (by simpa using h1)).symm h2
     ·rfl
    ·exact h'.1 _ hz
def dg(l:List HT):List HT:=l.foldr ins []
theorem dI{z:HT}:∀ {l:List HT},z∈dg l↔z∈l
 | []=>by simp [dg]
 |x::l=>by
  have:= @dI z l;simp only [dg,List.foldr_cons,vr,List.mem_cons]at this⊢;rw [this]
theorem iL:∀l:List HT,SS (dg l)
 | []=>List.Pairwise.nil
 |x::l=>Fw x (iL l)
theorem Aa{l m:List HT}(h:∀x,x∈l↔x∈m):dg l=dg m:=vU (iL l) (iL m) fun x=>by rw [dI,dI,h]
theorem yu{l m:List HT}(hs:SS l)(h:∀x,x∈l↔x∈m):l=dg m:=vU hs (iL m) fun x=>by rw [dI,h]
theorem AD(x:HT):∀l,(ins x l).length<=l.length+1
 | []=>by simp [ins]
 |y::l=>by
  have:=AD x l;unfold ins;split
  ·simp
  ·split<;>simp<;>omega
theorem nZ:∀l:List HT,(dg l).length<=l.length
 | []=>by simp [dg]
 |x::l=>by
  have h1:=AD x (dg l);have h2:=nZ l;simp only [dg,List.foldr_cons,List.length_cons]at*;omega
theorem oY{x:HT}:∀ {l:List HT},x∉l->(ins x l).length=l.length+1
 | [],_=>by simp [ins]
 |y::l,h=>by
  simp only [List.mem_cons,not_or]at h;have:=oY h.2;unfold ins;split
  ·simp
  ·rw [if_neg h.1];simp;omega
theorem oI:∀ {l:List HT},l.Nodup->(dg l).length=l.length
 | [],_=>by simp [dg]
 |x::l,h=>by
  rw [List.nodup_cons]at h;have h2:=oI h.2;have:=oY (l:=dg l) (x:=x) (fun hm=>h.1 (dI.1 hm));simp only [dg,List.foldr_cons,List.length_cons]at*;omega
theorem qT{x:HT}:∀ {l:List HT},SS l->x∈l->(ins x l).length=l.length
 | [],_,h=>by simp at h
 |y::l,hs,h=>by
  have h':=SS.cons.1 hs;unfold ins;split
  ·rename_i l9
   rcases List.mem_cons.1 h with rfl|h
   ·rw [hZ]at l9;cases l9
   ·have:=h'.1 _ h;rw [qC l9]at this;cases this
  ·split
   ·rfl
   ·rename_i h1 h2
    rcases List.mem_cons.1 h with rfl|h
    ·exact absurd rfl h2
    ·simp [qT h'.2 h]
theorem pH:∀ {l:List HT},(dg l).length=l.length->l.Nodup
 | [],_=>List.Pairwise.nil
 |x::l,h=>by
  have h2:=nZ l;by_cases hm:x∈l
  ·have:=qT (iL l) (dI.2 hm)
   simp only [dg,List.foldr_cons,List.length_cons]at*;omega
  ·have h3:=oY (l:=dg l) (x:=x) (fun h=>hm (dI.1 h))
   simp only [dg,List.foldr_cons,List.length_cons]at*;exact List.nodup_cons.2 ⟨hm,pH (by simp only [dg];omega)⟩
theorem Gh:dg []= []:=rfl
theorem mf(x:HT):dg [x]= [x]:=rfl
theorem wv{l:List HT}(h:SS l):dg l=l:=(yu h fun _=>Iff.rfl).symm
theorem LP{l:List HT}{x:HT}{k:Nat}(hs:SS l)(h1:∀y∈l.take k,cJ y x=true)(h2:∀y∈l.drop k,cJ x y=true):SS (l.take k++x::l.drop k):=by
 unfold SS at*;rw [<-List.take_append_drop k l,List.pairwise_append]at hs;rw [List.pairwise_append,List.pairwise_cons];refine⟨hs.1,⟨h2,hs.2.1⟩,fun y hy z hz=>?_⟩;rcases List.mem_cons.1 hz with rfl|hz
 ·exact h1 y hy
 ·exact hs.2.2 y hy z hz
theorem SS.get{l:List HT}(h:SS l){i j:Nat}(pP:i<j){x y:HT}(hx:l[i]? =some x)(hy:l[j]? =some y):cJ x y=true:=by
 obtain⟨h1,rfl⟩:=lgeS hx;obtain⟨h2,rfl⟩:=lgeS hy;exact List.pairwise_iff_getElem.1 h i j h1 h2 pP
theorem Bc{l:List HT}{x:HT}(hs:SS l)(h:∀y∈l,cJ y x=true):SS (l++ [x]):=by
 have:=LP (k:=l.length) hs (x:=x) (by simpa using h) (by simp);simpa using this
def LE(l:List HT):Prop:=l.Pairwise fun a b=>cJ b a=false
theorem lt_of_le_ne{a b:HT}(h:cJ b a=false)(hn:a≠b):cJ a b=true:=by
 cases mJ:cJ a b
 ·exact absurd (ox mJ h) hn
 ·rfl
theorem qR{a b c:HT}(h:cJ b a=false)(h':cJ b c=true):cJ a c=true:=by
 by_cases e:a=b
 ·subst e;exact h'
 ·exact kH (lt_of_le_ne h e) h'
theorem LE.get{l:List HT}(h:LE l){i j:Nat}(pP:i<j){x y:HT}(hx:l[i]? =some x)(hy:l[j]? =some y):cJ y x=false:=by
 obtain⟨h1,rfl⟩:=lgeS hx;obtain⟨h2,rfl⟩:=lgeS hy;exact List.pairwise_iff_getElem.1 h i j h1 h2 pP
theorem bJ{l:List HT}{k:Nat}{x z:HT}(hx:l[k]? =some x):z∈l.take (k+1)↔z∈l.take k\/z=x:=by
 rw [List.take_add_one,hx];simp
open Go.RowKit
theorem iy(a:Addr)(k:Nat):(a.add k).block=a.block:=by unfold Addr.add;split<;>rfl
theorem aX{σ:Type}(e:σ->Env)(I:σ->World->Prop)(μ:σ->World->Nat)(s:σ)(w:World)(Q:aM)(l:Nat)(ρ:Env)(w':World):bR e I μ s w Q (.exit l) ρ w'=Q (.exit l) ρ w':=rfl
theorem gF{σ:Type}(e:σ->Env)(I:σ->World->Prop)(μ:σ->World->Nat)(s:σ)(w:World)(Q:aM)(ρ:Env)(w':World):bR e I μ s w Q .ret ρ w'=Q .ret ρ w':=rfl
theorem iI{x:Int}(h0: -9223372036854775808<=x)(h1:x<9223372036854775808):i64.wrap x=x:=by
 simp only [IntKind.wrap,IntKind.bits,IntKind.signed];simp;omega
theorem Cells.aK{S:Nat->Prop}{w w':World}{a:Addr}{cs:Array Value}(h:Cells w a cs)(hk:Kept S w w')(hn:¬S a.block):Cells w' a cs:=
 fun j v hj=>hk.cell (h j v hj) (by rw [iy];exact hn)
theorem Cells.bS{w:World}{b:Nat}{cs:Array Value}{t:TypeId}{fr:Nat×Nat}(h:w.heap[b]? =some (.cells cs t fr)):Cells w ⟨b,0,none⟩ cs:=
 fun j v hj=>by rw [bu,Nat.zero_add,aD h];exact hj
structure HS(w:World)(A:Option Addr)(n:Nat)(l:List HT):Prop where
 len:l.length=n
 at_:∀(i:Nat) (h:HT),l[i]? =some h->∃a,A=some a/\a.block<w.heap.size/\Cells w (a.add (i*32)) h.1
theorem HS.aK{S:Nat->Prop}{w w':World}{A:Option Addr}{n:Nat}{l:List HT}(h:HS w A n l)(hk:Kept S w w')(hn:∀a,A=some a->¬S a.block):HS w' A n l:=⟨h.len,fun i x hi=>by
 obtain⟨a,h1,h2,h3⟩:=h.at_ i x hi;exact⟨a,h1,Nat.lt_of_lt_of_le h2 hk.size,Cells.aK h3 hk (by rw [iy];exact hn a h1)⟩⟩
theorem HS.same{w w':World}{A:Option Addr}{n:Nat}{l:List HT}(h:HS w A n l)(hk:Kept Nil w w'):HS w' A n l:=h.aK hk fun _ _ h=>h
section
variable{w:World}{K:Value->World->Prop}
end
def mT(a b:HT):Int:=if cJ a b then-1 else if cJ b a then 1 else 0
theorem GC{h:HT}{i:Nat}(hi:i<32):∃x:Int,h.1[i]? =some (.int .u8 x)/\(key h)[i]? =some x/\0<=x/\x<256:=by
 have hs:i<h.1.size:=by rw [h.2.1];exact hi
 obtain⟨x,hx,h1,h2⟩:=h.2.2 h.1[i] (by simp);refine⟨x,by rw [Array.getElem?_eq_getElem hs,hx],?_,h1,h2⟩;unfold key;rw [List.getElem?_map,Array.getElem?_toList,Array.getElem?_eq_getElem hs,hx];rfl
section
variable{w:World}{K:Value->World->Prop}
end
theorem AY{x y:Int}(hx:0<=x/\x<256)(hy:0<=y/\y<256):(x.toNat.toUInt8<y.toNat.toUInt8)↔x<y:=by
 rw [UInt8.lt_iff_toNat_lt];simp only [Nat.toUInt8,UInt8.toNat_ofNat'];omega
theorem lU:∀ {a b:List Int},a.length=b.length->(∀x∈a,0<=x/\x<256)->(∀x∈b,0<=x/\x<256)->
 Lib.compareBytes (Lib.bytesOf a) (Lib.bytesOf b)=if vX a b then-1 else if vX b a then 1 else 0
 | [],[],_,_,_=>rfl
 | [],_::_,h,_,_=>by simp at h
 |_::_,[],h,_,_=>by simp at h
 |x::a,y::b,h,ha,hb=>by
  have hx:=ha x (by simp);have hy:=hb y (by simp);have ih:=lU (a:=a) (b:=b) (by simpa using h) (fun z hz=>ha z (by simp [hz])) (fun z hz=>hb z (by simp [hz]));simp only [Lib.bytesOf,List.map_cons,Lib.compareBytes,AY hx hy,AY hy hx,vX];by_cases h1:x<y
  ·simp [h1]
  ·by_cases h2:y<x
   ·simp [h1,h2]
   ·simp only [h1,h2,if_false]
    exact ih
theorem uP(h:HT):∀x∈key h,0<=x/\x<256:=by
 intro x hx;simp only [key,List.mem_map]at hx;obtain⟨v,hv,rfl⟩:=hx;obtain⟨i,rfl,h1,h2⟩:=h.2.2 v hv;exact⟨h1,h2⟩
theorem pX(a b:HT):Lib.compareBytes (Lib.bytesOf (key a)) (Lib.bytesOf (key b))=mT a b:=
 lU (by rw [ou,ou]) (uP a) (uP b)
section
variable{w:World}{K:Value->World->Prop}
theorem qD(a b:HT){p q:Addr}{c c':Nat}(ha:Cells w p a.1)(hb:Cells w q b.1)(hK:K (.int .i64 (mT a b)) w):
 bm prog fX.id #[.slice (some p) 32 c,.slice (some q) 32 c'] w K:=by
 refine fX.of ⟨.int .i64 (mT a b),w,?_,_,rfl,hK⟩;have xx:∀(h:HT) (r:Addr),Cells w r h.1->∀j x,(key h)[j]? =some x->w.cell? (r.add j)=some (.int .u8 x):=by
  intro h r hr j x hx;have hj:j<32:=by have:=(lgeS hx).1;rw [ou]at this;exact this
  obtain⟨y,hy,ky,_⟩:=GC (h:=h) hj;rw [hx]at ky;cases ky;exact hr j _ hy
 have l1:=Lib.run_loadBytesX (P:=prog) w (key a) p .empty (xx a p ha);have l2:=Lib.run_loadBytesX (P:=prog) w (key b) q .empty (xx b q hb);rw [ou]at l1 l2;rw [run_callFunc_extern rG.at_ (by kernel_rfl) (by kernel_rfl) (by kernel_rfl) (e:=Extern.BytealgCompare.compare) (by kernel_rfl)];have hr:(Extern.BytealgCompare.compare #[.slice (some p) 32 c,.slice (some q) 32 c']).run prog w=.ok (.int .i64 (mT a b)) w:=by
  change Sem.run prog (do pure (goInt (Extern.BytealgCompare.cmp (<-Extern.Bytes.bytesOf (.slice (some p) 32 c)) (<-Extern.Bytes.bytesOf (.slice (some q) 32 c'))))) w=_
  simp only [Extern.Bytes.bytesOf,Sem.run_bind,l1,l2,Result.andThen_ok,Sem.run_pure,Lib.cmp_eq,goInt];rw [<-pX];simp
 rw [hr];rfl
theorem nU(a b:HT)(hK:K (.int .i64 (mT a b)) ((w.alloc (.cells a.1 ax)).alloc (.cells b.1 ax)).drew):bm prog cU.id #[.agg a.1,.agg b.1] w K:=by
 refine cU.of ?_;unfold cU.W;intro w3 w4 w5;have ha:w5.heap[w.heap.size]? =some (.cells a.1 ax (0,0)):=jF (aR w _) _;have hb:w5.heap[w3.heap.size]? =some (.cells b.1 ax (0,0)):=aR w3 _;simp only [if_neg (show ¬(32:Nat)=0 by omega),Nat.zero_mul,add_zero,Nat.sub_zero];exact qD a b (Cells.bS ha) (Cells.bS hb) ⟨_,rfl,hK⟩
end
theorem tF(a:Addr)(m n:Nat):(a.add m).add n=a.add (m+n):=by
 unfold Addr.add;by_cases hm:m=0<;>by_cases hn:n=0<;>simp [hm,hn,Nat.add_assoc]
def cC(l:List HT):List Value:=l.flatMap fun h=>h.1.toList
theorem jN(h:HT)(l:List HT):cC (h::l)=h.1.toList++cC l:=by simp [cC]
theorem kR(l m:List HT):cC (l++m)=cC l++cC m:=by simp [cC]
theorem dD:∀l:List HT,(cC l).length=l.length*32
 | []=>rfl
 |h::l=>by
  have:=h.2.1;rw [jN,List.length_append,dD l,Array.length_toList,this,List.length_cons];omega
theorem zg(l:List HT):∀u∈cC l,u.oneCell'=true:=by
 intro u hu;simp only [cC,List.mem_flatMap]at hu;obtain⟨h,_,hu⟩:=hu;exact h.2.one u hu
theorem jB:∀ {l:List HT} {i:Nat} {h:HT},l[i]? =some h->∀ {j:Nat} {v:Value},h.1[j]? =some v->(cC l)[i*32+j]? =some v
 | [],_,_,hi,_,_,_=>by simp at hi
 |x::l,0,h,hi,j,v,hj=>by
  simp only [List.getElem?_cons_zero,Option.some.injEq]at hi;subst hi;have cJ:j<x.1.toList.length:=by simpa using (Array.getElem?_eq_some_iff.1 hj).1
  rw [jN,Nat.zero_mul,Nat.zero_add,List.getElem?_append_left cJ,Array.getElem?_toList,hj]
 |x::l,i+1,h,hi,j,v,hj=>by
  simp only [List.getElem?_cons_succ]at hi;have:=x.2.1;rw [jN,List.getElem?_append_right (by simp;omega),Array.length_toList,this,show(i+1)*32+j-32=i*32+j by omega];exact jB hi hj
theorem Cn{l:List HT}{j:Nat}{v:Value}(h:(cC l)[j]? =some v):∃x,l[j/32]? =some x/\x.1[j%32]? =some v:=by
 have hj:=(lgeS h).1;rw [dD]at hj;have hi:j/32<l.length:=by omega
 refine⟨l[j/32],List.getElem?_eq_getElem hi,?_⟩;have hs:=l[j/32].2.1;have hm:j%32<l[j/32].1.size:=by rw [hs];omega
 obtain⟨u,hu⟩:∃u,l[j/32].1[j%32]? =some u:=⟨_,Array.getElem?_eq_getElem hm⟩;have:=jB (List.getElem?_eq_getElem hi) hu;rw [show j/32*32+j%32=j by omega,h]at this;rw [hu,this]
theorem nv:Bb prog aV ax 32 32:=⟨by kernel_rfl,by kernel_rfl⟩
abbrev cr(w:World)(B:Nat)(A:Option Addr)(n c:Nat)(l:List HT):Prop:=Row w B ax 32 A n c (cC l)
section
variable{w w':World}{B:Nat}{A:Option Addr}{n c:Nat}{l:List HT}
theorem cr.len(h:cr w B A n c l):l.length=n:=by
 have:=Row.len h;rw [dD]at this;omega
theorem cr.hs(h:cr w B A n c l):HS w A n l:=⟨h.len,fun i x hi=>by
 have hlen:=h.len;have fc:=(lgeS hi).1;obtain⟨b,rfl⟩:=Row.some h (by omega);obtain⟨_,cur,vE⟩:=Row.bS h (k:=b) rfl;refine⟨_,rfl,aZ vE,fun j v hj=>?_⟩;rw [tF];exact Row.cells h _ _ (jB hi hj)⟩
theorem cr.nil(w:World)(B:Nat):cr w B none 0 0 []:=Row.nil _ _ _ _
theorem HS.cells{a:Addr}(h:HS w (some a) n l):∀j u,(cC l)[j]? =some u->w.cell? (a.add j)=some u:=by
 intro j u hj;obtain⟨x,hx,hu⟩:=Cn hj;obtain⟨a',ha,_,hc⟩:=h.at_ _ x hx;cases ha;have:=hc _ _ hu
 rwa [tF,show j/32*32+j%32=j by omega]at this
theorem HS.nil(w:World)(A:Option Addr):HS w A 0 []:=⟨rfl,fun i x hi=>by simp at hi⟩
theorem HS.none(h:HS w none n l):n=0/\l= []:=by
 cases l with
 |nil=>exact⟨h.len.symm,rfl⟩
 |cons x l=>obtain⟨a,ha,_⟩:=h.at_ 0 x rfl;cases ha
theorem HS.drop(h:HS w A n l){k:Nat}(hc:n<=c)(hk:k<=n):HS w (if c=k then A else A.map (·.add (k*32))) (n-k) (l.drop k):=⟨by have:=h.len;simp;omega,fun i x hi=>by
 rw [List.getElem?_drop]at hi;have hlen:=h.len;have:=(lgeS hi).1;obtain⟨a,rfl,hb,vF⟩:=h.at_ _ x hi;rw [if_neg (by omega)];refine⟨_,rfl,by rw [iy];exact hb,?_⟩;rw [tF,<-Nat.add_mul];exact vF⟩
theorem HS.one{w:World}{b:Nat}{h:HT}{t:TypeId}{fr:Nat×Nat}(hb:w.heap[b]? =some (.cells h.1 t fr)):HS w (some ⟨b,0,Option.none⟩) 1 [h]:=⟨rfl,fun i x hi=>by
 cases i with
 |zero=>
  simp only [List.getElem?_cons_zero,Option.some.injEq]at hi;subst hi;exact⟨_,rfl,aZ hb,by rw [Nat.zero_mul,add_zero];exact Cells.bS hb⟩
 |succ i=>simp at hi⟩
theorem gw(ty:Nat)(h:cr w B A n c l){A2:Option Addr}{m cx:Nat}{l2:List HT}(h2:HS w A2 m l2)(hm:n+m<=1000000)(hB:B<=w.heap.size):
 ∃A' c' w',(Builtin.append_ #[aV,aV] ty #[.slice A n c,.slice A2 m cx]).run prog w=.ok (.slice A' (n+m) c') w'/\
  cr w' B A' (n+m) c' (l++l2)/\w.grownBy w' (bp A)/\(∀k,bp A'=some k->bp A=some k\/w.heap.size<=k):=by
 cases A2 with
 |some a=>
  have vB:=h2.len;obtain⟨A',c',w',hr,fV,hg,hb⟩:=iu (P:=prog) (t:=aV) (bytes:=32) (ty:=ty) nv h (a:=a) (m:=m) (cx:=cx) (news:=cC l2) (by rw [dD,vB]) h2.cells (zg l2) (by omega) (by unfold maxLen;omega) hB;refine⟨A',c',w',hr,?_,hg,hb⟩;rw [<-kR]at fV;exact fV
 |none=>
  obtain⟨rfl,rfl⟩:=h2.none;refine⟨A,c,w,?_,by simpa using h,⟨rfl,rfl,rfl,Nat.le_refl _,fun _ _ _=>rfl⟩,fun k hk=>.inl hk⟩;obtain⟨i,z,hi,hz,hs,FU,FE⟩:=nv.inf;have hn:n<=c:=by rcases Row.own h with⟨_,h1,h2,_⟩|⟨_,_,_,_,_,h1,_⟩<;>omega
  simp [Builtin.append_,run_underlying nv.mY,sizeOf,typeInfo,hi,Builtin.lenOf,Builtin.firstCells,hn];cases A<;>simp [storeCells]
end
theorem HS.load{w:World}{A:Option Addr}{n:Nat}{l:List HT}(hl:HS w A n l){i:Int}{x:HT}(h0:0<=i)(hx:l[i.toNat]? =some x){k:Array Value->Prop}(hk:k x.1):
 (0<=i/\i<(n:Int))/\Is A fun a=>∃t:Array Value,(t.size=32/\Cells w (a.add (i.toNat*32)) t)/\k t:=by
 obtain⟨a,rfl,_,hc⟩:=hl.at_ _ x hx;have:=(lgeS hx).1;have:=hl.len;exact⟨⟨h0,by omega⟩,x.1,⟨x.2.1,hc⟩,hk⟩
theorem AX{a b:HT}:(mT a b<0)↔cJ a b=true:=by
 unfold mT;by_cases h:cJ a b=true
 ·simp [h]
 ·by_cases h':cJ b a=true<;>simp [h,h']
theorem eJ{n:Int}(h0:0<=n)(h1:n<=2000000):i64.wrap (n+1)=n+1:=iI (by omega) (by omega)
theorem wrapM{n:Int}(h0:0<=n)(h1:n<=2000000):i64.wrap (n-1)=n-1:=iI (by omega) (by omega)
theorem Kept.pR{w w' lg:World}{A:Option Addr}(h:Kept Nil w w')(hg:w'.grownBy lg (bp A))(hr:∀k,bp A=some k->w.heap.size<=k):Kept Nil w lg:=
 Kept.grown h hg fun k hk cJ=>absurd (hr k hk) (by omega)
section
variable{w:World}{K:Value->World->Prop}
end
theorem jG{w:World}{k l:Nat}{cs:Array Value}{t:TypeId}{fr:Nat×Nat}{R:Loop}(h:w.heap[k]? =some (.cells cs t fr))(h':w.heap[l]? =some (.loop R)):k≠l:=by
 rintro rfl;rw [h]at h';cases h'
theorem vp{w:World}{k l:Nat}{cs:Array Value}{t:TypeId}{fr:Nat×Nat}{d:Option (List Deferred)}(h:w.heap[k]? =some (.cells cs t fr))(h':w.heap[l]? =some (.deferred d)):k≠l:=by
 rintro rfl;rw [h]at h';cases h'
theorem Row.apart{w w':World}{B:Nat}{e:TypeId}{size:Nat}{A:Option Addr}{n c:Nat}{xs:List Value}(h:Row w B e size A n c xs){l:Nat}(hk:Kept (· =l) w w')
 (hl:∀cs t fr,w.heap[l]? ≠some (.cells cs t fr)):Row w' B e size A n c xs:=Row.aK h hk fun k hb e=>by
 subst e;obtain⟨_,cur,hc⟩:=Row.bS h hb;exact hl _ _ _ hc
abbrev pV(h:HT):List Value:= [.agg h.1]
section
variable{w:World}{K:Value->World->Prop}
theorem wk(p:Addr){A:Option Addr}{n c:Nat}{l:List HT}(hn:n<=1000000):
 lY prog aC.id #[] #[.pointer (some p)] (l.map pV) (fun w=>HS w A n l/\w.cell? p=some (.slice A n c)):=by
 intro y I D w0 hI hD pO h0 oZ;refine aC.of ?_;obtain⟨vC,Mr⟩:=pO 0 w0 h0;have hlen:=vC.len;refine⟨A,n,c,Mr,?_⟩;refine aC.cf (I:=fun s w'=>∃i:Nat,s=(i:Int)/\i<=n/\I i w') (μ:=fun s _=>((n:Int)-s).toNat) (s:=0) ⟨0,rfl,Nat.zero_le _,h0⟩ ?_;rintro s w' ⟨i,rfl,hi,hw⟩;refine Split.dec (fun lH=>?_) (fun iK=>?_)
 ·have fc:i<n:=by omega
  obtain⟨x,hx⟩:∃x,l[i]? =some x:=⟨_,List.getElem?_eq_getElem (by omega)⟩;have hl:=(pO i w' hw).1;refine hl.load (i:=(i:Int)) (by omega) hx ?_;intro w10;obtain⟨ry,hb,hk⟩:=gg (w:=w') (z:=(yT 0)) (cs:=x.1) (t:=ax) (by rw [x.2.1];rfl);refine⟨⟨x.2.1,x.2.one,fun j hj=>ry j (by rw [x.2.1];exact hj)⟩,?_⟩;intro p6
  replace hb:p6.heap[w'.heap.size]? =some (.cells x.1 ax (0,0)):=hb
  replace hk:Kept Nil w' p6:=hk
  clear_value p6;refine⟨x.1,⟨x.2.1,Cells.bS hb⟩,?_⟩;refine(oZ i (pV x) p6 (by rw [List.getElem?_map,hx];rfl) (hI i w' p6 hw hk)).mono ?_;rintro b lg ⟨ht,hf⟩;cases b with
  |true=>
   refine Split.no rfl ?_;rw [eJ (n:=(i:Int)) (by omega) (by omega)];exact⟨(i:Int)+1,rfl,⟨i+1,rfl,fc,ht rfl⟩,by simp only;omega⟩
  |false=>
   refine Split.yes rfl ?_;exact Or.inr (hf rfl)
 ·rw [aX,aC.dA]
  have e:i=n:=by omega
  subst e;refine Or.inl ?_;rw [List.length_map,hlen];exact hw
theorem uq{gf:FuncId}{fh:Array Value}{xs:List HT}{fn:Func}(FT:prog.funcs[gf]? =some fn)(hb:fn.body.isSome){F5:World->Prop}
 (hit:lY prog gf #[] fh (xs.map pV) F5) (hp:∀w',Kept Nil w w'->F5 w') (GU:xs.length<=1000000)
 (hK:∀A c w',cr w' w.heap.size A xs.length c xs->Kept Nil w w'->K (.slice A xs.length c) w'):
 bm prog aG.id #[.slice none 0 0,.func (.func gf) #[] fh] w K:=by
 refine aG.of ?_;unfold aG.W;intro w3;have k3:Kept Nil w w3:=(Kept.refl Nil w).alloc _;have o6:w3.heap[w.heap.size]? =some (.cells #[.slice none 0 0] aV (0,0)):=aR w _;have G1:w.heap.size<w3.heap.size:=aZ o6;clear_value w3
 let ρ0:Env:= [(2,.pointer (some (aU w.heap.size))),(4,.slice none 0 0),(6,.func (.func gf) #[] fh)]
 let J:Nat->World->Prop:=fun i w'=>∃A c,w'.heap[w.heap.size]? =some (.cells #[.slice A i c] aV (0,0))/\cr w' w.heap.size A i c (xs.take i)/\Kept Nil w w'/\i<=xs.length/\∀k,bp A=some k->k≠w.heap.size
 refine mu (ρ:=ρ0) (ρ0:=ρ0) ng mix aG.k (t:=6) (ps:= #[7]) (by kernel_rfl) (by decide) rfl FT hb (.inl rfl) (fun i v _ h=>h) rfl pV xs (fun _=>rfl) (by simp [fP]) hit J (fun _ _=>False) ?_ (fun _ _ _ _ _ h=>h.elim) (fun i w' h=>hp w' (let ⟨_,_,_,_,h,_⟩:=h;h)) ?_ ?_ ?_ (fun _ _ h=>h.elim) (fun _ _ _ h=>h.elim)
 ·rintro i w' lg R hl ⟨A,c,h1,h2,h3,h4,h5⟩ hk
  exact⟨A,c,hk.heap h1 (jG h1 hl.loop),Row.apart h2 hk (fun cs t fr h=>by rw [hl.loop]at h;cases h),h3.trans hk (fun k hk e=>by omega),h4,h5⟩
 ·intro R
  exact⟨none,0,jF (jF o6 _) _,cr.nil _ _,(k3.alloc _).alloc _,Nat.zero_le _,fun k hk=>by cases hk⟩
 ·rintro i x w' R hx ⟨A,c,h1,h2,h3,h4,h5⟩ hl
  have fc:i<xs.length:=(lgeS hx).1;have e7:jX ρ0 ((#[7]:Array Nat).toList.zip (pV x))= [(2,.pointer (some (aU w.heap.size))),(4,.slice none 0 0),(6,.func (.func gf) #[] fh),(7,.agg x.1)]:=rfl;rw [e7,aG.a1];unfold aG.A1;intro w8;obtain⟨ry,jw,jg⟩:=gg (w:=w') (z:=(yT 0)) (cs:=x.1) (t:=ax) (by rw [x.2.1];rfl);refine⟨⟨x.2.1,x.2.one,fun j hj=>ry j (by rw [x.2.1];exact hj)⟩,?_⟩;intro Bn
  replace jw:Bn.heap[w'.heap.size]? =some (.cells x.1 ax (0,0)):=jw
  replace jg:Kept Nil w' Bn:=jg
  clear_value Bn;have Hd:=hl.aK jg (fun h=>h) (fun h=>h);refine⟨Hd,fun w2 R2 mP vB=>?_⟩;have VQ:=mP.heap jw (jG jw Hd.loop);have ZU:=jg.heap h1 (fun h=>h);have C6:=mP.heap ZU (jG ZU Hd.loop);have zm:cr w2 w.heap.size A i c (xs.take i):=Row.apart (Row.aK h2 jg (fun _ _ h=>h)) mP (fun cs t fr h=>by rw [Hd.loop]at h;cases h);have WI:Kept Nil w w2:=(h3.tt jg).trans mP (fun k hk e=>by omega);have cJ:w.heap.size<w2.heap.size:=aZ C6;rw [aG.y1];unfold aG.Y1;refine⟨A,i,c,by rw [aD C6];rfl,x.1,⟨x.2.1,Cells.bS VQ⟩,x.2.1,?_⟩;intro lu;have tW:Kept Nil w2 lu:=(Kept.refl _ _).alloc _;have lr:HS lu (some ⟨w2.heap.size,0,none⟩) 1 [x]:=by
   refine HS.one (t:=ax) (fr:=(0,0)) ?_;have e3:lu=w2.alloc (.cells x.1 ax):=by
    show w2.alloc (.cells (x.1.toList++ []).toArray ax)=_
    simp
   rw [e3];exact aR w2 _
  clear_value lu;have Hz:cr lu w.heap.size A i c (xs.take i):=Row.aK zm tW (fun _ _ h=>h);have WK:=tW.heap C6 (fun h=>h);have acd:=tW.size;obtain⟨A',c',vW,hr,lN,hg,uf⟩:=gw (cx:=1) aV Hz lr (by omega) (by omega);have K5:Kept (fun k=>bp A=some k) lu vW:=Kept.grown (Kept.refl _ _) hg (fun k hk _=>hk);have HA:=K5.heap WK (fun h=>h5 _ h rfl);have KV:Live (w3.heap.size+1) w3.heap.size R2 vW:=by
   have KW:=vB.aK tW (fun h=>h) (fun h=>h);refine KW.aK K5 ?_ ?_
   ·intro h
    obtain⟨_,cur,hc⟩:=Row.bS Hz h;exact jG hc KW.loop rfl
   ·intro h
    obtain⟨_,cur,hc⟩:=Row.bS Hz h;exact vp hc KW.mark rfl
  have Ih:Kept Nil w vW:=(WI.tt tW).trans K5 (fun k hk e=>by
   obtain⟨h,_⟩:=Row.bS Hz e;omega)
  refine⟨A',_,c',vW,hr,dK HA (by simp),?_⟩;intro qc;have Az:Kept (· =w.heap.size) vW qc:=Kept.setCell (S:=fun k=>k=w.heap.size) (Kept.refl _ vW) (p:=⟨w.heap.size,0,none⟩) (fun _=>rfl) _;have Wb:qc.heap[w.heap.size]? =some (.cells #[.slice A' (i+1) c'] aV (0,0)):=cX HA 0 _;clear_value qc;have Cr:∀k,bp A'=some k->k≠w.heap.size:=fun k hk=>by
   rcases uf k hk with h|h
   ·exact h5 k h
   ·omega
  refine⟨KV.aK Az (jG HA KV.loop).symm (vp HA KV.mark).symm,A',c',Wb,?_,Ih.trans Az (fun k hk e=>by omega),fc,Cr⟩;rw [List.take_add_one,hx];exact Row.aK lN Az Cr
 ·rintro w' R ⟨A,c,h1,h2,h3,h4,h5⟩ hl
  have e7:gh ρ0 w3.heap.size= [(2,.pointer (some (aU w.heap.size))),(4,.slice none 0 0),(6,.func (.func gf) #[] fh),(4294967296,.agg #[.pointer (some ⟨w3.heap.size,0,none⟩)])]:=rfl;rw [e7,aG.jy];refine⟨A,xs.length,c,by rw [aD h1];rfl,⟨hl.mark,trivial⟩,?_⟩;have kp:Kept (· =w3.heap.size) w' (w'.putObj w3.heap.size (.deferred none)):=Kept.putAt _ _ _;refine hK A c _ ?_ (h3.trans kp (fun k hk e=>by omega));have:=Row.apart h2 kp (fun cs t fr h=>by rw [hl.mark]at h;cases h)
  rwa [List.take_of_length_le (Nat.le_refl _)]at this
theorem zy{gf:FuncId}{fh:Array Value}{xs:List HT}{fn:Func}(FT:prog.funcs[gf]? =some fn)(hb:fn.body.isSome){F5:World->Prop}
 (hit:lY prog gf #[] fh (xs.map pV) F5) (hp:∀w',Kept Nil w w'->F5 w') (GU:xs.length<=1000000)
 (hK:∀A c w',cr w' w.heap.size A xs.length c xs->Kept Nil w w'->K (.slice A xs.length c) w'):
 bm prog cy.id #[.func (.func gf) #[] fh] w K:=by
 refine cy.of (uq FT hb hit hp GU fun A c w' h1 h2=>⟨_,_,_,rfl,hK A c w' h1 h2⟩)
end
open Go.Sort
instance:Inhabited HT:=⟨⟨Array.replicate 32 (.int .u8 0),by simp,fun v hv=>⟨0,by simpa using hv,by omega,by omega⟩⟩⟩
abbrev lJ(h:HT):List Value:=h.1.toList
theorem xH(h:HT):(lJ h).length=32:=by have:=h.2.1;simpa using this
theorem tg(d:Array HT):(flatK lJ 32 d).toList=cC d.toList:=by
 apply List.ext_getElem?;intro t;by_cases ht:t<d.size*32
 ·have hi:t/32<d.size:=by omega
  have hx:d.toList[t/32]? =some d[t/32]:=by rw [Array.getElem?_toList,Array.getElem?_eq_getElem hi]
  have hs:t%32<d[t/32].1.size:=by rw [d[t/32].2.1];omega
  have h1:=jB hx (Array.getElem?_eq_getElem hs);rw [show t/32*32+t%32=t by omega]at h1;rw [h1];have h2:t<(flatK lJ 32 d).size:=by rw [size_flatK];exact ht
  have h3:=get_flatK lJ 32 d t ht;rw [getElem!_pos _ t h2]at h3;rw [Array.getElem?_toList,Array.getElem?_eq_getElem h2,h3,getElem!_pos d _ hi];rw [getElem!_pos _ _ (by rw [xH];omega)];simp [lJ]
 ·rw [List.getElem?_eq_none (by simp;omega),List.getElem?_eq_none (by rw [dD];simp;omega)]
theorem DI{F cur:Array Value}{k:Nat}(hk:F.size=k)(h:k<=cur.size):(putCells id 0 F cur).toList.take k=F.toList:=by
 apply List.ext_getElem?;intro i;rw [List.getElem?_take];split
 ·rename_i hi
  have h1:i<cur.size:=by omega
  have h2:i<F.size:=by omega
  rw [Array.getElem?_toList,Array.getElem?_toList,putCells,Array.getElem?_mapIdx,Array.getElem?_eq_getElem h1,Array.getElem?_eq_getElem h2];simp [h2]
 ·rw [List.getElem?_eq_none (by simp;omega)]
theorem tT{w:World}{b:Nat}{f:Array Value->Array Value}{cur:Array Value}{t:TypeId}{fr:Nat×Nat}(h:w.heap[b]? =some (.cells cur t fr)):(mapBlock w b f).heap[b]? =some (.cells (f cur) t fr):=by
 simp [mapBlock,Array.getElem?_modify,h,onCells]
theorem tR(w:World)(b:Nat)(f:Array Value->Array Value):Kept (· =b) w (mapBlock w b f):=
 ⟨rfl,rfl,rfl,by simp [mapBlock],fun k _ hn=>by simp [mapBlock,Array.getElem?_modify,Ne.symm hn]⟩
theorem Ct(w:World)(os:Array Obj):Kept Nil w (grow w os):=
 ⟨rfl,rfl,rfl,by simp,fun k hk _=>heap_grow_old w os hk⟩
theorem zL(w:World)(m:Nat):Kept Nil w (Sort.ahead w m):=⟨rfl,rfl,rfl,Nat.le_refl _,fun _ _ _=>rfl⟩
section
variable{w:World}{B n c b:Nat}{l:List HT}
theorem tO(row:cr w B (some ⟨b,0,none⟩) n c l)(m:Nat)(dk:Array HT)(os:Array Obj)(hd:dk.size=n):
 cr (sortWorldK lJ 32 w b 0 m dk os) B (some ⟨b,0,none⟩) n c dk.toList/\Kept (· =b) w (sortWorldK lJ 32 w b 0 m dk os):=by
 have hka:=zL w m;have k1:=tR (Sort.ahead w m) b (putCells id 0 (flatK lJ 32 dk));have kk:=((hka.mono (S':=fun k=>k=b) (fun _ _ h=>h.elim)).tt k1).trans (Ct _ os) (fun _ _ h=>h.elim);refine⟨?_,?_⟩
 ·rcases Row.own row with⟨h,_⟩|⟨b',cur,hA,hB,hg,Cj,mI,mH,yV⟩
  ·cases h
  ·cases hA
   refine⟨by rw [dD,Array.length_toList,hd],.inr ⟨b,c,putCells id 0 (flatK lJ 32 dk) cur,rfl,hB,?_,Cj,mI,by simp [putCells,mH],?_⟩⟩
   ·have h1:(mapBlock (Sort.ahead w m) b (putCells id 0 (flatK lJ 32 dk))).heap[b]? =some (.cells (putCells id 0 (flatK lJ 32 dk) cur) ax (0,0)):=tT hg
    exact(heap_grow_old _ os (aZ h1)).trans h1
   ·rw [<-tg]
    refine DI (by rw [size_flatK,hd]) ?_;rw [mH];exact Nat.mul_le_mul_right _ Cj
 ·exact kk
theorem y7(row:cr w B (some ⟨b,0,none⟩) n c l):HoldsK lJ 32 w b 0 l.toArray:=by
 intro j hj;rw [size_flatK]at hj;have uW:j<l.length*32:=by simpa using hj
 rw [Nat.zero_add];have hlen:=Row.len row;have hx:(flatK lJ 32 l.toArray).toList[j]? =(cC l)[j]? :=by rw [tg]
 have Zf:j<(flatK lJ 32 l.toArray).size:=by rw [size_flatK];exact hj
 rw [Array.getElem?_toList,Array.getElem?_eq_getElem Zf]at hx;have hc:=Row.cell row hx.symm;refine⟨?_,?_⟩
 ·rw [hc,getElem!_pos _ j Zf];rfl
 ·exact(Row.wr row (j:=j) (by rw [dD];exact uW)).2
theorem nK(x y:HT):ltOf mT x y=cJ x y:=by
 unfold ltOf;cases h:cJ x y
 ·exact decide_eq_false fun h'=>by rw [AX.1 h']at h;cases h
 ·exact decide_eq_true (AX.2 h)
theorem le_trans'{x y z:HT}(h:cJ y x=false)(h':cJ z y=false):cJ z x=false:=by
 cases Oi:cJ z x
 ·rfl
 ·exfalso
  by_cases e:y=z
  ·subst e;rw [h]at Oi;cases Oi
  ·have Mi:=lt_of_le_ne h' e
   have:=kH Mi Oi;rw [h]at this;cases this
theorem SU:SWO (ltOf mT) where
 irrefl x:=by rw [nK];exact hZ x
 trans x y z h h':=by rw [nK]at*;exact kH h h'
 ntrans x y z h h':=by
  rw [nK]at*;exact le_trans' h' h
theorem Gi{A:Option Addr}{K:Value->World->Prop}(row:cr w B A n c l)(hn:n<=1000000)
 (hK:∀l' w',LE l'->(∀x,x∈l'↔x∈l)->cr w' B A n c l'->Kept (fun k=>bp A=some k) w w'->K (.tuple #[]) w'):
 bm prog gQ.id #[.slice A n c,.func (.func cU.id) #[] #[]] w K:=by
 have hlen:=row.len;by_cases h0:n=0
 ·subst h0
  have h:=AnyF.slices_SortFunc_none Tryz.uB A c (.func (.func cU.id) #[] #[]) w;refine Calls.mono h ?_;rintro e w' ⟨rfl,rfl⟩;have:l= []:=List.eq_nil_of_length_eq_zero hlen;subst this;exact⟨_,rfl,hK [] _ List.Pairwise.nil (fun _=>Iff.rfl) row (Kept.refl _ _)⟩
 ·obtain⟨b,rfl⟩:=Row.some row (by omega)
  have hblk:b<w.heap.size:=by
   obtain⟨_,cur,hc⟩:=Row.bS row (k:=b) rfl;exact aZ hc
  have nN:l.toArray.size=n:=by simpa using hlen
  have eg:∀args w,(callFunc cU.id args).run prog w=.ok (.enter cU.id args) w:=enters_of cU.at_ (by kernel_rfl) rfl;have hk:lE prog ax=.agg 32:=by kernel_rfl
  obtain⟨WZ,ha⟩:=pL hk;obtain⟨i,hi⟩:=Go.bE.info_of_underlying (P:=prog) (t:=ax) (by kernel_rfl);have VI:CmpLays prog cU.id #[] lJ 32 mT b 0 l.toArray.size w:=fun m os dk _ x y=>by
   have e:(#[.agg (lJ x).toArray,.agg (lJ y).toArray]++ #[]:Array Value)= #[.agg x.1,.agg y.1]:=by simp [lJ]
   rw [e];have h:=nU (w:=sortWorldK lJ 32 w b 0 m dk os) x y (K:=fun v w'=>v=.int .i64 (mT x y)/\w'=(((sortWorldK lJ 32 w b 0 m dk os).alloc (.cells x.1 ax)).alloc (.cells y.1 ax)).drew) ⟨rfl,rfl⟩;refine Calls.mono h ?_;rintro e w' ⟨v,rfl,rfl,rfl⟩;refine⟨rfl,1,#[.cells x.1 ax,.cells y.1 ax],?_⟩;rw [alloc_eq_grow,alloc_eq_grow,grow_grow,drew_grow];rfl
  have h:=AnyQ.slices_SortFunc_total Tryz.uB 32 ha (fun w=>by rw [WZ];exact Go.bE.run_sizeOf hi w) lJ xH (fun x=>x.2.one) mT SU cU.id #[] b 0 c l.toArray w eg VI (y7 row) hblk (by omega)
   (fun x y h1 h2=>by rw [nK]at h1 h2;exact ox h1 h2)
  rw [nN]at h;refine Calls.mono h ?_;rintro e w' ⟨rfl,m,os,rfl⟩;have hp:=List.mergeSort_perm l.toArray.toList (fun x y=> !(ltOf mT) y x);have FO:(l.toArray.toList.mergeSort fun x y=> !(ltOf mT) y x).toArray.size=n:=by
   have:=hp.length_eq;simp only [List.size_toArray];rw [this];simpa using hlen
  obtain⟨h1,h2⟩:=tO row m _ os FO;refine⟨_,rfl,hK _ _ ?_ (fun x=>?_) h1 (h2.mono fun k _ e=>by rw [e];rfl)⟩
  ·have hs:=List.pairwise_mergeSort (le:=fun x y=> !(ltOf mT) y x) (fun a b c h h'=>by
    rw [nK]at*;simp only [Bool.not_eq_true']at*;exact le_trans' h h') (fun a b=>by
    rw [nK,nK];cases mJ:cJ b a
    ·rfl
    ·rw [qC mJ];rfl) l.toArray.toList
   refine List.Pairwise.imp ?_ hs;intro a b mJ;rw [nK]at mJ;simpa using mJ
  ·simp
end
end Go.Proofs.YtfleamccglihoaaGreatDoor
namespace Go.Proofs.YtfleamccglihoaaGreatDoor
open Go.Proofs.Tryz
open Go Go.bE Go.RowKit
theorem zf{l:List HT}{k:Nat}(hk:k<l.length)(x:HT):cC (l.set k x)=gm (cC l) (k*32) x.1.toList:=by
 have h1:l=l.take k++l[k]::l.drop (k+1):=by rw [<-List.drop_eq_getElem_cons hk,List.take_append_drop]
 have e1:(cC (l.take k)).length=k*32:=by rw [dD,List.length_take];omega
 have hx:=x.2.1;have hl:=l[k].2.1;have hs:l.set k x=l.take k++x::l.drop (k+1):=List.set_eq_take_append_cons_drop .. |>.trans (if_pos hk)
 rw [hs]
 conv=>rhs;rw [h1]
 rw [kR,kR,jN,jN];generalize cC (l.take k)=p at e1;generalize cC (l.drop (k+1))=r;have eq:l[k].1.toList.length=32:=by simpa using hl
 have ev:x.1.toList.length=32:=by simpa using hx
 generalize l[k].1.toList=q at eq;generalize x.1.toList=v at ev;unfold gm;rw [List.take_left' e1,ev,show p++(q++r)=(p++q)++r by simp,List.drop_left' (by rw [List.length_append,e1,eq])];simp
theorem cr.setAt{w:World}{B n c b:Nat}{l:List HT}(row:cr w B (some ⟨b,0,none⟩) n c l){k:Nat}(hk:k<n)(x:HT):
 cr (setCells w ⟨b,k*32,none⟩ x.1.toList 0) B (some ⟨b,0,none⟩) n c (l.set k x):=by
 have hlen:=row.len;have hx:=x.2.1;have:=pr x.1.toList (cC l) w (k*32) 0 row (by rw [dD];simp;omega);rw [Nat.add_zero]at this;rw [<-zf (by omega)]at this;exact this
theorem cr.Jl{w:World}{B n c b:Nat}{l:List HT}(row:cr w B (some ⟨b,0,none⟩) n c l){k:Nat}(hk:k<n)(j:Nat)(hj:j<32):Wr w ((⟨b,k*32,none⟩:Addr).add j):=by
 rw [bu];refine Row.wr row ?_;rw [dD,row.len];omega
theorem cr.cap{w:World}{B:Nat}{A:Option Addr}{n c:Nat}{l:List HT}(row:cr w B A n c l):n<=c:=by
 rcases Row.own row with⟨_,h1,h2,_⟩|⟨_,_,_,_,_,h1,_⟩<;>omega
theorem cr.cut{w w':World}{B n c b:Nat}{l:List HT}(row:cr w B (some ⟨b,0,none⟩) n c l){k:Nat}(hk:k<=n)(vs:List Value)(hv:vs.length=(n-k)*32)(hw:w'=setCells w ⟨b,k*32,none⟩ vs 0):
 cr w' B (some ⟨b,0,none⟩) k c (l.take k):=by
 subst hw;have hlen:=row.len;rcases Row.own row with⟨h,_⟩|⟨b',cur,hA,hB,hg,Cj,mI,mH,yV⟩
 ·cases h
 ·cases hA
  have hle:n*32<=c*32:=Nat.mul_le_mul_right _ Cj;have nN:k*32+0+vs.length<=cur.size:=by omega
  have h1:=jo vs cur w ax (k*32) 0 hg nN;refine⟨by rw [dD,List.length_take];omega,.inr ⟨b,c,_,rfl,hB,h1,by omega,mI,?_,?_⟩⟩
  ·have:=mh (xs:=cur.toList) (k:=k*32+0) (vs:=vs) (by simpa using nN)
   rw [List.size_toArray,this];simpa using mH
  ·have e1:(cC (l.take k)).length=k*32:=by rw [dD,List.length_take];omega
   have e2:(cC l).take (k*32)=cC (l.take k):=by
    conv=>lhs;rw [<-List.take_append_drop k l,kR]
    rw [<-e1,List.take_left'];rfl
   rw [<-e2,<-yV,List.take_take,Nat.min_eq_left (by omega)];unfold gm;simp only [Nat.add_zero];rw [List.append_assoc,List.take_append_of_le_length (by simp;omega),List.take_take,Nat.min_self]
def zV(P:Program)(e:TypeId):Bool:=
 match P.info? e with
 |some i=>match i.zero with
  |some z=>z.cells.toList.all fun v=>v.oneCell'
  |none=>false
 |none=>false
theorem r8{w:World}{B n c b:Nat}{l:List HT}(row:cr w B (some ⟨b,0,none⟩) n c l){k:Nat}(hk:k<=n)(ty:Nat){A:Option Addr}{cx:Nat}(hA:k<n->A=some ⟨b,k*32,none⟩):
 ∃w',(Builtin.clear_ #[aV] ty #[.slice A (n-k) cx]).run prog w=.ok (.tuple #[]) w'/\cr w' B (some ⟨b,0,none⟩) k c (l.take k)/\Kept (· =b) w w':=by
 have hlen:=row.len;by_cases ud:k<n
 ·obtain⟨i,z,hi,hz,hs,_,FE⟩:=nv.inf
  have G9:zV prog ax=true:=by kernel_rfl
  unfold zV at G9;rw [hi]at G9;simp only [hz,List.all_eq_true]at G9;rw [hA ud];obtain⟨m,hm⟩:∃m,n-k=m+1:=⟨n-k-1,by omega⟩;have TY:(Builtin.zeroCells z.cells (n-k)).toList.length=(n-k)*32:=by simp [Builtin.zeroCells,FE]
  have ow:=gD (P:=prog) ⟨b,k*32,none⟩ (Builtin.zeroCells z.cells (n-k)).toList 0 w (fun v hv=>by
   simp only [Builtin.zeroCells,Array.toList_map,List.mem_map]at hv;obtain⟨t,ht,rfl⟩:=hv;have:t%z.cells.size<z.cells.size:=Nat.mod_lt _ (by omega);rw [getElem!_pos z.cells _ this];exact G9 _ (by simp)) (fun j hj=>by
   rw [Nat.zero_add,bu];refine Row.wr row ?_;rw [dD];omega)
  refine⟨_,?_,row.cut hk _ TY rfl,fT _ _ _ _⟩;simp only [Builtin.clear_,hm];rw [hm]at ow;simp [run_underlying nv.mY,zeroValue,typeInfo,hi,hz,ow]
 ·have:n=k:=by omega
  subst this;refine⟨w,?_,by rw [List.take_of_length_le (by omega)];exact row,Kept.refl _ _⟩;rw [Nat.sub_self];cases A<;>simp [Builtin.clear_,run_underlying nv.mY]
theorem Bu:∀ {l:List HT},l.length<2->dg l=l
 | [],_=>rfl
 | [_],_=>rfl
 |_::_::_,h=>by simp only [List.length_cons]at h;omega
section
variable{w:World}{B n c:Nat}{A:Option Addr}{l:List HT}{K:Value->World->Prop}
theorem zx(row:cr w B A n c l)(hle:LE l)(hn:n<=400000)
 (hK:∀A' c' w',cr w' B A' (dg l).length c' (dg l)->(∀k,bp A'=some k->bp A=some k)->Kept (fun k=>bp A=some k) w w'->K (.slice A' (dg l).length c') w'):
 bm prog ag.id #[.slice A n c] w K:=by
 have hlen:=row.len;refine ag.of ?_;refine Split.dec (fun h2=>?_) (fun h2=>?_)
 ·have e:dg l=l:=Bu (by omega)
  have:=hK A c w (by rw [e,hlen];exact row) (fun k h=>h) (Kept.refl _ _);rw [e,hlen]at this;exact this
 obtain⟨b,rfl⟩:=Row.some row (by omega);have VP:=row.cap;refine ag.cf (I:=fun s w'=>∃k:Nat,s=(none,0,0,(k:Int))/\1<=k/\k<=n/\SS (l.take k)/\Kept Nil w w') (μ:=fun s _=>((n:Int)-s.2.2.2).toNat) (s:=(none,0,0,1))
  ⟨1,rfl,Nat.le_refl _,by omega,?_,Kept.refl _ _⟩ ?_
 ·cases l with
  |nil=>exact List.Pairwise.nil
  |cons x l=>simp [SS]
 rintro s w' ⟨k,rfl,He,ud,vy,kw⟩;refine Split.dec (fun lH=>?_) (fun iK=>?_)
 ·simp only at lH
  have C0:k<n:=by omega
  obtain⟨x,hx⟩:∃x,l[k]? =some x:=⟨_,List.getElem?_eq_getElem (by omega)⟩;obtain⟨y,hy⟩:∃y,l[k-1]? =some y:=⟨_,List.getElem?_eq_getElem (by omega)⟩;intro w5;have k5:Kept Nil w w5:=kw.drew;clear_value w5;have qo:cr w5 B (some ⟨b,0,none⟩) n c l:=Row.aK row k5 (fun _ _ h=>h);simp only;rw [wrapM (n:=(k:Int)) (by omega) (by omega)];have l9:cJ x y=false:=hle.get (by omega) hy hx;refine qo.hs.load (i:=(k:Int)) (by omega) hx (qo.hs.load (i:=(k:Int)-1) (by omega) (by rw [show((k:Int)-1).toNat=k-1 by omega];exact hy) ⟨⟨x.2.ints,y.2.ints⟩,?_⟩);rw [gA];refine Split.dec (fun he=>?_) (fun he=>?_)
  ·refine⟨⟨by omega,by omega⟩,?_⟩
   rw [Int.toNat_natCast];rw [if_neg (show ¬c=k by omega)];simp only [Option.map_some,bu,Nat.zero_add];refine ag.iN (I:=fun s w'=>∃(p j:Nat) (l':List HT),s=((p:Int),(j:Int))/\1<=j/\k<=p/\p<k+j/\k+j<=n/\cr w' B (some ⟨b,0,none⟩) n c l'/\l'.drop (k+j-1)=l.drop (k+j-1)/\SS (l'.take p)/\(∀z,z∈l'.take p↔z∈l.take (k+j))/\Kept (· =b) w w')
    (μ:=fun s _=>((n:Int)-s.2).toNat) (s:=((k:Int),1)) ⟨k,1,l,rfl,Nat.le_refl _,Nat.le_refl _,by omega,by omega,qo,rfl,vy,fun z=>?_,k5.mono fun _ _ h=>h.elim⟩ ?_
   ·rw [bJ hx]
    constructor
    ·exact .inl
    ·rintro(h|rfl)
     ·exact h
     ·rw [he]
      have:=bJ (z:=y) hy;rw [show k-1+1=k by omega]at this;exact this.2 (.inr rfl)
   rintro s w1 ⟨p,j,l',rfl,hj1,Pv,YU,hjn,BM,Qa,CW,IJ,k1⟩;have EC:=BM.len;refine Split.dec (fun Vh=>?_) (fun Vn=>?_)
   ·simp only at Vh
    have tM:k+j<n:=by omega
    obtain⟨u,hu⟩:∃u,l[k+j]? =some u:=⟨_,List.getElem?_eq_getElem (by omega)⟩;obtain⟨v,hv⟩:∃v,l[k+j-1]? =some v:=⟨_,List.getElem?_eq_getElem (by omega)⟩;have GY:l'[k+j]? =some u:=by
     have h:=congrArg (fun m:List HT=>m[1]?) Qa;simp only [List.getElem?_drop]at h;rw [show k+j-1+1=k+j by omega]at h;rw [h,hu]
    have T4:l'[k+j-1]? =some v:=by
     have h:=congrArg (fun m:List HT=>m[0]?) Qa;simp only [List.getElem?_drop,Nat.add_zero]at h;rw [h,hv]
    intro vW;have Ih:Kept (· =b) w vW:=k1.drew;have lN:cr vW B (some ⟨b,0,none⟩) n c l':=Row.aK BM ((Kept.refl Nil w1).drew) (fun _ _ h=>h);clear_value vW;have sK:HS vW (some ⟨b,k*32,none⟩) (n-k) (l'.drop k):=by
     have h:=lN.hs.drop (c:=c) VP (k:=k) (by omega);rw [if_neg (show ¬c=k by omega)]at h;simpa [bu]using h
    have YK:(l'.drop k)[(j:Int).toNat]? =some u:=by rw [Int.toNat_natCast,List.getElem?_drop];exact GY
    have Ub:(l'.drop k)[((j:Int)-1).toNat]? =some v:=by
     rw [show((j:Int)-1).toNat=j-1 by omega,List.getElem?_drop,show k+(j-1)=k+j-1 by omega];exact T4
    simp-zeta only;rw [wrapM (n:=(j:Int)) (by omega) (by omega)];have huv:cJ u v=false:=hle.get (by omega) hv hu;refine sK.load (i:=(j:Int)) (by omega) YK (sK.load (i:=(j:Int)-1) (by omega) Ub ⟨⟨u.2.ints,v.2.ints⟩,?_⟩);rw [gA,eJ (n:=(j:Int)) (by omega) (by omega)];have Y4:∀z,z∈l.take (k+(j+1))↔z∈l'.take p\/z=u:=fun z=>by
     rw [show k+(j+1)=k+j+1 by omega,bJ hu,IJ z]
    by_cases heq:u=v
    ·refine Split.no (by rw [decide_eq_true heq];rfl) ?_
     refine⟨((p:Int),(j:Int)+1),rfl,⟨p,j+1,l',rfl,by omega,Pv,by omega,by omega,lN,?_,CW,fun z=>?_,Ih⟩,by simp only;omega⟩
     ·have h:=congrArg (fun m:List HT=>m.drop 1) Qa
      simp only [List.drop_drop]at h;rw [show k+(j+1)-1=k+j-1+1 by omega];exact h
     ·rw [Y4 z]
      constructor
      ·exact .inl
      ·rintro(h|rfl)
       ·exact h
       ·refine(IJ _).2 ?_
        rw [heq];exact List.mem_of_getElem? (i:=k+j-1) (by rw [List.getElem?_take,if_pos (by omega)];exact hv)
    ·refine Split.yes (by rw [decide_eq_false heq];rfl) ?_
     refine sK.load (i:=(j:Int)) (by omega) YK ⟨⟨by omega,by omega⟩,⟨u.2.1,u.2.one,fun i hi=>?_⟩,?_⟩
     ·rw [Int.toNat_natCast,bu,Nat.zero_add]
      exact lN.Jl (by omega) i hi
     intro CQ;have Oq:CQ=setCells vW ⟨b,p*32,none⟩ u.1.toList 0:=by
      show setCells vW ((⟨b,0,none⟩:Addr).add ((p:Int).toNat*32)) u.1.toList 0=_
      rw [Int.toNat_natCast,bu,Nat.zero_add]
     have Nc:cr CQ B (some ⟨b,0,none⟩) n c (l'.set p u):=by rw [Oq];exact lN.setAt (by omega) u
     have JV:Kept (· =b) w CQ:=by rw [Oq];exact Ih.tt (fT _ _ _ _)
     clear_value CQ;rw [eJ (n:=(p:Int)) (by omega) (by omega)];have yV:(l'.set p u).take (p+1)=l'.take p++ [u]:=by
      rw [List.take_add_one,List.take_set_of_le (Nat.le_refl p),List.getElem?_set_self (by omega)];rfl
     refine⟨((p:Int)+1,(j:Int)+1),rfl,⟨p+1,j+1,l'.set p u,rfl,by omega,by omega,by omega,by omega,Nc,?_,?_,fun z=>?_,JV⟩,by simp only;omega⟩
     ·have h:=congrArg (fun m:List HT=>m.drop 1) Qa
      simp only [List.drop_drop]at h;rw [List.drop_set,if_pos (by omega),show k+(j+1)-1=k+j-1+1 by omega];exact h
     ·rw [yV]
      refine Bc CW fun z hz=>?_;obtain⟨i,hi⟩:=List.mem_iff_getElem?.1 ((IJ z).1 hz);rw [List.getElem?_take]at hi;split at hi
      ·rename_i hik
       have Yz:cJ v u=true:=lt_of_le_ne huv (fun e=>heq e.symm);by_cases e:i=k+j-1
       ·subst e;rw [hv]at hi;cases hi;exact Yz
       ·exact qR (hle.get (by omega) hi hv) Yz
      ·cases hi
     ·rw [yV,Y4 z]
      simp
   ·simp only at Vn
    have hj:k+j=n:=by omega
    rw [aX,ag.lL];unfold ag.jY;refine⟨⟨by omega,by omega⟩,?_⟩;rw [Int.toNat_natCast];obtain⟨w2,hr,r9,k2⟩:=r8 BM (k:=p) (by omega) 0 (A:=if c=p then some ⟨b,0,none⟩else(some ⟨b,0,none⟩:Option Addr).map (·.add (p*32))) (cx:=c-p) (fun hp=>by
     rw [if_neg (by omega)];simp [bu])
    refine⟨_,w2,hr,⟨by omega,by omega⟩,?_⟩;have e:l'.take p=dg l:=yu CW fun z=>by rw [IJ z,hj,List.take_of_length_le (by omega)]
    have el:p=(dg l).length:=by
     have h:=r9.len;rw [e]at h;exact h.symm
    have e0:(if c=0 then(some ⟨b,0,none⟩:Option Addr)else(some ⟨b,0,none⟩:Option Addr).map (·.add (0*32)))=some ⟨b,0,none⟩:=by
     rw [if_neg (by omega)];simp [add_zero]
    rw [e0,Nat.sub_zero,Nat.sub_zero];rw [e,el]at r9;have:=hK (some ⟨b,0,none⟩) c w2 r9 (fun k h=>h) ((k1.tt k2).mono fun i _ h=>by rw [h];rfl);rw [<-el]at this;exact this
  ·rw [eJ (n:=(k:Int)) (by omega) (by omega)]
   refine⟨(none,0,0,(k:Int)+1),rfl,⟨k+1,rfl,by omega,by omega,?_,k5⟩,by simp only;omega⟩;rw [List.take_add_one,hx];refine Bc vy fun z hz=>?_;have RI:cJ y x=true:=lt_of_le_ne l9 (fun e=>he e.symm);obtain⟨i,hi⟩:=List.mem_iff_getElem?.1 hz;rw [List.getElem?_take]at hi;split at hi
   ·by_cases e:i=k-1
    ·subst e;rw [hy]at hi;cases hi;exact RI
    ·exact qR (hle.get (by omega) hi hy) RI
   ·cases hi
 ·simp only at iK
  have e:k=n:=by omega
  subst e;rw [aX,ag.dA];rw [List.take_of_length_le (by omega)]at vy;have e:dg l=l:=wv vy;have:=hK (some ⟨b,0,none⟩) c w' (by rw [e,hlen];exact Row.aK row kw (fun _ _ h=>h)) (fun k h=>h) (kw.mono fun _ _ h=>h.elim);rw [e,hlen]at this;exact this
theorem fW(hl:HS w A n l)(hn:n<=400000)
 (hK:∀A' c' w',cr w' w.heap.size A' (dg l).length c' (dg l)->Kept Nil w w'->K (.slice A' (dg l).length c') w'):
 bm prog ir.id #[.slice A n c] w K:=by
 have hlen:=hl.len;refine ir.of ?_;refine cQ.of ?_;unfold cQ.W;intro w2;have k2:Kept Nil w w2:=(Kept.refl _ _).alloc _;have oz:w2.heap[w.heap.size]? =some (.cells #[.slice A n c] aV (0,0)):=aR w _;clear_value w2;refine⟨_,rfl,?_⟩;refine cN.of ?_;refine zy (xs:=l) aC.at_ (by rfl) (wk (l:=l) ⟨w.heap.size,0,none⟩ (A:=A) (n:=n) (c:=c) (by omega)) (fun w' hk=>⟨(hl.same k2).same hk,by rw [aD (hk.heap oz (fun h=>h))];rfl⟩) (by omega) ?_;intro A4 c4 w4 wE k4;refine⟨A4,_,c4,rfl,?_⟩;refine Gi wE (by omega) fun l5 w5 hle kQ qo k5=>⟨rfl,?_⟩;refine⟨A4,_,c4,rfl,?_⟩;refine zx qo hle (by omega) fun A6 c6 w6 BL pQ k6=>⟨A6,_,c6,rfl,?_⟩;have e:dg l5=dg l:=Aa kQ;rw [e]at BL⊢;have Se:∀k,bp A4=some k->w.heap.size<=k:=fun k hk=>Nat.le_trans k2.size (Row.bS wE hk).1;refine hK A6 c6 w6 (Row.base BL fun k hk=>Se k (pQ k hk)) ?_;exact((k2.tt k4).trans k5 (fun k hk h=>absurd (Se k h) (by omega))).trans k6 (fun k hk h=>absurd (Se k h) (by omega))
end
theorem jE{x:Nat}(h:x<18446744073709551616):u64.wrap (x:Int)=(x:Int):=by
 simp only [IntKind.wrap,IntKind.bits,IntKind.signed];simp;omega
theorem XP{x y:Nat}(hx:x<18446744073709551616)(hy:y<18446744073709551616):
 u64.wrap ((BitVec.ofInt 64 (x:Int)|||BitVec.ofInt 64 (y:Int)).toNat:Int)=((x|||y:Nat):Int):=by
 have h:(BitVec.ofInt 64 (x:Int)|||BitVec.ofInt 64 (y:Int)).toNat=x|||y:=by
  rw [BitVec.ofInt_natCast,BitVec.ofInt_natCast,BitVec.toNat_or,BitVec.toNat_ofNat,BitVec.toNat_ofNat,Nat.mod_eq_of_lt (by omega),Nat.mod_eq_of_lt (by omega)]
 rw [h];exact jE (Nat.or_lt_two_pow (n:=64) hx hy)
theorem W5{x y:Nat}(hx:x<18446744073709551616)(hy:y<18446744073709551616):
 u64.wrap ((BitVec.ofInt 64 (x:Int)&&& BitVec.ofInt 64 (y:Int)).toNat:Int)=((x&&& y:Nat):Int):=by
 have h:(BitVec.ofInt 64 (x:Int)&&& BitVec.ofInt 64 (y:Int)).toNat=x&&& y:=by
  rw [BitVec.ofInt_natCast,BitVec.ofInt_natCast,BitVec.toNat_and,BitVec.toNat_ofNat,BitVec.toNat_ofNat,Nat.mod_eq_of_lt (by omega),Nat.mod_eq_of_lt (by omega)]
 rw [h];exact jE (Nat.lt_of_le_of_lt Nat.and_le_left hx)
theorem Tc{i:Nat}(hi:i<64):u64.wrap ((1:Int)*2 ^ (min i 64))=((2 ^ i:Nat):Int):=by
 rw [Nat.min_eq_left (by omega),Int.one_mul];have h:2 ^ i<18446744073709551616:=Nat.pow_lt_pow_right (by omega) (n:=64) hi;have:=jE h;rw [<-this];simp
def bit(ws:List Nat)(i:Nat):Bool:=(ws.getD (i/64) 0).testBit (i%64)
def okW(ws:List Nat):Prop:=∀x∈ws,x<18446744073709551616
theorem vN(i:Nat):bit [] i=false:=by simp [bit]
theorem xP(ws:List Nat)(i:Nat):bit (ws++ [0]) i=bit ws i:=by
 unfold bit
 congr 1
 simp only [List.getD_eq_getElem?_getD,List.getElem?_append];split
 ·rfl
 ·rename_i h
  rw [List.getElem?_eq_none (l:=ws) (by omega)];cases i/64-ws.length<;>simp
theorem AZ{ws:List Nat}{q:Nat}(hq:q<ws.length)(v i:Nat):bit (ws.set q v) i=if i/64=q then v.testBit (i%64)else bit ws i:=by
 unfold bit;simp only [List.getD_eq_getElem?_getD,List.getElem?_set];by_cases h:i/64=q
 ·subst h;simp [hq]
 ·rw [if_neg (fun e=>h e.symm),if_neg h]
theorem Ak{ws:List Nat}(h:okW ws){x:Nat}(hx:x<18446744073709551616):okW (ws++ [x]):=fun y hy=>by
 rw [List.mem_append,List.mem_singleton]at hy;rcases hy with hy|rfl
 ·exact h y hy
 ·exact hx
theorem Aj{ws:List Nat}(h:okW ws){x:Nat}(hx:x<18446744073709551616)(q:Nat):okW (ws.set q x):=fun y hy=>by
 rcases List.mem_or_eq_of_mem_set hy with hy|rfl
 ·exact h y hy
 ·exact hx
def us(l:List Nat):List Value:=l.map fun x:Nat=>.int .u64 (x:Int)
theorem nr(l:List Nat):(us l).length=l.length:=by simp [us]
theorem ns{l:List Nat}{j x:Nat}(h:l[j]? =some x):(us l)[j]? =some (.int .u64 (x:Int)):=by simp [us,h]
theorem vi(l:List Nat)(q v:Nat):(us l).set q (.int .u64 (v:Int))=us (l.set q v):=by simp [us,List.map_set]
theorem Jt(l m:List Nat):us (l++m)=us l++us m:=by simp [us]
structure US(w:World)(A:Option Addr)(n:Nat)(l:List Nat):Prop where
 len:l.length=n
 at_:∀(i x:Nat),l[i]? =some x->∃a,A=some a/\a.block<w.heap.size/\w.cell? (a.add i)=some (.int .u64 (x:Int))
theorem US.aK{S:Nat->Prop}{w w':World}{A:Option Addr}{n:Nat}{l:List Nat}(h:US w A n l)(hk:Kept S w w')(hn:∀a,A=some a->¬S a.block):US w' A n l:=⟨h.len,fun i x hi=>by
 obtain⟨a,h1,h2,h3⟩:=h.at_ i x hi;exact⟨a,h1,Nat.lt_of_lt_of_le h2 hk.size,hk.cell h3 (by rw [iy];exact hn a h1)⟩⟩
theorem US.load{w:World}{A:Option Addr}{n:Nat}{l:List Nat}(hl:US w A n l){i:Int}{x:Nat}(h0:0<=i)(hx:l[i.toNat]? =some x){k:Int->Prop}(hk:k x):
 (0<=i/\i<(n:Int))/\Is A fun a=>∃t:Int,w.cell? (a.add (i.toNat*1))=some (.int .u64 t)/\k t:=by
 obtain⟨a,rfl,_,hc⟩:=hl.at_ _ x hx;have:=(lgeS hx).1;have:=hl.len;exact⟨⟨h0,by omega⟩,x,by rw [Nat.mul_one];exact hc,hk⟩
theorem JB:Bb prog jD eI 1 8:=⟨by kernel_rfl,by kernel_rfl⟩
abbrev jx(w:World)(B:Nat)(A:Option Addr)(n c:Nat)(l:List Nat):Prop:=Row w B eI 1 A n c (us l)
section
variable{w w':World}{B n c:Nat}{A:Option Addr}{l:List Nat}
theorem jx.len(h:jx w B A n c l):l.length=n:=by have:=Row.len h;rw [nr]at this;omega
theorem jx.us(h:jx w B A n c l):US w A n l:=⟨h.len,fun i x hi=>by
 have hlen:=h.len;have:=(lgeS hi).1;obtain⟨b,rfl⟩:=Row.some h (by omega);obtain⟨_,cur,vE⟩:=Row.bS h (k:=b) rfl;exact⟨_,rfl,aZ vE,by rw [bu,Nat.zero_add];exact Row.cell h (ns hi)⟩⟩
theorem Du(i:Nat):((i:Int).tdiv 64)=((i/64:Nat):Int):=by
 rw [Int.tdiv_eq_ediv_of_nonneg (by omega)];omega
theorem Jy(i:Nat):((i:Int).tmod 64)=((i%64:Nat):Int):=by
 rw [Int.tmod_eq_emod_of_nonneg (by omega)];omega
theorem q9(h:jx w B A n c l)(hn:n<=1000000)(hB:B<=w.heap.size){t:Nat}(x:Nat):
 ∃A' c' w',(Builtin.append_ #[jD,jD] jD #[.slice A n c,.slice (some ⟨w.heap.size,0,none⟩) 1 1]).run prog (w.alloc (.cells #[.int .u64 (x:Int)] t))=.ok (.slice A' (n+1) c') w'/\
  jx w' B A' (n+1) c' (l++ [x])/\Kept (fun k=>bp A=some k) w w'/\(∀k,bp A'=some k->bp A=some k\/w.heap.size<=k):=by
 have k1:Kept Nil w (w.alloc (.cells #[.int .u64 (x:Int)] t)):=(Kept.refl _ _).alloc _;have hb:=aR w (.cells #[.int .u64 (x:Int)] t);have h1:jx (w.alloc (.cells #[.int .u64 (x:Int)] t)) B A n c l:=Row.aK h k1 (fun _ _ h=>h);obtain⟨A',c',w',hr,fV,hg,uf⟩:=iu (P:=prog) (t:=jD) (ty:=jD) (bytes:=8) JB h1 (a:=⟨w.heap.size,0,none⟩) (m:=1) (cx:=1) (news:=us [x]) rfl
  (fun j u hj=>by rw [bu,Nat.zero_add,aD hb];simpa [us]using hj) (fun u hu=>by simp [us]at hu;subst hu;rfl) (by omega) (by unfold maxLen;omega) (by have:=k1.size;omega)
 refine⟨A',c',w',hr,?_,?_,fun k hk=>?_⟩
 ·show Row w' B eI 1 A' (n+1) c' (Proofs.YtfleamccglihoaaGreatDoor.us (l++ [x]))
  rw [Jt];exact fV
 ·exact(k1.mono (S':=fun k=>bp A=some k) (fun _ _ h=>h.elim)).tt (Kept.grown (S:=fun k=>bp A=some k) (Kept.refl _ _) hg (fun k hk _=>hk))
 ·rcases uf k hk with h|h
  ·exact .inl h
  ·have:=k1.size;exact .inr (by omega)
theorem wy{b:Nat}(h:jx w B (some ⟨b,0,none⟩) n c l){q:Nat}(hq:q<n)(x:Nat):
 jx (w.setCell ⟨b,q,none⟩ (.int .u64 (x:Int))) B (some ⟨b,0,none⟩) n c (l.set q x):=by
 have:=Row.set h (j:=q) (by rw [nr,h.len];exact hq) (.int .u64 (x:Int));rw [vi]at this;exact this
theorem wB{K:Value->World->Prop}(h:jx w B A n c l)(ho:okW l)(hn:n<=100000)(hB:B<=w.heap.size){i:Nat}(hi:i<=1000000)
 (hK:∀A' n' c' l' w',jx w' B A' n' c' l'->okW l'->(n'<=n\/n'<=i/64+1)->(∀j,bit l' j=(bit l j||decide (j=i)))->Kept (fun k=>bp A=some k) w w'->(∀k,bp A'=some k->bp A=some k\/w.heap.size<=k)->K (.slice A' n' c') w'):
 bm prog bC.id #[.slice A n c,.int .i64 (i:Int)] w K:=by
 refine bC.of ?_;refine bC.cf (I:=fun s w'=>∃A' n' c' l',s=(A',n',c')/\jx w' B A' n' c' l'/\okW l'/\(n'<=n\/n'<=i/64+1)/\(∀j,bit l' j=bit l j)/\Kept (fun k=>bp A=some k) w w'/\(∀k,bp A'=some k->bp A=some k\/w.heap.size<=k))
  (μ:=fun s _=>i/64+1-s.2.1) (s:=(A,n,c)) ⟨A,n,c,l,rfl,h,ho,.inl (Nat.le_refl _),fun _=>rfl,Kept.refl _ _,fun k hk=>.inl hk⟩ ?_
 rintro s w' ⟨A',n',c',l',rfl,row,FM,UZ,oH,kw,hb⟩;unfold bC.B1;rw [Du,iI (by omega) (by omega)];refine⟨by omega,?_⟩;refine Split.dec (fun hle=>?_) (fun xu=>?_)
 ·simp only at hle
  have acM:n'<=i/64:=by omega
  obtain⟨A2,c2,w2,hr,r9,k2,oz⟩:=q9 row (by omega) (Nat.le_trans hB kw.size) (t:=eI) 0;intro w6;refine⟨A2,n'+1,c2,w2,hr,?_⟩;refine⟨(A2,n'+1,c2),rfl,⟨A2,n'+1,c2,l'++ [0],rfl,r9,Ak FM (by omega),by omega,fun j=>by rw [xP,oH],?_,fun k hk=>?_⟩,by simp only;omega⟩
  ·exact kw.trans k2 (fun k hk e=>by
    rcases hb k e with h|h
    ·exact h
    ·omega)
  ·rcases oz k hk with h|h
   ·exact hb k h
   ·exact .inr (Nat.le_trans kw.size h)
 ·simp only at xu
  have fc:i/64<n':=by omega
  rw [aX,bC.dA];unfold bC.cW;intro ph;have FD:Kept Nil w' ph:=(Kept.refl _ _).drew;have Qa:ph=w'.drew:=rfl;clear_value ph;have sd:jx ph B A' n' c' l':=Row.aK row FD (fun _ _ h=>h);have hlen:=row.len;rw [Du,Jy,iI (by omega) (by omega)];obtain⟨b,rfl⟩:=Row.some sd (by omega);obtain⟨x,hx⟩:∃x,l'[i/64]? =some x:=⟨_,List.getElem?_eq_getElem (by omega)⟩;refine⟨by omega,sd.us.load (by omega) (by rw [Int.toNat_natCast];exact hx) ⟨by omega,by omega,⟨⟨by omega,by simp only;omega⟩,?_⟩⟩⟩;have sJ:=FM x (List.mem_of_getElem? hx);have hp:2 ^ (i%64)<18446744073709551616:=Nat.pow_lt_pow_right (by omega) (n:=64) (Nat.mod_lt _ (by omega));simp only [Is,Int.toNat_natCast,Nat.mul_one,bu,Nat.zero_add];rw [Tc (Nat.mod_lt _ (by omega)),XP sJ hp];refine⟨Row.wr sd (by rw [nr,hlen];exact fc),?_⟩;have oD:Kept (fun k=>bp A=some k) w (ph.setCell ⟨b,i/64,none⟩ (.int .u64 ((x|||2 ^ (i%64):Nat):Int))):=
   Kept.setCell (kw.trans FD (fun _ _ h=>h.elim)) (p:=⟨b,i/64,none⟩) (fun cJ=>by
    rcases hb b rfl with h|h
    ·exact h
    ·exact absurd cJ (by simp only;omega)) _
  refine hK _ _ _ _ _ (wy sd fc _) (Aj FM (Nat.or_lt_two_pow (n:=64) sJ hp) _) UZ (fun j=>?_) oD hb;rw [AZ (by omega),oH];have ZB:bit l' i=x.testBit (i%64):=by unfold bit;rw [List.getD_eq_getElem?_getD,hx];rfl
  by_cases e:j/64=i/64
  ·rw [if_pos e,Nat.testBit_or,Nat.testBit_two_pow]
   have hbj:bit l' j=x.testBit (j%64):=by unfold bit;rw [e,List.getD_eq_getElem?_getD,hx];rfl
   rw [<-hbj,oH]
   congr 1
   exact decide_eq_decide.2 ⟨fun h=>by omega,fun h=>by rw [h]⟩
  ·rw [if_neg e,decide_eq_false (fun h=>e (by rw [h]))]
   simp
end
section
variable{w w':World}{B n c:Nat}{A:Option Addr}{l:List Nat}
theorem uC{K:Value->World->Prop}(h:jx w B A n c l)(ho:okW l)(hn:n<=100000)(hB:B<=w.heap.size){A2:Option Addr}{n2 c2:Nat}{v:List Nat}(hv:US w A2 n2 v)(T4:okW v)(UY:n2<=100000)
 (We:∀a,A2=some a->∀k,bp A=some k->a.block≠k)
 (hK:∀A' n' c' l' w',jx w' B A' n' c' l'->okW l'->(n'<=n\/n'<=n2)->(∀j,bit l' j=(bit l j||bit v j))->Kept (fun k=>bp A=some k) w w'->(∀k,bp A'=some k->bp A=some k\/w.heap.size<=k)->K (.slice A' n' c') w'):
 bm prog bP.id #[.slice A n c,.slice A2 n2 c2] w K:=by
 have YA:=hv.len;refine bP.of ?_;refine bP.cf (I:=fun s w'=>∃(i:Nat) (A':Option Addr) (n' c':Nat) (l':List Nat),s=(A',n',c',(i:Int))/\i<=n2/\jx w' B A' n' c' l'/\okW l'/\i<=n'/\n<=n'/\(n'<=n\/n'<=i)/\(∀j,bit l' j=(bit l j||(decide (j/64<i)&&bit v j)))/\Kept (fun k=>bp A=some k) w w'/\(∀k,bp A'=some k->bp A=some k\/w.heap.size<=k))
  (μ:=fun s _=>((n2:Int)-s.2.2.2).toNat) (s:=(A,n,c,0)) ⟨0,A,n,c,l,rfl,Nat.zero_le _,h,ho,Nat.zero_le _,Nat.le_refl _,.inl (Nat.le_refl _),by simp,Kept.refl _ _,fun k hk=>.inl hk⟩ ?_
 rintro s w' ⟨i,A',n',c',l',rfl,hi,row,FM,gK,O7,RW,oH,kw,hb⟩;have EC:=row.len;refine Split.dec (fun lH=>?_) (fun iK=>?_)
 ·simp only at lH
  have fc:i<n2:=by omega
  obtain⟨x,hx⟩:∃x,v[i]? =some x:=⟨_,List.getElem?_eq_getElem (by omega)⟩;have sJ:=T4 x (List.mem_of_getElem? hx);have hvw:US w' A2 n2 v:=hv.aK kw (fun a ha e=>We a ha _ e rfl);refine hvw.load (i:=(i:Int)) (by omega) hx ?_;have step:∀(A2:Option Addr) (n3 c3:Nat) (l3:List Nat) (w3:World),jx w3 B A2 n3 c3 l3->okW l3->i<n3->n<=n3->(n3<=n\/n3<=i+1)->(∀j,bit l3 j=(bit l j||(decide (j/64<i)&&bit v j)))->Kept (fun k=>bp A=some k) w w3->(∀k,bp A2=some k->bp A=some k\/w.heap.size<=k)->
   (0<=(i:Int)/\(i:Int)<(n3:Int))/\Is A2 fun a=>∃t:Int,w3.cell? (a.add ((i:Int).toNat*1))=some (.int .u64 t)/\(0<=(i:Int)/\(i:Int)<(n3:Int))/\Is A2 fun a'=>Wr w3 (a'.add ((i:Int).toNat*1))/\
     ∃(l4:List Nat),
     jx (w3.setCell (a'.add ((i:Int).toNat*1)) (.int .u64 (u64.wrap ((BitVec.ofInt 64 t|||BitVec.ofInt 64 (x:Int)).toNat)))) B A2 n3 c3 l4/\okW l4/\(∀j,bit l4 j=(bit l j||(decide (j/64<i+1)&&bit v j)))/\Kept (fun k=>bp A=some k) w (w3.setCell (a'.add ((i:Int).toNat*1)) (.int .u64 (u64.wrap ((BitVec.ofInt 64 t|||BitVec.ofInt 64 (x:Int)).toNat)))):=by
   intro A2 n3 c3 l3 w3 rp YW Vi hn3 acC IZ k3 o6;have Ze:=rp.len;obtain⟨b,rfl⟩:=Row.some rp (by omega);obtain⟨y,hy⟩:∃y,l3[i]? =some y:=⟨_,List.getElem?_eq_getElem (by omega)⟩;have Ys:=YW y (List.mem_of_getElem? hy);refine rp.us.load (i:=(i:Int)) (by omega) hy ⟨⟨by omega,by omega⟩,?_⟩;simp only [Is,Int.toNat_natCast,Nat.mul_one,bu,Nat.zero_add];rw [XP Ys sJ];refine⟨Row.wr rp (by rw [nr];omega),l3.set i (y|||x),wy rp Vi _,Aj YW (Nat.or_lt_two_pow (n:=64) Ys sJ) _,fun j=>?_,?_⟩
   ·rw [AZ (by omega),IZ]
    have EN:j/64=i->bit v j=x.testBit (j%64):=fun e=>by unfold bit;rw [e,List.getD_eq_getElem?_getD,hx];rfl
    have FU:j/64=i->bit l3 j=y.testBit (j%64):=fun e=>by unfold bit;rw [e,List.getD_eq_getElem?_getD,hy];rfl
    by_cases e:j/64=i
    ·rw [if_pos e,Nat.testBit_or,<-FU e,<-EN e,IZ]
     rw [decide_eq_false (show ¬j/64<i by omega),decide_eq_true (show j/64<i+1 by omega)];simp
    ·rw [if_neg e]
     congr 2
     exact decide_eq_decide.2 (by omega)
   ·refine Kept.setCell k3 (p:=⟨b,i,none⟩) (fun cJ=>?_) _
    rcases o6 b rfl with h|h
    ·exact h
    ·exact absurd cJ (by simp only;omega)
  by_cases he:i=n'
  ·refine Split.yes (by simp [he]) ?_
   obtain⟨Xs,MI,w2,hr,r9,k2,oz⟩:=q9 row (by omega) (Nat.le_trans hB kw.size) (t:=eI) 0;intro w10;refine⟨Xs,n'+1,MI,w2,hr,?_⟩;have st:=step Xs (n'+1) MI (l'++ [0]) w2 r9 (Ak FM (by omega)) (by omega) (by omega) (by omega) (fun j=>by rw [xP,oH])
    (kw.trans k2 (fun k hk e=>by
      rcases hb k e with h|h
      ·exact h
      ·omega)) (fun k hk=>by
      rcases oz k hk with h|h
      ·exact hb k h
      ·exact .inr (Nat.le_trans kw.size h))
   clear step;obtain⟨s1,s2⟩:=st;refine⟨s1,?_⟩;cases Xs with
   |none=>exact s2.elim
   |some a=>
    obtain⟨t,s3,s4,s5,l4,s6,s7,s8,s9⟩:=s2;refine⟨t,s3,s4,s5,?_⟩;intro lu;simp only;rw [eJ (n:=(i:Int)) (by omega) (by omega)];exact⟨(some a,n'+1,MI,(i:Int)+1),rfl,⟨i+1,some a,n'+1,MI,l4,rfl,fc,s6,s7,by omega,by omega,by omega,s8,s9,fun k hk=>by
     rcases oz k hk with h|h
     ·exact hb k h
     ·exact .inr (Nat.le_trans kw.size h)⟩,by simp only;omega⟩
  ·refine Split.no (beq_eq_false_iff_ne.2 (by simp only;omega)) ?_
   have st:=step A' n' c' l' w' row FM (by omega) O7 (by omega) oH kw hb;clear step;obtain⟨s1,s2⟩:=st;refine⟨s1,?_⟩;cases A' with
   |none=>exact s2.elim
   |some a=>
    obtain⟨t,s3,s4,s5,l4,s6,s7,s8,s9⟩:=s2;refine⟨t,s3,s4,s5,?_⟩;intro lu;simp only;rw [eJ (n:=(i:Int)) (by omega) (by omega)];exact⟨(some a,n',c',(i:Int)+1),rfl,⟨i+1,some a,n',c',l4,rfl,fc,s6,s7,by omega,O7,by omega,s8,s9,hb⟩,by simp only;omega⟩
 ·simp only at iK
  have:i=n2:=by omega
  subst this;rw [aX,bP.dA];refine hK A' n' c' l' w' row FM (by omega) (fun j=>?_) kw hb;rw [oH]
  congr 1
  by_cases e:j/64<i
  ·rw [decide_eq_true e];simp
  ·rw [decide_eq_false e]
   unfold bit;rw [List.getD_eq_getElem?_getD,List.getElem?_eq_none (by omega)];simp
end
theorem xT:∀k m:Nat,(2 ^ k*(2*m+1))&&& (2 ^ k*(2*m+1)-1)=2 ^ (k+1)*m
 |0,m=>by
  apply Nat.eq_of_testBit_eq;intro i;rw [Nat.testBit_and];cases i with
  |zero=>simp [Nat.testBit_zero]
  |succ i=>
   simp only [Nat.testBit_succ];rw [show(2 ^ 0*(2*m+1))/2=m by omega,show(2 ^ 0*(2*m+1)-1)/2=m by omega,show 2 ^ (0+1)*m/2=m by omega];simp
 |k+1,m=>by
  have ih:=xT k m;have hp:0<2 ^ k*(2*m+1):=Nat.mul_pos (Nat.pow_pos (by omega)) (by omega);rw [show 2 ^ (k+1)*(2*m+1)=2*(2 ^ k*(2*m+1))by rw [Nat.pow_succ];ac_rfl,show 2 ^ (k+1+1)*m=2*(2 ^ (k+1)*m)by rw [Nat.pow_succ 2 (k+1)];ac_rfl];generalize 2 ^ k*(2*m+1)=x at ih hp⊢;rw [<-ih];apply Nat.eq_of_testBit_eq;intro i;rw [Nat.testBit_and];cases i with
  |zero=>simp [Nat.testBit_zero]
  |succ i=>
   simp only [Nat.testBit_succ];rw [show 2*x/2=x by omega,show(2*x-1)/2=x-1 by omega,show 2*(x&&& (x-1))/2=x&&& (x-1)by omega,Nat.testBit_and]
theorem An{x:Nat}(h0:x≠0)(hx:x<18446744073709551616):Lib.ctz 64 x<64/\x.testBit (Lib.ctz 64 x)=true/\∀t,(x&&& (x-1)).testBit t=(x.testBit t&&decide (t≠Lib.ctz 64 x)):=by
 obtain⟨m,h1,h2⟩:=Lib.ctzFrom_spec 64 x (by omega) hx;have e:Lib.ctz 64 x=Lib.ctzFrom 64 x:=by unfold Lib.ctz;rw [if_neg h0]
 rw [e];generalize Lib.ctzFrom 64 x=k at h1 h2⊢;have hand:x&&& (x-1)=2 ^ (k+1)*m:=by rw [h1];exact xT k m
 have hb:∀t,x.testBit t=(decide (t>=k)&&(2*m+1).testBit (t-k)):=fun t=>by rw [h1,Nat.testBit_two_pow_mul]
 refine⟨h2,by rw [hb];simp,fun t=>?_⟩;rw [hand,Nat.testBit_two_pow_mul,hb];by_cases ht:t=k
 ·subst ht
  simp;intro h;omega
 ·rw [decide_eq_true ht,Bool.and_true]
  by_cases hk:t>=k
  ·obtain⟨d,hd⟩:∃d,t-k=d+1:=⟨t-k-1,by omega⟩
   rw [decide_eq_true hk,decide_eq_true (show t>=k+1 by omega),hd,show t-(k+1)=d by omega,Nat.testBit_succ,show(2*m+1)/2=m by omega]
  ·rw [decide_eq_false hk,decide_eq_false (show ¬t>=k+1 by omega)]
   simp
theorem vQ{x:Nat}(h0:x≠0):x&&& (x-1)<x:=Nat.lt_of_le_of_lt Nat.and_le_right (by omega)
def sC(x:Nat):List Nat:=if h:x=0 then []else Lib.ctz 64 x::sC (x&&& (x-1))
termination_by x
decreasing_by exact vQ h
theorem uL:sC 0= []:=by rw [sC];simp
theorem uN{x:Nat}(h0:x≠0):sC x=Lib.ctz 64 x::sC (x&&& (x-1)):=by rw [sC,dif_neg h0]
theorem uM:∀(x:Nat),x<18446744073709551616->(∀t,t∈sC x↔x.testBit t=true)/\(sC x).Nodup/\∀t∈sC x,t<64:=by
 intro x
 induction x using Nat.strongRecOn with
 |_ x ih=>
  intro hx;by_cases h0:x=0
  ·subst h0;rw [uL];simp
  ·obtain⟨h1,h2,h3⟩:=An h0 hx
   obtain⟨i1,i2,i3⟩:=ih _ (vQ h0) (Nat.lt_trans (vQ h0) hx);rw [uN h0];refine⟨fun t=>?_,?_,fun t ht=>?_⟩
   ·rw [List.mem_cons,i1,h3]
    by_cases e:t=Lib.ctz 64 x
    ·rw [e,h2];simp
    ·simp [e]
   ·rw [List.nodup_cons,i1,h3]
    exact⟨by simp,i2⟩
   ·rcases List.mem_cons.1 ht with rfl|ht
    ·exact h1
    ·exact i3 t ht
def nH:Nat->List Nat->List Nat
 |_,[]=> []
 |k,x::ws=>(sC x).map (64*k+ ·)++nH (k+1) ws
theorem Fm(x:Nat)(ws:List Nat)(j:Nat):bit (x::ws) j=if j<64 then x.testBit j else bit ws (j-64):=by
 unfold bit;split
 ·rename_i h
  rw [show j/64=0 by omega,show j%64=j by omega];rfl
 ·rename_i h
  rw [show j/64=(j-64)/64+1 by omega,show j%64=(j-64)%64 by omega];rfl
theorem nJ:∀(ws:List Nat) (k j:Nat),okW ws->(j∈nH k ws↔64*k<=j/\bit ws (j-64*k)=true)
 | [],k,j,_=>by simp [nH,bit]
 |x::ws,k,j,ho=>by
  obtain⟨h1,_,h3⟩:=uM x (ho x (by simp));have ih:=nJ ws (k+1) j (fun y hy=>ho y (by simp [hy]));rw [nH,List.mem_append,ih,Fm,List.mem_map];constructor
  ·rintro(⟨t,ht,rfl⟩|⟨h,hb⟩)
   ·have:=h3 t ht
    refine⟨by omega,?_⟩;rw [if_pos (by omega),show 64*k+t-64*k=t by omega];exact(h1 t).1 ht
   ·refine⟨by omega,?_⟩
    rw [if_neg (by omega),show j-64*k-64=j-64*(k+1)by omega];exact hb
  ·rintro⟨h,hb⟩
   split at hb
   ·exact .inl ⟨j-64*k,(h1 _).2 hb,by omega⟩
   ·refine .inr ⟨by omega,?_⟩
    rw [show j-64*(k+1)=j-64*k-64 by omega];exact hb
theorem sn:∀ {l m:List Nat},l.Nodup->(∀x∈l,x∈m)->l.length<=m.length
 | [],_,_,_=>Nat.zero_le _
 |x::l,m,hn,h=>by
  rw [List.nodup_cons]at hn;have hx:=h x (by simp);have:=sn (l:=l) (m:=m.erase x) hn.2 (fun y hy=>by
   have fH:y≠x:=fun e=>hn.1 (e▸hy);exact(List.mem_erase_of_ne fH).2 (h y (by simp [hy])))
  rw [List.length_erase_of_mem hx]at this;have km:0<m.length:=List.length_pos_of_mem hx;simp only [List.length_cons];omega
def p7(w:World):Prop:=TabAt (Tryz.ji.g 1) Lib.deBruijn64tab w
theorem p7.aK{S:Nat->Prop}{w w':World}(h:p7 w)(hk:Kept S w w')(hn:¬S (Tryz.ji.g 1)):p7 w':=fun j hj=>hk.cell (h j hj) hn
theorem p7.same{w w':World}(h:p7 w)(hk:Kept Nil w w'):p7 w':=h.aK hk fun h=>h
theorem p7.lt{w:World}(h:p7 w):Tryz.ji.g 1<w.heap.size:=World.block_lt_of_cell? w _ (h 0 (by decide))
section
variable{w:World}{K:Value->World->Prop}
theorem MY{x:Nat}(hx:x<18446744073709551616)(hT:p7 w)(hK:K (.int .i64 (Lib.ctz 64 x:Nat)) w):bm prog bits_TrailingZeros64.id #[.int .u64 (x:Int)] w K:=by
 refine Calls.mono (Any7.bits_TrailingZeros64 Tryz.tzL x hx w (fun _=>hT)) ?_;rintro e w' ⟨rfl,rfl⟩;exact⟨_,rfl,hK⟩
abbrev encI(i:Nat):List Value:= [.int .i64 (i:Int)]
theorem Fp(p:Addr){A:Option Addr}{n c:Nat}{l:List Nat}(hn:n<=100000)(ho:okW l):
 lY prog aE.id #[] #[.pointer (some p)] ((nH 0 l).map encI) (fun w=>US w A n l/\w.cell? p=some (.slice A n c)/\p7 w):=by
 intro y I D w0 hI hD pO h0 oZ;refine aE.of ?_;obtain⟨vC,Mr,_⟩:=pO 0 w0 h0;have hlen:=vC.len;refine⟨A,n,c,Mr,?_⟩;refine aE.cf (I:=fun s w'=>∃(i:Nat) (dn:List Nat),s=(i:Int)/\i<=n/\dn++nH i (l.drop i)=nH 0 l/\I dn.length w') (μ:=fun s _=>((n:Int)-s).toNat) (s:=0) ⟨0,[],rfl,Nat.zero_le _,rfl,h0⟩ ?_;rintro s w' ⟨i,dn,rfl,hi,EI,hw⟩;refine Split.dec (fun lH=>?_) (fun iK=>?_)
 ·have fc:i<n:=by omega
  obtain⟨x,hx⟩:∃x,l[i]? =some x:=⟨_,List.getElem?_eq_getElem (by omega)⟩;have sJ:=ho x (List.mem_of_getElem? hx);have hl:=(pO _ w' hw).1;have P7:l.drop i=x::l.drop (i+1):=by
   obtain⟨h1,h2⟩:=lgeS hx;rw [List.drop_eq_getElem_cons h1,h2]
  rw [P7,nH]at EI;refine hl.load (i:=(i:Int)) (by omega) hx ?_;refine aE.iN (I:=fun s w'=>∃(v:Nat) (dn:List Nat),s=(v:Int)/\v<18446744073709551616/\dn++((sC v).map (64*i+ ·)++nH (i+1) (l.drop (i+1)))=nH 0 l/\I dn.length w') (μ:=fun s _=>s.toNat) (s:=(x:Int)) ⟨x,dn,rfl,sJ,EI,hw⟩ ?_;clear hw EI;rintro s w1 ⟨v,Sr,rfl,hv,EH,FG⟩;by_cases h0:v=0
  ·refine Split.no (by subst h0;rfl) ?_
   rw [aX,aE.lL];unfold aE.jY;rw [eJ (n:=(i:Int)) (by omega) (by omega)];rw [h0,uL,List.map_nil,List.nil_append]at EH;exact⟨(i:Int)+1,rfl,⟨i+1,Sr,rfl,fc,EH,FG⟩,by simp only;omega⟩
  ·refine Split.yes (bne_iff_ne.2 (by omega)) ?_
   have hpr:=pO _ w1 FG;obtain⟨hk,IK,hkr⟩:=An h0 hv;rw [uN h0,List.map_cons,List.cons_append]at EH;refine MY hv hpr.2.2 ⟨_,rfl,?_⟩;have fp:((nH 0 l).map encI)[Sr.length]? =some (encI (64*i+Lib.ctz 64 v)):=by
    rw [List.getElem?_map,<-EH,List.getElem?_append_right (Nat.le_refl _),Nat.sub_self];rfl
   have GX:i64.wrap (i64.wrap ((64:Int)*(i:Int))+((Lib.ctz 64 v:Nat):Int))=((64*i+Lib.ctz 64 v:Nat):Int):=by
    rw [iI (x:=(64:Int)*(i:Int)) (by omega) (by omega),iI (by omega) (by omega)];omega
   rw [GX];refine(oZ Sr.length _ w1 fp FG).mono ?_;rintro b lg ⟨ht,hf⟩;have nO:u64.wrap ((BitVec.ofInt 64 (v:Int)&&& BitVec.ofInt 64 (u64.wrap ((v:Int)-(1:Int)))).toNat:Int)=((v&&& (v-1):Nat):Int):=by
    have e1:(v:Int)-1=((v-1:Nat):Int):=by omega
    rw [e1,jE (x:=v-1) (by omega),W5 hv (by omega)]
   cases b with
   |true=>
    refine Split.no rfl ?_;rw [nO];have cJ:=vQ h0;refine⟨((v&&& (v-1):Nat):Int),rfl,⟨v&&& (v-1),Sr++ [64*i+Lib.ctz 64 v],rfl,by omega,by rw [List.append_assoc];exact EH,?_⟩,by simp only;omega⟩;rw [List.length_append];exact ht rfl
   |false=>
    refine Split.yes rfl ?_;exact Or.inr (hf rfl)
 ·rw [aX,aE.dA]
  have e:i=n:=by omega
  subst e;refine Or.inl ?_;rw [List.drop_eq_nil_of_le (by omega),nH,List.append_nil]at EI;rw [List.length_map,<-EI];exact hw
end
def pos(h:HT):List HT->Nat->Option Nat
 | [],_=>none
 |x::l,i=>if h=x then some i else pos h l (i+1)
theorem sh{h:HT}:∀ {l:List HT} {i:Nat},pos h l i=none↔h∉l
 | [],i=>by simp [pos]
 |x::l,i=>by
  unfold pos;split
  ·rename_i e;simp [e]
  ·rename_i e
   rw [sh (l:=l)];simp [e]
theorem wH{h:HT}:∀ {l:List HT} {i j:Nat},pos h l i=some j->i<=j/\l[j-i]? =some h
 | [],i,j,e=>by simp [pos]at e
 |x::l,i,j,e=>by
  unfold pos at e;split at e
  ·rename_i hx
   cases e;subst hx;exact⟨Nat.le_refl _,by rw [Nat.sub_self];rfl⟩
  ·obtain⟨h1,h2⟩:=wH e
   refine⟨by omega,?_⟩;rw [show j-i=(j-(i+1))+1 by omega];exact h2
theorem jA{h:HT}:∀ {l:List HT} (i j:Nat),l.Nodup->l[j]? =some h->pos h l i=some (i+j)
 | [],i,j,_,e=>by simp at e
 |x::l,i,0,_,e=>by
  simp only [List.getElem?_cons_zero,Option.some.injEq]at e;unfold pos;rw [if_pos e.symm];simp
 |x::l,i,j+1,hn,e=>by
  simp only [List.getElem?_cons_succ]at e;rw [List.nodup_cons]at hn;unfold pos;rw [if_neg (fun hx=>hn.1 (by rw [<-hx];exact List.mem_of_getElem? e)),jA (i+1) j hn.2 e]
  congr 1
  omega
section
variable{w:World}
theorem Ge:prog.underlying ax=some (.array 32 gU):=by kernel_rfl
theorem Ju:prog.underlying gU=some (.int .u8):=by kernel_rfl
theorem Im:∃i,prog.info? gU=some i/\i.size=1:=by
 have h:(match prog.info? gU with|some i=>Nat.beq i.size 1|none=>false)=true:=by kernel_rfl
 split at h
 ·rename_i i hi;exact⟨i,hi,Nat.eq_of_beq_eq_true h⟩
 ·cases h
theorem Jv:prog.underlying b0=some (.map ax fC):=by kernel_rfl
theorem r6(a b:HT)(w:World):(Op.equal ax (.agg a.1) (.agg b.1)).run prog w=.ok (decide (a=b)) w:=by
 obtain⟨i,hi,h1⟩:=Im;have:=ny (P:=prog) 9998 w Ge Ju hi h1 a.2.ints b.2.ints;rw [gA]at this;simp only [Op.equal,Op.maxDepth];exact this
theorem hU(h:HT)(em:Bool)(w:World):(Instr.checkKey em 10000 ax (.agg h.1)).run prog w=.ok () w:=by
 obtain⟨i,hi,h1⟩:=Im;have hc:prog.cellsOf gU=1:=by simp [Program.cellsOf,hi,h1]
 rw [show(10000:Nat)=9999+1 from rfl,Instr.checkKey];simp only [Sem.run_bind,run_underlying Ge,Result.andThen_ok];simp only [Std.Legacy.Range.forIn_eq_forIn_range',Std.Legacy.Range.size,Nat.sub_zero,Nat.add_one_sub_one,Nat.div_one];have each:∀j∈List.range' 0 32,∃v,h.1[j]? =some v/\∃x:Int,v=.int .u8 x:=fun j hj=>by
  have uW:j<h.1.size:=by rw [h.2.1];simpa using hj
  obtain⟨x,hx,_⟩:=h.2.2 h.1[j] (by simp);exact⟨_,Array.getElem?_eq_getElem uW,x,hx⟩
 generalize List.range' 0 32=is at each
 induction is with
 |nil=>simp
 |cons j is ih=>
  obtain⟨v,hv,x,rfl⟩:=each j (by simp);have Hu:(isAgg gU).run prog w=.ok false w:=by simp [isAgg,run_underlying Ju]
  have p1:(part gU h.1 (j*1)).run prog w=.ok (.int .u8 x) w:=by simp [part,Hu,hv]
  have p2:(Instr.checkKey em 9999 gU (.int .u8 x)).run prog w=.ok () w:=by
   rw [show(9999:Nat)=9998+1 from rfl,Instr.checkKey];simp [run_underlying Ju]
  simp only [List.forIn_cons,Sem.run_bind,Go.bE.run_sizeOf hi w,hc,Result.andThen_ok,p1,p2,Sem.run_pure];exact ih (fun y hy=>each y (by simp [hy]))
def xZ(es:List MapEntry)(l:List HT)(i:Nat):Prop:=match es,l with
 | [],[]=>True
 |e::es,h::l=>(e.key=.agg h.1/\e.val=.int .i64 (i:Int))/\xZ es l (i+1)
 |_,_=>False
theorem xZ.snoc:∀ {es:List MapEntry} {l:List HT} {i:Nat} {e:MapEntry} {h:HT},xZ es l i->e.key=.agg h.1->e.val=.int .i64 ((i+l.length:Nat):Int)->xZ (es++ [e]) (l++ [h]) i
 | [],[],i,e,h,_,h1,h2=>⟨⟨h1,by simpa using h2⟩,trivial⟩
 |x::es,y::l,i,e,h,he,h1,h2=>⟨he.1,xZ.snoc he.2 h1 (by rw [h2];congr 2;simp;omega)⟩
 | [],_::_,_,_,_,he,_,_=>he.elim
 |_::_,[],_,_,_,he,_,_=>he.elim
theorem pw(h:HT)(w:World):∀(es:List MapEntry) (l:List HT) (i:Nat),xZ es l i->
 (Instr.findAsking ax (.agg h.1) es i).run prog w=.ok ((pos h l i).map fun j=>(j,.int .i64 (j:Int))) w
 | [],[],i,_=>by simp [Instr.findAsking,pos]
 |e::es,x::l,i,he=>by
  have hq:=r6 h x w;have ih:=pw h w es l (i+1) he.2;simp only [Instr.findAsking,he.1.1,Sem.run_bind,hq,Result.andThen_ok];by_cases hx:h=x
  ·simp [hx,pos,he.1.2]
  ·simp [hx,pos,ih]
 | [],_::_,_,he=>he.elim
 |_::_,[],_,he=>he.elim
theorem mn(h:HT)(w:World){es:List MapEntry}{l:List HT}(he:xZ es l 0):
 (Instr.findKey ax (.agg h.1) es).run prog w=.ok ((pos h l 0).map fun j=>(j,.int .i64 (j:Int))) w:=by
 have h1:=pw h w es l 0 he;simp only [Instr.findKey,Sem.run_bind,run_underlying Ge,Result.andThen_ok];cases es with
 |nil=>
  cases l with
  |nil=>simp [Instr.findNow,pos]
  |cons x l=>exact he.elim
 |cons e es=>
  have:Instr.findNow (.array 32 gU) (.agg h.1) (e::es) 0=none:=by
   simp only [Instr.findNow,Instr.sameNow]
  rw [this];exact h1
theorem nR{r:Nat}{es:Array MapEntry}{clock:Nat}(hb:w.heap[r]? =some (.map es clock)):(getObj r).run prog w=.ok (.map es clock) w:=by
 simp [getObj,Sem.run,hb]
theorem yx{r:Nat}{es:Array MapEntry}{clock:Nat}(o:Obj)(hb:w.heap[r]? =some (.map es clock)):(setObj r o).run prog w=.ok () {w with heap:=w.heap.setIfInBounds r o}:=by
 simp [setObj,Sem.run,hb]
structure IsMap(w:World)(m:Nat)(l:List HT):Prop where
 ex:∃es clock,w.heap[m]? =some (.map es clock)/\xZ es.toList l 0
theorem IsMap.aK{S:Nat->Prop}{w w':World}{m:Nat}{l:List HT}(h:IsMap w m l)(hk:Kept S w w')(hn:¬S m):IsMap w' m l:=by
 obtain⟨es,clock,h1,h2⟩:=h.ex;exact⟨es,clock,hk.heap h1 hn,h2⟩
theorem IsMap.lt{w:World}{m:Nat}{l:List HT}(h:IsMap w m l):m<w.heap.size:=by
 obtain⟨es,clock,h1,_⟩:=h.ex;exact aZ h1
theorem IsMap.look{m:Nat}{l:List HT}(hm:IsMap w m l)(h:HT):
 (Instr.lookup b0 (.map (some m)) (.agg h.1) true).run prog w=.ok (.tuple #[.int .i64 (((pos h l 0).getD 0:Nat):Int),.bool (pos h l 0).isSome]) w:=by
 obtain⟨es,clock,h1,h2⟩:=hm.ex;have h3:=mn h w h2;simp only [Instr.lookup,Sem.run_bind,run_underlying Jv,nR h1,Result.andThen_ok,Sem.run_pure,hU,h3];cases hp:pos h l 0<;>simp
theorem IsMap.uO{m:Nat}{l:List HT}(hm:IsMap w m l)(h:HT):
 (Instr.lookup b0 (.map (some m)) (.agg h.1) false).run prog w=.ok (.int .i64 (((pos h l 0).getD 0:Nat):Int)) w:=by
 obtain⟨es,clock,h1,h2⟩:=hm.ex;have h3:=mn h w h2;simp only [Instr.lookup,Sem.run_bind,run_underlying Jv,nR h1,Result.andThen_ok,Sem.run_pure,hU,h3];cases hp:pos h l 0<;>simp
theorem IsMap.put{m:Nat}{l:List HT}(hm:IsMap w m l){h:HT}(hn:h∉l):
 ∃w',(Instr.mapUpdate b0 (.map (some m)) (.agg h.1) (.int .i64 ((l.length:Nat):Int))).run prog w=.ok () w'/\IsMap w' m (l++ [h])/\Kept (· =m) w w':=by
 obtain⟨es,clock,h1,h2⟩:=hm.ex;have h3:=mn h w h2;rw [sh.2 hn]at h3;refine⟨{w with heap:=w.heap.setIfInBounds m (.map (es.push {key:=.agg h.1,val:=.int .i64 ((l.length:Nat):Int),born:=clock}) (clock+1))},?_,⟨es.push {key:=.agg h.1,val:=.int .i64 ((l.length:Nat):Int),born:=clock},clock+1,?_,?_⟩,?_⟩
 ·simp only [Instr.mapUpdate,Sem.run_bind,run_underlying Jv,nR h1,Result.andThen_ok,hU,h3,Option.map_none,yx _ h1]
 ·simp [aZ h1]
 ·have:=h2.snoc (e:= {key:=.agg h.1,val:=.int .i64 ((l.length:Nat):Int),born:=clock}) (h:=h) rfl (by simp)
  simpa using this
 ·exact⟨rfl,rfl,rfl,by simp,fun k _ hk=>by simp [Ne.symm hk]⟩
end
end Go.Proofs.YtfleamccglihoaaGreatDoor
namespace Go.Proofs.YtfleamccglihoaaGreatDoor
open Go.Proofs.Tryz
open Go Go.bE
structure DN where
 id:HT
 ps:List HT
abbrev DG:=List DN
def ids(D:DG):List HT:=D.map (·.id)
def nf(D:DG)(p h:HT):Prop:=∃nd∈D,nd.id=h/\p∈nd.ps
inductive fD (D:DG):HT->HT->Prop
 |one {p h:HT}:nf D p h->fD D p h
 |more {a p h:HT}:fD D a p->nf D p h->fD D a h
theorem fD.trans{D:DG}{a b c:HT}(h:fD D a b)(h':fD D b c):fD D a c:=by
 induction h' with
 |one hp=>exact .more h hp
 |more _ hp ih=>exact .more ih hp
structure jQ(D:DG):Prop where
 pos:0<D.length
 nodup:(ids D).Nodup
 ss:∀nd∈D,SS nd.ps
 up:∀(i:Nat) nd p,D[i]? =some nd->p∈nd.ps->∃(j:Nat) (m:DN),j<i/\D[j]? =some m/\m.id=p
theorem jH(D:DG):(ids D).length=D.length:=by simp [ids]
theorem rM{D:DG}{i:Nat}{nd:DN}(h:D[i]? =some nd):(ids D)[i]? =some nd.id:=by simp [ids,h]
theorem Kr{D:DG}{i:Nat}{h:HT}(e:(ids D)[i]? =some h):∃nd,D[i]? =some nd/\nd.id=h:=by
 unfold ids at e;rw [List.getElem?_map]at e;cases hd:D[i]? with
 |none=>rw [hd]at e;cases e
 |some nd=>rw [hd]at e;exact⟨nd,rfl,by simpa using e⟩
theorem dw{D:DG}{h:HT}:h∈ids D↔∃nd∈D,nd.id=h:=by simp [ids]
section
variable{D:DG}
theorem jQ.inj(W:jQ D){i j:Nat}{a b:DN}(ha:D[i]? =some a)(hb:D[j]? =some b)(e:a.id=b.id):i=j:=by
 have h1:=jA 0 i W.nodup (rM ha);have h2:=jA 0 j W.nodup (rM hb);rw [e,h2]at h1;simpa using h1.symm
theorem jQ.pos_eq(W:jQ D){i:Nat}{nd:DN}(h:D[i]? =some nd):Proofs.YtfleamccglihoaaGreatDoor.pos nd.id (ids D) 0=some i:=by
 have:=jA 0 i W.nodup (rM h)
 rwa [Nat.zero_add]at this
theorem nf.at_(W:jQ D){p h:HT}(hp:nf D p h):∃(i j:Nat) (m nd:DN),i<j/\D[i]? =some m/\D[j]? =some nd/\m.id=p/\nd.id=h/\p∈nd.ps:=by
 obtain⟨nd,gP,rfl,vY⟩:=hp;obtain⟨j,hj⟩:=List.mem_iff_getElem?.1 gP;obtain⟨i,m,pP,hm,e⟩:=W.up j nd p hj vY;exact⟨i,j,m,nd,pP,hm,hj,e,rfl,vY⟩
theorem fD.at_(W:jQ D){a h:HT}(hp:fD D a h):∃(i j:Nat) (m nd:DN),i<j/\D[i]? =some m/\D[j]? =some nd/\m.id=a/\nd.id=h:=by
 induction hp with
 |one hp=>
  obtain⟨i,j,m,nd,h1,h2,h3,h4,h5,_⟩:=hp.at_ W;exact⟨i,j,m,nd,h1,h2,h3,h4,h5⟩
 |more _ hp ih=>
  obtain⟨i,j,m,nd,h1,h2,h3,h4,h5⟩:=ih;obtain⟨i',j',m',nd',qV,sS,AT,Sf,h5',_⟩:=hp.at_ W;have e:=W.inj h3 sS (by rw [h5,Sf]);exact⟨i,j',m,nd',by omega,h2,AT,h4,h5'⟩
theorem fD.irrefl(W:jQ D)(a:HT):¬fD D a a:=fun h=>by
 obtain⟨i,j,m,nd,h1,h2,h3,h4,h5⟩:=h.at_ W;have:=W.inj h2 h3 (by rw [h4,h5]);omega
theorem fD.mem(W:jQ D){a h:HT}(hp:fD D a h):a∈ids D/\h∈ids D:=by
 obtain⟨i,j,m,nd,_,h2,h3,h4,h5⟩:=hp.at_ W;exact⟨dw.2 ⟨m,List.mem_of_getElem? h2,h4⟩,dw.2 ⟨nd,List.mem_of_getElem? h3,h5⟩⟩
theorem A0(W:jQ D){i:Nat}{nd:DN}(h:D[i]? =some nd)(a:HT):fD D a nd.id↔∃p∈nd.ps,a=p\/fD D a p:=by
 have key:∀ {p},nf D p nd.id->p∈nd.ps:=fun⟨nd',hm,e,hp⟩=>by
  obtain⟨j,hj⟩:=List.mem_iff_getElem?.1 hm;have:=W.inj h hj e.symm;subst this;rw [h]at hj;cases hj;exact hp
 constructor
 ·intro ha
  generalize he:nd.id=x at ha;cases ha with
  |one hp=>subst he;exact⟨a,key hp,.inl rfl⟩
  |more zi hp=>subst he;exact⟨_,key hp,.inr zi⟩
 ·rintro⟨p,hp,e⟩
  have oF:nf D p nd.id:=⟨nd,List.mem_of_getElem? h,rfl,hp⟩;rcases e with rfl|e
  ·exact .one oF
  ·exact .more e oF
theorem lO{nd:DN}{p h:HT}:nf (D++ [nd]) p h↔nf D p h\/(nd.id=h/\p∈nd.ps):=by
 unfold nf;constructor
 ·rintro⟨m,hm,e,hp⟩
  rw [List.mem_append,List.mem_singleton]at hm;rcases hm with hm|rfl
  ·exact .inl ⟨m,hm,e,hp⟩
  ·exact .inr ⟨e,hp⟩
 ·rintro(⟨m,hm,e,hp⟩|⟨e,hp⟩)
  ·exact⟨m,by simp [hm],e,hp⟩
  ·exact⟨nd,by simp,e,hp⟩
theorem iw(W:jQ D){nd:DN}(hn:nd.id∉ids D){a h:HT}(hh:h∈ids D):fD (D++ [nd]) a h↔fD D a h:=by
 constructor
 ·intro ha
  induction ha with
  |one hp=>
   rcases lO.1 hp with hp|⟨e,_⟩
   ·exact .one hp
   ·subst e;exact absurd hh hn
  |more _ hp ih=>
   rcases lO.1 hp with hp|⟨e,_⟩
   ·exact .more (ih (fD.mem W (.one hp)).1) hp
   ·subst e;exact absurd hh hn
 ·intro ha
  induction ha with
  |one hp=>exact .one (lO.2 (.inl hp))
  |more zi hp ih=>exact .more (ih (fD.mem W zi).2) (lO.2 (.inl hp))
theorem jM(D:DG)(nd:DN):ids (D++ [nd])=ids D++ [nd.id]:=by simp [ids]
theorem jQ.snoc(W:jQ D){nd:DN}(hn:nd.id∉ids D)(vY:∀p∈nd.ps,p∈ids D)(hs:SS nd.ps):jQ (D++ [nd]) where
 pos:=by simp
 nodup:=by
  rw [jM,List.nodup_append];refine⟨W.nodup,by simp,fun a ha b hb=>?_⟩;rw [List.mem_singleton]at hb;subst hb;exact fun e=>hn (e▸ha)
 ss:=fun m hm=>by
  rw [List.mem_append,List.mem_singleton]at hm;rcases hm with hm|rfl
  ·exact W.ss m hm
  ·exact hs
 up:=fun i m p hi hp=>by
  rw [List.getElem?_append]at hi;split at hi
  ·rename_i cJ
   obtain⟨j,q,h1,h2,h3⟩:=W.up i m p hi hp;exact⟨j,q,h1,by rw [List.getElem?_append_left (by omega)];exact h2,h3⟩
  ·rename_i iK
   have:m=nd:=by
    cases hk:i-D.length with
    |zero=>rw [hk]at hi;simpa using hi.symm
    |succ k=>rw [hk]at hi;simp at hi
   subst this;obtain⟨q,hq,e⟩:=dw.1 (vY p hp);obtain⟨j,hj⟩:=List.mem_iff_getElem?.1 hq;have tM:=(lgeS hj).1;exact⟨j,q,by omega,by rw [List.getElem?_append_left tM];exact hj,e⟩
end
theorem jQ.root(r:HT):jQ [⟨r,[]⟩] where
 pos:=by simp
 nodup:=by simp [ids]
 ss:=fun nd h=>by simp at h;subst h;exact List.Pairwise.nil
 up:=fun i nd p h hp=>by
  cases i with
  |zero=>simp at h;subst h;simp at hp
  |succ i=>simp at h
def eo(D:DG)(h:HT)(l:List HT):Int:=
 if h∈ids D then 7 else if(dg l).length=0\/(dg l).length≠l.length then 9 else if ∃p∈dg l,p∉ids D then 6 else 0
def mE(D:DG)(h:HT)(l:List HT):DG:=if eo D h l=0 then D++ [⟨h,dg l⟩]else D
theorem lD{D:DG}{h:HT}{l:List HT}(e:eo D h l=0):h∉ids D/\l≠ []/\l.Nodup/\∀p∈dg l,p∈ids D:=by
 unfold eo at e;split at e
 ·cases e
 ·rename_i h1
  split at e
  ·cases e
  ·rename_i h2
   split at e
   ·cases e
   ·rename_i h3
    simp only [not_or,Decidable.not_not]at h2;refine⟨h1,fun hl=>h2.1 (by rw [hl];rfl),pH h2.2,fun p hp=>Classical.byContradiction fun hn=>h3 ⟨p,hp,hn⟩⟩
theorem jQ.add{D:DG}(W:jQ D)(h:HT)(l:List HT):jQ (mE D h l):=by
 unfold mE;split
 ·rename_i e
  obtain⟨h1,_,_,h4⟩:=lD e;exact W.snoc h1 h4 (iL l)
 ·exact W
open Classical in
noncomputable def pick(D:DG)(is:HT->Prop):List HT:=dg ((ids D).filter fun a=>decide (is a))
theorem jL{D:DG}{is:HT->Prop}{a:HT}:a∈pick D is↔a∈ids D/\is a:=by
 unfold pick;rw [dI,List.mem_filter];simp
theorem Gn{D:DG}{is:HT->Prop}{l:List HT}(h:∀a,a∈l↔a∈ids D/\is a):dg l=pick D is:=Aa fun x=>by
 rw [h,List.mem_filter];simp
theorem pD(D:DG)(is:HT->Prop):(pick D is).length<=D.length:=by
 unfold pick;refine Nat.le_trans (nZ _) (Nat.le_trans (List.length_filter_le _ _) ?_);rw [jH];exact Nat.le_refl _
noncomputable def eR(D:DG)(l:List HT):List HT:=pick D fun a=>∃h∈l,fD D a h
noncomputable def fI(D:DG)(h:HT):List HT:=pick D fun a=>nf D h a
open Go.RowKit
structure NS(w:World)(F:Nat->Prop)(A:Option Addr)(n:Nat)(l:List DN):Prop where
 len:l.length=n
 at_:∀(i:Nat) nd,l[i]? =some nd->∃a pA pn pc,A=some a/\a.block<w.heap.size/\F a.block/\Cells w (a.add (i*33)) (nd.id.1.push (.slice pA pn pc))/\HS w pA pn nd.ps/\∀b,pA=some b->F b.block
section
variable{w w':World}{F F' S:Nat->Prop}{A:Option Addr}{n:Nat}{l:List DN}
theorem Dw:Bb prog mX o8 33 56:=⟨by kernel_rfl,by kernel_rfl⟩
structure IsR(w:World)(F:Nat->Prop)(r:Nat)(D:DG):Prop where
 ex:∃(A:Option Addr) (c:Nat) (cs:Array Value) (t:TypeId),w.heap[r]? =some (.cells cs t (0,0))/\cs[0]? =some (.slice A D.length c)/\NS w F A D.length D
 ko:¬F r
variable{r:Nat}{D:DG}{K:Value->World->Prop}
end
section
variable{w w':World}{F F' S:Nat->Prop}{A:Option Addr}{n c B:Nat}{l:List DN}{news:List Value}{r:Nat}{D:DG}{K:Value->World->Prop}
end
section
variable{w w' lg:World}{F S:Nat->Prop}{D:DG}{l out:List HT}{A1 A2:Option Addr}{c1 c2 r:Nat}{K:Value->World->Prop}
theorem lr(w:World)(x:HT):HS (w.alloc (.cells (x.1.toList++ []).toArray ax)) (some ⟨w.heap.size,0,none⟩) 1 [x]:=by
 refine HS.one (t:=ax) (fr:=(0,0)) ?_;rw [List.append_nil,Array.toArray_toList];exact aR w _
end
section
variable{w w' lg:World}{F S:Nat->Prop}{D:DG}{is:HT->Prop}{i:Nat}{l out:List HT}{A:Option Addr}{c r:Nat}{K:Value->World->Prop}
theorem DK(W:jQ D){j:Nat}{nd:DN}(h2:D[j]? =some nd)(p:HT):nf D p nd.id↔p∈nd.ps:=by
 constructor
 ·rintro⟨md,AH,e,hp⟩
  obtain⟨k,hk⟩:=List.mem_iff_getElem?.1 AH;have:=W.inj hk h2 e;subst this;rw [h2]at hk;cases hk;exact hp
 ·exact fun hp=>⟨nd,List.mem_of_getElem? h2,rfl,hp⟩
end
structure NM where
 b:Nat
 pA:Option Addr
 pn:Nat
 pc:Nat
 cA:Option Addr
 cn:Nat
 cc:Nat
 rA:Option Addr
 rn:Nat
 rc:Nat
 ws:List Nat
def eM(h:HT)(m:NM):Array Value:=h.1++ #[.slice m.pA m.pn m.pc,.slice m.cA m.cn m.cc,.slice m.rA m.rn m.rc]
theorem sx(h:HT)(m:NM):(eM h m).size=35:=by unfold eM;rw [Array.size_append,h.2.1];rfl
theorem DM(h:HT)(m:NM){j:Nat}{v:Value}(hj:h.1[j]? =some v):(eM h m)[j]? =some v:=by
 unfold eM;rw [Array.getElem?_append_left (Array.getElem?_eq_some_iff.1 hj).1];exact hj
theorem DO(h:HT)(m:NM):(eM h m)[33]? =some (.slice m.cA m.cn m.cc):=by
 unfold eM;rw [Array.getElem?_append_right (by rw [h.2.1];omega),h.2.1];rfl
theorem wS(h:HT)(m:NM):(eM h m)[34]? =some (.slice m.rA m.rn m.rc):=by
 unfold eM;rw [Array.getElem?_append_right (by rw [h.2.1];omega),h.2.1];rfl
theorem BT{h h':HT}{m m':NM}(e:eM h m=eM h' m'):h=h':=by
 apply Subtype.ext;have h1:=h.2.1;have h2:=h'.2.1;have:=congrArg (fun a:Array Value=>a.toList.take 32) e;unfold eM at this;simp only [Array.toList_append]at this;rw [List.take_left' (by simpa using h1),List.take_left' (by simpa using h2)]at this;exact Array.ext' this
structure o9(w:World)(S F:Nat->Prop)(D:DG)(ch:List HT)(nd:DN)(m:NM):Prop where
 bS:w.heap[m.b]? =some (.cells (eM nd.id m) dd (0,0))
 fg:S m.b
 ps:HS w m.pA m.pn nd.ps
 Gm:∀a,m.pA=some a->F a.block
 ch:cr w 0 m.cA m.cn m.cc ch
 LH:∀k,bp m.cA=some k->S k
 past:US w m.rA m.rn m.ws
 nD:∀a,m.rA=some a->F a.block
 ok:okW m.ws
 bits:∀j,bit m.ws j=true↔∃nj,D[j]? =some nj/\fD D nj.id nd.id
 small:m.rn<=200
structure GV(w:World)(S F:Nat->Prop)(g:Nat)(D:DG)(C:HT->List HT)(bl c mb:Nat)(M:List NM):Prop where
 top:w.heap[g]? =some (.cells #[.slice (some ⟨bl,0,none⟩) D.length c,.map (some mb)] fQ (0,0))
 row:Row w 0 dP 1 (some ⟨bl,0,none⟩) D.length c (M.map fun m=>.pointer (some ⟨m.b,0,none⟩))
 map:IsMap w mb (ids D)
 len:M.length=D.length
 node:∀(i:Nat) nd m,D[i]? =some nd->M[i]? =some m->o9 w S F D (C nd.id) nd m
 apart:∀(i j:Nat) m m',M[i]? =some m->M[j]? =some m'->i≠j->∀k,bp m.cA=some k->bp m'.cA≠some k
 fZ:S g
 qY:S bl
 tc:S mb
 C9:∀k,S k->¬F k
 low:∀k,S k\/F k->k<w.heap.size
def zT(w:World)(S F:Nat->Prop)(g:Nat)(D:DG):Prop:=∃bl c mb M,GV w S F g D (fI D) bl c mb M
section
variable{w w':World}{S F S' F':Nat->Prop}{g bl c mb:Nat}{D:DG}{C:HT->List HT}{M:List NM}{K:Value->World->Prop}
theorem o9.aK{ch:List HT}{nd:DN}{m:NM}{S0:Nat->Prop}(h:o9 w S F D ch nd m)(hk:Kept S0 w w')(hS:∀k,S k->¬S0 k)(hF:∀k,F k->¬S0 k):o9 w' S F D ch nd m:=
 ⟨hk.heap h.bS (hS _ h.fg),h.fg,h.ps.aK hk (fun a ha=>hF _ (h.Gm a ha)),h.Gm,Row.aK h.ch hk (fun k hb=>hS k (h.LH k hb)),h.LH,h.past.aK hk (fun a ha=>hF _ (h.nD a ha)),h.nD,h.ok,h.bits,h.small⟩
theorem GV.aK{S0:Nat->Prop}(h:GV w S F g D C bl c mb M)(hk:Kept S0 w w')(hS:∀k,S k->¬S0 k)(hF:∀k,F k->¬S0 k):GV w' S F g D C bl c mb M:=
 ⟨hk.heap h.top (hS _ h.fZ),Row.aK h.row hk (fun k e=>by cases e;exact hS _ h.qY),h.map.aK hk (hS _ h.tc),h.len,fun i nd m h1 h2=>(h.node i nd m h1 h2).aK hk hS hF,h.apart,h.fZ,h.qY,h.tc,h.C9,fun k mZ=>Nat.lt_of_lt_of_le (h.low k mZ) hk.size⟩
theorem GV.same(h:GV w S F g D C bl c mb M)(hk:Kept Nil w w'):GV w' S F g D C bl c mb M:=h.aK hk (fun _ _ h=>h) (fun _ _ h=>h)
theorem zT.aK{S0:Nat->Prop}(h:zT w S F g D)(hk:Kept S0 w w')(hS:∀k,S k->¬S0 k)(hF:∀k,F k->¬S0 k):zT w' S F g D:=let ⟨bl,c,mb,M,h⟩:=h;⟨bl,c,mb,M,h.aK hk hS hF⟩
theorem zT.same(h:zT w S F g D)(hk:Kept Nil w w'):zT w' S F g D:=h.aK hk (fun _ _ h=>h) (fun _ _ h=>h)
theorem GV.get(h:GV w S F g D C bl c mb M){i:Nat}{nd:DN}(hi:D[i]? =some nd):∃m,M[i]? =some m/\o9 w S F D (C nd.id) nd m:=by
 have:=(lgeS hi).1;have hl:=h.len;exact⟨M[i],List.getElem?_eq_getElem (by omega),h.node i nd _ hi (List.getElem?_eq_getElem (by omega))⟩
theorem GV.nodes(h:GV w S F g D C bl c mb M):w.cell? ((⟨g,0,none⟩:Addr).add 0)=some (.slice (some ⟨bl,0,none⟩) D.length c):=by rw [add_zero,aD h.top];rfl
theorem GV.at_(h:GV w S F g D C bl c mb M):w.cell? ((⟨g,0,none⟩:Addr).add 1)=some (.map (some mb)):=by rw [bu,aD h.top];rfl
theorem GV.ptr(h:GV w S F g D C bl c mb M){i:Nat}{m:NM}(hm:M[i]? =some m):w.cell? ((⟨bl,0,none⟩:Addr).add (i*1))=some (.pointer (some ⟨m.b,0,none⟩)):=by
 rw [bu,Nat.zero_add,Nat.mul_one];exact Row.cell h.row (by rw [List.getElem?_map,hm];rfl)
theorem vc(h:GV w S F g D C bl c mb M)(hK:K (.bool true) w):bm prog eV.id #[.pointer (some ⟨g,0,none⟩)] w K:=
 eV.of (Split.yes rfl ⟨some mb,h.at_,hK⟩)
def Found(D:DG)(M:List NM)(h:HT)(x:Option Addr):Prop:=(x=none/\h∉ids D)\/∃(i:Nat) (nd:DN) (m:NM),D[i]? =some nd/\nd.id=h/\M[i]? =some m/\x=some ⟨m.b,0,none⟩
theorem Found.isSome{h:HT}{x:Option Addr}(f:Found D M h x):(!x.isNone)=decide (h∈ids D):=by
 rcases f with⟨rfl,hn⟩|⟨i,nd,m,h1,h2,_,rfl⟩
 ·rw [decide_eq_false hn];rfl
 ·rw [decide_eq_true (dw.2 ⟨nd,List.mem_of_getElem? h1,h2⟩)];rfl
theorem tm(G:GV w S F g D C bl c mb M)(h:HT)(hK:∀w' x,Kept Nil w w'->Found D M h x->K (.pointer x) w'):
 bm prog eF.id #[.pointer (some ⟨g,0,none⟩),.agg h.1] w K:=by
 refine eF.of ?_;unfold eF.W;intro w3;have k3:Kept Nil w w3:=(Kept.refl _ _).alloc _;have o6:w3.heap[w.heap.size]? =some (.cells h.1 ax (0,0)):=aR w _;clear_value w3;refine vc (G.same k3) ⟨true,rfl,Split.yes rfl ?_⟩;intro w7;have k7:Kept Nil w3 w7:=(Kept.refl _ _).drew;clear_value w7;have kw:Kept Nil w w7:=k3.tt k7;have G7:=G.same kw;refine⟨some mb,G7.at_,h.1,⟨h.2.1,Cells.bS (k7.heap o6 (fun h=>h))⟩,_,_,G7.map.look h,?_⟩;cases hp:pos h (ids D) 0 with
 |none=>exact Split.no rfl (hK w7 none kw (.inl ⟨rfl,sh.1 hp⟩))
 |some i=>
  obtain⟨_,hi⟩:=wH hp;obtain⟨nd,h1,h2⟩:=Kr hi;rw [Nat.sub_zero]at h1;obtain⟨m,hm,_⟩:=G7.get h1;have fc:=(lgeS h1).1;refine Split.yes rfl ⟨_,_,_,G7.nodes,⟨by simp,by simp only [Option.getD_some];omega⟩,some ⟨m.b,0,none⟩,?_,hK w7 _ kw (.inr ⟨i,nd,m,h1,h2,hm,rfl⟩)⟩;rw [Option.getD_some,Int.toNat_natCast];exact G7.ptr hm
theorem pW(G:GV w S F g D C bl c mb M)(h:HT)(hK:∀w',Kept Nil w w'->K (.bool (decide (h∈ids D))) w'):
 bm prog fy.id #[.pointer (some ⟨g,0,none⟩),.agg h.1] w K:=by
 refine fy.of ?_;unfold fy.W;intro w3;have k3:Kept Nil w w3:=(Kept.refl _ _).alloc _;have o6:w3.heap[w.heap.size]? =some (.cells h.1 ax (0,0)):=aR w _;clear_value w3;refine⟨h.1,⟨h.2.1,Cells.bS o6⟩,tm (G.same k3) h fun w6 x k6 hx=>⟨x,rfl,?_⟩⟩;rw [hx.isSome];exact hK w6 (k3.tt k6)
end
section
variable{w w':World}{S F:Nat->Prop}{g bl c mb:Nat}{D:DG}{C:HT->List HT}{M:List NM}{K:Value->World->Prop}
end
section
variable{w w':World}{S F:Nat->Prop}{g bl c mb:Nat}{D:DG}{C:HT->List HT}{M:List NM}{K:Value->World->Prop}
theorem zD{A:Option Addr}{n c:Nat}{l:List HT}(hl:HS w A n l)(hn:n<=400000)(hK:∀A' c' w',cr w' w.heap.size A' n c' l->Kept Nil w w'->K (.slice A' n c') w'):
 bm prog cF.id #[.slice A n c] w K:=by
 refine cF.of ?_;cases A with
 |none=>
  obtain⟨rfl,rfl⟩:=hl.none;exact Split.yes rfl (hK none 0 w (cr.nil _ _) (Kept.refl _ _))
 |some a=>
  refine Split.no rfl ?_;intro w2;have k2:Kept Nil w w2:=(Kept.refl _ _).alloc _;have r0:cr w2 w.heap.size (some ⟨w.heap.size,0,none⟩) 0 0 []:=Row.made (n:=0) (cur:= #[]) (aR w _) (Nat.le_refl _) rfl (Nat.zero_le _);clear_value w2;obtain⟨A',c',w4,hr,row,hg,_⟩:=gw (cx:=c) aV r0 (hl.same k2) (by omega) k2.size;rw [Nat.zero_add]at hr row;rw [List.nil_append]at row;exact⟨A',n,c',w4,hr,hK A' c' w4 row (Kept.pR k2 hg (fun k hk=>by cases hk;exact Nat.le_refl _))⟩
theorem uG{D:DG}{nd:DN}{m:NM}{ch:List HT}(N:o9 w S F D ch nd m):w.cell? ((⟨m.b,0,none⟩:Addr).add 34)=some (.slice m.rA m.rn m.rc):=by
 rw [bu,Nat.zero_add,aD N.bS];exact wS _ _
theorem Al{D:DG}{nd:DN}{m:NM}{ch:List HT}(N:o9 w S F D ch nd m):w.cell? ((⟨m.b,0,none⟩:Addr).add 33)=some (.slice m.cA m.cn m.cc):=by
 rw [bu,Nat.zero_add,aD N.bS];exact DO _ _
end
def mO(D:DG)(j:Nat):HT:=match D[j]? with|some nd=>nd.id|none=>default
theorem sl:∀(ws:List Nat) (k:Nat),okW ws->(nH k ws).Nodup
 | [],_,_=>List.Pairwise.nil
 |x::ws,k,ho=>by
  have hx:=ho x (by simp);have FM:okW ws:=fun y hy=>ho y (by simp [hy]);obtain⟨_,h2,h3⟩:=uM x hx;rw [nH,List.nodup_append];refine⟨List.Pairwise.map _ (fun a b mJ e=>mJ (by omega)) h2,sl ws (k+1) FM,fun a ha b hb e=>?_⟩;rw [List.mem_map]at ha;obtain⟨t,ht,rfl⟩:=ha;have:=((nJ ws (k+1) b FM).1 hb).1;have:=h3 t ht;omega
section
variable{w w':World}{S F:Nat->Prop}{g bl c mb:Nat}{D:DG}{C:HT->List HT}{M:List NM}{K:Value->World->Prop}
theorem tn(G:GV w S F g D C bl c mb M)(W:jQ D)(hD:D.length<=10000)(hT:p7 w){A:Option Addr}{n cx:Nat}{l:List HT}(hl:HS w A n l)(hn:n<=10000)
 (hK:∀A' c' w',cr w' w.heap.size A' (eR D l).length c' (eR D l)->Kept Nil w w'->K (.slice A' (eR D l).length c') w'):
 bm prog aJ.id #[.pointer (some ⟨g,0,none⟩),.slice A n cx] w K:=by
 have hlen:=hl.len;refine aJ.of ?_;unfold aJ.W;intro w3;have k3:Kept Nil w w3:=(Kept.refl _ _).alloc _;have Vs:w3.heap[w.heap.size]? =some (.cells #[.pointer (some ⟨g,0,none⟩)] fY (0,0)):=aR w _;have G1:w.heap.size<w3.heap.size:=aZ Vs;clear_value w3;refine aJ.cf (I:=fun s w'=>∃(i:Nat) (A':Option Addr) (n' c':Nat) (ws:List Nat),s=(A',n',c',(i:Int))/\i<=n/\jx w' w3.heap.size A' n' c' ws/\okW ws/\n'<=200/\(∀j,bit ws j=true↔∃h∈l.take i,∃nj,D[j]? =some nj/\fD D nj.id h)/\Kept Nil w3 w')
  (μ:=fun s _=>((n:Int)-s.2.2.2).toNat) (s:=(none,0,0,0)) ⟨0,none,0,0,[],rfl,Nat.zero_le _,Row.nil _ _ _ _,by simp [okW],by omega,by simp [vN],Kept.refl _ _⟩ ?_
 rintro s w' ⟨i,A',n',c',ws,rfl,hi,row,ho,UZ,oH,kw⟩;have kk:Kept Nil w w':=k3.tt kw;refine Split.dec (fun lH=>?_) (fun iK=>?_)
 ·simp only at lH
  have fc:i<n:=by omega
  obtain⟨h,hh⟩:∃h,l[i]? =some h:=⟨_,List.getElem?_eq_getElem (by omega)⟩;refine(hl.same kk).load (i:=(i:Int)) (by omega) hh ?_;intro ph;obtain⟨ry,jw,jg⟩:=gg (w:=w') (z:=(yT 0)) (cs:=h.1) (t:=ax) (by rw [h.2.1];rfl);refine⟨⟨h.2.1,h.2.one,fun j hj=>ry j (by rw [h.2.1];exact hj)⟩,?_⟩;intro np
  replace jw:np.heap[w'.heap.size]? =some (.cells h.1 ax (0,0)):=jw
  replace jg:Kept Nil w' np:=jg
  clear_value np;have uT:Kept Nil w3 np:=kw.tt jg;refine⟨some ⟨g,0,none⟩,by rw [aD (uT.heap Vs (fun h=>h))];rfl,h.1,⟨h.2.1,Cells.bS jw⟩,?_⟩;refine tm (G.same (k3.tt uT)) h fun qc x Az hx=>⟨x,rfl,?_⟩;have GM:Kept Nil w3 qc:=uT.tt Az;have DW:Kept Nil w qc:=k3.tt GM;have uE:jx qc w3.heap.size A' n' c' ws:=Row.aK row (jg.tt Az) (fun _ _ h=>h);rcases hx with⟨rfl,rO⟩|⟨q,nd,m',hq,rfl,oG,rfl⟩
  ·refine Split.no rfl ?_
   simp only;rw [eJ (n:=(i:Int)) (by omega) (by omega)];refine⟨(A',n',c',(i:Int)+1),rfl,⟨i+1,A',n',c',ws,rfl,fc,uE,ho,UZ,fun j=>?_,GM⟩,by simp only;omega⟩;rw [oH];constructor
   ·rintro⟨h',h1,h2⟩;exact⟨h',(bJ hh).2 (.inl h1),h2⟩
   ·rintro⟨h',h1,nj,h2,h3⟩
    rcases(bJ hh).1 h1 with h1|rfl
    ·exact⟨h',h1,nj,h2,h3⟩
    ·exact absurd (h3.mem W).2 rO
  ·obtain⟨m,hm,N⟩:=(G.same DW).get hq
   rw [oG]at hm;cases hm;refine Split.yes rfl ⟨_,_,_,uG N,?_⟩;have Ce:=N.small;have Cr:∀k,bp A'=some k->w3.heap.size<=k:=fun k hk=>(Row.bS uE hk).1;refine uC uE ho (by omega) GM.size N.past N.ok (by omega) (fun a ha k hk e=>?_) fun A2 n2 c2 l2 kr Nf UP Pc Li rv Hs=>⟨A2,n2,c2,rfl,?_⟩
   ·have h1:=G.low a.block (.inr (N.nD a ha))
    have h2:=Cr k hk;omega
   ·simp only
    rw [eJ (n:=(i:Int)) (by omega) (by omega)];refine⟨(A2,n2,c2,(i:Int)+1),rfl,⟨i+1,A2,n2,c2,l2,rfl,fc,Nf,UP,by omega,fun j=>?_,GM.trans rv (fun k hk e=>absurd (Cr k e) (by omega))⟩,by simp only;omega⟩;rw [Li,Bool.or_eq_true,oH,N.bits];constructor
    ·rintro(⟨h',h1,h2⟩|h2)
     ·exact⟨h',(bJ hh).2 (.inl h1),h2⟩
     ·exact⟨nd.id,(bJ hh).2 (.inr rfl),h2⟩
    ·rintro⟨h',h1,h2⟩
     rcases(bJ hh).1 h1 with h1|rfl
     ·exact .inl ⟨h',h1,h2⟩
     ·exact .inr h2
 ·simp only at iK
  have Zh:i=n:=by omega
  subst Zh;rw [List.take_of_length_le (by omega)]at oH;rw [aX,aJ.dA];unfold aJ.cW;intro uy;have Ig:Kept Nil w' uy:=(Kept.refl _ _).alloc _;have O3:uy.heap[w'.heap.size]? =some (.cells #[.slice none 0 0] aV (0,0)):=aR w' _;clear_value uy;refine jb.of ?_;unfold jb.W;intro mN;have x4:Kept Nil uy mN:=(Kept.refl _ _).alloc _;have OI:mN.heap[uy.heap.size]? =some (.cells #[.slice A' n' c'] jD (0,0)):=aR uy _;clear_value mN;refine⟨_,rfl,?_⟩;have O2:=x4.heap O3 (fun h=>h);have NU:Kept Nil w3 mN:=(kw.tt Ig).tt x4;have Gz:Kept Nil w mN:=k3.tt NU;have Nb:jx mN w3.heap.size A' n' c' ws:=Row.aK (Row.aK row Ig (fun _ _ h=>h)) x4 (fun _ _ h=>h);have Vr:=NU.heap Vs (fun h=>h);have x9:w.heap.size<w'.heap.size:=Nat.lt_of_lt_of_le G1 kw.size;have ab8:w'.heap.size<mN.heap.size:=aZ O2;have ab9:uy.heap.size<mN.heap.size:=aZ OI;have Ew:∀j∈nH 0 ws,∃nj,D[j]? =some nj:=fun j hj=>by
   have:=((nJ ws 0 j ho).1 hj).2;rw [Nat.mul_zero,Nat.sub_zero]at this;obtain⟨_,_,nj,h1,_⟩:=(oH j).1 this;exact⟨nj,h1⟩
  have UT:(nH 0 ws).length<=D.length:=by
   have:=sn (m:=List.range D.length) (sl ws 0 ho) (fun j hj=>by
    obtain⟨nj,h1⟩:=Ew j hj;exact List.mem_range.2 (lgeS h1).1)
   rwa [List.length_range]at this
  let xs:=nH 0 ws
  let ρ0:Env:= [(2,.pointer (some (aU w.heap.size))),(4,.slice none 0 0),(9,.pointer (some (aU w'.heap.size))),(30,.func (.func aE.id) #[] #[.pointer (some (aU uy.heap.size))])]
  let J:Nat->World->Prop:=fun i v=>∃A c,v.heap[w'.heap.size]? =some (.cells #[.slice A i c] aV (0,0))/\cr v mN.heap.size A i c ((xs.take i).map (mO D))/\Kept (· =w'.heap.size) mN v/\i<=xs.length
  have pO:∀i v,J i v->US v A' n' ws/\v.cell? ⟨uy.heap.size,0,none⟩=some (.slice A' n' c')/\p7 v:=by
   rintro i v ⟨A,c,h1,h2,h3,h4⟩;refine⟨Nb.us.aK h3 (fun a ha e=>?_),by rw [aD (h3.heap OI (by have:=aZ O3;omega))];rfl,(hT.same Gz).aK h3 (fun e=>by have:=hT.lt;omega)⟩;have hk:bp A'=some a.block:=by rw [ha];rfl
   obtain⟨_,cur,hc⟩:=Row.bS row hk;have:=aZ hc;omega
  refine mu (ρ:=ρ0) (ρ0:=ρ0) ng mix aJ.k (t:=30) (ps:= #[31]) (by kernel_rfl) (by decide) rfl aE.at_ rfl (.inl rfl) (fun i v _ h=>h) rfl encI xs (fun _=>rfl) (by simp [fP]) (Fp ⟨uy.heap.size,0,none⟩ (c:=c') (by omega) ho) J (fun _ _=>False) ?_ (fun _ _ _ _ _ h=>h.elim) pO ?_ ?_ ?_ (fun _ _ h=>h.elim) (fun _ _ _ h=>h.elim)
  ·rintro i v v' R o4 ⟨A,c,h1,h2,h3,h4⟩ hk
   exact⟨A,c,hk.heap h1 (jG h1 o4.loop),Row.apart h2 hk (fun cs t fr h=>by rw [o4.loop]at h;cases h),h3.trans hk (fun k hk e=>by omega),h4⟩
  ·intro R
   exact⟨none,0,jF (jF O2 _) _,cr.nil _ _,(((Kept.refl _ _).alloc _).alloc _),Nat.zero_le _⟩
  ·rintro i x v R hx hj o4
   have hJ:=hj;obtain⟨A,c,h1,h2,h3,h4⟩:=hj;have fc:i<xs.length:=(lgeS hx).1;have e7:jX ρ0 ((#[31]:Array Nat).toList.zip (encI x))= [(2,.pointer (some (aU w.heap.size))),(4,.slice none 0 0),(9,.pointer (some (aU w'.heap.size))),(30,.func (.func aE.id) #[] #[.pointer (some (aU uy.heap.size))]),(31,.int .i64 (x:Int))]:=rfl;rw [e7,aJ.a1];unfold aJ.A1;refine⟨o4,fun w2 R2 mP vB=>?_⟩;have C6:=mP.heap h1 (jG h1 o4.loop);have zm:cr w2 mN.heap.size A i c ((xs.take i).map (mO D)):=Row.apart h2 mP (fun cs t fr h=>by rw [o4.loop]at h;cases h);have WI:Kept (· =w'.heap.size) mN w2:=h3.trans mP (fun k hk e=>by omega);clear hJ h1 h2 h3;rw [aJ.y1];unfold aJ.Y1;intro Jq;have RG:Kept Nil w2 Jq:=(Kept.refl _ _).drew;clear_value Jq;have QT:=RG.heap C6 (fun h=>h);have Au:Kept (· =w'.heap.size) mN Jq:=WI.trans RG (fun _ _ h=>h.elim);obtain⟨nj,IF⟩:=Ew x (List.mem_of_getElem? hx);have sJ:=(lgeS IF).1;have Tn:Kept Nil w Jq:=Gz.trans Au (fun k hk e=>by omega);obtain⟨m,hm,N⟩:=(G.same Tn).get IF;refine⟨A,i,c,by rw [aD QT];rfl,some ⟨g,0,none⟩,by rw [aD (Au.heap Vr (by omega))];rfl,?_⟩;refine⟨_,_,_,(G.same Tn).nodes,⟨by omega,by omega⟩,some ⟨m.b,0,none⟩,by rw [Int.toNat_natCast];exact(G.same Tn).ptr hm,?_⟩;refine⟨nj.id.1,⟨nj.id.2.1,fun j v hj=>?_⟩,nj.id.2.1,?_⟩
   ·rw [add_zero,bu,Nat.zero_add,aD N.bS]
    exact DM _ _ hj
   intro LZ;have NQ:Kept Nil Jq LZ:=(Kept.refl _ _).alloc _;have lr:HS LZ (some ⟨Jq.heap.size,0,none⟩) 1 [nj.id]:=lr Jq nj.id;clear_value LZ;have QS:=NQ.heap QT (fun h=>h);refine⟨by rw [aD QS];rfl,?_⟩;have Hy:cr LZ mN.heap.size A i c ((xs.take i).map (mO D)):=Row.aK (Row.aK zm RG (fun _ _ h=>h)) NQ (fun _ _ h=>h);have Ox:mN.heap.size<=LZ.heap.size:=Nat.le_trans Au.size NQ.size;have GU:xs.length<=D.length:=UT;obtain⟨A2,c2,oP,hr,uD,Hk,Lk⟩:=gw (cx:=1) aV Hy lr (by omega) Ox;have K5:Kept (fun k=>bp A=some k) LZ oP:=Kept.grown (Kept.refl _ _) Hk (fun k hk _=>hk);have QO:∀k,bp A=some k->mN.heap.size<=k:=fun k hk=>(Row.bS Hy hk).1;have QR:=K5.heap QS (fun e=>by have:=QO _ e;omega);have Va:Live (mN.heap.size+1) mN.heap.size R2 oP:=by
    have KU:=(vB.aK RG (fun h=>h) (fun h=>h)).aK NQ (fun h=>h) (fun h=>h);refine KU.aK K5 ?_ ?_
    ·intro h
     obtain⟨_,cur,hc⟩:=Row.bS Hy h;exact jG hc KU.loop rfl
    ·intro h
     obtain⟨_,cur,hc⟩:=Row.bS Hy h;exact vp hc KU.mark rfl
   refine⟨A2,_,c2,oP,hr,dK QR (by simp),?_⟩;intro SP;have TC:Kept (· =w'.heap.size) oP SP:=Kept.setCell (S:=fun k=>k=w'.heap.size) (Kept.refl _ oP) (p:=⟨w'.heap.size,0,none⟩) (fun _=>rfl) _;have V6:SP.heap[w'.heap.size]? =some (.cells #[.slice A2 (i+1) c2] aV (0,0)):=cX QR 0 _;clear_value SP;refine⟨Va.aK TC (by omega) (by omega),A2,c2,V6,?_,((Au.trans NQ (fun _ _ h=>h.elim)).trans K5 (fun k hk e=>absurd (QO k e) (by omega))).tt TC,fc⟩;have e:(xs.take (i+1)).map (mO D)=(xs.take i).map (mO D)++ [nj.id]:=by
    rw [List.take_add_one,hx];simp [mO,IF]
   rw [e];exact Row.aK uD TC (fun k hk e=>by have:=(Row.bS uD hk).1;omega)
  ·rintro v R ⟨A,c,h1,h2,h3,h4⟩ o4
   have e7:gh ρ0 mN.heap.size= [(2,.pointer (some (aU w.heap.size))),(4,.slice none 0 0),(9,.pointer (some (aU w'.heap.size))),(30,.func (.func aE.id) #[] #[.pointer (some (aU uy.heap.size))]),(4294967296,.agg #[.pointer (some ⟨mN.heap.size,0,none⟩)])]:=rfl;rw [e7,aJ.jy];rw [List.take_of_length_le (Nat.le_refl _)]at h2;have GU:xs.length<=D.length:=UT;refine⟨A,xs.length,c,by rw [aD h1];rfl,fW h2.hs (by omega) fun A2 c2 SN DF TB=>⟨A2,_,c2,rfl,⟨TB.heap o4.mark (fun h=>h),trivial⟩,?_⟩⟩;have hmk:=TB.heap o4.mark (fun h=>h);have kp:Kept (· =mN.heap.size) SN (SN.putObj mN.heap.size (.deferred none)):=Kept.putAt _ _ _;have e:dg (xs.map (mO D))=eR D l:=Gn fun a=>by
    rw [List.mem_map];constructor
    ·rintro⟨j,hj,rfl⟩
     have hb:=((nJ ws 0 j ho).1 hj).2;rw [Nat.mul_zero,Nat.sub_zero]at hb;obtain⟨h',qV,nj,sS,AT⟩:=(oH j).1 hb;have:mO D j=nj.id:=by unfold mO;rw [sS]
     rw [this];exact⟨(AT.mem W).1,h',qV,AT⟩
    ·rintro⟨ha,h',hh',ET⟩
     obtain⟨nj,YX,rfl⟩:=dw.1 ha;obtain⟨j,hj⟩:=List.mem_iff_getElem?.1 YX;refine⟨j,(nJ ws 0 j ho).2 ⟨by omega,?_⟩,by unfold mO;rw [hj]⟩;rw [Nat.mul_zero,Nat.sub_zero];exact(oH j).2 ⟨h',hh',nj,hj,ET⟩
   rw [e]at DF⊢;have mv:Kept Nil w SN:=(Gz.trans h3 (fun k hk e=>by omega)).tt TB;have hws:w.heap.size<=v.heap.size:=Nat.le_trans Gz.size h3.size;refine hK A2 c2 _ (Row.base (Row.apart DF kp (fun cs t fr h=>by rw [hmk]at h;cases h)) fun b hb=>Nat.le_trans hws (Row.bS DF hb).1) (mv.trans kp (fun k hk e=>by omega))
end
section
variable{w w':World}{S F:Nat->Prop}{g bl c mb gb:Nat}{D:DG}{C:HT->List HT}{M:List NM}{K:Value->World->Prop}
theorem xM(G:GV w S F g D C bl c mb M)(hg:w.heap[gb]? =some (.cells #[.pointer (some ⟨g,0,none⟩)] fY (0,0))){A:Option Addr}{n cx:Nat}{l:List HT}(hl:HS w A n l)(hn:n<=400000)
 (hK:∀w' (x:Bool),(x=true↔∃p∈l,p∉ids D)->Kept Nil w w'->K (.bool x) w'):
 bm prog cZ.id #[.slice A n cx,.func (.func dt.id) #[] #[.pointer (some ⟨gb,0,none⟩)]] w K:=by
 have hlen:=hl.len;refine bO.of (au.of ?_);refine au.cf (I:=fun s w'=>∃i:Nat,s=(0,(i:Int))/\i<=n/\(∀p∈l.take i,p∈ids D)/\Kept Nil w w') (μ:=fun s _=>((n:Int)-s.2).toNat) (s:=(0,0)) ⟨0,rfl,Nat.zero_le _,by simp,Kept.refl _ _⟩ ?_;rintro s w' ⟨i,rfl,hi,cO,kw⟩;refine Split.dec (fun lH=>?_) (fun iK=>?_)
 ·simp only at lH
  have fc:i<n:=by omega
  obtain⟨x,hx⟩:∃x,l[i]? =some x:=⟨_,List.getElem?_eq_getElem (by omega)⟩;refine(hl.same kw).load (i:=(i:Int)) (by omega) hx ?_;refine dt.of ?_;unfold dt.W;intro w3;have k3:Kept Nil w' w3:=(Kept.refl _ _).alloc _;have o6:w3.heap[w'.heap.size]? =some (.cells x.1 ax (0,0)):=aR w' _;clear_value w3;have Tp:=kw.tt k3;refine⟨some ⟨g,0,none⟩,by rw [aD (Tp.heap hg (fun h=>h))];rfl,x.1,⟨x.2.1,Cells.bS o6⟩,pW (G.same Tp) x fun w7 k7=>⟨_,rfl,_,rfl,?_⟩⟩;have DV:=Tp.tt k7;by_cases hm:x∈ids D
  ·refine Split.no (by rw [decide_eq_true hm];rfl) ?_
   simp only;rw [eJ (n:=(i:Int)) (by omega) (by omega)];refine⟨(0,(i:Int)+1),rfl,⟨i+1,rfl,fc,fun p hp=>?_,DV⟩,by simp only;omega⟩;rcases(bJ hx).1 hp with hp|rfl
   ·exact cO p hp
   ·exact hm
  ·refine Split.yes (by rw [decide_eq_false hm];rfl) ?_
   refine⟨(i:Int),rfl,?_⟩;exact hK w7 _ ⟨fun _=>⟨x,List.mem_of_getElem? hx,hm⟩,fun _=>decide_eq_true (by omega)⟩ DV
 ·simp only at iK
  rw [aX,au.dA];rw [List.take_of_length_le (by omega)]at cO;exact⟨-1,rfl,hK w' _ ⟨fun h=>absurd (of_decide_eq_true h) (by omega),fun⟨p,hp,hn⟩=>absurd (cO p hp) hn⟩ kw⟩
theorem iV{w:World}{a b:Nat}{ca cb:Array Value}{ta tb:TypeId}{fa fb:Nat×Nat}(ha:w.heap[a]? =some (.cells ca ta fa))(hb:w.heap[b]? =some (.cells cb tb fb))(fH:ta≠tb):a≠b:=by
 rintro rfl;rw [ha]at hb;simp only [Option.some.injEq,Obj.cells.injEq]at hb;exact fH hb.2.1
theorem GV.upd(G:GV w S F g D C bl c mb M)(W:jQ D){q:Nat}{nd:DN}{m:NM}(hq:D[q]? =some nd)(hm:M[q]? =some m){A5:Option Addr}{n5 c5:Nat}{ch':List HT}
 (kT:Kept (fun k=>bp m.cA=some k\/k=m.b) w w') (hb:w'.heap[m.b]? =some (.cells (eM nd.id {m with cA:=A5,cn:=n5,cc:=c5}) dd (0,0))) (fV:cr w' w.heap.size A5 n5 c5 ch'):
 GV w' (fun k=>S k\/bp A5=some k) F g D (fun x=>if x=nd.id then ch' else C x) bl c mb (M.set q {m with cA:=A5,cn:=n5,cc:=c5}):=by
 have N:=G.node q nd m hq hm;have Mn:q<M.length:=(lgeS hm).1;have mR:∀k,bp m.cA=some k->∃cur,w.heap[k]? =some (.cells cur ax (0,0)):=fun k hk=>(Row.bS N.ch hk).2;have hF:∀k,F k->¬(bp m.cA=some k\/k=m.b):=fun k hk e=>by
  rcases e with e|rfl
  ·exact G.C9 k (N.LH k e) hk
  ·exact G.C9 _ N.fg hk
 have XA:∀ {k:Nat} {cs:Array Value} {t:TypeId},w.heap[k]? =some (.cells cs t (0,0))->t≠ax->t≠dd->¬(bp m.cA=some k\/k=m.b):=fun h h1 h2 e=>by
  rcases e with e|rfl
  ·obtain⟨cur,hc⟩:=mR _ e
   exact iV h hc h1 rfl
  ·exact iV h N.bS h2 rfl
 have Hx:∀k,bp A5=some k->w.heap.size<=k:=fun k hk=>(Row.bS fV hk).1;have fp:∀(i:Nat) m',(M.set q {m with cA:=A5,cn:=n5,cc:=c5})[i]? =some m'->(i=q/\m'= {m with cA:=A5,cn:=n5,cc:=c5})\/(i≠q/\M[i]? =some m'):=fun i m' h=>by
  by_cases e:i=q
  ·subst e
   rw [List.getElem?_set_self Mn]at h;exact .inl ⟨rfl,(Option.some.inj h).symm⟩
  ·rw [List.getElem?_set_ne (Ne.symm e)]at h
   exact .inr ⟨e,h⟩
 refine⟨?_,?_,?_,by simpa using G.len,?_,?_,.inl G.fZ,.inl G.qY,.inl G.tc,?_,?_⟩
 ·exact kT.heap G.top (XA G.top (by decide) (by decide))
 ·have KR:(M.set q {m with cA:=A5,cn:=n5,cc:=c5}).map (fun m=>Value.pointer (some ⟨m.b,0,none⟩))=M.map fun m=>Value.pointer (some ⟨m.b,0,none⟩):=by
   apply List.ext_getElem?;intro i;rw [List.getElem?_map,List.getElem?_map];by_cases e:i=q
   ·subst e
    rw [List.getElem?_set_self Mn,hm];rfl
   ·rw [List.getElem?_set_ne (Ne.symm e)]
  rw [KR];refine Row.aK G.row kT (fun k e=>?_);cases e;obtain⟨_,cur,hc⟩:=Row.bS G.row (k:=bl) rfl;exact XA hc (by decide) (by decide)
 ·refine G.map.aK kT (fun e=>?_)
  obtain⟨es,clock,Hc,_⟩:=G.map.ex;rcases e with e|e
  ·obtain⟨cur,hc⟩:=mR _ e
   rw [hc]at Hc;cases Hc
  ·rw [e,N.bS]at Hc;cases Hc
 ·intro i nd' m' hi oG
  rcases fp i m' oG with⟨rfl,rfl⟩|⟨fH,Pl⟩
  ·rw [hq]at hi
   cases hi;rw [if_pos rfl];exact⟨hb,.inl N.fg,N.ps.aK kT (fun a ha=>hF _ (N.Gm a ha)),N.Gm,Row.base fV (fun _ _=>Nat.zero_le _),fun k hk=>.inr hk,N.past.aK kT (fun a ha=>hF _ (N.nD a ha)),N.nD,N.ok,N.bits,N.small⟩
  ·have N':=G.node i nd' m' hi Pl
   have hid:nd'.id≠nd.id:=fun e=>fH (W.inj hi hq e);rw [if_neg hid];have VR:m'.b≠m.b:=fun e=>by
    have h1:=N'.bS;rw [e,N.bS]at h1;simp only [Option.some.injEq,Obj.cells.injEq]at h1;exact hid (BT h1.1).symm
   refine⟨kT.heap N'.bS (fun e=>?_),.inl N'.fg,N'.ps.aK kT (fun a ha=>hF _ (N'.Gm a ha)),N'.Gm,Row.aK N'.ch kT (fun k hk e=>?_),fun k hk=>.inl (N'.LH k hk),N'.past.aK kT (fun a ha=>hF _ (N'.nD a ha)),N'.nD,N'.ok,N'.bits,N'.small⟩
   ·rcases e with e|e
    ·obtain⟨cur,hc⟩:=mR _ e
     exact iV N'.bS hc (by decide) rfl
    ·exact VR e
   ·rcases e with e|rfl
    ·exact G.apart i q m' m Pl hm fH k hk e
    ·obtain⟨cur,hc⟩:=(Row.bS N'.ch hk).2
     exact iV hc N.bS (by decide) rfl
 ·intro i j m1 m2 h1 h2 pP k He mP
  rcases fp i m1 h1 with⟨rfl,rfl⟩|⟨hi,qV⟩
  ·rcases fp j m2 h2 with⟨rfl,rfl⟩|⟨hj,sS⟩
   ·exact pP rfl
   ·have:=Hx k He
    have tM:j<D.length:=by rw [<-G.len];exact(lgeS sS).1
    obtain⟨cur,hc⟩:=(Row.bS (G.node j _ m2 (List.getElem?_eq_getElem tM) sS).ch mP).2;have:=aZ hc;omega
  ·rcases fp j m2 h2 with⟨rfl,rfl⟩|⟨hj,sS⟩
   ·have:=Hx k mP
    have fc:i<D.length:=by rw [<-G.len];exact(lgeS qV).1
    obtain⟨cur,hc⟩:=(Row.bS (G.node i _ m1 (List.getElem?_eq_getElem fc) qV).ch He).2;have:=aZ hc;omega
   ·exact G.apart i j m1 m2 qV sS pP k He mP
 ·intro k hk hf
  rcases hk with hk|hk
  ·exact G.C9 k hk hf
  ·have:=Hx k hk
   have:=G.low k (.inr hf);omega
 ·intro k hk
  rcases hk with(hk|hk)|hk
  ·exact Nat.lt_of_lt_of_le (G.low k (.inl hk)) kT.size
  ·obtain⟨cur,hc⟩:=(Row.bS fV hk).2
   exact aZ hc
  ·exact Nat.lt_of_lt_of_le (G.low k (.inr hk)) kT.size
end
theorem wR(h:HT)(m:NM)(A:Option Addr)(n c:Nat):(eM h m).setIfInBounds 33 (.slice A n c)=eM h {m with cA:=A,cn:=n,cc:=c}:=by
 have hs:=h.2.1;apply Array.ext_getElem?;intro i;unfold eM;rw [Array.getElem?_setIfInBounds,Array.getElem?_append,Array.getElem?_append];by_cases h1:i<h.1.size
 ·rw [if_neg (by omega),if_pos h1,if_pos h1]
 ·rw [if_neg h1,if_neg h1]
  by_cases h2:i=33
  ·subst h2
   rw [if_pos rfl,if_pos (by simp;omega),hs];rfl
  ·rw [if_neg (Ne.symm h2),hs]
   match i-32,show i-32≠1 by omega with
   |0,_=>rfl
   |2,_=>rfl
   |(k+3),_=>rfl
theorem wQ(h:HT)(m:NM)(A:Option Addr)(n c:Nat):(eM h m).setIfInBounds 34 (.slice A n c)=eM h {m with rA:=A,rn:=n,rc:=c}:=by
 have hs:=h.2.1;apply Array.ext_getElem?;intro i;unfold eM;rw [Array.getElem?_setIfInBounds,Array.getElem?_append,Array.getElem?_append];by_cases h1:i<h.1.size
 ·rw [if_neg (by omega),if_pos h1,if_pos h1]
 ·rw [if_neg h1,if_neg h1]
  by_cases h2:i=34
  ·subst h2
   rw [if_pos rfl,if_pos (by simp;omega),hs];rfl
  ·rw [if_neg (Ne.symm h2),hs]
   match i-32,show i-32≠2 by omega with
   |0,_=>rfl
   |1,_=>rfl
   |(k+3),_=>rfl
section
variable{w w0 w':World}{S F F1 S':Nat->Prop}{g bl c mb gb ib nb:Nat}{D:DG}{C:HT->List HT}{M:List NM}{K:Value->World->Prop}
noncomputable def gN(D:DG)(h:HT)(l:List HT):HT->List HT:=fun x=>if x∈l then dg (fI D x++ [h])else fI D x
structure AL(w0 w':World)(S F1 S':Nat->Prop)(g:Nat)(D:DG)(h:HT)(l:List HT)(gb ib nb:Nat)(pA:Option Addr)(pc i bl c mb:Nat)(M:List NM)(rA:Option Addr)(rn rc:Nat)(ws:List Nat):Prop where
 G:GV w' S' F1 g D (gN D h (l.take i)) bl c mb M
 sub:∀k,S k->S' k
 new:∀k,S' k->S k\/w0.heap.size<=k
 node:w'.heap[nb]? =some (.cells (eM h ⟨nb,pA,l.length,pc,none,0,0,rA,rn,rc,ws⟩) dd (0,0))
 Tf:¬S' nb
 row:jx w' nb rA rn rc ws
 ok:okW ws
 small:rn<=200
 Te:∀k,bp rA=some k->¬S' k
 bits:∀j,bit ws j=true↔∃p∈l.take i,∃nj,D[j]? =some nj/\(nj.id=p\/fD D nj.id p)
 Sj:w'.heap[gb]? =some (.cells #[.pointer (some ⟨g,0,none⟩)] fY (0,0))
 Ym:w'.heap[ib]? =some (.cells h.1 ax (0,0))
 XW:¬S' gb
 XU:¬S' ib
 hl:HS w' pA l.length l
 kp:Kept S w0 w'
theorem CI{h:HT}{l:List HT}{pA:Option Addr}{pc i:Nat}{rA:Option Addr}{rn rc:Nat}{ws:List Nat}{Q:aM}
 (L:AL w0 w' S F1 S' g D h l gb ib nb pA pc i bl c mb M rA rn rc ws) (W:jQ D) (hD:D.length<=10000) (vy:SS l) (gK:∀p∈l,p∈ids D) (C5:∀k,F1 k->k<nb) (IC:∀a,pA=some a->F1 a.block) (h0:w0.heap.size<=nb) (fc:i<l.length) (hll:l.length<=10000)
 (hQ:∀S2 M rA rn rc ws v,AL w0 v S F1 S2 g D h l gb ib nb pA pc (i+1) bl c mb M rA rn rc ws->Q .normal (br.e1 ⟨gb,0,none⟩ ⟨ib,0,none⟩ 0 ⟨nb,0,none⟩ pA l.length pc (l.length:Int) ((i:Int)+1)) v):
 br.B1 ⟨gb,0,none⟩ ⟨ib,0,none⟩ 0 ⟨nb,0,none⟩ pA l.length pc (l.length:Int) (i:Int) Q w':=by
 obtain⟨p,hp⟩:∃p,l[i]? =some p:=⟨_,List.getElem?_eq_getElem fc⟩;have rN:=List.mem_of_getElem? hp;have UF:=gK p rN;refine Split.yes (decide_eq_true (by omega)) ?_;refine L.hl.load (i:=(i:Int)) (by omega) hp ?_;intro p9;obtain⟨ry,jw,jg⟩:=gg (w:=w') (z:=(yT 0)) (cs:=p.1) (t:=ax) (by rw [p.2.1];rfl);refine⟨⟨p.2.1,p.2.one,fun j hj=>ry j (by rw [p.2.1];exact hj)⟩,?_⟩;intro qI
 replace jw:qI.heap[w'.heap.size]? =some (.cells p.1 ax (0,0)):=jw
 replace qw:Kept Nil w' qI:=jg
 clear_value qI;refine⟨some ⟨g,0,none⟩,by rw [aD (qw.heap L.Sj (fun h=>h))];rfl,p.1,⟨p.2.1,Cells.bS jw⟩,?_⟩;refine tm (L.G.same qw) p fun w40 x Yk hx=>⟨x,rfl,?_⟩;rcases hx with⟨rfl,rO⟩|⟨q,nd,m',hq,gP,oG,rfl⟩
 ·exact absurd UF rO
 intro Dg;have GL:Kept Nil w' Dg:=(qw.tt Yk).drew;have EL:Dg.heap[w'.heap.size]? =some (.cells p.1 ax (0,0)):=Yk.heap jw (fun h=>h);clear_value Dg;have ab7:=GL.size;have SA:=L.G.same GL;obtain⟨m,hm,ML⟩:=SA.get hq;rw [oG]at hm;cases hm;have KQ:=GL.heap L.node (fun h=>h);have wD:jx Dg nb rA rn rc ws:=Row.aK L.row GL (fun _ _ h=>h);refine⟨rA,rn,rc,by rw [bu,Nat.zero_add,aD KQ];exact wS _ _,?_⟩;refine⟨_,_,_,uG ML,some ⟨g,0,none⟩,by rw [aD (GL.heap L.Sj (fun h=>h))];rfl,?_⟩;refine⟨some mb,SA.at_,p.1,⟨p.2.1,Cells.bS EL⟩,_,SA.map.uO p,?_⟩;rw [show pos p (ids D) 0=some q by rw [<-gP];exact W.pos_eq hq,Option.getD_some];have Mn:=(lgeS hq).1;have Ce:=ML.small;have abV:=L.small;have Uj:∀k,bp rA=some k->nb<=k/\k<w'.heap.size:=fun k hk=>by
  obtain⟨h1,cur,hc⟩:=Row.bS L.row hk;exact⟨h1,aZ hc⟩
 have UW:nb<w'.heap.size:=aZ L.node;have HW:∀ {v:World} {A:Option Addr} {n c:Nat} {l:List Nat} {B:Nat},jx v B A n c l->∀ {k:Nat} {cs:Array Value} {t:TypeId},v.heap[k]? =some (.cells cs t (0,0))->t≠eI->¬bp A=some k:=fun hr _ _ _ hk fH e=>by
  obtain⟨_,cur,hc⟩:=Row.bS hr e;exact iV hk hc fH rfl
 refine uC wD L.ok (by omega) (by omega) ML.past ML.ok (by omega) (fun a ha k hk e=>?_) fun A2 n2 c2 l2 HR qM UN acB Lh D5 V7=>⟨A2,n2,c2,rfl,?_⟩
 ·have h1:=C5 a.block (ML.nD a ha)
  have h2:=(Uj k hk).1;omega
 have YZ:∀k,F1 k->¬bp rA=some k:=fun k hk e=>by have:=C5 k hk;have:=(Uj k e).1;omega
 have Xl:=SA.aK D5 (fun k hk e=>L.Te k e hk) YZ;have Qe:=D5.heap EL (HW wD EL (by decide));have PS:=GL.heap L.Sj (fun h=>h);have K7:=D5.heap PS (HW wD PS (by decide));have PF:=GL.heap L.Ym (fun h=>h);have PD:=D5.heap PF (HW wD PF (by decide));have II:=D5.heap KQ (HW wD KQ (by decide));have ab6:=D5.size;have Ps:=Xl.map.uO p;rw [show pos p (ids D) 0=some q by rw [<-gP];exact W.pos_eq hq,Option.getD_some]at Ps;refine⟨Ps,⟨p.1,rfl,p.2.1,Cells.bS Qe⟩,Xl.at_,by rw [aD K7];rfl,?_⟩;have ZQ:∀k,bp A2=some k->bp rA=some k\/Dg.heap.size<=k:=V7;refine wB qM UN (by omega) (by omega) (by omega) fun A3 n3 c3 l3 oP uD UM acA Lg B9 Lk=>⟨A3,n3,c3,rfl,?_⟩;have y8:∀k,bp A2=some k->¬S' k:=fun k hk hs=>by
  rcases ZQ k hk with h|h
  ·exact L.Te k h hs
  ·have:=L.G.low k (.inl hs);omega
 have Ey:∀k,F1 k->¬bp A2=some k:=fun k hf hk=>by
  have:=C5 k hf;have:=(Row.bS qM hk).1;omega
 have G55:=Xl.aK B9 (fun k hk e=>y8 k e hk) Ey;have Hk:=B9.heap K7 (HW qM K7 (by decide));have PC:=B9.heap PD (HW qM PD (by decide));have xt:=B9.heap II (HW qM II (by decide));have ab5:=B9.size;have YI:=sx h ⟨nb,pA,l.length,pc,none,0,0,rA,rn,rc,ws⟩;refine⟨by rw [bu,Nat.zero_add];exact dK xt (by omega),?_⟩;intro Xx De;have GK:Kept (· =nb) oP Xx:=by
  show Kept (· =nb) oP (oP.setCell ((⟨nb,0,none⟩:Addr).add 34) (.slice A3 n3 c3))
  exact Kept.setCell (S:=fun k=>k=nb) (Kept.refl _ oP) (by rw [iy];exact fun _=>rfl) _
 have Pb:Xx.heap[nb]? =some (.cells (eM h ⟨nb,pA,l.length,pc,none,0,0,A3,n3,c3,l3⟩) dd (0,0)):=by
  show(oP.setCell ((⟨nb,0,none⟩:Addr).add 34) (.slice A3 n3 c3)).heap[nb]? =_;rw [bu,Nat.zero_add,cX xt 34,wQ];rfl
 have D4:Kept (· =nb) oP De:=GK.drew;have Pa:De.heap[nb]? =some (.cells (eM h ⟨nb,pA,l.length,pc,none,0,0,A3,n3,c3,l3⟩) dd (0,0)):=Pb;clear_value De;clear Pb GK;have ab4:=D4.size;have Xk:=G55.aK D4 (fun k hk e=>L.Tf (e▸hk)) (fun k hk e=>by have:=C5 k hk;omega);have PQ:=D4.heap Hk (iV Hk xt (by decide));have K3:=D4.heap PC (iV PC xt (by decide));have Na:jx De nb A3 n3 c3 l3:=Row.aK uD D4 (fun k hk e=>by
  subst e;exact HW uD xt (by decide) hk)
 obtain⟨m,hm,W8⟩:=Xk.get hq;rw [oG]at hm;cases hm;refine⟨m'.cA,m'.cn,m'.cc,Al W8,h.1,⟨h.2.1,Cells.bS K3⟩,h.2.1,?_⟩;intro Rt;have TA:Kept Nil De Rt:=(Kept.refl _ _).alloc _;have Lf:HS Rt (some ⟨De.heap.size,0,none⟩) 1 [h]:=lr De h;clear_value Rt;have G62:=Xk.same TA;obtain⟨m,hm,MK⟩:=G62.get hq;rw [oG]at hm;cases hm;refine⟨Al MK,?_⟩;have Qc:=MK.ch.len;have AK:gN D h (l.take i) nd.id=fI D p:=by
  unfold gN;rw [gP,if_neg];intro kQ;obtain⟨j,hj⟩:=List.mem_iff_getElem?.1 kQ;rw [List.getElem?_take]at hj;split at hj
  ·have:=vy.get (by omega) hj hp
   rw [hZ]at this;cases this
  ·cases hj
 have vF:=pD D fun a=>nf D p a;have R8:m'.cn<=10000:=by
  rw [<-Qc,AK];unfold fI;omega
 obtain⟨A7,c7,CP,Uo,M9,Vq,V4⟩:=gw (cx:=1) aV MK.ch Lf (by omega) (Nat.zero_le _);have B8:Kept (fun k=>bp m'.cA=some k) Rt CP:=Kept.grown (Kept.refl _ _) Vq (fun k hk _=>hk);refine⟨A7,_,c7,CP,Uo,?_⟩;have ab3:=TA.size;have OB:=B8.size;refine fW M9.hs (by omega) fun A5 c5 Jp DE Tz=>⟨A5,_,c5,rfl,?_⟩;have ab2:=Tz.size;have Ph:=B8.heap MK.bS (fun e=>by
  obtain⟨_,cur,hc⟩:=Row.bS MK.ch e;exact iV MK.bS hc (by decide) rfl)
 have EA:=Tz.heap Ph (fun h=>h);refine⟨by rw [bu,Nat.zero_add];exact dK EA (by rw [sx];omega),?_⟩;intro zY;have NL:Kept (· =m'.b) Jp zY:=by
  show Kept (· =m'.b) Jp (Jp.setCell ((⟨m'.b,0,none⟩:Addr).add 33) (.slice A5 (dg (gN D h (l.take i) nd.id++ [h])).length c5))
  exact Kept.setCell (S:=fun k=>k=m'.b) (Kept.refl _ Jp) (by rw [iy];exact fun _=>rfl) _
 have Pg:zY.heap[m'.b]? =some (.cells (eM nd.id {m' with cA:=A5,cn:=(dg (gN D h (l.take i) nd.id++ [h])).length,cc:=c5}) dd (0,0)):=by
  show(Jp.setCell ((⟨m'.b,0,none⟩:Addr).add 33) (.slice A5 (dg (gN D h (l.take i) nd.id++ [h])).length c5)).heap[m'.b]? =_;rw [bu,Nat.zero_add,cX EA 33,wR]
 clear_value zY;have kT:Kept (fun k=>bp m'.cA=some k\/k=m'.b) De zY:=
  (((TA.mono (S':=fun k=>bp m'.cA=some k\/k=m'.b) (fun _ _ h=>h.elim)).trans B8 (fun _ _ h=>.inl h)).trans Tz (fun _ _ h=>h.elim)).trans NL (fun _ _ h=>.inr h)
 have Ep:cr zY De.heap.size A5 (dg (gN D h (l.take i) nd.id++ [h])).length c5 (dg (gN D h (l.take i) nd.id++ [h])):=
  Row.base (Row.aK DE NL (fun k hk e=>by
   subst e;obtain⟨_,cur,hc⟩:=Row.bS DE hk;exact iV EA hc (by decide) rfl)) (fun k hk=>by have:=(Row.bS DE hk).1;omega)
 have G69:=Xk.upd W hq oG kT Pg Ep;have Hx:∀k,bp A5=some k->De.heap.size<=k:=fun k hk=>(Row.bS Ep hk).1;have MB:∀k,(bp m'.cA=some k\/k=m'.b)->S' k:=fun k e=>by
  rcases e with e|rfl
  ·exact W8.LH k e
  ·exact W8.fg
 have hkf:(fun x=>if x=nd.id then dg (gN D h (l.take i) nd.id++ [h])else gN D h (l.take i) x)=gN D h (l.take (i+1)):=by
  funext x
  by_cases hx:x=nd.id
  ·rw [if_pos hx,AK,hx,gP]
   unfold gN;rw [if_pos ((bJ hp).2 (.inr rfl))]
  ·rw [if_neg hx]
   unfold gN;have:x∈l.take (i+1)↔x∈l.take i:=by
    rw [bJ hp];exact⟨fun e=>e.resolve_right (fun e=>hx (by rw [gP];exact e)),.inl⟩
   by_cases hm:x∈l.take i
   ·rw [if_pos hm,if_pos (this.2 hm)]
   ·rw [if_neg hm,if_neg (fun e=>hm (this.1 e))]
 rw [hkf]at G69;rw [eJ (n:=(i:Int)) (by omega) (by omega)];have YY:nb<De.heap.size:=aZ Pa;have mv:Kept S w0 zY:=by
  have k1:=L.kp.trans GL (fun _ _ h=>h.elim);have k2:=k1.trans D5 (fun k hk e=>absurd (Uj k e).1 (by omega));have k3:=k2.trans B9 (fun k hk e=>absurd (Row.bS qM e).1 (by omega));have k4:=k3.trans D4 (fun k hk e=>by omega);exact k4.trans kT (fun k hk e=>by
   rcases L.new k (MB k e)with h|h
   ·exact h
   ·omega)
 refine hQ _ _ A3 n3 c3 l3 zY ⟨G69,fun k hk=>.inl (L.sub k hk),fun k hk=>?_,kT.heap Pa (fun e=>L.Tf (MB _ e)),fun e=>?_,Row.aK Na kT (fun k hk e=>?_),UM,by omega,fun k hk e=>?_,fun j=>?_,
  kT.heap PQ (fun e=>L.XW (MB _ e)),kT.heap K3 (fun e=>L.XU (MB _ e)),fun e=>?_,fun e=>?_,?_,mv⟩
 ·rcases hk with hk|hk
  ·exact L.new k hk
  ·have:=Hx k hk
   have:=L.kp.size;exact .inr (by omega)
 ·rcases e with e|e
  ·exact L.Tf e
  ·have:=Hx _ e;omega
 ·have hs:=MB k e
  rcases Lk k hk with h|h
  ·exact y8 k h hs
  ·have:=L.G.low k (.inl hs);omega
 ·have hk3:k<oP.heap.size:=by
   obtain⟨_,cur,hc⟩:=Row.bS uD hk;exact aZ hc
  rcases e with e|e
  ·rcases Lk k hk with h|h
   ·exact y8 k h e
   ·have:=L.G.low k (.inl e);omega
  ·have:=Hx _ e;omega
 ·rw [Lg,Bool.or_eq_true,Lh,Bool.or_eq_true,L.bits,ML.bits,decide_eq_true_iff]
  constructor
  ·rintro((⟨p',h1,h2⟩|⟨nj,h1,h2⟩)|rfl)
   ·exact⟨p',(bJ hp).2 (.inl h1),h2⟩
   ·exact⟨p,(bJ hp).2 (.inr rfl),nj,h1,.inr (gP▸h2)⟩
   ·exact⟨p,(bJ hp).2 (.inr rfl),nd,hq,.inl gP⟩
  ·rintro⟨p',h1,nj,h2,h3⟩
   rcases(bJ hp).1 h1 with h1|rfl
   ·exact .inl (.inl ⟨p',h1,nj,h2,h3⟩)
   ·rcases h3 with h3|h3
    ·exact .inr (W.inj h2 hq (h3.trans gP.symm))
    ·exact .inl (.inr ⟨nj,h2,gP▸h3⟩)
 ·rcases e with e|e
  ·exact L.XW e
  ·have:=Hx _ e;have:=aZ PQ;omega
 ·rcases e with e|e
  ·exact L.XU e
  ·have:=Hx _ e;have:=aZ K3;omega
 ·have hb:∀a,pA=some a->F1 a.block/\a.block<nb:=fun a ha=>⟨IC a ha,C5 _ (IC a ha)⟩
  have k1:=L.hl.same GL;have k2:=k1.aK D5 (fun a ha=>YZ _ (hb a ha).1);have k3:=k2.aK B9 (fun a ha=>Ey _ (hb a ha).1);have k4:=k3.aK D4 (fun a ha e=>by have:=(hb a ha).2;omega);exact k4.aK kT (fun a ha e=>L.G.C9 _ (MB _ e) (hb a ha).1)
end
theorem M5:Bb prog jZ dP 1 8:=⟨by kernel_rfl,by kernel_rfl⟩
theorem Fi:Ra prog dd=some ([(0,32),(32,1),(33,1),(34,1)],List.replicate 32 (.int .u8 0)++ [.slice none 0 0,.slice none 0 0,.slice none 0 0]):=by kernel_rfl
theorem Ff(h:HT)(b:Nat)(A:Option Addr)(n c:Nat):prog.built dd [(0,.agg h.1),(1,.slice A n c)]=some (eM h ⟨b,A,n,c,none,0,0,none,0,0,[]⟩):=by
 have hs:=h.2.1;rw [pY Fi,jC (off:=0) (size:=32) rfl (by simpa [Value.cells]using hs) (by simp),jC (off:=32) (size:=1) rfl rfl (by
  rw [List.size_toArray,mh (by simp [Value.cells,hs])];simp)]
 simp only [Instr.fill,Option.some.injEq];apply Array.ext';unfold gm eM;simp [Value.cells,hs];rw [List.drop_append];simp [hs]
theorem CD(h:HT)(b:Nat):prog.built dd [(0,.agg h.1)]=some (eM h ⟨b,none,0,0,none,0,0,none,0,0,[]⟩):=by
 have hs:=h.2.1;rw [pY Fi,jC (off:=0) (size:=32) rfl (by simpa [Value.cells]using hs) (by simp)];simp only [Instr.fill,Option.some.injEq];apply Array.ext';unfold gm eM;simp [Value.cells,hs]
section
variable{D:DG}{h:HT}{l:List HT}
theorem zF(W:jQ D)(hn:h∉ids D){x:HT}:gN D h l x=fI (D++ [⟨h,l⟩]) x:=by
 have kQ:∀a,a∈fI (D++ [⟨h,l⟩]) x↔(a∈fI D x\/(a=h/\x∈l)):=fun a=>by
  unfold fI;rw [jL,jL,lO,jM,List.mem_append,List.mem_singleton];constructor
  ·rintro⟨h1,h2|⟨h2,h3⟩⟩
   ·exact .inl ⟨(fD.mem W (.one h2)).2,h2⟩
   ·exact .inr ⟨h2.symm,h3⟩
  ·rintro(⟨h1,h2⟩|⟨rfl,h2⟩)
   ·exact⟨.inl h1,.inl h2⟩
   ·exact⟨.inr rfl,.inr ⟨rfl,h2⟩⟩
 unfold gN;by_cases sJ:x∈l
 ·rw [if_pos sJ]
  refine(yu (l:=fI (D++ [⟨h,l⟩]) x) (iL _) fun a=>?_).symm;rw [kQ,List.mem_append,List.mem_singleton];exact⟨fun e=>e.imp (fun e=>e) (fun e=>e.1),fun e=>e.imp (fun e=>e) (fun e=>⟨e,sJ⟩)⟩
 ·rw [if_neg sJ]
  refine vU (iL _) (iL _) fun a=>?_;have:=kQ a;unfold fI pick at this⊢;rw [this];exact⟨.inl,fun e=>e.resolve_right (fun e=>sJ e.2)⟩
theorem CC(W:jQ D)(hn:h∉ids D)(gK:∀p∈l,p∈ids D):fI (D++ [⟨h,l⟩]) h= []:=by
 cases hc:fI (D++ [⟨h,l⟩]) h with
 |nil=>rfl
 |cons b t=>
  exfalso;have:b∈fI (D++ [⟨h,l⟩]) h:=by rw [hc];simp
  rcases lO.1 (jL.1 this).2 with h1|⟨_,h2⟩
  ·exact hn (fD.mem W (.one h1)).1
  ·exact hn (gK h h2)
theorem Fj(W:jQ D)(hn:h∉ids D){x:HT}(hx:x∈ids D)(j:Nat):(∃nj,(D++ [⟨h,l⟩])[j]? =some nj/\fD (D++ [⟨h,l⟩]) nj.id x)↔∃nj,D[j]? =some nj/\fD D nj.id x:=by
 constructor
 ·rintro⟨nj,h1,h2⟩
  have sS:=(iw W (nd:=⟨h,l⟩) hn hx).1 h2;rw [List.getElem?_append]at h1;split at h1
  ·exact⟨nj,h1,sS⟩
  ·exfalso
   have:nj=⟨h,l⟩:=by
    cases hk:j-D.length with
    |zero=>rw [hk]at h1;simpa using h1.symm
    |succ k=>rw [hk]at h1;simp at h1
   subst this;exact hn (sS.mem W).1
 ·rintro⟨nj,h1,h2⟩
  exact⟨nj,by rw [List.getElem?_append_left (lgeS h1).1];exact h1,(iw W (nd:=⟨h,l⟩) hn hx).2 h2⟩
theorem Fk(W:jQ D)(hn:h∉ids D)(gK:∀p∈l,p∈ids D)(hs:SS l)(j:Nat):
 (∃nj,(D++ [⟨h,l⟩])[j]? =some nj/\fD (D++ [⟨h,l⟩]) nj.id h)↔∃p∈l,∃nj,D[j]? =some nj/\(nj.id=p\/fD D nj.id p):=by
 have W':jQ (D++ [⟨h,l⟩]):=W.snoc (nd:=⟨h,l⟩) hn gK hs;have fp:(D++ [⟨h,l⟩])[D.length]? =some ⟨h,l⟩:=by rw [List.getElem?_append_right (Nat.le_refl _),Nat.sub_self];rfl
 have key:∀a,fD (D++ [⟨h,l⟩]) a h↔∃p∈l,a=p\/fD D a p:=fun a=>by
  rw [A0 W' fp a];constructor
  ·rintro⟨p,hp,e⟩
   exact⟨p,hp,e.imp (fun e=>e) (fun e=>(iw W (nd:=⟨h,l⟩) hn (gK p hp)).1 e)⟩
  ·rintro⟨p,hp,e⟩
   exact⟨p,hp,e.imp (fun e=>e) (fun e=>(iw W (nd:=⟨h,l⟩) hn (gK p hp)).2 e)⟩
 constructor
 ·rintro⟨nj,h1,h2⟩
  obtain⟨p,hp,e⟩:=(key _).1 h2;have hid:nj.id∈ids D:=by
   rcases e with e|e
   ·rw [e];exact gK p hp
   ·exact(e.mem W).1
  rw [List.getElem?_append]at h1;split at h1
  ·exact⟨p,hp,nj,h1,e⟩
  ·exfalso
   have:nj=⟨h,l⟩:=by
    cases hk:j-D.length with
    |zero=>rw [hk]at h1;simpa using h1.symm
    |succ k=>rw [hk]at h1;simp at h1
   subst this;exact hn hid
 ·rintro⟨p,hp,nj,h1,e⟩
  exact⟨nj,by rw [List.getElem?_append_left (lgeS h1).1];exact h1,(key _).2 ⟨p,hp,e⟩⟩
end
section
variable{w w':World}{S F F':Nat->Prop}{g bl c mb:Nat}{D:DG}{C:HT->List HT}{M:List NM}{K:Value->World->Prop}
theorem GV.No(G:GV w S F g D C bl c mb M)(hf:∀k,F k->F' k)(hd:∀k,S k->¬F' k)(hl:∀k,F' k->k<w.heap.size):GV w S F' g D C bl c mb M:=
 ⟨G.top,G.row,G.map,G.len,fun i nd m h1 h2=>by
   have N:=G.node i nd m h1 h2;exact⟨N.bS,N.fg,N.ps,fun a ha=>hf _ (N.Gm a ha),N.ch,N.LH,N.past,fun a ha=>hf _ (N.nD a ha),N.ok,N.bits,N.small⟩,G.apart,G.fZ,G.qY,G.tc,hd,fun k hk=>hk.elim (fun h=>G.low k (.inl h)) (hl k)⟩
theorem HP{w0:World}{F1 S':Nat->Prop}{h:HT}{l:List HT}{gb ib nb:Nat}{pA:Option Addr}{pc i:Nat}{rA:Option Addr}{rn rc:Nat}{ws:List Nat}
 (L:AL w0 w S F1 S' g D h l gb ib nb pA pc i bl c mb M rA rn rc ws) (W:jQ D) (hD:D.length<=5000) (vy:SS l) (gK:∀p∈l,p∈ids D) (hn:h∉ids D) (C5:∀k,F1 k->k<nb) (IC:∀a,pA=some a->F1 a.block) (h0:w0.heap.size<=nb) (fc:l.length<=i)
 (hK:∀v S2 F2,zT v S2 F2 g (D++ [⟨h,l⟩])->Kept S w0 v->(∀k,S2 k->S k\/w0.heap.size<=k)->(∀k,F2 k->F1 k\/w0.heap.size<=k)->K (.int .i64 0) v):
 br.CL ⟨gb,0,none⟩ ⟨ib,0,none⟩ 0 ⟨nb,0,none⟩ pA l.length pc (l.length:Int) (i:Int) K w:=by
 have FJ:l.take i=l:=List.take_of_length_le fc;have hG:=L.G;rw [FJ]at hG;have IY:=L.bits;rw [FJ]at IY;unfold br.CL;intro LY;have Ia:Kept Nil w LY:=(Kept.refl _ _).drew;clear_value LY;have rT:=hG.same Ia;have Hj:=Ia.heap L.Sj (fun h=>h);have Ez:=Ia.heap L.node (fun h=>h);have Ae:jx LY nb rA rn rc ws:=Row.aK L.row Ia (fun _ _ h=>h);refine⟨some ⟨g,0,none⟩,by rw [aD Hj];rfl,some mb,rT.at_,h.1,⟨h.2.1,Cells.bS (Ia.heap L.Ym (fun h=>h))⟩,some ⟨g,0,none⟩,by rw [aD Hj];rfl,?_⟩;refine⟨_,_,_,rT.nodes,?_⟩;obtain⟨Xu,OH,Ns,k85⟩:=rT.map.put hn;rw [jH]at OH;refine⟨Xu,OH,?_⟩;intro Ga;have JR:Kept (· =mb) LY Ga:=k85.drew;have H7:IsMap Ga mb (ids D++ [h]):=Ns.aK ((Kept.refl Nil Xu).drew) (fun h=>h);clear_value Ga;have Gf:∀ {v:World} {k:Nat} {cs:Array Value} {t:TypeId},IsMap v mb (ids D)->v.heap[k]? =some (.cells cs t (0,0))->k≠mb:=fun hm hk e=>by
  obtain⟨es,clock,Hc,_⟩:=hm.ex;rw [e,Hc]at hk;cases hk
 have K6:=JR.heap Hj (Gf rT.map Hj);have acz:=JR.heap Ez (Gf rT.map Ez);have El:=JR.heap rT.top (Gf rT.map rT.top);have M8:Row Ga 0 dP 1 (some ⟨bl,0,none⟩) D.length c (M.map fun m=>.pointer (some ⟨m.b,0,none⟩)):=Row.aK rT.row JR (fun k hk e=>by
  obtain⟨_,cur,hc⟩:=Row.bS rT.row hk;exact Gf rT.map hc e)
 have Tb:jx Ga nb rA rn rc ws:=Row.aK Ae JR (fun k hk e=>by
  obtain⟨_,cur,hc⟩:=Row.bS Ae hk;exact Gf rT.map hc e)
 refine⟨some ⟨g,0,none⟩,by rw [aD K6];rfl,some ⟨g,0,none⟩,by rw [aD K6];rfl,?_⟩;refine⟨some ⟨bl,0,none⟩,D.length,c,by rw [add_zero,aD El];rfl,?_⟩;intro Jn;have Mb:Kept Nil Ga Jn:=(Kept.refl _ _).alloc _;have V1:Jn.heap[Ga.heap.size]? =some (.cells #[.pointer (some ⟨nb,0,none⟩)] dP (0,0)):=aR Ga _;clear_value Jn;have Hi:=Mb.heap K6 (fun h=>h);have yU:=Mb.heap El (fun h=>h);refine⟨by rw [add_zero,aD yU];rfl,by rw [aD Hi];rfl,by rw [aD Hi];rfl,?_⟩;have DC:Row Jn 0 dP 1 (some ⟨bl,0,none⟩) D.length c (M.map fun m=>.pointer (some ⟨m.b,0,none⟩)):=Row.aK M8 Mb (fun _ _ h=>h);obtain⟨SC,MH,Jm,Um,DB,PK,V0⟩:=iu (P:=prog) (t:=jZ) (ty:=jZ) (bytes:=8) M5 DC (a:=⟨Ga.heap.size,0,none⟩) (m:=1) (cx:=1) (news:= [.pointer (some ⟨nb,0,none⟩)]) rfl
  (fun j u hj=>by rw [bu,Nat.zero_add,aD V1];simpa using hj) (fun u hu=>by simp at hu;subst hu;rfl) (by omega) (by unfold maxLen;omega) (Nat.zero_le _)
 have RD:Kept (· =bl) Jn Jm:=Kept.grown (S:=fun k=>k=bl) (Kept.refl _ _) PK (fun k hk _=>by cases hk;rfl);refine⟨SC,_,MH,Jm,Um,?_⟩;have XB:∀ {k:Nat} {cs:Array Value} {t:TypeId},Jn.heap[k]? =some (.cells cs t (0,0))->t≠dP->k≠bl:=fun hk fH=>by
  obtain⟨_,cur,hc⟩:=Row.bS DC (k:=bl) rfl;exact iV hk hc fH
 have Vp:=RD.heap Hi (XB Hi (by decide));have vw:=RD.heap yU (XB yU (by decide));refine⟨by rw [aD Vp];rfl,by rw [add_zero];exact dK vw (by simp),?_⟩;intro Fy;have Tx:Kept (· =g) Jm Fy:=by
  show Kept (· =g) Jm (Jm.setCell ((⟨g,0,none⟩:Addr).add 0) (.slice SC (D.length+1) MH))
  exact Kept.setCell (S:=fun k=>k=g) (Kept.refl _ Jm) (by rw [iy];exact fun _=>rfl) _
 have Kx:Fy.heap[g]? =some (.cells #[.slice SC (D.length+1) MH,.map (some mb)] fQ (0,0)):=by
  show(Jm.setCell ((⟨g,0,none⟩:Addr).add 0) (.slice SC (D.length+1) MH)).heap[g]? =_;rw [add_zero,cX vw 0];rfl
 clear_value Fy;obtain⟨MJ,rfl⟩:=Row.some DB (by omega);have ab0:=JR.size;have abZ:=Mb.size;have mv:Kept (fun k=>k=g\/k=bl\/k=mb) LY Fy:=
  (((JR.mono (S':=fun k=>k=g\/k=bl\/k=mb) (fun _ _ h=>.inr (.inr h))).trans Mb (fun _ _ h=>h.elim)).trans RD (fun _ _ h=>.inr (.inl h))).trans Tx (fun _ _ h=>.inl h)
 have ZJ:∀k,F1 k->¬(k=g\/k=bl\/k=mb):=fun k hk e=>by
  rcases e with rfl|rfl|rfl
  ·exact rT.C9 _ rT.fZ hk
  ·exact rT.C9 _ rT.qY hk
  ·exact rT.C9 _ rT.tc hk
 have ty:∀ {k:Nat} {cs:Array Value} {t:TypeId},LY.heap[k]? =some (.cells cs t (0,0))->t≠fQ->t≠dP->¬(k=g\/k=bl\/k=mb):=fun hk h1 h2 e=>by
  rcases e with e|e|e
  ·rw [e]at hk
   exact iV hk rT.top h1 rfl
  ·rw [e]at hk
   obtain⟨_,cur,hc⟩:=Row.bS rT.row (k:=bl) rfl;exact iV hk hc h2 rfl
  ·exact Gf rT.map hk e
 have yX:Row Fy 0 dP 1 (some ⟨MJ,0,none⟩) (D.length+1) MH ((M.map fun m=>.pointer (some ⟨m.b,0,none⟩))++ [.pointer (some ⟨nb,0,none⟩)]):=Row.aK DB Tx (fun k hk e=>by
  obtain⟨_,cur,hc⟩:=Row.bS DB hk;exact iV hc vw (by decide) e)
 have Nr:IsMap Fy mb (ids D++ [h]):=by
  obtain⟨es,clock,Hc,_⟩:=H7.ex;have h1:=H7.aK Mb (fun h=>h);have h2:=h1.aK RD (fun e=>by
   obtain⟨_,cur,hc⟩:=Row.bS DC (k:=bl) rfl;obtain⟨_,_,oG,_⟩:=h1.ex;rw [e,hc]at oG;cases oG)
  exact h2.aK Tx (fun e=>by
   obtain⟨_,_,oG,_⟩:=h2.ex;rw [e,vw]at oG;cases oG)
 have KP:=mv.heap Ez (ty Ez (by decide) (by decide));have vm:jx Fy nb rA rn rc ws:=Row.aK Ae mv (fun k hk e=>by
  obtain⟨_,cur,hc⟩:=Row.bS Ae hk;exact ty hc (by decide) (by decide) e)
 have EB:(D++ [(⟨h,l⟩:DN)]).length=D.length+1:=by simp
 have Qr:MJ=bl\/Jn.heap.size<=MJ:=by
  rcases V0 MJ rfl with e|e
  ·exact .inl (by cases e;rfl)
  ·exact .inr e
 have nN:=L.kp.size;have ab1:=Ia.size;have UW:=aZ Ez;have OG:∀k,bp rA=some k->nb<=k/\k<Fy.heap.size:=fun k hk=>by
  obtain⟨h1,cur,hc⟩:=Row.bS vm hk;exact⟨h1,aZ hc⟩
 have fp:∀ {X:Type} (xs:List X) (y:X) (j:Nat) (z:X),(xs++ [y])[j]? =some z->(j<xs.length/\xs[j]? =some z)\/(j=xs.length/\z=y):=fun xs y j z e=>by
  rw [List.getElem?_append]at e;split at e
  ·rename_i cJ;exact .inl ⟨cJ,e⟩
  ·rename_i iK
   cases hk:j-xs.length with
   |zero=>rw [hk]at e;exact .inr ⟨by omega,by simpa using e.symm⟩
   |succ k=>rw [hk]at e;simp at e
 refine hK Fy (fun k=>S' k\/k=nb\/k=MJ) (fun k=>F1 k\/bp rA=some k) ⟨MJ,MH,mb,M++ [⟨nb,pA,l.length,pc,none,0,0,rA,rn,rc,ws⟩],?_⟩ ?_ ?_ ?_
 ·refine⟨by rw [EB];exact Kx,?_,by rw [jM];exact Nr,by simp [hG.len],fun j nd m h1 h2=>?_,fun j j' m m' h1 h2 fH k hk mZ=>?_,.inl hG.fZ,.inr (.inr rfl),.inl hG.tc,fun k hk hf=>?_,fun k hk=>?_⟩
  ·rw [EB,List.map_append]
   exact yX
  ·rcases fp _ _ _ _ h1 with⟨hj,qV⟩|⟨hj,rfl⟩
   ·rcases fp _ _ _ _ h2 with⟨_,sS⟩|⟨uW,_⟩
    ·have N:=rT.node j nd m qV sS
     have hid:nd.id∈ids D:=dw.2 ⟨nd,List.mem_of_getElem? qV,rfl⟩;have hF:∀k,F1 k->¬(k=g\/k=bl\/k=mb):=ZJ;rw [<-zF W hn];refine⟨mv.heap N.bS (ty N.bS (by decide) (by decide)),.inl N.fg,N.ps.aK mv (fun a ha=>hF _ (N.Gm a ha)),fun a ha=>.inl (N.Gm a ha),Row.aK N.ch mv (fun k hk e=>?_),fun k hk=>.inl (N.LH k hk),N.past.aK mv (fun a ha=>hF _ (N.nD a ha)),fun a ha=>.inl (N.nD a ha),N.ok,fun j=>?_,N.small⟩
     ·obtain⟨cur,hc⟩:=(Row.bS N.ch hk).2
      exact ty hc (by decide) (by decide) e
     ·rw [N.bits,Fj W hn hid]
    ·rw [hG.len]at uW;omega
   ·rcases fp _ _ _ _ h2 with⟨uW,_⟩|⟨_,rfl⟩
    ·rw [hG.len]at uW;omega
    ·rw [CC W hn gK]
     refine⟨KP,.inr (.inl rfl),(L.hl.same Ia).aK mv (fun a ha=>ZJ _ (IC a ha)),fun a ha=>.inl (IC a ha),cr.nil _ _,(fun k hk=>by cases hk),vm.us,fun a ha=>.inr (congrArg bp ha),L.ok,fun j=>?_,L.small⟩;rw [IY,Fk W hn gK vy]
  ·rcases fp _ _ _ _ h1 with⟨_,qV⟩|⟨_,rfl⟩
   ·rcases fp _ _ _ _ h2 with⟨_,sS⟩|⟨_,rfl⟩
    ·exact hG.apart j j' m m' qV sS fH k hk mZ
    ·cases mZ
   ·cases hk
  ·rcases hk with hk|rfl|rfl
   ·rcases hf with hf|hf
    ·exact hG.C9 k hk hf
    ·exact L.Te k hf hk
   ·rcases hf with hf|hf
    ·have:=C5 k hf;omega
    ·obtain⟨_,cur,hc⟩:=Row.bS vm hf
     exact iV KP hc (by decide) rfl
   ·rcases hf with hf|hf
    ·rcases Qr with e|e
     ·rw [e]at hf;exact hG.C9 _ hG.qY hf
     ·have:=C5 _ hf;omega
    ·obtain⟨_,cur,hc⟩:=Row.bS vm hf
     obtain⟨_,Q5,sP⟩:=Row.bS yX (k:=k) rfl;exact iV sP hc (by decide) rfl
  ·have abY:=mv.size
   rcases hk with(hk|rfl|rfl)|hk|hk
   ·have:=rT.low k (.inl hk);omega
   ·exact aZ KP
   ·obtain⟨_,Q5,sP⟩:=Row.bS yX (k:=k) rfl
    exact aZ sP
   ·have:=rT.low k (.inr hk);omega
   ·exact(OG k hk).2
 ·exact(L.kp.trans Ia (fun _ _ h=>h.elim)).trans mv (fun k hk e=>by
   have hs:S' k:=by
    rcases e with rfl|rfl|rfl
    ·exact hG.fZ
    ·exact hG.qY
    ·exact hG.tc
   rcases L.new k hs with h|h
   ·exact h
   ·omega)
 ·intro k hk
  rcases hk with hk|rfl|rfl
  ·exact L.new k hk
  ·exact .inr h0
  ·rcases Qr with e|e
   ·rw [e];exact L.new _ hG.qY
   ·exact .inr (by omega)
 ·intro k hk
  rcases hk with hk|hk
  ·exact .inl hk
  ·exact .inr (by have:=(OG k hk).1;omega)
theorem HI(G:GV w S F g D (fI D) bl c mb M)(W:jQ D)(hD:D.length<=5000){A:Option Addr}{n cx:Nat}{lp:List HT}(hl:HS w A n lp)(hn:n<=10000)(h:HT)
 (hK:∀v S2 F2,zT v S2 F2 g (mE D h lp)->Kept S w v->(∀k,S2 k->S k\/w.heap.size<=k)->(∀k,F2 k->F k\/w.heap.size<=k)->K (.int .i64 (eo D h lp)) v):
 bm prog br.id #[.pointer (some ⟨g,0,none⟩),.agg h.1,.slice A n cx] w K:=by
 have hlen:=hl.len;have rO:∀v,Kept Nil w v->∀e,eo D h lp=e->e≠0->K (.int .i64 e) v:=fun v k e he fH=>by
  have:=hK v S F ?_ (k.mono fun _ _ h=>h.elim) (fun _ h=>.inl h) (fun _ h=>.inl h)
  ·rw [he]at this;exact this
  ·unfold mE
   rw [if_neg (by rw [he];exact fH)];exact⟨bl,c,mb,M,G.same k⟩
 refine br.of ?_;unfold br.W;intro w4 w5;have k4:Kept Nil w w4:=(Kept.refl _ _).alloc _;have Zo:w4.heap[w.heap.size]? =some (.cells #[.pointer (some ⟨g,0,none⟩)] fY (0,0)):=aR w _;have k5:Kept Nil w4 w5:=(Kept.refl _ _).alloc _;have PE:w5.heap[w4.heap.size]? =some (.cells h.1 ax (0,0)):=aR w4 _;have PR:=k5.heap Zo (fun h=>h);clear_value w5;have To:Kept Nil w w5:=k4.tt k5;have PL:w.heap.size<w4.heap.size:=aZ Zo;have acY:w4.heap.size<w5.heap.size:=aZ PE;clear_value w4;refine fW (hl.same To) (by omega) fun Da Q9 w7 yz k7=>⟨Da,_,Q9,rfl,?_⟩;have DV:Kept Nil w w7:=To.tt k7;have PO:=k7.heap PR (fun h=>h);have Zi:=k7.heap PE (fun h=>h);have G7:=G.same DV;have FK:(dg lp).length<=n:=by have:=nZ lp;omega
 refine⟨some ⟨g,0,none⟩,by rw [aD PO];rfl,vc G7 ⟨true,rfl,Split.no rfl ?_⟩⟩;refine⟨some ⟨g,0,none⟩,by rw [aD PO];rfl,h.1,⟨h.2.1,Cells.bS Zi⟩,pW G7 h fun lu tW=>⟨_,rfl,?_⟩⟩;have DX:=DV.tt tW;by_cases hm:h∈ids D
 ·refine Split.yes (decide_eq_true hm) (rO lu DX 7 ?_ (by omega))
  unfold eo;rw [if_pos hm]
 refine Split.no (decide_eq_false hm) ?_;by_cases h0:(dg lp).length=0
 ·refine Split.yes (by simp [h0]) (rO lu DX 9 ?_ (by omega))
  unfold eo;rw [if_neg hm,if_pos (.inl h0)]
 refine Split.no (beq_eq_false_iff_ne.2 (by omega)) ?_;by_cases h1:(dg lp).length≠n
 ·refine Split.yes (bne_iff_ne.2 (by omega)) (rO lu DX 9 ?_ (by omega))
  unfold eo;rw [if_neg hm,if_pos (.inr (by omega))]
 replace h1:(dg lp).length=n:=by omega
 refine Split.no (by rw [h1];simp) ?_;have PT:=tW.heap PO (fun h=>h);have H0:=Row.aK yz tW (fun _ _ h=>h);refine xM (G.same DX) PT (cr.hs H0) (by omega) fun qc x hx Az=>⟨x,rfl,?_⟩;have DW:=DX.tt Az;cases x with
 |true=>
  refine Split.yes rfl (rO qc DW 6 ?_ (by omega));unfold eo;rw [if_neg hm,if_neg (by omega),if_pos (hx.1 rfl)]
 |false=>
  have gK:∀p∈dg lp,p∈ids D:=fun p hp=>Classical.byContradiction fun UR=>by have:=hx.2 ⟨p,hp,UR⟩;cases this
  have ZA:eo D h lp=0:=by
   unfold eo;rw [if_neg hm,if_neg (by omega),if_neg (fun⟨p,hp,RU⟩=>RU (gK p hp))]
  have hD':mE D h lp=D++ [⟨h,dg lp⟩]:=by unfold mE;rw [if_pos ZA]
  rw [ZA,hD']at hK;refine Split.no rfl ?_;have PH:=Az.heap (tW.heap Zi (fun h=>h)) (fun h=>h);have Vt:=Az.heap PT (fun h=>h);have uE:cr qc w5.heap.size Da (dg lp).length Q9 (dg lp):=Row.aK H0 Az (fun _ _ h=>h);refine⟨h.1,⟨h.2.1,Cells.bS PH⟩,?_⟩;rw [Ff h qc.heap.size];refine Is.mk rfl ?_;intro FA;have JY:Kept Nil qc FA:=(Kept.refl _ _).alloc _;have UX:FA.heap[qc.heap.size]? =some (.cells (eM h ⟨qc.heap.size,Da,(dg lp).length,Q9,none,0,0,none,0,0,[]⟩) dd (0,0)):=aR qc _;clear_value FA;have Nz:=DW.tt JY;have Lx:∀k,bp Da=some k->w5.heap.size<=k/\k<qc.heap.size:=fun k hk=>by
   obtain⟨e1,cur,hc⟩:=Row.bS uE hk;exact⟨e1,aZ hc⟩
  have YM:=To.size;have acb:=DW.size;have C5:∀k,(F k\/bp Da=some k)->k<qc.heap.size:=fun k hk=>by
   rcases hk with hk|hk
   ·have:=G.low k (.inr hk);omega
   ·exact(Lx k hk).2
  have Hw:∀k,S k->k<w.heap.size:=fun k hk=>G.low k (.inl hk);have G23:GV FA S (fun k=>F k\/bp Da=some k) g D (fI D) bl c mb M:=(G.same Nz).No (fun _ h=>.inl h) (fun k hs e=>by
   rcases e with e|e
   ·exact G.C9 k hs e
   ·have:=Hw k hs;have:=(Lx k e).1;omega) (fun k hk=>by have:=C5 k hk;have:=JY.size;omega)
  have AK:gN D h ((dg lp).take 0)=fI D:=by
   funext y
   unfold gN;rw [if_neg (by simp)]
  have L0:AL w FA S (fun k=>F k\/bp Da=some k) S g D h (dg lp) w.heap.size w4.heap.size qc.heap.size Da Q9 0 bl c mb M none 0 0 []:=
   ⟨by rw [AK];exact G23,fun _ h=>h,fun _ h=>.inl h,UX,fun e=>by have:=Hw _ e;omega,Row.nil _ _ _ _,by simp [okW],by omega,(fun k hk=>by cases hk),fun j=>by simp [vN],JY.heap Vt (fun h=>h),JY.heap PH (fun h=>h),
     fun e=>by have:=Hw _ e;omega,fun e=>by have:=Hw _ e;omega,(uE.hs).same JY,Nz.mono fun _ _ h=>h.elim⟩
  refine br.cf (I:=fun s v=>∃(i:Nat) (S2:Nat->Prop) (M2:List NM) (rA:Option Addr) (rn rc:Nat) (ws:List Nat),s=(i:Int)/\i<=(dg lp).length/\AL w v S (fun k=>F k\/bp Da=some k) S2 g D h (dg lp) w.heap.size w4.heap.size qc.heap.size Da Q9 i bl c mb M2 rA rn rc ws)
   (μ:=fun s _=>(((dg lp).length:Int)-s).toNat) (s:=0) ⟨0,S,M,none,0,0,[],rfl,Nat.zero_le _,L0⟩ ?_
  rintro s v ⟨i,S2,M2,rA,rn,rc,ws,rfl,hi,L⟩;have IC:∀a,Da=some a->F a.block\/bp Da=some a.block:=fun a ha=>.inr (by rw [ha];rfl);by_cases fc:i<(dg lp).length
  ·refine CI L W (by omega) (iL _) gK C5 IC (by omega) fc (by omega) fun S3 M3 rA3 rn3 rc3 ws3 v3 L3=>?_
   exact⟨(i:Int)+1,rfl,⟨i+1,S3,M3,rA3,rn3,rc3,ws3,rfl,fc,L3⟩,by simp only;omega⟩
  ·refine Split.no (decide_eq_false (by omega)) ?_
   rw [aX,br.Jk];refine HP L W hD (iL _) gK hm C5 IC (by omega) (by omega) fun v2 S4 F4 hI Pv hS4 hF4=>hK v2 S4 F4 hI Pv hS4 (fun k hk=>?_);rcases hF4 k hk with(e|e)|e
   ·exact .inl e
   ·exact .inr (by have:=(Lx k e).1;omega)
   ·exact .inr e
end
def nz(nb:Nat):NM:=⟨nb,none,0,0,none,0,0,none,0,0,[]⟩
structure NP(w v:World)(r:HT)(A B E:Option Nat)(l:List HT):Prop where
 kp:Kept Nil w v
 node:∀b,A=some b->w.heap.size<=b/\v.heap[b]? =some (.cells (eM r (nz b)) dd (0,0))
 list:∀b,B=some b->w.heap.size<=b/\∃nb,A=some nb/\v.heap[b]? =some (.cells #[.pointer (some ⟨nb,0,none⟩)] dP (0,0))
 map:∀b,E=some b->w.heap.size<=b/\IsMap v b l
section
variable{w v:World}{r:HT}{A B E:Option Nat}{l:List HT}{K:Value->World->Prop}
theorem NP.grow(h:NP w v r A B E l)(o:Obj):NP w (v.alloc o) r A B E l:=
 ⟨h.kp.alloc o,fun b e=>⟨(h.node b e).1,jF (h.node b e).2 o⟩,fun b e=>⟨(h.list b e).1,let ⟨nb,h1,h2⟩:=(h.list b e).2;⟨nb,h1,jF h2 o⟩⟩,fun b e=>⟨(h.map b e).1,(h.map b e).2.aK ((Kept.refl Nil v).alloc o) (fun h=>h)⟩⟩
theorem NP.addNode(h:NP w v r none none E l):NP w (v.alloc (.cells (eM r (nz v.heap.size)) dd)) r (some v.heap.size) none E l:=
 have g:=h.grow (.cells (eM r (nz v.heap.size)) dd)
 ⟨g.kp,fun b e=>by cases e;exact⟨h.kp.size,aR v _⟩,fun b e=>(by cases e),g.map⟩
theorem NP.oB{nb:Nat}(h:NP w v r (some nb) none E l):NP w (v.alloc (.cells #[.pointer (some ⟨nb,0,none⟩)] dP)) r (some nb) (some v.heap.size) E l:=
 have g:=h.grow (.cells #[.pointer (some ⟨nb,0,none⟩)] dP)
 ⟨g.kp,g.node,fun b e=>by cases e;exact⟨h.kp.size,nb,rfl,aR v _⟩,g.map⟩
theorem NP.zN(h:NP w v r A B none []):NP w (v.alloc (.map #[] 0)) r A B (some v.heap.size) []:=
 have g:=h.grow (.map #[] 0)
 ⟨g.kp,g.node,g.list,fun b e=>by cases e;exact⟨h.kp.size,⟨#[],0,aR v _,trivial⟩⟩⟩
theorem NP.put{mb:Nat}(h:NP w v r A B (some mb) []):∃v',(Instr.mapUpdate b0 (.map (some mb)) (.agg r.1) (.int .i64 0)).run prog v=.ok () v'/\NP w v' r A B (some mb) [r]:=by
 obtain⟨h1,h2⟩:=h.map mb rfl;obtain⟨v',hr,hm,hk⟩:=h2.put (h:=r) (by simp);have Gf:∀ {k:Nat} {cs:Array Value} {t:TypeId},v.heap[k]? =some (.cells cs t (0,0))->¬(k=mb):=fun hk e=>by
  obtain⟨es,clock,Hc,_⟩:=h2.ex;rw [e,Hc]at hk;cases hk
 refine⟨v',hr,h.kp.trans hk (fun k hk e=>by omega),fun b e=>⟨(h.node b e).1,hk.heap (h.node b e).2 (Gf (h.node b e).2)⟩,fun b e=>⟨(h.list b e).1,?_⟩,fun b e=>by cases e;exact⟨h1,hm⟩⟩;obtain⟨nb,e1,e2⟩:=(h.list b e).2;exact⟨nb,e1,hk.heap e2 (Gf e2)⟩
theorem qp(r:HT){a b:HT}:¬nf [(⟨r,[]⟩:DN)] a b:=fun⟨nd,h1,_,h2⟩=>by
 simp at h1;subst h1;simp at h2
theorem wF(r:HT){a b:HT}:¬fD [(⟨r,[]⟩:DN)] a b:=fun h=>by
 cases h with
 |one h=>exact qp r h
 |more _ h=>exact qp r h
theorem NP.fin{w0:World}{nb lb mb:Nat}(h:NP w v r (some nb) (some lb) (some mb) [r])(hw:w0.heap.size<=w.heap.size):
 zT (v.alloc (.cells #[.slice (some ⟨lb,0,none⟩) 1 1,.map (some mb)] fQ)) (fun k=>w0.heap.size<=k/\k<(v.alloc (.cells #[.slice (some ⟨lb,0,none⟩) 1 1,.map (some mb)] fQ)).heap.size) (fun _=>False) v.heap.size [⟨r,[]⟩]:=by
 have g:=h.grow (.cells #[.slice (some ⟨lb,0,none⟩) 1 1,.map (some mb)] fQ);have js:=aR v (.cells #[.slice (some ⟨lb,0,none⟩) 1 1,.map (some mb)] fQ);generalize v.alloc (.cells #[.slice (some ⟨lb,0,none⟩) 1 1,.map (some mb)] fQ)=u at g js;have hs:=h.kp.size;obtain⟨n1,n2⟩:=g.node nb rfl;obtain⟨l1,nb',e,l2⟩:=g.list lb rfl;cases e;obtain⟨m1,m2⟩:=g.map mb rfl;have mR:fI [⟨r,[]⟩] r= []:=by
  cases hc:fI [⟨r,[]⟩] r with
  |nil=>rfl
  |cons b t=>exact absurd (jL.1 (show b∈fI [⟨r,[]⟩] r by rw [hc];simp)).2 (qp r)
 refine⟨lb,1,mb,[nz nb],js,Row.made (n:=1) (cur:= #[.pointer (some ⟨nb,0,none⟩)]) l2 (Nat.zero_le _) rfl (by decide),m2,rfl,fun i nd m hi hm=>?_,fun i j m m' h1 h2 fH k hk=>?_,⟨by omega,aZ js⟩,⟨by omega,aZ l2⟩,⟨by omega,m2.lt⟩,fun _ _ h=>h,fun k hk=>hk.elim (fun h=>h.2) (fun h=>h.elim)⟩
 ·cases i with
  |zero=>
   simp at hi hm;subst hi;subst hm;refine⟨n2,⟨Nat.le_trans hw n1,aZ n2⟩,HS.nil _ _,(fun a ha=>by cases ha),?_,(fun k hk=>by cases hk),⟨rfl,fun i x hx=>by simp [nz]at hx⟩,(fun a ha=>by cases ha),by simp [okW,nz],fun j=>?_,by simp [nz]⟩
   ·show cr u 0 none 0 0 (fI [⟨r,[]⟩] r)
    rw [mR];exact cr.nil _ _
   ·show bit [] j=true↔_
    rw [vN];exact⟨(fun h=>by cases h),fun⟨nj,_,h⟩=>absurd h (wF r)⟩
  |succ i=>simp at hi
 ·have hm:m=nz nb:=by
   have:=List.mem_of_getElem? h1;simpa using this
  subst hm;cases hk
theorem eU(r:HT)(hK:∀v gb,zT v (fun k=>w.heap.size<=k/\k<v.heap.size) (fun _=>False) gb [⟨r,[]⟩]->Kept Nil w v->K (.pointer (some ⟨gb,0,none⟩)) v):
 bm prog lC.id #[.agg r.1] w K:=by
 refine lC.of ?_;unfold lC.W;intro w2 w3;have k2:Kept Nil w w2:=(Kept.refl _ _).alloc _;have oz:w2.heap[w.heap.size]? =some (.cells r.1 ax (0,0)):=aR w _;have k3:Kept Nil w w3:=k2.drew;have o6:w3.heap[w.heap.size]? =some (.cells r.1 ax (0,0)):=oz;clear_value w3;have N3:NP w3 w3 r none none none []:=⟨Kept.refl _ _,(fun b e=>by cases e),(fun b e=>by cases e),(fun b e=>by cases e)⟩;have mH:∀ {v:World},Kept Nil w3 v->∃cs:Array Value,(.agg r.1:Value)=.agg cs/\cs.size=32/\Cells v (aU w.heap.size) cs:=fun k=>⟨r.1,rfl,r.2.1,Cells.bS (k.heap o6 (fun h=>h))⟩;have sO:∀ {v:World} {nb lb mb:Nat},NP w3 v r (some nb) (some lb) (some mb) [r]->K (.pointer (some ⟨v.heap.size,0,none⟩)) (v.alloc (.cells #[.slice (some ⟨lb,0,none⟩) 1 1,.map (some mb)] fQ)):=fun h=>hK _ _ (h.fin k3.size) ((k3.tt h.kp).alloc _);refine⟨r.1,⟨r.2.1,Cells.bS o6⟩,?_⟩;have O6:∀b,prog.built dd [(0,.agg r.1)]=some (eM r (nz b)):=fun b=>CD r b;rw [O6 0];refine Is.mk rfl ?_;refine⟨r.1,⟨r.2.1,Cells.bS o6⟩,?_⟩;refine⟨?_,?_⟩
 ·have N7:NP w3 (w3.alloc (.cells (eM r (nz w3.heap.size)) dd)) r (some w3.heap.size) none none []:=N3.addNode
  refine⟨mH N7.kp,?_,?_⟩
  ·have N8:=N7.oB
   have N9:=N8.zN;obtain⟨v,hr,MP⟩:=N9.put;exact⟨mH N8.kp,mH N9.kp,v,hr,sO MP⟩
  ·have LU:=N7.zN
   refine⟨mH LU.kp,?_,?_⟩
   ·have HQ:=LU.oB
    obtain⟨v,hr,LS⟩:=HQ.put;exact⟨mH HQ.kp,v,hr,sO LS⟩
   ·obtain⟨v,hr,MO⟩:=LU.put
    exact⟨v,hr,sO MO.oB⟩
 ·have F6:=N3.zN
  refine⟨mH F6.kp,mH F6.kp,?_,?_⟩
  ·have Jh:NP w3 ((w3.alloc (.map #[] 0)).alloc (.cells (eM r (nz (w3.alloc (.map #[] 0)).heap.size)) dd)) r (some (w3.alloc (.map #[] 0)).heap.size) none (some w3.heap.size) []:=F6.addNode
   refine⟨mH Jh.kp,?_,?_⟩
   ·have Jg:=Jh.oB
    obtain⟨v,hr,MM⟩:=Jg.put;exact⟨mH Jg.kp,v,hr,sO MM⟩
   ·obtain⟨v,hr,Rl⟩:=Jh.put
    exact⟨v,hr,sO Rl.oB⟩
  ·obtain⟨v,hr,LR⟩:=F6.put
   exact⟨v,hr,mH LR.kp,sO LR.addNode.oB⟩
end
section
variable{w w':World}{S S' F:Nat->Prop}{g bl c mb:Nat}{D:DG}{C:HT->List HT}{M:List NM}{K:Value->World->Prop}
end
section
variable{w w':World}{S S' F:Nat->Prop}{g bl c mb:Nat}{D:DG}{C:HT->List HT}{M:List NM}{K:Value->World->Prop}
end
theorem lx{w:World}{b:Nat}{z cs:Array Value}{t:TypeId}(h:w.heap[b]? =some (.cells z t (0,0)))(hz:z.size=cs.size):
 (∀j,j<cs.size->Wr w ((⟨b,0,none⟩:Addr).add j))/\(setCells w ⟨b,0,none⟩ cs.toList 0).heap[b]? =some (.cells cs t (0,0))/\Kept (· =b) w (setCells w ⟨b,0,none⟩ cs.toList 0):=by
 refine⟨fun j hj=>?_,?_,fT _ _ _ _⟩
 ·rw [bu,Nat.zero_add]
  exact dK h (by omega)
 ·have h1:=jo cs.toList z w t 0 0 h (by simp;omega)
  rw [h1,r3 (by simp [hz])]
def hx(i:Nat)(hi:i<256):HT:=⟨#[.int .u8 (i:Int),.int .u8 0,.int .u8 0,.int .u8 0,.int .u8 0,.int .u8 0,.int .u8 0,.int .u8 0,.int .u8 0,.int .u8 0,.int .u8 0,.int .u8 0,.int .u8 0,.int .u8 0,.int .u8 0,.int .u8 0,.int .u8 0,.int .u8 0,.int .u8 0,.int .u8 0,.int .u8 0,.int .u8 0,.int .u8 0,.int .u8 0,.int .u8 0,.int .u8 0,.int .u8 0,.int .u8 0,.int .u8 0,.int .u8 0,.int .u8 0,.int .u8 0],rfl,fun v hv=>by
 simp only [List.mem_cons,List.not_mem_nil,or_false]at hv;rcases hv with rfl|hv
 ·exact⟨i,rfl,by omega,by omega⟩
 ·exact⟨0,by simpa using hv,by omega,by omega⟩⟩
theorem yS{i j:Nat}{hi:i<256}{hj:j<256}(h:i≠j):hx i hi≠hx j hj:=fun e=>by
 have:=congrArg (fun a:HT=>a.1[0]?) e;simp [hx]at this;omega
section
variable{w w':World}{K:Value->World->Prop}
end
theorem HS.lay{w:World}{b:Nat}{l:List HT}{t:TypeId}(hb:w.heap[b]? =some (.cells (cC l).toArray t (0,0))):HS w (some ⟨b,0,Option.none⟩) l.length l:=
 ⟨rfl,fun i x hi=>⟨_,rfl,aZ hb,fun j v hj=>by
   rw [bu,bu,Nat.zero_add,aD hb];simpa using jB hi hj⟩⟩
section
variable{r a b c:HT}(KH:r≠a)(FL:r≠b)(RQ:r≠c)(mJ:a≠b)(Sb:a≠c)(Lj:b≠c)
abbrev kD(r a b c:HT):DG:= [⟨r,[]⟩,⟨a,[r]⟩,⟨b,[r]⟩,⟨c,dg [a,b]⟩]
include KH in
theorem k1:eo [⟨r,[]⟩] a [r]=0/\mE [⟨r,[]⟩] a [r]= [⟨r,[]⟩,⟨a,[r]⟩]:=by
 have h:eo [⟨r,[]⟩] a [r]=0:=by
  unfold eo;rw [if_neg (by simp [ids];exact fun e=>KH e.symm),mf,if_neg (by simp),if_neg (by simp [ids])]
 exact⟨h,by unfold mE;rw [if_pos h,mf];rfl⟩
include FL mJ in
theorem k2:eo [⟨r,[]⟩,⟨a,[r]⟩] b [r]=0/\mE [⟨r,[]⟩,⟨a,[r]⟩] b [r]= [⟨r,[]⟩,⟨a,[r]⟩,⟨b,[r]⟩]:=by
 have h:eo [⟨r,[]⟩,⟨a,[r]⟩] b [r]=0:=by
  unfold eo;rw [if_neg (by simp [ids];exact⟨fun e=>FL e.symm,fun e=>mJ e.symm⟩),mf,if_neg (by simp),if_neg (by simp [ids])]
 exact⟨h,by unfold mE;rw [if_pos h,mf];rfl⟩
include RQ mJ Sb Lj in
theorem k3:eo [⟨r,[]⟩,⟨a,[r]⟩,⟨b,[r]⟩] c [a,b]=0/\mE [⟨r,[]⟩,⟨a,[r]⟩,⟨b,[r]⟩] c [a,b]=kD r a b c:=by
 have hl:(dg [a,b]).length=2:=oI (by simp [mJ]);have h:eo [⟨r,[]⟩,⟨a,[r]⟩,⟨b,[r]⟩] c [a,b]=0:=by
  unfold eo;rw [if_neg (by simp [ids];exact⟨fun e=>RQ e.symm,fun e=>Sb e.symm,fun e=>Lj e.symm⟩),hl,if_neg (by simp),if_neg];rintro⟨p,hp,hn⟩;rw [dI]at hp;simp at hp;simp [ids]at hn;rcases hp with rfl|rfl
  ·exact hn.2.1 rfl
  ·exact hn.2.2 rfl
 exact⟨h,by unfold mE;rw [if_pos h];rfl⟩
end
section
variable{w w':World}{K:Value->World->Prop}
end
structure aeM(w:World)(S F:Nat->Prop)(g:Nat)(FR:Nat->Prop)(r:Nat)(D:DG):Prop where
 G:zT w S F g D
 R:IsR w FR r D
 rS:¬S r
 rF:¬F r
 fS:∀k,FR k->¬S k
 low:∀k,FR k->k<w.heap.size
section
variable{w v w':World}{S F S2 F2 FR:Nat->Prop}{g r:Nat}{D D':DG}{K:Value->World->Prop}
end
end Go.Proofs.YtfleamccglihoaaGreatDoor
