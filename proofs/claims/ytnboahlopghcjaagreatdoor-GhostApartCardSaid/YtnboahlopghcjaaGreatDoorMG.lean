import Derived.Test.YtnboahlopghcjaaGreatDoorProg
import Derived.Shelf.SlSortCmp.NoneTotal
import Derived.Shelf.SlMaps.Clone
import Derived.Shelf.Spec.TrailingZeros
import Derived.Shelf.Strconv.Itoa0
import Derived.Shelf.Bits.Mul64
import Derived.Test.YtnboahlopghcjaaGreatDoorMA
import Derived.Test.YtnboahlopghcjaaGreatDoorMB
import Derived.Lib.BytesEntry
import Derived.Test.YtnboahlopghcjaaGreatDoorMC
import Derived.LaidEql
open Go.IntKind (i64 u64)
set_option linter.unusedVariables false
namespace Go.Proofs
open Go.Shelf
def Tryz.pF:Go.Shelf.Ren:=⟨fun|6=>72|15=>106|14=>105|28=>130|29=>131|20=>122|21=>123|22=>124|23=>125|24=>126|25=>127|26=>128|27=>129|46=>135|47=>136|48=>137|49=>138|50=>139|57=>141|n=>n,fun|22=>35|24=>23|25=>97|3=>3|39=>161|0=>0|53=>181|55=>49|4=>4|46=>175|45=>174|50=>127|5=>5|9=>9|66=>188|70=>192|76=>196|77=>197|n=>n,fun|n=>n⟩
theorem Tryz.wB:Go.Proofs.SlLaysF0.n6 prog Tryz.pF:= {
 mixed:=by kernel_rfl
 f6:=⟨f72.name,by decide,func72.trans (congrArg some (by kernel_rfl))⟩
 f14:=⟨f105.name,by decide,func105.trans (congrArg some (by kernel_rfl))⟩
 f15:=func106.trans (congrArg some (by kernel_rfl))
 f20:=⟨f122.name,by decide,func122.trans (congrArg some (by kernel_rfl))⟩
 f21:=⟨f123.name,by decide,func123.trans (congrArg some (by kernel_rfl))⟩
 f22:=⟨f124.name,by decide,func124.trans (congrArg some (by kernel_rfl))⟩
 f23:=⟨f125.name,by decide,func125.trans (congrArg some (by kernel_rfl))⟩
 f24:=⟨f126.name,by decide,func126.trans (congrArg some (by kernel_rfl))⟩
 f25:=⟨f127.name,by decide,func127.trans (congrArg some (by kernel_rfl))⟩
 f26:=⟨f128.name,by decide,func128.trans (congrArg some (by kernel_rfl))⟩
 f27:=⟨Tryz.f129.name,by decide,func129.trans (congrArg some (by kernel_rfl))⟩
 f28:=func130.trans (congrArg some (by kernel_rfl))
 f29:=func131.trans (congrArg some (by kernel_rfl))
 f46:=⟨f135.name,by decide,func135.trans (congrArg some (by kernel_rfl))⟩
 f47:=func136.trans (congrArg some (by kernel_rfl))
 f48:=func137.trans (congrArg some (by kernel_rfl))
 f49:=⟨f138.name,by decide,func138.trans (congrArg some (by kernel_rfl))⟩
 f50:=⟨f139.name,by decide,func139.trans (congrArg some (by kernel_rfl))⟩
 f57:=⟨f141.name,by decide,func141.trans (congrArg some (by kernel_rfl))⟩
 t0:=underlying0
 a0:=isAgg0
 z0:=sizeOf0
 v0:=zeroValue0
 t3:=underlying3
 a3:=isAgg3
 z3:=sizeOf3
 v3:=zeroValue3
 t4:=underlying4
 a4:=isAgg4
 z4:=sizeOf4
 v4:=zeroValue4
 t5:=underlying5
 a5:=isAgg5
 z5:=sizeOf5
 v5:=zeroValue5
 t9:=underlying9
 a9:=isAgg9
 z9:=sizeOf9
 v9:=zeroValue9
 t22:=underlying35
 a22:=isAgg35
 z22:=sizeOf35
 v22:=zeroValue35
 t25:=underlying97
 a25:=isAgg97
 z25:=sizeOf97
 v25:=zeroValue97
 t39:=underlying161
 a39:=isAgg161
 z39:=sizeOf161
 v39:=zeroValue161
 t45:=underlying174
 a45:=isAgg174
 z45:=sizeOf174
 v45:=zeroValue174
 t46:=underlying175
 a46:=isAgg175
 z46:=sizeOf175
 v46:=zeroValue175
 t50:=underlying127
 a50:=isAgg127
 z50:=sizeOf127
 v50:=zeroValue127
 t53:=underlying181
 a53:=isAgg181
 z53:=sizeOf181
 v53:=zeroValue181
 t55:=underlying49
 a55:=isAgg49
 z55:=sizeOf49
 v55:=zeroValue49
 t66:=underlying188
 a66:=isAgg188
 z66:=sizeOf188
 v66:=zeroValue188
 t70:=underlying192
 a70:=isAgg192
 z70:=sizeOf192
 v70:=zeroValue192
 t76:=underlying196
 a76:=isAgg196
 z76:=sizeOf196
 v76:=zeroValue196
 t77:=underlying197
 a77:=isAgg197
 z77:=sizeOf197
 v77:=zeroValue197}
def Tryz.CT:Go.Shelf.Ren:=⟨fun|5=>96|7=>97|n=>n,fun|23=>89|25=>23|3=>3|4=>4|20=>20|n=>n,fun|n=>n⟩
theorem Tryz.R5:Go.Proofs.SlLaysW.n5 prog Tryz.CT:= {
 mixed:=by kernel_rfl
 f5:=⟨f96.name,by decide,func96.trans (congrArg some (by kernel_rfl))⟩
 f7:=func97.trans (congrArg some (by kernel_rfl))
 t4:=underlying4
 a4:=isAgg4
 z4:=sizeOf4
 v4:=zeroValue4
 t20:=underlying20
 a20:=isAgg20
 z20:=sizeOf20
 v20:=zeroValue20
 t23:=underlying89
 a23:=isAgg89
 z23:=sizeOf89
 v23:=zeroValue89}
def Tryz.CS:Go.Shelf.Ren:=⟨fun|5=>59|7=>97|n=>n,fun|23=>80|25=>23|3=>88|4=>4|20=>20|n=>n,fun|n=>n⟩
theorem Tryz.R4:Go.Proofs.SlLaysW.n5 prog Tryz.CS:= {
 mixed:=by kernel_rfl
 f5:=⟨f59.name,by decide,func59.trans (congrArg some (by kernel_rfl))⟩
 f7:=func97.trans (congrArg some (by kernel_rfl))
 t4:=underlying4
 a4:=isAgg4
 z4:=sizeOf4
 v4:=zeroValue4
 t20:=underlying20
 a20:=isAgg20
 z20:=sizeOf20
 v20:=zeroValue20
 t23:=underlying80
 a23:=isAgg80
 z23:=sizeOf80
 v23:=zeroValue80}
def Tryz.jt:Go.Shelf.Ren:=⟨fun|29=>121|n=>n,fun|22=>49|3=>3|4=>4|25=>161|54=>187|0=>0|5=>5|n=>n,fun|1=>1|n=>n⟩
theorem Tryz.tzL:Go.Proofs.Lays7.n29 prog Tryz.jt:= {
 mixed:=by kernel_rfl
 f29:=func121.trans (congrArg some (by kernel_rfl))
 t0:=underlying0
 a0:=isAgg0
 z0:=sizeOf0
 v0:=zeroValue0
 i0:=by kernel_rfl
 t3:=underlying3
 a3:=isAgg3
 z3:=sizeOf3
 v3:=zeroValue3
 i3:=by kernel_rfl
 t4:=underlying4
 a4:=isAgg4
 z4:=sizeOf4
 v4:=zeroValue4
 i4:=by kernel_rfl
 t5:=underlying5
 a5:=isAgg5
 z5:=sizeOf5
 v5:=zeroValue5
 i5:=by kernel_rfl
 t22:=underlying49
 a22:=isAgg49
 z22:=sizeOf49
 v22:=zeroValue49
 i22:=by kernel_rfl
 t25:=underlying161
 a25:=isAgg161
 z25:=sizeOf161
 v25:=zeroValue161
 i25:=by kernel_rfl
 t54:=underlying187
 a54:=isAgg187
 z54:=sizeOf187
 g1:=by kernel_rfl}
def Tryz.zD:Go.Shelf.Ren:=⟨fun|129=>131|n=>n,fun|53=>49|3=>3|4=>4|46=>161|5=>5|9=>9|n=>n,fun|n=>n⟩
theorem Tryz.Lv:Go.Proofs.Lays.n129 prog Tryz.zD:= {
 mixed:=by kernel_rfl
 f129:=func131.trans (congrArg some (by kernel_rfl))
 t3:=underlying3
 a3:=isAgg3
 z3:=sizeOf3
 v3:=zeroValue3
 t4:=underlying4
 a4:=isAgg4
 z4:=sizeOf4
 v4:=zeroValue4
 t5:=underlying5
 a5:=isAgg5
 z5:=sizeOf5
 v5:=zeroValue5
 t9:=underlying9
 a9:=isAgg9
 z9:=sizeOf9
 v9:=zeroValue9
 t46:=underlying161
 a46:=isAgg161
 z46:=sizeOf161
 v46:=zeroValue161
 t53:=underlying49
 a53:=isAgg49
 z53:=sizeOf49
 v53:=zeroValue49}
def Tryz.zB:Go.Shelf.Ren:=⟨fun|264=>133|n=>n,fun|53=>49|46=>161|n=>n,fun|n=>n⟩
theorem Tryz.Lu:Go.Proofs.Lays.n264 prog Tryz.zB:= {
 mixed:=by kernel_rfl
 f264:=func133.trans (congrArg some (by kernel_rfl))
 t46:=underlying161
 a46:=isAgg161
 z46:=sizeOf161
 v46:=zeroValue161
 t53:=underlying49
 a53:=isAgg49
 z53:=sizeOf49
 v53:=zeroValue49}
end Go.Proofs
namespace Go.bT
open Go.RowKit
theorem jW.mono{P:Program}{l:Nat}{args:Array Value}{w:World}{R R':Bool->World->Prop}(h:jW P l args w R)(hr:∀b w',R b w'->R' b w'):jW P l args w R':=by
 obtain⟨g,tmps,assign,body,h1,h2⟩:=h;exact⟨g,tmps,assign,body,h1,fun r m=>RoundIn.mono (h2 r m) fun e w' ⟨b,he,hb⟩=>⟨b,he,hr _ _ hb⟩⟩
def gH(xs:List Value)(k:Nat)(vs:List Value):List Value:=xs.take k++vs++xs.drop (k+vs.length)
theorem qq(xs:List Value)(k:Nat):gH xs k []=xs:=by simp [gH]
theorem oM{xs:List Value}{k:Nat}(hk:k<xs.length)(v:Value)(vs:List Value):gH xs k (v::vs)=gH (xs.set k v) (k+1) vs:=by
 unfold gH;rw [List.take_add_one,List.take_set_of_le (Nat.le_refl k),List.getElem?_set_self hk,List.drop_set];rw [if_pos (by omega),List.length_cons,show k+(vs.length+1)=k+1+vs.length by omega];simp
theorem lO{xs:List Value}{k:Nat}{vs:List Value}(h:k+vs.length<=xs.length):(gH xs k vs).length=xs.length:=by
 unfold gH;simp;omega
theorem um{xs vs:List Value}(h:vs.length=xs.length):gH xs 0 vs=vs:=by
 unfold gH;simp [h]
section
variable{w:World}{B:Nat}{e:TypeId}{size n c b:Nat}
theorem qT:∀(vs:List Value) (xs:List Value) (w:World) (o i:Nat),Row w B e size (some ⟨b,0,none⟩) n c xs->o+i+vs.length<=xs.length->
 Row (setCells w ⟨b,o,none⟩ vs i) B e size (some ⟨b,0,none⟩) n c (gH xs (o+i) vs)
 | [],xs,w,o,i,h,_=>by rw [qq];exact h
 |v::vs,xs,w,o,i,h,hl=>by
  rw [List.length_cons]at hl;rw [oM (by omega)];simp only [setCells];rw [a8];have h1:=Row.set h (j:=o+i) (by omega) v;have:=qT vs (xs.set (o+i) v) _ o (i+1) h1 (by rw [List.length_set];omega)
  rwa [show o+(i+1)=o+i+1 by omega]at this
theorem fe:∀(vs:List Value) (w:World) (o i:Nat),Kept (· =b) w (setCells w ⟨b,o,none⟩ vs i)
 | [],w,o,i=>Kept.refl _ _
 |v::vs,w,o,i=>by
  simp only [setCells];rw [a8];exact(Kept.setCell (S:=fun k=>k=b) (Kept.refl _ w) (p:=⟨b,o+i,none⟩) (fun _=>rfl) v).tt (fe vs _ o (i+1))
theorem jP:∀(vs:List Value) (cur:Array Value) (w:World) (t:TypeId) (o i:Nat),w.heap[b]? =some (.cells cur t (0,0))->o+i+vs.length<=cur.size->
 (setCells w ⟨b,o,none⟩ vs i).heap[b]? =some (.cells (gH cur.toList (o+i) vs).toArray t (0,0))
 | [],cur,w,t,o,i,h,_=>by rw [qq];simpa [setCells]using h
 |v::vs,cur,w,t,o,i,h,hl=>by
  rw [List.length_cons]at hl;rw [oM (by simp;omega)];simp only [setCells];rw [a8];have h1:=cV h (o+i) v;have:=jP vs _ _ t o (i+1) h1 (by simp;omega);rw [show o+(i+1)=o+i+1 by omega]at this;rw [this];simp
theorem gP{z cs:Array Value}{t:TypeId}(hz:z.size=cs.size):
 (∀j,j<cs.size->Wr (w.alloc (.cells z t)) ((⟨w.heap.size,0,none⟩:Addr).add j))/\
 (setCells (w.alloc (.cells z t)) ⟨w.heap.size,0,none⟩ cs.toList 0).heap[w.heap.size]? =some (.cells cs t (0,0))/\
 Kept Nil w (setCells (w.alloc (.cells z t)) ⟨w.heap.size,0,none⟩ cs.toList 0):=by
 refine⟨fun j hj=>?_,?_,?_⟩
 ·rw [a8,Nat.zero_add]
  exact dJ (aH w _) (by omega)
 ·have h:=jP cs.toList z (w.alloc (.cells z t)) t 0 0 (aH w _) (by simp;omega)
  rw [h,um (by simp [hz])]
 ·exact((Kept.refl Nil w).alloc _).trans (fe cs.toList _ 0 0) (fun k hk e=>absurd hk (by omega))
end
end Go.bT
namespace Go.bT
theorem Ef:∀(vs:List Value) (off k:Nat) (cells:Array Value),off+k+vs.length<=cells.size->
 ((vs.zipIdx k).foldl (fun(cs:Array Value) (p:Value×Nat)=>cs.setIfInBounds (off+p.2) p.1) cells)=(gH cells.toList (off+k) vs).toArray
 | [],off,k,cells,_=>by rw [qq];simp
 |v::vs,off,k,cells,h=>by
  rw [List.length_cons]at h;rw [oM (by simp;omega),List.zipIdx_cons,List.foldl_cons];have:=Ef vs off (k+1) (cells.setIfInBounds (off+k) v) (by simp;omega);rw [this,Array.toList_setIfInBounds];rfl
theorem iH{place:Nat->Option (Nat×Nat)}{cells:Array Value}{i off size:Nat}{v:Value}{rest:List (Nat×Value)}(hp:place i=some (off,size))(hs:v.cells.size=size)(hle:off+size<=cells.size):
 Instr.fill place cells ((i,v)::rest)=Instr.fill place (gH cells.toList off v.cells.toList).toArray rest:=by
 rw [Instr.fill,hp];simp only;rw [if_neg (by simp;omega)]
 congr 1
 have h:=Ef v.cells.toList off 0 cells (by simp;omega);rw [Nat.add_zero]at h;rw [<-h,<-Array.foldl_toList,Array.toList_zipIdx]
def Tp(P:Program)(t:TypeId):Option (List (Nat×Nat)×List Value):=
 match P.info? t,P.underlying t with
 |some it,some (.struct fields)=>
  match it.zero,fields.toList.mapM (fun f=>(P.info? f.type).map fun i=>(f.offset,i.size))with
  |some z,some places=>some (places,z.cells.toList)
  |_,_=>none
 |_,_=>none
theorem ns{P:Program}{t:TypeId}{pl:List (Nat×Nat)}{z:List Value}(h:Tp P t=some (pl,z))(parts:List (Nat×Value)):
 P.built t parts=Instr.fill (pl.toArray[·]?) z.toArray parts:=by
 unfold Tp at h;split at h
 ·rename_i it fields h1 h2
  split at h
  ·rename_i z' pl' h3 h4
   simp only [Option.some.injEq,Prod.mk.injEq]at h;obtain⟨rfl,rfl⟩:=h;unfold Program.built;rw [h1,h2];simp only [h3,h4]
  ·cases h
 ·cases h
def qz:List Nat->Array Value
 | []=> #[]
 |D::l=> #[.pointer (some ⟨D,0,none⟩)]++qz l
theorem mW:∀l,marksOf (.agg (qz l))=l
 | []=>rfl
 |D::l=>by
  have ih:=mW l;simp only [qz,marksOf]at*;simp [ih]
theorem lW:∀(l:List Nat) (w:World),l.Nodup->(∀D∈l,w.heap[D]? =some (.deferred (some [])))->kL l w
 | [],_,_,_=>trivial
 |D::l,w,hn,h=>by
  rw [List.nodup_cons]at hn;refine⟨h D (by simp),lW l _ hn.2 fun E hE=>?_⟩;have fD:D≠E:=fun e=>hn.1 (by rw [e];exact hE);exact(World.putObj_heap_other fD.symm).trans (h E (by simp [hE]))
theorem jM:∀(l:List Nat) (w:World),Kept (· ∈l) w (gm l w)
 | [],w=>Kept.refl _ w
 |D::l,w=>((Kept.putAt w D (.deferred none)).mono (S':=fun k=>k∈D::l) (fun k _ e=>by subst e;simp)).trans (jM l _) (fun k _ h=>by simp [h])
end Go.bT
namespace Go.Proofs.YtnboahlopghcjaaGreatDoor
open Go.Proofs.Tryz
open Go Go.bT Go.RowKit
def SK(cs:Array Value):Prop:=cs.size=32/\∀v∈cs.toList,∃i:Int,v=.int .u8 i/\0<=i/\i<256
abbrev HT:= {cs:Array Value//SK cs}
def key(h:HT):List Int:=h.1.toList.map lN
theorem SK.ints{cs:Array Value}(h:SK cs):dP .u8 32 cs:=⟨h.1,fun v hv=>let ⟨i,e,_⟩:=h.2 v hv;⟨i,e⟩⟩
theorem zU:∀ {a b:List Value},(∀v∈a,∃i:Int,v=.int .u8 i)->(∀v∈b,∃i:Int,v=.int .u8 i)->a.map lN=b.map lN->a=b
 | [],[],_,_,_=>rfl
 | [],_::_,_,_,h=>by simp at h
 |_::_,[],_,_,h=>by simp at h
 |x::a,y::b,ha,hb,h=>by
  obtain⟨i,rfl⟩:=ha x (by simp);obtain⟨j,rfl⟩:=hb y (by simp);simp only [List.map_cons,List.cons.injEq,lN]at h;rw [h.1,zU (fun v hv=>ha v (by simp [hv])) (fun v hv=>hb v (by simp [hv])) h.2]
theorem key_inj{a b:HT}(h:key a=key b):a=b:=by
 apply Subtype.ext;apply Array.ext';exact zU (fun v hv=>a.2.ints.2 v hv) (fun v hv=>b.2.ints.2 v hv) h
instance:DecidableEq HT:=fun a b=>if h:key a=key b then isTrue (key_inj h)else isFalse fun e=>h (by rw [e])
theorem dL(a b:HT):eT a.1 b.1=decide (a=b):=by
 unfold eT;by_cases e:a=b
 ·subst e;simp
 ·rw [decide_eq_false e]
  have:¬(key a=key b):=fun h=>e (key_inj h);simpa [key]using this
theorem SK.one{cs:Array Value}(h:SK cs):∀v∈cs.toList,v.oneCell'=true:=fun v hv=>by
 obtain⟨i,rfl,_⟩:=h.2 v hv;rfl
def tY:List Int->List Int->Bool
 | [],[]=>false
 | [],_::_=>true
 |_::_,[]=>false
 |x::a,y::b=>if x<y then true else if y<x then false else tY a b
def cH(a b:HT):Bool:=tY (key a) (key b)
theorem uN:∀a,tY a a=false
 | []=>rfl
 |x::a=>by simp [tY,uN a]
theorem wH:∀ {a b c},tY a b=true->tY b c=true->tY a c=true
 | [],[],_,h,_=>by simp [tY]at h
 | [],_::_,[],_,h=>by simp [tY]at h
 | [],_::_,_::_,_,_=>rfl
 |_::_,[],_,h,_=>by simp [tY]at h
 |_::_,_::_,[],_,h=>by simp [tY]at h
 |x::a,y::b,z::c,h,h'=>by
  simp only [tY]at*;by_cases h1:x<y
  ·by_cases h2:y<z
   ·rw [if_pos (by omega)]
   ·rw [if_neg h2]at h'
    by_cases h3:z<y
    ·rw [if_pos h3]at h';cases h'
    ·rw [if_pos (by omega)]
  ·rw [if_neg h1]at h
   by_cases h2:y<x
   ·rw [if_pos h2]at h;cases h
   ·rw [if_neg h2]at h
    by_cases h3:y<z
    ·rw [if_pos (by omega)]
    ·rw [if_neg h3]at h'
     by_cases h4:z<y
     ·rw [if_pos h4]at h';cases h'
     ·rw [if_neg h4]at h'
      rw [if_neg (by omega),if_neg (by omega)];exact wH h h'
theorem wJ:∀ {a b},a.length=b.length->tY a b=false->tY b a=false->a=b
 | [],[],_,_,_=>rfl
 | [],_::_,h,_,_=>by simp at h
 |_::_,[],h,_,_=>by simp at h
 |x::a,y::b,hl,h,h'=>by
  simp only [tY]at*;by_cases h1:x<y
  ·rw [if_pos h1]at h;cases h
  ·rw [if_neg h1]at h
   by_cases h2:y<x
   ·rw [if_pos h2]at h';cases h'
   ·rw [if_neg h2]at h h'
    rw [if_neg h1]at h';have:x=y:=by omega
    rw [this,wJ (by simpa using hl) h h']
theorem mr(a:HT):(key a).length=32:=by have:=a.2.1;simpa [key]using this
theorem pL{a b:HT}(h:cH a b=false)(h':cH b a=false):a=b:=key_inj (wJ (by rw [mr,mr]) h h')
theorem jG{a b c:HT}(h:cH a b=true)(h':cH b c=true):cH a c=true:=wH h h'
theorem gV(a:HT):cH a a=false:=uN _
theorem sO{a b:HT}(h:cH a b=true):cH b a=false:=by
 cases h':cH b a
 ·rfl
 ·have:=jG h h';rw [gV]at this;cases this
end Go.Proofs.YtnboahlopghcjaaGreatDoor
namespace Go.Proofs.YtnboahlopghcjaaGreatDoor
open Go.Proofs.Tryz
open Go Go.bT
def SS(l:List HT):Prop:=l.Pairwise fun a b=>cH a b=true
theorem SS.nodup{l:List HT}(h:SS l):l.Nodup:=List.Pairwise.imp (fun {a b} lG e=>by subst e;rw [gV]at lG;cases lG) h
theorem SS.cons{x:HT}{l:List HT}:SS (x::l)↔(∀y∈l,cH x y=true)/\SS l:=List.pairwise_cons
theorem yB:∀ {l m:List HT},SS l->SS m->(∀x,x∈l↔x∈m)->l=m
 | [],[],_,_,_=>rfl
 | [],y::m,_,_,h=>by have:=(h y).2 (by simp);simp at this
 |x::l,[],_,_,h=>by have:=(h x).1 (by simp);simp at this
 |x::l,y::m,hl,hm,h=>by
  rw [SS.cons]at hl hm;have oF:x=y:=by
   have h1:=(h x).1 (by simp);have h2:=(h y).2 (by simp);rcases List.mem_cons.1 h1 with h1|h1
   ·exact h1
   ·rcases List.mem_cons.1 h2 with h2|h2
    ·exact h2.symm
    ·have a:=hl.1 _ h2
     have b:=hm.1 _ h1;rw [sO a]at b;cases b
  subst oF
  congr 1
  refine yB hl.2 hm.2 fun z=>?_;have hz:=h z;constructor
  ·intro hzl
   rcases List.mem_cons.1 (hz.1 (by simp [hzl]))with e|e
   ·subst e;have:=hl.1 _ hzl;rw [gV]at this;cases this
   ·exact e
  ·intro hzm
   rcases List.mem_cons.1 (hz.2 (by simp [hzm]))with e|e
   ·subst e;have:=hm.1 _ hzm;rw [gV]at this;cases this
   ·exact e
def ins(x:HT):List HT->List HT
 | []=> [x]
 |y::l=>if cH x y then x::y::l else if x=y then y::l else y::ins x l
theorem xT(x z:HT):∀l,z∈ins x l↔z=x\/z∈l
 | []=>by simp [ins]
 |y::l=>by
  unfold ins;split
  ·simp
  ·split
   ·rename_i e;subst e;simp
   ·simp only [List.mem_cons,xT x z l]
    constructor
    ·rintro(h|h|h)<;>simp [h]
    ·rintro(h|h|h)<;>simp [h]
theorem Kr(x:HT):∀ {l:List HT},SS l->SS (ins x l)
 | [],_=>by simp [ins,SS]
 |y::l,h=>by
  have h':=SS.cons.1 h;unfold ins;split
  ·rename_i oF
   refine SS.cons.2 ⟨fun z hz=>?_,h⟩;rcases List.mem_cons.1 hz with rfl|hz
   ·exact oF
   ·exact jG oF (h'.1 _ hz)
  ·split
   ·exact h
   ·rename_i h1 h2
    refine SS.cons.2 ⟨fun z hz=>?_,Kr x h'.2⟩;rcases(xT x z l).1 hz with rfl|hz
    ·cases SL:cH y z
     ·exact absurd (pL SL (by simpa using h1)).symm h2
     ·rfl
    ·exact h'.1 _ hz
def dv(l:List HT):List HT:=l.foldr ins []
theorem dF{z:HT}:∀ {l:List HT},z∈dv l↔z∈l
 | []=>by simp [dv]
 |x::l=>by
  have:= @dF z l;simp only [dv,List.foldr_cons,xT,List.mem_cons]at this⊢;rw [this]
theorem iK:∀l:List HT,SS (dv l)
 | []=>List.Pairwise.nil
 |x::l=>Kr x (iK l)
theorem Dp{l m:List HT}(h:∀x,x∈l↔x∈m):dv l=dv m:=yB (iK l) (iK m) fun x=>by rw [dF,dF,h]
theorem xH{l m:List HT}(hs:SS l)(h:∀x,x∈l↔x∈m):l=dv m:=yB hs (iK m) fun x=>by rw [dF,h]
theorem DS(x:HT):∀l,(ins x l).length<=l.length+1
 | []=>by simp [ins]
 |y::l=>by
  have:=DS x l;unfold ins;split
  ·simp
  ·split<;>simp<;>omega
theorem pE:∀l:List HT,(dv l).length<=l.length
 | []=>by simp [dv]
 |x::l=>by
  have h1:=DS x (dv l);have h2:=pE l;simp only [dv,List.foldr_cons,List.length_cons]at*;omega
theorem qE{x:HT}:∀ {l:List HT},x∉l->(ins x l).length=l.length+1
 | [],_=>by simp [ins]
 |y::l,h=>by
  simp only [List.mem_cons,not_or]at h;have:=qE h.2;unfold ins;split
  ·simp
  ·rw [if_neg h.1];simp;omega
theorem qa:∀ {l:List HT},l.Nodup->(dv l).length=l.length
 | [],_=>by simp [dv]
 |x::l,h=>by
  rw [List.nodup_cons]at h;have h2:=qa h.2;have:=qE (l:=dv l) (x:=x) (fun hm=>h.1 (dF.1 hm));simp only [dv,List.foldr_cons,List.length_cons]at*;omega
theorem tu{x:HT}:∀ {l:List HT},SS l->x∈l->(ins x l).length=l.length
 | [],_,h=>by simp at h
 |y::l,hs,h=>by
  have h':=SS.cons.1 hs;unfold ins;split
  ·rename_i oF
   rcases List.mem_cons.1 h with rfl|h
   ·rw [gV]at oF;cases oF
   ·have:=h'.1 _ h;rw [sO oF]at this;cases this
  ·split
   ·rfl
   ·rename_i h1 h2
    rcases List.mem_cons.1 h with rfl|h
    ·exact absurd rfl h2
    ·simp [tu h'.2 h]
theorem rj:∀ {l:List HT},(dv l).length=l.length->l.Nodup
 | [],_=>List.Pairwise.nil
 |x::l,h=>by
  have h2:=pE l;by_cases hm:x∈l
  ·have:=tu (iK l) (dF.2 hm)
   simp only [dv,List.foldr_cons,List.length_cons]at*;omega
  ·have h3:=qE (l:=dv l) (x:=x) (fun h=>hm (dF.1 h))
   simp only [dv,List.foldr_cons,List.length_cons]at*;exact List.nodup_cons.2 ⟨hm,rj (by simp only [dv];omega)⟩
theorem K5:dv []= []:=rfl
theorem tW(x:HT):dv [x]= [x]:=rfl
theorem Hz{l:List HT}(h:SS l):dv l=l:=(xH h fun _=>Iff.rfl).symm
theorem Kq{l:List HT}{x:HT}{k:Nat}(hs:SS l)(h1:∀y∈l.take k,cH y x=true)(h2:∀y∈l.drop k,cH x y=true):SS (l.take k++x::l.drop k):=by
 unfold SS at*;rw [<-List.take_append_drop k l,List.pairwise_append]at hs;rw [List.pairwise_append,List.pairwise_cons];refine⟨hs.1,⟨h2,hs.2.1⟩,fun y hy z hz=>?_⟩;rcases List.mem_cons.1 hz with rfl|hz
 ·exact h1 y hy
 ·exact hs.2.2 y hy z hz
theorem SS.get{l:List HT}(h:SS l){i j:Nat}(rI:i<j){x y:HT}(hx:l[i]? =some x)(hy:l[j]? =some y):cH x y=true:=by
 obtain⟨h1,rfl⟩:=lgeS hx;obtain⟨h2,rfl⟩:=lgeS hy;exact List.pairwise_iff_getElem.1 h i j h1 h2 rI
theorem Eo{l:List HT}{x:HT}(hs:SS l)(h:∀y∈l,cH y x=true):SS (l++ [x]):=by
 have:=Kq (k:=l.length) hs (x:=x) (by simpa using h) (by simp);simpa using this
def LE(l:List HT):Prop:=l.Pairwise fun a b=>cH b a=false
theorem lt_of_le_ne{a b:HT}(h:cH b a=false)(hn:a≠b):cH a b=true:=by
 cases lG:cH a b
 ·exact absurd (pL lG h) hn
 ·rfl
theorem tn{a b c:HT}(h:cH b a=false)(h':cH b c=true):cH a c=true:=by
 by_cases e:a=b
 ·subst e;exact h'
 ·exact jG (lt_of_le_ne h e) h'
theorem LE.get{l:List HT}(h:LE l){i j:Nat}(rI:i<j){x y:HT}(hx:l[i]? =some x)(hy:l[j]? =some y):cH y x=false:=by
 obtain⟨h1,rfl⟩:=lgeS hx;obtain⟨h2,rfl⟩:=lgeS hy;exact List.pairwise_iff_getElem.1 h i j h1 h2 rI
theorem bJ{l:List HT}{k:Nat}{x z:HT}(hx:l[k]? =some x):z∈l.take (k+1)↔z∈l.take k\/z=x:=by
 rw [List.take_add_one,hx];simp
open Go.RowKit
theorem dT(a:Addr)(k:Nat):(a.add k).block=a.block:=by unfold Addr.add;split<;>rfl
theorem aP{σ:Type}(e:σ->Env)(I:σ->World->Prop)(μ:σ->World->Nat)(s:σ)(w:World)(Q:aM)(l:Nat)(ρ:Env)(w':World):bH e I μ s w Q (.exit l) ρ w'=Q (.exit l) ρ w':=rfl
theorem iz{σ:Type}(e:σ->Env)(I:σ->World->Prop)(μ:σ->World->Nat)(s:σ)(w:World)(Q:aM)(ρ:Env)(w':World):bH e I μ s w Q .ret ρ w'=Q .ret ρ w':=rfl
theorem gZ{x:Int}(h0: -9223372036854775808<=x)(h1:x<9223372036854775808):i64.wrap x=x:=by
 simp only [IntKind.wrap,IntKind.bits,IntKind.signed];simp;omega
theorem Cells.az{S:Nat->Prop}{w w':World}{a:Addr}{cs:Array Value}(h:Cells w a cs)(hk:Kept S w w')(hn:¬S a.block):Cells w' a cs:=
 fun j v hj=>hk.cell (h j v hj) (by rw [dT];exact hn)
theorem Cells.bz{w:World}{b:Nat}{cs:Array Value}{t:TypeId}{fr:Nat×Nat}(h:w.heap[b]? =some (.cells cs t fr)):Cells w ⟨b,0,none⟩ cs:=
 fun j v hj=>by rw [a8,Nat.zero_add,ay h];exact hj
structure HS(w:World)(A:Option Addr)(n:Nat)(l:List HT):Prop where
 len:l.length=n
 at_:∀(i:Nat) (h:HT),l[i]? =some h->∃a,A=some a/\a.block<w.heap.size/\Cells w (a.add (i*32)) h.1
theorem HS.az{S:Nat->Prop}{w w':World}{A:Option Addr}{n:Nat}{l:List HT}(h:HS w A n l)(hk:Kept S w w')(hn:∀a,A=some a->¬S a.block):HS w' A n l:=⟨h.len,fun i x hi=>by
 obtain⟨a,h1,h2,h3⟩:=h.at_ i x hi;exact⟨a,h1,Nat.lt_of_lt_of_le h2 hk.size,Cells.az h3 hk (by rw [dT];exact hn a h1)⟩⟩
theorem HS.same{w w':World}{A:Option Addr}{n:Nat}{l:List HT}(h:HS w A n l)(hk:Kept Nil w w'):HS w' A n l:=h.az hk fun _ _ h=>h
section
variable{w:World}{K:Value->World->Prop}
theorem xM{A:Option Addr}{n c:Nat}{l:List HT}(h:HT)(hl:HS w A n l)(hn:n<=1000000)(hK:∀w',Kept Nil w w'->K (.bool (decide (h∈l))) w'):
 bj prog cG.id #[.slice A n c,.agg h.1] w K:=by
 refine cG.of ?_;unfold cG.W;intro w3;have k3:Kept Nil w w3:=(Kept.refl Nil w).alloc _;have pN:w3.heap[w.heap.size]? =some (.cells h.1 aj (0,0)):=aH w _;clear_value w3;have hlen:=hl.len;refine cG.b6 (I:=fun s w'=>∃i:Nat,s=(false,(i:Int))/\i<=n/\Kept Nil w3 w'/\h∉l.take i) (μ:=fun s _=>((n:Int)-s.2).toNat) (s:=(false,0)) ⟨0,rfl,Nat.zero_le _,Kept.refl _ _,by simp⟩ ?_;rintro s w' ⟨i,rfl,hi,kw,mZ⟩;refine Split.dec (fun cH=>?_) (fun gq=>?_)
 ·simp only at cH
  have dQ:i<n:=by omega
  obtain⟨x,hx⟩:∃x,l[i]? =some x:=⟨_,List.getElem?_eq_getElem (by omega)⟩;have kk:Kept Nil w w'.drew:=(k3.tt kw).drew;obtain⟨a,rfl,_,hc⟩:=(hl.same kk).at_ i x hx;intro w8;have k8:Kept Nil w3 w8:=kw.drew;refine⟨⟨by simp only;omega,by simp only;omega⟩,x.1,⟨x.2.1,hc⟩,h.1,⟨h.2.1,Cells.bz (k8.heap pN (fun h=>h))⟩,⟨x.2.ints,h.2.ints⟩,?_⟩;rw [dL];have Sx:Kept Nil w w8:=kk;refine Split.dec (fun he=>?_) (fun he=>?_)
  ·have:=hK w8 Sx
   rw [decide_eq_true (by rw [<-he];exact List.mem_of_getElem? hx)]at this;exact this
  ·simp only
   rw [gZ (x:=(i:Int)+1) (by omega) (by omega)];refine⟨(false,(i:Int)+1),rfl,⟨i+1,rfl,dQ,k8,?_⟩,by simp only;omega⟩;rw [List.take_add_one,hx];simp only [Option.toList_some,List.mem_append,List.mem_singleton,not_or];exact⟨mZ,fun e=>he e.symm⟩
 ·simp only at gq
  rw [aP,cG.cX];have:=hK w' (k3.tt kw);rw [List.take_of_length_le (by omega)]at mZ;rw [decide_eq_false mZ]at this;exact this
theorem Fc{A A':Option Addr}{n n' c c':Nat}{l l':List HT}(hl:HS w A n l)(ZD:HS w A' n' l')(hn:n<=1000000)(hK:∀w',Kept Nil w w'->K (.bool (decide (l=l'))) w'):
 bj prog bW.id #[.slice A n c,.slice A' n' c'] w K:=by
 have hlen:=hl.len;have D4:=ZD.len;refine bW.of ?_;by_cases fD:n=n'
 ·subst fD
  refine Split.no (by simp) ?_;refine bW.b6 (I:=fun s w'=>∃i:Nat,s=(false,(i:Int))/\i<=n/\Kept Nil w w'/\l.take i=l'.take i) (μ:=fun s _=>((n:Int)-s.2).toNat) (s:=(false,0)) ⟨0,rfl,Nat.zero_le _,Kept.refl _ _,by simp⟩ ?_;rintro s w' ⟨i,rfl,hi,kw,heq⟩;refine Split.dec (fun cH=>?_) (fun gq=>?_)
  ·simp only at cH
   have dQ:i<n:=by omega
   obtain⟨x,hx⟩:∃x,l[i]? =some x:=⟨_,List.getElem?_eq_getElem (by omega)⟩;obtain⟨y,hy⟩:∃y,l'[i]? =some y:=⟨_,List.getElem?_eq_getElem (by omega)⟩;have kk:Kept Nil w w'.drew:=kw.drew;obtain⟨a,rfl,_,hc⟩:=(hl.same kk).at_ i x hx;obtain⟨a',rfl,_,tN⟩:=(ZD.same kk).at_ i y hy;intro w7;have k7:Kept Nil w w7:=kk;have hb:0<=(i:Int)/\(i:Int)<(n:Int):=⟨by omega,by omega⟩;refine⟨hb,x.1,⟨x.2.1,hc⟩,hb,y.1,⟨y.2.1,tN⟩,⟨x.2.ints,y.2.ints⟩,?_⟩;rw [dL];by_cases he:x=y
   ·refine Split.no (by simp [he]) ?_
    simp only;rw [gZ (x:=(i:Int)+1) (by omega) (by omega)];refine⟨(false,(i:Int)+1),rfl,⟨i+1,rfl,dQ,k7,?_⟩,by simp only;omega⟩;rw [List.take_add_one,List.take_add_one,hx,hy,heq,he]
   ·refine Split.yes (by simp [he]) ?_
    have:=hK w7 k7;rw [decide_eq_false (fun e=>he (by rw [e,hy]at hx;exact(Option.some.inj hx).symm))]at this;exact this
  ·simp only at gq
   rw [aP,bW.cX];have:=hK w' kw;rw [List.take_of_length_le (by omega),List.take_of_length_le (by omega)]at heq;rw [decide_eq_true heq]at this;exact this
 ·refine Split.yes (by simp;omega) ?_
  have:=hK w (Kept.refl _ _);rw [decide_eq_false (fun e=>fD (by rw [<-hlen,<-D4,e]))]at this;exact this
end
def kV(a b:HT):Int:=if cH a b then-1 else if cH b a then 1 else 0
theorem uO:∀(i:Nat) (a b:List Int),a.take i=b.take i->tY a b=tY (a.drop i) (b.drop i)
 |0,a,b,_=>rfl
 |i+1,[],[],_=>rfl
 |i+1,[],y::b,h=>by simp at h
 |i+1,x::a,[],h=>by simp at h
 |i+1,x::a,y::b,h=>by
  simp only [List.take_succ_cons,List.cons.injEq]at h;obtain⟨rfl,h⟩:=h;simp only [tY,List.drop_succ_cons];rw [if_neg (by omega),if_neg (by omega)];exact uO i a b h
theorem xU{h:HT}{i:Nat}(hi:i<32):∃x:Int,h.1[i]? =some (.int .u8 x)/\(key h)[i]? =some x/\0<=x/\x<256:=by
 have hs:i<h.1.size:=by rw [h.2.1];exact hi
 obtain⟨x,hx,h1,h2⟩:=h.2.2 h.1[i] (by simp);refine⟨x,by rw [Array.getElem?_eq_getElem hs,hx],?_,h1,h2⟩;unfold key;rw [List.getElem?_map,Array.getElem?_toList,Array.getElem?_eq_getElem hs,hx];rfl
section
variable{w:World}{K:Value->World->Prop}
theorem ti(a b:HT)(hK:∀w',Kept Nil w w'->K (.int .i64 (kV a b)) w'):bj prog bE.id #[.agg a.1,.agg b.1] w K:=by
 refine bE.of ?_;unfold bE.W;intro w3 w4;have k3:Kept Nil w w3:=(Kept.refl Nil w).alloc _;have k4:Kept Nil w w4:=k3.alloc _;have yj:w4.heap[w.heap.size]? =some (.cells a.1 aj (0,0)):=ju (aH w _) _;have rX:w4.heap[w3.heap.size]? =some (.cells b.1 aj (0,0)):=aH w3 _;clear_value w4;refine bE.b6 (I:=fun s w'=>∃i:Nat,s=(0,(i:Int))/\i<=32/\Kept Nil w4 w'/\(key a).take i=(key b).take i) (μ:=fun s _=>(32-s.2).toNat) (s:=(0,0)) ⟨0,rfl,by omega,Kept.refl _ _,by simp⟩ ?_;rintro s w' ⟨i,rfl,hi,kw,heq⟩;refine Split.dec (fun jc=>?_) (fun gq=>?_)
 ·simp only at jc
  have dQ:i<32:=by omega
  obtain⟨x,hx,kx,_⟩:=xU (h:=a) dQ;obtain⟨y,hy,ky,_⟩:=xU (h:=b) dQ;have e1:cH a b=tY ((key a).drop i) ((key b).drop i):=uO i _ _ heq;have e2:cH b a=tY ((key b).drop i) ((key a).drop i):=uO i _ _ heq.symm;have da:(key a).drop i=x::(key a).drop (i+1):=by
   obtain⟨h1,h2⟩:=lgeS kx;rw [List.drop_eq_getElem_cons h1,h2]
  have db:(key b).drop i=y::(key b).drop (i+1):=by
   obtain⟨h1,h2⟩:=lgeS ky;rw [List.drop_eq_getElem_cons h1,h2]
  rw [da,db]at e1 e2;simp only [tY]at e1 e2;intro w9;have k9:Kept Nil w4 w9:=kw.drew;clear_value w9;have hb:0<=(i:Int)/\(i:Int)<32:=⟨by omega,by omega⟩;have ca:∀ {w':World},Kept Nil w4 w'->w'.cell? ((⟨w.heap.size,0,none⟩:Addr).add ((i:Int).toNat*1))=some (.int .u8 x):=fun k=>by
   rw [a8,Nat.zero_add,Nat.mul_one,Int.toNat_natCast,ay (k.heap yj (fun h=>h))];exact hx
  have cb:∀ {w':World},Kept Nil w4 w'->w'.cell? ((⟨w3.heap.size,0,none⟩:Addr).add ((i:Int).toNat*1))=some (.int .u8 y):=fun k=>by
   rw [a8,Nat.zero_add,Nat.mul_one,Int.toNat_natCast,ay (k.heap rX (fun h=>h))];exact hy
  refine⟨hb,x,ca k9,hb,y,cb k9,Split.dec (fun oF=>?_) (fun oF=>?_)⟩
  ·have:=hK w9 (k4.tt k9)
   rw [show kV a b= -1 by unfold kV;rw [e1,if_pos oF];rfl]at this;exact this
  ·intro mq
   have wW:Kept Nil w4 mq:=k9.drew;clear_value mq;refine⟨hb,x,ca wW,hb,y,cb wW,Split.dec (fun DT=>?_) (fun DT=>?_)⟩
   ·have:=hK mq (k4.tt wW)
    rw [show kV a b=1 by unfold kV;rw [e1,e2,if_neg oF,if_pos (show y<x from DT),if_pos (show y<x from DT)];rfl]at this;exact this
   ·simp only
    rw [gZ (x:=(i:Int)+1) (by omega) (by omega)];refine⟨(0,(i:Int)+1),rfl,⟨i+1,rfl,dQ,wW,?_⟩,by simp only;omega⟩;have:x=y:=by omega
    rw [List.take_add_one,List.take_add_one,kx,ky,heq,this]
 ·simp only at gq
  rw [aP,bE.cX];have:=hK w' (k4.tt kw);have lG:a=b:=by
   apply key_inj;rw [List.take_of_length_le (by rw [mr];omega),List.take_of_length_le (by rw [mr];omega)]at heq;exact heq
  rw [show kV a b=0 by unfold kV;rw [lG,gV];rfl]at this;exact this
end
theorem Ej{x y:Int}(hx:0<=x/\x<256)(hy:0<=y/\y<256):(x.toNat.toUInt8<y.toNat.toUInt8)↔x<y:=by
 rw [UInt8.lt_iff_toNat_lt];simp only [Nat.toUInt8,UInt8.toNat_ofNat'];omega
theorem np:∀ {a b:List Int},a.length=b.length->(∀x∈a,0<=x/\x<256)->(∀x∈b,0<=x/\x<256)->
 Lib.compareBytes (Lib.bytesOf a) (Lib.bytesOf b)=if tY a b then-1 else if tY b a then 1 else 0
 | [],[],_,_,_=>rfl
 | [],_::_,h,_,_=>by simp at h
 |_::_,[],h,_,_=>by simp at h
 |x::a,y::b,h,ha,hb=>by
  have hx:=ha x (by simp);have hy:=hb y (by simp);have ih:=np (a:=a) (b:=b) (by simpa using h) (fun z hz=>ha z (by simp [hz])) (fun z hz=>hb z (by simp [hz]));simp only [Lib.bytesOf,List.map_cons,Lib.compareBytes,Ej hx hy,Ej hy hx,tY];by_cases h1:x<y
  ·simp [h1]
  ·by_cases h2:y<x
   ·simp [h1,h2]
   ·simp only [h1,h2,if_false]
    exact ih
theorem wP(h:HT):∀x∈key h,0<=x/\x<256:=by
 intro x hx;simp only [key,List.mem_map]at hx;obtain⟨v,hv,rfl⟩:=hx;obtain⟨i,rfl,h1,h2⟩:=h.2.2 v hv;exact⟨h1,h2⟩
theorem rN(a b:HT):Lib.compareBytes (Lib.bytesOf (key a)) (Lib.bytesOf (key b))=kV a b:=
 np (by rw [mr,mr]) (wP a) (wP b)
section
variable{w:World}{K:Value->World->Prop}
theorem sQ(a b:HT){p q:Addr}{c c':Nat}(ha:Cells w p a.1)(hb:Cells w q b.1)(hK:K (.int .i64 (kV a b)) w):
 bj prog gY.id #[.slice (some p) 32 c,.slice (some q) 32 c'] w K:=by
 refine gY.of ⟨.int .i64 (kV a b),w,?_,_,rfl,hK⟩;have Af:∀(h:HT) (r:Addr),Cells w r h.1->∀j x,(key h)[j]? =some x->w.cell? (r.add j)=some (.int .u8 x):=by
  intro h r hr j x hx;have hj:j<32:=by have:=(lgeS hx).1;rw [mr]at this;exact this
  obtain⟨y,hy,ky,_⟩:=xU (h:=h) hj;rw [hx]at ky;cases ky;exact hr j _ hy
 have l1:=Lib.run_loadBytesX (P:=prog) w (key a) p .empty (Af a p ha);have l2:=Lib.run_loadBytesX (P:=prog) w (key b) q .empty (Af b q hb);rw [mr]at l1 l2;rw [run_callFunc_extern tQ.at_ (by kernel_rfl) (by kernel_rfl) (by kernel_rfl) (e:=Extern.BytealgCompare.compare) (by kernel_rfl)];have hr:(Extern.BytealgCompare.compare #[.slice (some p) 32 c,.slice (some q) 32 c']).run prog w=.ok (.int .i64 (kV a b)) w:=by
  change Sem.run prog (do pure (goInt (Extern.BytealgCompare.cmp (<-Extern.Bytes.bytesOf (.slice (some p) 32 c)) (<-Extern.Bytes.bytesOf (.slice (some q) 32 c'))))) w=_
  simp only [Extern.Bytes.bytesOf,Sem.run_bind,l1,l2,Result.andThen_ok,Sem.run_pure,Lib.cmp_eq,goInt];rw [<-rN];simp
 rw [hr];rfl
theorem po(a b:HT)(hK:K (.int .i64 (kV a b)) ((w.alloc (.cells a.1 aj)).alloc (.cells b.1 aj)).drew):bj prog dB.id #[.agg a.1,.agg b.1] w K:=by
 refine dB.of ?_;unfold dB.W;intro w3 w4 w5;have ha:w5.heap[w.heap.size]? =some (.cells a.1 aj (0,0)):=ju (aH w _) _;have hb:w5.heap[w3.heap.size]? =some (.cells b.1 aj (0,0)):=aH w3 _;simp only [if_neg (show ¬(32:Nat)=0 by omega),Nat.zero_mul,add_zero,Nat.sub_zero];exact sQ a b (Cells.bz ha) (Cells.bz hb) ⟨_,rfl,hK⟩
end
theorem jU(a:Addr)(m n:Nat):(a.add m).add n=a.add (m+n):=by
 unfold Addr.add;by_cases hm:m=0<;>by_cases hn:n=0<;>simp [hm,hn,Nat.add_assoc]
def df(l:List HT):List Value:=l.flatMap fun h=>h.1.toList
theorem kQ(h:HT)(l:List HT):df (h::l)=h.1.toList++df l:=by simp [df]
theorem lX(l m:List HT):df (l++m)=df l++df m:=by simp [df]
theorem eN:∀l:List HT,(df l).length=l.length*32
 | []=>rfl
 |h::l=>by
  have:=h.2.1;rw [kQ,List.length_append,eN l,Array.length_toList,this,List.length_cons];omega
theorem Cx(l:List HT):∀u∈df l,u.oneCell'=true:=by
 intro u hu;simp only [df,List.mem_flatMap]at hu;obtain⟨h,_,hu⟩:=hu;exact h.2.one u hu
theorem kj:∀ {l:List HT} {i:Nat} {h:HT},l[i]? =some h->∀ {j:Nat} {v:Value},h.1[j]? =some v->(df l)[i*32+j]? =some v
 | [],_,_,hi,_,_,_=>by simp at hi
 |x::l,0,h,hi,j,v,hj=>by
  simp only [List.getElem?_cons_zero,Option.some.injEq]at hi;subst hi;have cH:j<x.1.toList.length:=by simpa using (Array.getElem?_eq_some_iff.1 hj).1
  rw [kQ,Nat.zero_mul,Nat.zero_add,List.getElem?_append_left cH,Array.getElem?_toList,hj]
 |x::l,i+1,h,hi,j,v,hj=>by
  simp only [List.getElem?_cons_succ]at hi;have:=x.2.1;rw [kQ,List.getElem?_append_right (by simp;omega),Array.length_toList,this,show(i+1)*32+j-32=i*32+j by omega];exact kj hi hj
theorem Gc{l:List HT}{j:Nat}{v:Value}(h:(df l)[j]? =some v):∃x,l[j/32]? =some x/\x.1[j%32]? =some v:=by
 have hj:=(lgeS h).1;rw [eN]at hj;have hi:j/32<l.length:=by omega
 refine⟨l[j/32],List.getElem?_eq_getElem hi,?_⟩;have hs:=l[j/32].2.1;have hm:j%32<l[j/32].1.size:=by rw [hs];omega
 obtain⟨u,hu⟩:∃u,l[j/32].1[j%32]? =some u:=⟨_,Array.getElem?_eq_getElem hm⟩;have:=kj (List.getElem?_eq_getElem hi) hu;rw [show j/32*32+j%32=j by omega,h]at this;rw [hu,this]
theorem oO:yA prog aA aj 32 32:=⟨by kernel_rfl,by kernel_rfl⟩
abbrev bL(w:World)(B:Nat)(A:Option Addr)(n c:Nat)(l:List HT):Prop:=Row w B aj 32 A n c (df l)
section
variable{w w':World}{B:Nat}{A:Option Addr}{n c:Nat}{l:List HT}
theorem bL.len(h:bL w B A n c l):l.length=n:=by
 have:=Row.len h;rw [eN]at this;omega
theorem bL.hs(h:bL w B A n c l):HS w A n l:=⟨h.len,fun i x hi=>by
 have hlen:=h.len;have dQ:=(lgeS hi).1;obtain⟨b,rfl⟩:=Row.some h (by omega);obtain⟨_,cur,lr⟩:=Row.bz h (k:=b) rfl;refine⟨_,rfl,aO lr,fun j v hj=>?_⟩;rw [jU];exact Row.cells h _ _ (kj hi hj)⟩
theorem bL.nil(w:World)(B:Nat):bL w B none 0 0 []:=Row.nil _ _ _ _
theorem HS.cells{a:Addr}(h:HS w (some a) n l):∀j u,(df l)[j]? =some u->w.cell? (a.add j)=some u:=by
 intro j u hj;obtain⟨x,hx,hu⟩:=Gc hj;obtain⟨a',ha,_,hc⟩:=h.at_ _ x hx;cases ha;have:=hc _ _ hu
 rwa [jU,show j/32*32+j%32=j by omega]at this
theorem HS.nil(w:World)(A:Option Addr):HS w A 0 []:=⟨rfl,fun i x hi=>by simp at hi⟩
theorem HS.none(h:HS w none n l):n=0/\l= []:=by
 cases l with
 |nil=>exact⟨h.len.symm,rfl⟩
 |cons x l=>obtain⟨a,ha,_⟩:=h.at_ 0 x rfl;cases ha
theorem HS.take(h:HS w A n l){k:Nat}(hk:k<=n):HS w A k (l.take k):=⟨by have:=h.len;simp;omega,fun i x hi=>by
 rw [List.getElem?_take]at hi;split at hi
 ·exact h.at_ i x hi
 ·cases hi⟩
theorem HS.drop(h:HS w A n l){k:Nat}(hc:n<=c)(hk:k<=n):HS w (if c=k then A else A.map (·.add (k*32))) (n-k) (l.drop k):=⟨by have:=h.len;simp;omega,fun i x hi=>by
 rw [List.getElem?_drop]at hi;have hlen:=h.len;have:=(lgeS hi).1;obtain⟨a,rfl,hb,qH⟩:=h.at_ _ x hi;rw [if_neg (by omega)];refine⟨_,rfl,by rw [dT];exact hb,?_⟩;rw [jU,<-Nat.add_mul];exact qH⟩
theorem HS.one{w:World}{b:Nat}{h:HT}{t:TypeId}{fr:Nat×Nat}(hb:w.heap[b]? =some (.cells h.1 t fr)):HS w (some ⟨b,0,Option.none⟩) 1 [h]:=⟨rfl,fun i x hi=>by
 cases i with
 |zero=>
  simp only [List.getElem?_cons_zero,Option.some.injEq]at hi;subst hi;exact⟨_,rfl,aO hb,by rw [Nat.zero_mul,add_zero];exact Cells.bz hb⟩
 |succ i=>simp at hi⟩
theorem cO(ty:Nat)(h:bL w B A n c l){A2:Option Addr}{m cx:Nat}{l2:List HT}(h2:HS w A2 m l2)(hm:n+m<=1000000)(hB:B<=w.heap.size):
 ∃A' c' w',(Builtin.append_ #[aA,aA] ty #[.slice A n c,.slice A2 m cx]).run prog w=.ok (.slice A' (n+m) c') w'/\
  bL w' B A' (n+m) c' (l++l2)/\w.grownBy w' (aW A)/\(∀k,aW A'=some k->aW A=some k\/w.heap.size<=k):=by
 cases A2 with
 |some a=>
  have tM:=h2.len;obtain⟨A',c',w',hr,eI,hg,hb⟩:=dS (P:=prog) (t:=aA) (bytes:=32) (ty:=ty) oO h (a:=a) (m:=m) (cx:=cx) (news:=df l2) (by rw [eN,tM]) h2.cells (Cx l2) (by omega) (by unfold maxLen;omega) hB;refine⟨A',c',w',hr,?_,hg,hb⟩;rw [<-lX]at eI;exact eI
 |none=>
  obtain⟨rfl,rfl⟩:=h2.none;refine⟨A,c,w,?_,by simpa using h,⟨rfl,rfl,rfl,Nat.le_refl _,fun _ _ _=>rfl⟩,fun k hk=>.inl hk⟩;obtain⟨i,z,hi,hz,hs,Jt,B9⟩:=oO.inf;have hn:n<=c:=by rcases Row.own h with⟨_,h1,h2,_⟩|⟨_,_,_,_,_,h1,_⟩<;>omega
  simp [Builtin.append_,run_underlying oO.oD,sizeOf,typeInfo,hi,Builtin.lenOf,Builtin.firstCells,hn];cases A<;>simp [storeCells]
end
theorem HS.load{w:World}{A:Option Addr}{n:Nat}{l:List HT}(hl:HS w A n l){i:Int}{x:HT}(h0:0<=i)(hx:l[i.toNat]? =some x){k:Array Value->Prop}(hk:k x.1):
 (0<=i/\i<(n:Int))/\Is A fun a=>∃t:Array Value,(t.size=32/\Cells w (a.add (i.toNat*32)) t)/\k t:=by
 obtain⟨a,rfl,_,hc⟩:=hl.at_ _ x hx;have:=(lgeS hx).1;have:=hl.len;exact⟨⟨h0,by omega⟩,x.1,⟨x.2.1,hc⟩,hk⟩
theorem rO{a b:HT}:(kV a b<0)↔cH a b=true:=by
 unfold kV;by_cases h:cH a b=true
 ·simp [h]
 ·by_cases h':cH b a=true<;>simp [h,h']
theorem dw{n:Int}(h0:0<=n)(h1:n<=2000000):i64.wrap (n+1)=n+1:=gZ (by omega) (by omega)
theorem wrapM{n:Int}(h0:0<=n)(h1:n<=2000000):i64.wrap (n-1)=n-1:=gZ (by omega) (by omega)
theorem Kept.eA{w w' lK:World}{A:Option Addr}(h:Kept Nil w w')(hg:w'.grownBy lK (aW A))(hr:∀k,aW A=some k->w.heap.size<=k):Kept Nil w lK:=
 Kept.grown h hg fun k hk cH=>absurd (hr k hk) (by omega)
section
variable{w:World}{K:Value->World->Prop}
theorem qu{A:Option Addr}{n c:Nat}{l:List HT}(hl:HS w A n l)(hn:n<=400000)
 (hK:∀A' c' w',bL w' w.heap.size A' (dv l).length c' (dv l)->Kept Nil w w'->K (.slice A' (dv l).length c') w'):
 bj prog aK.id #[.slice A n c] w K:=by
 refine aK.of ?_;have hlen:=hl.len;refine aK.b6 (I:=fun s w'=>∃(i:Nat) (out:List HT) (B:Option Addr) (m:Nat),s=(B,out.length,m,(i:Int))/\i<=n/\bL w' w.heap.size B out.length m out/\SS out/\(∀x,x∈out↔x∈l.take i)/\out.length<=i/\Kept Nil w w')
  (μ:=fun s _=>((n:Int)-s.2.2.2).toNat) (s:=(none,0,0,0)) ⟨0,[],none,0,rfl,Nat.zero_le _,bL.nil _ _,List.Pairwise.nil,by simp,by simp,Kept.refl _ _⟩ ?_
 rintro s w' ⟨i,out,B,m,rfl,hi,row,ua,ig,hol,kw⟩;refine Split.dec (fun jc=>?_) (fun gq=>?_)
 ·simp only at jc
  have dQ:i<n:=by omega
  obtain⟨x,hx⟩:∃x,l[i]? =some x:=⟨_,List.getElem?_eq_getElem (by omega)⟩;refine(hl.same kw).load (i:=(i:Int)) (by omega) hx (xM x row.hs (by simp only;omega) fun w9 k9=>⟨_,rfl,?_⟩);simp only;have Sw:Kept Nil w w9:=kw.tt k9;have TW:bL w9 w.heap.size B out.length m out:=Row.az row k9 (fun _ _ h=>h);have x9:l.take (i+1)=l.take i++ [x]:=by rw [List.take_add_one,hx];rfl
  refine Split.dec (fun fN=>?_) (fun mZ=>?_)
  ·rw [dw (n:=(i:Int)) (by omega) (by omega)]
   refine⟨(B,out.length,m,(i:Int)+1),rfl,⟨i+1,out,B,m,rfl,dQ,TW,ua,fun y=>?_,by omega,Sw⟩,by simp only;omega⟩;rw [x9,List.mem_append,List.mem_singleton,<-ig y];constructor
   ·exact .inl
   ·rintro(h|rfl)
    ·exact h
    ·exact fN
  ·refine aK.gI (I:=fun s w'=>∃k:Nat,s=(k:Int)/\k<=out.length/\(∀y∈out.drop k,cH x y=true)/\Kept Nil w9 w') (μ:=fun s _=>s.toNat) (s:=(out.length:Int)) ⟨out.length,rfl,Nat.le_refl _,by simp,Kept.refl _ _⟩ ?_
   rintro s w1 ⟨k,rfl,hk,u9,k1⟩;have OB:HS w1 A n l:=(hl.same Sw).same k1;have xJ:bL w1 w.heap.size B out.length m out:=Row.az TW k1 (fun _ _ h=>h);have kx:Kept Nil w w1:=Sw.tt k1;have u7:∀w1,HS w1 A n l->bL w1 w.heap.size B out.length m out->Kept Nil w w1->(∀y∈out.take k,cH y x=true)->
    aK.iE A n c none 0 0 B out.length m (i:Int) (k:Int) (bH (aK.e1 A n c none 0 0) (fun s w'=>∃(i:Nat) (out:List HT) (B:Option Addr) (m:Nat),s=(B,out.length,m,(i:Int))/\i<=n/\bL w' w.heap.size B out.length m out/\SS out/\(∀x,x∈out↔x∈l.take i)/\out.length<=i/\Kept Nil w w') (fun s _=>((n:Int)-s.2.2.2).toNat) (B,out.length,m,(i:Int)) w' (aK.q1 K)) w1:=by
    intro w1 OB xJ kx IV;have Js:out.length<=m:=by rcases Row.own xJ with⟨_,h1,h2,_⟩|⟨_,_,_,_,_,h1,_⟩<;>omega
    have la:=kx.size;unfold aK.iE;refine⟨⟨by omega,by omega⟩,?_⟩;have yc:HS w1 (if m=0 then B else B.map (·.add (0*32))) ((k:Int).toNat -0) (out.take k):=by
     have h:=xJ.hs.take hk;rw [Nat.sub_zero,Int.toNat_natCast];have e:(if m=0 then B else B.map (·.add (0*32)))=B:=by
      split
      ·rfl
      ·cases B<;>simp [add_zero]
     rw [e];exact h
    obtain⟨A1,c1,w2,lf,fW,Mw,mu⟩:=cO (cx:=m-0) aA (bL.nil w1 w.heap.size) yc (by simp;omega) la;have k2:Kept Nil w1 w2:=Kept.eA (Kept.refl _ _) Mw (fun k hk=>by cases hk);rw [Nat.zero_add,Nat.sub_zero,Int.toNat_natCast]at lf fW;rw [List.nil_append]at fW;refine⟨A1,_,c1,w2,by rw [Nat.sub_zero,Int.toNat_natCast];exact lf,?_⟩;have tM:=OB.same k2;refine tM.load (i:=(i:Int)) (by omega) hx ⟨x.2.1,?_⟩;intro w3;have k3:Kept Nil w2 w3:=(Kept.refl _ _).alloc _;have jA:HS w3 (some ⟨w2.heap.size,0,none⟩) 1 [x]:=by
     refine HS.one (t:=aj) (fr:=(0,0)) ?_;have e3:w3=w2.alloc (.cells x.1 aj):=by
      show w2.alloc (.cells (x.1.toList++ []).toArray aj)=_
      simp
     rw [e3];exact aH w2 _
    clear_value w3;have mD:bL w3 w.heap.size A1 k c1 (out.take k):=Row.az fW k3 (fun _ _ h=>h);have ab3:w.heap.size<=w3.heap.size:=Nat.le_trans (Nat.le_trans la k2.size) k3.size;obtain⟨A4,c4,w4,vG,jR,D9,rX⟩:=cO (cx:=1) aA mD jA (by omega) ab3;have k4:Kept Nil w1 w4:=Kept.eA (k2.tt k3) D9 (fun k hk=>by rcases mu k hk with h|h;cases h;exact h);refine⟨A4,_,c4,w4,vG,⟨by omega,by omega⟩,?_⟩;have SY:HS w4 (if m=(k:Int).toNat then B else B.map (·.add ((k:Int).toNat*32))) (out.length-(k:Int).toNat) (out.drop k):=by
     rw [Int.toNat_natCast];exact(xJ.hs.same k4).drop Js hk
    have hdl:(out.length-(k:Int).toNat)=out.length-k:=by rw [Int.toNat_natCast]
    obtain⟨A5,c5,w5,tJ,lj,WU,nY⟩:=cO (cx:=m-(k:Int).toNat) aA jR SY (by omega) (Nat.le_trans la k4.size);have k5:Kept Nil w1 w5:=Kept.eA k4 WU (fun b hb=>by
     rcases rX b hb with h|h
     ·rcases mu b h with h|h
      ·cases h
      ·exact h
     ·exact Nat.le_trans (Nat.le_trans k2.size k3.size) h)
    refine⟨A5,_,c5,w5,tJ,?_⟩;rw [dw (n:=(i:Int)) (by omega) (by omega)];have mI:out.take k++ [x]++out.drop k=out.take k++x::out.drop k:=by simp
    have wZ:(out.take k++x::out.drop k).length=out.length+1:=by simp;omega
    rw [mI]at lj;have e5:k+1+(out.length-(k:Int).toNat)=(out.take k++x::out.drop k).length:=by rw [wZ];omega
    rw [e5]at lj⊢;refine⟨(A5,(out.take k++x::out.drop k).length,c5,(i:Int)+1),rfl,⟨i+1,_,A5,c5,rfl,dQ,lj,Kq ua IV u9,fun y=>?_,by omega,kx.tt k5⟩,by simp only;omega⟩;rw [show y∈l.take (i+1)↔y∈out\/y=x by rw [x9,List.mem_append,List.mem_singleton,ig y],List.mem_append,List.mem_cons];constructor
    ·rintro(h|rfl|h)
     ·exact .inl (List.mem_of_mem_take h)
     ·exact .inr rfl
     ·exact .inl (List.mem_of_mem_drop h)
    ·rintro(h|rfl)
     ·rw [<-List.take_append_drop k out,List.mem_append]at h
      rcases h with h|h
      ·exact .inl h
      ·exact .inr (.inr h)
     ·exact .inr (.inl rfl)
   unfold aK.B2;intro w2;have k2:Kept Nil w1 w2:=(Kept.refl _ _).drew;clear_value w2;have tM:=OB.same k2;have fW:bL w2 w.heap.size B out.length m out:=Row.az xJ k2 (fun _ _ h=>h);have kx2:=kx.tt k2;refine Split.dec (fun iq=>?_) (fun z7=>?_)
   ·have nW:0<k:=by omega
    obtain⟨y,hy⟩:∃y,out[k-1]? =some y:=⟨_,List.getElem?_eq_getElem (by omega)⟩;rw [wrapM (n:=(k:Int)) (by omega) (by omega)];refine tM.load (i:=(i:Int)) (by omega) hx (fW.hs.load (by omega) (by rw [show((k:Int)-1).toNat=k-1 by omega];exact hy) (ti x y fun w3 k3=>⟨_,rfl,?_⟩));refine Split.dec (fun hc=>?_) (fun hc=>?_)
    ·refine⟨(k:Int)-1,rfl,⟨k-1,by omega,by omega,fun z hz=>?_,(k1.tt k2).tt k3⟩,by simp only;omega⟩
     have hd:out.drop (k-1)=y::out.drop k:=by
      obtain⟨h1,h2⟩:=lgeS hy;rw [List.drop_eq_getElem_cons h1,h2,show k-1+1=k by omega]
     rw [hd]at hz;rcases List.mem_cons.1 hz with rfl|hz
     ·exact rO.1 hc
     ·exact u9 z hz
    ·rw [aP,aK.jJ]
     refine u7 w3 (tM.same k3) (Row.az fW k3 (fun _ _ h=>h)) (kx2.tt k3) fun z hz=>?_;have DT:cH y x=true:=by
      have h1:cH x y=false:=by
       cases h:cH x y
       ·rfl
       ·exact absurd (rO.2 h) hc
      refine lt_of_le_ne h1 fun e=>mZ ?_;rw [<-e];exact List.mem_of_getElem? hy
     obtain⟨j,hj⟩:=List.mem_iff_getElem?.1 hz;rw [List.getElem?_take]at hj;split at hj
     ·rename_i ZE
      by_cases e:j=k-1
      ·subst e;rw [hy]at hj;cases hj;exact DT
      ·exact jG (ua.get (by omega) hj hy) DT
     ·cases hj
   ·rw [aP,aK.jJ]
    have nW:k=0:=by omega
    refine u7 w2 tM fW kx2 fun z hz=>?_;rw [nW]at hz;simp at hz
 ·simp only at gq
  have:i=n:=by omega
  subst this;rw [aP,aK.cX];have e:out=dv l:=xH ua fun x=>by rw [ig,List.take_of_length_le (by omega)]
  rw [e]at row;have:=hK B m w' row kw;rw [<-e]at this;exact this
end
theorem kH{w:World}{k l:Nat}{cs:Array Value}{t:TypeId}{fr:Nat×Nat}{R:Loop}(h:w.heap[k]? =some (.cells cs t fr))(h':w.heap[l]? =some (.loop R)):k≠l:=by
 rintro rfl;rw [h]at h';cases h'
theorem xS{w:World}{k l:Nat}{cs:Array Value}{t:TypeId}{fr:Nat×Nat}{d:Option (List Deferred)}(h:w.heap[k]? =some (.cells cs t fr))(h':w.heap[l]? =some (.deferred d)):k≠l:=by
 rintro rfl;rw [h]at h';cases h'
theorem Row.apart{w w':World}{B:Nat}{e:TypeId}{size:Nat}{A:Option Addr}{n c:Nat}{xs:List Value}(h:Row w B e size A n c xs){l:Nat}(hk:Kept (· =l) w w')
 (hl:∀cs t fr,w.heap[l]? ≠some (.cells cs t fr)):Row w' B e size A n c xs:=Row.az h hk fun k hb e=>by
 subst e;obtain⟨_,cur,hc⟩:=Row.bz h hb;exact hl _ _ _ hc
abbrev rM(h:HT):List Value:= [.agg h.1]
section
variable{w:World}{K:Value->World->Prop}
theorem yW(p:Addr){A:Option Addr}{n c:Nat}{l:List HT}(hn:n<=1000000):
 nD prog aD.id #[] #[.pointer (some p)] (l.map rM) (fun w=>HS w A n l/\w.cell? p=some (.slice A n c)):=by
 intro y I D w0 hI hD rG h0 qF;refine aD.of ?_;obtain⟨D5,S7⟩:=rG 0 w0 h0;have hlen:=D5.len;refine⟨A,n,c,S7,?_⟩;refine aD.b6 (I:=fun s w'=>∃i:Nat,s=(i:Int)/\i<=n/\I i w') (μ:=fun s _=>((n:Int)-s).toNat) (s:=0) ⟨0,rfl,Nat.zero_le _,h0⟩ ?_;rintro s w' ⟨i,rfl,hi,hw⟩;refine Split.dec (fun jc=>?_) (fun gq=>?_)
 ·have dQ:i<n:=by omega
  obtain⟨x,hx⟩:∃x,l[i]? =some x:=⟨_,List.getElem?_eq_getElem (by omega)⟩;have hl:=(rG i w' hw).1;refine hl.load (i:=(i:Int)) (by omega) hx ?_;intro w10;obtain⟨sM,hb,hk⟩:=gP (w:=w') (z:=(#[.int .u8 0,.int .u8 0,.int .u8 0,.int .u8 0,.int .u8 0,.int .u8 0,.int .u8 0,.int .u8 0,.int .u8 0,.int .u8 0,.int .u8 0,.int .u8 0,.int .u8 0,.int .u8 0,.int .u8 0,.int .u8 0,.int .u8 0,.int .u8 0,.int .u8 0,.int .u8 0,.int .u8 0,.int .u8 0,.int .u8 0,.int .u8 0,.int .u8 0,.int .u8 0,.int .u8 0,.int .u8 0,.int .u8 0,.int .u8 0,.int .u8 0,.int .u8 0]:Array Value)) (cs:=x.1) (t:=aj) (by rw [x.2.1];rfl);refine⟨⟨x.2.1,x.2.one,fun j hj=>sM j (by rw [x.2.1];exact hj)⟩,?_⟩;intro lh
  replace hb:lh.heap[w'.heap.size]? =some (.cells x.1 aj (0,0)):=hb
  replace hk:Kept Nil w' lh:=hk
  clear_value lh;refine⟨x.1,⟨x.2.1,Cells.bz hb⟩,?_⟩;refine(qF i (rM x) lh (by rw [List.getElem?_map,hx];rfl) (hI i w' lh hw hk)).mono ?_;rintro b lK ⟨ht,hf⟩;cases b with
  |true=>
   refine Split.no rfl ?_;rw [dw (n:=(i:Int)) (by omega) (by omega)];exact⟨(i:Int)+1,rfl,⟨i+1,rfl,dQ,ht rfl⟩,by simp only;omega⟩
  |false=>
   refine Split.yes rfl ?_;exact Or.inr (hf rfl)
 ·rw [aP,aD.cX]
  have e:i=n:=by omega
  subst e;refine Or.inl ?_;rw [List.length_map,hlen];exact hw
theorem wk{gf:FuncId}{gN:Array Value}{xs:List HT}{fn:Func}(KH:prog.funcs[gf]? =some fn)(hb:fn.body.isSome){KP:World->Prop}
 (hit:nD prog gf #[] gN (xs.map rM) KP) (hp:∀w',Kept Nil w w'->KP w') (LY:xs.length<=1000000)
 (hK:∀A c w',bL w' w.heap.size A xs.length c xs->Kept Nil w w'->K (.slice A xs.length c) w'):
 bj prog aJ.id #[.slice none 0 0,.func (.func gf) #[] gN] w K:=by
 refine aJ.of ?_;unfold aJ.W;intro w3;have k3:Kept Nil w w3:=(Kept.refl Nil w).alloc _;have pN:w3.heap[w.heap.size]? =some (.cells #[.slice none 0 0] aA (0,0)):=aH w _;have Cg:w.heap.size<w3.heap.size:=aO pN;clear_value w3
 let ρ0:Env:= [(2,.pointer (some (⟨w.heap.size,0,none⟩:Addr))),(4,.slice none 0 0),(6,.func (.func gf) #[] gN)]
 let J:Nat->World->Prop:=fun i w'=>∃A c,w'.heap[w.heap.size]? =some (.cells #[.slice A i c] aA (0,0))/\bL w' w.heap.size A i c (xs.take i)/\Kept Nil w w'/\i<=xs.length/\∀k,aW A=some k->k≠w.heap.size
 refine nR (ρ:=ρ0) (ρ0:=ρ0) ng mix aJ.k (t:=6) (ps:= #[7]) (by kernel_rfl) (by decide) rfl KH hb (.inl rfl) (fun i v _ h=>h) rfl rM xs (fun _=>rfl) (by simp [gM]) hit J (fun _ _=>False) ?_ (fun _ _ _ _ _ h=>h.elim) (fun i w' h=>hp w' (let ⟨_,_,_,_,h,_⟩:=h;h)) ?_ ?_ ?_ (fun _ _ h=>h.elim) (fun _ _ _ h=>h.elim)
 ·rintro i w' lK R hl ⟨A,c,h1,h2,h3,h4,h5⟩ hk
  exact⟨A,c,hk.heap h1 (kH h1 hl.loop),Row.apart h2 hk (fun cs t fr h=>by rw [hl.loop]at h;cases h),h3.trans hk (fun k hk e=>by omega),h4,h5⟩
 ·intro R
  exact⟨none,0,ju (ju pN _) _,bL.nil _ _,(k3.alloc _).alloc _,Nat.zero_le _,fun k hk=>by cases hk⟩
 ·rintro i x w' R hx ⟨A,c,h1,h2,h3,h4,h5⟩ hl
  have dQ:i<xs.length:=(lgeS hx).1;have e7:ln ρ0 ((#[7]:Array Nat).toList.zip (rM x))= [(2,.pointer (some (⟨w.heap.size,0,none⟩:Addr))),(4,.slice none 0 0),(6,.func (.func gf) #[] gN),(7,.agg x.1)]:=rfl;rw [e7,aJ.a1];unfold aJ.A1;intro w8;obtain⟨sM,jg,jk⟩:=gP (w:=w') (z:=(#[.int .u8 0,.int .u8 0,.int .u8 0,.int .u8 0,.int .u8 0,.int .u8 0,.int .u8 0,.int .u8 0,.int .u8 0,.int .u8 0,.int .u8 0,.int .u8 0,.int .u8 0,.int .u8 0,.int .u8 0,.int .u8 0,.int .u8 0,.int .u8 0,.int .u8 0,.int .u8 0,.int .u8 0,.int .u8 0,.int .u8 0,.int .u8 0,.int .u8 0,.int .u8 0,.int .u8 0,.int .u8 0,.int .u8 0,.int .u8 0,.int .u8 0,.int .u8 0]:Array Value)) (cs:=x.1) (t:=aj) (by rw [x.2.1];rfl);refine⟨⟨x.2.1,x.2.one,fun j hj=>sM j (by rw [x.2.1];exact hj)⟩,?_⟩;intro qR
  replace jg:qR.heap[w'.heap.size]? =some (.cells x.1 aj (0,0)):=jg
  replace jk:Kept Nil w' qR:=jk
  clear_value qR;have Mo:=hl.az jk (fun h=>h) (fun h=>h);refine⟨Mo,fun w2 R2 lg tM=>?_⟩;have adV:=lg.heap jg (kH jg Mo.loop);have h1b:=jk.heap h1 (fun h=>h);have Ee:=lg.heap h1b (kH h1b Mo.loop);have CA:bL w2 w.heap.size A i c (xs.take i):=Row.apart (Row.az h2 jk (fun _ _ h=>h)) lg (fun cs t fr h=>by rw [Mo.loop]at h;cases h);have Ym:Kept Nil w w2:=(h3.tt jk).trans lg (fun k hk e=>by omega);have cH:w.heap.size<w2.heap.size:=aO Ee;rw [aJ.y1];unfold aJ.Y1;refine⟨A,i,c,by rw [ay Ee];rfl,x.1,⟨x.2.1,Cells.bz adV⟩,x.2.1,?_⟩;intro jx;have ow:Kept Nil w2 jx:=(Kept.refl _ _).alloc _;have jA:HS jx (some ⟨w2.heap.size,0,none⟩) 1 [x]:=by
   refine HS.one (t:=aj) (fr:=(0,0)) ?_;have e3:jx=w2.alloc (.cells x.1 aj):=by
    show w2.alloc (.cells (x.1.toList++ []).toArray aj)=_
    simp
   rw [e3];exact aH w2 _
  clear_value jx;have MJ:bL jx w.heap.size A i c (xs.take i):=Row.az CA ow (fun _ _ h=>h);have aeP:=ow.heap Ee (fun h=>h);have akN:=ow.size;obtain⟨A',c',wy,hr,mS,hg,v7⟩:=cO (cx:=1) aA MJ jA (by omega) (by omega);have Ri:Kept (fun k=>aW A=some k) jx wy:=Kept.grown (Kept.refl _ _) hg (fun k hk _=>hk);have MK:=Ri.heap aeP (fun h=>h5 _ h rfl);have Q4:Live (w3.heap.size+1) w3.heap.size R2 wy:=by
   have Q5:=tM.az ow (fun h=>h) (fun h=>h);refine Q5.az Ri ?_ ?_
   ·intro h
    obtain⟨_,cur,hc⟩:=Row.bz MJ h;exact kH hc Q5.loop rfl
   ·intro h
    obtain⟨_,cur,hc⟩:=Row.bz MJ h;exact xS hc Q5.mark rfl
  have FL:Kept Nil w wy:=(Ym.tt ow).trans Ri (fun k hk e=>by
   obtain⟨h,_⟩:=Row.bz MJ e;omega)
  refine⟨A',_,c',wy,hr,dJ MK (by simp),?_⟩;intro mP;have sF:Kept (· =w.heap.size) wy mP:=Kept.setCell (S:=fun k=>k=w.heap.size) (Kept.refl _ wy) (p:=⟨w.heap.size,0,none⟩) (fun _=>rfl) _;have aec:mP.heap[w.heap.size]? =some (.cells #[.slice A' (i+1) c'] aA (0,0)):=cV MK 0 _;clear_value mP;have Gf:∀k,aW A'=some k->k≠w.heap.size:=fun k hk=>by
   rcases v7 k hk with h|h
   ·exact h5 k h
   ·omega
  refine⟨Q4.az sF (kH MK Q4.loop).symm (xS MK Q4.mark).symm,A',c',aec,?_,FL.trans sF (fun k hk e=>by omega),dQ,Gf⟩;rw [List.take_add_one,hx];exact Row.az mS sF Gf
 ·rintro w' R ⟨A,c,h1,h2,h3,h4,h5⟩ hl
  have e7:hZ ρ0 w3.heap.size= [(2,.pointer (some (⟨w.heap.size,0,none⟩:Addr))),(4,.slice none 0 0),(6,.func (.func gf) #[] gN),(4294967296,.agg #[.pointer (some ⟨w3.heap.size,0,none⟩)])]:=rfl;rw [e7,aJ.jZ];refine⟨A,xs.length,c,by rw [ay h1];rfl,⟨hl.mark,trivial⟩,?_⟩;have kp:Kept (· =w3.heap.size) w' (w'.putObj w3.heap.size (.deferred none)):=Kept.putAt _ _ _;refine hK A c _ ?_ (h3.trans kp (fun k hk e=>by omega));have:=Row.apart h2 kp (fun cs t fr h=>by rw [hl.mark]at h;cases h)
  rwa [List.take_of_length_le (Nat.le_refl _)]at this
theorem CL{gf:FuncId}{gN:Array Value}{xs:List HT}{fn:Func}(KH:prog.funcs[gf]? =some fn)(hb:fn.body.isSome){KP:World->Prop}
 (hit:nD prog gf #[] gN (xs.map rM) KP) (hp:∀w',Kept Nil w w'->KP w') (LY:xs.length<=1000000)
 (hK:∀A c w',bL w' w.heap.size A xs.length c xs->Kept Nil w w'->K (.slice A xs.length c) w'):
 bj prog cP.id #[.func (.func gf) #[] gN] w K:=by
 refine cP.of (wk KH hb hit hp LY fun A c w' h1 h2=>⟨_,_,_,rfl,hK A c w' h1 h2⟩)
end
open Go.Sort
instance:Inhabited HT:=⟨⟨Array.replicate 32 (.int .u8 0),by simp,fun v hv=>⟨0,by simpa using hv,by omega,by omega⟩⟩⟩
abbrev mM(h:HT):List Value:=h.1.toList
theorem Au(h:HT):(mM h).length=32:=by have:=h.2.1;simpa using this
theorem vk(d:Array HT):(flatK mM 32 d).toList=df d.toList:=by
 apply List.ext_getElem?;intro t;by_cases ht:t<d.size*32
 ·have hi:t/32<d.size:=by omega
  have hx:d.toList[t/32]? =some d[t/32]:=by rw [Array.getElem?_toList,Array.getElem?_eq_getElem hi]
  have hs:t%32<d[t/32].1.size:=by rw [d[t/32].2.1];omega
  have h1:=kj hx (Array.getElem?_eq_getElem hs);rw [show t/32*32+t%32=t by omega]at h1;rw [h1];have h2:t<(flatK mM 32 d).size:=by rw [size_flatK];exact ht
  have h3:=get_flatK mM 32 d t ht;rw [getElem!_pos _ t h2]at h3;rw [Array.getElem?_toList,Array.getElem?_eq_getElem h2,h3,getElem!_pos d _ hi];rw [getElem!_pos _ _ (by rw [Au];omega)];simp [mM]
 ·rw [List.getElem?_eq_none (by simp;omega),List.getElem?_eq_none (by rw [eN];simp;omega)]
theorem HM{F cur:Array Value}{k:Nat}(hk:F.size=k)(h:k<=cur.size):(putCells id 0 F cur).toList.take k=F.toList:=by
 apply List.ext_getElem?;intro i;rw [List.getElem?_take];split
 ·rename_i hi
  have h1:i<cur.size:=by omega
  have h2:i<F.size:=by omega
  rw [Array.getElem?_toList,Array.getElem?_toList,putCells,Array.getElem?_mapIdx,Array.getElem?_eq_getElem h1,Array.getElem?_eq_getElem h2];simp [h2]
 ·rw [List.getElem?_eq_none (by simp;omega)]
theorem vP{w:World}{b:Nat}{f:Array Value->Array Value}{cur:Array Value}{t:TypeId}{fr:Nat×Nat}(h:w.heap[b]? =some (.cells cur t fr)):(mapBlock w b f).heap[b]? =some (.cells (f cur) t fr):=by
 simp [mapBlock,Array.getElem?_modify,h,onCells]
theorem vO(w:World)(b:Nat)(f:Array Value->Array Value):Kept (· =b) w (mapBlock w b f):=
 ⟨rfl,rfl,rfl,by simp [mapBlock],fun k _ hn=>by simp [mapBlock,Array.getElem?_modify,Ne.symm hn]⟩
theorem Gg(w:World)(os:Array Obj):Kept Nil w (grow w os):=
 ⟨rfl,rfl,rfl,by simp,fun k hk _=>heap_grow_old w os hk⟩
theorem C0(w:World)(m:Nat):Kept Nil w (Sort.ahead w m):=⟨rfl,rfl,rfl,Nat.le_refl _,fun _ _ _=>rfl⟩
section
variable{w:World}{B n c b:Nat}{l:List HT}
theorem vI(row:bL w B (some ⟨b,0,none⟩) n c l)(m:Nat)(dk:Array HT)(os:Array Obj)(hd:dk.size=n):
 bL (sortWorldK mM 32 w b 0 m dk os) B (some ⟨b,0,none⟩) n c dk.toList/\Kept (· =b) w (sortWorldK mM 32 w b 0 m dk os):=by
 have hka:=C0 w m;have k1:=vO (Sort.ahead w m) b (putCells id 0 (flatK mM 32 dk));have kk:=((hka.mono (S':=fun k=>k=b) (fun _ _ h=>h.elim)).tt k1).trans (Gg _ os) (fun _ _ h=>h.elim);refine⟨?_,?_⟩
 ·rcases Row.own row with⟨h,_⟩|⟨b',cur,hA,hB,hg,Ct,nX,mK,x9⟩
  ·cases h
  ·cases hA
   refine⟨by rw [eN,Array.length_toList,hd],.inr ⟨b,c,putCells id 0 (flatK mM 32 dk) cur,rfl,hB,?_,Ct,nX,by simp [putCells,mK],?_⟩⟩
   ·have h1:(mapBlock (Sort.ahead w m) b (putCells id 0 (flatK mM 32 dk))).heap[b]? =some (.cells (putCells id 0 (flatK mM 32 dk) cur) aj (0,0)):=vP hg
    exact(heap_grow_old _ os (aO h1)).trans h1
   ·rw [<-vk]
    refine HM (by rw [size_flatK,hd]) ?_;rw [mK];exact Nat.mul_le_mul_right _ Ct
 ·exact kk
theorem Cr(row:bL w B (some ⟨b,0,none⟩) n c l):HoldsK mM 32 w b 0 l.toArray:=by
 intro j hj;rw [size_flatK]at hj;have tz:j<l.length*32:=by simpa using hj
 rw [Nat.zero_add];have hlen:=Row.len row;have hx:(flatK mM 32 l.toArray).toList[j]? =(df l)[j]? :=by rw [vk]
 have hjs:j<(flatK mM 32 l.toArray).size:=by rw [size_flatK];exact hj
 rw [Array.getElem?_toList,Array.getElem?_eq_getElem hjs]at hx;have hc:=Row.cell row hx.symm;refine⟨?_,?_⟩
 ·rw [hc,getElem!_pos _ j hjs];rfl
 ·exact(Row.wr row (j:=j) (by rw [eN];exact tz)).2
theorem o7(x y:HT):ltOf kV x y=cH x y:=by
 unfold ltOf;cases h:cH x y
 ·exact decide_eq_false fun h'=>by rw [rO.1 h']at h;cases h
 ·exact decide_eq_true (rO.2 h)
theorem le_trans'{x y z:HT}(h:cH y x=false)(h':cH z y=false):cH z x=false:=by
 cases U8:cH z x
 ·rfl
 ·exfalso
  by_cases e:y=z
  ·subst e;rw [h]at U8;cases U8
  ·have SL:=lt_of_le_ne h' e
   have:=jG SL U8;rw [h]at this;cases this
theorem aaE:SWO (ltOf kV) where
 irrefl x:=by rw [o7];exact gV x
 trans x y z h h':=by rw [o7]at*;exact jG h h'
 ntrans x y z h h':=by
  rw [o7]at*;exact le_trans' h' h
theorem K6{A:Option Addr}{K:Value->World->Prop}(row:bL w B A n c l)(hn:n<=1000000)
 (hK:∀l' w',LE l'->(∀x,x∈l'↔x∈l)->bL w' B A n c l'->Kept (fun k=>aW A=some k) w w'->K (.tuple #[]) w'):
 bj prog iL.id #[.slice A n c,.func (.func dB.id) #[] #[]] w K:=by
 have hlen:=row.len;by_cases h0:n=0
 ·subst h0
  have h:=AnyF.slices_SortFunc_none Tryz.wB A c (.func (.func dB.id) #[] #[]) w;refine Calls.mono h ?_;rintro e w' ⟨rfl,rfl⟩;have:l= []:=List.eq_nil_of_length_eq_zero hlen;subst this;exact⟨_,rfl,hK [] _ List.Pairwise.nil (fun _=>Iff.rfl) row (Kept.refl _ _)⟩
 ·obtain⟨b,rfl⟩:=Row.some row (by omega)
  have hblk:b<w.heap.size:=by
   obtain⟨_,cur,hc⟩:=Row.bz row (k:=b) rfl;exact aO hc
  have la:l.toArray.size=n:=by simpa using hlen
  have eg:∀args w,(callFunc dB.id args).run prog w=.ok (.enter dB.id args) w:=enters_of dB.at_ (by kernel_rfl) rfl;have hk:nU prog aj=.agg 32:=by kernel_rfl
  obtain⟨e32,ha⟩:=rC hk;obtain⟨i,hi⟩:=Go.bT.info_of_underlying (P:=prog) (t:=aj) (by kernel_rfl);have adK:CmpLays prog dB.id #[] mM 32 kV b 0 l.toArray.size w:=fun m os dk _ x y=>by
   have e:(#[.agg (mM x).toArray,.agg (mM y).toArray]++ #[]:Array Value)= #[.agg x.1,.agg y.1]:=by simp [mM]
   rw [e];have h:=po (w:=sortWorldK mM 32 w b 0 m dk os) x y (K:=fun v w'=>v=.int .i64 (kV x y)/\w'=(((sortWorldK mM 32 w b 0 m dk os).alloc (.cells x.1 aj)).alloc (.cells y.1 aj)).drew) ⟨rfl,rfl⟩;refine Calls.mono h ?_;rintro e w' ⟨v,rfl,rfl,rfl⟩;refine⟨rfl,1,#[.cells x.1 aj,.cells y.1 aj],?_⟩;rw [alloc_eq_grow,alloc_eq_grow,grow_grow,drew_grow];rfl
  have h:=AnyQ.slices_SortFunc_total Tryz.wB 32 ha (fun w=>by rw [e32];exact Go.bT.run_sizeOf hi w) mM Au (fun x=>x.2.one) kV aaE dB.id #[] b 0 c l.toArray w eg adK (Cr row) hblk (by omega)
   (fun x y h1 h2=>by rw [o7]at h1 h2;exact pL h1 h2)
  rw [la]at h;refine Calls.mono h ?_;rintro e w' ⟨rfl,m,os,rfl⟩;have hp:=List.mergeSort_perm l.toArray.toList (fun x y=> !(ltOf kV) y x);have GW:(l.toArray.toList.mergeSort fun x y=> !(ltOf kV) y x).toArray.size=n:=by
   have:=hp.length_eq;simp only [List.size_toArray];rw [this];simpa using hlen
  obtain⟨h1,h2⟩:=vI row m _ os GW;refine⟨_,rfl,hK _ _ ?_ (fun x=>?_) h1 (h2.mono fun k _ e=>by rw [e];rfl)⟩
  ·have hs:=List.pairwise_mergeSort (le:=fun x y=> !(ltOf kV) y x) (fun a b c h h'=>by
    rw [o7]at*;simp only [Bool.not_eq_true']at*;exact le_trans' h h') (fun a b=>by
    rw [o7,o7];cases lG:cH b a
    ·rfl
    ·rw [sO lG];rfl) l.toArray.toList
   refine List.Pairwise.imp ?_ hs;intro a b lG;rw [o7]at lG;simpa using lG
  ·simp
end
end Go.Proofs.YtnboahlopghcjaaGreatDoor
namespace Go.Proofs.YtnboahlopghcjaaGreatDoor
open Go.Proofs.Tryz
open Go Go.bT Go.RowKit
theorem Cw{l:List HT}{k:Nat}(hk:k<l.length)(x:HT):df (l.set k x)=gH (df l) (k*32) x.1.toList:=by
 have h1:l=l.take k++l[k]::l.drop (k+1):=by rw [<-List.drop_eq_getElem_cons hk,List.take_append_drop]
 have e1:(df (l.take k)).length=k*32:=by rw [eN,List.length_take];omega
 have hx:=x.2.1;have hl:=l[k].2.1;have hs:l.set k x=l.take k++x::l.drop (k+1):=List.set_eq_take_append_cons_drop .. |>.trans (if_pos hk)
 rw [hs]
 conv=>rhs;rw [h1]
 rw [lX,lX,kQ,kQ];generalize df (l.take k)=p at e1;generalize df (l.drop (k+1))=r;have eq:l[k].1.toList.length=32:=by simpa using hl
 have ev:x.1.toList.length=32:=by simpa using hx
 generalize l[k].1.toList=q at eq;generalize x.1.toList=v at ev;unfold gH;rw [List.take_left' e1,ev,show p++(q++r)=(p++q)++r by simp,List.drop_left' (by rw [List.length_append,e1,eq])];simp
theorem bL.setAt{w:World}{B n c b:Nat}{l:List HT}(row:bL w B (some ⟨b,0,none⟩) n c l){k:Nat}(hk:k<n)(x:HT):
 bL (setCells w ⟨b,k*32,none⟩ x.1.toList 0) B (some ⟨b,0,none⟩) n c (l.set k x):=by
 have hlen:=row.len;have hx:=x.2.1;have:=qT x.1.toList (df l) w (k*32) 0 row (by rw [eN];simp;omega);rw [Nat.add_zero]at this;rw [<-Cw (by omega)]at this;exact this
theorem bL.KV{w:World}{B n c b:Nat}{l:List HT}(row:bL w B (some ⟨b,0,none⟩) n c l){k:Nat}(hk:k<n)(j:Nat)(hj:j<32):Wr w ((⟨b,k*32,none⟩:Addr).add j):=by
 rw [a8];refine Row.wr row ?_;rw [eN,row.len];omega
theorem bL.cap{w:World}{B:Nat}{A:Option Addr}{n c:Nat}{l:List HT}(row:bL w B A n c l):n<=c:=by
 rcases Row.own row with⟨_,h1,h2,_⟩|⟨_,_,_,_,_,h1,_⟩<;>omega
theorem bL.cut{w w':World}{B n c b:Nat}{l:List HT}(row:bL w B (some ⟨b,0,none⟩) n c l){k:Nat}(hk:k<=n)(vs:List Value)(hv:vs.length=(n-k)*32)(hw:w'=setCells w ⟨b,k*32,none⟩ vs 0):
 bL w' B (some ⟨b,0,none⟩) k c (l.take k):=by
 subst hw;have hlen:=row.len;rcases Row.own row with⟨h,_⟩|⟨b',cur,hA,hB,hg,Ct,nX,mK,x9⟩
 ·cases h
 ·cases hA
  have hle:n*32<=c*32:=Nat.mul_le_mul_right _ Ct;have la:k*32+0+vs.length<=cur.size:=by omega
  have h1:=jP vs cur w aj (k*32) 0 hg la;refine⟨by rw [eN,List.length_take];omega,.inr ⟨b,c,_,rfl,hB,h1,by omega,nX,?_,?_⟩⟩
  ·have:=lO (xs:=cur.toList) (k:=k*32+0) (vs:=vs) (by simpa using la)
   rw [List.size_toArray,this];simpa using mK
  ·have e1:(df (l.take k)).length=k*32:=by rw [eN,List.length_take];omega
   have e2:(df l).take (k*32)=df (l.take k):=by
    conv=>lhs;rw [<-List.take_append_drop k l,lX]
    rw [<-e1,List.take_left'];rfl
   rw [<-e2,<-x9,List.take_take,Nat.min_eq_left (by omega)];unfold gH;simp only [Nat.add_zero];rw [List.append_assoc,List.take_append_of_le_length (by simp;omega),List.take_take,Nat.min_self]
def Dc(P:Program)(e:TypeId):Bool:=
 match P.info? e with
 |some i=>match i.zero with
  |some z=>z.cells.toList.all fun v=>v.oneCell'
  |none=>false
 |none=>false
theorem ux{w:World}{B n c b:Nat}{l:List HT}(row:bL w B (some ⟨b,0,none⟩) n c l){k:Nat}(hk:k<=n)(ty:Nat){A:Option Addr}{cx:Nat}(hA:k<n->A=some ⟨b,k*32,none⟩):
 ∃w',(Builtin.clear_ #[aA] ty #[.slice A (n-k) cx]).run prog w=.ok (.tuple #[]) w'/\bL w' B (some ⟨b,0,none⟩) k c (l.take k)/\Kept (· =b) w w':=by
 have hlen:=row.len;by_cases vX:k<n
 ·obtain⟨i,z,hi,hz,hs,_,B9⟩:=oO.inf
  have Mh:Dc prog aj=true:=by kernel_rfl
  unfold Dc at Mh;rw [hi]at Mh;simp only [hz,List.all_eq_true]at Mh;rw [hA vX];obtain⟨m,hm⟩:∃m,n-k=m+1:=⟨n-k-1,by omega⟩;have Zr:(Builtin.zeroCells z.cells (n-k)).toList.length=(n-k)*32:=by simp [Builtin.zeroCells,B9]
  have pX:=iw (P:=prog) ⟨b,k*32,none⟩ (Builtin.zeroCells z.cells (n-k)).toList 0 w (fun v hv=>by
   simp only [Builtin.zeroCells,Array.toList_map,List.mem_map]at hv;obtain⟨t,ht,rfl⟩:=hv;have:t%z.cells.size<z.cells.size:=Nat.mod_lt _ (by omega);rw [getElem!_pos z.cells _ this];exact Mh _ (by simp)) (fun j hj=>by
   rw [Nat.zero_add,a8];refine Row.wr row ?_;rw [eN];omega)
  refine⟨_,?_,row.cut hk _ Zr rfl,fe _ _ _ _⟩;simp only [Builtin.clear_,hm];rw [hm]at pX;simp [run_underlying oO.oD,zeroValue,typeInfo,hi,hz,pX]
 ·have:n=k:=by omega
  subst this;refine⟨w,?_,by rw [List.take_of_length_le (by omega)];exact row,Kept.refl _ _⟩;rw [Nat.sub_self];cases A<;>simp [Builtin.clear_,run_underlying oO.oD]
theorem EN:∀ {l:List HT},l.length<2->dv l=l
 | [],_=>rfl
 | [_],_=>rfl
 |_::_::_,h=>by simp only [List.length_cons]at h;omega
section
variable{w:World}{B n c:Nat}{A:Option Addr}{l:List HT}{K:Value->World->Prop}
theorem CK(row:bL w B A n c l)(hle:LE l)(hn:n<=400000)
 (hK:∀A' c' w',bL w' B A' (dv l).length c' (dv l)->(∀k,aW A'=some k->aW A=some k)->Kept (fun k=>aW A=some k) w w'->K (.slice A' (dv l).length c') w'):
 bj prog ah.id #[.slice A n c] w K:=by
 have hlen:=row.len;refine ah.of ?_;refine Split.dec (fun h2=>?_) (fun h2=>?_)
 ·have e:dv l=l:=EN (by omega)
  have:=hK A c w (by rw [e,hlen];exact row) (fun k h=>h) (Kept.refl _ _);rw [e,hlen]at this;exact this
 obtain⟨b,rfl⟩:=Row.some row (by omega);have Js:=row.cap;refine ah.b6 (I:=fun s w'=>∃k:Nat,s=(none,0,0,(k:Int))/\1<=k/\k<=n/\SS (l.take k)/\Kept Nil w w') (μ:=fun s _=>((n:Int)-s.2.2.2).toNat) (s:=(none,0,0,1))
  ⟨1,rfl,Nat.le_refl _,by omega,?_,Kept.refl _ _⟩ ?_
 ·cases l with
  |nil=>exact List.Pairwise.nil
  |cons x l=>simp [SS]
 rintro s w' ⟨k,rfl,Bl,vX,ua,kw⟩;refine Split.dec (fun jc=>?_) (fun gq=>?_)
 ·simp only at jc
  have yh:k<n:=by omega
  obtain⟨x,hx⟩:∃x,l[k]? =some x:=⟨_,List.getElem?_eq_getElem (by omega)⟩;obtain⟨y,hy⟩:∃y,l[k-1]? =some y:=⟨_,List.getElem?_eq_getElem (by omega)⟩;intro w5;have k5:Kept Nil w w5:=kw.drew;clear_value w5;have lj:bL w5 B (some ⟨b,0,none⟩) n c l:=Row.az row k5 (fun _ _ h=>h);simp only;rw [wrapM (n:=(k:Int)) (by omega) (by omega)];have oF:cH x y=false:=hle.get (by omega) hy hx;refine lj.hs.load (i:=(k:Int)) (by omega) hx (lj.hs.load (i:=(k:Int)-1) (by omega) (by rw [show((k:Int)-1).toNat=k-1 by omega];exact hy) ⟨⟨x.2.ints,y.2.ints⟩,?_⟩);rw [dL];refine Split.dec (fun he=>?_) (fun he=>?_)
  ·refine⟨⟨by omega,by omega⟩,?_⟩
   rw [Int.toNat_natCast];rw [if_neg (show ¬c=k by omega)];simp only [Option.map_some,a8,Nat.zero_add];refine ah.gI (I:=fun s w'=>∃(p j:Nat) (l':List HT),s=((p:Int),(j:Int))/\1<=j/\k<=p/\p<k+j/\k+j<=n/\bL w' B (some ⟨b,0,none⟩) n c l'/\l'.drop (k+j-1)=l.drop (k+j-1)/\SS (l'.take p)/\(∀z,z∈l'.take p↔z∈l.take (k+j))/\Kept (· =b) w w')
    (μ:=fun s _=>((n:Int)-s.2).toNat) (s:=((k:Int),1)) ⟨k,1,l,rfl,Nat.le_refl _,Nat.le_refl _,by omega,by omega,lj,rfl,ua,fun z=>?_,k5.mono fun _ _ h=>h.elim⟩ ?_
   ·rw [bJ hx]
    constructor
    ·exact .inl
    ·rintro(h|rfl)
     ·exact h
     ·rw [he]
      have:=bJ (z:=y) hy;rw [show k-1+1=k by omega]at this;exact this.2 (.inr rfl)
   rintro s w1 ⟨p,j,l',rfl,hj1,WE,hpj,hjn,ke,Xf,yc,GX,k1⟩;have D4:=ke.len;refine Split.dec (fun Q9=>?_) (fun Rj=>?_)
   ·simp only at Q9
    have rW:k+j<n:=by omega
    obtain⟨u,hu⟩:∃u,l[k+j]? =some u:=⟨_,List.getElem?_eq_getElem (by omega)⟩;obtain⟨v,hv⟩:∃v,l[k+j-1]? =some v:=⟨_,List.getElem?_eq_getElem (by omega)⟩;have LZ:l'[k+j]? =some u:=by
     have h:=congrArg (fun m:List HT=>m[1]?) Xf;simp only [List.getElem?_drop]at h;rw [show k+j-1+1=k+j by omega]at h;rw [h,hu]
    have SQ:l'[k+j-1]? =some v:=by
     have h:=congrArg (fun m:List HT=>m[0]?) Xf;simp only [List.getElem?_drop,Nat.add_zero]at h;rw [h,hv]
    intro wy;have FL:Kept (· =b) w wy:=k1.drew;have mS:bL wy B (some ⟨b,0,none⟩) n c l':=Row.az ke ((Kept.refl Nil w1).drew) (fun _ _ h=>h);clear_value wy;have uY:HS wy (some ⟨b,k*32,none⟩) (n-k) (l'.drop k):=by
     have h:=mS.hs.drop (c:=c) Js (k:=k) (by omega);rw [if_neg (show ¬c=k by omega)]at h;simpa [a8]using h
    have hsu:(l'.drop k)[(j:Int).toNat]? =some u:=by rw [Int.toNat_natCast,List.getElem?_drop];exact LZ
    have L4:(l'.drop k)[((j:Int)-1).toNat]? =some v:=by
     rw [show((j:Int)-1).toNat=j-1 by omega,List.getElem?_drop,show k+(j-1)=k+j-1 by omega];exact SQ
    simp-zeta only;rw [wrapM (n:=(j:Int)) (by omega) (by omega)];have huv:cH u v=false:=hle.get (by omega) hv hu;refine uY.load (i:=(j:Int)) (by omega) hsu (uY.load (i:=(j:Int)-1) (by omega) L4 ⟨⟨u.2.ints,v.2.ints⟩,?_⟩);rw [dL,dw (n:=(j:Int)) (by omega) (by omega)];have hmu:∀z,z∈l.take (k+(j+1))↔z∈l'.take p\/z=u:=fun z=>by
     rw [show k+(j+1)=k+j+1 by omega,bJ hu,GX z]
    by_cases heq:u=v
    ·refine Split.no (by rw [decide_eq_true heq];rfl) ?_
     refine⟨((p:Int),(j:Int)+1),rfl,⟨p,j+1,l',rfl,by omega,WE,by omega,by omega,mS,?_,yc,fun z=>?_,FL⟩,by simp only;omega⟩
     ·have h:=congrArg (fun m:List HT=>m.drop 1) Xf
      simp only [List.drop_drop]at h;rw [show k+(j+1)-1=k+j-1+1 by omega];exact h
     ·rw [hmu z]
      constructor
      ·exact .inl
      ·rintro(h|rfl)
       ·exact h
       ·refine(GX _).2 ?_
        rw [heq];exact List.mem_of_getElem? (i:=k+j-1) (by rw [List.getElem?_take,if_pos (by omega)];exact hv)
    ·refine Split.yes (by rw [decide_eq_false heq];rfl) ?_
     refine uY.load (i:=(j:Int)) (by omega) hsu ⟨⟨by omega,by omega⟩,⟨u.2.1,u.2.one,fun i hi=>?_⟩,?_⟩
     ·rw [Int.toNat_natCast,a8,Nat.zero_add]
      exact mS.KV (by omega) i hi
     intro xE;have Vd:xE=setCells wy ⟨b,p*32,none⟩ u.1.toList 0:=by
      show setCells wy ((⟨b,0,none⟩:Addr).add ((p:Int).toNat*32)) u.1.toList 0=_
      rw [Int.toNat_natCast,a8,Nat.zero_add]
     have T3:bL xE B (some ⟨b,0,none⟩) n c (l'.set p u):=by rw [Vd];exact mS.setAt (by omega) u
     have xW:Kept (· =b) w xE:=by rw [Vd];exact FL.tt (fe _ _ _ _)
     clear_value xE;rw [dw (n:=(p:Int)) (by omega) (by omega)];have x9:(l'.set p u).take (p+1)=l'.take p++ [u]:=by
      rw [List.take_add_one,List.take_set_of_le (Nat.le_refl p),List.getElem?_set_self (by omega)];rfl
     refine⟨((p:Int)+1,(j:Int)+1),rfl,⟨p+1,j+1,l'.set p u,rfl,by omega,by omega,by omega,by omega,T3,?_,?_,fun z=>?_,xW⟩,by simp only;omega⟩
     ·have h:=congrArg (fun m:List HT=>m.drop 1) Xf
      simp only [List.drop_drop]at h;rw [List.drop_set,if_pos (by omega),show k+(j+1)-1=k+j-1+1 by omega];exact h
     ·rw [x9]
      refine Eo yc fun z hz=>?_;obtain⟨i,hi⟩:=List.mem_iff_getElem?.1 ((GX z).1 hz);rw [List.getElem?_take]at hi;split at hi
      ·rename_i hik
       have hvu:cH v u=true:=lt_of_le_ne huv (fun e=>heq e.symm);by_cases e:i=k+j-1
       ·subst e;rw [hv]at hi;cases hi;exact hvu
       ·exact tn (hle.get (by omega) hi hv) hvu
      ·cases hi
     ·rw [x9,hmu z]
      simp
   ·simp only at Rj
    have hj:k+j=n:=by omega
    rw [aP,ah.jJ];unfold ah.iE;refine⟨⟨by omega,by omega⟩,?_⟩;rw [Int.toNat_natCast];obtain⟨w2,hr,fW,k2⟩:=ux ke (k:=p) (by omega) 0 (A:=if c=p then some ⟨b,0,none⟩else(some ⟨b,0,none⟩:Option Addr).map (·.add (p*32))) (cx:=c-p) (fun hp=>by
     rw [if_neg (by omega)];simp [a8])
    refine⟨_,w2,hr,⟨by omega,by omega⟩,?_⟩;have e:l'.take p=dv l:=xH yc fun z=>by rw [GX z,hj,List.take_of_length_le (by omega)]
    have el:p=(dv l).length:=by
     have h:=fW.len;rw [e]at h;exact h.symm
    have e0:(if c=0 then(some ⟨b,0,none⟩:Option Addr)else(some ⟨b,0,none⟩:Option Addr).map (·.add (0*32)))=some ⟨b,0,none⟩:=by
     rw [if_neg (by omega)];simp [add_zero]
    rw [e0,Nat.sub_zero,Nat.sub_zero];rw [e,el]at fW;have:=hK (some ⟨b,0,none⟩) c w2 fW (fun k h=>h) ((k1.tt k2).mono fun i _ h=>by rw [h];rfl);rw [<-el]at this;exact this
  ·rw [dw (n:=(k:Int)) (by omega) (by omega)]
   refine⟨(none,0,0,(k:Int)+1),rfl,⟨k+1,rfl,by omega,by omega,?_,k5⟩,by simp only;omega⟩;rw [List.take_add_one,hx];refine Eo ua fun z hz=>?_;have DT:cH y x=true:=lt_of_le_ne oF (fun e=>he e.symm);obtain⟨i,hi⟩:=List.mem_iff_getElem?.1 hz;rw [List.getElem?_take]at hi;split at hi
   ·by_cases e:i=k-1
    ·subst e;rw [hy]at hi;cases hi;exact DT
    ·exact tn (hle.get (by omega) hi hy) DT
   ·cases hi
 ·simp only at gq
  have e:k=n:=by omega
  subst e;rw [aP,ah.cX];rw [List.take_of_length_le (by omega)]at ua;have e:dv l=l:=Hz ua;have:=hK (some ⟨b,0,none⟩) c w' (by rw [e,hlen];exact Row.az row kw (fun _ _ h=>h)) (fun k h=>h) (kw.mono fun _ _ h=>h.elim);rw [e,hlen]at this;exact this
theorem iI(hl:HS w A n l)(hn:n<=400000)
 (hK:∀A' c' w',bL w' w.heap.size A' (dv l).length c' (dv l)->Kept Nil w w'->K (.slice A' (dv l).length c') w'):
 bj prog iX.id #[.slice A n c] w K:=by
 have hlen:=hl.len;refine iX.of ?_;refine dq.of ?_;unfold dq.W;intro w2;have k2:Kept Nil w w2:=(Kept.refl _ _).alloc _;have mu:w2.heap[w.heap.size]? =some (.cells #[.slice A n c] aA (0,0)):=aH w _;clear_value w2;refine⟨_,rfl,?_⟩;refine dm.of ?_;refine CL (xs:=l) aD.at_ (by rfl) (yW (l:=l) ⟨w.heap.size,0,none⟩ (A:=A) (n:=n) (c:=c) (by omega)) (fun w' hk=>⟨(hl.same k2).same hk,by rw [ay (hk.heap mu (fun h=>h))];rfl⟩) (by omega) ?_;intro A4 c4 w4 jR k4;refine⟨A4,_,c4,rfl,?_⟩;refine K6 jR (by omega) fun l5 w5 hle ig lj k5=>⟨rfl,?_⟩;refine⟨A4,_,c4,rfl,?_⟩;refine CK lj hle (by omega) fun A6 c6 w6 HI p7 k6=>⟨A6,_,c6,rfl,?_⟩;have e:dv l5=dv l:=Dp ig;rw [e]at HI⊢;have Yj:∀k,aW A4=some k->w.heap.size<=k:=fun k hk=>Nat.le_trans k2.size (Row.bz jR hk).1;refine hK A6 c6 w6 (Row.base HI fun k hk=>Yj k (p7 k hk)) ?_;exact((k2.tt k4).trans k5 (fun k hk h=>absurd (Yj k h) (by omega))).trans k6 (fun k hk h=>absurd (Yj k h) (by omega))
end
theorem js{x:Nat}(h:x<18446744073709551616):u64.wrap (x:Int)=(x:Int):=by
 simp only [IntKind.wrap,IntKind.bits,IntKind.signed];simp;omega
theorem orU{x y:Nat}(hx:x<18446744073709551616)(hy:y<18446744073709551616):
 u64.wrap ((BitVec.ofInt 64 (x:Int)|||BitVec.ofInt 64 (y:Int)).toNat:Int)=((x|||y:Nat):Int):=by
 have h:(BitVec.ofInt 64 (x:Int)|||BitVec.ofInt 64 (y:Int)).toNat=x|||y:=by
  rw [BitVec.ofInt_natCast,BitVec.ofInt_natCast,BitVec.toNat_or,BitVec.toNat_ofNat,BitVec.toNat_ofNat,Nat.mod_eq_of_lt (by omega),Nat.mod_eq_of_lt (by omega)]
 rw [h];exact js (Nat.or_lt_two_pow (n:=64) hx hy)
theorem ae8{x y:Nat}(hx:x<18446744073709551616)(hy:y<18446744073709551616):
 u64.wrap ((BitVec.ofInt 64 (x:Int)&&& BitVec.ofInt 64 (y:Int)).toNat:Int)=((x&&& y:Nat):Int):=by
 have h:(BitVec.ofInt 64 (x:Int)&&& BitVec.ofInt 64 (y:Int)).toNat=x&&& y:=by
  rw [BitVec.ofInt_natCast,BitVec.ofInt_natCast,BitVec.toNat_and,BitVec.toNat_ofNat,BitVec.toNat_ofNat,Nat.mod_eq_of_lt (by omega),Nat.mod_eq_of_lt (by omega)]
 rw [h];exact js (Nat.lt_of_le_of_lt Nat.and_le_left hx)
theorem aaU{i:Nat}(hi:i<64):u64.wrap ((1:Int)*2 ^ (min i 64))=((2 ^ i:Nat):Int):=by
 rw [Nat.min_eq_left (by omega),Int.one_mul];have h:2 ^ i<18446744073709551616:=Nat.pow_lt_pow_right (by omega) (n:=64) hi;have:=js h;rw [<-this];simp
def bit(ws:List Nat)(i:Nat):Bool:=(ws.getD (i/64) 0).testBit (i%64)
def okW(ws:List Nat):Prop:=∀x∈ws,x<18446744073709551616
theorem yr(i:Nat):bit [] i=false:=by simp [bit]
theorem AJ(ws:List Nat)(i:Nat):bit (ws++ [0]) i=bit ws i:=by
 unfold bit
 congr 1
 simp only [List.getD_eq_getElem?_getD,List.getElem?_append];split
 ·rfl
 ·rename_i h
  rw [List.getElem?_eq_none (l:=ws) (by omega)];cases i/64-ws.length<;>simp
theorem El{ws:List Nat}{q:Nat}(hq:q<ws.length)(v i:Nat):bit (ws.set q v) i=if i/64=q then v.testBit (i%64)else bit ws i:=by
 unfold bit;simp only [List.getD_eq_getElem?_getD,List.getElem?_set];by_cases h:i/64=q
 ·subst h;simp [hq]
 ·rw [if_neg (fun e=>h e.symm),if_neg h]
theorem DE{ws:List Nat}(h:okW ws){x:Nat}(hx:x<18446744073709551616):okW (ws++ [x]):=fun y hy=>by
 rw [List.mem_append,List.mem_singleton]at hy;rcases hy with hy|rfl
 ·exact h y hy
 ·exact hx
theorem DD{ws:List Nat}(h:okW ws){x:Nat}(hx:x<18446744073709551616)(q:Nat):okW (ws.set q x):=fun y hy=>by
 rcases List.mem_or_eq_of_mem_set hy with hy|rfl
 ·exact h y hy
 ·exact hx
def us(l:List Nat):List Value:=l.map fun x:Nat=>.int .u64 (x:Int)
theorem oK(l:List Nat):(us l).length=l.length:=by simp [us]
theorem oL{l:List Nat}{j x:Nat}(h:l[j]? =some x):(us l)[j]? =some (.int .u64 (x:Int)):=by simp [us,h]
theorem xF(l:List Nat)(q v:Nat):(us l).set q (.int .u64 (v:Int))=us (l.set q v):=by simp [us,List.map_set]
theorem Pr(l m:List Nat):us (l++m)=us l++us m:=by simp [us]
structure US(w:World)(A:Option Addr)(n:Nat)(l:List Nat):Prop where
 len:l.length=n
 at_:∀(i x:Nat),l[i]? =some x->∃a,A=some a/\a.block<w.heap.size/\w.cell? (a.add i)=some (.int .u64 (x:Int))
theorem US.az{S:Nat->Prop}{w w':World}{A:Option Addr}{n:Nat}{l:List Nat}(h:US w A n l)(hk:Kept S w w')(hn:∀a,A=some a->¬S a.block):US w' A n l:=⟨h.len,fun i x hi=>by
 obtain⟨a,h1,h2,h3⟩:=h.at_ i x hi;exact⟨a,h1,Nat.lt_of_lt_of_le h2 hk.size,hk.cell h3 (by rw [dT];exact hn a h1)⟩⟩
theorem US.load{w:World}{A:Option Addr}{n:Nat}{l:List Nat}(hl:US w A n l){i:Int}{x:Nat}(h0:0<=i)(hx:l[i.toNat]? =some x){k:Int->Prop}(hk:k x):
 (0<=i/\i<(n:Int))/\Is A fun a=>∃t:Int,w.cell? (a.add (i.toNat*1))=some (.int .u64 t)/\k t:=by
 obtain⟨a,rfl,_,hc⟩:=hl.at_ _ x hx;have:=(lgeS hx).1;have:=hl.len;exact⟨⟨h0,by omega⟩,x,by rw [Nat.mul_one];exact hc,hk⟩
theorem Py:yA prog ko iF 1 8:=⟨by kernel_rfl,by kernel_rfl⟩
abbrev jY(w:World)(B:Nat)(A:Option Addr)(n c:Nat)(l:List Nat):Prop:=Row w B iF 1 A n c (us l)
section
variable{w w':World}{B n c:Nat}{A:Option Addr}{l:List Nat}
theorem jY.len(h:jY w B A n c l):l.length=n:=by have:=Row.len h;rw [oK]at this;omega
theorem jY.us(h:jY w B A n c l):US w A n l:=⟨h.len,fun i x hi=>by
 have hlen:=h.len;have:=(lgeS hi).1;obtain⟨b,rfl⟩:=Row.some h (by omega);obtain⟨_,cur,lr⟩:=Row.bz h (k:=b) rfl;exact⟨_,rfl,aO lr,by rw [a8,Nat.zero_add];exact Row.cell h (oL hi)⟩⟩
theorem Hx(i:Nat):((i:Int).tdiv 64)=((i/64:Nat):Int):=by
 rw [Int.tdiv_eq_ediv_of_nonneg (by omega)];omega
theorem Pw(i:Nat):((i:Int).tmod 64)=((i%64:Nat):Int):=by
 rw [Int.tmod_eq_emod_of_nonneg (by omega)];omega
theorem tG(h:jY w B A n c l)(hn:n<=1000000)(hB:B<=w.heap.size){t:Nat}(x:Nat):
 ∃A' c' w',(Builtin.append_ #[ko,ko] ko #[.slice A n c,.slice (some ⟨w.heap.size,0,none⟩) 1 1]).run prog (w.alloc (.cells #[.int .u64 (x:Int)] t))=.ok (.slice A' (n+1) c') w'/\
  jY w' B A' (n+1) c' (l++ [x])/\Kept (fun k=>aW A=some k) w w'/\(∀k,aW A'=some k->aW A=some k\/w.heap.size<=k):=by
 have k1:Kept Nil w (w.alloc (.cells #[.int .u64 (x:Int)] t)):=(Kept.refl _ _).alloc _;have hb:=aH w (.cells #[.int .u64 (x:Int)] t);have h1:jY (w.alloc (.cells #[.int .u64 (x:Int)] t)) B A n c l:=Row.az h k1 (fun _ _ h=>h);obtain⟨A',c',w',hr,eI,hg,v7⟩:=dS (P:=prog) (t:=ko) (ty:=ko) (bytes:=8) Py h1 (a:=⟨w.heap.size,0,none⟩) (m:=1) (cx:=1) (news:=us [x]) rfl
  (fun j u hj=>by rw [a8,Nat.zero_add,ay hb];simpa [us]using hj) (fun u hu=>by simp [us]at hu;subst hu;rfl) (by omega) (by unfold maxLen;omega) (by have:=k1.size;omega)
 refine⟨A',c',w',hr,?_,?_,fun k hk=>?_⟩
 ·show Row w' B iF 1 A' (n+1) c' (Proofs.YtnboahlopghcjaaGreatDoor.us (l++ [x]))
  rw [Pr];exact eI
 ·exact(k1.mono (S':=fun k=>aW A=some k) (fun _ _ h=>h.elim)).tt (Kept.grown (S:=fun k=>aW A=some k) (Kept.refl _ _) hg (fun k hk _=>hk))
 ·rcases v7 k hk with h|h
  ·exact .inl h
  ·have:=k1.size;exact .inr (by omega)
theorem y7{b:Nat}(h:jY w B (some ⟨b,0,none⟩) n c l){q:Nat}(hq:q<n)(x:Nat):
 jY (w.setCell ⟨b,q,none⟩ (.int .u64 (x:Int))) B (some ⟨b,0,none⟩) n c (l.set q x):=by
 have:=Row.set h (j:=q) (by rw [oK,h.len];exact hq) (.int .u64 (x:Int));rw [xF]at this;exact this
theorem ze{K:Value->World->Prop}(h:jY w B A n c l)(ho:okW l)(hn:n<=100000)(hB:B<=w.heap.size){i:Nat}(hi:i<=1000000)
 (hK:∀A' n' c' l' w',jY w' B A' n' c' l'->okW l'->(n'<=n\/n'<=i/64+1)->(∀j,bit l' j=(bit l j||decide (j=i)))->Kept (fun k=>aW A=some k) w w'->(∀k,aW A'=some k->aW A=some k\/w.heap.size<=k)->K (.slice A' n' c') w'):
 bj prog bK.id #[.slice A n c,.int .i64 (i:Int)] w K:=by
 refine bK.of ?_;refine bK.b6 (I:=fun s w'=>∃A' n' c' l',s=(A',n',c')/\jY w' B A' n' c' l'/\okW l'/\(n'<=n\/n'<=i/64+1)/\(∀j,bit l' j=bit l j)/\Kept (fun k=>aW A=some k) w w'/\(∀k,aW A'=some k->aW A=some k\/w.heap.size<=k))
  (μ:=fun s _=>i/64+1-s.2.1) (s:=(A,n,c)) ⟨A,n,c,l,rfl,h,ho,.inl (Nat.le_refl _),fun _=>rfl,Kept.refl _ _,fun k hk=>.inl hk⟩ ?_
 rintro s w' ⟨A',n',c',l',rfl,row,KF,Oz,pZ,kw,hb⟩;unfold bK.B1;rw [Hx,gZ (by omega) (by omega)];refine⟨by omega,?_⟩;refine Split.dec (fun hle=>?_) (fun xf=>?_)
 ·simp only at hle
  have alo:n'<=i/64:=by omega
  obtain⟨A2,c2,w2,hr,fW,k2,mu⟩:=tG row (by omega) (Nat.le_trans hB kw.size) (t:=iF) 0;intro w6;refine⟨A2,n'+1,c2,w2,hr,?_⟩;refine⟨(A2,n'+1,c2),rfl,⟨A2,n'+1,c2,l'++ [0],rfl,fW,DE KF (by omega),by omega,fun j=>by rw [AJ,pZ],?_,fun k hk=>?_⟩,by simp only;omega⟩
  ·exact kw.trans k2 (fun k hk e=>by
    rcases hb k e with h|h
    ·exact h
    ·omega)
  ·rcases mu k hk with h|h
   ·exact hb k h
   ·exact .inr (Nat.le_trans kw.size h)
 ·simp only at xf
  have dQ:i/64<n':=by omega
  rw [aP,bK.cX];unfold bK.cI;intro mq;have wW:Kept Nil w' mq:=(Kept.refl _ _).drew;have Xf:mq=w'.drew:=rfl;clear_value mq;have uy:jY mq B A' n' c' l':=Row.az row wW (fun _ _ h=>h);have hlen:=row.len;rw [Hx,Pw,gZ (by omega) (by omega)];obtain⟨b,rfl⟩:=Row.some uy (by omega);obtain⟨x,hx⟩:∃x,l'[i/64]? =some x:=⟨_,List.getElem?_eq_getElem (by omega)⟩;refine⟨by omega,uy.us.load (by omega) (by rw [Int.toNat_natCast];exact hx) ⟨by omega,by omega,⟨⟨by omega,by simp only;omega⟩,?_⟩⟩⟩;have tZ:=KF x (List.mem_of_getElem? hx);have hp:2 ^ (i%64)<18446744073709551616:=Nat.pow_lt_pow_right (by omega) (n:=64) (Nat.mod_lt _ (by omega));simp only [Is,Int.toNat_natCast,Nat.mul_one,a8,Nat.zero_add];rw [aaU (Nat.mod_lt _ (by omega)),orU tZ hp];refine⟨Row.wr uy (by rw [oK,hlen];exact dQ),?_⟩;have pW:Kept (fun k=>aW A=some k) w (mq.setCell ⟨b,i/64,none⟩ (.int .u64 ((x|||2 ^ (i%64):Nat):Int))):=
   Kept.setCell (kw.trans wW (fun _ _ h=>h.elim)) (p:=⟨b,i/64,none⟩) (fun cH=>by
    rcases hb b rfl with h|h
    ·exact h
    ·exact absurd cH (by simp only;omega)) _
  refine hK _ _ _ _ _ (y7 uy dQ _) (DD KF (Nat.or_lt_two_pow (n:=64) tZ hp) _) Oz (fun j=>?_) pW hb;rw [El (by omega),pZ];have hbi:bit l' i=x.testBit (i%64):=by unfold bit;rw [List.getD_eq_getElem?_getD,hx];rfl
  by_cases e:j/64=i/64
  ·rw [if_pos e,Nat.testBit_or,Nat.testBit_two_pow]
   have hbj:bit l' j=x.testBit (j%64):=by unfold bit;rw [e,List.getD_eq_getElem?_getD,hx];rfl
   rw [<-hbj,pZ]
   congr 1
   exact decide_eq_decide.2 ⟨fun h=>by omega,fun h=>by rw [h]⟩
  ·rw [if_neg e,decide_eq_false (fun h=>e (by rw [h]))]
   simp
end
section
variable{w w':World}{B n c:Nat}{A:Option Addr}{l:List Nat}
theorem wC{K:Value->World->Prop}(h:jY w B A n c l)(ho:okW l)(hn:n<=100000)(hB:B<=w.heap.size){A2:Option Addr}{n2 c2:Nat}{v:List Nat}(hv:US w A2 n2 v)(SQ:okW v)(hn2:n2<=100000)
 (XP:∀a,A2=some a->∀k,aW A=some k->a.block≠k)
 (hK:∀A' n' c' l' w',jY w' B A' n' c' l'->okW l'->(n'<=n\/n'<=n2)->(∀j,bit l' j=(bit l j||bit v j))->Kept (fun k=>aW A=some k) w w'->(∀k,aW A'=some k->aW A=some k\/w.heap.size<=k)->K (.slice A' n' c') w'):
 bj prog cf.id #[.slice A n c,.slice A2 n2 c2] w K:=by
 have agS:=hv.len;refine cf.of ?_;refine cf.b6 (I:=fun s w'=>∃(i:Nat) (A':Option Addr) (n' c':Nat) (l':List Nat),s=(A',n',c',(i:Int))/\i<=n2/\jY w' B A' n' c' l'/\okW l'/\i<=n'/\n<=n'/\(n'<=n\/n'<=i)/\(∀j,bit l' j=(bit l j||(decide (j/64<i)&&bit v j)))/\Kept (fun k=>aW A=some k) w w'/\(∀k,aW A'=some k->aW A=some k\/w.heap.size<=k))
  (μ:=fun s _=>((n2:Int)-s.2.2.2).toNat) (s:=(A,n,c,0)) ⟨0,A,n,c,l,rfl,Nat.zero_le _,h,ho,Nat.zero_le _,Nat.le_refl _,.inl (Nat.le_refl _),by simp,Kept.refl _ _,fun k hk=>.inl hk⟩ ?_
 rintro s w' ⟨i,A',n',c',l',rfl,hi,row,KF,fN,Wa,Zy,pZ,kw,hb⟩;have D4:=row.len;refine Split.dec (fun jc=>?_) (fun gq=>?_)
 ·simp only at jc
  have dQ:i<n2:=by omega
  obtain⟨x,hx⟩:∃x,v[i]? =some x:=⟨_,List.getElem?_eq_getElem (by omega)⟩;have tZ:=SQ x (List.mem_of_getElem? hx);have hvw:US w' A2 n2 v:=hv.az kw (fun a ha e=>XP a ha _ e rfl);refine hvw.load (i:=(i:Int)) (by omega) hx ?_;have step:∀(A2:Option Addr) (n3 c3:Nat) (l3:List Nat) (w3:World),jY w3 B A2 n3 c3 l3->okW l3->i<n3->n<=n3->(n3<=n\/n3<=i+1)->(∀j,bit l3 j=(bit l j||(decide (j/64<i)&&bit v j)))->Kept (fun k=>aW A=some k) w w3->(∀k,aW A2=some k->aW A=some k\/w.heap.size<=k)->
   (0<=(i:Int)/\(i:Int)<(n3:Int))/\Is A2 fun a=>∃t:Int,w3.cell? (a.add ((i:Int).toNat*1))=some (.int .u64 t)/\(0<=(i:Int)/\(i:Int)<(n3:Int))/\Is A2 fun a'=>Wr w3 (a'.add ((i:Int).toNat*1))/\
     ∃(l4:List Nat),
     jY (w3.setCell (a'.add ((i:Int).toNat*1)) (.int .u64 (u64.wrap ((BitVec.ofInt 64 t|||BitVec.ofInt 64 (x:Int)).toNat)))) B A2 n3 c3 l4/\okW l4/\(∀j,bit l4 j=(bit l j||(decide (j/64<i+1)&&bit v j)))/\Kept (fun k=>aW A=some k) w (w3.setCell (a'.add ((i:Int).toNat*1)) (.int .u64 (u64.wrap ((BitVec.ofInt 64 t|||BitVec.ofInt 64 (x:Int)).toNat)))):=by
   intro A2 n3 c3 l3 w3 mD ho3 hi3 hn3 alf OP k3 pN;have ahl:=mD.len;obtain⟨b,rfl⟩:=Row.some mD (by omega);obtain⟨y,hy⟩:∃y,l3[i]? =some y:=⟨_,List.getElem?_eq_getElem (by omega)⟩;have hyl:=ho3 y (List.mem_of_getElem? hy);refine mD.us.load (i:=(i:Int)) (by omega) hy ⟨⟨by omega,by omega⟩,?_⟩;simp only [Is,Int.toNat_natCast,Nat.mul_one,a8,Nat.zero_add];rw [orU hyl tZ];refine⟨Row.wr mD (by rw [oK];omega),l3.set i (y|||x),y7 mD hi3 _,DD ho3 (Nat.or_lt_two_pow (n:=64) hyl tZ) _,fun j=>?_,?_⟩
   ·rw [El (by omega),OP]
    have Bn:j/64=i->bit v j=x.testBit (j%64):=fun e=>by unfold bit;rw [e,List.getD_eq_getElem?_getD,hx];rfl
    have Jt:j/64=i->bit l3 j=y.testBit (j%64):=fun e=>by unfold bit;rw [e,List.getD_eq_getElem?_getD,hy];rfl
    by_cases e:j/64=i
    ·rw [if_pos e,Nat.testBit_or,<-Jt e,<-Bn e,OP]
     rw [decide_eq_false (show ¬j/64<i by omega),decide_eq_true (show j/64<i+1 by omega)];simp
    ·rw [if_neg e]
     congr 2
     exact decide_eq_decide.2 (by omega)
   ·refine Kept.setCell k3 (p:=⟨b,i,none⟩) (fun cH=>?_) _
    rcases pN b rfl with h|h
    ·exact h
    ·exact absurd cH (by simp only;omega)
  by_cases he:i=n'
  ·refine Split.yes (by simp [he]) ?_
   obtain⟨Hc,yK,w2,hr,fW,k2,mu⟩:=tG row (by omega) (Nat.le_trans hB kw.size) (t:=iF) 0;intro w10;refine⟨Hc,n'+1,yK,w2,hr,?_⟩;have st:=step Hc (n'+1) yK (l'++ [0]) w2 fW (DE KF (by omega)) (by omega) (by omega) (by omega) (fun j=>by rw [AJ,pZ])
    (kw.trans k2 (fun k hk e=>by
      rcases hb k e with h|h
      ·exact h
      ·omega)) (fun k hk=>by
      rcases mu k hk with h|h
      ·exact hb k h
      ·exact .inr (Nat.le_trans kw.size h))
   clear step;obtain⟨s1,s2⟩:=st;refine⟨s1,?_⟩;cases Hc with
   |none=>exact s2.elim
   |some a=>
    obtain⟨t,s3,s4,s5,l4,s6,s7,s8,s9⟩:=s2;refine⟨t,s3,s4,s5,?_⟩;intro jx;simp only;rw [dw (n:=(i:Int)) (by omega) (by omega)];exact⟨(some a,n'+1,yK,(i:Int)+1),rfl,⟨i+1,some a,n'+1,yK,l4,rfl,dQ,s6,s7,by omega,by omega,by omega,s8,s9,fun k hk=>by
     rcases mu k hk with h|h
     ·exact hb k h
     ·exact .inr (Nat.le_trans kw.size h)⟩,by simp only;omega⟩
  ·refine Split.no (beq_eq_false_iff_ne.2 (by simp only;omega)) ?_
   have st:=step A' n' c' l' w' row KF (by omega) Wa (by omega) pZ kw hb;clear step;obtain⟨s1,s2⟩:=st;refine⟨s1,?_⟩;cases A' with
   |none=>exact s2.elim
   |some a=>
    obtain⟨t,s3,s4,s5,l4,s6,s7,s8,s9⟩:=s2;refine⟨t,s3,s4,s5,?_⟩;intro jx;simp only;rw [dw (n:=(i:Int)) (by omega) (by omega)];exact⟨(some a,n',c',(i:Int)+1),rfl,⟨i+1,some a,n',c',l4,rfl,dQ,s6,s7,by omega,Wa,by omega,s8,s9,hb⟩,by simp only;omega⟩
 ·simp only at gq
  have:i=n2:=by omega
  subst this;rw [aP,cf.cX];refine hK A' n' c' l' w' row KF (by omega) (fun j=>?_) kw hb;rw [pZ]
  congr 1
  by_cases e:j/64<i
  ·rw [decide_eq_true e];simp
  ·rw [decide_eq_false e]
   unfold bit;rw [List.getD_eq_getElem?_getD,List.getElem?_eq_none (by omega)];simp
end
theorem AS:∀k m:Nat,(2 ^ k*(2*m+1))&&& (2 ^ k*(2*m+1)-1)=2 ^ (k+1)*m
 |0,m=>by
  apply Nat.eq_of_testBit_eq;intro i;rw [Nat.testBit_and];cases i with
  |zero=>simp [Nat.testBit_zero]
  |succ i=>
   simp only [Nat.testBit_succ];rw [show(2 ^ 0*(2*m+1))/2=m by omega,show(2 ^ 0*(2*m+1)-1)/2=m by omega,show 2 ^ (0+1)*m/2=m by omega];simp
 |k+1,m=>by
  have ih:=AS k m;have hp:0<2 ^ k*(2*m+1):=Nat.mul_pos (Nat.pow_pos (by omega)) (by omega);rw [show 2 ^ (k+1)*(2*m+1)=2*(2 ^ k*(2*m+1))by rw [Nat.pow_succ];ac_rfl,show 2 ^ (k+1+1)*m=2*(2 ^ (k+1)*m)by rw [Nat.pow_succ 2 (k+1)];ac_rfl];generalize 2 ^ k*(2*m+1)=x at ih hp⊢;rw [<-ih];apply Nat.eq_of_testBit_eq;intro i;rw [Nat.testBit_and];cases i with
  |zero=>simp [Nat.testBit_zero]
  |succ i=>
   simp only [Nat.testBit_succ];rw [show 2*x/2=x by omega,show(2*x-1)/2=x-1 by omega,show 2*(x&&& (x-1))/2=x&&& (x-1)by omega,Nat.testBit_and]
theorem DF{x:Nat}(h0:x≠0)(hx:x<18446744073709551616):Lib.ctz 64 x<64/\x.testBit (Lib.ctz 64 x)=true/\∀t,(x&&& (x-1)).testBit t=(x.testBit t&&decide (t≠Lib.ctz 64 x)):=by
 obtain⟨m,h1,h2⟩:=Lib.ctzFrom_spec 64 x (by omega) hx;have e:Lib.ctz 64 x=Lib.ctzFrom 64 x:=by unfold Lib.ctz;rw [if_neg h0]
 rw [e];generalize Lib.ctzFrom 64 x=k at h1 h2⊢;have hand:x&&& (x-1)=2 ^ (k+1)*m:=by rw [h1];exact AS k m
 have hb:∀t,x.testBit t=(decide (t>=k)&&(2*m+1).testBit (t-k)):=fun t=>by rw [h1,Nat.testBit_two_pow_mul]
 refine⟨h2,by rw [hb];simp,fun t=>?_⟩;rw [hand,Nat.testBit_two_pow_mul,hb];by_cases ht:t=k
 ·subst ht
  simp;intro h;omega
 ·rw [decide_eq_true ht,Bool.and_true]
  by_cases hk:t>=k
  ·obtain⟨d,hd⟩:∃d,t-k=d+1:=⟨t-k-1,by omega⟩
   rw [decide_eq_true hk,decide_eq_true (show t>=k+1 by omega),hd,show t-(k+1)=d by omega,Nat.testBit_succ,show(2*m+1)/2=m by omega]
  ·rw [decide_eq_false hk,decide_eq_false (show ¬t>=k+1 by omega)]
   simp
theorem yx{x:Nat}(h0:x≠0):x&&& (x-1)<x:=Nat.lt_of_le_of_lt Nat.and_le_right (by omega)
def uP(x:Nat):List Nat:=if h:x=0 then []else Lib.ctz 64 x::uP (x&&& (x-1))
termination_by x
decreasing_by exact yx h
theorem wK:uP 0= []:=by rw [uP];simp
theorem wM{x:Nat}(h0:x≠0):uP x=Lib.ctz 64 x::uP (x&&& (x-1)):=by rw [uP,dif_neg h0]
theorem wL:∀(x:Nat),x<18446744073709551616->(∀t,t∈uP x↔x.testBit t=true)/\(uP x).Nodup/\∀t∈uP x,t<64:=by
 intro x
 induction x using Nat.strongRecOn with
 |_ x ih=>
  intro hx;by_cases h0:x=0
  ·subst h0;rw [wK];simp
  ·obtain⟨h1,h2,h3⟩:=DF h0 hx
   obtain⟨i1,i2,i3⟩:=ih _ (yx h0) (Nat.lt_trans (yx h0) hx);rw [wM h0];refine⟨fun t=>?_,?_,fun t ht=>?_⟩
   ·rw [List.mem_cons,i1,h3]
    by_cases e:t=Lib.ctz 64 x
    ·rw [e,h2];simp
    ·simp [e]
   ·rw [List.nodup_cons,i1,h3]
    exact⟨by simp,i2⟩
   ·rcases List.mem_cons.1 ht with rfl|ht
    ·exact h1
    ·exact i3 t ht
def o0:Nat->List Nat->List Nat
 |_,[]=> []
 |k,x::ws=>(uP x).map (64*k+ ·)++o0 (k+1) ws
theorem Kc(x:Nat)(ws:List Nat)(j:Nat):bit (x::ws) j=if j<64 then x.testBit j else bit ws (j-64):=by
 unfold bit;split
 ·rename_i h
  rw [show j/64=0 by omega,show j%64=j by omega];rfl
 ·rename_i h
  rw [show j/64=(j-64)/64+1 by omega,show j%64=(j-64)%64 by omega];rfl
theorem o6:∀(ws:List Nat) (k j:Nat),okW ws->(j∈o0 k ws↔64*k<=j/\bit ws (j-64*k)=true)
 | [],k,j,_=>by simp [o0,bit]
 |x::ws,k,j,ho=>by
  obtain⟨h1,_,h3⟩:=wL x (ho x (by simp));have ih:=o6 ws (k+1) j (fun y hy=>ho y (by simp [hy]));rw [o0,List.mem_append,ih,Kc,List.mem_map];constructor
  ·rintro(⟨t,ht,rfl⟩|⟨h,hb⟩)
   ·have:=h3 t ht
    refine⟨by omega,?_⟩;rw [if_pos (by omega),show 64*k+t-64*k=t by omega];exact(h1 t).1 ht
   ·refine⟨by omega,?_⟩
    rw [if_neg (by omega),show j-64*k-64=j-64*(k+1)by omega];exact hb
  ·rintro⟨h,hb⟩
   split at hb
   ·exact .inl ⟨j-64*k,(h1 _).2 hb,by omega⟩
   ·refine .inr ⟨by omega,?_⟩
    rw [show j-64*(k+1)=j-64*k-64 by omega];exact hb
theorem uI:∀ {l m:List Nat},l.Nodup->(∀x∈l,x∈m)->l.length<=m.length
 | [],_,_,_=>Nat.zero_le _
 |x::l,m,hn,h=>by
  rw [List.nodup_cons]at hn;have hx:=h x (by simp);have:=uI (l:=l) (m:=m.erase x) hn.2 (fun y hy=>by
   have fD:y≠x:=fun e=>hn.1 (e▸hy);exact(List.mem_erase_of_ne fD).2 (h y (by simp [hy])))
  rw [List.length_erase_of_mem hx]at this;have iq:0<m.length:=List.length_pos_of_mem hx;simp only [List.length_cons];omega
def rZ(w:World):Prop:=TabAt (Tryz.jt.g 1) Lib.deBruijn64tab w
theorem rZ.az{S:Nat->Prop}{w w':World}(h:rZ w)(hk:Kept S w w')(hn:¬S (Tryz.jt.g 1)):rZ w':=fun j hj=>hk.cell (h j hj) hn
theorem rZ.same{w w':World}(h:rZ w)(hk:Kept Nil w w'):rZ w':=h.az hk fun h=>h
theorem rZ.lt{w:World}(h:rZ w):Tryz.jt.g 1<w.heap.size:=World.block_lt_of_cell? w _ (h 0 (by decide))
section
variable{w:World}{K:Value->World->Prop}
theorem TL{x:Nat}(hx:x<18446744073709551616)(hT:rZ w)(hK:K (.int .i64 (Lib.ctz 64 x:Nat)) w):bj prog bits_TrailingZeros64.id #[.int .u64 (x:Int)] w K:=by
 refine Calls.mono (Any7.bits_TrailingZeros64 Tryz.tzL x hx w (fun _=>hT)) ?_;rintro e w' ⟨rfl,rfl⟩;exact⟨_,rfl,hK⟩
abbrev encI(i:Nat):List Value:= [.int .i64 (i:Int)]
theorem Kh(p:Addr){A:Option Addr}{n c:Nat}{l:List Nat}(hn:n<=100000)(ho:okW l):
 nD prog aI.id #[] #[.pointer (some p)] ((o0 0 l).map encI) (fun w=>US w A n l/\w.cell? p=some (.slice A n c)/\rZ w):=by
 intro y I D w0 hI hD rG h0 qF;refine aI.of ?_;obtain⟨D5,S7,_⟩:=rG 0 w0 h0;have hlen:=D5.len;refine⟨A,n,c,S7,?_⟩;refine aI.b6 (I:=fun s w'=>∃(i:Nat) (dn:List Nat),s=(i:Int)/\i<=n/\dn++o0 i (l.drop i)=o0 0 l/\I dn.length w') (μ:=fun s _=>((n:Int)-s).toNat) (s:=0) ⟨0,[],rfl,Nat.zero_le _,rfl,h0⟩ ?_;rintro s w' ⟨i,dn,rfl,hi,Jq,hw⟩;refine Split.dec (fun jc=>?_) (fun gq=>?_)
 ·have dQ:i<n:=by omega
  obtain⟨x,hx⟩:∃x,l[i]? =some x:=⟨_,List.getElem?_eq_getElem (by omega)⟩;have tZ:=ho x (List.mem_of_getElem? hx);have hl:=(rG _ w' hw).1;have u9:l.drop i=x::l.drop (i+1):=by
   obtain⟨h1,h2⟩:=lgeS hx;rw [List.drop_eq_getElem_cons h1,h2]
  rw [u9,o0]at Jq;refine hl.load (i:=(i:Int)) (by omega) hx ?_;refine aI.gI (I:=fun s w'=>∃(v:Nat) (dn:List Nat),s=(v:Int)/\v<18446744073709551616/\dn++((uP v).map (64*i+ ·)++o0 (i+1) (l.drop (i+1)))=o0 0 l/\I dn.length w') (μ:=fun s _=>s.toNat) (s:=(x:Int)) ⟨x,dn,rfl,tZ,Jq,hw⟩ ?_;clear hw Jq;rintro s w1 ⟨v,Z9,rfl,hv,Jp,KB⟩;by_cases h0:v=0
  ·refine Split.no (by subst h0;rfl) ?_
   rw [aP,aI.jJ];unfold aI.iE;rw [dw (n:=(i:Int)) (by omega) (by omega)];rw [h0,wK,List.map_nil,List.nil_append]at Jp;exact⟨(i:Int)+1,rfl,⟨i+1,Z9,rfl,dQ,Jp,KB⟩,by simp only;omega⟩
  ·refine Split.yes (bne_iff_ne.2 (by omega)) ?_
   have hpr:=rG _ w1 KB;obtain⟨hk,OD,hkr⟩:=DF h0 hv;rw [wM h0,List.map_cons,List.cons_append]at Jp;refine TL hv hpr.2.2 ⟨_,rfl,?_⟩;have fE:((o0 0 l).map encI)[Z9.length]? =some (encI (64*i+Lib.ctz 64 v)):=by
    rw [List.getElem?_map,<-Jp,List.getElem?_append_right (Nat.le_refl _),Nat.sub_self];rfl
   have vV:i64.wrap (i64.wrap ((64:Int)*(i:Int))+((Lib.ctz 64 v:Nat):Int))=((64*i+Lib.ctz 64 v:Nat):Int):=by
    rw [gZ (x:=(64:Int)*(i:Int)) (by omega) (by omega),gZ (by omega) (by omega)];omega
   rw [vV];refine(qF Z9.length _ w1 fE KB).mono ?_;rintro b lK ⟨ht,hf⟩;have mI:u64.wrap ((BitVec.ofInt 64 (v:Int)&&& BitVec.ofInt 64 (u64.wrap ((v:Int)-(1:Int)))).toNat:Int)=((v&&& (v-1):Nat):Int):=by
    have e1:(v:Int)-1=((v-1:Nat):Int):=by omega
    rw [e1,js (x:=v-1) (by omega),ae8 hv (by omega)]
   cases b with
   |true=>
    refine Split.no rfl ?_;rw [mI];have cH:=yx h0;refine⟨((v&&& (v-1):Nat):Int),rfl,⟨v&&& (v-1),Z9++ [64*i+Lib.ctz 64 v],rfl,by omega,by rw [List.append_assoc];exact Jp,?_⟩,by simp only;omega⟩;rw [List.length_append];exact ht rfl
   |false=>
    refine Split.yes rfl ?_;exact Or.inr (hf rfl)
 ·rw [aP,aI.cX]
  have e:i=n:=by omega
  subst e;refine Or.inl ?_;rw [List.drop_eq_nil_of_le (by omega),o0,List.append_nil]at Jq;rw [List.length_map,<-Jq];exact hw
end
def pos(h:HT):List HT->Nat->Option Nat
 | [],_=>none
 |x::l,i=>if h=x then some i else pos h l (i+1)
theorem oY{h:HT}:∀ {l:List HT} {i:Nat},pos h l i=none↔h∉l
 | [],i=>by simp [pos]
 |x::l,i=>by
  unfold pos;split
  ·rename_i e;simp [e]
  ·rename_i e
   rw [oY (l:=l)];simp [e]
theorem uD{h:HT}:∀ {l:List HT} {i j:Nat},pos h l i=some j->i<=j/\l[j-i]? =some h
 | [],i,j,e=>by simp [pos]at e
 |x::l,i,j,e=>by
  unfold pos at e;split at e
  ·rename_i hx
   cases e;subst hx;exact⟨Nat.le_refl _,by rw [Nat.sub_self];rfl⟩
  ·obtain⟨h1,h2⟩:=uD e
   refine⟨by omega,?_⟩;rw [show j-i=(j-(i+1))+1 by omega];exact h2
theorem kh{h:HT}:∀ {l:List HT} (i j:Nat),l.Nodup->l[j]? =some h->pos h l i=some (i+j)
 | [],i,j,_,e=>by simp at e
 |x::l,i,0,_,e=>by
  simp only [List.getElem?_cons_zero,Option.some.injEq]at e;unfold pos;rw [if_pos e.symm];simp
 |x::l,i,j+1,hn,e=>by
  simp only [List.getElem?_cons_succ]at e;rw [List.nodup_cons]at hn;unfold pos;rw [if_neg (fun hx=>hn.1 (by rw [<-hx];exact List.mem_of_getElem? e)),kh (i+1) j hn.2 e]
  congr 1
  omega
section
variable{w:World}
theorem K0:prog.underlying aj=some (.array 32 iD):=by kernel_rfl
theorem Ps:prog.underlying iD=some (.int .u8):=by kernel_rfl
theorem NV:∃i,prog.info? iD=some i/\i.size=1:=by
 have h:(match prog.info? iD with|some i=>Nat.beq i.size 1|none=>false)=true:=by kernel_rfl
 split at h
 ·rename_i i hi;exact⟨i,hi,Nat.eq_of_beq_eq_true h⟩
 ·cases h
theorem Pt:prog.underlying cr=some (.map aj iO):=by kernel_rfl
theorem uv(a b:HT)(w:World):(Op.equal aj (.agg a.1) (.agg b.1)).run prog w=.ok (decide (a=b)) w:=by
 obtain⟨i,hi,h1⟩:=NV;have:=oQ (P:=prog) 9998 w K0 Ps hi h1 a.2.ints b.2.ints;rw [dL]at this;simp only [Op.equal,Op.maxDepth];exact this
theorem iU(h:HT)(em:Bool)(w:World):(Instr.checkKey em 10000 aj (.agg h.1)).run prog w=.ok () w:=by
 obtain⟨i,hi,h1⟩:=NV;have hc:prog.cellsOf iD=1:=by simp [Program.cellsOf,hi,h1]
 rw [show(10000:Nat)=9999+1 from rfl,Instr.checkKey];simp only [Sem.run_bind,run_underlying K0,Result.andThen_ok];simp only [Std.Legacy.Range.forIn_eq_forIn_range',Std.Legacy.Range.size,Nat.sub_zero,Nat.add_one_sub_one,Nat.div_one];have each:∀j∈List.range' 0 32,∃v,h.1[j]? =some v/\∃x:Int,v=.int .u8 x:=fun j hj=>by
  have tz:j<h.1.size:=by rw [h.2.1];simpa using hj
  obtain⟨x,hx,_⟩:=h.2.2 h.1[j] (by simp);exact⟨_,Array.getElem?_eq_getElem tz,x,hx⟩
 generalize List.range' 0 32=is at each
 induction is with
 |nil=>simp
 |cons j is ih=>
  obtain⟨v,hv,x,rfl⟩:=each j (by simp);have MF:(isAgg iD).run prog w=.ok false w:=by simp [isAgg,run_underlying Ps]
  have p1:(part iD h.1 (j*1)).run prog w=.ok (.int .u8 x) w:=by simp [part,MF,hv]
  have p2:(Instr.checkKey em 9999 iD (.int .u8 x)).run prog w=.ok () w:=by
   rw [show(9999:Nat)=9998+1 from rfl,Instr.checkKey];simp [run_underlying Ps]
  simp only [List.forIn_cons,Sem.run_bind,Go.bT.run_sizeOf hi w,hc,Result.andThen_ok,p1,p2,Sem.run_pure];exact ih (fun y hy=>each y (by simp [hy]))
def yE(es:List MapEntry)(l:List HT)(i:Nat):Prop:=match es,l with
 | [],[]=>True
 |e::es,h::l=>(e.key=.agg h.1/\e.val=.int .i64 (i:Int))/\yE es l (i+1)
 |_,_=>False
theorem yE.snoc:∀ {es:List MapEntry} {l:List HT} {i:Nat} {e:MapEntry} {h:HT},yE es l i->e.key=.agg h.1->e.val=.int .i64 ((i+l.length:Nat):Int)->yE (es++ [e]) (l++ [h]) i
 | [],[],i,e,h,_,h1,h2=>⟨⟨h1,by simpa using h2⟩,trivial⟩
 |x::es,y::l,i,e,h,he,h1,h2=>⟨he.1,yE.snoc he.2 h1 (by rw [h2];congr 2;simp;omega)⟩
 | [],_::_,_,_,_,he,_,_=>he.elim
 |_::_,[],_,_,_,he,_,_=>he.elim
theorem qV(h:HT)(w:World):∀(es:List MapEntry) (l:List HT) (i:Nat),yE es l i->
 (Instr.findAsking aj (.agg h.1) es i).run prog w=.ok ((pos h l i).map fun j=>(j,.int .i64 (j:Int))) w
 | [],[],i,_=>by simp [Instr.findAsking,pos]
 |e::es,x::l,i,he=>by
  have hq:=uv h x w;have ih:=qV h w es l (i+1) he.2;simp only [Instr.findAsking,he.1.1,Sem.run_bind,hq,Result.andThen_ok];by_cases hx:h=x
  ·simp [hx,pos,he.1.2]
  ·simp [hx,pos,ih]
 | [],_::_,_,he=>he.elim
 |_::_,[],_,he=>he.elim
theorem nQ(h:HT)(w:World){es:List MapEntry}{l:List HT}(he:yE es l 0):
 (Instr.findKey aj (.agg h.1) es).run prog w=.ok ((pos h l 0).map fun j=>(j,.int .i64 (j:Int))) w:=by
 have h1:=qV h w es l 0 he;simp only [Instr.findKey,Sem.run_bind,run_underlying K0,Result.andThen_ok];cases es with
 |nil=>
  cases l with
  |nil=>simp [Instr.findNow,pos]
  |cons x l=>exact he.elim
 |cons e es=>
  have:Instr.findNow (.array 32 iD) (.agg h.1) (e::es) 0=none:=by
   simp only [Instr.findNow,Instr.sameNow]
  rw [this];exact h1
theorem ph{r:Nat}{es:Array MapEntry}{clock:Nat}(hb:w.heap[r]? =some (.map es clock)):(getObj r).run prog w=.ok (.map es clock) w:=by
 simp [getObj,Sem.run,hb]
theorem BG{r:Nat}{es:Array MapEntry}{clock:Nat}(o:Obj)(hb:w.heap[r]? =some (.map es clock)):(setObj r o).run prog w=.ok () {w with heap:=w.heap.setIfInBounds r o}:=by
 simp [setObj,Sem.run,hb]
structure IsMap(w:World)(m:Nat)(l:List HT):Prop where
 ex:∃es clock,w.heap[m]? =some (.map es clock)/\yE es.toList l 0
theorem IsMap.az{S:Nat->Prop}{w w':World}{m:Nat}{l:List HT}(h:IsMap w m l)(hk:Kept S w w')(hn:¬S m):IsMap w' m l:=by
 obtain⟨es,clock,h1,h2⟩:=h.ex;exact⟨es,clock,hk.heap h1 hn,h2⟩
theorem IsMap.lt{w:World}{m:Nat}{l:List HT}(h:IsMap w m l):m<w.heap.size:=by
 obtain⟨es,clock,h1,_⟩:=h.ex;exact aO h1
theorem IsMap.look{m:Nat}{l:List HT}(hm:IsMap w m l)(h:HT):
 (Instr.lookup cr (.map (some m)) (.agg h.1) true).run prog w=.ok (.tuple #[.int .i64 (((pos h l 0).getD 0:Nat):Int),.bool (pos h l 0).isSome]) w:=by
 obtain⟨es,clock,h1,h2⟩:=hm.ex;have h3:=nQ h w h2;simp only [Instr.lookup,Sem.run_bind,run_underlying Pt,ph h1,Result.andThen_ok,Sem.run_pure,iU,h3];cases hp:pos h l 0<;>simp
theorem IsMap.wO{m:Nat}{l:List HT}(hm:IsMap w m l)(h:HT):
 (Instr.lookup cr (.map (some m)) (.agg h.1) false).run prog w=.ok (.int .i64 (((pos h l 0).getD 0:Nat):Int)) w:=by
 obtain⟨es,clock,h1,h2⟩:=hm.ex;have h3:=nQ h w h2;simp only [Instr.lookup,Sem.run_bind,run_underlying Pt,ph h1,Result.andThen_ok,Sem.run_pure,iU,h3];cases hp:pos h l 0<;>simp
theorem IsMap.put{m:Nat}{l:List HT}(hm:IsMap w m l){h:HT}(hn:h∉l):
 ∃w',(Instr.mapUpdate cr (.map (some m)) (.agg h.1) (.int .i64 ((l.length:Nat):Int))).run prog w=.ok () w'/\IsMap w' m (l++ [h])/\Kept (· =m) w w':=by
 obtain⟨es,clock,h1,h2⟩:=hm.ex;have h3:=nQ h w h2;rw [oY.2 hn]at h3;refine⟨{w with heap:=w.heap.setIfInBounds m (.map (es.push {key:=.agg h.1,val:=.int .i64 ((l.length:Nat):Int),born:=clock}) (clock+1))},?_,⟨es.push {key:=.agg h.1,val:=.int .i64 ((l.length:Nat):Int),born:=clock},clock+1,?_,?_⟩,?_⟩
 ·simp only [Instr.mapUpdate,Sem.run_bind,run_underlying Pt,ph h1,Result.andThen_ok,iU,h3,Option.map_none,BG _ h1]
 ·simp [aO h1]
 ·have:=h2.snoc (e:= {key:=.agg h.1,val:=.int .i64 ((l.length:Nat):Int),born:=clock}) (h:=h) rfl (by simp)
  simpa using this
 ·exact⟨rfl,rfl,rfl,by simp,fun k _ hk=>by simp [Ne.symm hk]⟩
end
end Go.Proofs.YtnboahlopghcjaaGreatDoor
namespace Go.Proofs.YtnboahlopghcjaaGreatDoor
open Go.Proofs.Tryz
open Go Go.bT
structure DN where
 id:HT
 ps:List HT
abbrev DG:=List DN
def ids(D:DG):List HT:=D.map (·.id)
def nM(D:DG)(p h:HT):Prop:=∃nd∈D,nd.id=h/\p∈nd.ps
inductive fC (D:DG):HT->HT->Prop
 |one {p h:HT}:nM D p h->fC D p h
 |more {a p h:HT}:fC D a p->nM D p h->fC D a h
theorem fC.trans{D:DG}{a b c:HT}(h:fC D a b)(h':fC D b c):fC D a c:=by
 induction h' with
 |one hp=>exact .more h hp
 |more _ hp ih=>exact .more ih hp
structure jC(D:DG):Prop where
 pos:0<D.length
 nodup:(ids D).Nodup
 ss:∀nd∈D,SS nd.ps
 up:∀(i:Nat) nd p,D[i]? =some nd->p∈nd.ps->∃(j:Nat) (m:DN),j<i/\D[j]? =some m/\m.id=p
theorem fX(D:DG):(ids D).length=D.length:=by simp [ids]
theorem pK{D:DG}{i:Nat}{nd:DN}(h:D[i]? =some nd):(ids D)[i]? =some nd.id:=by simp [ids,h]
theorem IM{D:DG}{i:Nat}{h:HT}(e:(ids D)[i]? =some h):∃nd,D[i]? =some nd/\nd.id=h:=by
 unfold ids at e;rw [List.getElem?_map]at e;cases hd:D[i]? with
 |none=>rw [hd]at e;cases e
 |some nd=>rw [hd]at e;exact⟨nd,rfl,by simpa using e⟩
theorem dI{D:DG}{h:HT}:h∈ids D↔∃nd∈D,nd.id=h:=by simp [ids]
section
variable{D:DG}
theorem jC.inj(W:jC D){i j:Nat}{a b:DN}(ha:D[i]? =some a)(hb:D[j]? =some b)(e:a.id=b.id):i=j:=by
 have h1:=kh 0 i W.nodup (pK ha);have h2:=kh 0 j W.nodup (pK hb);rw [e,h2]at h1;simpa using h1.symm
theorem jC.pos_eq(W:jC D){i:Nat}{nd:DN}(h:D[i]? =some nd):Proofs.YtnboahlopghcjaaGreatDoor.pos nd.id (ids D) 0=some i:=by
 have:=kh 0 i W.nodup (pK h)
 rwa [Nat.zero_add]at this
theorem nM.at_(W:jC D){p h:HT}(hp:nM D p h):∃(i j:Nat) (m nd:DN),i<j/\D[i]? =some m/\D[j]? =some nd/\m.id=p/\nd.id=h/\p∈nd.ps:=by
 obtain⟨nd,dW,rfl,o8⟩:=hp;obtain⟨j,hj⟩:=List.mem_iff_getElem?.1 dW;obtain⟨i,m,rI,hm,e⟩:=W.up j nd p hj o8;exact⟨i,j,m,nd,rI,hm,hj,e,rfl,o8⟩
theorem fC.at_(W:jC D){a h:HT}(hp:fC D a h):∃(i j:Nat) (m nd:DN),i<j/\D[i]? =some m/\D[j]? =some nd/\m.id=a/\nd.id=h:=by
 induction hp with
 |one hp=>
  obtain⟨i,j,m,nd,h1,h2,h3,h4,h5,_⟩:=hp.at_ W;exact⟨i,j,m,nd,h1,h2,h3,h4,h5⟩
 |more _ hp ih=>
  obtain⟨i,j,m,nd,h1,h2,h3,h4,h5⟩:=ih;obtain⟨i',j',m',nd',rK,rJ,Ec,ZY,h5',_⟩:=hp.at_ W;have e:=W.inj h3 rJ (by rw [h5,ZY]);exact⟨i,j',m,nd',by omega,h2,Ec,h4,h5'⟩
theorem fC.irrefl(W:jC D)(a:HT):¬fC D a a:=fun h=>by
 obtain⟨i,j,m,nd,h1,h2,h3,h4,h5⟩:=h.at_ W;have:=W.inj h2 h3 (by rw [h4,h5]);omega
theorem fC.mem(W:jC D){a h:HT}(hp:fC D a h):a∈ids D/\h∈ids D:=by
 obtain⟨i,j,m,nd,_,h2,h3,h4,h5⟩:=hp.at_ W;exact⟨dI.2 ⟨m,List.mem_of_getElem? h2,h4⟩,dI.2 ⟨nd,List.mem_of_getElem? h3,h5⟩⟩
theorem ud(W:jC D){i:Nat}{nd:DN}(h:D[i]? =some nd)(a:HT):fC D a nd.id↔∃p∈nd.ps,a=p\/fC D a p:=by
 have key:∀ {p},nM D p nd.id->p∈nd.ps:=fun⟨nd',hm,e,hp⟩=>by
  obtain⟨j,hj⟩:=List.mem_iff_getElem?.1 hm;have:=W.inj h hj e.symm;subst this;rw [h]at hj;cases hj;exact hp
 constructor
 ·intro ha
  generalize he:nd.id=x at ha;cases ha with
  |one hp=>subst he;exact⟨a,key hp,.inl rfl⟩
  |more Bp hp=>subst he;exact⟨_,key hp,.inr Bp⟩
 ·rintro⟨p,hp,e⟩
  have lF:nM D p nd.id:=⟨nd,List.mem_of_getElem? h,rfl,hp⟩;rcases e with rfl|e
  ·exact .one lF
  ·exact .more e lF
theorem mU{nd:DN}{p h:HT}:nM (D++ [nd]) p h↔nM D p h\/(nd.id=h/\p∈nd.ps):=by
 unfold nM;constructor
 ·rintro⟨m,hm,e,hp⟩
  rw [List.mem_append,List.mem_singleton]at hm;rcases hm with hm|rfl
  ·exact .inl ⟨m,hm,e,hp⟩
  ·exact .inr ⟨e,hp⟩
 ·rintro(⟨m,hm,e,hp⟩|⟨e,hp⟩)
  ·exact⟨m,by simp [hm],e,hp⟩
  ·exact⟨nd,by simp,e,hp⟩
theorem iZ(W:jC D){nd:DN}(hn:nd.id∉ids D){a h:HT}(hh:h∈ids D):fC (D++ [nd]) a h↔fC D a h:=by
 constructor
 ·intro ha
  induction ha with
  |one hp=>
   rcases mU.1 hp with hp|⟨e,_⟩
   ·exact .one hp
   ·subst e;exact absurd hh hn
  |more _ hp ih=>
   rcases mU.1 hp with hp|⟨e,_⟩
   ·exact .more (ih (fC.mem W (.one hp)).1) hp
   ·subst e;exact absurd hh hn
 ·intro ha
  induction ha with
  |one hp=>exact .one (mU.2 (.inl hp))
  |more Bp hp ih=>exact .more (ih (fC.mem W Bp).2) (mU.2 (.inl hp))
theorem kP(D:DG)(nd:DN):ids (D++ [nd])=ids D++ [nd.id]:=by simp [ids]
theorem jC.snoc(W:jC D){nd:DN}(hn:nd.id∉ids D)(o8:∀p∈nd.ps,p∈ids D)(hs:SS nd.ps):jC (D++ [nd]) where
 pos:=by simp
 nodup:=by
  rw [kP,List.nodup_append];refine⟨W.nodup,by simp,fun a ha b hb=>?_⟩;rw [List.mem_singleton]at hb;subst hb;exact fun e=>hn (e▸ha)
 ss:=fun m hm=>by
  rw [List.mem_append,List.mem_singleton]at hm;rcases hm with hm|rfl
  ·exact W.ss m hm
  ·exact hs
 up:=fun i m p hi hp=>by
  rw [List.getElem?_append]at hi;split at hi
  ·rename_i cH
   obtain⟨j,q,h1,h2,h3⟩:=W.up i m p hi hp;exact⟨j,q,h1,by rw [List.getElem?_append_left (by omega)];exact h2,h3⟩
  ·rename_i gq
   have:m=nd:=by
    cases hk:i-D.length with
    |zero=>rw [hk]at hi;simpa using hi.symm
    |succ k=>rw [hk]at hi;simp at hi
   subst this;obtain⟨q,hq,e⟩:=dI.1 (o8 p hp);obtain⟨j,hj⟩:=List.mem_iff_getElem?.1 hq;have rW:=(lgeS hj).1;exact⟨j,q,by omega,by rw [List.getElem?_append_left rW];exact hj,e⟩
end
theorem jC.root(r:HT):jC [⟨r,[]⟩] where
 pos:=by simp
 nodup:=by simp [ids]
 ss:=fun nd h=>by simp at h;subst h;exact List.Pairwise.nil
 up:=fun i nd p h hp=>by
  cases i with
  |zero=>simp at h;subst h;simp at hp
  |succ i=>simp at h
def du(D:DG)(h:HT)(l:List HT):Int:=
 if h∈ids D then 7 else if(dv l).length=0\/(dv l).length≠l.length then 9 else if ∃p∈dv l,p∉ids D then 6 else 0
def mn(D:DG)(h:HT)(l:List HT):DG:=if du D h l=0 then D++ [⟨h,dv l⟩]else D
theorem jV{D:DG}{h:HT}{l:List HT}(e:du D h l=0):h∉ids D/\l≠ []/\l.Nodup/\∀p∈dv l,p∈ids D:=by
 unfold du at e;split at e
 ·cases e
 ·rename_i h1
  split at e
  ·cases e
  ·rename_i h2
   split at e
   ·cases e
   ·rename_i h3
    simp only [not_or,Decidable.not_not]at h2;refine⟨h1,fun hl=>h2.1 (by rw [hl];rfl),rj h2.2,fun p hp=>Classical.byContradiction fun hn=>h3 ⟨p,hp,hn⟩⟩
theorem jC.add{D:DG}(W:jC D)(h:HT)(l:List HT):jC (mn D h l):=by
 unfold mn;split
 ·rename_i e
  obtain⟨h1,_,_,h4⟩:=jV e;exact W.snoc h1 h4 (iK l)
 ·exact W
open Classical in
noncomputable def pick(D:DG)(is:HT->Prop):List HT:=dv ((ids D).filter fun a=>decide (is a))
theorem jn{D:DG}{is:HT->Prop}{a:HT}:a∈pick D is↔a∈ids D/\is a:=by
 unfold pick;rw [dF,List.mem_filter];simp
theorem DC{D:DG}{is:HT->Prop}{l:List HT}(h:∀a,a∈l↔a∈ids D/\is a):dv l=pick D is:=Dp fun x=>by
 rw [h,List.mem_filter];simp
theorem lT(D:DG)(is:HT->Prop):(pick D is).length<=D.length:=by
 unfold pick;refine Nat.le_trans (pE _) (Nat.le_trans (List.length_filter_le _ _) ?_);rw [fX];exact Nat.le_refl _
noncomputable def dY(D:DG)(l:List HT):List HT:=pick D fun a=>∃h∈l,fC D a h
noncomputable def fh(D:DG)(h:HT):List HT:=pick D fun a=>nM D h a
open Go.RowKit
structure NS(w:World)(F:Nat->Prop)(A:Option Addr)(n:Nat)(l:List DN):Prop where
 len:l.length=n
 at_:∀(i:Nat) nd,l[i]? =some nd->∃a pA pn pc,A=some a/\a.block<w.heap.size/\F a.block/\Cells w (a.add (i*33)) (nd.id.1.push (.slice pA pn pc))/\HS w pA pn nd.ps/\∀b,pA=some b->F b.block
section
variable{w w':World}{F F' S:Nat->Prop}{A:Option Addr}{n:Nat}{l:List DN}
theorem NS.az(h:NS w F A n l)(hk:Kept S w w')(hn:∀k,F k->¬S k):NS w' F A n l:=⟨h.len,fun i nd hi=>by
 obtain⟨a,pA,pn,pc,h1,h2,h3,h4,h5,h6⟩:=h.at_ i nd hi;exact⟨a,pA,pn,pc,h1,Nat.lt_of_lt_of_le h2 hk.size,h3,Cells.az h4 hk (by rw [dT];exact hn _ h3),h5.az hk (fun b hb=>hn _ (h6 b hb)),h6⟩⟩
theorem NS.mono(h:NS w F A n l)(hf:∀k,F k->F' k):NS w F' A n l:=⟨h.len,fun i nd hi=>by
 obtain⟨a,pA,pn,pc,h1,h2,h3,h4,h5,h6⟩:=h.at_ i nd hi;exact⟨a,pA,pn,pc,h1,h2,hf _ h3,h4,h5,fun b hb=>hf _ (h6 b hb)⟩⟩
theorem qZ{h:HT}{v:Value}{j:Nat}{u:Value}(hj:h.1[j]? =some u):(h.1.push v)[j]? =some u:=by
 have cH:=(Array.getElem?_eq_some_iff.1 hj).1;rw [Array.getElem?_push,if_neg (by omega),hj]
theorem mT(h:HT)(v:Value):(h.1.push v)[32]? =some v:=by
 have:=h.2.1;rw [Array.getElem?_push,if_pos (by omega)]
theorem NS.id(h:NS w F A n l){i:Int}{nd:DN}(h0:0<=i)(hx:l[i.toNat]? =some nd){k:Array Value->Prop}(hk:k nd.id.1):
 (0<=i/\i<(n:Int))/\Is A fun a=>∃t:Array Value,(t.size=32/\Cells w ((a.add (i.toNat*33)).add 0) t)/\k t:=by
 obtain⟨a,pA,pn,pc,rfl,_,_,h4,_,_⟩:=h.at_ _ nd hx;have:=(lgeS hx).1;have:=h.len;refine⟨⟨h0,by omega⟩,nd.id.1,⟨nd.id.2.1,fun j v hj=>?_⟩,hk⟩;rw [add_zero];exact h4 j v (qZ hj)
theorem NS.ps(h:NS w F A n l){i:Int}{nd:DN}(h0:0<=i)(hx:l[i.toNat]? =some nd){k:Option Addr->Nat->Nat->Prop}(hk:∀pA pn pc,HS w pA pn nd.ps->(∀b,pA=some b->F b.block)->k pA pn pc):
 (0<=i/\i<(n:Int))/\Is A fun a=>∃pA pn pc,w.cell? ((a.add (i.toNat*33)).add 32)=some (.slice pA pn pc)/\k pA pn pc:=by
 obtain⟨a,pA,pn,pc,rfl,_,_,h4,h5,h6⟩:=h.at_ _ nd hx;have:=(lgeS hx).1;have:=h.len;exact⟨⟨h0,by omega⟩,pA,pn,pc,h4 32 _ (mT _ _),hk _ _ _ h5 h6⟩
theorem NS.cells(h:NS w F A n l):∀k,k<=n->∃news:List Value,news.length=k*33/\(∀a,A=some a->∀j u,news[j]? =some u->w.cell? (a.add j)=some u)/\(∀u∈news,u.oneCell'=true)/\
 ∀(i:Nat) nd,i<k->l[i]? =some nd->∃pA pn pc,HS w pA pn nd.ps/\(∀b,pA=some b->F b.block)/\∀(j:Nat) v,(nd.id.1.push (.slice pA pn pc))[j]? =some v->news[i*33+j]? =some v
 |0,_=>⟨[],rfl,by simp,by simp,by intro i nd hi;omega⟩
 |k+1,hk=>by
  obtain⟨news,e1,e2,e3,e4⟩:=h.cells k (by omega);have hlen:=h.len;obtain⟨nd,dW⟩:∃nd,l[k]? =some nd:=⟨_,List.getElem?_eq_getElem (by omega)⟩;obtain⟨a,pA,pn,pc,hA,h2,h3,h4,h5,h6⟩:=h.at_ _ nd dW;have la:(nd.id.1.push (.slice pA pn pc)).size=33:=by rw [Array.size_push,nd.id.2.1]
  refine⟨news++(nd.id.1.push (.slice pA pn pc)).toList,by rw [List.length_append,e1,Array.length_toList,la];omega,fun a' Bp j u hj=>?_,fun u hu=>?_,fun i md hi xe=>?_⟩
  ·rw [List.getElem?_append]at hj
   split at hj
   ·exact e2 a' Bp j u hj
   ·rename_i gq
    rw [hA]at Bp;cases Bp;have:=h4 (j-news.length) u (by rw [<-Array.getElem?_toList];exact hj)
    rwa [jU,show k*33+(j-news.length)=j by omega]at this
  ·rw [List.mem_append]at hu
   rcases hu with hu|hu
   ·exact e3 u hu
   ·simp only [Array.toList_push,List.mem_append,List.mem_singleton]at hu
    rcases hu with hu|rfl
    ·exact nd.id.2.one u hu
    ·rfl
  ·by_cases hik:i<k
   ·obtain⟨qA,qn,qc,f1,f2,f3⟩:=e4 i md hik xe
    exact⟨qA,qn,qc,f1,f2,fun j v hj=>by
     have:=f3 j v hj;rw [List.getElem?_append_left (lgeS this).1];exact this⟩
   ·have:i=k:=by omega
    subst this;rw [dW]at xe;cases xe;exact⟨pA,pn,pc,h5,h6,fun j v hj=>by
     rw [List.getElem?_append_right (by omega),e1,show i*33+j-i*33=j by omega,Array.getElem?_toList];exact hj⟩
theorem ur:yA prog cu bM 33 56:=⟨by kernel_rfl,by kernel_rfl⟩
theorem Ek:Tp prog bM=some ([(0,32),(32,1)],List.replicate 32 (.int .u8 0)++ [.slice none 0 0]):=by kernel_rfl
theorem Gu(h:HT)(A:Option Addr)(n c:Nat):prog.built bM [(0,.agg h.1),(1,.slice A n c)]=some (h.1.push (.slice A n c)):=by
 have hs:=h.2.1;rw [ns Ek,iH (off:=0) (size:=32) rfl (by simpa [Value.cells]using hs) (by simp),iH (off:=32) (size:=1) rfl rfl (by
  rw [List.size_toArray,lO (by simp [Value.cells,hs])];simp)]
 simp only [Instr.fill,Option.some.injEq];apply Array.ext';unfold gH;simp [Value.cells,hs]
structure tT(w:World)(F:Nat->Prop)(r:Nat)(D:DG):Prop where
 ex:∃(A:Option Addr) (c:Nat) (cs:Array Value) (t:TypeId),w.heap[r]? =some (.cells cs t (0,0))/\cs[0]? =some (.slice A D.length c)/\NS w F A D.length D
 hU:¬F r
theorem tT.az{r:Nat}{D:DG}(h:tT w F r D)(hk:Kept S w w')(hr:¬S r)(hn:∀k,F k->¬S k):tT w' F r D:=by
 obtain⟨A,c,cs,t,h1,h0,h2⟩:=h.ex;exact⟨⟨A,c,cs,t,hk.heap h1 hr,h0,h2.az hk hn⟩,h.hU⟩
theorem tT.same{r:Nat}{D:DG}(h:tT w F r D)(hk:Kept Nil w w'):tT w' F r D:=h.az hk (fun h=>h) (fun _ _ h=>h)
theorem tT.lt{r:Nat}{D:DG}(h:tT w F r D):r<w.heap.size:=by obtain⟨A,c,cs,t,h1,_⟩:=h.ex;exact aO h1
theorem tT.go{r:Nat}{D:DG}(h:tT w F r D){k:Option Addr->Nat->Nat->Prop}(hk:∀A c,NS w F A D.length D->k A D.length c):
 ∃A n m,w.cell? ((⟨r,0,none⟩:Addr).add 0)=some (.slice A n m)/\k A n m:=by
 obtain⟨A,c,cs,t,h1,h0,h2⟩:=h.ex;exact⟨A,_,c,by rw [add_zero,ay h1];exact h0,hk A c h2⟩
theorem tT.go'{r:Nat}{D:DG}(h:tT w F r D)(kw:Kept Nil w w'){k:Option Addr->Nat->Nat->Prop}(hk:∀A c,NS w F A D.length D->k A D.length c):
 ∃A n m,w'.cell? ((⟨r,0,none⟩:Addr).add 0)=some (.slice A n m)/\k A n m:=by
 obtain⟨A,c,cs,t,h1,h0,h2⟩:=h.ex;exact⟨A,_,c,by rw [add_zero,ay (kw.heap h1 (fun h=>h))];exact h0,hk A c h2⟩
theorem NS.ps'(h:NS w F A n l)(kw:Kept Nil w w'){i:Int}{nd:DN}(h0:0<=i)(hx:l[i.toNat]? =some nd){k:Option Addr->Nat->Nat->Prop}(hk:∀pA pn pc,HS w pA pn nd.ps->k pA pn pc):
 (0<=i/\i<(n:Int))/\Is A fun a=>∃pA pn pc,w'.cell? ((a.add (i.toNat*33)).add 32)=some (.slice pA pn pc)/\k pA pn pc:=by
 obtain⟨a,pA,pn,pc,rfl,_,_,h4,h5,h6⟩:=h.at_ _ nd hx;have:=(lgeS hx).1;have:=h.len;exact⟨⟨h0,by omega⟩,pA,pn,pc,(kw.cell (h4 32 _ (mT _ _)) (fun h=>h)),hk _ _ _ h5⟩
def Ha(D:DG)(h:HT):Int:=match pos h (ids D) 0 with|some j=>(j:Int)|none=> -1
theorem rR{D:DG}{h:HT}:Ha D h<0↔h∉ids D:=by
 unfold Ha;rw [<-oY (l:=ids D) (i:=0)];cases hp:pos h (ids D) 0<;>simp
theorem sT{D:DG}{h:HT}:Ha D h>=0↔h∈ids D:=by
 have:= @rR D h;constructor
 ·intro hg;exact Classical.byContradiction fun hn=>by have:=this.2 hn;omega
 ·intro hm;exact Classical.byContradiction fun hn=>this.1 (by omega) hm
theorem M1{D:DG}{h:HT}(hm:h∈ids D):∃nd,Ha D h>=0/\D[(Ha D h).toNat]? =some nd/\nd.id=h:=by
 have h1:=sT.2 hm;unfold Ha at*;cases hp:pos h (ids D) 0 with
 |none=>rw [hp]at h1;simp at h1
 |some j=>
  obtain⟨_,h2⟩:=uD hp;obtain⟨nd,h3,h4⟩:=IM h2;exact⟨nd,by simp,by simpa using h3,h4⟩
theorem x5{D:DG}{i:Nat}{nd:DN}(h:D[i]? =some nd):(ids D).take (i+1)=(ids D).take i++ [nd.id]:=by
 rw [List.take_add_one,pK h];rfl
theorem wF{h:HT}:∀ {l:List HT} {i k:Nat},h∉l.take k->l[k]? =some h->pos h l i=some (i+k)
 | [],_,_,_,e=>by simp at e
 |x::l,i,0,_,e=>by
  simp only [List.getElem?_cons_zero,Option.some.injEq]at e;unfold pos;rw [if_pos e.symm,Nat.add_zero]
 |x::l,i,k+1,hn,e=>by
  simp only [List.getElem?_cons_succ]at e;rw [List.take_succ_cons,List.mem_cons,not_or]at hn;unfold pos;rw [if_neg hn.1,wF (i:=i+1) hn.2 e]
  congr 1
  omega
variable{r:Nat}{D:DG}{K:Value->World->Prop}
theorem oT(H:tT w F r D)(hD:D.length<=1000000)(h:HT)(hK:∀w',Kept Nil w w'->K (.int .i64 (Ha D h)) w'):
 bj prog bu.id #[.pointer (some ⟨r,0,none⟩),.agg h.1] w K:=by
 refine bu.of ?_;unfold bu.W;intro w3;have k3:Kept Nil w w3:=(Kept.refl Nil w).alloc _;have pN:w3.heap[w.heap.size]? =some (.cells h.1 aj (0,0)):=aH w _;clear_value w3;refine bu.b6 (I:=fun s w'=>∃i:Nat,s=(0,(i:Int))/\i<=D.length/\Kept Nil w3 w'/\h∉(ids D).take i) (μ:=fun s _=>((D.length:Int)-s.2).toNat) (s:=(0,0)) ⟨0,rfl,Nat.zero_le _,Kept.refl _ _,by simp⟩ ?_;rintro s w' ⟨i,rfl,hi,kw,mZ⟩;have kk:Kept Nil w w':=k3.tt kw;refine(H.same kk).go fun A c qS=>?_;refine Split.dec (fun jc=>?_) (fun gq=>?_)
 ·simp only at jc
  have dQ:i<D.length:=by omega
  obtain⟨nd,dW⟩:∃nd,D[i]? =some nd:=⟨_,List.getElem?_eq_getElem dQ⟩;intro w10;have me:Kept Nil w3 w10:=kw.drew;have FD:Kept Nil w w10:=k3.tt me;clear_value w10;refine(H.same FD).go fun A c qS=>?_;refine qS.id (i:=(i:Int)) (by omega) (by rw [Int.toNat_natCast];exact dW) ⟨h.1,⟨h.2.1,Cells.bz (me.heap pN (fun h=>h))⟩,⟨nd.id.2.ints,h.2.ints⟩,?_⟩;rw [dL];refine Split.dec (fun he=>?_) (fun he=>?_)
  ·have:=hK w10 FD
   unfold Ha at this;rw [wF (i:=0) mZ (by rw [<-he];exact pK dW),Nat.zero_add]at this;exact this
  ·simp only
   rw [dw (n:=(i:Int)) (by omega) (by omega)];refine⟨(0,(i:Int)+1),rfl,⟨i+1,rfl,dQ,me,?_⟩,by simp only;omega⟩;rw [x5 dW,List.mem_append,List.mem_singleton,not_or];exact⟨mZ,fun e=>he e.symm⟩
 ·simp only at gq
  rw [aP,bu.cX];rw [List.take_of_length_le (by rw [fX];omega)]at mZ;have:=hK w' kk;unfold Ha at this;rw [oY.2 mZ]at this;exact this
end
section
variable{w w':World}{F F' S:Nat->Prop}{A:Option Addr}{n c B:Nat}{l:List DN}{news:List Value}{r:Nat}{D:DG}{K:Value->World->Prop}
theorem Fp(h:Row w B bM 33 A n c news)(hl:l.length=n)(hF:∀k,aW A=some k->F k)
 (hc:∀(i:Nat) nd,l[i]? =some nd->∃pA pn pc,HS w pA pn nd.ps/\(∀b,pA=some b->F b.block)/\∀(j:Nat) v,(nd.id.1.push (.slice pA pn pc))[j]? =some v->news[i*33+j]? =some v):NS w F A n l:=
 ⟨hl,fun i nd hi=>by
   obtain⟨pA,pn,pc,h1,h2,h3⟩:=hc i nd hi;have:=(lgeS hi).1;obtain⟨b,rfl⟩:=Row.some h (by omega);obtain⟨_,cur,lr⟩:=Row.bz h (k:=b) rfl;exact⟨_,pA,pn,pc,rfl,aO lr,hF b rfl,fun j v hj=>by rw [jU];exact Row.cells h _ _ (h3 j v hj),h1,h2⟩⟩
theorem xA(h:NS w F A n l){cx:Nat}(h0:0<n)(hn:n<=100000):
 ∃A' c' w' news,(Builtin.append_ #[cu,cu] cu #[.slice none 0 0,.slice A n cx]).run prog w=.ok (.slice A' n c') w'/\
  Row w' w.heap.size bM 33 A' n c' news/\Kept Nil w w'/\
  ∀(i:Nat) nd,l[i]? =some nd->∃pA pn pc,HS w pA pn nd.ps/\(∀b,pA=some b->F b.block)/\∀(j:Nat) v,(nd.id.1.push (.slice pA pn pc))[j]? =some v->news[i*33+j]? =some v:=by
 obtain⟨news,e1,e2,e3,e4⟩:=h.cells n (Nat.le_refl _);have hlen:=h.len;obtain⟨nd,dW⟩:∃nd,l[0]? =some nd:=⟨_,List.getElem?_eq_getElem (by omega)⟩;obtain⟨a,_,_,_,rfl,_⟩:=h.at_ _ nd dW;obtain⟨A',c',w',hr,eI,hg,hb⟩:=dS (P:=prog) (t:=cu) (ty:=cu) (bytes:=56) ur (Row.nil w w.heap.size _ _) (a:=a) (m:=n) (cx:=cx) (news:=news) e1 (e2 a rfl) e3 (by omega) (by unfold maxLen;omega) (Nat.le_refl _);rw [Nat.zero_add]at hr eI;rw [List.nil_append]at eI;exact⟨A',c',w',news,hr,eI,Kept.eA (Kept.refl _ _) hg (fun k hk=>by cases hk),fun i nd hi=>e4 i nd (by have:=(lgeS hi).1;omega) hi⟩
theorem xC(h:Row w B bM 33 A n c news)(hn:n<=100000)(hB:B<=w.heap.size){b:Nat}{arr:Array Value}(hb:w.heap[b]? =some (.cells arr bM (0,0)))(hs:arr.size=33)(h1:∀u∈arr.toList,u.oneCell'=true):
 ∃A' c' w',(Builtin.append_ #[cu,cu] cu #[.slice A n c,.slice (some ⟨b,0,none⟩) 1 1]).run prog w=.ok (.slice A' (n+1) c') w'/\
  Row w' B bM 33 A' (n+1) c' (news++arr.toList)/\w.grownBy w' (aW A):=by
 obtain⟨A',c',w',hr,eI,hg,hb⟩:=dS (P:=prog) (t:=cu) (ty:=cu) (bytes:=56) ur h (a:=⟨b,0,none⟩) (m:=1) (cx:=1) (news:=arr.toList) (by simpa using hs)
  (fun j u hj=>by rw [a8,Nat.zero_add,ay hb];simpa using hj) h1 (by omega) (by unfold maxLen;omega) hB
 exact⟨A',c',w',hr,eI,hg⟩
theorem Lo{nd:DN}{pA:Option Addr}{pn pc:Nat}(h:Row w B bM 33 A (n+1) c (news++(nd.id.1.push (.slice pA pn pc)).toList))(wZ:news.length=n*33)(hl:l.length=n)(hF:∀k,aW A=some k->F k)
 (hc:∀(i:Nat) nd,l[i]? =some nd->∃pA pn pc,HS w pA pn nd.ps/\(∀b,pA=some b->F b.block)/\∀(j:Nat) v,(nd.id.1.push (.slice pA pn pc))[j]? =some v->news[i*33+j]? =some v)
 (hp:HS w pA pn nd.ps) (KE:∀b,pA=some b->F b.block):NS w F A (n+1) (l++ [nd]):=by
 refine Fp h (by simp [hl]) hF fun i md hi=>?_;rw [List.getElem?_append]at hi;split at hi
 ·obtain⟨qA,qn,qc,h1,h2,h3⟩:=hc i md hi
  exact⟨qA,qn,qc,h1,h2,fun j v hj=>by
   have:=h3 j v hj;rw [List.getElem?_append_left (lgeS this).1];exact this⟩
 ·rename_i gq
  have F7:i=n/\md=nd:=by
   cases hk:i-l.length with
   |zero=>rw [hk]at hi;exact⟨by omega,by simpa using hi.symm⟩
   |succ k=>rw [hk]at hi;simp at hi
  obtain⟨rfl,rfl⟩:=F7;exact⟨pA,pn,pc,hp,KE,fun j v hj=>by
   rw [List.getElem?_append_right (by omega),wZ,show i*33+j-i*33=j by omega,Array.getElem?_toList];exact hj⟩
theorem NS.same(h:NS w F A n l)(hk:Kept Nil w w'):NS w' F A n l:=h.az hk fun _ _ h=>h
theorem tT.mono(h:tT w F r D)(hf:∀k,F k->F' k)(hr:¬F' r):tT w F' r D:=by
 obtain⟨A,c,cs,t,h1,h0,h2⟩:=h.ex;exact⟨⟨A,c,cs,t,h1,h0,h2.mono hf⟩,hr⟩
theorem zl(h:HT)(A:Option Addr)(n c:Nat):∀u∈(h.1.push (.slice A n c)).toList,u.oneCell'=true:=fun u hu=>by
 simp only [Array.toList_push,List.mem_append,List.mem_singleton]at hu;rcases hu with hu|rfl
 ·exact h.2.one u hu
 ·rfl
theorem Dz(H:tT w F r D)(W:jC D)(hD:D.length<=10000){h:HT}{lp:List HT}{A:Option Addr}{n c:Nat}(hl:HS w A n lp)(hn:n<=400000)
 (hK:∀w',tT w' (fun k=>F k\/(w.heap.size<=k/\k<w'.heap.size)) r (mn D h lp)->Kept (· =r) w w'->K (.int .i64 (du D h lp)) w'):
 bj prog bn.id #[.pointer (some ⟨r,0,none⟩),.agg h.1,.slice A n c] w K:=by
 have aca:=H.lt;have hlen:=hl.len;have mZ:∀w',Kept Nil w w'->∀e,du D h lp=e->e≠0->K (.int .i64 e) w':=fun w' k e he fD=>by
  have:=hK w' ?_ (k.mono fun _ _ h=>h.elim)
  ·rw [he]at this;exact this
  ·unfold mn
   rw [if_neg (by rw [he];exact fD)];exact(H.same k).mono (fun _ h=>.inl h) (fun e=>e.elim H.hU (fun h=>absurd h.1 (by omega)))
 refine bn.of ?_;unfold bn.W;intro w4;have k4:Kept Nil w w4:=(Kept.refl _ _).alloc _;have rX:w4.heap[w.heap.size]? =some (.cells h.1 aj (0,0)):=aH w _;clear_value w4;refine⟨h.1,⟨h.2.1,Cells.bz rX⟩,oT (H.same k4) (by omega) h fun w7 k7=>⟨_,rfl,Split.dec (fun gq=>?_) (fun Q1=>?_)⟩⟩
 ·refine mZ w7 (k4.tt k7) 7 ?_ (by omega)
  unfold du;rw [if_pos (sT.1 gq)]
 have yf:h∉ids D:=fun hm=>Q1 (sT.2 hm);have BS:Kept Nil w w7:=k4.tt k7;refine qu (hl.same BS) hn fun He KO w10 Dy me=>⟨He,_,KO,rfl,?_⟩;have FD:Kept Nil w w10:=BS.tt me;have DU:(dv lp).length<=n:=by have:=pE lp;omega
 by_cases h0:(dv lp).length=0
 ·refine Split.yes (by simp [h0]) ?_
  refine mZ w10 FD 9 ?_ (by omega);unfold du;rw [if_neg yf,if_pos (.inl h0)]
 refine Split.no (beq_eq_false_iff_ne.2 (by omega)) ?_;by_cases h1:(dv lp).length≠n
 ·refine Split.yes (bne_iff_ne.2 (by omega)) ?_
  refine mZ w10 FD 9 ?_ (by omega);unfold du;rw [if_neg yf,if_pos (.inr (by omega))]
 replace h1:(dv lp).length=n:=by omega
 refine Split.no (by rw [h1];simp) ?_;refine bn.b6 (I:=fun s w'=>∃i:Nat,s=(0,(i:Int))/\i<=(dv lp).length/\(∀p∈(dv lp).take i,p∈ids D)/\Kept Nil w10 w') (μ:=fun s _=>(((dv lp).length:Int)-s.2).toNat) (s:=(0,0)) ⟨0,rfl,Nat.zero_le _,by simp,Kept.refl _ _⟩ ?_;rintro s w' ⟨i,rfl,hi,cZ,kw⟩;have kk:Kept Nil w w':=FD.tt kw;have aaQ:bL w' w7.heap.size He (dv lp).length KO (dv lp):=Row.az Dy kw (fun _ _ h=>h);refine Split.dec (fun jc=>?_) (fun gq=>?_)
 ·simp only at jc
  have dQ:i<(dv lp).length:=by omega
  obtain⟨x,hx⟩:∃x,(dv lp)[i]? =some x:=⟨_,List.getElem?_eq_getElem dQ⟩;refine aaQ.hs.load (i:=(i:Int)) (by omega) hx (oT (H.same kk) (by omega) x fun w2 k2=>⟨_,rfl,Split.dec (fun z7=>?_) (fun iq=>?_)⟩)
  ·have Zo:=rR.1 z7
   refine mZ w2 (kk.tt k2) 6 ?_ (by omega);unfold du;rw [if_neg yf,if_neg (by omega),if_pos ⟨x,List.mem_of_getElem? hx,Zo⟩]
  ·simp only
   rw [dw (n:=(i:Int)) (by omega) (by omega)];refine⟨(0,(i:Int)+1),rfl,⟨i+1,rfl,dQ,fun p hp=>?_,kw.tt k2⟩,by simp only;omega⟩;rcases(bJ hx).1 hp with hp|rfl
   ·exact cZ p hp
   ·exact sT.1 (by omega)
 ·simp only at gq
  rw [List.take_of_length_le (by omega)]at cZ;have Rx:du D h lp=0:=by
   unfold du;rw [if_neg yf,if_neg (by omega),if_neg (fun⟨p,hp,I8⟩=>I8 (cZ p hp))]
  have hD':mn D h lp=D++ [⟨h,dv lp⟩]:=by unfold mn;rw [if_pos Rx]
  rw [Rx,hD']at hK;have O1:=W.pos;rw [aP,bn.cX];unfold bn.cI;intro Dg;have GQ:Kept Nil w Dg:=kk.drew;have IH:Kept Nil w10 Dg:=kw.drew;have ake:Dg.heap=w'.heap:=rfl;clear_value Dg;have XE:Dg.heap[w.heap.size]? =some (.cells h.1 aj (0,0)):=(IH.heap (me.heap (k7.heap rX (fun h=>h)) (fun h=>h)) (fun h=>h));obtain⟨A,c,am1,t27,IU,Xi,qS⟩:=(H.same GQ).ex;refine⟨A,_,c,by rw [add_zero,ay IU];exact Xi,h.1,⟨h.2.1,Cells.bz XE⟩,?_⟩;rw [Gu];have la:(h.1.push (.slice He (dv lp).length KO)).size=33:=by rw [Array.size_push,h.2.1]
  have alj:∀ {v},Kept Nil w v->w.heap.size<=v.heap.size:=fun k=>k.size;have RX:∀b,He=some b->w.heap.size<=b.block:=fun b hb=>Nat.le_trans BS.size (Row.bz Dy (k:=b.block) (by rw [hb];rfl)).1;have Mx:∀(A':Option Addr) (c':Nat) (v:World) (news:List Value),Row v Dg.heap.size bM 33 A' (D.length+1) c' (news++(h.1.push (.slice He (dv lp).length KO)).toList)->news.length=D.length*33->Kept Nil Dg v->
   (∀(i:Nat) nd,D[i]? =some nd->∃pA pn pc,HS v pA pn nd.ps/\(∀b,pA=some b->F b.block)/\∀(j:Nat) u,(nd.id.1.push (.slice pA pn pc))[j]? =some u->news[i*33+j]? =some u)->
   Wr v ((⟨r,0,none⟩:Addr).add 0)/\K (.int .i64 0) (v.setCell ((⟨r,0,none⟩:Addr).add 0) (.slice A' (D.length+1) c')):=by
   intro A' c' v news eI wZ kv vc;have PV:Kept Nil w v:=GQ.tt kv;obtain⟨A0,c0,cs0,t0,gJ,adU,_⟩:=(H.same PV).ex;have OC:=(Array.getElem?_eq_some_iff.1 adU).1;rw [add_zero];have k3:Kept (· =r) v (v.setCell ⟨r,0,none⟩ (.slice A' (D.length+1) c')):=Kept.setCell (S:=fun k=>k=r) (Kept.refl _ v) (p:=⟨r,0,none⟩) (fun _=>rfl) _;refine⟨dJ gJ OC,hK _ ⟨⟨A',c',cs0.setIfInBounds 0 (.slice A' (D.length+1) c'),t0,?_,?_,?_⟩,fun e=>e.elim H.hU (fun h=>absurd h.1 (by omega))⟩ ((PV.mono (S':=fun k=>k=r) (fun _ _ h=>h.elim)).tt k3)⟩
   ·rw [cV gJ 0]
   ·rw [List.length_append]
    simp [OC]
   ·have Cg:=k3.size
    have Yl:∀b,He=some b->b.block<v.heap.size:=fun b hb=>by
     obtain⟨_,cur,hc⟩:=Row.bz Dy (k:=b.block) (by rw [hb];rfl);have:=aO hc;have:=IH.size;have:=kv.size;omega
    have QU:=Lo (F:=fun k=>F k\/(w.heap.size<=k/\k<(v.setCell ⟨r,0,none⟩ (.slice A' (D.length+1) c')).heap.size)) (nd:=⟨h,dv lp⟩) eI wZ rfl (fun k hk=>by
     obtain⟨h1,cur,hc⟩:=Row.bz eI hk;have:=aO hc;have:=GQ.size;exact .inr ⟨by omega,by omega⟩) (fun i nd hi=>by
     obtain⟨pA,pn,pc,h1,h2,h3⟩:=vc i nd hi;exact⟨pA,pn,pc,h1,fun b hb=>.inl (h2 b hb),h3⟩) ((Dy.hs.same IH).same kv) (fun b hb=>.inr ⟨RX b hb,by have:=Yl b hb;omega⟩)
    have:=QU.az k3 (fun k hk e=>by
     subst e;rcases hk with hk|hk
     ·exact H.hU hk
     ·omega)
    rw [List.length_append];exact this
  refine⟨?_,?_⟩
  ·obtain⟨A1,c1,nJ,news,lf,ke,wT,vc⟩:=xA qS (cx:=c) O1 (by omega)
   refine⟨A1,_,c1,nJ,lf,⟨h.1,rfl,h.2.1,Cells.bz (wT.heap XE (fun h=>h))⟩,la,?_⟩;intro nI;have abV:nI=nJ.alloc (.cells (h.1.push (.slice He (dv lp).length KO)) bM):=by
    show nJ.alloc (.cells ((h.1.push (.slice He (dv lp).length KO)).toList++ []).toArray bM)=_
    rw [List.append_nil,Array.toArray_toList]
   have Bg:Kept Nil nJ nI:=(Kept.refl _ _).alloc _;have XC:nI.heap[nJ.heap.size]? =some (.cells (h.1.push (.slice He (dv lp).length KO)) bM (0,0)):=by rw [abV];exact aH nJ _
   clear_value nI;have zh:=Row.az ke Bg (fun _ _ h=>h);obtain⟨A2,c2,pU,jj,fW,Mw⟩:=xC zh (by omega) (Nat.le_trans wT.size Bg.size) XC la (zl _ _ _ _);have rV:Kept Nil Dg pU:=Kept.eA (wT.tt Bg) Mw (fun k hk=>(Row.bz ke hk).1);refine⟨A2,_,c2,pU,jj,?_⟩;exact Mx A2 c2 pU news fW (Row.len ke) rV (fun i nd hi=>by
    obtain⟨pA,pn,pc,h1,h2,h3⟩:=vc i nd hi;exact⟨pA,pn,pc,h1.same rV,h2,h3⟩)
  ·refine⟨la,?_⟩
   intro GM;have abU:GM=Dg.alloc (.cells (h.1.push (.slice He (dv lp).length KO)) bM):=by
    show Dg.alloc (.cells ((h.1.push (.slice He (dv lp).length KO)).toList++ []).toArray bM)=_
    rw [List.append_nil,Array.toArray_toList]
   have It:Kept Nil Dg GM:=(Kept.refl _ _).alloc _;have MA:GM.heap[Dg.heap.size]? =some (.cells (h.1.push (.slice He (dv lp).length KO)) bM (0,0)):=by rw [abU];exact aH Dg _
   clear_value GM;refine⟨by rw [add_zero,ay (It.heap IU (fun h=>h))];exact Xi,?_⟩;obtain⟨A1,c1,Df,news,lf,ke,P7,vc⟩:=xA (qS.same It) (cx:=c) O1 (by omega);have Xz:=P7.heap MA (fun h=>h);obtain⟨A2,c2,Hl,jj,fW,Mw⟩:=xC ke (by omega) P7.size Xz la (zl _ _ _ _);have UN:Kept Nil GM Hl:=Kept.eA P7 Mw (fun k hk=>(Row.bz ke hk).1);have k43:Kept Nil Dg Hl:=It.tt UN;refine⟨A1,_,c1,Df,lf,A2,_,c2,Hl,jj,?_⟩;exact Mx A2 c2 Hl news (Row.base fW fun k hk=>Nat.le_trans It.size (Row.bz fW hk).1) (Row.len ke) k43 (fun i nd hi=>by
    obtain⟨pA,pn,pc,h1,h2,h3⟩:=vc i nd hi;exact⟨pA,pn,pc,h1.same UN,h2,h3⟩)
end
theorem sy:∀ {l m:List HT},l.Nodup->(∀x∈l,x∈m)->l.length<=m.length
 | [],_,_,_=>Nat.zero_le _
 |x::l,m,hn,h=>by
  rw [List.nodup_cons]at hn;have hx:=h x (by simp);have:=sy (l:=l) (m:=m.erase x) hn.2 (fun y hy=>by
   have fD:y≠x:=fun e=>hn.1 (e▸hy);exact(List.mem_erase_of_ne fD).2 (h y (by simp [hy])))
  rw [List.length_erase_of_mem hx]at this;have iq:0<m.length:=List.length_pos_of_mem hx;simp only [List.length_cons];omega
structure PB(w0 w':World)(D:DG)(l out:List HT)(A1:Option Addr)(c1:Nat)(A2:Option Addr)(c2:Nat):Prop where
 r1:bL w' w0.heap.size A1 out.length c1 out
 r2:bL w' w0.heap.size A2 (l.length+out.length) c2 (l++out)
 ap:∀k,aW A1=some k->aW A2≠some k
 nd:out.Nodup
 GA:∀x∈out,∃h∈l,fC D x h
 kp:Kept Nil w0 w'
section
variable{w w' lK:World}{F S:Nat->Prop}{D:DG}{l out:List HT}{A1 A2:Option Addr}{c1 c2 r:Nat}{K:Value->World->Prop}
theorem PB.same(h:PB w w' D l out A1 c1 A2 c2)(k:Kept Nil w' lK):PB w lK D l out A1 c1 A2 c2:=
 ⟨Row.az h.r1 k (fun _ _ h=>h),Row.az h.r2 k (fun _ _ h=>h),h.ap,h.nd,h.GA,h.kp.tt k⟩
theorem PB.len(h:PB w w' D l out A1 c1 A2 c2)(W:jC D):out.length<=D.length:=by
 rw [<-fX D];exact sy h.nd fun x hx=>by obtain⟨_,_,ha⟩:=h.GA x hx;exact(ha.mem W).1
theorem jA(w:World)(x:HT):HS (w.alloc (.cells (x.1.toList++ []).toArray aj)) (some ⟨w.heap.size,0,none⟩) 1 [x]:=by
 refine HS.one (t:=aj) (fr:=(0,0)) ?_;rw [List.append_nil,Array.toArray_toList];exact aH w _
theorem PB.add(h:PB w w' D l out A1 c1 A2 c2){x:HT}(hx:x∉out)(ha:∃h∈l,fC D x h)(hb:l.length+out.length<=500000):
 ∃Kv G9 v,(Builtin.append_ #[aA,aA] aA #[.slice A1 out.length c1,.slice (some ⟨w'.heap.size,0,none⟩) 1 1]).run prog (w'.alloc (.cells (x.1.toList++ []).toArray aj))=.ok (.slice Kv (out.length+1) G9) v/\Kept (fun k=>w.heap.size<=k) w' v/\
 ∃Hc yK u,(Builtin.append_ #[aA,aA] aA #[.slice A2 (l.length+out.length) c2,.slice (some ⟨v.heap.size,0,none⟩) 1 1]).run prog (v.alloc (.cells (x.1.toList++ []).toArray aj))=.ok (.slice Hc (l.length+out.length+1) yK) u/\
  PB w u D l (out++ [x]) Kv G9 Hc yK:=by
 have hkw:=h.kp.size;have k1:Kept Nil w' (w'.alloc (.cells (x.1.toList++ []).toArray aj)):=(Kept.refl _ _).alloc _;have yc:=jA w' x;generalize w'.alloc (.cells (x.1.toList++ []).toArray aj)=w1 at k1 yc⊢;have r1:bL w1 w.heap.size A1 out.length c1 out:=Row.az h.r1 k1 (fun _ _ h=>h);have akO:=k1.size;obtain⟨Kv,G9,v,lf,ke,hg1,yI⟩:=cO (cx:=1) aA r1 yc (by omega) (by omega);have kv1:Kept (fun k=>aW A1=some k) w1 v:=Kept.grown (Kept.refl _ _) hg1 (fun k hk _=>hk);have hA1:∀k,aW A1=some k->w.heap.size<=k/\k<w'.heap.size:=fun k hk=>by
  obtain⟨h1,cur,hc⟩:=Row.bz h.r1 hk;exact⟨h1,aO hc⟩
 have Yk:∀k,aW A2=some k->w.heap.size<=k/\k<w'.heap.size:=fun k hk=>by
  obtain⟨h1,cur,hc⟩:=Row.bz h.r2 hk;exact⟨h1,aO hc⟩
 have kv:Kept (fun k=>w.heap.size<=k) w' v:=(k1.mono (fun _ _ h=>h.elim)).trans kv1 (fun k _ e=>(hA1 k e).1);refine⟨Kv,G9,v,lf,kv,?_⟩;have k2:Kept Nil v (v.alloc (.cells (x.1.toList++ []).toArray aj)):=(Kept.refl _ _).alloc _;have Ci:=jA v x;generalize v.alloc (.cells (x.1.toList++ []).toArray aj)=w2 at k2 Ci⊢;have r2v:bL v w.heap.size A2 (l.length+out.length) c2 (l++out):=Row.az (Row.az h.r2 k1 (fun _ _ h=>h)) kv1 (fun k hk e=>h.ap k e hk);have r2:bL w2 w.heap.size A2 (l.length+out.length) c2 (l++out):=Row.az r2v k2 (fun _ _ h=>h);have L4:=kv1.size;have akM:=k2.size;obtain⟨Hc,yK,u,jj,fW,Mw,mu⟩:=cO (cx:=1) aA r2 Ci (by omega) (by omega);have ku:Kept (fun k=>aW A2=some k) w2 u:=Kept.grown (Kept.refl _ _) Mw (fun k hk _=>hk);have aeK:∀k,aW Kv=some k->k<v.heap.size:=fun k hk=>by
  obtain⟨_,cur,hc⟩:=Row.bz ke hk;exact aO hc
 have XL:∀k,aW Kv=some k->aW A2≠some k:=fun k hk e=>by
  rcases yI k hk with h'|h'
  ·exact h.ap k h' e
  ·have:=(Yk k e).2;omega
 have T5:bL u w.heap.size Kv (out.length+1) G9 (out++ [x]):=Row.az (Row.az ke k2 (fun _ _ h=>h)) ku (fun k hk e=>XL k hk e);refine⟨Hc,yK,u,jj,?_⟩;refine⟨?_,?_,fun k hk e=>?_,?_,fun y hy=>?_,?_⟩
 ·rw [List.length_append];exact T5
 ·rw [List.length_append,<-List.append_assoc,List.length_singleton,<-Nat.add_assoc];exact fW
 ·rcases mu k e with h'|h'
  ·exact XL k hk h'
  ·have:=aeK k hk;omega
 ·rw [List.nodup_append]
  exact⟨h.nd,by simp,fun u hu v hv e=>hx (by rw [List.mem_singleton]at hv;rw [<-hv,<-e];exact hu)⟩
 ·rw [List.mem_append,List.mem_singleton]at hy
  rcases hy with hy|rfl
  ·exact h.GA y hy
  ·exact ha
 ·exact((h.kp.trans kv (fun k hk e=>absurd hk (by omega))).tt k2).trans ku (fun k hk e=>absurd (Yk k e).1 (by omega))
theorem Fj(W:jC D){l out:List HT}(ha:∀x∈out,∃h∈l,fC D x h)(hc:∀h∈l++out,∀p,nM D p h->p∈out):dv out=dY D l:=by
 refine DC fun a=>⟨fun h=>?_,fun⟨_,h,hl,han⟩=>?_⟩
 ·obtain⟨b,hb,lG⟩:=ha a h
  exact⟨(lG.mem W).1,b,hb,lG⟩
 ·have key:∀ {a h},fC D a h->h∈l++out->a∈out:=by
   intro a h han
   induction han with
   |one hp=>exact fun hm=>hc _ hm _ hp
   |more _ hp ih=>exact fun hm=>ih (by rw [List.mem_append];exact .inr (hc _ hm _ hp))
  exact key han (by rw [List.mem_append];exact .inl hl)
theorem zk(H:tT w F r D)(W:jC D)(hD:D.length<=10000){A:Option Addr}{n c:Nat}(hl:HS w A n l)(hn:n<=10000)
 (hK:∀A' c' w',bL w' w.heap.size A' (dY D l).length c' (dY D l)->Kept Nil w w'->K (.slice A' (dY D l).length c') w'):
 bj prog aF.id #[.pointer (some ⟨r,0,none⟩),.slice A n c] w K:=by
 refine aF.of ?_;unfold aF.W;have hlen:=hl.len;obtain⟨A4,c4,w4,vG,jR,D9,rX⟩:=cO (cx:=c) aA (bL.nil w w.heap.size) hl (by omega) (Nat.le_refl _);rw [Nat.zero_add]at vG jR;rw [List.nil_append]at jR;have k4:Kept Nil w w4:=Kept.eA (Kept.refl _ _) D9 (fun k hk=>by cases hk);refine⟨A4,n,c4,w4,vG,?_⟩;refine aF.b6 (I:=fun s w'=>∃(i:Nat) (out:List HT) (A1:Option Addr) (c1:Nat) (A2:Option Addr) (c2:Nat),s=(A1,out.length,c1,A2,n+out.length,c2,(i:Int))/\PB w w' D l out A1 c1 A2 c2/\i<=n+out.length/\∀h∈(l++out).take i,∀p,nM D p h->p∈out)
  (μ:=fun s _=>((n:Int)+D.length-s.2.2.2.2.2.2).toNat) (s:=(none,0,0,A4,n,c4,0))
  ⟨0,[],none,0,A4,c4,by simp,⟨bL.nil _ _,by simpa [hlen]using jR,(fun k hk=>by cases hk),List.Pairwise.nil,by simp,k4⟩,by omega,by simp⟩ ?_
 rintro s w' ⟨i,out,A1,c1,A2,c2,rfl,Cp,hi,qH⟩;have hol:=Cp.len W;have jj:=Cp.r2;rw [hlen]at jj;refine Split.dec (fun jc=>?_) (fun gq=>?_)
 ·simp only at jc
  have dQ:i<n+out.length:=by omega
  obtain⟨h,hh⟩:∃h,(l++out)[i]? =some h:=⟨_,List.getElem?_eq_getElem (by simp;omega)⟩;refine jj.hs.load (i:=(i:Int)) (by omega) hh (oT (H.same Cp.kp) (by omega) h fun lh tI=>⟨_,rfl,Split.dec (fun z7=>?_) (fun iq=>?_)⟩)
  ·simp only
   rw [dw (n:=(i:Int)) (by omega) (by omega)];refine⟨(A1,out.length,c1,A2,n+out.length,c2,(i:Int)+1),rfl,⟨i+1,out,A1,c1,A2,c2,rfl,Cp.same tI,by omega,fun x hx p hp=>?_⟩,by simp only;omega⟩;rcases(bJ hh).1 hx with hx|rfl
   ·exact qH x hx p hp
   ·exact absurd (fC.mem W (.one hp)).2 (rR.1 z7)
  ·have ig:h∈ids D:=sT.1 (by omega)
   obtain⟨nd,h1,h2,h3⟩:=M1 ig;have DX:=Cp.same tI;have H13:=H.same DX.kp;have Cy:∃b∈l,h=b\/fC D h b:=by
    have hm:=List.mem_of_getElem? hh;rw [List.mem_append]at hm;rcases hm with hm|hm
    ·exact⟨h,hm,.inl rfl⟩
    ·obtain⟨b,hb,lG⟩:=Cp.GA h hm
     exact⟨b,hb,.inr lG⟩
   have lF:∀p,nM D p h↔p∈nd.ps:=fun p=>by
    constructor
    ·rintro⟨md,xe,e,hp⟩
     obtain⟨j,hj⟩:=List.mem_iff_getElem?.1 xe;have:=W.inj hj h2 (by rw [e,h3]);subst this;rw [h2]at hj;cases hj;exact hp
    ·exact fun hp=>⟨nd,List.mem_of_getElem? h2,h3,hp⟩
   have qk:nd.ps.length<=D.length:=by
    rw [<-fX D];exact sy (W.ss nd (List.mem_of_getElem? h2)).nodup fun x hx=>(fC.mem W (.one ((lF x).2 hx))).1
   refine H.go' DX.kp fun A c qS=>qS.ps' DX.kp h1 h2 fun pA pn pc o8=>?_;have I8:=o8.len;refine aF.gI (I:=fun s w'=>∃(k:Nat) (mE:List HT) (A1:Option Addr) (c1:Nat) (A2:Option Addr) (c2:Nat),s=(A1,mE.length,c1,A2,n+mE.length,c2,(k:Int))/\PB w w' D l mE A1 c1 A2 c2/\k<=pn/\(∃m,mE=out++m)/\(∀p∈nd.ps.take k,p∈mE))
    (μ:=fun s _=>((pn:Int)-s.2.2.2.2.2.2).toNat) (s:=(A1,out.length,c1,A2,n+out.length,c2,0)) ⟨0,out,A1,c1,A2,c2,rfl,DX,Nat.zero_le _,⟨[],by simp⟩,by simp⟩ ?_
   rintro s w1 ⟨k,mE,B1,d1,B2,d2,rfl,hq,hk,⟨m,hm⟩,fN⟩;have ak1:=hq.len W;refine Split.dec (fun Q9=>?_) (fun Rj=>?_)
   ·simp only at Q9
    have yh:k<pn:=by omega
    obtain⟨p,hp⟩:∃p,nd.ps[k]? =some p:=⟨_,List.getElem?_eq_getElem (by omega)⟩;have VP:=List.mem_of_getElem? hp;refine(o8.same hq.kp).load (i:=(k:Int)) (by omega) hp (xM p hq.r1.hs (by simp only;omega) fun wx FI=>⟨_,rfl,?_⟩);have Mc:=hq.same FI;have akY:(nd.ps.length:Int)<=10000:=by omega
    by_cases vY:p∈mE
    ·refine Split.no (by rw [decide_eq_true vY];rfl) ?_
     simp only;rw [dw (n:=(k:Int)) (by omega) (by omega)];refine⟨(B1,mE.length,d1,B2,n+mE.length,d2,(k:Int)+1),rfl,⟨k+1,mE,B1,d1,B2,d2,rfl,Mc,yh,⟨m,hm⟩,fun q z6=>?_⟩,by simp only;omega⟩;rcases(bJ hp).1 z6 with z6|rfl
     ·exact fN q z6
     ·exact vY
    ·refine Split.yes (by rw [decide_eq_false vY];rfl) ?_
     have XP:∃b∈l,fC D p b:=by
      obtain⟨b,hb,e|e⟩:=Cy
      ·subst e;exact⟨_,hb,.one ((lF p).2 VP)⟩
      ·exact⟨b,hb,fC.trans (.one ((lF p).2 VP)) e⟩
     obtain⟨Kv,G9,v,lf,kv,Hc,yK,u,Ma,hqu⟩:=Mc.add vY XP (by omega);rw [hlen]at Ma;refine(o8.same Mc.kp).load (i:=(k:Int)) (by omega) hp ⟨p.2.1,?_⟩;refine⟨Kv,_,G9,v,lf,?_⟩;have PV:Kept Nil w v:=Mc.kp.trans kv (fun k hk e=>absurd hk (by omega));refine(o8.same PV).load (i:=(k:Int)) (by omega) hp ⟨p.2.1,?_⟩;refine⟨Hc,_,yK,u,Ma,?_⟩;simp only;rw [dw (n:=(k:Int)) (by omega) (by omega)];have e1:mE.length+1=(mE++ [p]).length:=by simp
     rw [e1,show n+mE.length+1=n+(mE++ [p]).length by simp;omega];refine⟨(Kv,(mE++ [p]).length,G9,Hc,n+(mE++ [p]).length,yK,(k:Int)+1),rfl,⟨k+1,mE++ [p],Kv,G9,Hc,yK,rfl,hqu,yh,⟨m++ [p],by rw [hm];simp⟩,fun q z6=>?_⟩,by simp only;omega⟩;rw [List.mem_append,List.mem_singleton];rcases(bJ hp).1 z6 with z6|rfl
     ·exact .inl (fN q z6)
     ·exact .inr rfl
   ·simp only at Rj
    rw [aP,aF.jJ];unfold aF.iE;rw [dw (n:=(i:Int)) (by omega) (by omega)];rw [List.take_of_length_le (by omega)]at fN;refine⟨(B1,mE.length,d1,B2,n+mE.length,d2,(i:Int)+1),rfl,⟨i+1,mE,B1,d1,B2,d2,rfl,hq,by rw [hm];simp;omega,fun x hx q IN=>?_⟩,by simp only;omega⟩;have hh':(l++mE)[i]? =some h:=by
     rw [hm,<-List.append_assoc,List.getElem?_append_left (lgeS hh).1];exact hh
    rcases(bJ hh').1 hx with hx|rfl
    ·have Zq:x∈(l++out).take i:=by
      rw [hm,<-List.append_assoc,List.take_append_of_le_length (by simp;omega)]at hx;exact hx
     rw [hm,List.mem_append];exact .inl (qH x Zq q IN)
    ·exact fN q ((lF q).1 IN)
 ·simp only at gq
  have hie:i=n+out.length:=by omega
  rw [aP,aF.cX];rw [List.take_of_length_le (by simp;omega)]at qH;have e:=Fj W Cp.GA qH;refine qu Cp.r1.hs (by simp only;omega) fun A' c' w2 row k2=>⟨A',_,c',rfl,?_⟩;rw [e]at row⊢;exact hK A' c' w2 (Row.base row fun b hb=>Nat.le_trans Cp.kp.size (Row.bz row hb).1) (Cp.kp.tt k2)
end
section
variable{w w' lK:World}{F S:Nat->Prop}{D:DG}{is:HT->Prop}{i:Nat}{l out:List HT}{A:Option Addr}{c r:Nat}{K:Value->World->Prop}
theorem qv(H:tT w F r D)(W:jC D)(hD:D.length<=10000)(a b:HT)(hK:∀w' (x:Bool),(x=true↔fC D a b)->Kept Nil w w'->K (.bool x) w'):
 bj prog dN.id #[.pointer (some ⟨r,0,none⟩),.agg a.1,.agg b.1] w K:=by
 refine dN.of ?_;unfold dN.W;intro w4 w5 w6;have k4:Kept Nil w w4:=(Kept.refl _ _).alloc _;have yj:w4.heap[w.heap.size]? =some (.cells a.1 aj (0,0)):=aH w _;have k5:Kept Nil w4 w5:=(Kept.refl _ _).alloc _;have nY:w5.heap[w4.heap.size]? =some (.cells b.1 aj (0,0)):=aH w4 _;have k6:Kept Nil w5 w6:=(Kept.refl _ _).drew;have v8:=k6.heap (k5.heap yj (fun h=>h)) (fun h=>h);have p7:=k6.heap nY (fun h=>h);have kw6:Kept Nil w w6:=(k4.tt k5).tt k6;clear_value w6;refine⟨a.1,⟨a.2.1,Cells.bz v8⟩,oT (H.same kw6) (by omega) a fun w9 k9=>⟨_,rfl,Split.dec (fun gq=>?_) (fun Q1=>?_)⟩⟩
 ·have ha9:=k9.heap v8 (fun h=>h)
  have Sw:Kept Nil w w9:=kw6.tt k9;refine⟨b.1,⟨b.2.1,Cells.bz (k9.heap p7 (fun h=>h))⟩,a.1,⟨a.2.1,Cells.bz ha9⟩,b.2.1,?_⟩;intro lh;have tI:Kept Nil w9 lh:=(Kept.refl _ _).alloc _;have jg:HS lh (some ⟨w9.heap.size,0,none⟩) 1 [b]:=jA w9 b;clear_value lh;have Uw:Kept Nil w lh:=Sw.tt tI;have XS:=tI.heap ha9 (fun h=>h);refine⟨⟨a.1,rfl,a.2.1,Cells.bz XS⟩,zk (H.same Uw) W hD jg (by omega) fun A15 c15 mQ T6 tq=>⟨A15,_,c15,rfl,?_⟩⟩;have qk:=lT D fun x=>∃h∈ [b],fC D x h;refine⟨⟨a.1,rfl,a.2.1,Cells.bz (tq.heap XS (fun h=>h))⟩,xM a T6.hs (by unfold dY;omega) fun wy FL=>⟨_,rfl,?_⟩⟩;refine hK wy _ ?_ ((Uw.tt tq).tt FL);rw [decide_eq_true_iff];unfold dY;rw [jn];constructor
  ·rintro⟨_,h,hh,ha⟩
   rw [List.mem_singleton]at hh;subst hh;exact ha
  ·intro ha
   exact⟨(ha.mem W).1,b,by simp,ha⟩
 ·refine hK w9 false ?_ (kw6.tt k9)
  constructor
  ·intro h;cases h
  ·intro ha;exact absurd (sT.2 (ha.mem W).1) Q1
theorem HP(W:jC D){j:Nat}{nd:DN}(h2:D[j]? =some nd)(p:HT):nM D p nd.id↔p∈nd.ps:=by
 constructor
 ·rintro⟨md,xe,e,hp⟩
  obtain⟨k,hk⟩:=List.mem_iff_getElem?.1 xe;have:=W.inj hk h2 e;subst this;rw [h2]at hk;cases hk;exact hp
 ·exact fun hp=>⟨nd,List.mem_of_getElem? h2,rfl,hp⟩
theorem Fe(H:tT w F r D)(W:jC D)(hD:D.length<=10000)(a b:HT)(hK:∀w' (x:Bool),(x=true↔a≠b/\¬fC D a b/\¬fC D b a)->Kept Nil w w'->K (.bool x) w'):
 bj prog eh.id #[.pointer (some ⟨r,0,none⟩),.agg a.1,.agg b.1] w K:=by
 refine eh.of ?_;unfold eh.W;intro w4 w5;have k4:Kept Nil w w4:=(Kept.refl _ _).alloc _;have yj:w4.heap[w.heap.size]? =some (.cells a.1 aj (0,0)):=aH w _;have k5:Kept Nil w4 w5:=(Kept.refl _ _).alloc _;have nY:w5.heap[w4.heap.size]? =some (.cells b.1 aj (0,0)):=aH w4 _;have G3:=k5.heap yj (fun h=>h);have Ny:Kept Nil w w5:=k4.tt k5;clear_value w5;refine⟨a.1,⟨a.2.1,Cells.bz G3⟩,b.1,⟨b.2.1,Cells.bz nY⟩,⟨a.2.ints,b.2.ints⟩,?_⟩;rw [dL];by_cases e:a=b
 ·refine Split.no (by rw [decide_eq_true e];rfl) ?_
  exact hK w5 false (by simp [e]) Ny
 ·refine Split.yes (by rw [decide_eq_false e];rfl) ?_
  refine⟨a.1,⟨a.2.1,Cells.bz G3⟩,b.1,⟨b.2.1,Cells.bz nY⟩,qv (H.same Ny) W hD a b fun qR x hx vE=>⟨x,rfl,?_⟩⟩;cases x with
  |true=>
   refine Split.no rfl ?_;exact hK qR false (by simp [hx.1 rfl]) (Ny.tt vE)
  |false=>
   refine Split.yes rfl ?_;have hn:¬fC D a b:=fun h=>by have:=hx.2 h;cases this
   have Ux:=Ny.tt vE;refine⟨b.1,⟨b.2.1,Cells.bz (vE.heap nY (fun h=>h))⟩,a.1,⟨a.2.1,Cells.bz (vE.heap G3 (fun h=>h))⟩,qv (H.same Ux) W hD b a fun jx y hy ow=>⟨y,rfl,?_⟩⟩;refine hK jx _ ?_ (Ux.tt ow);rw [Bool.not_eq_true',<-Bool.not_eq_true,hy];exact⟨fun h=>⟨e,hn,h⟩,fun h=>h.2.2⟩
end
structure NM where
 b:Nat
 pA:Option Addr
 pn:Nat
 pc:Nat
 cA:Option Addr
 cn:Nat
 cc:Nat
 rA:Option Addr
 rn:Nat
 rc:Nat
 ws:List Nat
def fc(h:HT)(m:NM):Array Value:=h.1++ #[.slice m.pA m.pn m.pc,.slice m.cA m.cn m.cc,.slice m.rA m.rn m.rc]
theorem nS(h:HT)(m:NM):(fc h m).size=35:=by unfold fc;rw [Array.size_append,h.2.1];rfl
theorem HW(h:HT)(m:NM){j:Nat}{v:Value}(hj:h.1[j]? =some v):(fc h m)[j]? =some v:=by
 unfold fc;rw [Array.getElem?_append_left (Array.getElem?_eq_some_iff.1 hj).1];exact hj
theorem HX(h:HT)(m:NM):(fc h m)[33]? =some (.slice m.cA m.cn m.cc):=by
 unfold fc;rw [Array.getElem?_append_right (by rw [h.2.1];omega),h.2.1];rfl
theorem zw(h:HT)(m:NM):(fc h m)[34]? =some (.slice m.rA m.rn m.rc):=by
 unfold fc;rw [Array.getElem?_append_right (by rw [h.2.1];omega),h.2.1];rfl
theorem Fs{h h':HT}{m m':NM}(e:fc h m=fc h' m'):h=h':=by
 apply Subtype.ext;have h1:=h.2.1;have h2:=h'.2.1;have:=congrArg (fun a:Array Value=>a.toList.take 32) e;unfold fc at this;simp only [Array.toList_append]at this;rw [List.take_left' (by simpa using h1),List.take_left' (by simpa using h2)]at this;exact Array.ext' this
structure ly(w:World)(S F:Nat->Prop)(D:DG)(ch:List HT)(nd:DN)(m:NM):Prop where
 bz:w.heap[m.b]? =some (.cells (fc nd.id m) dg (0,0))
 fR:S m.b
 ps:HS w m.pA m.pn nd.ps
 Fh:∀a,m.pA=some a->F a.block
 ch:bL w 0 m.cA m.cn m.cc ch
 O8:∀k,aW m.cA=some k->S k
 past:US w m.rA m.rn m.ws
 lU:∀a,m.rA=some a->F a.block
 ok:okW m.ws
 bits:∀j,bit m.ws j=true↔∃nj,D[j]? =some nj/\fC D nj.id nd.id
 small:m.rn<=200
structure GV(w:World)(S F:Nat->Prop)(g:Nat)(D:DG)(C:HT->List HT)(bl c mb:Nat)(M:List NM):Prop where
 top:w.heap[g]? =some (.cells #[.slice (some ⟨bl,0,none⟩) D.length c,.map (some mb)] eZ (0,0))
 row:Row w 0 dc 1 (some ⟨bl,0,none⟩) D.length c (M.map fun m=>.pointer (some ⟨m.b,0,none⟩))
 map:IsMap w mb (ids D)
 len:M.length=D.length
 node:∀(i:Nat) nd m,D[i]? =some nd->M[i]? =some m->ly w S F D (C nd.id) nd m
 apart:∀(i j:Nat) m m',M[i]? =some m->M[j]? =some m'->i≠j->∀k,aW m.cA=some k->aW m'.cA≠some k
 gL:S g
 tB:S bl
 vi:S mb
 G6:∀k,S k->¬F k
 low:∀k,S k\/F k->k<w.heap.size
def yM(w:World)(S F:Nat->Prop)(g:Nat)(D:DG):Prop:=∃bl c mb M,GV w S F g D (fh D) bl c mb M
section
variable{w w':World}{S F S' F':Nat->Prop}{g bl c mb:Nat}{D:DG}{C:HT->List HT}{M:List NM}{K:Value->World->Prop}
theorem ly.az{ch:List HT}{nd:DN}{m:NM}{S0:Nat->Prop}(h:ly w S F D ch nd m)(hk:Kept S0 w w')(hS:∀k,S k->¬S0 k)(hF:∀k,F k->¬S0 k):ly w' S F D ch nd m:=
 ⟨hk.heap h.bz (hS _ h.fR),h.fR,h.ps.az hk (fun a ha=>hF _ (h.Fh a ha)),h.Fh,Row.az h.ch hk (fun k hb=>hS k (h.O8 k hb)),h.O8,h.past.az hk (fun a ha=>hF _ (h.lU a ha)),h.lU,h.ok,h.bits,h.small⟩
theorem GV.az{S0:Nat->Prop}(h:GV w S F g D C bl c mb M)(hk:Kept S0 w w')(hS:∀k,S k->¬S0 k)(hF:∀k,F k->¬S0 k):GV w' S F g D C bl c mb M:=
 ⟨hk.heap h.top (hS _ h.gL),Row.az h.row hk (fun k e=>by cases e;exact hS _ h.tB),h.map.az hk (hS _ h.vi),h.len,fun i nd m h1 h2=>(h.node i nd m h1 h2).az hk hS hF,h.apart,h.gL,h.tB,h.vi,h.G6,fun k ml=>Nat.lt_of_lt_of_le (h.low k ml) hk.size⟩
theorem GV.same(h:GV w S F g D C bl c mb M)(hk:Kept Nil w w'):GV w' S F g D C bl c mb M:=h.az hk (fun _ _ h=>h) (fun _ _ h=>h)
theorem yM.az{S0:Nat->Prop}(h:yM w S F g D)(hk:Kept S0 w w')(hS:∀k,S k->¬S0 k)(hF:∀k,F k->¬S0 k):yM w' S F g D:=let ⟨bl,c,mb,M,h⟩:=h;⟨bl,c,mb,M,h.az hk hS hF⟩
theorem yM.same(h:yM w S F g D)(hk:Kept Nil w w'):yM w' S F g D:=h.az hk (fun _ _ h=>h) (fun _ _ h=>h)
theorem GV.get(h:GV w S F g D C bl c mb M){i:Nat}{nd:DN}(hi:D[i]? =some nd):∃m,M[i]? =some m/\ly w S F D (C nd.id) nd m:=by
 have:=(lgeS hi).1;have hl:=h.len;exact⟨M[i],List.getElem?_eq_getElem (by omega),h.node i nd _ hi (List.getElem?_eq_getElem (by omega))⟩
theorem GV.nodes(h:GV w S F g D C bl c mb M):w.cell? ((⟨g,0,none⟩:Addr).add 0)=some (.slice (some ⟨bl,0,none⟩) D.length c):=by rw [add_zero,ay h.top];rfl
theorem GV.at_(h:GV w S F g D C bl c mb M):w.cell? ((⟨g,0,none⟩:Addr).add 1)=some (.map (some mb)):=by rw [a8,ay h.top];rfl
theorem GV.ptr(h:GV w S F g D C bl c mb M){i:Nat}{m:NM}(hm:M[i]? =some m):w.cell? ((⟨bl,0,none⟩:Addr).add (i*1))=some (.pointer (some ⟨m.b,0,none⟩)):=by
 rw [a8,Nat.zero_add,Nat.mul_one];exact Row.cell h.row (by rw [List.getElem?_map,hm];rfl)
theorem pP(h:GV w S F g D C bl c mb M)(hK:K (.bool true) w):bj prog fZ.id #[.pointer (some ⟨g,0,none⟩)] w K:=
 fZ.of (Split.yes rfl ⟨some mb,h.at_,hK⟩)
def Found(D:DG)(M:List NM)(h:HT)(x:Option Addr):Prop:=(x=none/\h∉ids D)\/∃(i:Nat) (nd:DN) (m:NM),D[i]? =some nd/\nd.id=h/\M[i]? =some m/\x=some ⟨m.b,0,none⟩
theorem Found.isSome{h:HT}{x:Option Addr}(f:Found D M h x):(!x.isNone)=decide (h∈ids D):=by
 rcases f with⟨rfl,hn⟩|⟨i,nd,m,h1,h2,_,rfl⟩
 ·rw [decide_eq_false hn];rfl
 ·rw [decide_eq_true (dI.2 ⟨nd,List.mem_of_getElem? h1,h2⟩)];rfl
theorem vq(G:GV w S F g D C bl c mb M)(h:HT)(hK:∀w' x,Kept Nil w w'->Found D M h x->K (.pointer x) w'):
 bj prog fT.id #[.pointer (some ⟨g,0,none⟩),.agg h.1] w K:=by
 refine fT.of ?_;unfold fT.W;intro w3;have k3:Kept Nil w w3:=(Kept.refl _ _).alloc _;have pN:w3.heap[w.heap.size]? =some (.cells h.1 aj (0,0)):=aH w _;clear_value w3;refine pP (G.same k3) ⟨true,rfl,Split.yes rfl ?_⟩;intro w7;have k7:Kept Nil w3 w7:=(Kept.refl _ _).drew;clear_value w7;have kw:Kept Nil w w7:=k3.tt k7;have G7:=G.same kw;refine⟨some mb,G7.at_,h.1,⟨h.2.1,Cells.bz (k7.heap pN (fun h=>h))⟩,_,_,G7.map.look h,?_⟩;cases hp:pos h (ids D) 0 with
 |none=>exact Split.no rfl (hK w7 none kw (.inl ⟨rfl,oY.1 hp⟩))
 |some i=>
  obtain⟨_,hi⟩:=uD hp;obtain⟨nd,h1,h2⟩:=IM hi;rw [Nat.sub_zero]at h1;obtain⟨m,hm,_⟩:=G7.get h1;have dQ:=(lgeS h1).1;refine Split.yes rfl ⟨_,_,_,G7.nodes,⟨by simp,by simp only [Option.getD_some];omega⟩,some ⟨m.b,0,none⟩,?_,hK w7 _ kw (.inr ⟨i,nd,m,h1,h2,hm,rfl⟩)⟩;rw [Option.getD_some,Int.toNat_natCast];exact G7.ptr hm
theorem uc(G:GV w S F g D C bl c mb M)(h:HT)(hK:∀w',Kept Nil w w'->K (.bool (decide (h∈ids D))) w'):
 bj prog gz.id #[.pointer (some ⟨g,0,none⟩),.agg h.1] w K:=by
 refine gz.of ?_;unfold gz.W;intro w3;have k3:Kept Nil w w3:=(Kept.refl _ _).alloc _;have pN:w3.heap[w.heap.size]? =some (.cells h.1 aj (0,0)):=aH w _;clear_value w3;refine⟨h.1,⟨h.2.1,Cells.bz pN⟩,vq (G.same k3) h fun w6 x k6 hx=>⟨x,rfl,?_⟩⟩;rw [hx.isSome];exact hK w6 (k3.tt k6)
theorem Eh(G:GV w S F g D C bl c mb M)(hK:K (.int .i64 D.length) w):bj prog gX.id #[.pointer (some ⟨g,0,none⟩)] w K:=
 gX.of (pP G ⟨true,rfl,Split.no rfl ⟨_,_,_,G.nodes,hK⟩⟩)
end
section
variable{w w':World}{S F:Nat->Prop}{g bl c mb:Nat}{D:DG}{C:HT->List HT}{M:List NM}{K:Value->World->Prop}
end
section
variable{w w':World}{S F:Nat->Prop}{g bl c mb:Nat}{D:DG}{C:HT->List HT}{M:List NM}{K:Value->World->Prop}
theorem iY{A:Option Addr}{n c:Nat}{l:List HT}(hl:HS w A n l)(hn:n<=400000)(hK:∀A' c' w',bL w' w.heap.size A' n c' l->Kept Nil w w'->K (.slice A' n c') w'):
 bj prog cY.id #[.slice A n c] w K:=by
 refine cY.of ?_;cases A with
 |none=>
  obtain⟨rfl,rfl⟩:=hl.none;exact Split.yes rfl (hK none 0 w (bL.nil _ _) (Kept.refl _ _))
 |some a=>
  refine Split.no rfl ?_;intro w2;have k2:Kept Nil w w2:=(Kept.refl _ _).alloc _;have r0:bL w2 w.heap.size (some ⟨w.heap.size,0,none⟩) 0 0 []:=Row.made (n:=0) (cur:= #[]) (aH w _) (Nat.le_refl _) rfl (Nat.zero_le _);clear_value w2;obtain⟨A',c',w4,hr,row,hg,_⟩:=cO (cx:=c) aA r0 (hl.same k2) (by omega) k2.size;rw [Nat.zero_add]at hr row;rw [List.nil_append]at row;exact⟨A',n,c',w4,hr,hK A' c' w4 row (Kept.eA k2 hg (fun k hk=>by cases hk;exact Nat.le_refl _))⟩
theorem wG{D:DG}{nd:DN}{m:NM}{ch:List HT}(N:ly w S F D ch nd m):w.cell? ((⟨m.b,0,none⟩:Addr).add 34)=some (.slice m.rA m.rn m.rc):=by
 rw [a8,Nat.zero_add,ay N.bz];exact zw _ _
theorem xR{D:DG}{nd:DN}{m:NM}{ch:List HT}(N:ly w S F D ch nd m):w.cell? ((⟨m.b,0,none⟩:Addr).add 33)=some (.slice m.cA m.cn m.cc):=by
 rw [a8,Nat.zero_add,ay N.bz];exact HX _ _
end
def oE(D:DG)(j:Nat):HT:=match D[j]? with|some nd=>nd.id|none=>default
theorem uH:∀(ws:List Nat) (k:Nat),okW ws->(o0 k ws).Nodup
 | [],_,_=>List.Pairwise.nil
 |x::ws,k,ho=>by
  have hx:=ho x (by simp);have KF:okW ws:=fun y hy=>ho y (by simp [hy]);obtain⟨_,h2,h3⟩:=wL x hx;rw [o0,List.nodup_append];refine⟨List.Pairwise.map _ (fun a b lG e=>lG (by omega)) h2,uH ws (k+1) KF,fun a ha b hb e=>?_⟩;rw [List.mem_map]at ha;obtain⟨t,ht,rfl⟩:=ha;have:=((o6 ws (k+1) b KF).1 hb).1;have:=h3 t ht;omega
section
variable{w w':World}{S F:Nat->Prop}{g bl c mb:Nat}{D:DG}{C:HT->List HT}{M:List NM}{K:Value->World->Prop}
theorem vr(G:GV w S F g D C bl c mb M)(W:jC D)(hD:D.length<=10000)(hT:rZ w){A:Option Addr}{n cx:Nat}{l:List HT}(hl:HS w A n l)(hn:n<=10000)
 (hK:∀A' c' w',bL w' w.heap.size A' (dY D l).length c' (dY D l)->Kept Nil w w'->K (.slice A' (dY D l).length c') w'):
 bj prog aR.id #[.pointer (some ⟨g,0,none⟩),.slice A n cx] w K:=by
 have hlen:=hl.len;refine aR.of ?_;unfold aR.W;intro w3;have k3:Kept Nil w w3:=(Kept.refl _ _).alloc _;have WW:w3.heap[w.heap.size]? =some (.cells #[.pointer (some ⟨g,0,none⟩)] kK (0,0)):=aH w _;have Cg:w.heap.size<w3.heap.size:=aO WW;clear_value w3;refine aR.b6 (I:=fun s w'=>∃(i:Nat) (A':Option Addr) (n' c':Nat) (ws:List Nat),s=(A',n',c',(i:Int))/\i<=n/\jY w' w3.heap.size A' n' c' ws/\okW ws/\n'<=200/\(∀j,bit ws j=true↔∃h∈l.take i,∃nj,D[j]? =some nj/\fC D nj.id h)/\Kept Nil w3 w')
  (μ:=fun s _=>((n:Int)-s.2.2.2).toNat) (s:=(none,0,0,0)) ⟨0,none,0,0,[],rfl,Nat.zero_le _,Row.nil _ _ _ _,by simp [okW],by omega,by simp [yr],Kept.refl _ _⟩ ?_
 rintro s w' ⟨i,A',n',c',ws,rfl,hi,row,ho,Oz,pZ,kw⟩;have kk:Kept Nil w w':=k3.tt kw;refine Split.dec (fun jc=>?_) (fun gq=>?_)
 ·simp only at jc
  have dQ:i<n:=by omega
  obtain⟨h,hh⟩:∃h,l[i]? =some h:=⟨_,List.getElem?_eq_getElem (by omega)⟩;refine(hl.same kk).load (i:=(i:Int)) (by omega) hh ?_;intro mq;obtain⟨sM,jg,jk⟩:=gP (w:=w') (z:=(#[.int .u8 0,.int .u8 0,.int .u8 0,.int .u8 0,.int .u8 0,.int .u8 0,.int .u8 0,.int .u8 0,.int .u8 0,.int .u8 0,.int .u8 0,.int .u8 0,.int .u8 0,.int .u8 0,.int .u8 0,.int .u8 0,.int .u8 0,.int .u8 0,.int .u8 0,.int .u8 0,.int .u8 0,.int .u8 0,.int .u8 0,.int .u8 0,.int .u8 0,.int .u8 0,.int .u8 0,.int .u8 0,.int .u8 0,.int .u8 0,.int .u8 0,.int .u8 0]:Array Value)) (cs:=h.1) (t:=aj) (by rw [h.2.1];rfl);refine⟨⟨h.2.1,h.2.one,fun j hj=>sM j (by rw [h.2.1];exact hj)⟩,?_⟩;intro mQ
  replace jg:mQ.heap[w'.heap.size]? =some (.cells h.1 aj (0,0)):=jg
  replace jk:Kept Nil w' mQ:=jk
  clear_value mQ;have tq:Kept Nil w3 mQ:=kw.tt jk;refine⟨some ⟨g,0,none⟩,by rw [ay (tq.heap WW (fun h=>h))];rfl,h.1,⟨h.2.1,Cells.bz jg⟩,?_⟩;refine vq (G.same (k3.tt tq)) h fun mP x sF hx=>⟨x,rfl,?_⟩;have LQ:Kept Nil w3 mP:=tq.tt sF;have H9:Kept Nil w mP:=k3.tt LQ;have qX:jY mP w3.heap.size A' n' c' ws:=Row.az row (jk.tt sF) (fun _ _ h=>h);rcases hx with⟨rfl,mZ⟩|⟨q,nd,m',hq,rfl,lM,rfl⟩
  ·refine Split.no rfl ?_
   simp only;rw [dw (n:=(i:Int)) (by omega) (by omega)];refine⟨(A',n',c',(i:Int)+1),rfl,⟨i+1,A',n',c',ws,rfl,dQ,qX,ho,Oz,fun j=>?_,LQ⟩,by simp only;omega⟩;rw [pZ];constructor
   ·rintro⟨h',h1,h2⟩;exact⟨h',(bJ hh).2 (.inl h1),h2⟩
   ·rintro⟨h',h1,nj,h2,h3⟩
    rcases(bJ hh).1 h1 with h1|rfl
    ·exact⟨h',h1,nj,h2,h3⟩
    ·exact absurd (h3.mem W).2 mZ
  ·obtain⟨m,hm,N⟩:=(G.same H9).get hq
   rw [lM]at hm;cases hm;refine Split.yes rfl ⟨_,_,_,wG N,?_⟩;have vF:=N.small;have Gf:∀k,aW A'=some k->w3.heap.size<=k:=fun k hk=>(Row.bz qX hk).1;refine wC qX ho (by omega) LQ.size N.past N.ok (by omega) (fun a ha k hk e=>?_) fun A2 n2 c2 l2 lJ T4 acK Wi RC qh MD=>⟨A2,n2,c2,rfl,?_⟩
   ·have h1:=G.low a.block (.inr (N.lU a ha))
    have h2:=Gf k hk;omega
   ·simp only
    rw [dw (n:=(i:Int)) (by omega) (by omega)];refine⟨(A2,n2,c2,(i:Int)+1),rfl,⟨i+1,A2,n2,c2,l2,rfl,dQ,T4,acK,by omega,fun j=>?_,LQ.trans qh (fun k hk e=>absurd (Gf k e) (by omega))⟩,by simp only;omega⟩;rw [RC,Bool.or_eq_true,pZ,N.bits];constructor
    ·rintro(⟨h',h1,h2⟩|h2)
     ·exact⟨h',(bJ hh).2 (.inl h1),h2⟩
     ·exact⟨nd.id,(bJ hh).2 (.inr rfl),h2⟩
    ·rintro⟨h',h1,h2⟩
     rcases(bJ hh).1 h1 with h1|rfl
     ·exact .inl ⟨h',h1,h2⟩
     ·exact .inr h2
 ·simp only at gq
  have hie:i=n:=by omega
  subst hie;rw [List.take_of_length_le (by omega)]at pZ;rw [aP,aR.cX];unfold aR.cI;intro tV;have GP:Kept Nil w' tV:=(Kept.refl _ _).alloc _;have V1:tV.heap[w'.heap.size]? =some (.cells #[.slice none 0 0] aA (0,0)):=aH w' _;clear_value tV;refine jH.of ?_;unfold jH.W;intro nI;have Bg:Kept Nil tV nI:=(Kept.refl _ _).alloc _;have L9:nI.heap[tV.heap.size]? =some (.cells #[.slice A' n' c'] ko (0,0)):=aH tV _;clear_value nI;refine⟨_,rfl,?_⟩;have V0:=Bg.heap V1 (fun h=>h);have UQ:Kept Nil w3 nI:=(kw.tt GP).tt Bg;have Lz:Kept Nil w nI:=k3.tt UQ;have zh:jY nI w3.heap.size A' n' c' ws:=Row.az (Row.az row GP (fun _ _ h=>h)) Bg (fun _ _ h=>h);have Rm:=UQ.heap WW (fun h=>h);have GU:w.heap.size<w'.heap.size:=Nat.lt_of_lt_of_le Cg kw.size;have akH:w'.heap.size<nI.heap.size:=aO V0;have akI:tV.heap.size<nI.heap.size:=aO L9;have I9:∀j∈o0 0 ws,∃nj,D[j]? =some nj:=fun j hj=>by
   have:=((o6 ws 0 j ho).1 hj).2;rw [Nat.mul_zero,Nat.sub_zero]at this;obtain⟨_,_,nj,h1,_⟩:=(pZ j).1 this;exact⟨nj,h1⟩
  have wZ:(o0 0 ws).length<=D.length:=by
   have:=uI (m:=List.range D.length) (uH ws 0 ho) (fun j hj=>by
    obtain⟨nj,h1⟩:=I9 j hj;exact List.mem_range.2 (lgeS h1).1)
   rwa [List.length_range]at this
  let xs:=o0 0 ws
  let ρ0:Env:= [(2,.pointer (some (⟨w.heap.size,0,none⟩:Addr))),(4,.slice none 0 0),(9,.pointer (some (⟨w'.heap.size,0,none⟩:Addr))),(30,.func (.func aI.id) #[] #[.pointer (some (⟨tV.heap.size,0,none⟩:Addr))])]
  let J:Nat->World->Prop:=fun i v=>∃A c,v.heap[w'.heap.size]? =some (.cells #[.slice A i c] aA (0,0))/\bL v nI.heap.size A i c ((xs.take i).map (oE D))/\Kept (· =w'.heap.size) nI v/\i<=xs.length
  have rG:∀i v,J i v->US v A' n' ws/\v.cell? ⟨tV.heap.size,0,none⟩=some (.slice A' n' c')/\rZ v:=by
   rintro i v ⟨A,c,h1,h2,h3,h4⟩;refine⟨zh.us.az h3 (fun a ha e=>?_),by rw [ay (h3.heap L9 (by have:=aO V1;omega))];rfl,(hT.same Lz).az h3 (fun e=>by have:=hT.lt;omega)⟩;have hk:aW A'=some a.block:=by rw [ha];rfl
   obtain⟨_,cur,hc⟩:=Row.bz row hk;have:=aO hc;omega
  refine nR (ρ:=ρ0) (ρ0:=ρ0) ng mix aR.k (t:=30) (ps:= #[31]) (by kernel_rfl) (by decide) rfl aI.at_ rfl (.inl rfl) (fun i v _ h=>h) rfl encI xs (fun _=>rfl) (by simp [gM]) (Kh ⟨tV.heap.size,0,none⟩ (c:=c') (by omega) ho) J (fun _ _=>False) ?_ (fun _ _ _ _ _ h=>h.elim) rG ?_ ?_ ?_ (fun _ _ h=>h.elim) (fun _ _ _ h=>h.elim)
  ·rintro i v v' R rH ⟨A,c,h1,h2,h3,h4⟩ hk
   exact⟨A,c,hk.heap h1 (kH h1 rH.loop),Row.apart h2 hk (fun cs t fr h=>by rw [rH.loop]at h;cases h),h3.trans hk (fun k hk e=>by omega),h4⟩
  ·intro R
   exact⟨none,0,ju (ju V0 _) _,bL.nil _ _,(((Kept.refl _ _).alloc _).alloc _),Nat.zero_le _⟩
  ·rintro i x v R hx hj rH
   have hJ:=hj;obtain⟨A,c,h1,h2,h3,h4⟩:=hj;have dQ:i<xs.length:=(lgeS hx).1;have e7:ln ρ0 ((#[31]:Array Nat).toList.zip (encI x))= [(2,.pointer (some (⟨w.heap.size,0,none⟩:Addr))),(4,.slice none 0 0),(9,.pointer (some (⟨w'.heap.size,0,none⟩:Addr))),(30,.func (.func aI.id) #[] #[.pointer (some (⟨tV.heap.size,0,none⟩:Addr))]),(31,.int .i64 (x:Int))]:=rfl;rw [e7,aR.a1];unfold aR.A1;refine⟨rH,fun w2 R2 lg tM=>?_⟩;have Ee:=lg.heap h1 (kH h1 rH.loop);have CA:bL w2 nI.heap.size A i c ((xs.take i).map (oE D)):=Row.apart h2 lg (fun cs t fr h=>by rw [rH.loop]at h;cases h);have Ym:Kept (· =w'.heap.size) nI w2:=h3.trans lg (fun k hk e=>by omega);clear hJ h1 h2 h3;rw [aR.y1];unfold aR.Y1;intro EA;have P6:Kept Nil w2 EA:=(Kept.refl _ _).drew;clear_value EA;have Yp:=P6.heap Ee (fun h=>h);have DK:Kept (· =w'.heap.size) nI EA:=Ym.trans P6 (fun _ _ h=>h.elim);obtain⟨nj,Ou⟩:=I9 x (List.mem_of_getElem? hx);have tZ:=(lgeS Ou).1;have kww:Kept Nil w EA:=Lz.trans DK (fun k hk e=>by omega);obtain⟨m,hm,N⟩:=(G.same kww).get Ou;refine⟨A,i,c,by rw [ay Yp];rfl,some ⟨g,0,none⟩,by rw [ay (DK.heap Rm (by omega))];rfl,?_⟩;refine⟨_,_,_,(G.same kww).nodes,⟨by omega,by omega⟩,some ⟨m.b,0,none⟩,by rw [Int.toNat_natCast];exact(G.same kww).ptr hm,?_⟩;refine⟨nj.id.1,⟨nj.id.2.1,fun j v hj=>?_⟩,nj.id.2.1,?_⟩
   ·rw [add_zero,a8,Nat.zero_add,ay N.bz]
    exact HW _ _ hj
   intro Sr;have UM:Kept Nil EA Sr:=(Kept.refl _ _).alloc _;have jA:HS Sr (some ⟨EA.heap.size,0,none⟩) 1 [nj.id]:=jA EA nj.id;clear_value Sr;have Yo:=UM.heap Yp (fun h=>h);refine⟨by rw [ay Yo];rfl,?_⟩;have MI:bL Sr nI.heap.size A i c ((xs.take i).map (oE D)):=Row.az (Row.az CA P6 (fun _ _ h=>h)) UM (fun _ _ h=>h);have Vm:nI.heap.size<=Sr.heap.size:=Nat.le_trans DK.size UM.size;have LY:xs.length<=D.length:=wZ;obtain⟨A2,c2,qo,hr,wD,Mv,RD⟩:=cO (cx:=1) aA MI jA (by omega) Vm;have Ri:Kept (fun k=>aW A=some k) Sr qo:=Kept.grown (Kept.refl _ _) Mv (fun k hk _=>hk);have Yh:∀k,aW A=some k->nI.heap.size<=k:=fun k hk=>(Row.bz MI hk).1;have Yn:=Ri.heap Yo (fun e=>by have:=Yh _ e;omega);have ac5:Live (nI.heap.size+1) nI.heap.size R2 qo:=by
    have Q3:=(tM.az P6 (fun h=>h) (fun h=>h)).az UM (fun h=>h) (fun h=>h);refine Q3.az Ri ?_ ?_
    ·intro h
     obtain⟨_,cur,hc⟩:=Row.bz MI h;exact kH hc Q3.loop rfl
    ·intro h
     obtain⟨_,cur,hc⟩:=Row.bz MI h;exact xS hc Q3.mark rfl
   refine⟨A2,_,c2,qo,hr,dJ Yn (by simp),?_⟩;intro w56;have k56:Kept (· =w'.heap.size) qo w56:=Kept.setCell (S:=fun k=>k=w'.heap.size) (Kept.refl _ qo) (p:=⟨w'.heap.size,0,none⟩) (fun _=>rfl) _;have ad8:w56.heap[w'.heap.size]? =some (.cells #[.slice A2 (i+1) c2] aA (0,0)):=cV Yn 0 _;clear_value w56;refine⟨ac5.az k56 (by omega) (by omega),A2,c2,ad8,?_,((DK.trans UM (fun _ _ h=>h.elim)).trans Ri (fun k hk e=>absurd (Yh k e) (by omega))).tt k56,dQ⟩;have e:(xs.take (i+1)).map (oE D)=(xs.take i).map (oE D)++ [nj.id]:=by
    rw [List.take_add_one,hx];simp [oE,Ou]
   rw [e];exact Row.az wD k56 (fun k hk e=>by have:=(Row.bz wD hk).1;omega)
  ·rintro v R ⟨A,c,h1,h2,h3,h4⟩ rH
   have e7:hZ ρ0 nI.heap.size= [(2,.pointer (some (⟨w.heap.size,0,none⟩:Addr))),(4,.slice none 0 0),(9,.pointer (some (⟨w'.heap.size,0,none⟩:Addr))),(30,.func (.func aI.id) #[] #[.pointer (some (⟨tV.heap.size,0,none⟩:Addr))]),(4294967296,.agg #[.pointer (some ⟨nI.heap.size,0,none⟩)])]:=rfl;rw [e7,aR.jZ];rw [List.take_of_length_le (Nat.le_refl _)]at h2;have LY:xs.length<=D.length:=wZ;refine⟨A,xs.length,c,by rw [ay h1];rfl,iI h2.hs (by omega) fun A2 c2 w59 HJ k59=>⟨A2,_,c2,rfl,⟨k59.heap rH.mark (fun h=>h),trivial⟩,?_⟩⟩;have hmk:=k59.heap rH.mark (fun h=>h);have kp:Kept (· =nI.heap.size) w59 (w59.putObj nI.heap.size (.deferred none)):=Kept.putAt _ _ _;have e:dv (xs.map (oE D))=dY D l:=DC fun a=>by
    rw [List.mem_map];constructor
    ·rintro⟨j,hj,rfl⟩
     have hb:=((o6 ws 0 j ho).1 hj).2;rw [Nat.mul_zero,Nat.sub_zero]at hb;obtain⟨h',rK,nj,rJ,Ec⟩:=(pZ j).1 hb;have:oE D j=nj.id:=by unfold oE;rw [rJ]
     rw [this];exact⟨(Ec.mem W).1,h',rK,Ec⟩
    ·rintro⟨ha,h',hh',Cy⟩
     obtain⟨nj,hnm,rfl⟩:=dI.1 ha;obtain⟨j,hj⟩:=List.mem_iff_getElem?.1 hnm;refine⟨j,(o6 ws 0 j ho).2 ⟨by omega,?_⟩,by unfold oE;rw [hj]⟩;rw [Nat.mul_zero,Nat.sub_zero];exact(pZ j).2 ⟨h',hh',nj,hj,Cy⟩
   rw [e]at HJ⊢;have ji:Kept Nil w w59:=(Lz.trans h3 (fun k hk e=>by omega)).tt k59;have hws:w.heap.size<=v.heap.size:=Nat.le_trans Lz.size h3.size;refine hK A2 c2 _ (Row.base (Row.apart HJ kp (fun cs t fr h=>by rw [hmk]at h;cases h)) fun b hb=>Nat.le_trans hws (Row.bz HJ hb).1) (ji.trans kp (fun k hk e=>by omega))
end
section
variable{w w':World}{S F:Nat->Prop}{g bl c mb gb:Nat}{D:DG}{C:HT->List HT}{M:List NM}{K:Value->World->Prop}
theorem AF(G:GV w S F g D C bl c mb M)(hg:w.heap[gb]? =some (.cells #[.pointer (some ⟨g,0,none⟩)] kK (0,0))){A:Option Addr}{n cx:Nat}{l:List HT}(hl:HS w A n l)(hn:n<=400000)
 (hK:∀w' (x:Bool),(x=true↔∃p∈l,p∉ids D)->Kept Nil w w'->K (.bool x) w'):
 bj prog dH.id #[.slice A n cx,.func (.func eF.id) #[] #[.pointer (some ⟨gb,0,none⟩)]] w K:=by
 have hlen:=hl.len;refine bZ.of (aq.of ?_);refine aq.b6 (I:=fun s w'=>∃i:Nat,s=(0,(i:Int))/\i<=n/\(∀p∈l.take i,p∈ids D)/\Kept Nil w w') (μ:=fun s _=>((n:Int)-s.2).toNat) (s:=(0,0)) ⟨0,rfl,Nat.zero_le _,by simp,Kept.refl _ _⟩ ?_;rintro s w' ⟨i,rfl,hi,cZ,kw⟩;refine Split.dec (fun jc=>?_) (fun gq=>?_)
 ·simp only at jc
  have dQ:i<n:=by omega
  obtain⟨x,hx⟩:∃x,l[i]? =some x:=⟨_,List.getElem?_eq_getElem (by omega)⟩;refine(hl.same kw).load (i:=(i:Int)) (by omega) hx ?_;refine eF.of ?_;unfold eF.W;intro w3;have k3:Kept Nil w' w3:=(Kept.refl _ _).alloc _;have pN:w3.heap[w'.heap.size]? =some (.cells x.1 aj (0,0)):=aH w' _;clear_value w3;have Nz:=kw.tt k3;refine⟨some ⟨g,0,none⟩,by rw [ay (Nz.heap hg (fun h=>h))];rfl,x.1,⟨x.2.1,Cells.bz pN⟩,uc (G.same Nz) x fun w7 k7=>⟨_,rfl,_,rfl,?_⟩⟩;have BS:=Nz.tt k7;by_cases hm:x∈ids D
  ·refine Split.no (by rw [decide_eq_true hm];rfl) ?_
   simp only;rw [dw (n:=(i:Int)) (by omega) (by omega)];refine⟨(0,(i:Int)+1),rfl,⟨i+1,rfl,dQ,fun p hp=>?_,BS⟩,by simp only;omega⟩;rcases(bJ hx).1 hp with hp|rfl
   ·exact cZ p hp
   ·exact hm
  ·refine Split.yes (by rw [decide_eq_false hm];rfl) ?_
   refine⟨(i:Int),rfl,?_⟩;exact hK w7 _ ⟨fun _=>⟨x,List.mem_of_getElem? hx,hm⟩,fun _=>decide_eq_true (by omega)⟩ BS
 ·simp only at gq
  rw [aP,aq.cX];rw [List.take_of_length_le (by omega)]at cZ;exact⟨-1,rfl,hK w' _ ⟨fun h=>absurd (of_decide_eq_true h) (by omega),fun⟨p,hp,hn⟩=>absurd (cZ p hp) hn⟩ kw⟩
theorem iB{w:World}{a b:Nat}{ca cb:Array Value}{ta tb:TypeId}{fa fb:Nat×Nat}(ha:w.heap[a]? =some (.cells ca ta fa))(hb:w.heap[b]? =some (.cells cb tb fb))(fD:ta≠tb):a≠b:=by
 rintro rfl;rw [ha]at hb;simp only [Option.some.injEq,Obj.cells.injEq]at hb;exact fD hb.2.1
theorem GV.upd(G:GV w S F g D C bl c mb M)(W:jC D){q:Nat}{nd:DN}{m:NM}(hq:D[q]? =some nd)(hm:M[q]? =some m){A5:Option Addr}{n5 c5:Nat}{ch':List HT}
 (kT:Kept (fun k=>aW m.cA=some k\/k=m.b) w w') (hb:w'.heap[m.b]? =some (.cells (fc nd.id {m with cA:=A5,cn:=n5,cc:=c5}) dg (0,0))) (eI:bL w' w.heap.size A5 n5 c5 ch'):
 GV w' (fun k=>S k\/aW A5=some k) F g D (fun x=>if x=nd.id then ch' else C x) bl c mb (M.set q {m with cA:=A5,cn:=n5,cc:=c5}):=by
 have N:=G.node q nd m hq hm;have Mb:q<M.length:=(lgeS hm).1;have oH:∀k,aW m.cA=some k->∃cur,w.heap[k]? =some (.cells cur aj (0,0)):=fun k hk=>(Row.bz N.ch hk).2;have hF:∀k,F k->¬(aW m.cA=some k\/k=m.b):=fun k hk e=>by
  rcases e with e|rfl
  ·exact G.G6 k (N.O8 k e) hk
  ·exact G.G6 _ N.fR hk
 have typ:∀ {k:Nat} {cs:Array Value} {t:TypeId},w.heap[k]? =some (.cells cs t (0,0))->t≠aj->t≠dg->¬(aW m.cA=some k\/k=m.b):=fun h h1 h2 e=>by
  rcases e with e|rfl
  ·obtain⟨cur,hc⟩:=oH _ e
   exact iB h hc h1 rfl
  ·exact iB h N.bz h2 rfl
 have Ge:∀k,aW A5=some k->w.heap.size<=k:=fun k hk=>(Row.bz eI hk).1;have fE:∀(i:Nat) m',(M.set q {m with cA:=A5,cn:=n5,cc:=c5})[i]? =some m'->(i=q/\m'= {m with cA:=A5,cn:=n5,cc:=c5})\/(i≠q/\M[i]? =some m'):=fun i m' h=>by
  by_cases e:i=q
  ·subst e
   rw [List.getElem?_set_self Mb]at h;exact .inl ⟨rfl,(Option.some.inj h).symm⟩
  ·rw [List.getElem?_set_ne (Ne.symm e)]at h
   exact .inr ⟨e,h⟩
 refine⟨?_,?_,?_,by simpa using G.len,?_,?_,.inl G.gL,.inl G.tB,.inl G.vi,?_,?_⟩
 ·exact kT.heap G.top (typ G.top (by decide) (by decide))
 ·have QZ:(M.set q {m with cA:=A5,cn:=n5,cc:=c5}).map (fun m=>Value.pointer (some ⟨m.b,0,none⟩))=M.map fun m=>Value.pointer (some ⟨m.b,0,none⟩):=by
   apply List.ext_getElem?;intro i;rw [List.getElem?_map,List.getElem?_map];by_cases e:i=q
   ·subst e
    rw [List.getElem?_set_self Mb,hm];rfl
   ·rw [List.getElem?_set_ne (Ne.symm e)]
  rw [QZ];refine Row.az G.row kT (fun k e=>?_);cases e;obtain⟨_,cur,hc⟩:=Row.bz G.row (k:=bl) rfl;exact typ hc (by decide) (by decide)
 ·refine G.map.az kT (fun e=>?_)
  obtain⟨es,clock,Jh,_⟩:=G.map.ex;rcases e with e|e
  ·obtain⟨cur,hc⟩:=oH _ e
   rw [hc]at Jh;cases Jh
  ·rw [e,N.bz]at Jh;cases Jh
 ·intro i nd' m' hi lM
  rcases fE i m' lM with⟨rfl,rfl⟩|⟨fD,Wt⟩
  ·rw [hq]at hi
   cases hi;rw [if_pos rfl];exact⟨hb,.inl N.fR,N.ps.az kT (fun a ha=>hF _ (N.Fh a ha)),N.Fh,Row.base eI (fun _ _=>Nat.zero_le _),fun k hk=>.inr hk,N.past.az kT (fun a ha=>hF _ (N.lU a ha)),N.lU,N.ok,N.bits,N.small⟩
  ·have N':=G.node i nd' m' hi Wt
   have hid:nd'.id≠nd.id:=fun e=>fD (W.inj hi hq e);rw [if_neg hid];have adX:m'.b≠m.b:=fun e=>by
    have h1:=N'.bz;rw [e,N.bz]at h1;simp only [Option.some.injEq,Obj.cells.injEq]at h1;exact hid (Fs h1.1).symm
   refine⟨kT.heap N'.bz (fun e=>?_),.inl N'.fR,N'.ps.az kT (fun a ha=>hF _ (N'.Fh a ha)),N'.Fh,Row.az N'.ch kT (fun k hk e=>?_),fun k hk=>.inl (N'.O8 k hk),N'.past.az kT (fun a ha=>hF _ (N'.lU a ha)),N'.lU,N'.ok,N'.bits,N'.small⟩
   ·rcases e with e|e
    ·obtain⟨cur,hc⟩:=oH _ e
     exact iB N'.bz hc (by decide) rfl
    ·exact adX e
   ·rcases e with e|rfl
    ·exact G.apart i q m' m Wt hm fD k hk e
    ·obtain⟨cur,hc⟩:=(Row.bz N'.ch hk).2
     exact iB hc N.bz (by decide) rfl
 ·intro i j m1 m2 h1 h2 rI k Bl lg
  rcases fE i m1 h1 with⟨rfl,rfl⟩|⟨hi,rK⟩
  ·rcases fE j m2 h2 with⟨rfl,rfl⟩|⟨hj,rJ⟩
   ·exact rI rfl
   ·have:=Ge k Bl
    have rW:j<D.length:=by rw [<-G.len];exact(lgeS rJ).1
    obtain⟨cur,hc⟩:=(Row.bz (G.node j _ m2 (List.getElem?_eq_getElem rW) rJ).ch lg).2;have:=aO hc;omega
  ·rcases fE j m2 h2 with⟨rfl,rfl⟩|⟨hj,rJ⟩
   ·have:=Ge k lg
    have dQ:i<D.length:=by rw [<-G.len];exact(lgeS rK).1
    obtain⟨cur,hc⟩:=(Row.bz (G.node i _ m1 (List.getElem?_eq_getElem dQ) rK).ch Bl).2;have:=aO hc;omega
   ·exact G.apart i j m1 m2 rK rJ rI k Bl lg
 ·intro k hk hf
  rcases hk with hk|hk
  ·exact G.G6 k hk hf
  ·have:=Ge k hk
   have:=G.low k (.inr hf);omega
 ·intro k hk
  rcases hk with(hk|hk)|hk
  ·exact Nat.lt_of_lt_of_le (G.low k (.inl hk)) kT.size
  ·obtain⟨cur,hc⟩:=(Row.bz eI hk).2
   exact aO hc
  ·exact Nat.lt_of_lt_of_le (G.low k (.inr hk)) kT.size
end
theorem tm(h:HT)(m:NM)(A:Option Addr)(n c:Nat):(fc h m).setIfInBounds 33 (.slice A n c)=fc h {m with cA:=A,cn:=n,cc:=c}:=by
 have hs:=h.2.1;apply Array.ext_getElem?;intro i;unfold fc;rw [Array.getElem?_setIfInBounds,Array.getElem?_append,Array.getElem?_append];by_cases h1:i<h.1.size
 ·rw [if_neg (by omega),if_pos h1,if_pos h1]
 ·rw [if_neg h1,if_neg h1]
  by_cases h2:i=33
  ·subst h2
   rw [if_pos rfl,if_pos (by simp;omega),hs];rfl
  ·rw [if_neg (Ne.symm h2),hs]
   match i-32,show i-32≠1 by omega with
   |0,_=>rfl
   |2,_=>rfl
   |(k+3),_=>rfl
theorem zv(h:HT)(m:NM)(A:Option Addr)(n c:Nat):(fc h m).setIfInBounds 34 (.slice A n c)=fc h {m with rA:=A,rn:=n,rc:=c}:=by
 have hs:=h.2.1;apply Array.ext_getElem?;intro i;unfold fc;rw [Array.getElem?_setIfInBounds,Array.getElem?_append,Array.getElem?_append];by_cases h1:i<h.1.size
 ·rw [if_neg (by omega),if_pos h1,if_pos h1]
 ·rw [if_neg h1,if_neg h1]
  by_cases h2:i=34
  ·subst h2
   rw [if_pos rfl,if_pos (by simp;omega),hs];rfl
  ·rw [if_neg (Ne.symm h2),hs]
   match i-32,show i-32≠2 by omega with
   |0,_=>rfl
   |1,_=>rfl
   |(k+3),_=>rfl
section
variable{w w0 w':World}{S F F1 S':Nat->Prop}{g bl c mb gb ib nb:Nat}{D:DG}{C:HT->List HT}{M:List NM}{K:Value->World->Prop}
noncomputable def iJ(D:DG)(h:HT)(l:List HT):HT->List HT:=fun x=>if x∈l then dv (fh D x++ [h])else fh D x
structure AL(w0 w':World)(S F1 S':Nat->Prop)(g:Nat)(D:DG)(h:HT)(l:List HT)(gb ib nb:Nat)(pA:Option Addr)(pc i bl c mb:Nat)(M:List NM)(rA:Option Addr)(rn rc:Nat)(ws:List Nat):Prop where
 G:GV w' S' F1 g D (iJ D h (l.take i)) bl c mb M
 sub:∀k,S k->S' k
 new:∀k,S' k->S k\/w0.heap.size<=k
 node:w'.heap[nb]? =some (.cells (fc h ⟨nb,pA,l.length,pc,none,0,0,rA,rn,rc,ws⟩) dg (0,0))
 noN:¬S' nb
 row:jY w' nb rA rn rc ws
 ok:okW ws
 small:rn<=200
 noR:∀k,aW rA=some k->¬S' k
 bits:∀j,bit ws j=true↔∃p∈l.take i,∃nj,D[j]? =some nj/\(nj.id=p\/fC D nj.id p)
 Z2:w'.heap[gb]? =some (.cells #[.pointer (some ⟨g,0,none⟩)] kK (0,0))
 ibx:w'.heap[ib]? =some (.cells h.1 aj (0,0))
 noG:¬S' gb
 noI:¬S' ib
 hl:HS w' pA l.length l
 kp:Kept S w0 w'
theorem GC{h:HT}{l:List HT}{pA:Option Addr}{pc i:Nat}{rA:Option Addr}{rn rc:Nat}{ws:List Nat}{Q:aM}
 (L:AL w0 w' S F1 S' g D h l gb ib nb pA pc i bl c mb M rA rn rc ws) (W:jC D) (hD:D.length<=10000) (ua:SS l) (fN:∀p∈l,p∈ids D) (G4:∀k,F1 k->k<nb) (KE:∀a,pA=some a->F1 a.block) (h0:w0.heap.size<=nb) (dQ:i<l.length) (hll:l.length<=10000)
 (hQ:∀S2 M rA rn rc ws v,AL w0 v S F1 S2 g D h l gb ib nb pA pc (i+1) bl c mb M rA rn rc ws->Q .normal (bt.e1 ⟨gb,0,none⟩ ⟨ib,0,none⟩ 0 ⟨nb,0,none⟩ pA l.length pc (l.length:Int) ((i:Int)+1)) v):
 bt.B1 ⟨gb,0,none⟩ ⟨ib,0,none⟩ 0 ⟨nb,0,none⟩ pA l.length pc (l.length:Int) (i:Int) Q w':=by
 obtain⟨p,hp⟩:∃p,l[i]? =some p:=⟨_,List.getElem?_eq_getElem dQ⟩;have qk:=List.mem_of_getElem? hp;have acB:=fN p qk;refine Split.yes (decide_eq_true (by omega)) ?_;refine L.hl.load (i:=(i:Int)) (by omega) hp ?_;intro nJ;obtain⟨sM,jg,jk⟩:=gP (w:=w') (z:=(#[.int .u8 0,.int .u8 0,.int .u8 0,.int .u8 0,.int .u8 0,.int .u8 0,.int .u8 0,.int .u8 0,.int .u8 0,.int .u8 0,.int .u8 0,.int .u8 0,.int .u8 0,.int .u8 0,.int .u8 0,.int .u8 0,.int .u8 0,.int .u8 0,.int .u8 0,.int .u8 0,.int .u8 0,.int .u8 0,.int .u8 0,.int .u8 0,.int .u8 0,.int .u8 0,.int .u8 0,.int .u8 0,.int .u8 0,.int .u8 0,.int .u8 0,.int .u8 0]:Array Value)) (cs:=p.1) (t:=aj) (by rw [p.2.1];rfl);refine⟨⟨p.2.1,p.2.one,fun j hj=>sM j (by rw [p.2.1];exact hj)⟩,?_⟩;intro pU
 replace jg:pU.heap[w'.heap.size]? =some (.cells p.1 aj (0,0)):=jg
 replace rV:Kept Nil w' pU:=jk
 clear_value pU;refine⟨some ⟨g,0,none⟩,by rw [ay (rV.heap L.Z2 (fun h=>h))];rfl,p.1,⟨p.2.1,Cells.bz jg⟩,?_⟩;refine vq (L.G.same rV) p fun w40 x k40 hx=>⟨x,rfl,?_⟩;rcases hx with⟨rfl,mZ⟩|⟨q,nd,m',hq,dW,lM,rfl⟩
 ·exact absurd acB mZ
 intro Bd;have Iq:Kept Nil w' Bd:=(rV.tt k40).drew;have Jv:Bd.heap[w'.heap.size]? =some (.cells p.1 aj (0,0)):=k40.heap jg (fun h=>h);clear_value Bd;have akF:=Iq.size;have G42:=L.G.same Iq;obtain⟨m,hm,Tt⟩:=G42.get hq;rw [lM]at hm;cases hm;have QW:=Iq.heap L.node (fun h=>h);have zg:jY Bd nb rA rn rc ws:=Row.az L.row Iq (fun _ _ h=>h);refine⟨rA,rn,rc,by rw [a8,Nat.zero_add,ay QW];exact zw _ _,?_⟩;refine⟨_,_,_,wG Tt,some ⟨g,0,none⟩,by rw [ay (Iq.heap L.Z2 (fun h=>h))];rfl,?_⟩;refine⟨some mb,G42.at_,p.1,⟨p.2.1,Cells.bz Jv⟩,_,G42.map.wO p,?_⟩;rw [show pos p (ids D) 0=some q by rw [<-dW];exact W.pos_eq hq,Option.getD_some];have Mb:=(lgeS hq).1;have vF:=Tt.small;have akt:=L.small;have hrA:∀k,aW rA=some k->nb<=k/\k<w'.heap.size:=fun k hk=>by
  obtain⟨h1,cur,hc⟩:=Row.bz L.row hk;exact⟨h1,aO hc⟩
 have acN:nb<w'.heap.size:=aO L.node;have Nk:∀ {v:World} {A:Option Addr} {n c:Nat} {l:List Nat} {B:Nat},jY v B A n c l->∀ {k:Nat} {cs:Array Value} {t:TypeId},v.heap[k]? =some (.cells cs t (0,0))->t≠iF->¬aW A=some k:=fun hr _ _ _ hk fD e=>by
  obtain⟨_,cur,hc⟩:=Row.bz hr e;exact iB hk hc fD rfl
 refine wC zg L.ok (by omega) (by omega) Tt.past Tt.ok (by omega) (fun a ha k hk e=>?_) fun A2 n2 c2 l2 Ni tg acJ ald RB Io ad9=>⟨A2,n2,c2,rfl,?_⟩
 ·have h1:=G4 a.block (Tt.lU a ha)
  have h2:=(hrA k hk).1;omega
 have hnF:∀k,F1 k->¬aW rA=some k:=fun k hk e=>by have:=G4 k hk;have:=(hrA k e).1;omega
 have G52:=G42.az Io (fun k hk e=>L.noR k e hk) hnF;have Xl:=Io.heap Jv (Nk zg Jv (by decide));have WV:=Iq.heap L.Z2 (fun h=>h);have Rl:=Io.heap WV (Nk zg WV (by decide));have WO:=Iq.heap L.ibx (fun h=>h);have WN:=Io.heap WO (Nk zg WO (by decide));have Oy:=Io.heap QW (Nk zg QW (by decide));have akE:=Io.size;have WC:=G52.map.wO p;rw [show pos p (ids D) 0=some q by rw [<-dW];exact W.pos_eq hq,Option.getD_some]at WC;refine⟨WC,⟨p.1,rfl,p.2.1,Cells.bz Xl⟩,G52.at_,by rw [ay Rl];rfl,?_⟩;have Yk:∀k,aW A2=some k->aW rA=some k\/Bd.heap.size<=k:=ad9;refine ze tg acJ (by omega) (by omega) (by omega) fun A3 n3 c3 l3 qo wD acI alc RA FH RD=>⟨A3,n3,c3,rfl,?_⟩;have Cs:∀k,aW A2=some k->¬S' k:=fun k hk hs=>by
  rcases Yk k hk with h|h
  ·exact L.noR k h hs
  ·have:=L.G.low k (.inl hs);omega
 have Je:∀k,F1 k->¬aW A2=some k:=fun k hf hk=>by
  have:=G4 k hf;have:=(Row.bz tg hk).1;omega
 have G55:=G52.az FH (fun k hk e=>Cs k e hk) Je;have Mv:=FH.heap Rl (Nk tg Rl (by decide));have WM:=FH.heap WN (Nk tg WN (by decide));have z8:=FH.heap Oy (Nk tg Oy (by decide));have akD:=FH.size;have ag1:=nS h ⟨nb,pA,l.length,pc,none,0,0,rA,rn,rc,ws⟩;refine⟨by rw [a8,Nat.zero_add];exact dJ z8 (by omega),?_⟩;intro w57 Hj;have zL:Kept (· =nb) qo w57:=by
  show Kept (· =nb) qo (qo.setCell ((⟨nb,0,none⟩:Addr).add 34) (.slice A3 n3 c3))
  exact Kept.setCell (S:=fun k=>k=nb) (Kept.refl _ qo) (by rw [dT];exact fun _=>rfl) _
 have Wh:w57.heap[nb]? =some (.cells (fc h ⟨nb,pA,l.length,pc,none,0,0,A3,n3,c3,l3⟩) dg (0,0)):=by
  show(qo.setCell ((⟨nb,0,none⟩:Addr).add 34) (.slice A3 n3 c3)).heap[nb]? =_;rw [a8,Nat.zero_add,cV z8 34,zv];rfl
 have FG:Kept (· =nb) qo Hj:=zL.drew;have Wg:Hj.heap[nb]? =some (.cells (fc h ⟨nb,pA,l.length,pc,none,0,0,A3,n3,c3,l3⟩) dg (0,0)):=Wh;clear_value Hj;clear Wh zL;have akC:=FG.size;have G58:=G55.az FG (fun k hk e=>L.noN (e▸hk)) (fun k hk e=>by have:=G4 k hk;omega);have WT:=FG.heap Mv (iB Mv z8 (by decide));have Rg:=FG.heap WM (iB WM z8 (by decide));have TZ:jY Hj nb A3 n3 c3 l3:=Row.az wD FG (fun k hk e=>by
  subst e;exact Nk wD z8 (by decide) hk)
 obtain⟨m,hm,N58⟩:=G58.get hq;rw [lM]at hm;cases hm;refine⟨m'.cA,m'.cn,m'.cc,xR N58,h.1,⟨h.2.1,Cells.bz Rg⟩,h.2.1,?_⟩;intro Y2;have k62:Kept Nil Hj Y2:=(Kept.refl _ _).alloc _;have Rz:HS Y2 (some ⟨Hj.heap.size,0,none⟩) 1 [h]:=jA Hj h;clear_value Y2;have G62:=G58.same k62;obtain⟨m,hm,Ts⟩:=G62.get hq;rw [lM]at hm;cases hm;refine⟨xR Ts,?_⟩;have Jr:=Ts.ch.len;have D6:iJ D h (l.take i) nd.id=fh D p:=by
  unfold iJ;rw [dW,if_neg];intro ig;obtain⟨j,hj⟩:=List.mem_iff_getElem?.1 ig;rw [List.getElem?_take]at hj;split at hj
  ·have:=ua.get (by omega) hj hp
   rw [gV]at this;cases this
  ·cases hj
 have qH:=lT D fun a=>nM D p a;have ZL:m'.cn<=10000:=by
  rw [<-Jr,D6];unfold fh;omega
 obtain⟨A7,c7,GL,aci,TY,adq,ad7⟩:=cO (cx:=1) aA Ts.ch Rz (by omega) (Nat.zero_le _);have FF:Kept (fun k=>aW m'.cA=some k) Y2 GL:=Kept.grown (Kept.refl _ _) adq (fun k hk _=>hk);refine⟨A7,_,c7,GL,aci,?_⟩;have akB:=k62.size;have Vr:=FF.size;refine iI TY.hs (by omega) fun A5 c5 Pm HH k66=>⟨A5,_,c5,rfl,?_⟩;have akA:=k66.size;have Wo:=FF.heap Ts.bz (fun e=>by
  obtain⟨_,cur,hc⟩:=Row.bz Ts.ch e;exact iB Ts.bz hc (by decide) rfl)
 have Ji:=k66.heap Wo (fun h=>h);refine⟨by rw [a8,Nat.zero_add];exact dJ Ji (by rw [nS];omega),?_⟩;intro De;have UI:Kept (· =m'.b) Pm De:=by
  show Kept (· =m'.b) Pm (Pm.setCell ((⟨m'.b,0,none⟩:Addr).add 33) (.slice A5 (dv (iJ D h (l.take i) nd.id++ [h])).length c5))
  exact Kept.setCell (S:=fun k=>k=m'.b) (Kept.refl _ Pm) (by rw [dT];exact fun _=>rfl) _
 have Wn:De.heap[m'.b]? =some (.cells (fc nd.id {m' with cA:=A5,cn:=(dv (iJ D h (l.take i) nd.id++ [h])).length,cc:=c5}) dg (0,0)):=by
  show(Pm.setCell ((⟨m'.b,0,none⟩:Addr).add 33) (.slice A5 (dv (iJ D h (l.take i) nd.id++ [h])).length c5)).heap[m'.b]? =_;rw [a8,Nat.zero_add,cV Ji 33,tm]
 clear_value De;have kT:Kept (fun k=>aW m'.cA=some k\/k=m'.b) Hj De:=
  (((k62.mono (S':=fun k=>aW m'.cA=some k\/k=m'.b) (fun _ _ h=>h.elim)).trans FF (fun _ _ h=>.inl h)).trans k66 (fun _ _ h=>h.elim)).trans UI (fun _ _ h=>.inr h)
 have I0:bL De Hj.heap.size A5 (dv (iJ D h (l.take i) nd.id++ [h])).length c5 (dv (iJ D h (l.take i) nd.id++ [h])):=
  Row.base (Row.az HH UI (fun k hk e=>by
   subst e;obtain⟨_,cur,hc⟩:=Row.bz HH hk;exact iB Ji hc (by decide) rfl)) (fun k hk=>by have:=(Row.bz HH hk).1;omega)
 have G69:=G58.upd W hq lM kT Wn I0;have Ge:∀k,aW A5=some k->Hj.heap.size<=k:=fun k hk=>(Row.bz I0 hk).1;have Ti:∀k,(aW m'.cA=some k\/k=m'.b)->S' k:=fun k e=>by
  rcases e with e|rfl
  ·exact N58.O8 k e
  ·exact N58.fR
 have hkf:(fun x=>if x=nd.id then dv (iJ D h (l.take i) nd.id++ [h])else iJ D h (l.take i) x)=iJ D h (l.take (i+1)):=by
  funext x
  by_cases hx:x=nd.id
  ·rw [if_pos hx,D6,hx,dW]
   unfold iJ;rw [if_pos ((bJ hp).2 (.inr rfl))]
  ·rw [if_neg hx]
   unfold iJ;have:x∈l.take (i+1)↔x∈l.take i:=by
    rw [bJ hp];exact⟨fun e=>e.resolve_right (fun e=>hx (by rw [dW];exact e)),.inl⟩
   by_cases hm:x∈l.take i
   ·rw [if_pos hm,if_pos (this.2 hm)]
   ·rw [if_neg hm,if_neg (fun e=>hm (this.1 e))]
 rw [hkf]at G69;rw [dw (n:=(i:Int)) (by omega) (by omega)];have ahc:nb<Hj.heap.size:=aO Wg;have ji:Kept S w0 De:=by
  have k1:=L.kp.trans Iq (fun _ _ h=>h.elim);have k2:=k1.trans Io (fun k hk e=>absurd (hrA k e).1 (by omega));have k3:=k2.trans FH (fun k hk e=>absurd (Row.bz tg e).1 (by omega));have k4:=k3.trans FG (fun k hk e=>by omega);exact k4.trans kT (fun k hk e=>by
   rcases L.new k (Ti k e)with h|h
   ·exact h
   ·omega)
 refine hQ _ _ A3 n3 c3 l3 De ⟨G69,fun k hk=>.inl (L.sub k hk),fun k hk=>?_,kT.heap Wg (fun e=>L.noN (Ti _ e)),fun e=>?_,Row.az TZ kT (fun k hk e=>?_),acI,by omega,fun k hk e=>?_,fun j=>?_,
  kT.heap WT (fun e=>L.noG (Ti _ e)),kT.heap Rg (fun e=>L.noI (Ti _ e)),fun e=>?_,fun e=>?_,?_,ji⟩
 ·rcases hk with hk|hk
  ·exact L.new k hk
  ·have:=Ge k hk
   have:=L.kp.size;exact .inr (by omega)
 ·rcases e with e|e
  ·exact L.noN e
  ·have:=Ge _ e;omega
 ·have hs:=Ti k e
  rcases RD k hk with h|h
  ·exact Cs k h hs
  ·have:=L.G.low k (.inl hs);omega
 ·have Bk:k<qo.heap.size:=by
   obtain⟨_,cur,hc⟩:=Row.bz wD hk;exact aO hc
  rcases e with e|e
  ·rcases RD k hk with h|h
   ·exact Cs k h e
   ·have:=L.G.low k (.inl e);omega
  ·have:=Ge _ e;omega
 ·rw [RA,Bool.or_eq_true,RB,Bool.or_eq_true,L.bits,Tt.bits,decide_eq_true_iff]
  constructor
  ·rintro((⟨p',h1,h2⟩|⟨nj,h1,h2⟩)|rfl)
   ·exact⟨p',(bJ hp).2 (.inl h1),h2⟩
   ·exact⟨p,(bJ hp).2 (.inr rfl),nj,h1,.inr (dW▸h2)⟩
   ·exact⟨p,(bJ hp).2 (.inr rfl),nd,hq,.inl dW⟩
  ·rintro⟨p',h1,nj,h2,h3⟩
   rcases(bJ hp).1 h1 with h1|rfl
   ·exact .inl (.inl ⟨p',h1,nj,h2,h3⟩)
   ·rcases h3 with h3|h3
    ·exact .inr (W.inj h2 hq (h3.trans dW.symm))
    ·exact .inl (.inr ⟨nj,h2,dW▸h3⟩)
 ·rcases e with e|e
  ·exact L.noG e
  ·have:=Ge _ e;have:=aO WT;omega
 ·rcases e with e|e
  ·exact L.noI e
  ·have:=Ge _ e;have:=aO Rg;omega
 ·have hb:∀a,pA=some a->F1 a.block/\a.block<nb:=fun a ha=>⟨KE a ha,G4 _ (KE a ha)⟩
  have k1:=L.hl.same Iq;have k2:=k1.az Io (fun a ha=>hnF _ (hb a ha).1);have k3:=k2.az FH (fun a ha=>Je _ (hb a ha).1);have k4:=k3.az FG (fun a ha e=>by have:=(hb a ha).2;omega);exact k4.az kT (fun a ha e=>L.G.G6 _ (Ti _ e) (hb a ha).1)
end
theorem Nl:yA prog iG dc 1 8:=⟨by kernel_rfl,by kernel_rfl⟩
theorem J0:Tp prog dg=some ([(0,32),(32,1),(33,1),(34,1)],List.replicate 32 (.int .u8 0)++ [.slice none 0 0,.slice none 0 0,.slice none 0 0]):=by kernel_rfl
theorem JY(h:HT)(b:Nat)(A:Option Addr)(n c:Nat):prog.built dg [(0,.agg h.1),(1,.slice A n c)]=some (fc h ⟨b,A,n,c,none,0,0,none,0,0,[]⟩):=by
 have hs:=h.2.1;rw [ns J0,iH (off:=0) (size:=32) rfl (by simpa [Value.cells]using hs) (by simp),iH (off:=32) (size:=1) rfl rfl (by
  rw [List.size_toArray,lO (by simp [Value.cells,hs])];simp)]
 simp only [Instr.fill,Option.some.injEq];apply Array.ext';unfold gH fc;simp [Value.cells,hs];rw [List.drop_append];simp [hs]
theorem Gt(h:HT)(b:Nat):prog.built dg [(0,.agg h.1)]=some (fc h ⟨b,none,0,0,none,0,0,none,0,0,[]⟩):=by
 have hs:=h.2.1;rw [ns J0,iH (off:=0) (size:=32) rfl (by simpa [Value.cells]using hs) (by simp)];simp only [Instr.fill,Option.some.injEq];apply Array.ext';unfold gH fc;simp [Value.cells,hs]
section
variable{D:DG}{h:HT}{l:List HT}
theorem CU(W:jC D)(hn:h∉ids D){x:HT}:iJ D h l x=fh (D++ [⟨h,l⟩]) x:=by
 have ig:∀a,a∈fh (D++ [⟨h,l⟩]) x↔(a∈fh D x\/(a=h/\x∈l)):=fun a=>by
  unfold fh;rw [jn,jn,mU,kP,List.mem_append,List.mem_singleton];constructor
  ·rintro⟨h1,h2|⟨h2,h3⟩⟩
   ·exact .inl ⟨(fC.mem W (.one h2)).2,h2⟩
   ·exact .inr ⟨h2.symm,h3⟩
  ·rintro(⟨h1,h2⟩|⟨rfl,h2⟩)
   ·exact⟨.inl h1,.inl h2⟩
   ·exact⟨.inr rfl,.inr ⟨rfl,h2⟩⟩
 unfold iJ;by_cases tZ:x∈l
 ·rw [if_pos tZ]
  refine(xH (l:=fh (D++ [⟨h,l⟩]) x) (iK _) fun a=>?_).symm;rw [ig,List.mem_append,List.mem_singleton];exact⟨fun e=>e.imp (fun e=>e) (fun e=>e.1),fun e=>e.imp (fun e=>e) (fun e=>⟨e,tZ⟩)⟩
 ·rw [if_neg tZ]
  refine yB (iK _) (iK _) fun a=>?_;have:=ig a;unfold fh pick at this⊢;rw [this];exact⟨.inl,fun e=>e.resolve_right (fun e=>tZ e.2)⟩
theorem Gs(W:jC D)(hn:h∉ids D)(fN:∀p∈l,p∈ids D):fh (D++ [⟨h,l⟩]) h= []:=by
 cases hc:fh (D++ [⟨h,l⟩]) h with
 |nil=>rfl
 |cons b t=>
  exfalso;have:b∈fh (D++ [⟨h,l⟩]) h:=by rw [hc];simp
  rcases mU.1 (jn.1 this).2 with h1|⟨_,h2⟩
  ·exact hn (fC.mem W (.one h1)).1
  ·exact hn (fN h h2)
theorem Ka(W:jC D)(hn:h∉ids D){x:HT}(hx:x∈ids D)(j:Nat):(∃nj,(D++ [⟨h,l⟩])[j]? =some nj/\fC (D++ [⟨h,l⟩]) nj.id x)↔∃nj,D[j]? =some nj/\fC D nj.id x:=by
 constructor
 ·rintro⟨nj,h1,h2⟩
  have rJ:=(iZ W (nd:=⟨h,l⟩) hn hx).1 h2;rw [List.getElem?_append]at h1;split at h1
  ·exact⟨nj,h1,rJ⟩
  ·exfalso
   have:nj=⟨h,l⟩:=by
    cases hk:j-D.length with
    |zero=>rw [hk]at h1;simpa using h1.symm
    |succ k=>rw [hk]at h1;simp at h1
   subst this;exact hn (rJ.mem W).1
 ·rintro⟨nj,h1,h2⟩
  exact⟨nj,by rw [List.getElem?_append_left (lgeS h1).1];exact h1,(iZ W (nd:=⟨h,l⟩) hn hx).2 h2⟩
theorem Kb(W:jC D)(hn:h∉ids D)(fN:∀p∈l,p∈ids D)(hs:SS l)(j:Nat):
 (∃nj,(D++ [⟨h,l⟩])[j]? =some nj/\fC (D++ [⟨h,l⟩]) nj.id h)↔∃p∈l,∃nj,D[j]? =some nj/\(nj.id=p\/fC D nj.id p):=by
 have W':jC (D++ [⟨h,l⟩]):=W.snoc (nd:=⟨h,l⟩) hn fN hs;have fE:(D++ [⟨h,l⟩])[D.length]? =some ⟨h,l⟩:=by rw [List.getElem?_append_right (Nat.le_refl _),Nat.sub_self];rfl
 have key:∀a,fC (D++ [⟨h,l⟩]) a h↔∃p∈l,a=p\/fC D a p:=fun a=>by
  rw [ud W' fE a];constructor
  ·rintro⟨p,hp,e⟩
   exact⟨p,hp,e.imp (fun e=>e) (fun e=>(iZ W (nd:=⟨h,l⟩) hn (fN p hp)).1 e)⟩
  ·rintro⟨p,hp,e⟩
   exact⟨p,hp,e.imp (fun e=>e) (fun e=>(iZ W (nd:=⟨h,l⟩) hn (fN p hp)).2 e)⟩
 constructor
 ·rintro⟨nj,h1,h2⟩
  obtain⟨p,hp,e⟩:=(key _).1 h2;have hid:nj.id∈ids D:=by
   rcases e with e|e
   ·rw [e];exact fN p hp
   ·exact(e.mem W).1
  rw [List.getElem?_append]at h1;split at h1
  ·exact⟨p,hp,nj,h1,e⟩
  ·exfalso
   have:nj=⟨h,l⟩:=by
    cases hk:j-D.length with
    |zero=>rw [hk]at h1;simpa using h1.symm
    |succ k=>rw [hk]at h1;simp at h1
   subst this;exact hn hid
 ·rintro⟨p,hp,nj,h1,e⟩
  exact⟨nj,by rw [List.getElem?_append_left (lgeS h1).1];exact h1,(key _).2 ⟨p,hp,e⟩⟩
end
section
variable{w w':World}{S F F':Nat->Prop}{g bl c mb:Nat}{D:DG}{C:HT->List HT}{M:List NM}{K:Value->World->Prop}
theorem GV.Ui(G:GV w S F g D C bl c mb M)(hf:∀k,F k->F' k)(hd:∀k,S k->¬F' k)(hl:∀k,F' k->k<w.heap.size):GV w S F' g D C bl c mb M:=
 ⟨G.top,G.row,G.map,G.len,fun i nd m h1 h2=>by
   have N:=G.node i nd m h1 h2;exact⟨N.bz,N.fR,N.ps,fun a ha=>hf _ (N.Fh a ha),N.ch,N.O8,N.past,fun a ha=>hf _ (N.lU a ha),N.ok,N.bits,N.small⟩,G.apart,G.gL,G.tB,G.vi,hd,fun k hk=>hk.elim (fun h=>G.low k (.inl h)) (hl k)⟩
theorem M5{w0:World}{F1 S':Nat->Prop}{h:HT}{l:List HT}{gb ib nb:Nat}{pA:Option Addr}{pc i:Nat}{rA:Option Addr}{rn rc:Nat}{ws:List Nat}
 (L:AL w0 w S F1 S' g D h l gb ib nb pA pc i bl c mb M rA rn rc ws) (W:jC D) (hD:D.length<=5000) (ua:SS l) (fN:∀p∈l,p∈ids D) (hn:h∉ids D) (G4:∀k,F1 k->k<nb) (KE:∀a,pA=some a->F1 a.block) (h0:w0.heap.size<=nb) (dQ:l.length<=i)
 (hK:∀v S2 F2,yM v S2 F2 g (D++ [⟨h,l⟩])->Kept S w0 v->(∀k,S2 k->S k\/w0.heap.size<=k)->(∀k,F2 k->F1 k\/w0.heap.size<=k)->K (.int .i64 0) v):
 bt.GH ⟨gb,0,none⟩ ⟨ib,0,none⟩ 0 ⟨nb,0,none⟩ pA l.length pc (l.length:Int) (i:Int) K w:=by
 have Vk:l.take i=l:=List.take_of_length_le dQ;have hG:=L.G;rw [Vk]at hG;have OO:=L.bits;rw [Vk]at OO;unfold bt.GH;intro Sq;have NF:Kept Nil w Sq:=(Kept.refl _ _).drew;clear_value Sq;have uf:=hG.same NF;have Mu:=NF.heap L.Z2 (fun h=>h);have Jf:=NF.heap L.node (fun h=>h);have Ds:jY Sq nb rA rn rc ws:=Row.az L.row NF (fun _ _ h=>h);refine⟨some ⟨g,0,none⟩,by rw [ay Mu];rfl,some mb,uf.at_,h.1,⟨h.2.1,Cells.bz (NF.heap L.ibx (fun h=>h))⟩,some ⟨g,0,none⟩,by rw [ay Mu];rfl,?_⟩;refine⟨_,_,_,uf.nodes,?_⟩;obtain⟨w85,VD,Un,k85⟩:=uf.map.put hn;rw [fX]at VD;refine⟨w85,VD,?_⟩;intro KY;have P3:Kept (· =mb) Sq KY:=k85.drew;have Nv:IsMap KY mb (ids D++ [h]):=Un.az ((Kept.refl Nil w85).drew) (fun h=>h);clear_value KY;have K1:∀ {v:World} {k:Nat} {cs:Array Value} {t:TypeId},IsMap v mb (ids D)->v.heap[k]? =some (.cells cs t (0,0))->k≠mb:=fun hm hk e=>by
  obtain⟨es,clock,Jh,_⟩:=hm.ex;rw [e,Jh]at hk;cases hk
 have Rk:=P3.heap Mu (K1 uf.map Mu);have alb:=P3.heap Jf (K1 uf.map Jf);have IQ:=P3.heap uf.top (K1 uf.map uf.top);have TX:Row KY 0 dc 1 (some ⟨bl,0,none⟩) D.length c (M.map fun m=>.pointer (some ⟨m.b,0,none⟩)):=Row.az uf.row P3 (fun k hk e=>by
  obtain⟨_,cur,hc⟩:=Row.bz uf.row hk;exact K1 uf.map hc e)
 have aaN:jY KY nb rA rn rc ws:=Row.az Ds P3 (fun k hk e=>by
  obtain⟨_,cur,hc⟩:=Row.bz Ds hk;exact K1 uf.map hc e)
 refine⟨some ⟨g,0,none⟩,by rw [ay Rk];rfl,some ⟨g,0,none⟩,by rw [ay Rk];rfl,?_⟩;refine⟨some ⟨bl,0,none⟩,D.length,c,by rw [add_zero,ay IQ];rfl,?_⟩;intro Pj;have SI:Kept Nil KY Pj:=(Kept.refl _ _).alloc _;have ad5:Pj.heap[KY.heap.size]? =some (.cells #[.pointer (some ⟨nb,0,none⟩)] dc (0,0)):=aH KY _;clear_value Pj;have Mt:=SI.heap Rk (fun h=>h);have Ce:=SI.heap IQ (fun h=>h);refine⟨by rw [add_zero,ay Ce];rfl,by rw [ay Mt];rfl,by rw [ay Mt];rfl,?_⟩;have HF:Row Pj 0 dc 1 (some ⟨bl,0,none⟩) D.length c (M.map fun m=>.pointer (some ⟨m.b,0,none⟩)):=Row.az TX SI (fun _ _ h=>h);obtain⟨A98,To,Ph,acg,HE,WR,ad4⟩:=dS (P:=prog) (t:=iG) (ty:=iG) (bytes:=8) Nl HF (a:=⟨KY.heap.size,0,none⟩) (m:=1) (cx:=1) (news:= [.pointer (some ⟨nb,0,none⟩)]) rfl
  (fun j u hj=>by rw [a8,Nat.zero_add,ay ad5];simpa using hj) (fun u hu=>by simp at hu;subst hu;rfl) (by omega) (by unfold maxLen;omega) (Nat.zero_le _)
 have Zd:Kept (· =bl) Pj Ph:=Kept.grown (S:=fun k=>k=bl) (Kept.refl _ _) WR (fun k hk _=>by cases hk;rfl);refine⟨A98,_,To,Ph,acg,?_⟩;have tyL:∀ {k:Nat} {cs:Array Value} {t:TypeId},Pj.heap[k]? =some (.cells cs t (0,0))->t≠dc->k≠bl:=fun hk fD=>by
  obtain⟨_,cur,hc⟩:=Row.bz HF (k:=bl) rfl;exact iB hk hc fD
 have ado:=Zd.heap Mt (tyL Mt (by decide));have x6:=Zd.heap Ce (tyL Ce (by decide));refine⟨by rw [ay ado];rfl,by rw [add_zero];exact dJ x6 (by simp),?_⟩;intro Hf;have k95:Kept (· =g) Ph Hf:=by
  show Kept (· =g) Ph (Ph.setCell ((⟨g,0,none⟩:Addr).add 0) (.slice A98 (D.length+1) To))
  exact Kept.setCell (S:=fun k=>k=g) (Kept.refl _ Ph) (by rw [dT];exact fun _=>rfl) _
 have QD:Hf.heap[g]? =some (.cells #[.slice A98 (D.length+1) To,.map (some mb)] eZ (0,0)):=by
  show(Ph.setCell ((⟨g,0,none⟩:Addr).add 0) (.slice A98 (D.length+1) To)).heap[g]? =_;rw [add_zero,cV x6 0];rfl
 clear_value Hf;obtain⟨Tq,rfl⟩:=Row.some HE (by omega);have aky:=P3.size;have akx:=SI.size;have ji:Kept (fun k=>k=g\/k=bl\/k=mb) Sq Hf:=
  (((P3.mono (S':=fun k=>k=g\/k=bl\/k=mb) (fun _ _ h=>.inr (.inr h))).trans SI (fun _ _ h=>h.elim)).trans Zd (fun _ _ h=>.inr (.inl h))).trans k95 (fun _ _ h=>.inl h)
 have Tj:∀k,F1 k->¬(k=g\/k=bl\/k=mb):=fun k hk e=>by
  rcases e with rfl|rfl|rfl
  ·exact uf.G6 _ uf.gL hk
  ·exact uf.G6 _ uf.tB hk
  ·exact uf.G6 _ uf.vi hk
 have ty:∀ {k:Nat} {cs:Array Value} {t:TypeId},Sq.heap[k]? =some (.cells cs t (0,0))->t≠eZ->t≠dc->¬(k=g\/k=bl\/k=mb):=fun hk h1 h2 e=>by
  rcases e with e|e|e
  ·rw [e]at hk
   exact iB hk uf.top h1 rfl
  ·rw [e]at hk
   obtain⟨_,cur,hc⟩:=Row.bz uf.row (k:=bl) rfl;exact iB hk hc h2 rfl
  ·exact K1 uf.map hk e
 have Cj:Row Hf 0 dc 1 (some ⟨Tq,0,none⟩) (D.length+1) To ((M.map fun m=>.pointer (some ⟨m.b,0,none⟩))++ [.pointer (some ⟨nb,0,none⟩)]):=Row.az HE k95 (fun k hk e=>by
  obtain⟨_,cur,hc⟩:=Row.bz HE hk;exact iB hc x6 (by decide) e)
 have Um:IsMap Hf mb (ids D++ [h]):=by
  obtain⟨es,clock,Jh,_⟩:=Nv.ex;have h1:=Nv.az SI (fun h=>h);have h2:=h1.az Zd (fun e=>by
   obtain⟨_,cur,hc⟩:=Row.bz HF (k:=bl) rfl;obtain⟨_,_,lM,_⟩:=h1.ex;rw [e,hc]at lM;cases lM)
  exact h2.az k95 (fun e=>by
   obtain⟨_,_,lM,_⟩:=h2.ex;rw [e,x6]at lM;cases lM)
 have QV:=ji.heap Jf (ty Jf (by decide) (by decide));have xK:jY Hf nb rA rn rc ws:=Row.az Ds ji (fun k hk e=>by
  obtain⟨_,cur,hc⟩:=Row.bz Ds hk;exact ty hc (by decide) (by decide) e)
 have Jj:(D++ [(⟨h,l⟩:DN)]).length=D.length+1:=by simp
 have Xy:Tq=bl\/Pj.heap.size<=Tq:=by
  rcases ad4 Tq rfl with e|e
  ·exact .inl (by cases e;rfl)
  ·exact .inr e
 have la:=L.kp.size;have akz:=NF.size;have acN:=aO Jf;have VC:∀k,aW rA=some k->nb<=k/\k<Hf.heap.size:=fun k hk=>by
  obtain⟨h1,cur,hc⟩:=Row.bz xK hk;exact⟨h1,aO hc⟩
 have fE:∀ {X:Type} (xs:List X) (y:X) (j:Nat) (z:X),(xs++ [y])[j]? =some z->(j<xs.length/\xs[j]? =some z)\/(j=xs.length/\z=y):=fun xs y j z e=>by
  rw [List.getElem?_append]at e;split at e
  ·rename_i cH;exact .inl ⟨cH,e⟩
  ·rename_i gq
   cases hk:j-xs.length with
   |zero=>rw [hk]at e;exact .inr ⟨by omega,by simpa using e.symm⟩
   |succ k=>rw [hk]at e;simp at e
 refine hK Hf (fun k=>S' k\/k=nb\/k=Tq) (fun k=>F1 k\/aW rA=some k) ⟨Tq,To,mb,M++ [⟨nb,pA,l.length,pc,none,0,0,rA,rn,rc,ws⟩],?_⟩ ?_ ?_ ?_
 ·refine⟨by rw [Jj];exact QD,?_,by rw [kP];exact Um,by simp [hG.len],fun j nd m h1 h2=>?_,fun j j' m m' h1 h2 fD k hk ml=>?_,.inl hG.gL,.inr (.inr rfl),.inl hG.vi,fun k hk hf=>?_,fun k hk=>?_⟩
  ·rw [Jj,List.map_append]
   exact Cj
  ·rcases fE _ _ _ _ h1 with⟨hj,rK⟩|⟨hj,rfl⟩
   ·rcases fE _ _ _ _ h2 with⟨_,rJ⟩|⟨tz,_⟩
    ·have N:=uf.node j nd m rK rJ
     have hid:nd.id∈ids D:=dI.2 ⟨nd,List.mem_of_getElem? rK,rfl⟩;have hF:∀k,F1 k->¬(k=g\/k=bl\/k=mb):=Tj;rw [<-CU W hn];refine⟨ji.heap N.bz (ty N.bz (by decide) (by decide)),.inl N.fR,N.ps.az ji (fun a ha=>hF _ (N.Fh a ha)),fun a ha=>.inl (N.Fh a ha),Row.az N.ch ji (fun k hk e=>?_),fun k hk=>.inl (N.O8 k hk),N.past.az ji (fun a ha=>hF _ (N.lU a ha)),fun a ha=>.inl (N.lU a ha),N.ok,fun j=>?_,N.small⟩
     ·obtain⟨cur,hc⟩:=(Row.bz N.ch hk).2
      exact ty hc (by decide) (by decide) e
     ·rw [N.bits,Ka W hn hid]
    ·rw [hG.len]at tz;omega
   ·rcases fE _ _ _ _ h2 with⟨tz,_⟩|⟨_,rfl⟩
    ·rw [hG.len]at tz;omega
    ·rw [Gs W hn fN]
     refine⟨QV,.inr (.inl rfl),(L.hl.same NF).az ji (fun a ha=>Tj _ (KE a ha)),fun a ha=>.inl (KE a ha),bL.nil _ _,(fun k hk=>by cases hk),xK.us,fun a ha=>.inr (congrArg aW ha),L.ok,fun j=>?_,L.small⟩;rw [OO,Kb W hn fN ua]
  ·rcases fE _ _ _ _ h1 with⟨_,rK⟩|⟨_,rfl⟩
   ·rcases fE _ _ _ _ h2 with⟨_,rJ⟩|⟨_,rfl⟩
    ·exact hG.apart j j' m m' rK rJ fD k hk ml
    ·cases ml
   ·cases hk
  ·rcases hk with hk|rfl|rfl
   ·rcases hf with hf|hf
    ·exact hG.G6 k hk hf
    ·exact L.noR k hf hk
   ·rcases hf with hf|hf
    ·have:=G4 k hf;omega
    ·obtain⟨_,cur,hc⟩:=Row.bz xK hf
     exact iB QV hc (by decide) rfl
   ·rcases hf with hf|hf
    ·rcases Xy with e|e
     ·rw [e]at hf;exact hG.G6 _ hG.tB hf
     ·have:=G4 _ hf;omega
    ·obtain⟨_,cur,hc⟩:=Row.bz xK hf
     obtain⟨_,YA,tN⟩:=Row.bz Cj (k:=k) rfl;exact iB tN hc (by decide) rfl
  ·have akw:=ji.size
   rcases hk with(hk|rfl|rfl)|hk|hk
   ·have:=uf.low k (.inl hk);omega
   ·exact aO QV
   ·obtain⟨_,YA,tN⟩:=Row.bz Cj (k:=k) rfl
    exact aO tN
   ·have:=uf.low k (.inr hk);omega
   ·exact(VC k hk).2
 ·exact(L.kp.trans NF (fun _ _ h=>h.elim)).trans ji (fun k hk e=>by
   have hs:S' k:=by
    rcases e with rfl|rfl|rfl
    ·exact hG.gL
    ·exact hG.tB
    ·exact hG.vi
   rcases L.new k hs with h|h
   ·exact h
   ·omega)
 ·intro k hk
  rcases hk with hk|rfl|rfl
  ·exact L.new k hk
  ·exact .inr h0
  ·rcases Xy with e|e
   ·rw [e];exact L.new _ hG.tB
   ·exact .inr (by omega)
 ·intro k hk
  rcases hk with hk|hk
  ·exact .inl hk
  ·exact .inr (by have:=(VC k hk).1;omega)
theorem MQ(G:GV w S F g D (fh D) bl c mb M)(W:jC D)(hD:D.length<=5000){A:Option Addr}{n cx:Nat}{lp:List HT}(hl:HS w A n lp)(hn:n<=10000)(h:HT)
 (hK:∀v S2 F2,yM v S2 F2 g (mn D h lp)->Kept S w v->(∀k,S2 k->S k\/w.heap.size<=k)->(∀k,F2 k->F k\/w.heap.size<=k)->K (.int .i64 (du D h lp)) v):
 bj prog bt.id #[.pointer (some ⟨g,0,none⟩),.agg h.1,.slice A n cx] w K:=by
 have hlen:=hl.len;have mZ:∀v,Kept Nil w v->∀e,du D h lp=e->e≠0->K (.int .i64 e) v:=fun v k e he fD=>by
  have:=hK v S F ?_ (k.mono fun _ _ h=>h.elim) (fun _ h=>.inl h) (fun _ h=>.inl h)
  ·rw [he]at this;exact this
  ·unfold mn
   rw [if_neg (by rw [he];exact fD)];exact⟨bl,c,mb,M,G.same k⟩
 refine bt.of ?_;unfold bt.W;intro w4 w5;have k4:Kept Nil w w4:=(Kept.refl _ _).alloc _;have D9:w4.heap[w.heap.size]? =some (.cells #[.pointer (some ⟨g,0,none⟩)] kK (0,0)):=aH w _;have k5:Kept Nil w4 w5:=(Kept.refl _ _).alloc _;have Mr:w5.heap[w4.heap.size]? =some (.cells h.1 aj (0,0)):=aH w4 _;have WU:=k5.heap D9 (fun h=>h);clear_value w5;have Ny:Kept Nil w w5:=k4.tt k5;have Rh:w.heap.size<w4.heap.size:=aO D9;have alB:w4.heap.size<w5.heap.size:=aO Mr;clear_value w4;refine iI (hl.same Ny) (by omega) fun Hd YE w7 K8 k7=>⟨Hd,_,YE,rfl,?_⟩;have BS:Kept Nil w w7:=Ny.tt k7;have hg7:=k7.heap WU (fun h=>h);have hi7:=k7.heap Mr (fun h=>h);have G7:=G.same BS;have DU:(dv lp).length<=n:=by have:=pE lp;omega
 refine⟨some ⟨g,0,none⟩,by rw [ay hg7];rfl,pP G7 ⟨true,rfl,Split.no rfl ?_⟩⟩;refine⟨some ⟨g,0,none⟩,by rw [ay hg7];rfl,h.1,⟨h.2.1,Cells.bz hi7⟩,uc G7 h fun jx ow=>⟨_,rfl,?_⟩⟩;have Ia:=BS.tt ow;by_cases hm:h∈ids D
 ·refine Split.yes (decide_eq_true hm) (mZ jx Ia 7 ?_ (by omega))
  unfold du;rw [if_pos hm]
 refine Split.no (decide_eq_false hm) ?_;by_cases h0:(dv lp).length=0
 ·refine Split.yes (by simp [h0]) (mZ jx Ia 9 ?_ (by omega))
  unfold du;rw [if_neg hm,if_pos (.inl h0)]
 refine Split.no (beq_eq_false_iff_ne.2 (by omega)) ?_;by_cases h1:(dv lp).length≠n
 ·refine Split.yes (bne_iff_ne.2 (by omega)) (mZ jx Ia 9 ?_ (by omega))
  unfold du;rw [if_neg hm,if_pos (.inr (by omega))]
 replace h1:(dv lp).length=n:=by omega
 refine Split.no (by rw [h1];simp) ?_;have WX:=ow.heap hg7 (fun h=>h);have Nr:=Row.az K8 ow (fun _ _ h=>h);refine AF (G.same Ia) WX (bL.hs Nr) (by omega) fun mP x hx sF=>⟨x,rfl,?_⟩;have H9:=Ia.tt sF;cases x with
 |true=>
  refine Split.yes rfl (mZ mP H9 6 ?_ (by omega));unfold du;rw [if_neg hm,if_neg (by omega),if_pos (hx.1 rfl)]
 |false=>
  have fN:∀p∈dv lp,p∈ids D:=fun p hp=>Classical.byContradiction fun acL=>by have:=hx.2 ⟨p,hp,acL⟩;cases this
  have Rx:du D h lp=0:=by
   unfold du;rw [if_neg hm,if_neg (by omega),if_neg (fun⟨p,hp,I8⟩=>I8 (fN p hp))]
  have hD':mn D h lp=D++ [⟨h,dv lp⟩]:=by unfold mn;rw [if_pos Rx]
  rw [Rx,hD']at hK;refine Split.no rfl ?_;have WQ:=sF.heap (ow.heap hi7 (fun h=>h)) (fun h=>h);have Rn:=sF.heap WX (fun h=>h);have qX:bL mP w5.heap.size Hd (dv lp).length YE (dv lp):=Row.az Nr sF (fun _ _ h=>h);refine⟨h.1,⟨h.2.1,Cells.bz WQ⟩,?_⟩;rw [JY h mP.heap.size];refine Is.mk rfl ?_;intro Kx;have P9:Kept Nil mP Kx:=(Kept.refl _ _).alloc _;have acO:Kx.heap[mP.heap.size]? =some (.cells (fc h ⟨mP.heap.size,Hd,(dv lp).length,YE,none,0,0,none,0,0,[]⟩) dg (0,0)):=aH mP _;clear_value Kx;have Uu:=H9.tt P9;have RW:∀k,aW Hd=some k->w5.heap.size<=k/\k<mP.heap.size:=fun k hk=>by
   obtain⟨e1,cur,hc⟩:=Row.bz qX hk;exact⟨e1,aO hc⟩
  have hs5:=Ny.size;have ab8:=H9.size;have G4:∀k,(F k\/aW Hd=some k)->k<mP.heap.size:=fun k hk=>by
   rcases hk with hk|hk
   ·have:=G.low k (.inr hk);omega
   ·exact(RW k hk).2
  have MH:∀k,S k->k<w.heap.size:=fun k hk=>G.low k (.inl hk);have G23:GV Kx S (fun k=>F k\/aW Hd=some k) g D (fh D) bl c mb M:=(G.same Uu).Ui (fun _ h=>.inl h) (fun k hs e=>by
   rcases e with e|e
   ·exact G.G6 k hs e
   ·have:=MH k hs;have:=(RW k e).1;omega) (fun k hk=>by have:=G4 k hk;have:=P9.size;omega)
  have D6:iJ D h ((dv lp).take 0)=fh D:=by
   funext y
   unfold iJ;rw [if_neg (by simp)]
  have L0:AL w Kx S (fun k=>F k\/aW Hd=some k) S g D h (dv lp) w.heap.size w4.heap.size mP.heap.size Hd YE 0 bl c mb M none 0 0 []:=
   ⟨by rw [D6];exact G23,fun _ h=>h,fun _ h=>.inl h,acO,fun e=>by have:=MH _ e;omega,Row.nil _ _ _ _,by simp [okW],by omega,(fun k hk=>by cases hk),fun j=>by simp [yr],P9.heap Rn (fun h=>h),P9.heap WQ (fun h=>h),
     fun e=>by have:=MH _ e;omega,fun e=>by have:=MH _ e;omega,(qX.hs).same P9,Uu.mono fun _ _ h=>h.elim⟩
  refine bt.b6 (I:=fun s v=>∃(i:Nat) (S2:Nat->Prop) (M2:List NM) (rA:Option Addr) (rn rc:Nat) (ws:List Nat),s=(i:Int)/\i<=(dv lp).length/\AL w v S (fun k=>F k\/aW Hd=some k) S2 g D h (dv lp) w.heap.size w4.heap.size mP.heap.size Hd YE i bl c mb M2 rA rn rc ws)
   (μ:=fun s _=>(((dv lp).length:Int)-s).toNat) (s:=0) ⟨0,S,M,none,0,0,[],rfl,Nat.zero_le _,L0⟩ ?_
  rintro s v ⟨i,S2,M2,rA,rn,rc,ws,rfl,hi,L⟩;have KE:∀a,Hd=some a->F a.block\/aW Hd=some a.block:=fun a ha=>.inr (by rw [ha];rfl);by_cases dQ:i<(dv lp).length
  ·refine GC L W (by omega) (iK _) fN G4 KE (by omega) dQ (by omega) fun S3 M3 rA3 rn3 rc3 ws3 v3 L3=>?_
   exact⟨(i:Int)+1,rfl,⟨i+1,S3,M3,rA3,rn3,rc3,ws3,rfl,dQ,L3⟩,by simp only;omega⟩
  ·refine Split.no (decide_eq_false (by omega)) ?_
   rw [aP,bt.Pg];refine M5 L W hD (iK _) fN hm G4 KE (by omega) (by omega) fun v2 S4 F4 hI WE hS4 hF4=>hK v2 S4 F4 hI WE hS4 (fun k hk=>?_);rcases hF4 k hk with(e|e)|e
   ·exact .inl e
   ·exact .inr (by have:=(RW k e).1;omega)
   ·exact .inr e
end
def oR(nb:Nat):NM:=⟨nb,none,0,0,none,0,0,none,0,0,[]⟩
structure NP(w v:World)(r:HT)(A B E:Option Nat)(l:List HT):Prop where
 kp:Kept Nil w v
 node:∀b,A=some b->w.heap.size<=b/\v.heap[b]? =some (.cells (fc r (oR b)) dg (0,0))
 list:∀b,B=some b->w.heap.size<=b/\∃nb,A=some nb/\v.heap[b]? =some (.cells #[.pointer (some ⟨nb,0,none⟩)] dc (0,0))
 map:∀b,E=some b->w.heap.size<=b/\IsMap v b l
section
variable{w v:World}{r:HT}{A B E:Option Nat}{l:List HT}{K:Value->World->Prop}
theorem NP.grow(h:NP w v r A B E l)(o:Obj):NP w (v.alloc o) r A B E l:=
 ⟨h.kp.alloc o,fun b e=>⟨(h.node b e).1,ju (h.node b e).2 o⟩,fun b e=>⟨(h.list b e).1,let ⟨nb,h1,h2⟩:=(h.list b e).2;⟨nb,h1,ju h2 o⟩⟩,fun b e=>⟨(h.map b e).1,(h.map b e).2.az ((Kept.refl Nil v).alloc o) (fun h=>h)⟩⟩
theorem NP.addNode(h:NP w v r none none E l):NP w (v.alloc (.cells (fc r (oR v.heap.size)) dg)) r (some v.heap.size) none E l:=
 have g:=h.grow (.cells (fc r (oR v.heap.size)) dg)
 ⟨g.kp,fun b e=>by cases e;exact⟨h.kp.size,aH v _⟩,fun b e=>(by cases e),g.map⟩
theorem NP.pR{nb:Nat}(h:NP w v r (some nb) none E l):NP w (v.alloc (.cells #[.pointer (some ⟨nb,0,none⟩)] dc)) r (some nb) (some v.heap.size) E l:=
 have g:=h.grow (.cells #[.pointer (some ⟨nb,0,none⟩)] dc)
 ⟨g.kp,g.node,fun b e=>by cases e;exact⟨h.kp.size,nb,rfl,aH v _⟩,g.map⟩
theorem NP.C5(h:NP w v r A B none []):NP w (v.alloc (.map #[] 0)) r A B (some v.heap.size) []:=
 have g:=h.grow (.map #[] 0)
 ⟨g.kp,g.node,g.list,fun b e=>by cases e;exact⟨h.kp.size,⟨#[],0,aH v _,trivial⟩⟩⟩
theorem NP.put{mb:Nat}(h:NP w v r A B (some mb) []):∃v',(Instr.mapUpdate cr (.map (some mb)) (.agg r.1) (.int .i64 0)).run prog v=.ok () v'/\NP w v' r A B (some mb) [r]:=by
 obtain⟨h1,h2⟩:=h.map mb rfl;obtain⟨v',hr,hm,hk⟩:=h2.put (h:=r) (by simp);have K1:∀ {k:Nat} {cs:Array Value} {t:TypeId},v.heap[k]? =some (.cells cs t (0,0))->¬(k=mb):=fun hk e=>by
  obtain⟨es,clock,Jh,_⟩:=h2.ex;rw [e,Jh]at hk;cases hk
 refine⟨v',hr,h.kp.trans hk (fun k hk e=>by omega),fun b e=>⟨(h.node b e).1,hk.heap (h.node b e).2 (K1 (h.node b e).2)⟩,fun b e=>⟨(h.list b e).1,?_⟩,fun b e=>by cases e;exact⟨h1,hm⟩⟩;obtain⟨nb,e1,e2⟩:=(h.list b e).2;exact⟨nb,e1,hk.heap e2 (K1 e2)⟩
theorem sq(r:HT){a b:HT}:¬nM [(⟨r,[]⟩:DN)] a b:=fun⟨nd,h1,_,h2⟩=>by
 simp at h1;subst h1;simp at h2
theorem zi(r:HT){a b:HT}:¬fC [(⟨r,[]⟩:DN)] a b:=fun h=>by
 cases h with
 |one h=>exact sq r h
 |more _ h=>exact sq r h
theorem NP.fin{w0:World}{nb lb mb:Nat}(h:NP w v r (some nb) (some lb) (some mb) [r])(hw:w0.heap.size<=w.heap.size):
 yM (v.alloc (.cells #[.slice (some ⟨lb,0,none⟩) 1 1,.map (some mb)] eZ)) (fun k=>w0.heap.size<=k/\k<(v.alloc (.cells #[.slice (some ⟨lb,0,none⟩) 1 1,.map (some mb)] eZ)).heap.size) (fun _=>False) v.heap.size [⟨r,[]⟩]:=by
 have g:=h.grow (.cells #[.slice (some ⟨lb,0,none⟩) 1 1,.map (some mb)] eZ);have gJ:=aH v (.cells #[.slice (some ⟨lb,0,none⟩) 1 1,.map (some mb)] eZ);generalize v.alloc (.cells #[.slice (some ⟨lb,0,none⟩) 1 1,.map (some mb)] eZ)=u at g gJ;have hs:=h.kp.size;obtain⟨n1,n2⟩:=g.node nb rfl;obtain⟨l1,nb',e,l2⟩:=g.list lb rfl;cases e;obtain⟨m1,m2⟩:=g.map mb rfl;have oH:fh [⟨r,[]⟩] r= []:=by
  cases hc:fh [⟨r,[]⟩] r with
  |nil=>rfl
  |cons b t=>exact absurd (jn.1 (show b∈fh [⟨r,[]⟩] r by rw [hc];simp)).2 (sq r)
 refine⟨lb,1,mb,[oR nb],gJ,Row.made (n:=1) (cur:= #[.pointer (some ⟨nb,0,none⟩)]) l2 (Nat.zero_le _) rfl (by decide),m2,rfl,fun i nd m hi hm=>?_,fun i j m m' h1 h2 fD k hk=>?_,⟨by omega,aO gJ⟩,⟨by omega,aO l2⟩,⟨by omega,m2.lt⟩,fun _ _ h=>h,fun k hk=>hk.elim (fun h=>h.2) (fun h=>h.elim)⟩
 ·cases i with
  |zero=>
   simp at hi hm;subst hi;subst hm;refine⟨n2,⟨Nat.le_trans hw n1,aO n2⟩,HS.nil _ _,(fun a ha=>by cases ha),?_,(fun k hk=>by cases hk),⟨rfl,fun i x hx=>by simp [oR]at hx⟩,(fun a ha=>by cases ha),by simp [okW,oR],fun j=>?_,by simp [oR]⟩
   ·show bL u 0 none 0 0 (fh [⟨r,[]⟩] r)
    rw [oH];exact bL.nil _ _
   ·show bit [] j=true↔_
    rw [yr];exact⟨(fun h=>by cases h),fun⟨nj,_,h⟩=>absurd h (zi r)⟩
  |succ i=>simp at hi
 ·have hm:m=oR nb:=by
   have:=List.mem_of_getElem? h1;simpa using this
  subst hm;cases hk
theorem fY(r:HT)(hK:∀v gb,yM v (fun k=>w.heap.size<=k/\k<v.heap.size) (fun _=>False) gb [⟨r,[]⟩]->Kept Nil w v->K (.pointer (some ⟨gb,0,none⟩)) v):
 bj prog mz.id #[.agg r.1] w K:=by
 refine mz.of ?_;unfold mz.W;intro w2 w3;have k2:Kept Nil w w2:=(Kept.refl _ _).alloc _;have mu:w2.heap[w.heap.size]? =some (.cells r.1 aj (0,0)):=aH w _;have k3:Kept Nil w w3:=k2.drew;have pN:w3.heap[w.heap.size]? =some (.cells r.1 aj (0,0)):=mu;clear_value w3;have N3:NP w3 w3 r none none none []:=⟨Kept.refl _ _,(fun b e=>by cases e),(fun b e=>by cases e),(fun b e=>by cases e)⟩;have mK:∀ {v:World},Kept Nil w3 v->∃cs:Array Value,(.agg r.1:Value)=.agg cs/\cs.size=32/\Cells v (⟨w.heap.size,0,none⟩:Addr) cs:=fun k=>⟨r.1,rfl,r.2.1,Cells.bz (k.heap pN (fun h=>h))⟩;have uZ:∀ {v:World} {nb lb mb:Nat},NP w3 v r (some nb) (some lb) (some mb) [r]->K (.pointer (some ⟨v.heap.size,0,none⟩)) (v.alloc (.cells #[.slice (some ⟨lb,0,none⟩) 1 1,.map (some mb)] eZ)):=fun h=>hK _ _ (h.fin k3.size) ((k3.tt h.kp).alloc _);refine⟨r.1,⟨r.2.1,Cells.bz pN⟩,?_⟩;have V9:∀b,prog.built dg [(0,.agg r.1)]=some (fc r (oR b)):=fun b=>Gt r b;rw [V9 0];refine Is.mk rfl ?_;refine⟨r.1,⟨r.2.1,Cells.bz pN⟩,?_⟩;refine⟨?_,?_⟩
 ·have N7:NP w3 (w3.alloc (.cells (fc r (oR w3.heap.size)) dg)) r (some w3.heap.size) none none []:=N3.addNode
  refine⟨mK N7.kp,?_,?_⟩
  ·have N8:=N7.pR
   have N9:=N8.C5;obtain⟨v,hr,Tx⟩:=N9.put;exact⟨mK N8.kp,mK N9.kp,v,hr,uZ Tx⟩
  ·have Sk:=N7.C5
   refine⟨mK Sk.kp,?_,?_⟩
   ·have M9:=Sk.pR
    obtain⟨v,hr,Sj⟩:=M9.put;exact⟨mK M9.kp,v,hr,uZ Sj⟩
   ·obtain⟨v,hr,Tw⟩:=Sk.put
    exact⟨v,hr,uZ Tw.pR⟩
 ·have KQ:=N3.C5
  refine⟨mK KQ.kp,mK KQ.kp,?_,?_⟩
  ·have Pd:NP w3 ((w3.alloc (.map #[] 0)).alloc (.cells (fc r (oR (w3.alloc (.map #[] 0)).heap.size)) dg)) r (some (w3.alloc (.map #[] 0)).heap.size) none (some w3.heap.size) []:=KQ.addNode
   refine⟨mK Pd.kp,?_,?_⟩
   ·have Pc:=Pd.pR
    obtain⟨v,hr,Tu⟩:=Pc.put;exact⟨mK Pc.kp,v,hr,uZ Tu⟩
   ·obtain⟨v,hr,YR⟩:=Pd.put
    exact⟨v,hr,uZ YR.pR⟩
  ·obtain⟨v,hr,Si⟩:=KQ.put
   exact⟨v,hr,mK Si.kp,uZ Si.addNode.pR⟩
end
section
variable{w w':World}{S S' F:Nat->Prop}{g bl c mb:Nat}{D:DG}{C:HT->List HT}{M:List NM}{K:Value->World->Prop}
end
theorem Fq(h:HT)(m:NM):∀u∈(fc h m).toList,u.oneCell'=true:=fun u hu=>by
 unfold fc at hu;rw [Array.toList_append,List.mem_append]at hu;rcases hu with hu|hu
 ·exact h.2.one u hu
 ·simp at hu
  rcases hu with rfl|rfl|rfl<;>rfl
theorem jQ{w:World}{b:Nat}{es:Array MapEntry}{clock:Nat}(hb:w.heap[b]? =some (.map es clock)){K:Value->World->Prop}(hK:K (.map (some w.heap.size)) (w.alloc (.map es clock))):
 bj prog rp.id #[.map (some b)] w K:=by
 refine Calls.mono (AnyW.maps_Clone Tryz.R5 b es clock w hb) ?_;rintro e w' ⟨rfl,rfl⟩;exact⟨_,rfl,hK⟩
section
variable{w w':World}{S S' F:Nat->Prop}{g bl c mb:Nat}{D:DG}{C:HT->List HT}{M:List NM}{K:Value->World->Prop}
theorem ly.NC{ch:List HT}{nd:DN}{m:NM}{S0:Nat->Prop}(h:ly w S F D ch nd m)(hk:Kept S0 w w')(hb:¬S0 m.b)(hc:∀k,aW m.cA=some k->¬S0 k)(hF:∀k,F k->¬S0 k)(hS:∀k,S k->S' k):ly w' S' F D ch nd m:=
 ⟨hk.heap h.bz hb,hS _ h.fR,h.ps.az hk (fun a ha=>hF _ (h.Fh a ha)),h.Fh,Row.az h.ch hk hc,fun k e=>hS _ (h.O8 k e),h.past.az hk (fun a ha=>hF _ (h.lU a ha)),h.lU,h.ok,h.bits,h.small⟩
structure CP(w w':World)(F:Nat->Prop)(D:DG)(C:HT->List HT)(o mb i:Nat)(A:Option Addr)(c:Nat)(M:List NM):Prop where
 top:w'.heap[o]? =some (.cells #[.slice A i c,.map (some mb)] eZ (0,0))
 row:Row w' w.heap.size dc 1 A i c (M.map fun m=>.pointer (some ⟨m.b,0,none⟩))
 len:M.length=i
 map:IsMap w' mb (ids D)
 node:∀(j:Nat) nd m,D[j]? =some nd->M[j]? =some m->ly w' (fun k=>w.heap.size<=k/\k<w'.heap.size) F D (C nd.id) nd m
 apart:∀(i j:Nat) m m',M[i]? =some m->M[j]? =some m'->i≠j->∀k,aW m.cA=some k->aW m'.cA≠some k
 ho:w.heap.size<=o
 hm:w.heap.size<=mb
 kp:Kept Nil w w'
theorem AD(G:GV w S F g D (fh D) bl c mb M)(hD:D.length<=10000)(iq:0<D.length)
 (hK:∀v o,yM v (fun k=>w.heap.size<=k/\k<v.heap.size) F o D->Kept Nil w v->K (.pointer (some ⟨o,0,none⟩)) v):
 bj prog bC.id #[.pointer (some ⟨g,0,none⟩)] w K:=by
 have RR:∀k,F k->k<w.heap.size:=fun k hk=>G.low k (.inr hk);refine bC.of (pP G ⟨true,rfl,Split.no rfl ⟨some mb,G.at_,?_⟩⟩);obtain⟨es,clock,Jh,xg⟩:=G.map.ex;refine jQ Jh ⟨some w.heap.size,rfl,?_⟩;intro w10;have k8:Kept Nil w (w.alloc (.map es clock)):=(Kept.refl _ _).alloc _;have ZA:(w.alloc (.map es clock)).heap[w.heap.size]? =some (.map es clock):=aH w _;have me:Kept Nil w w10:=k8.alloc _;have QS:w10.heap[(w.alloc (.map es clock)).heap.size]? =some (.cells #[.slice none 0 0,.map (some w.heap.size)] eZ (0,0)):=aH (w.alloc (.map es clock)) _;have Ws:w10.heap[w.heap.size]? =some (.map es clock):=ju ZA _;clear_value w10;have hs8:=k8.size;generalize (w.alloc (.map es clock))=w8 at k8 ZA me QS Ws hs8⊢;refine⟨_,_,_,(G.same me).nodes,?_⟩;refine bC.b6 (I:=fun s v=>∃(i:Nat) (A:Option Addr) (c':Nat) (M':List NM),s=(i:Int)/\i<=D.length/\CP w v F D (fh D) w8.heap.size w.heap.size i A c' M') (μ:=fun s _=>((D.length:Int)-s).toNat) (s:=0)
  ⟨0,none,0,[],rfl,Nat.zero_le _,⟨QS,Row.nil _ _ _ _,rfl,⟨es,clock,Ws,xg⟩,fun j nd m _ h=>by simp at h,fun i j m m' h=>by simp at h,hs8,Nat.le_refl _,me⟩⟩ ?_
 rintro s v ⟨i,A,c',M',rfl,hi,P⟩;refine Split.dec (fun jc=>?_) (fun gq=>?_)
 ·have dQ:i<D.length:=by omega
  obtain⟨nd,dW⟩:∃nd,D[i]? =some nd:=⟨_,List.getElem?_eq_getElem dQ⟩;have Gv:=G.same P.kp;obtain⟨m,hm,N⟩:=Gv.get dW;refine⟨⟨by omega,by omega⟩,some ⟨m.b,0,none⟩,by rw [Int.toNat_natCast];exact Gv.ptr hm,fc nd.id m,⟨nS _ _,Cells.bz N.bz⟩,?_⟩;intro w22;have la:=nS nd.id m;obtain⟨sM,jg,jk⟩:=gP (w:=v) (z:=(#[.int .u8 0,.int .u8 0,.int .u8 0,.int .u8 0,.int .u8 0,.int .u8 0,.int .u8 0,.int .u8 0,.int .u8 0,.int .u8 0,.int .u8 0,.int .u8 0,.int .u8 0,.int .u8 0,.int .u8 0,.int .u8 0,.int .u8 0,.int .u8 0,.int .u8 0,.int .u8 0,.int .u8 0,.int .u8 0,.int .u8 0,.int .u8 0,.int .u8 0,.int .u8 0,.int .u8 0,.int .u8 0,.int .u8 0,.int .u8 0,.int .u8 0,.int .u8 0,.slice none 0 0,.slice none 0 0,.slice none 0 0]:Array Value)) (cs:=fc nd.id m) (t:=dg) (by rw [la];rfl);refine⟨⟨la,Fq _ _,fun j hj=>sM j (by rw [la];exact hj)⟩,?_⟩;intro Dh
  replace jg:Dh.heap[v.heap.size]? =some (.cells (fc nd.id m) dg (0,0)):=jg
  replace jk:Kept Nil v Dh:=jk
  clear_value Dh;have G25:=Gv.same jk;obtain⟨m2,Mn,M8⟩:=G25.get dW;rw [hm]at Mn;cases Mn;have Jr:=M8.ch.len;have qH:=lT D fun a=>nM D nd.id a;refine⟨m.cA,m.cn,m.cc,xR M8,?_⟩;refine iY M8.ch.hs (by rw [<-Jr];unfold fh;omega) fun Nh G8 sd wE FJ=>⟨Nh,_,G8,rfl,?_⟩;have Jw:=FJ.heap jg (fun h=>h);refine⟨by rw [a8,Nat.zero_add];exact dJ Jw (by omega),?_⟩;intro ug;have zO:Kept (· =v.heap.size) sd ug:=by
   show Kept (· =v.heap.size) sd (sd.setCell ((⟨v.heap.size,0,none⟩:Addr).add 33) (.slice Nh m.cn G8))
   exact Kept.setCell (S:=fun k=>k=v.heap.size) (Kept.refl _ sd) (by rw [dT];exact fun _=>rfl) _
  have MB:ug.heap[v.heap.size]? =some (.cells (fc nd.id {m with b:=v.heap.size,cA:=Nh,cn:=m.cn,cc:=G8}) dg (0,0)):=by
   show(sd.setCell ((⟨v.heap.size,0,none⟩:Addr).add 33) (.slice Nh m.cn G8)).heap[v.heap.size]? =_;rw [a8,Nat.zero_add,cV Jw 33,tm];rfl
  clear_value ug;have akK:=jk.size;have akJ:=FJ.size;have UY:Kept Nil v ug:=(jk.tt FJ).trans zO (fun k hk e=>by omega);have IT:=UY.heap P.top (fun h=>h);refine⟨A,i,c',by rw [add_zero,ay IT];rfl,?_⟩;intro nJ;have wT:Kept Nil ug nJ:=(Kept.refl _ _).alloc _;have aeb:nJ.heap[ug.heap.size]? =some (.cells #[.pointer (some ⟨v.heap.size,0,none⟩)] dc (0,0)):=aH ug _;clear_value nJ;have IF:Kept Nil v nJ:=UY.tt wT;have HK:Row nJ w.heap.size dc 1 A i c' (M'.map fun m=>.pointer (some ⟨m.b,0,none⟩)):=Row.az P.row IF (fun _ _ h=>h);have L4:=P.kp.size;have ag6:=IF.size;obtain⟨A4,c4,iS,I6,Np,adt,RE⟩:=dS (P:=prog) (t:=iG) (ty:=iG) (bytes:=8) Nl HK (a:=⟨ug.heap.size,0,none⟩) (m:=1) (cx:=1) (news:= [.pointer (some ⟨v.heap.size,0,none⟩)]) rfl
   (fun j u hj=>by rw [a8,Nat.zero_add,ay aeb];simpa using hj) (fun u hu=>by simp at hu;subst hu;rfl) (by omega) (by unfold maxLen;omega) (by omega)
  have mF:Kept (fun k=>aW A=some k) nJ iS:=Kept.grown (Kept.refl _ _) adt (fun k hk _=>hk);have tyA:∀ {k:Nat} {cs:Array Value} {t:TypeId},nJ.heap[k]? =some (.cells cs t (0,0))->t≠dc->¬aW A=some k:=fun hk fD e=>by
   obtain⟨_,cur,hc⟩:=Row.bz HK e;exact iB hk hc fD rfl
  have x7:=wT.heap IT (fun h=>h);have Cf:=mF.heap x7 (tyA x7 (by decide));refine⟨A4,i+1,c4,iS,I6,by rw [add_zero];exact dJ Cf (by simp),?_⟩;intro pU;have rV:Kept (· =w8.heap.size) iS pU:=by
   show Kept (· =w8.heap.size) iS (iS.setCell ((⟨w8.heap.size,0,none⟩:Addr).add 0) (.slice A4 (i+1) c4))
   exact Kept.setCell (S:=fun k=>k=w8.heap.size) (Kept.refl _ iS) (by rw [dT];exact fun _=>rfl) _
  have QE:pU.heap[w8.heap.size]? =some (.cells #[.slice A4 (i+1) c4,.map (some w.heap.size)] eZ (0,0)):=by
   show(iS.setCell ((⟨w8.heap.size,0,none⟩:Addr).add 0) (.slice A4 (i+1) c4)).heap[w8.heap.size]? =_;rw [add_zero,cV Cf 0];rfl
  clear_value pU;have zN:Kept (fun k=>aW A=some k\/k=w8.heap.size) nJ pU:=(mF.mono (S':=fun k=>aW A=some k\/k=w8.heap.size) (fun _ _ h=>.inl h)).trans rV (fun _ _ h=>.inr h);have ji:Kept (fun k=>aW A=some k\/k=w8.heap.size) v pU:=(IF.mono (S':=fun k=>aW A=some k\/k=w8.heap.size) (fun _ _ h=>h.elim)).tt zN;have Yi:∀k,aW A=some k->w.heap.size<=k:=fun k hk=>(Row.bz P.row hk).1;have Tj:∀k,F k->¬(aW A=some k\/k=w8.heap.size):=fun k hk e=>by
   have:=RR k hk;rcases e with e|e
   ·have:=Yi k e;omega
   ·have:=P.ho;omega
  have K2:∀ {k:Nat} {cs:Array Value} {t:TypeId},nJ.heap[k]? =some (.cells cs t (0,0))->t≠dc->t≠eZ->¬(aW A=some k\/k=w8.heap.size):=fun hk h1 h2 e=>by
   rcases e with e|e
   ·exact tyA hk h1 e
   ·rw [e]at hk
    exact iB hk x7 h2 rfl
  have abe:Kept Nil w pU:=P.kp.trans ji (fun k hk e=>by
   rcases e with e|e
   ·have:=Yi k e;omega
   ·have:=P.ho;omega)
  have akG:=ji.size;have OU:=wT.heap MB (fun h=>h);have XB:=zN.heap OU (K2 OU (by decide) (by decide));have Dv:bL nJ Dh.heap.size Nh m.cn G8 (fh D nd.id):=Row.az (Row.az wE zO (fun k hk e=>by
   obtain⟨_,cur,hc⟩:=Row.bz wE hk;subst e;exact iB Jw hc (by decide) rfl)) wT (fun _ _ h=>h)
  have Du:bL pU Dh.heap.size Nh m.cn G8 (fh D nd.id):=Row.az Dv zN (fun k hk e=>by
   obtain⟨_,cur,hc⟩:=Row.bz Dv hk;exact K2 hc (by decide) (by decide) e)
  have XA:=aO XB;rw [dw (n:=(i:Int)) (by omega) (by omega)];have fE:∀(j:Nat) (z:NM),(M'++ [{m with b:=v.heap.size,cA:=Nh,cn:=m.cn,cc:=G8}])[j]? =some z->(j<i/\M'[j]? =some z)\/(j=i/\z= {m with b:=v.heap.size,cA:=Nh,cn:=m.cn,cc:=G8}):=fun j z e=>by
   have hl:=P.len;rw [List.getElem?_append]at e;split at e
   ·exact .inl ⟨by omega,e⟩
   ·cases hk:j-M'.length with
    |zero=>rw [hk]at e;exact .inr ⟨by omega,by simpa using e.symm⟩
    |succ k=>rw [hk]at e;simp at e
  refine⟨(i:Int)+1,rfl,⟨i+1,A4,c4,M'++ [{m with b:=v.heap.size,cA:=Nh,cn:=m.cn,cc:=G8}],rfl,dQ,?_⟩,by simp only;omega⟩;refine⟨QE,?_,by simp [P.len],?_,fun j nd' m' h1 h2=>?_,fun j j' m1 m2 h1 h2 fD k hk ml=>?_,P.ho,P.hm,abe⟩
  ·rw [List.map_append]
   exact Row.az Np rV (fun k hk e=>by
    obtain⟨_,cur,hc⟩:=Row.bz Np hk;exact iB hc Cf (by decide) e)
  ·have h1:=P.map.az IF (fun h=>h)
   refine h1.az zN (fun e=>?_);obtain⟨_,_,lM,_⟩:=h1.ex;rcases e with e|e
   ·obtain⟨_,cur,hc⟩:=Row.bz HK e
    rw [hc]at lM;cases lM
   ·rw [e,x7]at lM
    cases lM
  ·rcases fE j m' h2 with⟨hj,rJ⟩|⟨rfl,rfl⟩
   ·have N1:=P.node j nd' m' h1 rJ
    have N2:ly nJ (fun k=>w.heap.size<=k/\k<v.heap.size) F D (fh D nd'.id) nd' m':=N1.NC IF (fun h=>h) (fun _ _ h=>h) (fun _ _ h=>h) (fun _ h=>h);exact N2.NC zN (K2 N2.bz (by decide) (by decide)) (fun k hk=>by
     obtain⟨cur,hc⟩:=(Row.bz N2.ch hk).2;exact K2 hc (by decide) (by decide)) Tj (fun k hk=>⟨hk.1,by omega⟩)
   ·rw [dW]at h1
    cases h1;refine⟨XB,⟨L4,XA⟩,N.ps.az ji (fun a ha=>Tj _ (N.Fh a ha)),N.Fh,Row.base Du (fun _ _=>Nat.zero_le _),fun k hk=>?_,N.past.az ji (fun a ha=>Tj _ (N.lU a ha)),N.lU,N.ok,N.bits,N.small⟩;obtain⟨h3,cur,hc⟩:=Row.bz Du hk;exact⟨by omega,aO hc⟩
  ·rcases fE j m1 h1 with⟨hj,rK⟩|⟨rfl,rfl⟩
   ·rcases fE j' m2 h2 with⟨tz,rJ⟩|⟨rfl,rfl⟩
    ·exact P.apart j j' m1 m2 rK rJ fD k hk ml
    ·have h3:=(Row.bz Du ml).1
     have rW:j<D.length:=by omega
     obtain⟨cur,hc⟩:=(Row.bz (P.node j _ m1 (List.getElem?_eq_getElem rW) rK).ch hk).2;have:=aO hc;omega
   ·rcases fE j' m2 h2 with⟨tz,rJ⟩|⟨rfl,rfl⟩
    ·have h3:=(Row.bz Du hk).1
     have rW:j'<D.length:=by omega
     obtain⟨cur,hc⟩:=(Row.bz (P.node j' _ m2 (List.getElem?_eq_getElem rW) rJ).ch ml).2;have:=aO hc;omega
    ·exact fD rfl
 ·have:i=D.length:=by omega
  subst this;rw [aP,bC.cX];obtain⟨b,rfl⟩:=Row.some P.row iq;refine hK v _ ⟨b,c',w.heap.size,M',P.top,Row.base P.row (fun _ _=>Nat.zero_le _),P.map,P.len,P.node,P.apart,⟨P.ho,aO P.top⟩,?_,⟨P.hm,P.map.lt⟩,fun k hk hf=>by have:=RR k hf;omega,fun k hk=>?_⟩ P.kp
  ·obtain⟨h1,cur,hc⟩:=Row.bz P.row (k:=b) rfl
   exact⟨h1,aO hc⟩
  ·rcases hk with hk|hk
   ·exact hk.2
   ·have:=RR k hk;have:=P.kp.size;omega
end
theorem dD{w:World}{b:Nat}{z cs:Array Value}{t:TypeId}(h:w.heap[b]? =some (.cells z t (0,0)))(hz:z.size=cs.size):
 (∀j,j<cs.size->Wr w ((⟨b,0,none⟩:Addr).add j))/\(setCells w ⟨b,0,none⟩ cs.toList 0).heap[b]? =some (.cells cs t (0,0))/\Kept (· =b) w (setCells w ⟨b,0,none⟩ cs.toList 0):=by
 refine⟨fun j hj=>?_,?_,fe _ _ _ _⟩
 ·rw [a8,Nat.zero_add]
  exact dJ h (by omega)
 ·have h1:=jP cs.toList z w t 0 0 h (by simp;omega)
  rw [h1,um (by simp [hz])]
def hx(i:Nat)(hi:i<256):HT:=⟨#[.int .u8 (i:Int),.int .u8 0,.int .u8 0,.int .u8 0,.int .u8 0,.int .u8 0,.int .u8 0,.int .u8 0,.int .u8 0,.int .u8 0,.int .u8 0,.int .u8 0,.int .u8 0,.int .u8 0,.int .u8 0,.int .u8 0,.int .u8 0,.int .u8 0,.int .u8 0,.int .u8 0,.int .u8 0,.int .u8 0,.int .u8 0,.int .u8 0,.int .u8 0,.int .u8 0,.int .u8 0,.int .u8 0,.int .u8 0,.int .u8 0,.int .u8 0,.int .u8 0],rfl,fun v hv=>by
 simp only [List.mem_cons,List.not_mem_nil,or_false]at hv;rcases hv with rfl|hv
 ·exact⟨i,rfl,by omega,by omega⟩
 ·exact⟨0,by simpa using hv,by omega,by omega⟩⟩
theorem sK{i j:Nat}{hi:i<256}{hj:j<256}(h:i≠j):hx i hi≠hx j hj:=fun e=>by
 have:=congrArg (fun a:HT=>a.1[0]?) e;simp [hx]at this;omega
section
variable{w w':World}{K:Value->World->Prop}
end
theorem HS.lay{w:World}{b:Nat}{l:List HT}{t:TypeId}(hb:w.heap[b]? =some (.cells (df l).toArray t (0,0))):HS w (some ⟨b,0,Option.none⟩) l.length l:=
 ⟨rfl,fun i x hi=>⟨_,rfl,aO hb,fun j v hj=>by
   rw [a8,a8,Nat.zero_add,ay hb];simpa using kj hi hj⟩⟩
section
variable{r a b c:HT}(FZ:r≠a)(zY:r≠b)(Oi:r≠c)(lG:a≠b)(OY:a≠c)(JA:b≠c)
abbrev kD(r a b c:HT):DG:= [⟨r,[]⟩,⟨a,[r]⟩,⟨b,[r]⟩,⟨c,dv [a,b]⟩]
include FZ in
theorem k1:du [⟨r,[]⟩] a [r]=0/\mn [⟨r,[]⟩] a [r]= [⟨r,[]⟩,⟨a,[r]⟩]:=by
 have h:du [⟨r,[]⟩] a [r]=0:=by
  unfold du;rw [if_neg (by simp [ids];exact fun e=>FZ e.symm),tW,if_neg (by simp),if_neg (by simp [ids])]
 exact⟨h,by unfold mn;rw [if_pos h,tW];rfl⟩
include zY lG in
theorem k2:du [⟨r,[]⟩,⟨a,[r]⟩] b [r]=0/\mn [⟨r,[]⟩,⟨a,[r]⟩] b [r]= [⟨r,[]⟩,⟨a,[r]⟩,⟨b,[r]⟩]:=by
 have h:du [⟨r,[]⟩,⟨a,[r]⟩] b [r]=0:=by
  unfold du;rw [if_neg (by simp [ids];exact⟨fun e=>zY e.symm,fun e=>lG e.symm⟩),tW,if_neg (by simp),if_neg (by simp [ids])]
 exact⟨h,by unfold mn;rw [if_pos h,tW];rfl⟩
include Oi lG OY JA in
theorem k3:du [⟨r,[]⟩,⟨a,[r]⟩,⟨b,[r]⟩] c [a,b]=0/\mn [⟨r,[]⟩,⟨a,[r]⟩,⟨b,[r]⟩] c [a,b]=kD r a b c:=by
 have hl:(dv [a,b]).length=2:=qa (by simp [lG]);have h:du [⟨r,[]⟩,⟨a,[r]⟩,⟨b,[r]⟩] c [a,b]=0:=by
  unfold du;rw [if_neg (by simp [ids];exact⟨fun e=>Oi e.symm,fun e=>OY e.symm,fun e=>JA e.symm⟩),hl,if_neg (by simp),if_neg];rintro⟨p,hp,hn⟩;rw [dF]at hp;simp at hp;simp [ids]at hn;rcases hp with rfl|rfl
  ·exact hn.2.1 rfl
  ·exact hn.2.2 rfl
 exact⟨h,by unfold mn;rw [if_pos h];rfl⟩
end
section
variable{w w':World}{K:Value->World->Prop}
end
structure anF(w:World)(S F:Nat->Prop)(g:Nat)(FR:Nat->Prop)(r:Nat)(D:DG):Prop where
 G:yM w S F g D
 R:tT w FR r D
 rS:¬S r
 rF:¬F r
 fS:∀k,FR k->¬S k
 low:∀k,FR k->k<w.heap.size
section
variable{w v w':World}{S F S2 F2 FR:Nat->Prop}{g r:Nat}{D D':DG}{K:Value->World->Prop}
theorem JX(h:HT):prog.built bM [(0,.agg h.1)]=some (h.1.push (.slice none 0 0)):=by
 have hs:=h.2.1;rw [ns Ek,iH (off:=0) (size:=32) rfl (by simpa [Value.cells]using hs) (by simp)];simp only [Instr.fill,Option.some.injEq];apply Array.ext';unfold gH;simp [Value.cells,hs]
end
end Go.Proofs.YtnboahlopghcjaaGreatDoor
