import Derived.Test.YtfleamccglihoaaGreatDoorProg
import Derived.Shelf.SlSortCmp.NoneTotal
import Derived.Shelf.SlMaps.Clone
import Derived.Shelf.Spec.TrailingZeros
import Derived.Shelf.Strconv.Itoa0
import Derived.Shelf.Bits.Mul64
import Derived.Test.YtfleamccglihoaaGreatDoorMA
import Derived.Test.YtfleamccglihoaaGreatDoorMB
import Derived.Lib.BytesEntry
import Derived.Test.YtfleamccglihoaaGreatDoorMC
import Derived.LaidEql
open Go.IntKind (i64 u64)
set_option linter.unusedVariables false
namespace Go.Proofs
open Go.Shelf
def Tryz.rQ:Go.Shelf.Ren:=⟨fun|6=>53|15=>98|14=>97|28=>135|29=>136|20=>127|21=>128|22=>129|23=>130|24=>131|25=>132|26=>133|27=>134|46=>152|47=>153|48=>154|49=>155|50=>156|57=>163|n=>n,fun|22=>33|24=>24|25=>106|3=>3|39=>150|0=>0|53=>182|55=>22|4=>4|46=>176|45=>175|50=>162|5=>5|9=>9|66=>204|70=>208|76=>215|77=>216|n=>n,fun|n=>n⟩
theorem Tryz.y5:Go.Proofs.SlLaysF0.n6 prog Tryz.rQ:= {
 mixed:=by kernel_rfl
 f6:=⟨f53.name,by decide,func53.trans (congrArg some (by kernel_rfl))⟩
 f14:=⟨f97.name,by decide,func97.trans (congrArg some (by kernel_rfl))⟩
 f15:=func98.trans (congrArg some (by kernel_rfl))
 f20:=⟨f127.name,by decide,func127.trans (congrArg some (by kernel_rfl))⟩
 f21:=⟨f128.name,by decide,func128.trans (congrArg some (by kernel_rfl))⟩
 f22:=⟨Tryz.f129.name,by decide,func129.trans (congrArg some (by kernel_rfl))⟩
 f23:=⟨f130.name,by decide,func130.trans (congrArg some (by kernel_rfl))⟩
 f24:=⟨f131.name,by decide,func131.trans (congrArg some (by kernel_rfl))⟩
 f25:=⟨f132.name,by decide,func132.trans (congrArg some (by kernel_rfl))⟩
 f26:=⟨f133.name,by decide,func133.trans (congrArg some (by kernel_rfl))⟩
 f27:=⟨f134.name,by decide,func134.trans (congrArg some (by kernel_rfl))⟩
 f28:=func135.trans (congrArg some (by kernel_rfl))
 f29:=func136.trans (congrArg some (by kernel_rfl))
 f46:=⟨f152.name,by decide,func152.trans (congrArg some (by kernel_rfl))⟩
 f47:=func153.trans (congrArg some (by kernel_rfl))
 f48:=func154.trans (congrArg some (by kernel_rfl))
 f49:=⟨f155.name,by decide,func155.trans (congrArg some (by kernel_rfl))⟩
 f50:=⟨f156.name,by decide,func156.trans (congrArg some (by kernel_rfl))⟩
 f57:=⟨f163.name,by decide,func163.trans (congrArg some (by kernel_rfl))⟩
 t0:=underlying0
 a0:=isAgg0
 z0:=sizeOf0
 v0:=zeroValue0
 t3:=underlying3
 a3:=isAgg3
 z3:=sizeOf3
 v3:=zeroValue3
 t4:=underlying4
 a4:=isAgg4
 z4:=sizeOf4
 v4:=zeroValue4
 t5:=underlying5
 a5:=isAgg5
 z5:=sizeOf5
 v5:=zeroValue5
 t9:=underlying9
 a9:=isAgg9
 z9:=sizeOf9
 v9:=zeroValue9
 t22:=underlying33
 a22:=isAgg33
 z22:=sizeOf33
 v22:=zeroValue33
 t25:=underlying106
 a25:=isAgg106
 z25:=sizeOf106
 v25:=zeroValue106
 t39:=underlying150
 a39:=isAgg150
 z39:=sizeOf150
 v39:=zeroValue150
 t45:=underlying175
 a45:=isAgg175
 z45:=sizeOf175
 v45:=zeroValue175
 t46:=underlying176
 a46:=isAgg176
 z46:=sizeOf176
 v46:=zeroValue176
 t50:=underlying162
 a50:=isAgg162
 z50:=sizeOf162
 v50:=zeroValue162
 t53:=underlying182
 a53:=isAgg182
 z53:=sizeOf182
 v53:=zeroValue182
 t55:=underlying22
 a55:=isAgg22
 z55:=sizeOf22
 v55:=zeroValue22
 t66:=underlying204
 a66:=isAgg204
 z66:=sizeOf204
 v66:=zeroValue204
 t70:=underlying208
 a70:=isAgg208
 z70:=sizeOf208
 v70:=zeroValue208
 t76:=underlying215
 a76:=isAgg215
 z76:=sizeOf215
 v76:=zeroValue215
 t77:=underlying216
 a77:=isAgg216
 z77:=sizeOf216
 v77:=zeroValue216}
def Tryz.lG:Go.Shelf.Ren:=⟨fun|29=>159|n=>n,fun|22=>22|3=>3|4=>4|25=>150|54=>218|0=>0|5=>5|n=>n,fun|1=>1|n=>n⟩
theorem Tryz.tzL:Go.Proofs.Lays7.n29 prog Tryz.lG:= {
 mixed:=by kernel_rfl
 f29:=func159.trans (congrArg some (by kernel_rfl))
 t0:=underlying0
 a0:=isAgg0
 z0:=sizeOf0
 v0:=zeroValue0
 i0:=by kernel_rfl
 t3:=underlying3
 a3:=isAgg3
 z3:=sizeOf3
 v3:=zeroValue3
 i3:=by kernel_rfl
 t4:=underlying4
 a4:=isAgg4
 z4:=sizeOf4
 v4:=zeroValue4
 i4:=by kernel_rfl
 t5:=underlying5
 a5:=isAgg5
 z5:=sizeOf5
 v5:=zeroValue5
 i5:=by kernel_rfl
 t22:=underlying22
 a22:=isAgg22
 z22:=sizeOf22
 v22:=zeroValue22
 i22:=by kernel_rfl
 t25:=underlying150
 a25:=isAgg150
 z25:=sizeOf150
 v25:=zeroValue150
 i25:=by kernel_rfl
 t54:=underlying218
 a54:=isAgg218
 z54:=sizeOf218
 g1:=by kernel_rfl}
def Tryz.Cp:Go.Shelf.Ren:=⟨fun|129=>136|n=>n,fun|53=>22|3=>3|4=>4|46=>150|5=>5|9=>9|n=>n,fun|n=>n⟩
theorem Tryz.M9:Go.Proofs.Lays.n129 prog Tryz.Cp:= {
 mixed:=by kernel_rfl
 f129:=func136.trans (congrArg some (by kernel_rfl))
 t3:=underlying3
 a3:=isAgg3
 z3:=sizeOf3
 v3:=zeroValue3
 t4:=underlying4
 a4:=isAgg4
 z4:=sizeOf4
 v4:=zeroValue4
 t5:=underlying5
 a5:=isAgg5
 z5:=sizeOf5
 v5:=zeroValue5
 t9:=underlying9
 a9:=isAgg9
 z9:=sizeOf9
 v9:=zeroValue9
 t46:=underlying150
 a46:=isAgg150
 z46:=sizeOf150
 v46:=zeroValue150
 t53:=underlying22
 a53:=isAgg22
 z53:=sizeOf22
 v53:=zeroValue22}
def Tryz.Co:Go.Shelf.Ren:=⟨fun|264=>161|n=>n,fun|53=>22|46=>150|n=>n,fun|n=>n⟩
theorem Tryz.M8:Go.Proofs.Lays.n264 prog Tryz.Co:= {
 mixed:=by kernel_rfl
 f264:=func161.trans (congrArg some (by kernel_rfl))
 t46:=underlying150
 a46:=isAgg150
 z46:=sizeOf150
 v46:=zeroValue150
 t53:=underlying22
 a53:=isAgg22
 z53:=sizeOf22
 v53:=zeroValue22}
end Go.Proofs
namespace Go.cF
open Go.RowKit
theorem mr.mono{P:Program}{l:Nat}{args:Array Value}{w:World}{R R':Bool->World->Prop}(h:mr P l args w R)(hr:∀b w',R b w'->R' b w'):mr P l args w R':=by
 obtain⟨g,tmps,assign,body,h1,h2⟩:=h;exact⟨g,tmps,assign,body,h1,λr m=>RoundIn.mono (h2 r m) λe w' ⟨b,he,hb⟩=>⟨b,he,hr _ _ hb⟩⟩
def jl(xs:List Value)(k:Nat)(vs:List Value):List Value:=xs.take k++vs++xs.drop (k+vs.length)
theorem sM(xs:List Value)(k:Nat):jl xs k []=xs:=by simp [jl]
theorem qN{xs:List Value}{k:Nat}(hk:k<xs.length)(v:Value)(vs:List Value):jl xs k (v::vs)=jl (xs.set k v) (k+1) vs:=by
 unfold jl;rw [List.take_add_one,List.take_set_of_le (Nat.le_refl k),List.getElem?_set_self hk,List.drop_set];rw [if_pos (by omega),List.length_cons,show k+(vs.length+1)=k+1+vs.length by omega];simp
theorem nV{xs:List Value}{k:Nat}{vs:List Value}(h:k+vs.length<=xs.length):(jl xs k vs).length=xs.length:=by
 unfold jl;simp;omega
theorem wy{xs vs:List Value}(h:vs.length=xs.length):jl xs 0 vs=vs:=by
 unfold jl;simp [h]
section
variable{w:World}{B:Nat}{e:TypeId}{size n c b:Nat}
theorem tF:∀(vs:List Value) (xs:List Value) (w:World) (o i:Nat),Row w B e size (some ⟨b,0,none⟩) n c xs->o+i+vs.length<=xs.length->
 Row (setCells w ⟨b,o,none⟩ vs i) B e size (some ⟨b,0,none⟩) n c (jl xs (o+i) vs)
 | [],xs,w,o,i,h,_=>by rw [sM];exact h
 |v::vs,xs,w,o,i,h,hl=>by
  rw [List.length_cons]at hl;rw [qN (by omega)];simp only [setCells];rw [bO];have h1:=Row.set h (j:=o+i) (by omega) v;have:=tF vs (xs.set (o+i) v) _ o (i+1) h1 (by rw [List.length_set];omega)
  rwa [show o+(i+1)=o+i+1 by omega]at this
theorem hZ:∀(vs:List Value) (w:World) (o i:Nat),Kept (· =b) w (setCells w ⟨b,o,none⟩ vs i)
 | [],w,o,i=>Kept.refl _ _
 |v::vs,w,o,i=>by
  simp only [setCells];rw [bO];exact(Kept.setCell (S:=λk=>k=b) (Kept.refl _ w) (p:=⟨b,o+i,none⟩) (λ_=>rfl) v).tt (hZ vs _ o (i+1))
theorem mc:∀(vs:List Value) (cur:Array Value) (w:World) (t:TypeId) (o i:Nat),w.heap[b]? =some (.cells cur t (0,0))->o+i+vs.length<=cur.size->
 (setCells w ⟨b,o,none⟩ vs i).heap[b]? =some (.cells (jl cur.toList (o+i) vs).toArray t (0,0))
 | [],cur,w,t,o,i,h,_=>by rw [sM];simpa [setCells]using h
 |v::vs,cur,w,t,o,i,h,hl=>by
  rw [List.length_cons]at hl;rw [qN (by simp;omega)];simp only [setCells];rw [bO];have h1:=dL h (o+i) v;have:=mc vs _ _ t o (i+1) h1 (by simp;omega);rw [show o+(i+1)=o+i+1 by omega]at this;rw [this];simp
theorem jt{z cs:Array Value}{t:TypeId}(hz:z.size=cs.size):
 (∀j,j<cs.size->Wr (w.alloc (.cells z t)) ((aU w.heap.size).add j))/\
 (setCells (w.alloc (.cells z t)) ⟨w.heap.size,0,none⟩ cs.toList 0).heap[w.heap.size]? =some (.cells cs t (0,0))/\
 Kept Nil w (setCells (w.alloc (.cells z t)) ⟨w.heap.size,0,none⟩ cs.toList 0):=by
 refine⟨λj hj=>?_,?_,?_⟩
 ·rw [bO,Nat.zero_add]
  exact eI (aO w _) (by omega)
 ·have h:=mc cs.toList z (w.alloc (.cells z t)) t 0 0 (aO w _) (by simp;omega)
  rw [h,wy (by simp [hz])]
 ·exact((Kept.refl Nil w).alloc _).trans (hZ cs.toList _ 0 0) (λk hk e=>absurd hk (by omega))
end
end Go.cF
namespace Go.cF
theorem GO:∀(vs:List Value) (off k:Nat) (cells:Array Value),off+k+vs.length<=cells.size->
 ((vs.zipIdx k).foldl (λ(cs:Array Value) (p:Value×Nat)=>cs.setIfInBounds (off+p.2) p.1) cells)=(jl cells.toList (off+k) vs).toArray
 | [],off,k,cells,_=>by rw [sM];simp
 |v::vs,off,k,cells,h=>by
  rw [List.length_cons]at h;rw [qN (by simp;omega),List.zipIdx_cons,List.foldl_cons];have:=GO vs off (k+1) (cells.setIfInBounds (off+k) v) (by simp;omega);rw [this,Array.toList_setIfInBounds];rfl
theorem j0{place:Nat->Option (Nat×Nat)}{cells:Array Value}{i off size:Nat}{v:Value}{rest:List (Nat×Value)}(hp:place i=some (off,size))(hs:v.cells.size=size)(hle:off+size<=cells.size):
 Instr.fill place cells ((i,v)::rest)=Instr.fill place (jl cells.toList off v.cells.toList).toArray rest:=by
 rw [Instr.fill,hp];simp only;rw [if_neg (by simp;omega)]
 congr 1
 have h:=GO v.cells.toList off 0 cells (by simp;omega);rw [Nat.add_zero]at h;rw [<-h,<-Array.foldl_toList,Array.toList_zipIdx]
def U8(P:Program)(t:TypeId):Option (List (Nat×Nat)×List Value):=
 match P.info? t,P.underlying t with
 |some it,some (.struct fields)=>
  match it.zero,fields.toList.mapM (λf=>(P.info? f.type).map λi=>(f.offset,i.size))with
  |some z,some places=>some (places,z.cells.toList)
  |_,_=>none
 |_,_=>none
theorem pC{P:Program}{t:TypeId}{pl:List (Nat×Nat)}{z:List Value}(h:U8 P t=some (pl,z))(parts:List (Nat×Value)):
 P.built t parts=Instr.fill (pl.toArray[·]?) z.toArray parts:=by
 unfold U8 at h;split at h
 ·rename_i it fields h1 h2
  split at h
  ·rename_i z' pl' h3 h4
   simp only [Option.some.injEq,Prod.mk.injEq]at h;obtain⟨rfl,rfl⟩:=h;unfold Program.built;rw [h1,h2];simp only [h3,h4]
  ·cases h
 ·cases h
def sQ:List Nat->Array Value
 | []=> #[]
 |D::l=> #[.pointer (some ⟨D,0,none⟩)]++sQ l
theorem po:∀l,marksOf (.agg (sQ l))=l
 | []=>rfl
 |D::l=>by
  have ih:=po l;simp only [sQ,marksOf]at*;simp [ih]
theorem oo:∀(l:List Nat) (w:World),l.Nodup->(∀D∈l,w.heap[D]? =some (.deferred (some [])))->mL l w
 | [],_,_,_=>trivial
 |D::l,w,hn,h=>by
  rw [List.nodup_cons]at hn;refine⟨h D (by simp),oo l _ hn.2 λE hE=>?_⟩;have gQ:D≠E:=λe=>hn.1 (by rw [e];exact hE);exact(World.putObj_heap_other gQ.symm).trans (h E (by simp [hE]))
theorem lY:∀(l:List Nat) (w:World),Kept (· ∈l) w (iK l w)
 | [],w=>Kept.refl _ w
 |D::l,w=>((Kept.putAt w D (.deferred none)).mono (S':=λk=>k∈D::l) (λk _ e=>by subst e;simp)).trans (lY l _) (λk _ h=>by simp [h])
open Go.RowKit
section
variable{P:Program}{n:Nat}
end
end Go.cF
namespace Go.Proofs.YtfleamccglihoaaGreatDoor
open Go.Proofs.Tryz
open Go Go.cF Go.RowKit
def UC(cs:Array Value):Prop:=cs.size=32/\∀v∈cs.toList,∃i:Int,v=.int .u8 i/\0<=i/\i<256
abbrev HT:= {cs:Array Value//UC cs}
def key(h:HT):List Int:=h.1.toList.map nU
theorem UC.ints{cs:Array Value}(h:UC cs):dT .u8 32 cs:=⟨h.1,λv hv=>let ⟨i,e,_⟩:=h.2 v hv;⟨i,e⟩⟩
theorem CD:∀ {a b:List Value},(∀v∈a,∃i:Int,v=.int .u8 i)->(∀v∈b,∃i:Int,v=.int .u8 i)->a.map nU=b.map nU->a=b
 | [],[],_,_,_=>rfl
 | [],_::_,_,_,h=>by simp at h
 |_::_,[],_,_,h=>by simp at h
 |x::a,y::b,ha,hb,h=>by
  obtain⟨i,rfl⟩:=ha x (by simp);obtain⟨j,rfl⟩:=hb y (by simp);simp only [List.map_cons,List.cons.injEq,nU]at h;rw [h.1,CD (λv hv=>ha v (by simp [hv])) (λv hv=>hb v (by simp [hv])) h.2]
theorem key_inj{a b:HT}(h:key a=key b):a=b:=by
 apply Subtype.ext;apply Array.ext';exact CD (λv hv=>a.2.ints.2 v hv) (λv hv=>b.2.ints.2 v hv) h
instance:DecidableEq HT:=λa b=>if h:key a=key b then isTrue (key_inj h)else isFalse λe=>h (by rw [e])
theorem dQ(a b:HT):eR a.1 b.1=decide (a=b):=by
 unfold eR;by_cases e:a=b
 ·subst e;simp
 ·rw [decide_eq_false e]
  have:¬(key a=key b):=λh=>e (key_inj h);simpa [key]using this
theorem UC.one{cs:Array Value}(h:UC cs):∀v∈cs.toList,v.oneCell'=true:=λv hv=>by
 obtain⟨i,rfl,_⟩:=h.2 v hv;rfl
def v8:List Int->List Int->Bool
 | [],[]=>false
 | [],_::_=>true
 |_::_,[]=>false
 |x::a,y::b=>if x<y then true else if y<x then false else v8 a b
def dD(a b:HT):Bool:=v8 (key a) (key b)
theorem wY:∀a,v8 a a=false
 | []=>rfl
 |x::a=>by simp [v8,wY a]
theorem zp:∀ {a b c},v8 a b=true->v8 b c=true->v8 a c=true
 | [],[],_,h,_=>by simp [v8]at h
 | [],_::_,[],_,h=>by simp [v8]at h
 | [],_::_,_::_,_,_=>rfl
 |_::_,[],_,h,_=>by simp [v8]at h
 |_::_,_::_,[],_,h=>by simp [v8]at h
 |x::a,y::b,z::c,h,h'=>by
  simp only [v8]at*;by_cases h1:x<y
  ·by_cases h2:y<z
   ·rw [if_pos (by omega)]
   ·rw [if_neg h2]at h'
    by_cases h3:z<y
    ·rw [if_pos h3]at h';cases h'
    ·rw [if_pos (by omega)]
  ·rw [if_neg h1]at h
   by_cases h2:y<x
   ·rw [if_pos h2]at h;cases h
   ·rw [if_neg h2]at h
    by_cases h3:y<z
    ·rw [if_pos (by omega)]
    ·rw [if_neg h3]at h'
     by_cases h4:z<y
     ·rw [if_pos h4]at h';cases h'
     ·rw [if_neg h4]at h'
      rw [if_neg (by omega),if_neg (by omega)];exact zp h h'
theorem zq:∀ {a b},a.length=b.length->v8 a b=false->v8 b a=false->a=b
 | [],[],_,_,_=>rfl
 | [],_::_,h,_,_=>by simp at h
 |_::_,[],h,_,_=>by simp at h
 |x::a,y::b,hl,h,h'=>by
  simp only [v8]at*;by_cases h1:x<y
  ·rw [if_pos h1]at h;cases h
  ·rw [if_neg h1]at h
   by_cases h2:y<x
   ·rw [if_pos h2]at h';cases h'
   ·rw [if_neg h2]at h h'
    rw [if_neg h1]at h';have:x=y:=by omega
    rw [this,zq (by simpa using hl) h h']
theorem oJ(a:HT):(key a).length=32:=by have:=a.2.1;simpa [key]using this
theorem r7{a b:HT}(h:dD a b=false)(h':dD b a=false):a=b:=key_inj (zq (by rw [oJ,oJ]) h h')
theorem mE{a b c:HT}(h:dD a b=true)(h':dD b c=true):dD a c=true:=zp h h'
theorem jS(a:HT):dD a a=false:=wY _
theorem uR{a b:HT}(h:dD a b=true):dD b a=false:=by
 cases h':dD b a
 ·rfl
 ·have:=mE h h';rw [jS]at this;cases this
end Go.Proofs.YtfleamccglihoaaGreatDoor
namespace Go.Proofs.YtfleamccglihoaaGreatDoor
open Go.Proofs.Tryz
open Go Go.cF
def SS(l:List HT):Prop:=l.Pairwise λa b=>dD a b=true
theorem SS.nodup{l:List HT}(h:SS l):l.Nodup:=List.Pairwise.imp (λ{a b} mK e=>by subst e;rw [jS]at mK;cases mK) h
theorem SS.cons{x:HT}{l:List HT}:SS (x::l)↔(∀y∈l,dD x y=true)/\SS l:=List.pairwise_cons
theorem Bh:∀ {l m:List HT},SS l->SS m->(∀x,x∈l↔x∈m)->l=m
 | [],[],_,_,_=>rfl
 | [],y::m,_,_,h=>by have:=(h y).2 (by simp);simp at this
 |x::l,[],_,_,h=>by have:=(h x).1 (by simp);simp at this
 |x::l,y::m,hl,hm,h=>by
  rw [SS.cons]at hl hm;have nI:x=y:=by
   have h1:=(h x).1 (by simp);have h2:=(h y).2 (by simp);rcases List.mem_cons.1 h1 with h1|h1
   ·exact h1
   ·rcases List.mem_cons.1 h2 with h2|h2
    ·exact h2.symm
    ·have a:=hl.1 _ h2
     have b:=hm.1 _ h1;rw [uR a]at b;cases b
  subst nI
  congr 1
  refine Bh hl.2 hm.2 λz=>?_;have hz:=h z;constructor
  ·intro hzl
   rcases List.mem_cons.1 (hz.1 (by simp [hzl]))with e|e
   ·subst e;have:=hl.1 _ hzl;rw [jS]at this;cases this
   ·exact e
  ·intro hzm
   rcases List.mem_cons.1 (hz.2 (by simp [hzm]))with e|e
   ·subst e;have:=hm.1 _ hzm;rw [jS]at this;cases this
   ·exact e
def ins(x:HT):List HT->List HT
 | []=> [x]
 |y::l=>if dD x y then x::y::l else if x=y then y::l else y::ins x l
theorem Az(x z:HT):∀l,z∈ins x l↔z=x\/z∈l
 | []=>by simp [ins]
 |y::l=>by
  unfold ins;split
  ·simp
  ·split
   ·rename_i e;subst e;simp
   ·simp only [List.mem_cons,Az x z l]
    constructor
    ·rintro(h|h|h)<;>simp [h]
    ·rintro(h|h|h)<;>simp [h]
theorem LX(x:HT):∀ {l:List HT},SS l->SS (ins x l)
 | [],_=>by simp [ins,SS]
 |y::l,h=>by
  have h':=SS.cons.1 h;unfold ins;split
  ·rename_i nI
   refine SS.cons.2 ⟨λz hz=>?_,h⟩;rcases List.mem_cons.1 hz with rfl|hz
   ·exact nI
   ·exact mE nI (h'.1 _ hz)
  ·split
   ·exact h
   ·rename_i h1 h2
    refine SS.cons.2 ⟨λz hz=>?_,LX x h'.2⟩;rcases(Az x z l).1 hz with rfl|hz
    ·cases UD:dD y z
     ·exact absurd (r7 UD (by simpa using h1)).symm h2
     ·rfl
    ·exact h'.1 _ hz
def dP(l:List HT):List HT:=l.foldr ins []
theorem dU{z:HT}:∀ {l:List HT},z∈dP l↔z∈l
 | []=>by simp [dP]
 |x::l=>by
  have:= @dU z l;simp only [dP,List.foldr_cons,Az,List.mem_cons]at this⊢;rw [this]
theorem jL:∀l:List HT,SS (dP l)
 | []=>List.Pairwise.nil
 |x::l=>LX x (jL l)
theorem FV{l m:List HT}(h:∀x,x∈l↔x∈m):dP l=dP m:=Bh (jL l) (jL m) λx=>by rw [dU,dU,h]
theorem z7{l m:List HT}(hs:SS l)(h:∀x,x∈l↔x∈m):l=dP m:=Bh hs (jL m) λx=>by rw [dU,h]
theorem Gr(x:HT):∀l,(ins x l).length<=l.length+1
 | []=>by simp [ins]
 |y::l=>by
  have:=Gr x l;unfold ins;split
  ·simp
  ·split<;>simp<;>omega
theorem oI:∀l:List HT,(dP l).length<=l.length
 | []=>by simp [dP]
 |x::l=>by
  have h1:=Gr x (dP l);have h2:=oI l;simp only [dP,List.foldr_cons,List.length_cons]at*;omega
theorem sV{x:HT}:∀ {l:List HT},x∉l->(ins x l).length=l.length+1
 | [],_=>by simp [ins]
 |y::l,h=>by
  simp only [List.mem_cons,not_or]at h;have:=sV h.2;unfold ins;split
  ·simp
  ·rw [if_neg h.1];simp;omega
theorem sx:∀ {l:List HT},l.Nodup->(dP l).length=l.length
 | [],_=>by simp [dP]
 |x::l,h=>by
  rw [List.nodup_cons]at h;have h2:=sx h.2;have:=sV (l:=dP l) (x:=x) (λhm=>h.1 (dU.1 hm));simp only [dP,List.foldr_cons,List.length_cons]at*;omega
theorem vw{x:HT}:∀ {l:List HT},SS l->x∈l->(ins x l).length=l.length
 | [],_,h=>by simp at h
 |y::l,hs,h=>by
  have h':=SS.cons.1 hs;unfold ins;split
  ·rename_i nI
   rcases List.mem_cons.1 h with rfl|h
   ·rw [jS]at nI;cases nI
   ·have:=h'.1 _ h;rw [uR nI]at this;cases this
  ·split
   ·rfl
   ·rename_i h1 h2
    rcases List.mem_cons.1 h with rfl|h
    ·exact absurd rfl h2
    ·simp [vw h'.2 h]
theorem tQ:∀ {l:List HT},(dP l).length=l.length->l.Nodup
 | [],_=>List.Pairwise.nil
 |x::l,h=>by
  have h2:=oI l;by_cases hm:x∈l
  ·have:=vw (jL l) (dU.2 hm)
   simp only [dP,List.foldr_cons,List.length_cons]at*;omega
  ·have h3:=sV (l:=dP l) (x:=x) (λh=>hm (dU.1 h))
   simp only [dP,List.foldr_cons,List.length_cons]at*;exact List.nodup_cons.2 ⟨hm,tQ (by simp only [dP];omega)⟩
theorem MO:dP []= []:=rfl
theorem pL(x:HT):dP [x]= [x]:=rfl
theorem wx{l:List HT}(h:SS l):dP l=l:=(z7 h λ_=>Iff.rfl).symm
theorem LW{l:List HT}{x:HT}{k:Nat}(hs:SS l)(h1:∀y∈l.take k,dD y x=true)(h2:∀y∈l.drop k,dD x y=true):SS (l.take k++x::l.drop k):=by
 unfold SS at*;rw [<-List.take_append_drop k l,List.pairwise_append]at hs;rw [List.pairwise_append,List.pairwise_cons];refine⟨hs.1,⟨h2,hs.2.1⟩,λy hy z hz=>?_⟩;rcases List.mem_cons.1 hz with rfl|hz
 ·exact h1 y hy
 ·exact hs.2.2 y hy z hz
theorem SS.get{l:List HT}(h:SS l){i j:Nat}(sY:i<j){x y:HT}(hx:l[i]? =some x)(hy:l[j]? =some y):dD x y=true:=by
 obtain⟨h1,rfl⟩:=lgeS hx;obtain⟨h2,rfl⟩:=lgeS hy;exact List.pairwise_iff_getElem.1 h i j h1 h2 sY
theorem G1{l:List HT}{x:HT}(hs:SS l)(h:∀y∈l,dD y x=true):SS (l++ [x]):=by
 have:=LW (k:=l.length) hs (x:=x) (by simpa using h) (by simp);simpa using this
def LE(l:List HT):Prop:=l.Pairwise λa b=>dD b a=false
theorem lt_of_le_ne{a b:HT}(h:dD b a=false)(hn:a≠b):dD a b=true:=by
 cases mK:dD a b
 ·exact absurd (r7 mK h) hn
 ·rfl
theorem vu{a b c:HT}(h:dD b a=false)(h':dD b c=true):dD a c=true:=by
 by_cases e:a=b
 ·subst e;exact h'
 ·exact mE (lt_of_le_ne h e) h'
theorem LE.get{l:List HT}(h:LE l){i j:Nat}(sY:i<j){x y:HT}(hx:l[i]? =some x)(hy:l[j]? =some y):dD y x=false:=by
 obtain⟨h1,rfl⟩:=lgeS hx;obtain⟨h2,rfl⟩:=lgeS hy;exact List.pairwise_iff_getElem.1 h i j h1 h2 sY
theorem bV{l:List HT}{k:Nat}{x z:HT}(hx:l[k]? =some x):z∈l.take (k+1)↔z∈l.take k\/z=x:=by
 rw [List.take_add_one,hx];simp
open Go.RowKit
theorem fY(a:Addr)(k:Nat):(a.add k).block=a.block:=by unfold Addr.add;split<;>rfl
theorem bg{σ:Type}(e:σ->Env)(I:σ->World->Prop)(μ:σ->World->Nat)(s:σ)(w:World)(Q:aZ)(l:Nat)(ρ:Env)(w':World):b7 e I μ s w Q (.exit l) ρ w'=Q (.exit l) ρ w':=rfl
theorem iD{σ:Type}(e:σ->Env)(I:σ->World->Prop)(μ:σ->World->Nat)(s:σ)(w:World)(Q:aZ)(ρ:Env)(w':World):b7 e I μ s w Q .ret ρ w'=Q .ret ρ w':=rfl
theorem jG{x:Int}(h0: -9223372036854775808<=x)(h1:x<9223372036854775808):i64.wrap x=x:=by
 simp only [IntKind.wrap,IntKind.bits,IntKind.signed];simp;omega
theorem Cells.aN{S:Nat->Prop}{w w':World}{a:Addr}{cs:Array Value}(h:Cells w a cs)(hk:Kept S w w')(hn:¬S a.block):Cells w' a cs:=
 λj v hj=>hk.cell (h j v hj) (by rw [fY];exact hn)
theorem Cells.bX{w:World}{b:Nat}{cs:Array Value}{t:TypeId}{fr:Nat×Nat}(h:w.heap[b]? =some (.cells cs t fr)):Cells w ⟨b,0,none⟩ cs:=
 λj v hj=>by rw [bO,Nat.zero_add,aI h];exact hj
structure HS(w:World)(A:Option Addr)(n:Nat)(l:List HT):Prop where
 len:l.length=n
 at_:∀(i:Nat) (h:HT),l[i]? =some h->∃a,A=some a/\a.block<w.heap.size/\Cells w (a.add (i*32)) h.1
theorem HS.aN{S:Nat->Prop}{w w':World}{A:Option Addr}{n:Nat}{l:List HT}(h:HS w A n l)(hk:Kept S w w')(hn:∀a,A=some a->¬S a.block):HS w' A n l:=⟨h.len,λi x hi=>by
 obtain⟨a,h1,h2,h3⟩:=h.at_ i x hi;exact⟨a,h1,Nat.lt_of_lt_of_le h2 hk.size,Cells.aN h3 hk (by rw [fY];exact hn a h1)⟩⟩
theorem HS.same{w w':World}{A:Option Addr}{n:Nat}{l:List HT}(h:HS w A n l)(hk:Kept Nil w w'):HS w' A n l:=h.aN hk λ_ _ h=>h
section
variable{w:World}{K:Value->World->Prop}
theorem uG{A:Option Addr}{n c:Nat}{l:List HT}(h:HT)(hl:HS w A n l)(hn:n<=1000000)(hK:∀w',Kept Nil w w'->K (.bool (decide (h∈l))) w'):
 bJ prog dF.id #[.slice A n c,.agg h.1] w K:=by
 refine dF.of ?_;unfold dF.W;intro w3;have k3:Kept Nil w w3:=(Kept.refl Nil w).alloc _;have qy:w3.heap[w.heap.size]? =some (.cells h.1 ai (0,0)):=aO w _;clear_value w3;have hlen:=hl.len;refine dF.cP (I:=λs w'=>∃i:Nat,s=(false,(i:Int))/\i<=n/\Kept Nil w3 w'/\h∉l.take i) (μ:=λs _=>((n:Int)-s.2).toNat) (s:=(false,0)) ⟨0,rfl,Nat.zero_le _,Kept.refl _ _,by simp⟩ ?_;rintro s w' ⟨i,rfl,hi,kw,ns⟩;refine Split.dec (λdD=>?_) (λgE=>?_)
 ·simp only at dD
  have eA:i<n:=by omega
  obtain⟨x,hx⟩:∃x,l[i]? =some x:=⟨_,List.getElem?_eq_getElem (by omega)⟩;have kk:Kept Nil w w'.drew:=(k3.tt kw).drew;obtain⟨a,rfl,_,hc⟩:=(hl.same kk).at_ i x hx;intro w8;have k8:Kept Nil w3 w8:=kw.drew;refine⟨⟨by simp only;omega,by simp only;omega⟩,x.1,⟨x.2.1,hc⟩,h.1,⟨h.2.1,Cells.bX (k8.heap qy (λh=>h))⟩,⟨x.2.ints,h.2.ints⟩,?_⟩;rw [dQ];have Ut:Kept Nil w w8:=kk;refine Split.dec (λhe=>?_) (λhe=>?_)
  ·have:=hK w8 Ut
   rw [decide_eq_true (by rw [<-he];exact List.mem_of_getElem? hx)]at this;exact this
  ·simp only
   rw [jG (x:=(i:Int)+1) (by omega) (by omega)];refine⟨(false,(i:Int)+1),rfl,⟨i+1,rfl,eA,k8,?_⟩,by simp only;omega⟩;rw [List.take_add_one,hx];simp only [Option.toList_some,List.mem_append,List.mem_singleton,not_or];exact⟨ns,λe=>he e.symm⟩
 ·simp only at gE
  rw [bg,dF.dJ];have:=hK w' (k3.tt kw);rw [List.take_of_length_le (by omega)]at ns;rw [decide_eq_false ns]at this;exact this
theorem HC{A A':Option Addr}{n n' c c':Nat}{l l':List HT}(hl:HS w A n l)(P6:HS w A' n' l')(hn:n<=1000000)(hK:∀w',Kept Nil w w'->K (.bool (decide (l=l'))) w'):
 bJ prog cV.id #[.slice A n c,.slice A' n' c'] w K:=by
 have hlen:=hl.len;have zG:=P6.len;refine cV.of ?_;by_cases gQ:n=n'
 ·subst gQ
  refine Split.no (by simp) ?_;refine cV.cP (I:=λs w'=>∃i:Nat,s=(false,(i:Int))/\i<=n/\Kept Nil w w'/\l.take i=l'.take i) (μ:=λs _=>((n:Int)-s.2).toNat) (s:=(false,0)) ⟨0,rfl,Nat.zero_le _,Kept.refl _ _,by simp⟩ ?_;rintro s w' ⟨i,rfl,hi,kw,heq⟩;refine Split.dec (λdD=>?_) (λgE=>?_)
  ·simp only at dD
   have eA:i<n:=by omega
   obtain⟨x,hx⟩:∃x,l[i]? =some x:=⟨_,List.getElem?_eq_getElem (by omega)⟩;obtain⟨y,hy⟩:∃y,l'[i]? =some y:=⟨_,List.getElem?_eq_getElem (by omega)⟩;have kk:Kept Nil w w'.drew:=kw.drew;obtain⟨a,rfl,_,hc⟩:=(hl.same kk).at_ i x hx;obtain⟨a',rfl,_,vS⟩:=(P6.same kk).at_ i y hy;intro w7;have k7:Kept Nil w w7:=kk;have hb:0<=(i:Int)/\(i:Int)<(n:Int):=⟨by omega,by omega⟩;refine⟨hb,x.1,⟨x.2.1,hc⟩,hb,y.1,⟨y.2.1,vS⟩,⟨x.2.ints,y.2.ints⟩,?_⟩;rw [dQ];by_cases he:x=y
   ·refine Split.no (by simp [he]) ?_
    simp only;rw [jG (x:=(i:Int)+1) (by omega) (by omega)];refine⟨(false,(i:Int)+1),rfl,⟨i+1,rfl,eA,k7,?_⟩,by simp only;omega⟩;rw [List.take_add_one,List.take_add_one,hx,hy,heq,he]
   ·refine Split.yes (by simp [he]) ?_
    have:=hK w7 k7;rw [decide_eq_false (λe=>he (by rw [e,hy]at hx;exact(Option.some.inj hx).symm))]at this;exact this
  ·simp only at gE
   rw [bg,cV.dJ];have:=hK w' kw;rw [List.take_of_length_le (by omega),List.take_of_length_le (by omega)]at heq;rw [decide_eq_true heq]at this;exact this
 ·refine Split.yes (by simp;omega) ?_
  have:=hK w (Kept.refl _ _);rw [decide_eq_false (λe=>gQ (by rw [<-hlen,<-zG,e]))]at this;exact this
end
def mX(a b:HT):Int:=if dD a b then-1 else if dD b a then 1 else 0
theorem wZ:∀(i:Nat) (a b:List Int),a.take i=b.take i->v8 a b=v8 (a.drop i) (b.drop i)
 |0,a,b,_=>rfl
 |i+1,[],[],_=>rfl
 |i+1,[],y::b,h=>by simp at h
 |i+1,x::a,[],h=>by simp at h
 |i+1,x::a,y::b,h=>by
  simp only [List.take_succ_cons,List.cons.injEq]at h;obtain⟨rfl,h⟩:=h;simp only [v8,List.drop_succ_cons];rw [if_neg (by omega),if_neg (by omega)];exact wZ i a b h
theorem AB{h:HT}{i:Nat}(hi:i<32):∃x:Int,h.1[i]? =some (.int .u8 x)/\(key h)[i]? =some x/\0<=x/\x<256:=by
 have hs:i<h.1.size:=by rw [h.2.1];exact hi
 obtain⟨x,hx,h1,h2⟩:=h.2.2 h.1[i] (by simp);refine⟨x,by rw [Array.getElem?_eq_getElem hs,hx],?_,h1,h2⟩;unfold key;rw [List.getElem?_map,Array.getElem?_toList,Array.getElem?_eq_getElem hs,hx];rfl
section
variable{w:World}{K:Value->World->Prop}
theorem vo(a b:HT)(hK:∀w',Kept Nil w w'->K (.int .i64 (mX a b)) w'):bJ prog cr.id #[.agg a.1,.agg b.1] w K:=by
 refine cr.of ?_;unfold cr.W;intro w3 w4;have k3:Kept Nil w w3:=(Kept.refl Nil w).alloc _;have k4:Kept Nil w w4:=k3.alloc _;have CS:w4.heap[w.heap.size]? =some (.cells a.1 ai (0,0)):=mh (aO w _) _;have vB:w4.heap[w3.heap.size]? =some (.cells b.1 ai (0,0)):=aO w3 _;clear_value w4;refine cr.cP (I:=λs w'=>∃i:Nat,s=(0,(i:Int))/\i<=32/\Kept Nil w4 w'/\(key a).take i=(key b).take i) (μ:=λs _=>(32-s.2).toNat) (s:=(0,0)) ⟨0,rfl,by omega,Kept.refl _ _,by simp⟩ ?_;rintro s w' ⟨i,rfl,hi,kw,heq⟩;refine Split.dec (λjT=>?_) (λgE=>?_)
 ·simp only at jT
  have eA:i<32:=by omega
  obtain⟨x,hx,kx,_⟩:=AB (h:=a) eA;obtain⟨y,hy,ky,_⟩:=AB (h:=b) eA;have e1:dD a b=v8 ((key a).drop i) ((key b).drop i):=wZ i _ _ heq;have e2:dD b a=v8 ((key b).drop i) ((key a).drop i):=wZ i _ _ heq.symm;have da:(key a).drop i=x::(key a).drop (i+1):=by
   obtain⟨h1,h2⟩:=lgeS kx;rw [List.drop_eq_getElem_cons h1,h2]
  have db:(key b).drop i=y::(key b).drop (i+1):=by
   obtain⟨h1,h2⟩:=lgeS ky;rw [List.drop_eq_getElem_cons h1,h2]
  rw [da,db]at e1 e2;simp only [v8]at e1 e2;intro w9;have k9:Kept Nil w4 w9:=kw.drew;clear_value w9;have hb:0<=(i:Int)/\(i:Int)<32:=⟨by omega,by omega⟩;have ca:∀ {w':World},Kept Nil w4 w'->w'.cell? ((aU w.heap.size).add ((i:Int).toNat*1))=some (.int .u8 x):=λk=>by
   rw [bO,Nat.zero_add,Nat.mul_one,Int.toNat_natCast,aI (k.heap CS (λh=>h))];exact hx
  have cb:∀ {w':World},Kept Nil w4 w'->w'.cell? ((aU w3.heap.size).add ((i:Int).toNat*1))=some (.int .u8 y):=λk=>by
   rw [bO,Nat.zero_add,Nat.mul_one,Int.toNat_natCast,aI (k.heap vB (λh=>h))];exact hy
  refine⟨hb,x,ca k9,hb,y,cb k9,Split.dec (λnI=>?_) (λnI=>?_)⟩
  ·have:=hK w9 (k4.tt k9)
   rw [show mX a b= -1 by unfold mX;rw [e1,if_pos nI];rfl]at this;exact this
  ·intro nM
   have yl:Kept Nil w4 nM:=k9.drew;clear_value nM;refine⟨hb,x,ca yl,hb,y,cb yl,Split.dec (λGt=>?_) (λGt=>?_)⟩
   ·have:=hK nM (k4.tt yl)
    rw [show mX a b=1 by unfold mX;rw [e1,e2,if_neg nI,if_pos (show y<x from Gt),if_pos (show y<x from Gt)];rfl]at this;exact this
   ·simp only
    rw [jG (x:=(i:Int)+1) (by omega) (by omega)];refine⟨(0,(i:Int)+1),rfl,⟨i+1,rfl,eA,yl,?_⟩,by simp only;omega⟩;have:x=y:=by omega
    rw [List.take_add_one,List.take_add_one,kx,ky,heq,this]
 ·simp only at gE
  rw [bg,cr.dJ];have:=hK w' (k4.tt kw);have mK:a=b:=by
   apply key_inj;rw [List.take_of_length_le (by rw [oJ];omega),List.take_of_length_le (by rw [oJ];omega)]at heq;exact heq
  rw [show mX a b=0 by unfold mX;rw [mK,jS];rfl]at this;exact this
end
theorem GU{x y:Int}(hx:0<=x/\x<256)(hy:0<=y/\y<256):(x.toNat.toUInt8<y.toNat.toUInt8)↔x<y:=by
 rw [UInt8.lt_iff_toNat_lt];simp only [Nat.toUInt8,UInt8.toNat_ofNat'];omega
theorem pB:∀ {a b:List Int},a.length=b.length->(∀x∈a,0<=x/\x<256)->(∀x∈b,0<=x/\x<256)->
 Lib.compareBytes (Lib.bytesOf a) (Lib.bytesOf b)=if v8 a b then-1 else if v8 b a then 1 else 0
 | [],[],_,_,_=>rfl
 | [],_::_,h,_,_=>by simp at h
 |_::_,[],h,_,_=>by simp at h
 |x::a,y::b,h,ha,hb=>by
  have hx:=ha x (by simp);have hy:=hb y (by simp);have ih:=pB (a:=a) (b:=b) (by simpa using h) (λz hz=>ha z (by simp [hz])) (λz hz=>hb z (by simp [hz]));simp only [Lib.bytesOf,List.map_cons,Lib.compareBytes,GU hx hy,GU hy hx,v8];by_cases h1:x<y
  ·simp [h1]
  ·by_cases h2:y<x
   ·simp [h1,h2]
   ·simp only [h1,h2,if_false]
    exact ih
theorem zw(h:HT):∀x∈key h,0<=x/\x<256:=by
 intro x hx;simp only [key,List.mem_map]at hx;obtain⟨v,hv,rfl⟩:=hx;obtain⟨i,rfl,h1,h2⟩:=h.2.2 v hv;exact⟨h1,h2⟩
theorem uf(a b:HT):Lib.compareBytes (Lib.bytesOf (key a)) (Lib.bytesOf (key b))=mX a b:=
 pB (by rw [oJ,oJ]) (zw a) (zw b)
section
variable{w:World}{K:Value->World->Prop}
theorem uW(a b:HT){p q:Addr}{c c':Nat}(ha:Cells w p a.1)(hb:Cells w q b.1)(hK:K (.int .i64 (mX a b)) w):
 bJ prog jA.id #[.slice (some p) 32 c,.slice (some q) 32 c'] w K:=by
 refine jA.of ⟨.int .i64 (mX a b),w,?_,_,rfl,hK⟩;have CP:∀(h:HT) (r:Addr),Cells w r h.1->∀j x,(key h)[j]? =some x->w.cell? (r.add j)=some (.int .u8 x):=by
  intro h r hr j x hx;have hj:j<32:=by have:=(lgeS hx).1;rw [oJ]at this;exact this
  obtain⟨y,hy,ky,_⟩:=AB (h:=h) hj;rw [hx]at ky;cases ky;exact hr j _ hy
 have l1:=Lib.run_loadBytesX (P:=prog) w (key a) p .empty (CP a p ha);have l2:=Lib.run_loadBytesX (P:=prog) w (key b) q .empty (CP b q hb);rw [oJ]at l1 l2;rw [run_callFunc_extern vU.at_ (by kernel_rfl) (by kernel_rfl) (by kernel_rfl) (e:=Extern.BytealgCompare.compare) (by kernel_rfl)];have hr:(Extern.BytealgCompare.compare #[.slice (some p) 32 c,.slice (some q) 32 c']).run prog w=.ok (.int .i64 (mX a b)) w:=by
  change Sem.run prog (do pure (goInt (Extern.BytealgCompare.cmp (<-Extern.Bytes.bytesOf (.slice (some p) 32 c)) (<-Extern.Bytes.bytesOf (.slice (some q) 32 c'))))) w=_
  simp only [Extern.Bytes.bytesOf,Sem.run_bind,l1,l2,Result.andThen_ok,Sem.run_pure,Lib.cmp_eq,goInt];rw [<-uf];simp
 rw [hr];rfl
theorem rG(a b:HT)(hK:K (.int .i64 (mX a b)) ((w.alloc (.cells a.1 ai)).alloc (.cells b.1 ai)).drew):bJ prog eN.id #[.agg a.1,.agg b.1] w K:=by
 refine eN.of ?_;unfold eN.W;intro w3 w4 w5;have ha:w5.heap[w.heap.size]? =some (.cells a.1 ai (0,0)):=mh (aO w _) _;have hb:w5.heap[w3.heap.size]? =some (.cells b.1 ai (0,0)):=aO w3 _;simp only [if_neg (show ¬(32:Nat)=0 by omega),Nat.zero_mul,add_zero,Nat.sub_zero];exact uW a b (Cells.bX ha) (Cells.bX hb) ⟨_,rfl,hK⟩
end
theorem mZ(a:Addr)(m n:Nat):(a.add m).add n=a.add (m+n):=by
 unfold Addr.add;by_cases hm:m=0<;>by_cases hn:n=0<;>simp [hm,hn,Nat.add_assoc]
def dK(l:List HT):List Value:=l.flatMap λh=>h.1.toList
theorem mV(h:HT)(l:List HT):dK (h::l)=h.1.toList++dK l:=by simp [dK]
theorem ot(l m:List HT):dK (l++m)=dK l++dK m:=by simp [dK]
theorem fX:∀l:List HT,(dK l).length=l.length*32
 | []=>rfl
 |h::l=>by
  have:=h.2.1;rw [mV,List.length_append,fX l,Array.length_toList,this,List.length_cons];omega
theorem EP(l:List HT):∀u∈dK l,u.oneCell'=true:=by
 intro u hu;simp only [dK,List.mem_flatMap]at hu;obtain⟨h,_,hu⟩:=hu;exact h.2.one u hu
theorem mF:∀ {l:List HT} {i:Nat} {h:HT},l[i]? =some h->∀ {j:Nat} {v:Value},h.1[j]? =some v->(dK l)[i*32+j]? =some v
 | [],_,_,hi,_,_,_=>by simp at hi
 |x::l,0,h,hi,j,v,hj=>by
  simp only [List.getElem?_cons_zero,Option.some.injEq]at hi;subst hi;have dD:j<x.1.toList.length:=by simpa using (Array.getElem?_eq_some_iff.1 hj).1
  rw [mV,Nat.zero_mul,Nat.zero_add,List.getElem?_append_left dD,Array.getElem?_toList,hj]
 |x::l,i+1,h,hi,j,v,hj=>by
  simp only [List.getElem?_cons_succ]at hi;have:=x.2.1;rw [mV,List.getElem?_append_right (by simp;omega),Array.length_toList,this,show(i+1)*32+j-32=i*32+j by omega];exact mF hi hj
theorem Iw{l:List HT}{j:Nat}{v:Value}(h:(dK l)[j]? =some v):∃x,l[j/32]? =some x/\x.1[j%32]? =some v:=by
 have hj:=(lgeS h).1;rw [fX]at hj;have hi:j/32<l.length:=by omega
 refine⟨l[j/32],List.getElem?_eq_getElem hi,?_⟩;have hs:=l[j/32].2.1;have hm:j%32<l[j/32].1.size:=by rw [hs];omega
 obtain⟨u,hu⟩:∃u,l[j/32].1[j%32]? =some u:=⟨_,Array.getElem?_eq_getElem hm⟩;have:=mF (List.getElem?_eq_getElem hi) hu;rw [show j/32*32+j%32=j by omega,h]at this;rw [hu,this]
theorem qP:Bu prog aH ai 32 32:=⟨by kernel_rfl,by kernel_rfl⟩
abbrev bY(w:World)(B:Nat)(A:Option Addr)(n c:Nat)(l:List HT):Prop:=Row w B ai 32 A n c (dK l)
section
variable{w w':World}{B:Nat}{A:Option Addr}{n c:Nat}{l:List HT}
theorem bY.len(h:bY w B A n c l):l.length=n:=by
 have:=Row.len h;rw [fX]at this;omega
theorem bY.hs(h:bY w B A n c l):HS w A n l:=⟨h.len,λi x hi=>by
 have hlen:=h.len;have eA:=(lgeS hi).1;obtain⟨b,rfl⟩:=Row.some h (by omega);obtain⟨_,cur,o5⟩:=Row.bX h (k:=b) rfl;refine⟨_,rfl,bt o5,λj v hj=>?_⟩;rw [mZ];exact Row.cells h _ _ (mF hi hj)⟩
theorem bY.nil(w:World)(B:Nat):bY w B none 0 0 []:=Row.nil _ _ _ _
theorem HS.cells{a:Addr}(h:HS w (some a) n l):∀j u,(dK l)[j]? =some u->w.cell? (a.add j)=some u:=by
 intro j u hj;obtain⟨x,hx,hu⟩:=Iw hj;obtain⟨a',ha,_,hc⟩:=h.at_ _ x hx;cases ha;have:=hc _ _ hu
 rwa [mZ,show j/32*32+j%32=j by omega]at this
theorem HS.nil(w:World)(A:Option Addr):HS w A 0 []:=⟨rfl,λi x hi=>by simp at hi⟩
theorem HS.none(h:HS w none n l):n=0/\l= []:=by
 cases l with
 |nil=>exact⟨h.len.symm,rfl⟩
 |cons x l=>obtain⟨a,ha,_⟩:=h.at_ 0 x rfl;cases ha
theorem HS.take(h:HS w A n l){k:Nat}(hk:k<=n):HS w A k (l.take k):=⟨by have:=h.len;simp;omega,λi x hi=>by
 rw [List.getElem?_take]at hi;split at hi
 ·exact h.at_ i x hi
 ·cases hi⟩
theorem HS.drop(h:HS w A n l){k:Nat}(hc:n<=c)(hk:k<=n):HS w (if c=k then A else A.map (·.add (k*32))) (n-k) (l.drop k):=⟨by have:=h.len;simp;omega,λi x hi=>by
 rw [List.getElem?_drop]at hi;have hlen:=h.len;have:=(lgeS hi).1;obtain⟨a,rfl,hb,tB⟩:=h.at_ _ x hi;rw [if_neg (by omega)];refine⟨_,rfl,by rw [fY];exact hb,?_⟩;rw [mZ,<-Nat.add_mul];exact tB⟩
theorem HS.one{w:World}{b:Nat}{h:HT}{t:TypeId}{fr:Nat×Nat}(hb:w.heap[b]? =some (.cells h.1 t fr)):HS w (some ⟨b,0,Option.none⟩) 1 [h]:=⟨rfl,λi x hi=>by
 cases i with
 |zero=>
  simp only [List.getElem?_cons_zero,Option.some.injEq]at hi;subst hi;exact⟨_,rfl,bt hb,by rw [Nat.zero_mul,add_zero];exact Cells.bX hb⟩
 |succ i=>simp at hi⟩
theorem dp(ty:Nat)(h:bY w B A n c l){A2:Option Addr}{m cx:Nat}{l2:List HT}(h2:HS w A2 m l2)(hm:n+m<=1000000)(hB:B<=w.heap.size):
 ∃A' c' w',(Builtin.append_ #[aH,aH] ty #[.slice A n c,.slice A2 m cx]).run prog w=.ok (.slice A' (n+m) c') w'/\
  bY w' B A' (n+m) c' (l++l2)/\w.grownBy w' (bL A)/\(∀k,bL A'=some k->bL A=some k\/w.heap.size<=k):=by
 cases A2 with
 |some a=>
  have vR:=h2.len;obtain⟨A',c',w',hr,gL,hg,hb⟩:=gU (P:=prog) (t:=aH) (bytes:=32) (ty:=ty) qP h (a:=a) (m:=m) (cx:=cx) (news:=dK l2) (by rw [fX,vR]) h2.cells (EP l2) (by omega) (by unfold maxLen;omega) hB;refine⟨A',c',w',hr,?_,hg,hb⟩;rw [<-ot]at gL;exact gL
 |none=>
  obtain⟨rfl,rfl⟩:=h2.none;refine⟨A,c,w,?_,by simpa using h,⟨rfl,rfl,rfl,Nat.le_refl _,λ_ _ _=>rfl⟩,λk hk=>.inl hk⟩;obtain⟨i,z,hi,hz,hs,Mw,Gs⟩:=qP.inf;have hn:n<=c:=by rcases Row.own h with⟨_,h1,h2,_⟩|⟨_,_,_,_,_,h1,_⟩<;>omega
  simp [Builtin.append_,run_underlying qP.qG,sizeOf,typeInfo,hi,Builtin.lenOf,Builtin.firstCells,hn];cases A<;>simp [storeCells]
end
theorem HS.load{w:World}{A:Option Addr}{n:Nat}{l:List HT}(hl:HS w A n l){i:Int}{x:HT}(h0:0<=i)(hx:l[i.toNat]? =some x){k:Array Value->Prop}(hk:k x.1):
 (0<=i/\i<(n:Int))/\Is A λa=>∃t:Array Value,(t.size=32/\Cells w (a.add (i.toNat*32)) t)/\k t:=by
 obtain⟨a,rfl,_,hc⟩:=hl.at_ _ x hx;have:=(lgeS hx).1;have:=hl.len;exact⟨⟨h0,by omega⟩,x.1,⟨x.2.1,hc⟩,hk⟩
theorem uh{a b:HT}:(mX a b<0)↔dD a b=true:=by
 unfold mX;by_cases h:dD a b=true
 ·simp [h]
 ·by_cases h':dD b a=true<;>simp [h,h']
theorem dO{n:Int}(h0:0<=n)(h1:n<=2000000):i64.wrap (n+1)=n+1:=jG (by omega) (by omega)
theorem wrapM{n:Int}(h0:0<=n)(h1:n<=2000000):i64.wrap (n-1)=n-1:=jG (by omega) (by omega)
theorem Kept.dY{w w' mN:World}{A:Option Addr}(h:Kept Nil w w')(hg:w'.grownBy mN (bL A))(hr:∀k,bL A=some k->w.heap.size<=k):Kept Nil w mN:=
 Kept.grown h hg λk hk dD=>absurd (hr k hk) (by omega)
section
variable{w:World}{K:Value->World->Prop}
theorem og{A:Option Addr}{n c:Nat}{l:List HT}(hl:HS w A n l)(hn:n<=400000)
 (hK:∀A' c' w',bY w' w.heap.size A' (dP l).length c' (dP l)->Kept Nil w w'->K (.slice A' (dP l).length c') w'):
 bJ prog aV.id #[.slice A n c] w K:=by
 refine aV.of ?_;have hlen:=hl.len;refine aV.cP (I:=λs w'=>∃(i:Nat) (out:List HT) (B:Option Addr) (m:Nat),s=(B,out.length,m,(i:Int))/\i<=n/\bY w' w.heap.size B out.length m out/\SS out/\(∀x,x∈out↔x∈l.take i)/\out.length<=i/\Kept Nil w w')
  (μ:=λs _=>((n:Int)-s.2.2.2).toNat) (s:=(none,0,0,0)) ⟨0,[],none,0,rfl,Nat.zero_le _,bY.nil _ _,List.Pairwise.nil,by simp,by simp,Kept.refl _ _⟩ ?_
 rintro s w' ⟨i,out,B,m,rfl,hi,row,wg,jx,hol,kw⟩;refine Split.dec (λjT=>?_) (λgE=>?_)
 ·simp only at jT
  have eA:i<n:=by omega
  obtain⟨x,hx⟩:∃x,l[i]? =some x:=⟨_,List.getElem?_eq_getElem (by omega)⟩;refine(hl.same kw).load (i:=(i:Int)) (by omega) hx (uG x row.hs (by simp only;omega) λw9 k9=>⟨_,rfl,?_⟩);simp only;have Wc:Kept Nil w w9:=kw.tt k9;have DX:bY w9 w.heap.size B out.length m out:=Row.aN row k9 (λ_ _ h=>h);have we:l.take (i+1)=l.take i++ [x]:=by rw [List.take_add_one,hx];rfl
  refine Split.dec (λgD=>?_) (λns=>?_)
  ·rw [dO (n:=(i:Int)) (by omega) (by omega)]
   refine⟨(B,out.length,m,(i:Int)+1),rfl,⟨i+1,out,B,m,rfl,eA,DX,wg,λy=>?_,by omega,Wc⟩,by simp only;omega⟩;rw [we,List.mem_append,List.mem_singleton,<-jx y];constructor
   ·exact .inl
   ·rintro(h|rfl)
    ·exact h
    ·exact gD
  ·refine aV.iY (I:=λs w'=>∃k:Nat,s=(k:Int)/\k<=out.length/\(∀y∈out.drop k,dD x y=true)/\Kept Nil w9 w') (μ:=λs _=>s.toNat) (s:=(out.length:Int)) ⟨out.length,rfl,Nat.le_refl _,by simp,Kept.refl _ _⟩ ?_
   rintro s w1 ⟨k,rfl,hk,xx,k1⟩;have P4:HS w1 A n l:=(hl.same Wc).same k1;have Ac:bY w1 w.heap.size B out.length m out:=Row.aN DX k1 (λ_ _ h=>h);have kx:Kept Nil w w1:=Wc.tt k1;have xw:∀w1,HS w1 A n l->bY w1 w.heap.size B out.length m out->Kept Nil w w1->(∀y∈out.take k,dD y x=true)->
    aV.jJ A n c none 0 0 B out.length m (i:Int) (k:Int) (b7 (aV.e1 A n c none 0 0) (λs w'=>∃(i:Nat) (out:List HT) (B:Option Addr) (m:Nat),s=(B,out.length,m,(i:Int))/\i<=n/\bY w' w.heap.size B out.length m out/\SS out/\(∀x,x∈out↔x∈l.take i)/\out.length<=i/\Kept Nil w w') (λs _=>((n:Int)-s.2.2.2).toNat) (B,out.length,m,(i:Int)) w' (aV.q1 K)) w1:=by
    intro w1 P4 Ac kx KJ;have Ix:out.length<=m:=by rcases Row.own Ac with⟨_,h1,h2,_⟩|⟨_,_,_,_,_,h1,_⟩<;>omega
    have nS:=kx.size;unfold aV.jJ;refine⟨⟨by omega,by omega⟩,?_⟩;have vN:HS w1 (if m=0 then B else B.map (·.add (0*32))) ((k:Int).toNat -0) (out.take k):=by
     have h:=Ac.hs.take hk;rw [Nat.sub_zero,Int.toNat_natCast];have e:(if m=0 then B else B.map (·.add (0*32)))=B:=by
      split
      ·rfl
      ·cases B<;>simp [add_zero]
     rw [e];exact h
    obtain⟨A1,c1,w2,oE,iU,Ir,oN⟩:=dp (cx:=m-0) aH (bY.nil w1 w.heap.size) vN (by simp;omega) nS;have k2:Kept Nil w1 w2:=Kept.dY (Kept.refl _ _) Ir (λk hk=>by cases hk);rw [Nat.zero_add,Nat.sub_zero,Int.toNat_natCast]at oE iU;rw [List.nil_append]at iU;refine⟨A1,_,c1,w2,by rw [Nat.sub_zero,Int.toNat_natCast];exact oE,?_⟩;have vR:=P4.same k2;refine vR.load (i:=(i:Int)) (by omega) hx ⟨x.2.1,?_⟩;intro w3;have k3:Kept Nil w2 w3:=(Kept.refl _ _).alloc _;have jy:HS w3 (some ⟨w2.heap.size,0,none⟩) 1 [x]:=by
     refine HS.one (t:=ai) (fr:=(0,0)) ?_;have e3:w3=w2.alloc (.cells x.1 ai):=by
      show w2.alloc (.cells (x.1.toList++ []).toArray ai)=_
      simp
     rw [e3];exact aO w2 _
    clear_value w3;have oR:bY w3 w.heap.size A1 k c1 (out.take k):=Row.aN iU k3 (λ_ _ h=>h);have ady:w.heap.size<=w3.heap.size:=Nat.le_trans (Nat.le_trans nS k2.size) k3.size;obtain⟨A4,c4,w4,zE,lh,GI,vB⟩:=dp (cx:=1) aH oR jy (by omega) ady;have k4:Kept Nil w1 w4:=Kept.dY (k2.tt k3) GI (λk hk=>by rcases oN k hk with h|h;cases h;exact h);refine⟨A4,_,c4,w4,zE,⟨by omega,by omega⟩,?_⟩;have CH:HS w4 (if m=(k:Int).toNat then B else B.map (·.add ((k:Int).toNat*32))) (out.length-(k:Int).toNat) (out.drop k):=by
     rw [Int.toNat_natCast];exact(Ac.hs.same k4).drop Ix hk
    have hdl:(out.length-(k:Int).toNat)=out.length-k:=by rw [Int.toNat_natCast]
    obtain⟨A5,c5,w5,tZ,kQ,Og,o9⟩:=dp (cx:=m-(k:Int).toNat) aH lh CH (by omega) (Nat.le_trans nS k4.size);have k5:Kept Nil w1 w5:=Kept.dY k4 Og (λb hb=>by
     rcases vB b hb with h|h
     ·rcases oN b h with h|h
      ·cases h
      ·exact h
     ·exact Nat.le_trans (Nat.le_trans k2.size k3.size) h)
    refine⟨A5,_,c5,w5,tZ,?_⟩;rw [dO (n:=(i:Int)) (by omega) (by omega)];have oY:out.take k++ [x]++out.drop k=out.take k++x::out.drop k:=by simp
    have Bq:(out.take k++x::out.drop k).length=out.length+1:=by simp;omega
    rw [oY]at kQ;have e5:k+1+(out.length-(k:Int).toNat)=(out.take k++x::out.drop k).length:=by rw [Bq];omega
    rw [e5]at kQ⊢;refine⟨(A5,(out.take k++x::out.drop k).length,c5,(i:Int)+1),rfl,⟨i+1,_,A5,c5,rfl,eA,kQ,LW wg KJ xx,λy=>?_,by omega,kx.tt k5⟩,by simp only;omega⟩;rw [show y∈l.take (i+1)↔y∈out\/y=x by rw [we,List.mem_append,List.mem_singleton,jx y],List.mem_append,List.mem_cons];constructor
    ·rintro(h|rfl|h)
     ·exact .inl (List.mem_of_mem_take h)
     ·exact .inr rfl
     ·exact .inl (List.mem_of_mem_drop h)
    ·rintro(h|rfl)
     ·rw [<-List.take_append_drop k out,List.mem_append]at h
      rcases h with h|h
      ·exact .inl h
      ·exact .inr (.inr h)
     ·exact .inr (.inl rfl)
   unfold aV.B2;intro w2;have k2:Kept Nil w1 w2:=(Kept.refl _ _).drew;clear_value w2;have vR:=P4.same k2;have iU:bY w2 w.heap.size B out.length m out:=Row.aN Ac k2 (λ_ _ h=>h);have kx2:=kx.tt k2;refine Split.dec (λkW=>?_) (λCK=>?_)
   ·have pJ:0<k:=by omega
    obtain⟨y,hy⟩:∃y,out[k-1]? =some y:=⟨_,List.getElem?_eq_getElem (by omega)⟩;rw [wrapM (n:=(k:Int)) (by omega) (by omega)];refine vR.load (i:=(i:Int)) (by omega) hx (iU.hs.load (by omega) (by rw [show((k:Int)-1).toNat=k-1 by omega];exact hy) (vo x y λw3 k3=>⟨_,rfl,?_⟩));refine Split.dec (λhc=>?_) (λhc=>?_)
    ·refine⟨(k:Int)-1,rfl,⟨k-1,by omega,by omega,λz hz=>?_,(k1.tt k2).tt k3⟩,by simp only;omega⟩
     have hd:out.drop (k-1)=y::out.drop k:=by
      obtain⟨h1,h2⟩:=lgeS hy;rw [List.drop_eq_getElem_cons h1,h2,show k-1+1=k by omega]
     rw [hd]at hz;rcases List.mem_cons.1 hz with rfl|hz
     ·exact uh.1 hc
     ·exact xx z hz
    ·rw [bg,aV.lA]
     refine xw w3 (vR.same k3) (Row.aN iU k3 (λ_ _ h=>h)) (kx2.tt k3) λz hz=>?_;have Gt:dD y x=true:=by
      have h1:dD x y=false:=by
       cases h:dD x y
       ·rfl
       ·exact absurd (uh.2 h) hc
      refine lt_of_le_ne h1 λe=>ns ?_;rw [<-e];exact List.mem_of_getElem? hy
     obtain⟨j,hj⟩:=List.mem_iff_getElem?.1 hz;rw [List.getElem?_take]at hj;split at hj
     ·rename_i hjk
      by_cases e:j=k-1
      ·subst e;rw [hy]at hj;cases hj;exact Gt
      ·exact mE (wg.get (by omega) hj hy) Gt
     ·cases hj
   ·rw [bg,aV.lA]
    have pJ:k=0:=by omega
    refine xw w2 vR iU kx2 λz hz=>?_;rw [pJ]at hz;simp at hz
 ·simp only at gE
  have:i=n:=by omega
  subst this;rw [bg,aV.dJ];have e:out=dP l:=z7 wg λx=>by rw [jx,List.take_of_length_le (by omega)]
  rw [e]at row;have:=hK B m w' row kw;rw [<-e]at this;exact this
end
theorem mJ{w:World}{k l:Nat}{cs:Array Value}{t:TypeId}{fr:Nat×Nat}{R:Loop}(h:w.heap[k]? =some (.cells cs t fr))(h':w.heap[l]? =some (.loop R)):k≠l:=by
 rintro rfl;rw [h]at h';cases h'
theorem Av{w:World}{k l:Nat}{cs:Array Value}{t:TypeId}{fr:Nat×Nat}{d:Option (List Deferred)}(h:w.heap[k]? =some (.cells cs t fr))(h':w.heap[l]? =some (.deferred d)):k≠l:=by
 rintro rfl;rw [h]at h';cases h'
theorem Row.apart{w w':World}{B:Nat}{e:TypeId}{size:Nat}{A:Option Addr}{n c:Nat}{xs:List Value}(h:Row w B e size A n c xs){l:Nat}(hk:Kept (· =l) w w')
 (hl:∀cs t fr,w.heap[l]? ≠some (.cells cs t fr)):Row w' B e size A n c xs:=Row.aN h hk λk hb e=>by
 subst e;obtain⟨_,cur,hc⟩:=Row.bX h hb;exact hl _ _ _ hc
abbrev ud(h:HT):List Value:= [.agg h.1]
section
variable{w:World}{K:Value->World->Prop}
theorem BE(p:Addr){A:Option Addr}{n c:Nat}{l:List HT}(hn:n<=1000000):
 pH prog aQ.id #[] #[.pointer (some p)] (l.map ud) (λw=>HS w A n l/\w.cell? p=some (.slice A n c)):=by
 intro y I D w0 hI hD ub h0 sW;refine aQ.of ?_;obtain⟨yG,UM⟩:=ub 0 w0 h0;have hlen:=yG.len;refine⟨A,n,c,UM,?_⟩;refine aQ.cP (I:=λs w'=>∃i:Nat,s=(i:Int)/\i<=n/\I i w') (μ:=λs _=>((n:Int)-s).toNat) (s:=0) ⟨0,rfl,Nat.zero_le _,h0⟩ ?_;rintro s w' ⟨i,rfl,hi,hw⟩;refine Split.dec (λjT=>?_) (λgE=>?_)
 ·have eA:i<n:=by omega
  obtain⟨x,hx⟩:∃x,l[i]? =some x:=⟨_,List.getElem?_eq_getElem (by omega)⟩;have hl:=(ub i w' hw).1;refine hl.load (i:=(i:Int)) (by omega) hx ?_;intro w10;obtain⟨uP,hb,hk⟩:=jt (w:=w') (z:=(Et 0)) (cs:=x.1) (t:=ai) (by rw [x.2.1];rfl);refine⟨⟨x.2.1,x.2.one,λj hj=>uP j (by rw [x.2.1];exact hj)⟩,?_⟩;intro oD
  replace hb:oD.heap[w'.heap.size]? =some (.cells x.1 ai (0,0)):=hb
  replace hk:Kept Nil w' oD:=hk
  clear_value oD;refine⟨x.1,⟨x.2.1,Cells.bX hb⟩,?_⟩;refine(sW i (ud x) oD (by rw [List.getElem?_map,hx];rfl) (hI i w' oD hw hk)).mono ?_;rintro b mN ⟨ht,hf⟩;cases b with
  |true=>
   refine Split.no rfl ?_;rw [dO (n:=(i:Int)) (by omega) (by omega)];exact⟨(i:Int)+1,rfl,⟨i+1,rfl,eA,ht rfl⟩,by simp only;omega⟩
  |false=>
   refine Split.yes rfl ?_;exact Or.inr (hf rfl)
 ·rw [bg,aQ.dJ]
  have e:i=n:=by omega
  subst e;refine Or.inl ?_;rw [List.length_map,hlen];exact hw
theorem yS{gf:FuncId}{iJ:Array Value}{xs:List HT}{fn:Func}(Mt:prog.funcs[gf]? =some fn)(hb:fn.body.isSome){MD:World->Prop}
 (hit:pH prog gf #[] iJ (xs.map ud) MD) (hp:∀w',Kept Nil w w'->MD w') (NA:xs.length<=1000000)
 (hK:∀A c w',bY w' w.heap.size A xs.length c xs->Kept Nil w w'->K (.slice A xs.length c) w'):
 bJ prog aX.id #[.slice none 0 0,.func (.func gf) #[] iJ] w K:=by
 refine aX.of ?_;unfold aX.W;intro w3;have k3:Kept Nil w w3:=(Kept.refl Nil w).alloc _;have qy:w3.heap[w.heap.size]? =some (.cells #[.slice none 0 0] aH (0,0)):=aO w _;have vy:w.heap.size<w3.heap.size:=bt qy;clear_value w3
 let ρ0:Env:= [(2,.pointer (some (aU w.heap.size))),(4,.slice none 0 0),(6,.func (.func gf) #[] iJ)]
 let J:Nat->World->Prop:=λi w'=>∃A c,w'.heap[w.heap.size]? =some (.cells #[.slice A i c] aH (0,0))/\bY w' w.heap.size A i c (xs.take i)/\Kept Nil w w'/\i<=xs.length/\∀k,bL A=some k->k≠w.heap.size
 refine pS (ρ:=ρ0) (ρ0:=ρ0) ng mix aX.k (t:=6) (ps:= #[7]) (by kernel_rfl) (by decide) rfl Mt hb (.inl rfl) (λi v _ h=>h) rfl ud xs (λ_=>rfl) (by simp [js]) hit J (λ_ _=>False) ?_ (λ_ _ _ _ _ h=>h.elim) (λi w' h=>hp w' (let ⟨_,_,_,_,h,_⟩:=h;h)) ?_ ?_ ?_ (λ_ _ h=>h.elim) (λ_ _ _ h=>h.elim)
 ·rintro i w' mN R hl ⟨A,c,h1,h2,h3,h4,h5⟩ hk
  exact⟨A,c,hk.heap h1 (mJ h1 hl.loop),Row.apart h2 hk (λcs t fr h=>by rw [hl.loop]at h;cases h),h3.trans hk (λk hk e=>by omega),h4,h5⟩
 ·intro R
  exact⟨none,0,mh (mh qy _) _,bY.nil _ _,(k3.alloc _).alloc _,Nat.zero_le _,λk hk=>by cases hk⟩
 ·rintro i x w' R hx ⟨A,c,h1,h2,h3,h4,h5⟩ hl
  have eA:i<xs.length:=(lgeS hx).1;have e7:nz ρ0 ((#[7]:Array Nat).toList.zip (ud x))= [(2,.pointer (some (aU w.heap.size))),(4,.slice none 0 0),(6,.func (.func gf) #[] iJ),(7,.agg x.1)]:=rfl;rw [e7,aX.a1];unfold aX.A1;intro w8;obtain⟨uP,ly,lH⟩:=jt (w:=w') (z:=(Et 0)) (cs:=x.1) (t:=ai) (by rw [x.2.1];rfl);refine⟨⟨x.2.1,x.2.one,λj hj=>uP j (by rw [x.2.1];exact hj)⟩,?_⟩;intro oH
  replace ly:oH.heap[w'.heap.size]? =some (.cells x.1 ai (0,0)):=ly
  replace lH:Kept Nil w' oH:=lH
  clear_value oH;have NY:=hl.aN lH (λh=>h) (λh=>h);refine⟨NY,λw2 R2 ql vR=>?_⟩;have afk:=ql.heap ly (mJ ly NY.loop);have h1b:=lH.heap h1 (λh=>h);have DB:=ql.heap h1b (mJ h1b NY.loop);have EZ:bY w2 w.heap.size A i c (xs.take i):=Row.apart (Row.aN h2 lH (λ_ _ h=>h)) ql (λcs t fr h=>by rw [NY.loop]at h;cases h);have ZW:Kept Nil w w2:=(h3.tt lH).trans ql (λk hk e=>by omega);have dD:w.heap.size<w2.heap.size:=bt DB;rw [aX.y1];unfold aX.Y1;refine⟨A,i,c,by rw [aI DB];rfl,x.1,⟨x.2.1,Cells.bX afk⟩,x.2.1,?_⟩;intro np;have pU:Kept Nil w2 np:=(Kept.refl _ _).alloc _;have jy:HS np (some ⟨w2.heap.size,0,none⟩) 1 [x]:=by
   refine HS.one (t:=ai) (fr:=(0,0)) ?_;have e3:np=w2.alloc (.cells x.1 ai):=by
    show w2.alloc (.cells (x.1.toList++ []).toArray ai)=_
    simp
   rw [e3];exact aO w2 _
  clear_value np;have OB:bY np w.heap.size A i c (xs.take i):=Row.aN EZ pU (λ_ _ h=>h);have agk:=pU.heap DB (λh=>h);have ama:=pU.size;obtain⟨A',c',ur,hr,pg,hg,xz⟩:=dp (cx:=1) aH OB jy (by omega) (by omega);have Ta:Kept (λk=>bL A=some k) np ur:=Kept.grown (Kept.refl _ _) hg (λk hk _=>hk);have OC:=Ta.heap agk (λh=>h5 _ h rfl);have SN:Live (w3.heap.size+1) w3.heap.size R2 ur:=by
   have SP:=vR.aN pU (λh=>h) (λh=>h);refine SP.aN Ta ?_ ?_
   ·intro h
    obtain⟨_,cur,hc⟩:=Row.bX OB h;exact mJ hc SP.loop rfl
   ·intro h
    obtain⟨_,cur,hc⟩:=Row.bX OB h;exact Av hc SP.mark rfl
  have El:Kept Nil w ur:=(ZW.tt pU).trans Ta (λk hk e=>by
   obtain⟨h,_⟩:=Row.bX OB e;omega)
  refine⟨A',_,c',ur,hr,eI OC (by simp),?_⟩;intro pI;have yi:Kept (· =w.heap.size) ur pI:=Kept.setCell (S:=λk=>k=w.heap.size) (Kept.refl _ ur) (p:=⟨w.heap.size,0,none⟩) (λ_=>rfl) _;have afA:pI.heap[w.heap.size]? =some (.cells #[.slice A' (i+1) c'] aH (0,0)):=dL OC 0 _;clear_value pI;have IA:∀k,bL A'=some k->k≠w.heap.size:=λk hk=>by
   rcases xz k hk with h|h
   ·exact h5 k h
   ·omega
  refine⟨SN.aN yi (mJ OC SN.loop).symm (Av OC SN.mark).symm,A',c',afA,?_,El.trans yi (λk hk e=>by omega),eA,IA⟩;rw [List.take_add_one,hx];exact Row.aN pg yi IA
 ·rintro w' R ⟨A,c,h1,h2,h3,h4,h5⟩ hl
  have e7:jE ρ0 w3.heap.size= [(2,.pointer (some (aU w.heap.size))),(4,.slice none 0 0),(6,.func (.func gf) #[] iJ),(4294967296,.agg #[.pointer (some ⟨w3.heap.size,0,none⟩)])]:=rfl;rw [e7,aX.mz];refine⟨A,xs.length,c,by rw [aI h1];rfl,⟨hl.mark,trivial⟩,?_⟩;have kp:Kept (· =w3.heap.size) w' (w'.putObj w3.heap.size (.deferred none)):=Kept.putAt _ _ _;refine hK A c _ ?_ (h3.trans kp (λk hk e=>by omega));have:=Row.apart h2 kp (λcs t fr h=>by rw [hl.mark]at h;cases h)
  rwa [List.take_of_length_le (Nat.le_refl _)]at this
theorem Fk{gf:FuncId}{iJ:Array Value}{xs:List HT}{fn:Func}(Mt:prog.funcs[gf]? =some fn)(hb:fn.body.isSome){MD:World->Prop}
 (hit:pH prog gf #[] iJ (xs.map ud) MD) (hp:∀w',Kept Nil w w'->MD w') (NA:xs.length<=1000000)
 (hK:∀A c w',bY w' w.heap.size A xs.length c xs->Kept Nil w w'->K (.slice A xs.length c) w'):
 bJ prog dM.id #[.func (.func gf) #[] iJ] w K:=by
 refine dM.of (yS Mt hb hit hp NA λA c w' h1 h2=>⟨_,_,_,rfl,hK A c w' h1 h2⟩)
end
open Go.Sort
instance:Inhabited HT:=⟨⟨Array.replicate 32 (.int .u8 0),by simp,λv hv=>⟨0,by simpa using hv,by omega,by omega⟩⟩⟩
abbrev o7(h:HT):List Value:=h.1.toList
theorem C1(h:HT):(o7 h).length=32:=by have:=h.2.1;simpa using this
theorem xL(d:Array HT):(flatK o7 32 d).toList=dK d.toList:=by
 apply List.ext_getElem?;intro t;by_cases ht:t<d.size*32
 ·have hi:t/32<d.size:=by omega
  have hx:d.toList[t/32]? =some d[t/32]:=by rw [Array.getElem?_toList,Array.getElem?_eq_getElem hi]
  have hs:t%32<d[t/32].1.size:=by rw [d[t/32].2.1];omega
  have h1:=mF hx (Array.getElem?_eq_getElem hs);rw [show t/32*32+t%32=t by omega]at h1;rw [h1];have h2:t<(flatK o7 32 d).size:=by rw [size_flatK];exact ht
  have h3:=get_flatK o7 32 d t ht;rw [getElem!_pos _ t h2]at h3;rw [Array.getElem?_toList,Array.getElem?_eq_getElem h2,h3,getElem!_pos d _ hi];rw [getElem!_pos _ _ (by rw [C1];omega)];simp [o7]
 ·rw [List.getElem?_eq_none (by simp;omega),List.getElem?_eq_none (by rw [fX];simp;omega)]
theorem JP{F cur:Array Value}{k:Nat}(hk:F.size=k)(h:k<=cur.size):(putCells id 0 F cur).toList.take k=F.toList:=by
 apply List.ext_getElem?;intro i;rw [List.getElem?_take];split
 ·rename_i hi
  have h1:i<cur.size:=by omega
  have h2:i<F.size:=by omega
  rw [Array.getElem?_toList,Array.getElem?_toList,putCells,Array.getElem?_mapIdx,Array.getElem?_eq_getElem h1,Array.getElem?_eq_getElem h2];simp [h2]
 ·rw [List.getElem?_eq_none (by simp;omega)]
theorem yv{w:World}{b:Nat}{f:Array Value->Array Value}{cur:Array Value}{t:TypeId}{fr:Nat×Nat}(h:w.heap[b]? =some (.cells cur t fr)):(mapBlock w b f).heap[b]? =some (.cells (f cur) t fr):=by
 simp [mapBlock,Array.getElem?_modify,h,onCells]
theorem yu(w:World)(b:Nat)(f:Array Value->Array Value):Kept (· =b) w (mapBlock w b f):=
 ⟨rfl,rfl,rfl,by simp [mapBlock],λk _ hn=>by simp [mapBlock,Array.getElem?_modify,Ne.symm hn]⟩
theorem IC(w:World)(os:Array Obj):Kept Nil w (grow w os):=
 ⟨rfl,rfl,rfl,by simp,λk hk _=>heap_grow_old w os hk⟩
theorem Fy(w:World)(m:Nat):Kept Nil w (Sort.ahead w m):=⟨rfl,rfl,rfl,Nat.le_refl _,λ_ _ _=>rfl⟩
section
variable{w:World}{B n c b:Nat}{l:List HT}
theorem yp(row:bY w B (some ⟨b,0,none⟩) n c l)(m:Nat)(dk:Array HT)(os:Array Obj)(hd:dk.size=n):
 bY (sortWorldK o7 32 w b 0 m dk os) B (some ⟨b,0,none⟩) n c dk.toList/\Kept (· =b) w (sortWorldK o7 32 w b 0 m dk os):=by
 have hka:=Fy w m;have k1:=yu (Sort.ahead w m) b (putCells id 0 (flatK o7 32 dk));have kk:=((hka.mono (S':=λk=>k=b) (λ_ _ h=>h.elim)).tt k1).trans (IC _ os) (λ_ _ h=>h.elim);refine⟨?_,?_⟩
 ·rcases Row.own row with⟨h,_⟩|⟨b',cur,hA,hB,hg,Il,qo,oM,we⟩
  ·cases h
  ·cases hA
   refine⟨by rw [fX,Array.length_toList,hd],.inr ⟨b,c,putCells id 0 (flatK o7 32 dk) cur,rfl,hB,?_,Il,qo,by simp [putCells,oM],?_⟩⟩
   ·have h1:(mapBlock (Sort.ahead w m) b (putCells id 0 (flatK o7 32 dk))).heap[b]? =some (.cells (putCells id 0 (flatK o7 32 dk) cur) ai (0,0)):=yv hg
    exact(heap_grow_old _ os (bt h1)).trans h1
   ·rw [<-xL]
    refine JP (by rw [size_flatK,hd]) ?_;rw [oM];exact Nat.mul_le_mul_right _ Il
 ·exact kk
theorem EE(row:bY w B (some ⟨b,0,none⟩) n c l):HoldsK o7 32 w b 0 l.toArray:=by
 intro j hj;rw [size_flatK]at hj;have xt:j<l.length*32:=by simpa using hj
 rw [Nat.zero_add];have hlen:=Row.len row;have hx:(flatK o7 32 l.toArray).toList[j]? =(dK l)[j]? :=by rw [xL]
 have hjs:j<(flatK o7 32 l.toArray).size:=by rw [size_flatK];exact hj
 rw [Array.getElem?_toList,Array.getElem?_eq_getElem hjs]at hx;have hc:=Row.cell row hx.symm;refine⟨?_,?_⟩
 ·rw [hc,getElem!_pos _ j hjs];rfl
 ·exact(Row.wr row (j:=j) (by rw [fX];exact xt)).2
theorem ri(x y:HT):ltOf mX x y=dD x y:=by
 unfold ltOf;cases h:dD x y
 ·exact decide_eq_false λh'=>by rw [uh.1 h']at h;cases h
 ·exact decide_eq_true (uh.2 h)
theorem le_trans'{x y z:HT}(h:dD y x=false)(h':dD z y=false):dD z x=false:=by
 cases WZ:dD z x
 ·rfl
 ·exfalso
  by_cases e:y=z
  ·subst e;rw [h]at WZ;cases WZ
  ·have UD:=lt_of_le_ne h' e
   have:=mE UD WZ;rw [h]at this;cases this
theorem ab8:SWO (ltOf mX) where
 irrefl x:=by rw [ri];exact jS x
 trans x y z h h':=by rw [ri]at*;exact mE h h'
 ntrans x y z h h':=by
  rw [ri]at*;exact le_trans' h' h
theorem MQ{A:Option Addr}{K:Value->World->Prop}(row:bY w B A n c l)(hn:n<=1000000)
 (hK:∀l' w',LE l'->(∀x,x∈l'↔x∈l)->bY w' B A n c l'->Kept (λk=>bL A=some k) w w'->K (.tuple #[]) w'):
 bJ prog gw.id #[.slice A n c,.func (.func eN.id) #[] #[]] w K:=by
 have hlen:=row.len;by_cases h0:n=0
 ·subst h0
  have h:=AnyF.slices_SortFunc_none Tryz.y5 A c (.func (.func eN.id) #[] #[]) w;refine Calls.mono h ?_;rintro e w' ⟨rfl,rfl⟩;have:l= []:=List.eq_nil_of_length_eq_zero hlen;subst this;exact⟨_,rfl,hK [] _ List.Pairwise.nil (λ_=>Iff.rfl) row (Kept.refl _ _)⟩
 ·obtain⟨b,rfl⟩:=Row.some row (by omega)
  have hblk:b<w.heap.size:=by
   obtain⟨_,cur,hc⟩:=Row.bX row (k:=b) rfl;exact bt hc
  have nS:l.toArray.size=n:=by simpa using hlen
  have eg:∀args w,(callFunc eN.id args).run prog w=.ok (.enter eN.id args) w:=enters_of eN.at_ (by kernel_rfl) rfl;have hk:oU prog ai=.agg 32:=by kernel_rfl
  obtain⟨e32,ha⟩:=tW hk;obtain⟨i,hi⟩:=Go.cF.info_of_underlying (P:=prog) (t:=ai) (by kernel_rfl);have ae9:CmpLays prog eN.id #[] o7 32 mX b 0 l.toArray.size w:=λm os dk _ x y=>by
   have e:(#[.agg (o7 x).toArray,.agg (o7 y).toArray]++ #[]:Array Value)= #[.agg x.1,.agg y.1]:=by simp [o7]
   rw [e];have h:=rG (w:=sortWorldK o7 32 w b 0 m dk os) x y (K:=λv w'=>v=.int .i64 (mX x y)/\w'=(((sortWorldK o7 32 w b 0 m dk os).alloc (.cells x.1 ai)).alloc (.cells y.1 ai)).drew) ⟨rfl,rfl⟩;refine Calls.mono h ?_;rintro e w' ⟨v,rfl,rfl,rfl⟩;refine⟨rfl,1,#[.cells x.1 ai,.cells y.1 ai],?_⟩;rw [alloc_eq_grow,alloc_eq_grow,grow_grow,drew_grow];rfl
  have h:=AnyQ.slices_SortFunc_total Tryz.y5 32 ha (λw=>by rw [e32];exact Go.cF.run_sizeOf hi w) o7 C1 (λx=>x.2.one) mX ab8 eN.id #[] b 0 c l.toArray w eg ae9 (EE row) hblk (by omega)
   (λx y h1 h2=>by rw [ri]at h1 h2;exact r7 h1 h2)
  rw [nS]at h;refine Calls.mono h ?_;rintro e w' ⟨rfl,m,os,rfl⟩;have hp:=List.mergeSort_perm l.toArray.toList (λx y=> !(ltOf mX) y x);have K0:(l.toArray.toList.mergeSort λx y=> !(ltOf mX) y x).toArray.size=n:=by
   have:=hp.length_eq;simp only [List.size_toArray];rw [this];simpa using hlen
  obtain⟨h1,h2⟩:=yp row m _ os K0;refine⟨_,rfl,hK _ _ ?_ (λx=>?_) h1 (h2.mono λk _ e=>by rw [e];rfl)⟩
  ·have hs:=List.pairwise_mergeSort (le:=λx y=> !(ltOf mX) y x) (λa b c h h'=>by
    rw [ri]at*;simp only [Bool.not_eq_true']at*;exact le_trans' h h') (λa b=>by
    rw [ri,ri];cases mK:dD b a
    ·rfl
    ·rw [uR mK];rfl) l.toArray.toList
   refine List.Pairwise.imp ?_ hs;intro a b mK;rw [ri]at mK;simpa using mK
  ·simp
end
end Go.Proofs.YtfleamccglihoaaGreatDoor
namespace Go.Proofs.YtfleamccglihoaaGreatDoor
open Go.Proofs.Tryz
open Go Go.cF Go.RowKit
theorem EO{l:List HT}{k:Nat}(hk:k<l.length)(x:HT):dK (l.set k x)=jl (dK l) (k*32) x.1.toList:=by
 have h1:l=l.take k++l[k]::l.drop (k+1):=by rw [<-List.drop_eq_getElem_cons hk,List.take_append_drop]
 have e1:(dK (l.take k)).length=k*32:=by rw [fX,List.length_take];omega
 have hx:=x.2.1;have hl:=l[k].2.1;have hs:l.set k x=l.take k++x::l.drop (k+1):=List.set_eq_take_append_cons_drop .. |>.trans (if_pos hk)
 rw [hs]
 conv=>rhs;rw [h1]
 rw [ot,ot,mV,mV];generalize dK (l.take k)=p at e1;generalize dK (l.drop (k+1))=r;have eq:l[k].1.toList.length=32:=by simpa using hl
 have ev:x.1.toList.length=32:=by simpa using hx
 generalize l[k].1.toList=q at eq;generalize x.1.toList=v at ev;unfold jl;rw [List.take_left' e1,ev,show p++(q++r)=(p++q)++r by simp,List.drop_left' (by rw [List.length_append,e1,eq])];simp
theorem bY.setAt{w:World}{B n c b:Nat}{l:List HT}(row:bY w B (some ⟨b,0,none⟩) n c l){k:Nat}(hk:k<n)(x:HT):
 bY (setCells w ⟨b,k*32,none⟩ x.1.toList 0) B (some ⟨b,0,none⟩) n c (l.set k x):=by
 have hlen:=row.len;have hx:=x.2.1;have:=tF x.1.toList (dK l) w (k*32) 0 row (by rw [fX];simp;omega);rw [Nat.add_zero]at this;rw [<-EO (by omega)]at this;exact this
theorem bY.MH{w:World}{B n c b:Nat}{l:List HT}(row:bY w B (some ⟨b,0,none⟩) n c l){k:Nat}(hk:k<n)(j:Nat)(hj:j<32):Wr w ((⟨b,k*32,none⟩:Addr).add j):=by
 rw [bO];refine Row.wr row ?_;rw [fX,row.len];omega
theorem bY.cap{w:World}{B:Nat}{A:Option Addr}{n c:Nat}{l:List HT}(row:bY w B A n c l):n<=c:=by
 rcases Row.own row with⟨_,h1,h2,_⟩|⟨_,_,_,_,_,h1,_⟩<;>omega
theorem bY.cut{w w':World}{B n c b:Nat}{l:List HT}(row:bY w B (some ⟨b,0,none⟩) n c l){k:Nat}(hk:k<=n)(vs:List Value)(hv:vs.length=(n-k)*32)(hw:w'=setCells w ⟨b,k*32,none⟩ vs 0):
 bY w' B (some ⟨b,0,none⟩) k c (l.take k):=by
 subst hw;have hlen:=row.len;rcases Row.own row with⟨h,_⟩|⟨b',cur,hA,hB,hg,Il,qo,oM,we⟩
 ·cases h
 ·cases hA
  have hle:n*32<=c*32:=Nat.mul_le_mul_right _ Il;have nS:k*32+0+vs.length<=cur.size:=by omega
  have h1:=mc vs cur w ai (k*32) 0 hg nS;refine⟨by rw [fX,List.length_take];omega,.inr ⟨b,c,_,rfl,hB,h1,by omega,qo,?_,?_⟩⟩
  ·have:=nV (xs:=cur.toList) (k:=k*32+0) (vs:=vs) (by simpa using nS)
   rw [List.size_toArray,this];simpa using oM
  ·have e1:(dK (l.take k)).length=k*32:=by rw [fX,List.length_take];omega
   have e2:(dK l).take (k*32)=dK (l.take k):=by
    conv=>lhs;rw [<-List.take_append_drop k l,ot]
    rw [<-e1,List.take_left'];rfl
   rw [<-e2,<-we,List.take_take,Nat.min_eq_left (by omega)];unfold jl;simp only [Nat.add_zero];rw [List.append_assoc,List.take_append_of_le_length (by simp;omega),List.take_take,Nat.min_self]
def FI(P:Program)(e:TypeId):Bool:=
 match P.info? e with
 |some i=>match i.zero with
  |some z=>z.cells.toList.all λv=>v.oneCell'
  |none=>false
 |none=>false
theorem qS{w:World}{B n c b:Nat}{l:List HT}(row:bY w B (some ⟨b,0,none⟩) n c l){k:Nat}(hk:k<=n)(ty:Nat){A:Option Addr}{cx:Nat}(hA:k<n->A=some ⟨b,k*32,none⟩):
 ∃w',(Builtin.clear_ #[aH] ty #[.slice A (n-k) cx]).run prog w=.ok (.tuple #[]) w'/\bY w' B (some ⟨b,0,none⟩) k c (l.take k)/\Kept (· =b) w w':=by
 have hlen:=row.len;by_cases yI:k<n
 ·obtain⟨i,z,hi,hz,hs,_,Gs⟩:=qP.inf
  have NT:FI prog ai=true:=by kernel_rfl
  unfold FI at NT;rw [hi]at NT;simp only [hz,List.all_eq_true]at NT;rw [hA yI];obtain⟨m,hm⟩:∃m,n-k=m+1:=⟨n-k-1,by omega⟩;have hvl:(Builtin.zeroCells z.cells (n-k)).toList.length=(n-k)*32:=by simp [Builtin.zeroCells,Gs]
  have oL:=jO (P:=prog) ⟨b,k*32,none⟩ (Builtin.zeroCells z.cells (n-k)).toList 0 w (λv hv=>by
   simp only [Builtin.zeroCells,Array.toList_map,List.mem_map]at hv;obtain⟨t,ht,rfl⟩:=hv;have:t%z.cells.size<z.cells.size:=Nat.mod_lt _ (by omega);rw [getElem!_pos z.cells _ this];exact NT _ (by simp)) (λj hj=>by
   rw [Nat.zero_add,bO];refine Row.wr row ?_;rw [fX];omega)
  refine⟨_,?_,row.cut hk _ hvl rfl,hZ _ _ _ _⟩;simp only [Builtin.clear_,hm];rw [hm]at oL;simp [run_underlying qP.qG,zeroValue,typeInfo,hi,hz,oL]
 ·have:n=k:=by omega
  subst this;refine⟨w,?_,by rw [List.take_of_length_le (by omega)];exact row,Kept.refl _ _⟩;rw [Nat.sub_self];cases A<;>simp [Builtin.clear_,run_underlying qP.qG]
theorem Hk:∀ {l:List HT},l.length<2->dP l=l
 | [],_=>rfl
 | [_],_=>rfl
 |_::_::_,h=>by simp only [List.length_cons]at h;omega
section
variable{w:World}{B n c:Nat}{A:Option Addr}{l:List HT}{K:Value->World->Prop}
theorem Fj(row:bY w B A n c l)(hle:LE l)(hn:n<=400000)
 (hK:∀A' c' w',bY w' B A' (dP l).length c' (dP l)->(∀k,bL A'=some k->bL A=some k)->Kept (λk=>bL A=some k) w w'->K (.slice A' (dP l).length c') w'):
 bJ prog al.id #[.slice A n c] w K:=by
 have hlen:=row.len;refine al.of ?_;refine Split.dec (λh2=>?_) (λh2=>?_)
 ·have e:dP l=l:=Hk (by omega)
  have:=hK A c w (by rw [e,hlen];exact row) (λk h=>h) (Kept.refl _ _);rw [e,hlen]at this;exact this
 obtain⟨b,rfl⟩:=Row.some row (by omega);have Ix:=row.cap;refine al.cP (I:=λs w'=>∃k:Nat,s=(none,0,0,(k:Int))/\1<=k/\k<=n/\SS (l.take k)/\Kept Nil w w') (μ:=λs _=>((n:Int)-s.2.2.2).toNat) (s:=(none,0,0,1))
  ⟨1,rfl,Nat.le_refl _,by omega,?_,Kept.refl _ _⟩ ?_
 ·cases l with
  |nil=>exact List.Pairwise.nil
  |cons x l=>simp [SS]
 rintro s w' ⟨k,rfl,Mr,yI,wg,kw⟩;refine Split.dec (λjT=>?_) (λgE=>?_)
 ·simp only at jT
  have EI:k<n:=by omega
  obtain⟨x,hx⟩:∃x,l[k]? =some x:=⟨_,List.getElem?_eq_getElem (by omega)⟩;obtain⟨y,hy⟩:∃y,l[k-1]? =some y:=⟨_,List.getElem?_eq_getElem (by omega)⟩;intro w5;have k5:Kept Nil w w5:=kw.drew;clear_value w5;have kQ:bY w5 B (some ⟨b,0,none⟩) n c l:=Row.aN row k5 (λ_ _ h=>h);simp only;rw [wrapM (n:=(k:Int)) (by omega) (by omega)];have nI:dD x y=false:=hle.get (by omega) hy hx;refine kQ.hs.load (i:=(k:Int)) (by omega) hx (kQ.hs.load (i:=(k:Int)-1) (by omega) (by rw [show((k:Int)-1).toNat=k-1 by omega];exact hy) ⟨⟨x.2.ints,y.2.ints⟩,?_⟩);rw [dQ];refine Split.dec (λhe=>?_) (λhe=>?_)
  ·refine⟨⟨by omega,by omega⟩,?_⟩
   rw [Int.toNat_natCast];rw [if_neg (show ¬c=k by omega)];simp only [Option.map_some,bO,Nat.zero_add];refine al.iY (I:=λs w'=>∃(p j:Nat) (l':List HT),s=((p:Int),(j:Int))/\1<=j/\k<=p/\p<k+j/\k+j<=n/\bY w' B (some ⟨b,0,none⟩) n c l'/\l'.drop (k+j-1)=l.drop (k+j-1)/\SS (l'.take p)/\(∀z,z∈l'.take p↔z∈l.take (k+j))/\Kept (· =b) w w')
    (μ:=λs _=>((n:Int)-s.2).toNat) (s:=((k:Int),1)) ⟨k,1,l,rfl,Nat.le_refl _,Nat.le_refl _,by omega,by omega,kQ,rfl,wg,λz=>?_,k5.mono λ_ _ h=>h.elim⟩ ?_
   ·rw [bV hx]
    constructor
    ·exact .inl
    ·rintro(h|rfl)
     ·exact h
     ·rw [he]
      have:=bV (z:=y) hy;rw [show k-1+1=k by omega]at this;exact this.2 (.inr rfl)
   rintro s w1 ⟨p,j,l',rfl,hj1,Yv,hpj,hjn,nv,Mu,vN,P3,k1⟩;have zG:=nv.len;refine Split.dec (λS5=>?_) (λTb=>?_)
   ·simp only at S5
    have vA:k+j<n:=by omega
    obtain⟨u,hu⟩:∃u,l[k+j]? =some u:=⟨_,List.getElem?_eq_getElem (by omega)⟩;obtain⟨v,hv⟩:∃v,l[k+j-1]? =some v:=⟨_,List.getElem?_eq_getElem (by omega)⟩;have NB:l'[k+j]? =some u:=by
     have h:=congrArg (λm:List HT=>m[1]?) Mu;simp only [List.getElem?_drop]at h;rw [show k+j-1+1=k+j by omega]at h;rw [h,hu]
    have hv':l'[k+j-1]? =some v:=by
     have h:=congrArg (λm:List HT=>m[0]?) Mu;simp only [List.getElem?_drop,Nat.add_zero]at h;rw [h,hv]
    intro ur;have El:Kept (· =b) w ur:=k1.drew;have pg:bY ur B (some ⟨b,0,none⟩) n c l':=Row.aN nv ((Kept.refl Nil w1).drew) (λ_ _ h=>h);clear_value ur;have xq:HS ur (some ⟨b,k*32,none⟩) (n-k) (l'.drop k):=by
     have h:=pg.hs.drop (c:=c) Ix (k:=k) (by omega);rw [if_neg (show ¬c=k by omega)]at h;simpa [bO]using h
    have hsu:(l'.drop k)[(j:Int).toNat]? =some u:=by rw [Int.toNat_natCast,List.getElem?_drop];exact NB
    have Sf:(l'.drop k)[((j:Int)-1).toNat]? =some v:=by
     rw [show((j:Int)-1).toNat=j-1 by omega,List.getElem?_drop,show k+(j-1)=k+j-1 by omega];exact hv'
    simp-zeta only;rw [wrapM (n:=(j:Int)) (by omega) (by omega)];have huv:dD u v=false:=hle.get (by omega) hv hu;refine xq.load (i:=(j:Int)) (by omega) hsu (xq.load (i:=(j:Int)-1) (by omega) Sf ⟨⟨u.2.ints,v.2.ints⟩,?_⟩);rw [dQ,dO (n:=(j:Int)) (by omega) (by omega)];have hmu:∀z,z∈l.take (k+(j+1))↔z∈l'.take p\/z=u:=λz=>by
     rw [show k+(j+1)=k+j+1 by omega,bV hu,P3 z]
    by_cases heq:u=v
    ·refine Split.no (by rw [decide_eq_true heq];rfl) ?_
     refine⟨((p:Int),(j:Int)+1),rfl,⟨p,j+1,l',rfl,by omega,Yv,by omega,by omega,pg,?_,vN,λz=>?_,El⟩,by simp only;omega⟩
     ·have h:=congrArg (λm:List HT=>m.drop 1) Mu
      simp only [List.drop_drop]at h;rw [show k+(j+1)-1=k+j-1+1 by omega];exact h
     ·rw [hmu z]
      constructor
      ·exact .inl
      ·rintro(h|rfl)
       ·exact h
       ·refine(P3 _).2 ?_
        rw [heq];exact List.mem_of_getElem? (i:=k+j-1) (by rw [List.getElem?_take,if_pos (by omega)];exact hv)
    ·refine Split.yes (by rw [decide_eq_false heq];rfl) ?_
     refine xq.load (i:=(j:Int)) (by omega) hsu ⟨⟨by omega,by omega⟩,⟨u.2.1,u.2.one,λi hi=>?_⟩,?_⟩
     ·rw [Int.toNat_natCast,bO,Nat.zero_add]
      exact pg.MH (by omega) i hi
     intro I5;have W4:I5=setCells ur ⟨b,p*32,none⟩ u.1.toList 0:=by
      show setCells ur ((⟨b,0,none⟩:Addr).add ((p:Int).toNat*32)) u.1.toList 0=_
      rw [Int.toNat_natCast,bO,Nat.zero_add]
     have VH:bY I5 B (some ⟨b,0,none⟩) n c (l'.set p u):=by rw [W4];exact pg.setAt (by omega) u
     have Km:Kept (· =b) w I5:=by rw [W4];exact El.tt (hZ _ _ _ _)
     clear_value I5;rw [dO (n:=(p:Int)) (by omega) (by omega)];have we:(l'.set p u).take (p+1)=l'.take p++ [u]:=by
      rw [List.take_add_one,List.take_set_of_le (Nat.le_refl p),List.getElem?_set_self (by omega)];rfl
     refine⟨((p:Int)+1,(j:Int)+1),rfl,⟨p+1,j+1,l'.set p u,rfl,by omega,by omega,by omega,by omega,VH,?_,?_,λz=>?_,Km⟩,by simp only;omega⟩
     ·have h:=congrArg (λm:List HT=>m.drop 1) Mu
      simp only [List.drop_drop]at h;rw [List.drop_set,if_pos (by omega),show k+(j+1)-1=k+j-1+1 by omega];exact h
     ·rw [we]
      refine G1 vN λz hz=>?_;obtain⟨i,hi⟩:=List.mem_iff_getElem?.1 ((P3 z).1 hz);rw [List.getElem?_take]at hi;split at hi
      ·rename_i hik
       have hvu:dD v u=true:=lt_of_le_ne huv (λe=>heq e.symm);by_cases e:i=k+j-1
       ·subst e;rw [hv]at hi;cases hi;exact hvu
       ·exact vu (hle.get (by omega) hi hv) hvu
      ·cases hi
     ·rw [we,hmu z]
      simp
   ·simp only at Tb
    have hj:k+j=n:=by omega
    rw [bg,al.lA];unfold al.jJ;refine⟨⟨by omega,by omega⟩,?_⟩;rw [Int.toNat_natCast];obtain⟨w2,hr,iU,k2⟩:=qS nv (k:=p) (by omega) 0 (A:=if c=p then some ⟨b,0,none⟩else(some ⟨b,0,none⟩:Option Addr).map (·.add (p*32))) (cx:=c-p) (λhp=>by
     rw [if_neg (by omega)];simp [bO])
    refine⟨_,w2,hr,⟨by omega,by omega⟩,?_⟩;have e:l'.take p=dP l:=z7 vN λz=>by rw [P3 z,hj,List.take_of_length_le (by omega)]
    have el:p=(dP l).length:=by
     have h:=iU.len;rw [e]at h;exact h.symm
    have e0:(if c=0 then(some ⟨b,0,none⟩:Option Addr)else(some ⟨b,0,none⟩:Option Addr).map (·.add (0*32)))=some ⟨b,0,none⟩:=by
     rw [if_neg (by omega)];simp [add_zero]
    rw [e0,Nat.sub_zero,Nat.sub_zero];rw [e,el]at iU;have:=hK (some ⟨b,0,none⟩) c w2 iU (λk h=>h) ((k1.tt k2).mono λi _ h=>by rw [h];rfl);rw [<-el]at this;exact this
  ·rw [dO (n:=(k:Int)) (by omega) (by omega)]
   refine⟨(none,0,0,(k:Int)+1),rfl,⟨k+1,rfl,by omega,by omega,?_,k5⟩,by simp only;omega⟩;rw [List.take_add_one,hx];refine G1 wg λz hz=>?_;have Gt:dD y x=true:=lt_of_le_ne nI (λe=>he e.symm);obtain⟨i,hi⟩:=List.mem_iff_getElem?.1 hz;rw [List.getElem?_take]at hi;split at hi
   ·by_cases e:i=k-1
    ·subst e;rw [hy]at hi;cases hi;exact Gt
    ·exact vu (hle.get (by omega) hi hy) Gt
   ·cases hi
 ·simp only at gE
  have e:k=n:=by omega
  subst e;rw [bg,al.dJ];rw [List.take_of_length_le (by omega)]at wg;have e:dP l=l:=wx wg;have:=hK (some ⟨b,0,none⟩) c w' (by rw [e,hlen];exact Row.aN row kw (λ_ _ h=>h)) (λk h=>h) (kw.mono λ_ _ h=>h.elim);rw [e,hlen]at this;exact this
theorem im(hl:HS w A n l)(hn:n<=400000)
 (hK:∀A' c' w',bY w' w.heap.size A' (dP l).length c' (dP l)->Kept Nil w w'->K (.slice A' (dP l).length c') w'):
 bJ prog jz.id #[.slice A n c] w K:=by
 have hlen:=hl.len;refine jz.of ?_;refine eE.of ?_;unfold eE.W;intro w2;have k2:Kept Nil w w2:=(Kept.refl _ _).alloc _;have oN:w2.heap[w.heap.size]? =some (.cells #[.slice A n c] aH (0,0)):=aO w _;clear_value w2;refine⟨_,rfl,?_⟩;refine eo.of ?_;refine Fk (xs:=l) aQ.at_ (by rfl) (BE (l:=l) ⟨w.heap.size,0,none⟩ (A:=A) (n:=n) (c:=c) (by omega)) (λw' hk=>⟨(hl.same k2).same hk,by rw [aI (hk.heap oN (λh=>h))];rfl⟩) (by omega) ?_;intro A4 c4 w4 lh k4;refine⟨A4,_,c4,rfl,?_⟩;refine MQ lh (by omega) λl5 w5 hle jx kQ k5=>⟨rfl,?_⟩;refine⟨A4,_,c4,rfl,?_⟩;refine Fj kQ hle (by omega) λA6 c6 w6 Af rr k6=>⟨A6,_,c6,rfl,?_⟩;have e:dP l5=dP l:=FV jx;rw [e]at Af⊢;have U2:∀k,bL A4=some k->w.heap.size<=k:=λk hk=>Nat.le_trans k2.size (Row.bX lh hk).1;refine hK A6 c6 w6 (Row.base Af λk hk=>U2 k (rr k hk)) ?_;exact((k2.tt k4).trans k5 (λk hk h=>absurd (U2 k h) (by omega))).trans k6 (λk hk h=>absurd (U2 k h) (by omega))
end
theorem lF{x:Nat}(h:x<18446744073709551616):u64.wrap (x:Int)=(x:Int):=by
 simp only [IntKind.wrap,IntKind.bits,IntKind.signed];simp;omega
theorem orU{x y:Nat}(hx:x<18446744073709551616)(hy:y<18446744073709551616):
 u64.wrap ((BitVec.ofInt 64 (x:Int)|||BitVec.ofInt 64 (y:Int)).toNat:Int)=((x|||y:Nat):Int):=by
 have h:(BitVec.ofInt 64 (x:Int)|||BitVec.ofInt 64 (y:Int)).toNat=x|||y:=by
  rw [BitVec.ofInt_natCast,BitVec.ofInt_natCast,BitVec.toNat_or,BitVec.toNat_ofNat,BitVec.toNat_ofNat,Nat.mod_eq_of_lt (by omega),Nat.mod_eq_of_lt (by omega)]
 rw [h];exact lF (Nat.or_lt_two_pow (n:=64) hx hy)
theorem agF{x y:Nat}(hx:x<18446744073709551616)(hy:y<18446744073709551616):
 u64.wrap ((BitVec.ofInt 64 (x:Int)&&& BitVec.ofInt 64 (y:Int)).toNat:Int)=((x&&& y:Nat):Int):=by
 have h:(BitVec.ofInt 64 (x:Int)&&& BitVec.ofInt 64 (y:Int)).toNat=x&&& y:=by
  rw [BitVec.ofInt_natCast,BitVec.ofInt_natCast,BitVec.toNat_and,BitVec.toNat_ofNat,BitVec.toNat_ofNat,Nat.mod_eq_of_lt (by omega),Nat.mod_eq_of_lt (by omega)]
 rw [h];exact lF (Nat.lt_of_le_of_lt Nat.and_le_left hx)
theorem acu{i:Nat}(hi:i<64):u64.wrap ((1:Int)*2 ^ (min i 64))=((2 ^ i:Nat):Int):=by
 rw [Nat.min_eq_left (by omega),Int.one_mul];have h:2 ^ i<18446744073709551616:=Nat.pow_lt_pow_right (by omega) (n:=64) hi;have:=lF h;rw [<-this];simp
def bit(ws:List Nat)(i:Nat):Bool:=(ws.getD (i/64) 0).testBit (i%64)
def okW(ws:List Nat):Prop:=∀x∈ws,x<18446744073709551616
theorem AZ(i:Nat):bit [] i=false:=by simp [bit]
theorem De(ws:List Nat)(i:Nat):bit (ws++ [0]) i=bit ws i:=by
 unfold bit
 congr 1
 simp only [List.getD_eq_getElem?_getD,List.getElem?_append];split
 ·rfl
 ·rename_i h
  rw [List.getElem?_eq_none (l:=ws) (by omega)];cases i/64-ws.length<;>simp
theorem GX{ws:List Nat}{q:Nat}(hq:q<ws.length)(v i:Nat):bit (ws.set q v) i=if i/64=q then v.testBit (i%64)else bit ws i:=by
 unfold bit;simp only [List.getD_eq_getElem?_getD,List.getElem?_set];by_cases h:i/64=q
 ·subst h;simp [hq]
 ·rw [if_neg (λe=>h e.symm),if_neg h]
theorem Ge{ws:List Nat}(h:okW ws){x:Nat}(hx:x<18446744073709551616):okW (ws++ [x]):=λy hy=>by
 rw [List.mem_append,List.mem_singleton]at hy;rcases hy with hy|rfl
 ·exact h y hy
 ·exact hx
theorem Gd{ws:List Nat}(h:okW ws){x:Nat}(hx:x<18446744073709551616)(q:Nat):okW (ws.set q x):=λy hy=>by
 rcases List.mem_or_eq_of_mem_set hy with hy|rfl
 ·exact h y hy
 ·exact hx
def us(l:List Nat):List Value:=l.map λx:Nat=>.int .u64 (x:Int)
theorem qL(l:List Nat):(us l).length=l.length:=by simp [us]
theorem qM{l:List Nat}{j x:Nat}(h:l[j]? =some x):(us l)[j]? =some (.int .u64 (x:Int)):=by simp [us,h]
theorem zZ(l:List Nat)(q v:Nat):(us l).set q (.int .u64 (v:Int))=us (l.set q v):=by simp [us,List.map_set]
theorem QV(l m:List Nat):us (l++m)=us l++us m:=by simp [us]
structure US(w:World)(A:Option Addr)(n:Nat)(l:List Nat):Prop where
 len:l.length=n
 at_:∀(i x:Nat),l[i]? =some x->∃a,A=some a/\a.block<w.heap.size/\w.cell? (a.add i)=some (.int .u64 (x:Int))
theorem US.aN{S:Nat->Prop}{w w':World}{A:Option Addr}{n:Nat}{l:List Nat}(h:US w A n l)(hk:Kept S w w')(hn:∀a,A=some a->¬S a.block):US w' A n l:=⟨h.len,λi x hi=>by
 obtain⟨a,h1,h2,h3⟩:=h.at_ i x hi;exact⟨a,h1,Nat.lt_of_lt_of_le h2 hk.size,hk.cell h3 (by rw [fY];exact hn a h1)⟩⟩
theorem US.load{w:World}{A:Option Addr}{n:Nat}{l:List Nat}(hl:US w A n l){i:Int}{x:Nat}(h0:0<=i)(hx:l[i.toNat]? =some x){k:Int->Prop}(hk:k x):
 (0<=i/\i<(n:Int))/\Is A λa=>∃t:Int,w.cell? (a.add (i.toNat*1))=some (.int .u64 t)/\k t:=by
 obtain⟨a,rfl,_,hc⟩:=hl.at_ _ x hx;have:=(lgeS hx).1;have:=hl.len;exact⟨⟨h0,by omega⟩,x,by rw [Nat.mul_one];exact hc,hk⟩
theorem Q3:Bu prog mG iA 1 8:=⟨by kernel_rfl,by kernel_rfl⟩
abbrev mv(w:World)(B:Nat)(A:Option Addr)(n c:Nat)(l:List Nat):Prop:=Row w B iA 1 A n c (us l)
section
variable{w w':World}{B n c:Nat}{A:Option Addr}{l:List Nat}
theorem mv.len(h:mv w B A n c l):l.length=n:=by have:=Row.len h;rw [qL]at this;omega
theorem mv.us(h:mv w B A n c l):US w A n l:=⟨h.len,λi x hi=>by
 have hlen:=h.len;have:=(lgeS hi).1;obtain⟨b,rfl⟩:=Row.some h (by omega);obtain⟨_,cur,o5⟩:=Row.bX h (k:=b) rfl;exact⟨_,rfl,bt o5,by rw [bO,Nat.zero_add];exact Row.cell h (qM hi)⟩⟩
theorem JE(i:Nat):((i:Int).tdiv 64)=((i/64:Nat):Int):=by
 rw [Int.tdiv_eq_ediv_of_nonneg (by omega)];omega
theorem Q0(i:Nat):((i:Int).tmod 64)=((i%64:Nat):Int):=by
 rw [Int.tmod_eq_emod_of_nonneg (by omega)];omega
theorem vI(h:mv w B A n c l)(hn:n<=1000000)(hB:B<=w.heap.size){t:Nat}(x:Nat):
 ∃A' c' w',(Builtin.append_ #[mG,mG] mG #[.slice A n c,.slice (some ⟨w.heap.size,0,none⟩) 1 1]).run prog (w.alloc (.cells #[.int .u64 (x:Int)] t))=.ok (.slice A' (n+1) c') w'/\
  mv w' B A' (n+1) c' (l++ [x])/\Kept (λk=>bL A=some k) w w'/\(∀k,bL A'=some k->bL A=some k\/w.heap.size<=k):=by
 have k1:Kept Nil w (w.alloc (.cells #[.int .u64 (x:Int)] t)):=(Kept.refl _ _).alloc _;have hb:=aO w (.cells #[.int .u64 (x:Int)] t);have h1:mv (w.alloc (.cells #[.int .u64 (x:Int)] t)) B A n c l:=Row.aN h k1 (λ_ _ h=>h);obtain⟨A',c',w',hr,gL,hg,xz⟩:=gU (P:=prog) (t:=mG) (ty:=mG) (bytes:=8) Q3 h1 (a:=⟨w.heap.size,0,none⟩) (m:=1) (cx:=1) (news:=us [x]) rfl
  (λj u hj=>by rw [bO,Nat.zero_add,aI hb];simpa [us]using hj) (λu hu=>by simp [us]at hu;subst hu;rfl) (by omega) (by unfold maxLen;omega) (by have:=k1.size;omega)
 refine⟨A',c',w',hr,?_,?_,λk hk=>?_⟩
 ·show Row w' B iA 1 A' (n+1) c' (Proofs.YtfleamccglihoaaGreatDoor.us (l++ [x]))
  rw [QV];exact gL
 ·exact(k1.mono (S':=λk=>bL A=some k) (λ_ _ h=>h.elim)).tt (Kept.grown (S:=λk=>bL A=some k) (Kept.refl _ _) hg (λk hk _=>hk))
 ·rcases xz k hk with h|h
  ·exact .inl h
  ·have:=k1.size;exact .inr (by omega)
theorem BK{b:Nat}(h:mv w B (some ⟨b,0,none⟩) n c l){q:Nat}(hq:q<n)(x:Nat):
 mv (w.setCell ⟨b,q,none⟩ (.int .u64 (x:Int))) B (some ⟨b,0,none⟩) n c (l.set q x):=by
 have:=Row.set h (j:=q) (by rw [qL,h.len];exact hq) (.int .u64 (x:Int));rw [zZ]at this;exact this
theorem BR{K:Value->World->Prop}(h:mv w B A n c l)(ho:okW l)(hn:n<=100000)(hB:B<=w.heap.size){i:Nat}(hi:i<=1000000)
 (hK:∀A' n' c' l' w',mv w' B A' n' c' l'->okW l'->(n'<=n\/n'<=i/64+1)->(∀j,bit l' j=(bit l j||decide (j=i)))->Kept (λk=>bL A=some k) w w'->(∀k,bL A'=some k->bL A=some k\/w.heap.size<=k)->K (.slice A' n' c') w'):
 bJ prog cC.id #[.slice A n c,.int .i64 (i:Int)] w K:=by
 refine cC.of ?_;refine cC.cP (I:=λs w'=>∃A' n' c' l',s=(A',n',c')/\mv w' B A' n' c' l'/\okW l'/\(n'<=n\/n'<=i/64+1)/\(∀j,bit l' j=bit l j)/\Kept (λk=>bL A=some k) w w'/\(∀k,bL A'=some k->bL A=some k\/w.heap.size<=k))
  (μ:=λs _=>i/64+1-s.2.1) (s:=(A,n,c)) ⟨A,n,c,l,rfl,h,ho,.inl (Nat.le_refl _),λ_=>rfl,Kept.refl _ _,λk hk=>.inl hk⟩ ?_
 rintro s w' ⟨A',n',c',l',rfl,row,Mq,hn',sq,kw,hb⟩;unfold cC.B1;rw [JE,jG (by omega) (by omega)];refine⟨by omega,?_⟩;refine Split.dec (λhle=>?_) (λyn=>?_)
 ·simp only at hle
  have amL:n'<=i/64:=by omega
  obtain⟨A2,c2,w2,hr,iU,k2,oN⟩:=vI row (by omega) (Nat.le_trans hB kw.size) (t:=iA) 0;intro w6;refine⟨A2,n'+1,c2,w2,hr,?_⟩;refine⟨(A2,n'+1,c2),rfl,⟨A2,n'+1,c2,l'++ [0],rfl,iU,Ge Mq (by omega),by omega,λj=>by rw [De,sq],?_,λk hk=>?_⟩,by simp only;omega⟩
  ·exact kw.trans k2 (λk hk e=>by
    rcases hb k e with h|h
    ·exact h
    ·omega)
  ·rcases oN k hk with h|h
   ·exact hb k h
   ·exact .inr (Nat.le_trans kw.size h)
 ·simp only at yn
  have eA:i/64<n':=by omega
  rw [bg,cC.dJ];unfold cC.dA;intro nM;have yl:Kept Nil w' nM:=(Kept.refl _ _).drew;have Mu:nM=w'.drew:=rfl;clear_value nM;have sy:mv nM B A' n' c' l':=Row.aN row yl (λ_ _ h=>h);have hlen:=row.len;rw [JE,Q0,jG (by omega) (by omega)];obtain⟨b,rfl⟩:=Row.some sy (by omega);obtain⟨x,hx⟩:∃x,l'[i/64]? =some x:=⟨_,List.getElem?_eq_getElem (by omega)⟩;refine⟨by omega,sy.us.load (by omega) (by rw [Int.toNat_natCast];exact hx) ⟨by omega,by omega,⟨⟨by omega,by simp only;omega⟩,?_⟩⟩⟩;have vx:=Mq x (List.mem_of_getElem? hx);have hp:2 ^ (i%64)<18446744073709551616:=Nat.pow_lt_pow_right (by omega) (n:=64) (Nat.mod_lt _ (by omega));simp only [Is,Int.toNat_natCast,Nat.mul_one,bO,Nat.zero_add];rw [acu (Nat.mod_lt _ (by omega)),orU vx hp];refine⟨Row.wr sy (by rw [qL,hlen];exact eA),?_⟩;have sk:Kept (λk=>bL A=some k) w (nM.setCell ⟨b,i/64,none⟩ (.int .u64 ((x|||2 ^ (i%64):Nat):Int))):=
   Kept.setCell (kw.trans yl (λ_ _ h=>h.elim)) (p:=⟨b,i/64,none⟩) (λdD=>by
    rcases hb b rfl with h|h
    ·exact h
    ·exact absurd dD (by simp only;omega)) _
  refine hK _ _ _ _ _ (BK sy eA _) (Gd Mq (Nat.or_lt_two_pow (n:=64) vx hp) _) hn' (λj=>?_) sk hb;rw [GX (by omega),sq];have hbi:bit l' i=x.testBit (i%64):=by unfold bit;rw [List.getD_eq_getElem?_getD,hx];rfl
  by_cases e:j/64=i/64
  ·rw [if_pos e,Nat.testBit_or,Nat.testBit_two_pow]
   have hbj:bit l' j=x.testBit (j%64):=by unfold bit;rw [e,List.getD_eq_getElem?_getD,hx];rfl
   rw [<-hbj,sq]
   congr 1
   exact decide_eq_decide.2 ⟨λh=>by omega,λh=>by rw [h]⟩
  ·rw [if_neg e,decide_eq_false (λh=>e (by rw [h]))]
   simp
end
section
variable{w w':World}{B n c:Nat}{A:Option Addr}{l:List Nat}
theorem y8{K:Value->World->Prop}(h:mv w B A n c l)(ho:okW l)(hn:n<=100000)(hB:B<=w.heap.size){A2:Option Addr}{n2 c2:Nat}{v:List Nat}(hv:US w A2 n2 v)(hv':okW v)(hn2:n2<=100000)
 (Qv:∀a,A2=some a->∀k,bL A=some k->a.block≠k)
 (hK:∀A' n' c' l' w',mv w' B A' n' c' l'->okW l'->(n'<=n\/n'<=n2)->(∀j,bit l' j=(bit l j||bit v j))->Kept (λk=>bL A=some k) w w'->(∀k,bL A'=some k->bL A=some k\/w.heap.size<=k)->K (.slice A' n' c') w'):
 bJ prog dg.id #[.slice A n c,.slice A2 n2 c2] w K:=by
 have ah9:=hv.len;refine dg.of ?_;refine dg.cP (I:=λs w'=>∃(i:Nat) (A':Option Addr) (n' c':Nat) (l':List Nat),s=(A',n',c',(i:Int))/\i<=n2/\mv w' B A' n' c' l'/\okW l'/\i<=n'/\n<=n'/\(n'<=n\/n'<=i)/\(∀j,bit l' j=(bit l j||(decide (j/64<i)&&bit v j)))/\Kept (λk=>bL A=some k) w w'/\(∀k,bL A'=some k->bL A=some k\/w.heap.size<=k))
  (μ:=λs _=>((n2:Int)-s.2.2.2).toNat) (s:=(A,n,c,0)) ⟨0,A,n,c,l,rfl,Nat.zero_le _,h,ho,Nat.zero_le _,Nat.le_refl _,.inl (Nat.le_refl _),by simp,Kept.refl _ _,λk hk=>.inl hk⟩ ?_
 rintro s w' ⟨i,A',n',c',l',rfl,hi,row,Mq,gD,X1,hni,sq,kw,hb⟩;have zG:=row.len;refine Split.dec (λjT=>?_) (λgE=>?_)
 ·simp only at jT
  have eA:i<n2:=by omega
  obtain⟨x,hx⟩:∃x,v[i]? =some x:=⟨_,List.getElem?_eq_getElem (by omega)⟩;have vx:=hv' x (List.mem_of_getElem? hx);have hvw:US w' A2 n2 v:=hv.aN kw (λa ha e=>Qv a ha _ e rfl);refine hvw.load (i:=(i:Int)) (by omega) hx ?_;have step:∀(A2:Option Addr) (n3 c3:Nat) (l3:List Nat) (w3:World),mv w3 B A2 n3 c3 l3->okW l3->i<n3->n<=n3->(n3<=n\/n3<=i+1)->(∀j,bit l3 j=(bit l j||(decide (j/64<i)&&bit v j)))->Kept (λk=>bL A=some k) w w3->(∀k,bL A2=some k->bL A=some k\/w.heap.size<=k)->
   (0<=(i:Int)/\(i:Int)<(n3:Int))/\Is A2 λa=>∃t:Int,w3.cell? (a.add ((i:Int).toNat*1))=some (.int .u64 t)/\(0<=(i:Int)/\(i:Int)<(n3:Int))/\Is A2 λa'=>Wr w3 (a'.add ((i:Int).toNat*1))/\
     ∃(l4:List Nat),
     mv (w3.setCell (a'.add ((i:Int).toNat*1)) (.int .u64 (u64.wrap ((BitVec.ofInt 64 t|||BitVec.ofInt 64 (x:Int)).toNat)))) B A2 n3 c3 l4/\okW l4/\(∀j,bit l4 j=(bit l j||(decide (j/64<i+1)&&bit v j)))/\Kept (λk=>bL A=some k) w (w3.setCell (a'.add ((i:Int).toNat*1)) (.int .u64 (u64.wrap ((BitVec.ofInt 64 t|||BitVec.ofInt 64 (x:Int)).toNat)))):=by
   intro A2 n3 c3 l3 w3 oR ho3 hi3 hn3 amB Qq k3 qy;have aiH:=oR.len;obtain⟨b,rfl⟩:=Row.some oR (by omega);obtain⟨y,hy⟩:∃y,l3[i]? =some y:=⟨_,List.getElem?_eq_getElem (by omega)⟩;have hyl:=ho3 y (List.mem_of_getElem? hy);refine oR.us.load (i:=(i:Int)) (by omega) hy ⟨⟨by omega,by omega⟩,?_⟩;simp only [Is,Int.toNat_natCast,Nat.mul_one,bO,Nat.zero_add];rw [orU hyl vx];refine⟨Row.wr oR (by rw [qL];omega),l3.set i (y|||x),BK oR hi3 _,Gd ho3 (Nat.or_lt_two_pow (n:=64) hyl vx) _,λj=>?_,?_⟩
   ·rw [GX (by omega),Qq]
    have ET:j/64=i->bit v j=x.testBit (j%64):=λe=>by unfold bit;rw [e,List.getD_eq_getElem?_getD,hx];rfl
    have Mw:j/64=i->bit l3 j=y.testBit (j%64):=λe=>by unfold bit;rw [e,List.getD_eq_getElem?_getD,hy];rfl
    by_cases e:j/64=i
    ·rw [if_pos e,Nat.testBit_or,<-Mw e,<-ET e,Qq]
     rw [decide_eq_false (show ¬j/64<i by omega),decide_eq_true (show j/64<i+1 by omega)];simp
    ·rw [if_neg e]
     congr 2
     exact decide_eq_decide.2 (by omega)
   ·refine Kept.setCell k3 (p:=⟨b,i,none⟩) (λdD=>?_) _
    rcases qy b rfl with h|h
    ·exact h
    ·exact absurd dD (by simp only;omega)
  by_cases he:i=n'
  ·refine Split.yes (by simp [he]) ?_
   obtain⟨Jj,Fq,w2,hr,iU,k2,oN⟩:=vI row (by omega) (Nat.le_trans hB kw.size) (t:=iA) 0;intro w10;refine⟨Jj,n'+1,Fq,w2,hr,?_⟩;have st:=step Jj (n'+1) Fq (l'++ [0]) w2 iU (Ge Mq (by omega)) (by omega) (by omega) (by omega) (λj=>by rw [De,sq])
    (kw.trans k2 (λk hk e=>by
      rcases hb k e with h|h
      ·exact h
      ·omega)) (λk hk=>by
      rcases oN k hk with h|h
      ·exact hb k h
      ·exact .inr (Nat.le_trans kw.size h))
   clear step;obtain⟨s1,s2⟩:=st;refine⟨s1,?_⟩;cases Jj with
   |none=>exact s2.elim
   |some a=>
    obtain⟨t,s3,s4,s5,l4,s6,s7,s8,s9⟩:=s2;refine⟨t,s3,s4,s5,?_⟩;intro np;simp only;rw [dO (n:=(i:Int)) (by omega) (by omega)];exact⟨(some a,n'+1,Fq,(i:Int)+1),rfl,⟨i+1,some a,n'+1,Fq,l4,rfl,eA,s6,s7,by omega,by omega,by omega,s8,s9,λk hk=>by
     rcases oN k hk with h|h
     ·exact hb k h
     ·exact .inr (Nat.le_trans kw.size h)⟩,by simp only;omega⟩
  ·refine Split.no (beq_eq_false_iff_ne.2 (by simp only;omega)) ?_
   have st:=step A' n' c' l' w' row Mq (by omega) X1 (by omega) sq kw hb;clear step;obtain⟨s1,s2⟩:=st;refine⟨s1,?_⟩;cases A' with
   |none=>exact s2.elim
   |some a=>
    obtain⟨t,s3,s4,s5,l4,s6,s7,s8,s9⟩:=s2;refine⟨t,s3,s4,s5,?_⟩;intro np;simp only;rw [dO (n:=(i:Int)) (by omega) (by omega)];exact⟨(some a,n',c',(i:Int)+1),rfl,⟨i+1,some a,n',c',l4,rfl,eA,s6,s7,by omega,X1,by omega,s8,s9,hb⟩,by simp only;omega⟩
 ·simp only at gE
  have:i=n2:=by omega
  subst this;rw [bg,dg.dJ];refine hK A' n' c' l' w' row Mq (by omega) (λj=>?_) kw hb;rw [sq]
  congr 1
  by_cases e:j/64<i
  ·rw [decide_eq_true e];simp
  ·rw [decide_eq_false e]
   unfold bit;rw [List.getD_eq_getElem?_getD,List.getElem?_eq_none (by omega)];simp
end
theorem Dj:∀k m:Nat,(2 ^ k*(2*m+1))&&& (2 ^ k*(2*m+1)-1)=2 ^ (k+1)*m
 |0,m=>by
  apply Nat.eq_of_testBit_eq;intro i;rw [Nat.testBit_and];cases i with
  |zero=>simp [Nat.testBit_zero]
  |succ i=>
   simp only [Nat.testBit_succ];rw [show(2 ^ 0*(2*m+1))/2=m by omega,show(2 ^ 0*(2*m+1)-1)/2=m by omega,show 2 ^ (0+1)*m/2=m by omega];simp
 |k+1,m=>by
  have ih:=Dj k m;have hp:0<2 ^ k*(2*m+1):=Nat.mul_pos (Nat.pow_pos (by omega)) (by omega);rw [show 2 ^ (k+1)*(2*m+1)=2*(2 ^ k*(2*m+1))by rw [Nat.pow_succ];ac_rfl,show 2 ^ (k+1+1)*m=2*(2 ^ (k+1)*m)by rw [Nat.pow_succ 2 (k+1)];ac_rfl];generalize 2 ^ k*(2*m+1)=x at ih hp⊢;rw [<-ih];apply Nat.eq_of_testBit_eq;intro i;rw [Nat.testBit_and];cases i with
  |zero=>simp [Nat.testBit_zero]
  |succ i=>
   simp only [Nat.testBit_succ];rw [show 2*x/2=x by omega,show(2*x-1)/2=x-1 by omega,show 2*(x&&& (x-1))/2=x&&& (x-1)by omega,Nat.testBit_and]
theorem Gf{x:Nat}(h0:x≠0)(hx:x<18446744073709551616):Lib.ctz 64 x<64/\x.testBit (Lib.ctz 64 x)=true/\∀t,(x&&& (x-1)).testBit t=(x.testBit t&&decide (t≠Lib.ctz 64 x)):=by
 obtain⟨m,h1,h2⟩:=Lib.ctzFrom_spec 64 x (by omega) hx;have e:Lib.ctz 64 x=Lib.ctzFrom 64 x:=by unfold Lib.ctz;rw [if_neg h0]
 rw [e];generalize Lib.ctzFrom 64 x=k at h1 h2⊢;have hand:x&&& (x-1)=2 ^ (k+1)*m:=by rw [h1];exact Dj k m
 have hb:∀t,x.testBit t=(decide (t>=k)&&(2*m+1).testBit (t-k)):=λt=>by rw [h1,Nat.testBit_two_pow_mul]
 refine⟨h2,by rw [hb];simp,λt=>?_⟩;rw [hand,Nat.testBit_two_pow_mul,hb];by_cases ht:t=k
 ·subst ht
  simp;intro h;omega
 ·rw [decide_eq_true ht,Bool.and_true]
  by_cases hk:t>=k
  ·obtain⟨d,hd⟩:∃d,t-k=d+1:=⟨t-k-1,by omega⟩
   rw [decide_eq_true hk,decide_eq_true (show t>=k+1 by omega),hd,show t-(k+1)=d by omega,Nat.testBit_succ,show(2*m+1)/2=m by omega]
  ·rw [decide_eq_false hk,decide_eq_false (show ¬t>=k+1 by omega)]
   simp
theorem Bd{x:Nat}(h0:x≠0):x&&& (x-1)<x:=Nat.lt_of_le_of_lt Nat.and_le_right (by omega)
def xc(x:Nat):List Nat:=if h:x=0 then []else Lib.ctz 64 x::xc (x&&& (x-1))
termination_by x
decreasing_by exact Bd h
theorem zr:xc 0= []:=by rw [xc];simp
theorem zu{x:Nat}(h0:x≠0):xc x=Lib.ctz 64 x::xc (x&&& (x-1)):=by rw [xc,dif_neg h0]
theorem zt:∀(x:Nat),x<18446744073709551616->(∀t,t∈xc x↔x.testBit t=true)/\(xc x).Nodup/\∀t∈xc x,t<64:=by
 intro x
 induction x using Nat.strongRecOn with
 |_ x ih=>
  intro hx;by_cases h0:x=0
  ·subst h0;rw [zr];simp
  ·obtain⟨h1,h2,h3⟩:=Gf h0 hx
   obtain⟨i1,i2,i3⟩:=ih _ (Bd h0) (Nat.lt_trans (Bd h0) hx);rw [zu h0];refine⟨λt=>?_,?_,λt ht=>?_⟩
   ·rw [List.mem_cons,i1,h3]
    by_cases e:t=Lib.ctz 64 x
    ·rw [e,h2];simp
    ·simp [e]
   ·rw [List.nodup_cons,i1,h3]
    exact⟨by simp,i2⟩
   ·rcases List.mem_cons.1 ht with rfl|ht
    ·exact h1
    ·exact i3 t ht
def q9:Nat->List Nat->List Nat
 |_,[]=> []
 |k,x::ws=>(xc x).map (64*k+ ·)++q9 (k+1) ws
theorem LL(x:Nat)(ws:List Nat)(j:Nat):bit (x::ws) j=if j<64 then x.testBit j else bit ws (j-64):=by
 unfold bit;split
 ·rename_i h
  rw [show j/64=0 by omega,show j%64=j by omega];rfl
 ·rename_i h
  rw [show j/64=(j-64)/64+1 by omega,show j%64=(j-64)%64 by omega];rfl
theorem rh:∀(ws:List Nat) (k j:Nat),okW ws->(j∈q9 k ws↔64*k<=j/\bit ws (j-64*k)=true)
 | [],k,j,_=>by simp [q9,bit]
 |x::ws,k,j,ho=>by
  obtain⟨h1,_,h3⟩:=zt x (ho x (by simp));have ih:=rh ws (k+1) j (λy hy=>ho y (by simp [hy]));rw [q9,List.mem_append,ih,LL,List.mem_map];constructor
  ·rintro(⟨t,ht,rfl⟩|⟨h,hb⟩)
   ·have:=h3 t ht
    refine⟨by omega,?_⟩;rw [if_pos (by omega),show 64*k+t-64*k=t by omega];exact(h1 t).1 ht
   ·refine⟨by omega,?_⟩
    rw [if_neg (by omega),show j-64*k-64=j-64*(k+1)by omega];exact hb
  ·rintro⟨h,hb⟩
   split at hb
   ·exact .inl ⟨j-64*k,(h1 _).2 hb,by omega⟩
   ·refine .inr ⟨by omega,?_⟩
    rw [show j-64*(k+1)=j-64*k-64 by omega];exact hb
theorem wS:∀ {l m:List Nat},l.Nodup->(∀x∈l,x∈m)->l.length<=m.length
 | [],_,_,_=>Nat.zero_le _
 |x::l,m,hn,h=>by
  rw [List.nodup_cons]at hn;have hx:=h x (by simp);have:=wS (l:=l) (m:=m.erase x) hn.2 (λy hy=>by
   have gQ:y≠x:=λe=>hn.1 (e▸hy);exact(List.mem_erase_of_ne gQ).2 (h y (by simp [hy])))
  rw [List.length_erase_of_mem hx]at this;have kW:0<m.length:=List.length_pos_of_mem hx;simp only [List.length_cons];omega
def tm(w:World):Prop:=TabAt (Tryz.lG.g 1) Lib.deBruijn64tab w
theorem tm.aN{S:Nat->Prop}{w w':World}(h:tm w)(hk:Kept S w w')(hn:¬S (Tryz.lG.g 1)):tm w':=λj hj=>hk.cell (h j hj) hn
theorem tm.same{w w':World}(h:tm w)(hk:Kept Nil w w'):tm w':=h.aN hk λh=>h
theorem tm.lt{w:World}(h:tm w):Tryz.lG.g 1<w.heap.size:=World.block_lt_of_cell? w _ (h 0 (by decide))
section
variable{w:World}{K:Value->World->Prop}
theorem Vp{x:Nat}(hx:x<18446744073709551616)(hT:tm w)(hK:K (.int .i64 (Lib.ctz 64 x:Nat)) w):bJ prog bits_TrailingZeros64.id #[.int .u64 (x:Int)] w K:=by
 refine Calls.mono (Any7.bits_TrailingZeros64 Tryz.tzL x hx w (λ_=>hT)) ?_;rintro e w' ⟨rfl,rfl⟩;exact⟨_,rfl,hK⟩
abbrev encI(i:Nat):List Value:= [.int .i64 (i:Int)]
theorem LN(p:Addr){A:Option Addr}{n c:Nat}{l:List Nat}(hn:n<=100000)(ho:okW l):
 pH prog aS.id #[] #[.pointer (some p)] ((q9 0 l).map encI) (λw=>US w A n l/\w.cell? p=some (.slice A n c)/\tm w):=by
 intro y I D w0 hI hD ub h0 sW;refine aS.of ?_;obtain⟨yG,UM,_⟩:=ub 0 w0 h0;have hlen:=yG.len;refine⟨A,n,c,UM,?_⟩;refine aS.cP (I:=λs w'=>∃(i:Nat) (dn:List Nat),s=(i:Int)/\i<=n/\dn++q9 i (l.drop i)=q9 0 l/\I dn.length w') (μ:=λs _=>((n:Int)-s).toNat) (s:=0) ⟨0,[],rfl,Nat.zero_le _,rfl,h0⟩ ?_;rintro s w' ⟨i,dn,rfl,hi,EN,hw⟩;refine Split.dec (λjT=>?_) (λgE=>?_)
 ·have eA:i<n:=by omega
  obtain⟨x,hx⟩:∃x,l[i]? =some x:=⟨_,List.getElem?_eq_getElem (by omega)⟩;have vx:=ho x (List.mem_of_getElem? hx);have hl:=(ub _ w' hw).1;have xx:l.drop i=x::l.drop (i+1):=by
   obtain⟨h1,h2⟩:=lgeS hx;rw [List.drop_eq_getElem_cons h1,h2]
  rw [xx,q9]at EN;refine hl.load (i:=(i:Int)) (by omega) hx ?_;refine aS.iY (I:=λs w'=>∃(v:Nat) (dn:List Nat),s=(v:Int)/\v<18446744073709551616/\dn++((xc v).map (64*i+ ·)++q9 (i+1) (l.drop (i+1)))=q9 0 l/\I dn.length w') (μ:=λs _=>s.toNat) (s:=(x:Int)) ⟨x,dn,rfl,vx,EN,hw⟩ ?_;clear hw EN;rintro s w1 ⟨v,dn1,rfl,hv,K8,Mh⟩;by_cases h0:v=0
  ·refine Split.no (by subst h0;rfl) ?_
   rw [bg,aS.lA];unfold aS.jJ;rw [dO (n:=(i:Int)) (by omega) (by omega)];rw [h0,zr,List.map_nil,List.nil_append]at K8;exact⟨(i:Int)+1,rfl,⟨i+1,dn1,rfl,eA,K8,Mh⟩,by simp only;omega⟩
  ·refine Split.yes (bne_iff_ne.2 (by omega)) ?_
   have hpr:=ub _ w1 Mh;obtain⟨hk,P7,hkr⟩:=Gf h0 hv;rw [zu h0,List.map_cons,List.cons_append]at K8;refine Vp hv hpr.2.2 ⟨_,rfl,?_⟩;have iM:((q9 0 l).map encI)[dn1.length]? =some (encI (64*i+Lib.ctz 64 v)):=by
    rw [List.getElem?_map,<-K8,List.getElem?_append_right (Nat.le_refl _),Nat.sub_self];rfl
   have Eu:i64.wrap (i64.wrap ((64:Int)*(i:Int))+((Lib.ctz 64 v:Nat):Int))=((64*i+Lib.ctz 64 v:Nat):Int):=by
    rw [jG (x:=(64:Int)*(i:Int)) (by omega) (by omega),jG (by omega) (by omega)];omega
   rw [Eu];refine(sW dn1.length _ w1 iM Mh).mono ?_;rintro b mN ⟨ht,hf⟩;have oY:u64.wrap ((BitVec.ofInt 64 (v:Int)&&& BitVec.ofInt 64 (u64.wrap ((v:Int)-(1:Int)))).toNat:Int)=((v&&& (v-1):Nat):Int):=by
    have e1:(v:Int)-1=((v-1:Nat):Int):=by omega
    rw [e1,lF (x:=v-1) (by omega),agF hv (by omega)]
   cases b with
   |true=>
    refine Split.no rfl ?_;rw [oY];have dD:=Bd h0;refine⟨((v&&& (v-1):Nat):Int),rfl,⟨v&&& (v-1),dn1++ [64*i+Lib.ctz 64 v],rfl,by omega,by rw [List.append_assoc];exact K8,?_⟩,by simp only;omega⟩;rw [List.length_append];exact ht rfl
   |false=>
    refine Split.yes rfl ?_;exact Or.inr (hf rfl)
 ·rw [bg,aS.dJ]
  have e:i=n:=by omega
  subst e;refine Or.inl ?_;rw [List.drop_eq_nil_of_le (by omega),q9,List.append_nil]at EN;rw [List.length_map,<-EN];exact hw
end
def pos(h:HT):List HT->Nat->Option Nat
 | [],_=>none
 |x::l,i=>if h=x then some i else pos h l (i+1)
theorem qX{h:HT}:∀ {l:List HT} {i:Nat},pos h l i=none↔h∉l
 | [],i=>by simp [pos]
 |x::l,i=>by
  unfold pos;split
  ·rename_i e;simp [e]
  ·rename_i e
   rw [qX (l:=l)];simp [e]
theorem wI{h:HT}:∀ {l:List HT} {i j:Nat},pos h l i=some j->i<=j/\l[j-i]? =some h
 | [],i,j,e=>by simp [pos]at e
 |x::l,i,j,e=>by
  unfold pos at e;split at e
  ·rename_i hx
   cases e;subst hx;exact⟨Nat.le_refl _,by rw [Nat.sub_self];rfl⟩
  ·obtain⟨h1,h2⟩:=wI e
   refine⟨by omega,?_⟩;rw [show j-i=(j-(i+1))+1 by omega];exact h2
theorem mC{h:HT}:∀ {l:List HT} (i j:Nat),l.Nodup->l[j]? =some h->pos h l i=some (i+j)
 | [],i,j,_,e=>by simp at e
 |x::l,i,0,_,e=>by
  simp only [List.getElem?_cons_zero,Option.some.injEq]at e;unfold pos;rw [if_pos e.symm];simp
 |x::l,i,j+1,hn,e=>by
  simp only [List.getElem?_cons_succ]at e;rw [List.nodup_cons]at hn;unfold pos;rw [if_neg (λhx=>hn.1 (by rw [<-hx];exact List.mem_of_getElem? e)),mC (i+1) j hn.2 e]
  congr 1
  omega
section
variable{w:World}
theorem ML:prog.underlying ai=some (.array 32 jV):=by kernel_rfl
theorem QW:prog.underlying jV=some (.int .u8):=by kernel_rfl
theorem Py:∃i,prog.info? jV=some i/\i.size=1:=by
 have h:(match prog.info? jV with|some i=>Nat.beq i.size 1|none=>false)=true:=by kernel_rfl
 split at h
 ·rename_i i hi;exact⟨i,hi,Nat.eq_of_beq_eq_true h⟩
 ·cases h
theorem QX:prog.underlying dw=some (.map ai iT):=by kernel_rfl
theorem wB(a b:HT)(w:World):(Op.equal ai (.agg a.1) (.agg b.1)).run prog w=.ok (decide (a=b)) w:=by
 obtain⟨i,hi,h1⟩:=Py;have:=qR (P:=prog) 9998 w ML QW hi h1 a.2.ints b.2.ints;rw [dQ]at this;simp only [Op.equal,Op.maxDepth];exact this
theorem kH(h:HT)(em:Bool)(w:World):(Instr.checkKey em 10000 ai (.agg h.1)).run prog w=.ok () w:=by
 obtain⟨i,hi,h1⟩:=Py;have hc:prog.cellsOf jV=1:=by simp [Program.cellsOf,hi,h1]
 rw [show(10000:Nat)=9999+1 from rfl,Instr.checkKey];simp only [Sem.run_bind,run_underlying ML,Result.andThen_ok];simp only [Std.Legacy.Range.forIn_eq_forIn_range',Std.Legacy.Range.size,Nat.sub_zero,Nat.add_one_sub_one,Nat.div_one];have each:∀j∈List.range' 0 32,∃v,h.1[j]? =some v/\∃x:Int,v=.int .u8 x:=λj hj=>by
  have xt:j<h.1.size:=by rw [h.2.1];simpa using hj
  obtain⟨x,hx,_⟩:=h.2.2 h.1[j] (by simp);exact⟨_,Array.getElem?_eq_getElem xt,x,hx⟩
 generalize List.range' 0 32=is at each
 induction is with
 |nil=>simp
 |cons j is ih=>
  obtain⟨v,hv,x,rfl⟩:=each j (by simp);have Ov:(isAgg jV).run prog w=.ok false w:=by simp [isAgg,run_underlying QW]
  have p1:(part jV h.1 (j*1)).run prog w=.ok (.int .u8 x) w:=by simp [part,Ov,hv]
  have p2:(Instr.checkKey em 9999 jV (.int .u8 x)).run prog w=.ok () w:=by
   rw [show(9999:Nat)=9998+1 from rfl,Instr.checkKey];simp [run_underlying QW]
  simp only [List.forIn_cons,Sem.run_bind,Go.cF.run_sizeOf hi w,hc,Result.andThen_ok,p1,p2,Sem.run_pure];exact ih (λy hy=>each y (by simp [hy]))
def Dr(es:List MapEntry)(l:List HT)(i:Nat):Prop:=match es,l with
 | [],[]=>True
 |e::es,h::l=>(e.key=.agg h.1/\e.val=.int .i64 (i:Int))/\Dr es l (i+1)
 |_,_=>False
theorem Dr.snoc:∀ {es:List MapEntry} {l:List HT} {i:Nat} {e:MapEntry} {h:HT},Dr es l i->e.key=.agg h.1->e.val=.int .i64 ((i+l.length:Nat):Int)->Dr (es++ [e]) (l++ [h]) i
 | [],[],i,e,h,_,h1,h2=>⟨⟨h1,by simpa using h2⟩,trivial⟩
 |x::es,y::l,i,e,h,he,h1,h2=>⟨he.1,Dr.snoc he.2 h1 (by rw [h2];congr 2;simp;omega)⟩
 | [],_::_,_,_,_,he,_,_=>he.elim
 |_::_,[],_,_,_,he,_,_=>he.elim
theorem tH(h:HT)(w:World):∀(es:List MapEntry) (l:List HT) (i:Nat),Dr es l i->
 (Instr.findAsking ai (.agg h.1) es i).run prog w=.ok ((pos h l i).map λj=>(j,.int .i64 (j:Int))) w
 | [],[],i,_=>by simp [Instr.findAsking,pos]
 |e::es,x::l,i,he=>by
  have hq:=wB h x w;have ih:=tH h w es l (i+1) he.2;simp only [Instr.findAsking,he.1.1,Sem.run_bind,hq,Result.andThen_ok];by_cases hx:h=x
  ·simp [hx,pos,he.1.2]
  ·simp [hx,pos,ih]
 | [],_::_,_,he=>he.elim
 |_::_,[],_,he=>he.elim
theorem pO(h:HT)(w:World){es:List MapEntry}{l:List HT}(he:Dr es l 0):
 (Instr.findKey ai (.agg h.1) es).run prog w=.ok ((pos h l 0).map λj=>(j,.int .i64 (j:Int))) w:=by
 have h1:=tH h w es l 0 he;simp only [Instr.findKey,Sem.run_bind,run_underlying ML,Result.andThen_ok];cases es with
 |nil=>
  cases l with
  |nil=>simp [Instr.findNow,pos]
  |cons x l=>exact he.elim
 |cons e es=>
  have:Instr.findNow (.array 32 jV) (.agg h.1) (e::es) 0=none:=by
   simp only [Instr.findNow,Instr.sameNow]
  rw [this];exact h1
theorem rD{r:Nat}{es:Array MapEntry}{clock:Nat}(hb:w.heap[r]? =some (.map es clock)):(getObj r).run prog w=.ok (.map es clock) w:=by
 simp [getObj,Sem.run,hb]
theorem DT{r:Nat}{es:Array MapEntry}{clock:Nat}(o:Obj)(hb:w.heap[r]? =some (.map es clock)):(setObj r o).run prog w=.ok () {w with heap:=w.heap.setIfInBounds r o}:=by
 simp [setObj,Sem.run,hb]
structure IsMap(w:World)(m:Nat)(l:List HT):Prop where
 ex:∃es clock,w.heap[m]? =some (.map es clock)/\Dr es.toList l 0
theorem IsMap.aN{S:Nat->Prop}{w w':World}{m:Nat}{l:List HT}(h:IsMap w m l)(hk:Kept S w w')(hn:¬S m):IsMap w' m l:=by
 obtain⟨es,clock,h1,h2⟩:=h.ex;exact⟨es,clock,hk.heap h1 hn,h2⟩
theorem IsMap.lt{w:World}{m:Nat}{l:List HT}(h:IsMap w m l):m<w.heap.size:=by
 obtain⟨es,clock,h1,_⟩:=h.ex;exact bt h1
theorem IsMap.look{m:Nat}{l:List HT}(hm:IsMap w m l)(h:HT):
 (Instr.lookup dw (.map (some m)) (.agg h.1) true).run prog w=.ok (.tuple #[.int .i64 (((pos h l 0).getD 0:Nat):Int),.bool (pos h l 0).isSome]) w:=by
 obtain⟨es,clock,h1,h2⟩:=hm.ex;have h3:=pO h w h2;simp only [Instr.lookup,Sem.run_bind,run_underlying QX,rD h1,Result.andThen_ok,Sem.run_pure,kH,h3];cases hp:pos h l 0<;>simp
theorem IsMap.zv{m:Nat}{l:List HT}(hm:IsMap w m l)(h:HT):
 (Instr.lookup dw (.map (some m)) (.agg h.1) false).run prog w=.ok (.int .i64 (((pos h l 0).getD 0:Nat):Int)) w:=by
 obtain⟨es,clock,h1,h2⟩:=hm.ex;have h3:=pO h w h2;simp only [Instr.lookup,Sem.run_bind,run_underlying QX,rD h1,Result.andThen_ok,Sem.run_pure,kH,h3];cases hp:pos h l 0<;>simp
theorem IsMap.put{m:Nat}{l:List HT}(hm:IsMap w m l){h:HT}(hn:h∉l):
 ∃w',(Instr.mapUpdate dw (.map (some m)) (.agg h.1) (.int .i64 ((l.length:Nat):Int))).run prog w=.ok () w'/\IsMap w' m (l++ [h])/\Kept (· =m) w w':=by
 obtain⟨es,clock,h1,h2⟩:=hm.ex;have h3:=pO h w h2;rw [qX.2 hn]at h3;refine⟨{w with heap:=w.heap.setIfInBounds m (.map (es.push {key:=.agg h.1,val:=.int .i64 ((l.length:Nat):Int),born:=clock}) (clock+1))},?_,⟨es.push {key:=.agg h.1,val:=.int .i64 ((l.length:Nat):Int),born:=clock},clock+1,?_,?_⟩,?_⟩
 ·simp only [Instr.mapUpdate,Sem.run_bind,run_underlying QX,rD h1,Result.andThen_ok,kH,h3,Option.map_none,DT _ h1]
 ·simp [bt h1]
 ·have:=h2.snoc (e:= {key:=.agg h.1,val:=.int .i64 ((l.length:Nat):Int),born:=clock}) (h:=h) rfl (by simp)
  simpa using this
 ·exact⟨rfl,rfl,rfl,by simp,λk _ hk=>by simp [Ne.symm hk]⟩
end
end Go.Proofs.YtfleamccglihoaaGreatDoor
namespace Go.Proofs.YtfleamccglihoaaGreatDoor
open Go.Proofs.Tryz
open Go Go.cF
structure DN where
 id:HT
 ps:List HT
abbrev DG:=List DN
def ids(D:DG):List HT:=D.map (·.id)
def nK(D:DG)(p h:HT):Prop:=∃nd∈D,nd.id=h/\p∈nd.ps
inductive fU (D:DG):HT->HT->Prop
 |one {p h:HT}:nK D p h->fU D p h
 |more {a p h:HT}:fU D a p->nK D p h->fU D a h
theorem fU.trans{D:DG}{a b c:HT}(h:fU D a b)(h':fU D b c):fU D a c:=by
 induction h' with
 |one hp=>exact .more h hp
 |more _ hp ih=>exact .more ih hp
structure lr(D:DG):Prop where
 pos:0<D.length
 nodup:(ids D).Nodup
 ss:∀nd∈D,SS nd.ps
 up:∀(i:Nat) nd p,D[i]? =some nd->p∈nd.ps->∃(j:Nat) (m:DN),j<i/\D[j]? =some m/\m.id=p
theorem iL(D:DG):(ids D).length=D.length:=by simp [ids]
theorem oK{D:DG}{i:Nat}{nd:DN}(h:D[i]? =some nd):(ids D)[i]? =some nd.id:=by simp [ids,h]
theorem KD{D:DG}{i:Nat}{h:HT}(e:(ids D)[i]? =some h):∃nd,D[i]? =some nd/\nd.id=h:=by
 unfold ids at e;rw [List.getElem?_map]at e;cases hd:D[i]? with
 |none=>rw [hd]at e;cases e
 |some nd=>rw [hd]at e;exact⟨nd,rfl,by simpa using e⟩
theorem eV{D:DG}{h:HT}:h∈ids D↔∃nd∈D,nd.id=h:=by simp [ids]
section
variable{D:DG}
theorem lr.inj(W:lr D){i j:Nat}{a b:DN}(ha:D[i]? =some a)(hb:D[j]? =some b)(e:a.id=b.id):i=j:=by
 have h1:=mC 0 i W.nodup (oK ha);have h2:=mC 0 j W.nodup (oK hb);rw [e,h2]at h1;simpa using h1.symm
theorem lr.pos_eq(W:lr D){i:Nat}{nd:DN}(h:D[i]? =some nd):Proofs.YtfleamccglihoaaGreatDoor.pos nd.id (ids D) 0=some i:=by
 have:=mC 0 i W.nodup (oK h)
 rwa [Nat.zero_add]at this
theorem nK.at_(W:lr D){p h:HT}(hp:nK D p h):∃(i j:Nat) (m nd:DN),i<j/\D[i]? =some m/\D[j]? =some nd/\m.id=p/\nd.id=h/\p∈nd.ps:=by
 obtain⟨nd,fE,rfl,qJ⟩:=hp;obtain⟨j,hj⟩:=List.mem_iff_getElem?.1 fE;obtain⟨i,m,sY,hm,e⟩:=W.up j nd p hj qJ;exact⟨i,j,m,nd,sY,hm,hj,e,rfl,qJ⟩
theorem fU.at_(W:lr D){a h:HT}(hp:fU D a h):∃(i j:Nat) (m nd:DN),i<j/\D[i]? =some m/\D[j]? =some nd/\m.id=a/\nd.id=h:=by
 induction hp with
 |one hp=>
  obtain⟨i,j,m,nd,h1,h2,h3,h4,h5,_⟩:=hp.at_ W;exact⟨i,j,m,nd,h1,h2,h3,h4,h5⟩
 |more _ hp ih=>
  obtain⟨i,j,m,nd,h1,h2,h3,h4,h5⟩:=ih;obtain⟨i',j',m',nd',vC,xA,Dz,h4',h5',_⟩:=hp.at_ W;have e:=W.inj h3 xA (by rw [h5,h4']);exact⟨i,j',m,nd',by omega,h2,Dz,h4,h5'⟩
theorem fU.irrefl(W:lr D)(a:HT):¬fU D a a:=λh=>by
 obtain⟨i,j,m,nd,h1,h2,h3,h4,h5⟩:=h.at_ W;have:=W.inj h2 h3 (by rw [h4,h5]);omega
theorem fU.mem(W:lr D){a h:HT}(hp:fU D a h):a∈ids D/\h∈ids D:=by
 obtain⟨i,j,m,nd,_,h2,h3,h4,h5⟩:=hp.at_ W;exact⟨eV.2 ⟨m,List.mem_of_getElem? h2,h4⟩,eV.2 ⟨nd,List.mem_of_getElem? h3,h5⟩⟩
theorem GY(W:lr D){i:Nat}{nd:DN}(h:D[i]? =some nd)(a:HT):fU D a nd.id↔∃p∈nd.ps,a=p\/fU D a p:=by
 have key:∀ {p},nK D p nd.id->p∈nd.ps:=λ⟨nd',hm,e,hp⟩=>by
  obtain⟨j,hj⟩:=List.mem_iff_getElem?.1 hm;have:=W.inj h hj e.symm;subst this;rw [h]at hj;cases hj;exact hp
 constructor
 ·intro ha
  generalize he:nd.id=x at ha;cases ha with
  |one hp=>subst he;exact⟨a,key hp,.inl rfl⟩
  |more AP hp=>subst he;exact⟨_,key hp,.inr AP⟩
 ·rintro⟨p,hp,e⟩
  have mu:nK D p nd.id:=⟨nd,List.mem_of_getElem? h,rfl,hp⟩;rcases e with rfl|e
  ·exact .one mu
  ·exact .more e mu
theorem ph{nd:DN}{p h:HT}:nK (D++ [nd]) p h↔nK D p h\/(nd.id=h/\p∈nd.ps):=by
 unfold nK;constructor
 ·rintro⟨m,hm,e,hp⟩
  rw [List.mem_append,List.mem_singleton]at hm;rcases hm with hm|rfl
  ·exact .inl ⟨m,hm,e,hp⟩
  ·exact .inr ⟨e,hp⟩
 ·rintro(⟨m,hm,e,hp⟩|⟨e,hp⟩)
  ·exact⟨m,by simp [hm],e,hp⟩
  ·exact⟨nd,by simp,e,hp⟩
theorem kL(W:lr D){nd:DN}(hn:nd.id∉ids D){a h:HT}(hh:h∈ids D):fU (D++ [nd]) a h↔fU D a h:=by
 constructor
 ·intro ha
  induction ha with
  |one hp=>
   rcases ph.1 hp with hp|⟨e,_⟩
   ·exact .one hp
   ·subst e;exact absurd hh hn
  |more _ hp ih=>
   rcases ph.1 hp with hp|⟨e,_⟩
   ·exact .more (ih (fU.mem W (.one hp)).1) hp
   ·subst e;exact absurd hh hn
 ·intro ha
  induction ha with
  |one hp=>exact .one (ph.2 (.inl hp))
  |more AP hp ih=>exact .more (ih (fU.mem W AP).2) (ph.2 (.inl hp))
theorem mU(D:DG)(nd:DN):ids (D++ [nd])=ids D++ [nd.id]:=by simp [ids]
theorem lr.snoc(W:lr D){nd:DN}(hn:nd.id∉ids D)(qJ:∀p∈nd.ps,p∈ids D)(hs:SS nd.ps):lr (D++ [nd]) where
 pos:=by simp
 nodup:=by
  rw [mU,List.nodup_append];refine⟨W.nodup,by simp,λa ha b hb=>?_⟩;rw [List.mem_singleton]at hb;subst hb;exact λe=>hn (e▸ha)
 ss:=λm hm=>by
  rw [List.mem_append,List.mem_singleton]at hm;rcases hm with hm|rfl
  ·exact W.ss m hm
  ·exact hs
 up:=λi m p hi hp=>by
  rw [List.getElem?_append]at hi;split at hi
  ·rename_i dD
   obtain⟨j,q,h1,h2,h3⟩:=W.up i m p hi hp;exact⟨j,q,h1,by rw [List.getElem?_append_left (by omega)];exact h2,h3⟩
  ·rename_i gE
   have:m=nd:=by
    cases hk:i-D.length with
    |zero=>rw [hk]at hi;simpa using hi.symm
    |succ k=>rw [hk]at hi;simp at hi
   subst this;obtain⟨q,hq,e⟩:=eV.1 (qJ p hp);obtain⟨j,hj⟩:=List.mem_iff_getElem?.1 hq;have vA:=(lgeS hj).1;exact⟨j,q,by omega,by rw [List.getElem?_append_left vA];exact hj,e⟩
end
theorem lr.root(r:HT):lr [⟨r,[]⟩] where
 pos:=by simp
 nodup:=by simp [ids]
 ss:=λnd h=>by simp at h;subst h;exact List.Pairwise.nil
 up:=λi nd p h hp=>by
  cases i with
  |zero=>simp at h;subst h;simp at hp
  |succ i=>simp at h
def fg(D:DG)(h:HT)(l:List HT):Int:=
 if h∈ids D then 7 else if(dP l).length=0\/(dP l).length≠l.length then 9 else if ∃p∈dP l,p∉ids D then 6 else 0
def nP(D:DG)(h:HT)(l:List HT):DG:=if fg D h l=0 then D++ [⟨h,dP l⟩]else D
theorem mo{D:DG}{h:HT}{l:List HT}(e:fg D h l=0):h∉ids D/\l≠ []/\l.Nodup/\∀p∈dP l,p∈ids D:=by
 unfold fg at e;split at e
 ·cases e
 ·rename_i h1
  split at e
  ·cases e
  ·rename_i h2
   split at e
   ·cases e
   ·rename_i h3
    simp only [not_or,Decidable.not_not]at h2;refine⟨h1,λhl=>h2.1 (by rw [hl];rfl),tQ h2.2,λp hp=>Classical.byContradiction λhn=>h3 ⟨p,hp,hn⟩⟩
theorem lr.add{D:DG}(W:lr D)(h:HT)(l:List HT):lr (nP D h l):=by
 unfold nP;split
 ·rename_i e
  obtain⟨h1,_,_,h4⟩:=mo e;exact W.snoc h1 h4 (jL l)
 ·exact W
open Classical in
noncomputable def pick(D:DG)(is:HT->Prop):List HT:=dP ((ids D).filter λa=>decide (is a))
theorem iX{D:DG}{is:HT->Prop}{a:HT}:a∈pick D is↔a∈ids D/\is a:=by
 unfold pick;rw [dU,List.mem_filter];simp
theorem Al{D:DG}{is:HT->Prop}{l:List HT}(h:∀a,a∈l↔a∈ids D/\is a):dP l=pick D is:=FV λx=>by
 rw [h,List.mem_filter];simp
theorem mP(D:DG)(is:HT->Prop):(pick D is).length<=D.length:=by
 unfold pick;refine Nat.le_trans (oI _) (Nat.le_trans (List.length_filter_le _ _) ?_);rw [iL];exact Nat.le_refl _
noncomputable def fI(D:DG)(l:List HT):List HT:=pick D λa=>∃h∈l,fU D a h
noncomputable def fR(D:DG)(h:HT):List HT:=pick D λa=>nK D h a
noncomputable def nE(D:DG):List HT:=pick D λa=>¬∃b,nK D a b
open Go.RowKit
structure NS(w:World)(F:Nat->Prop)(A:Option Addr)(n:Nat)(l:List DN):Prop where
 len:l.length=n
 at_:∀(i:Nat) nd,l[i]? =some nd->∃a pA pn pc,A=some a/\a.block<w.heap.size/\F a.block/\Cells w (a.add (i*33)) (nd.id.1.push (.slice pA pn pc))/\HS w pA pn nd.ps/\∀b,pA=some b->F b.block
section
variable{w w':World}{F F' S:Nat->Prop}{A:Option Addr}{n:Nat}{l:List DN}
theorem NS.aN(h:NS w F A n l)(hk:Kept S w w')(hn:∀k,F k->¬S k):NS w' F A n l:=⟨h.len,λi nd hi=>by
 obtain⟨a,pA,pn,pc,h1,h2,h3,h4,h5,h6⟩:=h.at_ i nd hi;exact⟨a,pA,pn,pc,h1,Nat.lt_of_lt_of_le h2 hk.size,h3,Cells.aN h4 hk (by rw [fY];exact hn _ h3),h5.aN hk (λb hb=>hn _ (h6 b hb)),h6⟩⟩
theorem NS.mono(h:NS w F A n l)(hf:∀k,F k->F' k):NS w F' A n l:=⟨h.len,λi nd hi=>by
 obtain⟨a,pA,pn,pc,h1,h2,h3,h4,h5,h6⟩:=h.at_ i nd hi;exact⟨a,pA,pn,pc,h1,h2,hf _ h3,h4,h5,λb hb=>hf _ (h6 b hb)⟩⟩
theorem wH{h:HT}{v:Value}{j:Nat}{u:Value}(hj:h.1[j]? =some u):(h.1.push v)[j]? =some u:=by
 have dD:=(Array.getElem?_eq_some_iff.1 hj).1;rw [Array.getElem?_push,if_neg (by omega),hj]
theorem rV(h:HT)(v:Value):(h.1.push v)[32]? =some v:=by
 have:=h.2.1;rw [Array.getElem?_push,if_pos (by omega)]
theorem NS.id(h:NS w F A n l){i:Int}{nd:DN}(h0:0<=i)(hx:l[i.toNat]? =some nd){k:Array Value->Prop}(hk:k nd.id.1):
 (0<=i/\i<(n:Int))/\Is A λa=>∃t:Array Value,(t.size=32/\Cells w ((a.add (i.toNat*33)).add 0) t)/\k t:=by
 obtain⟨a,pA,pn,pc,rfl,_,_,h4,_,_⟩:=h.at_ _ nd hx;have:=(lgeS hx).1;have:=h.len;refine⟨⟨h0,by omega⟩,nd.id.1,⟨nd.id.2.1,λj v hj=>?_⟩,hk⟩;rw [add_zero];exact h4 j v (wH hj)
theorem NS.ps(h:NS w F A n l){i:Int}{nd:DN}(h0:0<=i)(hx:l[i.toNat]? =some nd){k:Option Addr->Nat->Nat->Prop}(hk:∀pA pn pc,HS w pA pn nd.ps->(∀b,pA=some b->F b.block)->k pA pn pc):
 (0<=i/\i<(n:Int))/\Is A λa=>∃pA pn pc,w.cell? ((a.add (i.toNat*33)).add 32)=some (.slice pA pn pc)/\k pA pn pc:=by
 obtain⟨a,pA,pn,pc,rfl,_,_,h4,h5,h6⟩:=h.at_ _ nd hx;have:=(lgeS hx).1;have:=h.len;exact⟨⟨h0,by omega⟩,pA,pn,pc,h4 32 _ (rV _ _),hk _ _ _ h5 h6⟩
theorem NS.cells(h:NS w F A n l):∀k,k<=n->∃news:List Value,news.length=k*33/\(∀a,A=some a->∀j u,news[j]? =some u->w.cell? (a.add j)=some u)/\(∀u∈news,u.oneCell'=true)/\
 ∀(i:Nat) nd,i<k->l[i]? =some nd->∃pA pn pc,HS w pA pn nd.ps/\(∀b,pA=some b->F b.block)/\∀(j:Nat) v,(nd.id.1.push (.slice pA pn pc))[j]? =some v->news[i*33+j]? =some v
 |0,_=>⟨[],rfl,by simp,by simp,by intro i nd hi;omega⟩
 |k+1,hk=>by
  obtain⟨news,e1,e2,e3,e4⟩:=h.cells k (by omega);have hlen:=h.len;obtain⟨nd,fE⟩:∃nd,l[k]? =some nd:=⟨_,List.getElem?_eq_getElem (by omega)⟩;obtain⟨a,pA,pn,pc,hA,h2,h3,h4,h5,h6⟩:=h.at_ _ nd fE;have nS:(nd.id.1.push (.slice pA pn pc)).size=33:=by rw [Array.size_push,nd.id.2.1]
  refine⟨news++(nd.id.1.push (.slice pA pn pc)).toList,by rw [List.length_append,e1,Array.length_toList,nS];omega,λa' AP j u hj=>?_,λu hu=>?_,λi md hi zF=>?_⟩
  ·rw [List.getElem?_append]at hj
   split at hj
   ·exact e2 a' AP j u hj
   ·rename_i gE
    rw [hA]at AP;cases AP;have:=h4 (j-news.length) u (by rw [<-Array.getElem?_toList];exact hj)
    rwa [mZ,show k*33+(j-news.length)=j by omega]at this
  ·rw [List.mem_append]at hu
   rcases hu with hu|hu
   ·exact e3 u hu
   ·simp only [Array.toList_push,List.mem_append,List.mem_singleton]at hu
    rcases hu with hu|rfl
    ·exact nd.id.2.one u hu
    ·rfl
  ·by_cases hik:i<k
   ·obtain⟨qA,qn,qc,f1,f2,f3⟩:=e4 i md hik zF
    exact⟨qA,qn,qc,f1,f2,λj v hj=>by
     have:=f3 j v hj;rw [List.getElem?_append_left (lgeS this).1];exact this⟩
   ·have:i=k:=by omega
    subst this;rw [fE]at zF;cases zF;exact⟨pA,pn,pc,h5,h6,λj v hj=>by
     rw [List.getElem?_append_right (by omega),e1,show i*33+j-i*33=j by omega,Array.getElem?_toList];exact hj⟩
theorem z8:Bu prog dB cI 33 56:=⟨by kernel_rfl,by kernel_rfl⟩
theorem GW:U8 prog cI=some ([(0,32),(32,1)],List.replicate 32 (.int .u8 0)++ [.slice none 0 0]):=by kernel_rfl
theorem IM(h:HT)(A:Option Addr)(n c:Nat):prog.built cI [(0,.agg h.1),(1,.slice A n c)]=some (h.1.push (.slice A n c)):=by
 have hs:=h.2.1;rw [pC GW,j0 (off:=0) (size:=32) rfl (by simpa [Value.cells]using hs) (by simp),j0 (off:=32) (size:=1) rfl rfl (by
  rw [List.size_toArray,nV (by simp [Value.cells,hs])];simp)]
 simp only [Instr.fill,Option.some.injEq];apply Array.ext';unfold jl;simp [Value.cells,hs]
structure vK(w:World)(F:Nat->Prop)(r:Nat)(D:DG):Prop where
 ex:∃(A:Option Addr) (c:Nat) (cs:Array Value) (t:TypeId),w.heap[r]? =some (.cells cs t (0,0))/\cs[0]? =some (.slice A D.length c)/\NS w F A D.length D
 jD:¬F r
theorem vK.aN{r:Nat}{D:DG}(h:vK w F r D)(hk:Kept S w w')(hr:¬S r)(hn:∀k,F k->¬S k):vK w' F r D:=by
 obtain⟨A,c,cs,t,h1,h0,h2⟩:=h.ex;exact⟨⟨A,c,cs,t,hk.heap h1 hr,h0,h2.aN hk hn⟩,h.jD⟩
theorem vK.same{r:Nat}{D:DG}(h:vK w F r D)(hk:Kept Nil w w'):vK w' F r D:=h.aN hk (λh=>h) (λ_ _ h=>h)
theorem vK.lt{r:Nat}{D:DG}(h:vK w F r D):r<w.heap.size:=by obtain⟨A,c,cs,t,h1,_⟩:=h.ex;exact bt h1
theorem vK.go{r:Nat}{D:DG}(h:vK w F r D){k:Option Addr->Nat->Nat->Prop}(hk:∀A c,NS w F A D.length D->k A D.length c):
 ∃A n m,w.cell? ((⟨r,0,none⟩:Addr).add 0)=some (.slice A n m)/\k A n m:=by
 obtain⟨A,c,cs,t,h1,h0,h2⟩:=h.ex;exact⟨A,_,c,by rw [add_zero,aI h1];exact h0,hk A c h2⟩
theorem vK.go'{r:Nat}{D:DG}(h:vK w F r D)(kw:Kept Nil w w'){k:Option Addr->Nat->Nat->Prop}(hk:∀A c,NS w F A D.length D->k A D.length c):
 ∃A n m,w'.cell? ((⟨r,0,none⟩:Addr).add 0)=some (.slice A n m)/\k A n m:=by
 obtain⟨A,c,cs,t,h1,h0,h2⟩:=h.ex;exact⟨A,_,c,by rw [add_zero,aI (kw.heap h1 (λh=>h))];exact h0,hk A c h2⟩
theorem NS.ps'(h:NS w F A n l)(kw:Kept Nil w w'){i:Int}{nd:DN}(h0:0<=i)(hx:l[i.toNat]? =some nd){k:Option Addr->Nat->Nat->Prop}(hk:∀pA pn pc,HS w pA pn nd.ps->k pA pn pc):
 (0<=i/\i<(n:Int))/\Is A λa=>∃pA pn pc,w'.cell? ((a.add (i.toNat*33)).add 32)=some (.slice pA pn pc)/\k pA pn pc:=by
 obtain⟨a,pA,pn,pc,rfl,_,_,h4,h5,h6⟩:=h.at_ _ nd hx;have:=(lgeS hx).1;have:=h.len;exact⟨⟨h0,by omega⟩,pA,pn,pc,(kw.cell (h4 32 _ (rV _ _)) (λh=>h)),hk _ _ _ h5⟩
def IS(D:DG)(h:HT):Int:=match pos h (ids D) 0 with|some j=>(j:Int)|none=> -1
theorem qd{D:DG}{h:HT}:IS D h<0↔h∉ids D:=by
 unfold IS;rw [<-qX (l:=ids D) (i:=0)];cases hp:pos h (ids D) 0<;>simp
theorem uZ{D:DG}{h:HT}:IS D h>=0↔h∈ids D:=by
 have:= @qd D h;constructor
 ·intro hg;exact Classical.byContradiction λhn=>by have:=this.2 hn;omega
 ·intro hm;exact Classical.byContradiction λhn=>this.1 (by omega) hm
theorem OW{D:DG}{h:HT}(hm:h∈ids D):∃nd,IS D h>=0/\D[(IS D h).toNat]? =some nd/\nd.id=h:=by
 have h1:=uZ.2 hm;unfold IS at*;cases hp:pos h (ids D) 0 with
 |none=>rw [hp]at h1;simp at h1
 |some j=>
  obtain⟨_,h2⟩:=wI hp;obtain⟨nd,h3,h4⟩:=KD h2;exact⟨nd,by simp,by simpa using h3,h4⟩
theorem AI{D:DG}{i:Nat}{nd:DN}(h:D[i]? =some nd):(ids D).take (i+1)=(ids D).take i++ [nd.id]:=by
 rw [List.take_add_one,oK h];rfl
theorem zi{h:HT}:∀ {l:List HT} {i k:Nat},h∉l.take k->l[k]? =some h->pos h l i=some (i+k)
 | [],_,_,_,e=>by simp at e
 |x::l,i,0,_,e=>by
  simp only [List.getElem?_cons_zero,Option.some.injEq]at e;unfold pos;rw [if_pos e.symm,Nat.add_zero]
 |x::l,i,k+1,hn,e=>by
  simp only [List.getElem?_cons_succ]at e;rw [List.take_succ_cons,List.mem_cons,not_or]at hn;unfold pos;rw [if_neg hn.1,zi (i:=i+1) hn.2 e]
  congr 1
  omega
variable{r:Nat}{D:DG}{K:Value->World->Prop}
theorem pR(H:vK w F r D)(hD:D.length<=1000000)(h:HT)(hK:∀w',Kept Nil w w'->K (.int .i64 (IS D h)) w'):
 bJ prog b0.id #[.pointer (some ⟨r,0,none⟩),.agg h.1] w K:=by
 refine b0.of ?_;unfold b0.W;intro w3;have k3:Kept Nil w w3:=(Kept.refl Nil w).alloc _;have qy:w3.heap[w.heap.size]? =some (.cells h.1 ai (0,0)):=aO w _;clear_value w3;refine b0.cP (I:=λs w'=>∃i:Nat,s=(0,(i:Int))/\i<=D.length/\Kept Nil w3 w'/\h∉(ids D).take i) (μ:=λs _=>((D.length:Int)-s.2).toNat) (s:=(0,0)) ⟨0,rfl,Nat.zero_le _,Kept.refl _ _,by simp⟩ ?_;rintro s w' ⟨i,rfl,hi,kw,ns⟩;have kk:Kept Nil w w':=k3.tt kw;refine(H.same kk).go λA c uu=>?_;refine Split.dec (λjT=>?_) (λgE=>?_)
 ·simp only at jT
  have eA:i<D.length:=by omega
  obtain⟨nd,fE⟩:∃nd,D[i]? =some nd:=⟨_,List.getElem?_eq_getElem eA⟩;intro w10;have oV:Kept Nil w3 w10:=kw.drew;have HX:Kept Nil w w10:=k3.tt oV;clear_value w10;refine(H.same HX).go λA c uu=>?_;refine uu.id (i:=(i:Int)) (by omega) (by rw [Int.toNat_natCast];exact fE) ⟨h.1,⟨h.2.1,Cells.bX (oV.heap qy (λh=>h))⟩,⟨nd.id.2.ints,h.2.ints⟩,?_⟩;rw [dQ];refine Split.dec (λhe=>?_) (λhe=>?_)
  ·have:=hK w10 HX
   unfold IS at this;rw [zi (i:=0) ns (by rw [<-he];exact oK fE),Nat.zero_add]at this;exact this
  ·simp only
   rw [dO (n:=(i:Int)) (by omega) (by omega)];refine⟨(0,(i:Int)+1),rfl,⟨i+1,rfl,eA,oV,?_⟩,by simp only;omega⟩;rw [AI fE,List.mem_append,List.mem_singleton,not_or];exact⟨ns,λe=>he e.symm⟩
 ·simp only at gE
  rw [bg,b0.dJ];rw [List.take_of_length_le (by rw [iL];omega)]at ns;have:=hK w' kk;unfold IS at this;rw [qX.2 ns]at this;exact this
end
section
variable{w w':World}{F F' S:Nat->Prop}{A:Option Addr}{n c B:Nat}{l:List DN}{news:List Value}{r:Nat}{D:DG}{K:Value->World->Prop}
theorem HM(h:Row w B cI 33 A n c news)(hl:l.length=n)(hF:∀k,bL A=some k->F k)
 (hc:∀(i:Nat) nd,l[i]? =some nd->∃pA pn pc,HS w pA pn nd.ps/\(∀b,pA=some b->F b.block)/\∀(j:Nat) v,(nd.id.1.push (.slice pA pn pc))[j]? =some v->news[i*33+j]? =some v):NS w F A n l:=
 ⟨hl,λi nd hi=>by
   obtain⟨pA,pn,pc,h1,h2,h3⟩:=hc i nd hi;have:=(lgeS hi).1;obtain⟨b,rfl⟩:=Row.some h (by omega);obtain⟨_,cur,o5⟩:=Row.bX h (k:=b) rfl;exact⟨_,pA,pn,pc,rfl,bt o5,hF b rfl,λj v hj=>by rw [mZ];exact Row.cells h _ _ (h3 j v hj),h1,h2⟩⟩
theorem zV(h:NS w F A n l){cx:Nat}(h0:0<n)(hn:n<=100000):
 ∃A' c' w' news,(Builtin.append_ #[dB,dB] dB #[.slice none 0 0,.slice A n cx]).run prog w=.ok (.slice A' n c') w'/\
  Row w' w.heap.size cI 33 A' n c' news/\Kept Nil w w'/\
  ∀(i:Nat) nd,l[i]? =some nd->∃pA pn pc,HS w pA pn nd.ps/\(∀b,pA=some b->F b.block)/\∀(j:Nat) v,(nd.id.1.push (.slice pA pn pc))[j]? =some v->news[i*33+j]? =some v:=by
 obtain⟨news,e1,e2,e3,e4⟩:=h.cells n (Nat.le_refl _);have hlen:=h.len;obtain⟨nd,fE⟩:∃nd,l[0]? =some nd:=⟨_,List.getElem?_eq_getElem (by omega)⟩;obtain⟨a,_,_,_,rfl,_⟩:=h.at_ _ nd fE;obtain⟨A',c',w',hr,gL,hg,hb⟩:=gU (P:=prog) (t:=dB) (ty:=dB) (bytes:=56) z8 (Row.nil w w.heap.size _ _) (a:=a) (m:=n) (cx:=cx) (news:=news) e1 (e2 a rfl) e3 (by omega) (by unfold maxLen;omega) (Nat.le_refl _);rw [Nat.zero_add]at hr gL;rw [List.nil_append]at gL;exact⟨A',c',w',news,hr,gL,Kept.dY (Kept.refl _ _) hg (λk hk=>by cases hk),λi nd hi=>e4 i nd (by have:=(lgeS hi).1;omega) hi⟩
theorem zW(h:Row w B cI 33 A n c news)(hn:n<=100000)(hB:B<=w.heap.size){b:Nat}{arr:Array Value}(hb:w.heap[b]? =some (.cells arr cI (0,0)))(hs:arr.size=33)(h1:∀u∈arr.toList,u.oneCell'=true):
 ∃A' c' w',(Builtin.append_ #[dB,dB] dB #[.slice A n c,.slice (some ⟨b,0,none⟩) 1 1]).run prog w=.ok (.slice A' (n+1) c') w'/\
  Row w' B cI 33 A' (n+1) c' (news++arr.toList)/\w.grownBy w' (bL A):=by
 obtain⟨A',c',w',hr,gL,hg,hb⟩:=gU (P:=prog) (t:=dB) (ty:=dB) (bytes:=56) z8 h (a:=⟨b,0,none⟩) (m:=1) (cx:=1) (news:=arr.toList) (by simpa using hs)
  (λj u hj=>by rw [bO,Nat.zero_add,aI hb];simpa using hj) h1 (by omega) (by unfold maxLen;omega) hB
 exact⟨A',c',w',hr,gL,hg⟩
theorem M0{nd:DN}{pA:Option Addr}{pn pc:Nat}(h:Row w B cI 33 A (n+1) c (news++(nd.id.1.push (.slice pA pn pc)).toList))(Bq:news.length=n*33)(hl:l.length=n)(hF:∀k,bL A=some k->F k)
 (hc:∀(i:Nat) nd,l[i]? =some nd->∃pA pn pc,HS w pA pn nd.ps/\(∀b,pA=some b->F b.block)/\∀(j:Nat) v,(nd.id.1.push (.slice pA pn pc))[j]? =some v->news[i*33+j]? =some v)
 (hp:HS w pA pn nd.ps) (Mp:∀b,pA=some b->F b.block):NS w F A (n+1) (l++ [nd]):=by
 refine HM h (by simp [hl]) hF λi md hi=>?_;rw [List.getElem?_append]at hi;split at hi
 ·obtain⟨qA,qn,qc,h1,h2,h3⟩:=hc i md hi
  exact⟨qA,qn,qc,h1,h2,λj v hj=>by
   have:=h3 j v hj;rw [List.getElem?_append_left (lgeS this).1];exact this⟩
 ·rename_i gE
  have Iq:i=n/\md=nd:=by
   cases hk:i-l.length with
   |zero=>rw [hk]at hi;exact⟨by omega,by simpa using hi.symm⟩
   |succ k=>rw [hk]at hi;simp at hi
  obtain⟨rfl,rfl⟩:=Iq;exact⟨pA,pn,pc,hp,Mp,λj v hj=>by
   rw [List.getElem?_append_right (by omega),Bq,show i*33+j-i*33=j by omega,Array.getElem?_toList];exact hj⟩
theorem NS.same(h:NS w F A n l)(hk:Kept Nil w w'):NS w' F A n l:=h.aN hk λ_ _ h=>h
theorem vK.mono(h:vK w F r D)(hf:∀k,F k->F' k)(hr:¬F' r):vK w F' r D:=by
 obtain⟨A,c,cs,t,h1,h0,h2⟩:=h.ex;exact⟨⟨A,c,cs,t,h1,h0,h2.mono hf⟩,hr⟩
theorem B7(h:HT)(A:Option Addr)(n c:Nat):∀u∈(h.1.push (.slice A n c)).toList,u.oneCell'=true:=λu hu=>by
 simp only [Array.toList_push,List.mem_append,List.mem_singleton]at hu;rcases hu with hu|rfl
 ·exact h.2.one u hu
 ·rfl
theorem Ga(H:vK w F r D)(W:lr D)(hD:D.length<=10000){h:HT}{lp:List HT}{A:Option Addr}{n c:Nat}(hl:HS w A n lp)(hn:n<=400000)
 (hK:∀w',vK w' (λk=>F k\/(w.heap.size<=k/\k<w'.heap.size)) r (nP D h lp)->Kept (· =r) w w'->K (.int .i64 (fg D h lp)) w'):
 bJ prog bW.id #[.pointer (some ⟨r,0,none⟩),.agg h.1,.slice A n c] w K:=by
 have adF:=H.lt;have hlen:=hl.len;have ns:∀w',Kept Nil w w'->∀e,fg D h lp=e->e≠0->K (.int .i64 e) w':=λw' k e he gQ=>by
  have:=hK w' ?_ (k.mono λ_ _ h=>h.elim)
  ·rw [he]at this;exact this
  ·unfold nP
   rw [if_neg (by rw [he];exact gQ)];exact(H.same k).mono (λ_ h=>.inl h) (λe=>e.elim H.jD (λh=>absurd h.1 (by omega)))
 refine bW.of ?_;unfold bW.W;intro w4;have k4:Kept Nil w w4:=(Kept.refl _ _).alloc _;have vB:w4.heap[w.heap.size]? =some (.cells h.1 ai (0,0)):=aO w _;clear_value w4;refine⟨h.1,⟨h.2.1,Cells.bX vB⟩,pR (H.same k4) (by omega) h λw7 k7=>⟨_,rfl,Split.dec (λgE=>?_) (λSK=>?_)⟩⟩
 ·refine ns w7 (k4.tt k7) 7 ?_ (by omega)
  unfold fg;rw [if_pos (uZ.1 gE)]
 have AN:h∉ids D:=λhm=>SK (uZ.2 hm);have Ei:Kept Nil w w7:=k4.tt k7;refine og (hl.same Ei) hn λDD GR w10 vn oV=>⟨DD,_,GR,rfl,?_⟩;have HX:Kept Nil w w10:=Ei.tt oV;have Ew:(dP lp).length<=n:=by have:=oI lp;omega
 by_cases h0:(dP lp).length=0
 ·refine Split.yes (by simp [h0]) ?_
  refine ns w10 HX 9 ?_ (by omega);unfold fg;rw [if_neg AN,if_pos (.inl h0)]
 refine Split.no (beq_eq_false_iff_ne.2 (by omega)) ?_;by_cases h1:(dP lp).length≠n
 ·refine Split.yes (bne_iff_ne.2 (by omega)) ?_
  refine ns w10 HX 9 ?_ (by omega);unfold fg;rw [if_neg AN,if_pos (.inr (by omega))]
 replace h1:(dP lp).length=n:=by omega
 refine Split.no (by rw [h1];simp) ?_;refine bW.cP (I:=λs w'=>∃i:Nat,s=(0,(i:Int))/\i<=(dP lp).length/\(∀p∈(dP lp).take i,p∈ids D)/\Kept Nil w10 w') (μ:=λs _=>(((dP lp).length:Int)-s.2).toNat) (s:=(0,0)) ⟨0,rfl,Nat.zero_le _,by simp,Kept.refl _ _⟩ ?_;rintro s w' ⟨i,rfl,hi,dr,kw⟩;have kk:Kept Nil w w':=HX.tt kw;have acm:bY w' w7.heap.size DD (dP lp).length GR (dP lp):=Row.aN vn kw (λ_ _ h=>h);refine Split.dec (λjT=>?_) (λgE=>?_)
 ·simp only at jT
  have eA:i<(dP lp).length:=by omega
  obtain⟨x,hx⟩:∃x,(dP lp)[i]? =some x:=⟨_,List.getElem?_eq_getElem eA⟩;refine acm.hs.load (i:=(i:Int)) (by omega) hx (pR (H.same kk) (by omega) x λw2 k2=>⟨_,rfl,Split.dec (λCK=>?_) (λkW=>?_)⟩)
  ·have hxn:=qd.1 CK
   refine ns w2 (kk.tt k2) 6 ?_ (by omega);unfold fg;rw [if_neg AN,if_neg (by omega),if_pos ⟨x,List.mem_of_getElem? hx,hxn⟩]
  ·simp only
   rw [dO (n:=(i:Int)) (by omega) (by omega)];refine⟨(0,(i:Int)+1),rfl,⟨i+1,rfl,eA,λp hp=>?_,kw.tt k2⟩,by simp only;omega⟩;rcases(bV hx).1 hp with hp|rfl
   ·exact dr p hp
   ·exact uZ.1 (by omega)
 ·simp only at gE
  rw [List.take_of_length_le (by omega)]at dr;have Y7:fg D h lp=0:=by
   unfold fg;rw [if_neg AN,if_neg (by omega),if_neg (λ⟨p,hp,Mo⟩=>Mo (dr p hp))]
  have hD':nP D h lp=D++ [⟨h,dP lp⟩]:=by unfold nP;rw [if_pos Y7]
  rw [Y7,hD']at hK;have Qz:=W.pos;rw [bg,bW.dJ];unfold bW.dA;intro FL;have RC:Kept Nil w FL:=kk.drew;have Ky:Kept Nil w10 FL:=kw.drew;have alE:FL.heap=w'.heap:=rfl;clear_value FL;have Zq:FL.heap[w.heap.size]? =some (.cells h.1 ai (0,0)):=(Ky.heap (oV.heap (k7.heap vB (λh=>h)) (λh=>h)) (λh=>h));obtain⟨A,c,aoC,t27,KH,Y4,uu⟩:=(H.same RC).ex;refine⟨A,_,c,by rw [add_zero,aI KH];exact Y4,h.1,⟨h.2.1,Cells.bX Zq⟩,?_⟩;rw [IM];have nS:(h.1.push (.slice DD (dP lp).length GR)).size=33:=by rw [Array.size_push,h.2.1]
  have amG:∀ {v},Kept Nil w v->w.heap.size<=v.heap.size:=λk=>k.size;have agf:∀b,DD=some b->w.heap.size<=b.block:=λb hb=>Nat.le_trans Ei.size (Row.bX vn (k:=b.block) (by rw [hb];rfl)).1;have Oh:∀(A':Option Addr) (c':Nat) (v:World) (news:List Value),Row v FL.heap.size cI 33 A' (D.length+1) c' (news++(h.1.push (.slice DD (dP lp).length GR)).toList)->news.length=D.length*33->Kept Nil FL v->
   (∀(i:Nat) nd,D[i]? =some nd->∃pA pn pc,HS v pA pn nd.ps/\(∀b,pA=some b->F b.block)/\∀(j:Nat) u,(nd.id.1.push (.slice pA pn pc))[j]? =some u->news[i*33+j]? =some u)->
   Wr v ((⟨r,0,none⟩:Addr).add 0)/\K (.int .i64 0) (v.setCell ((⟨r,0,none⟩:Addr).add 0) (.slice A' (D.length+1) c')):=by
   intro A' c' v news gL Bq kv xy;have Rq:Kept Nil w v:=RC.tt kv;obtain⟨A0,c0,cs0,t0,kI,afj,_⟩:=(H.same Rq).ex;have P5:=(Array.getElem?_eq_some_iff.1 afj).1;rw [add_zero];have k3:Kept (· =r) v (v.setCell ⟨r,0,none⟩ (.slice A' (D.length+1) c')):=Kept.setCell (S:=λk=>k=r) (Kept.refl _ v) (p:=⟨r,0,none⟩) (λ_=>rfl) _;refine⟨eI kI P5,hK _ ⟨⟨A',c',cs0.setIfInBounds 0 (.slice A' (D.length+1) c'),t0,?_,?_,?_⟩,λe=>e.elim H.jD (λh=>absurd h.1 (by omega))⟩ ((Rq.mono (S':=λk=>k=r) (λ_ _ h=>h.elim)).tt k3)⟩
   ·rw [dL kI 0]
   ·rw [List.length_append]
    simp [P5]
   ·have vy:=k3.size
    have ZV:∀b,DD=some b->b.block<v.heap.size:=λb hb=>by
     obtain⟨_,cur,hc⟩:=Row.bX vn (k:=b.block) (by rw [hb];rfl);have:=bt hc;have:=Ky.size;have:=kv.size;omega
    have Sz:=M0 (F:=λk=>F k\/(w.heap.size<=k/\k<(v.setCell ⟨r,0,none⟩ (.slice A' (D.length+1) c')).heap.size)) (nd:=⟨h,dP lp⟩) gL Bq rfl (λk hk=>by
     obtain⟨h1,cur,hc⟩:=Row.bX gL hk;have:=bt hc;have:=RC.size;exact .inr ⟨by omega,by omega⟩) (λi nd hi=>by
     obtain⟨pA,pn,pc,h1,h2,h3⟩:=xy i nd hi;exact⟨pA,pn,pc,h1,λb hb=>.inl (h2 b hb),h3⟩) ((vn.hs.same Ky).same kv) (λb hb=>.inr ⟨agf b hb,by have:=ZV b hb;omega⟩)
    have:=Sz.aN k3 (λk hk e=>by
     subst e;rcases hk with hk|hk
     ·exact H.jD hk
     ·omega)
    rw [List.length_append];exact this
  refine⟨?_,?_⟩
  ·obtain⟨A1,c1,rP,news,oE,nv,Bk,xy⟩:=zV uu (cx:=c) Qz (by omega)
   refine⟨A1,_,c1,rP,oE,⟨h.1,rfl,h.2.1,Cells.bX (Bk.heap Zq (λh=>h))⟩,nS,?_⟩;intro oC;have adn:oC=rP.alloc (.cells (h.1.push (.slice DD (dP lp).length GR)) cI):=by
    show rP.alloc (.cells ((h.1.push (.slice DD (dP lp).length GR)).toList++ []).toArray cI)=_
    rw [List.append_nil,Array.toArray_toList]
   have yh:Kept Nil rP oC:=(Kept.refl _ _).alloc _;have Lf:oC.heap[rP.heap.size]? =some (.cells (h.1.push (.slice DD (dP lp).length GR)) cI (0,0)):=by rw [adn];exact aO rP _
   clear_value oC;have BV:=Row.aN nv yh (λ_ _ h=>h);obtain⟨A2,c2,tw,lj,iU,Ir⟩:=zW BV (by omega) (Nat.le_trans Bk.size yh.size) Lf nS (B7 _ _ _ _);have sF:Kept Nil FL tw:=Kept.dY (Bk.tt yh) Ir (λk hk=>(Row.bX nv hk).1);refine⟨A2,_,c2,tw,lj,?_⟩;exact Oh A2 c2 tw news iU (Row.len nv) sF (λi nd hi=>by
    obtain⟨pA,pn,pc,h1,h2,h3⟩:=xy i nd hi;exact⟨pA,pn,pc,h1.same sF,h2,h3⟩)
  ·refine⟨nS,?_⟩
   intro O3;have adm:O3=FL.alloc (.cells (h.1.push (.slice DD (dP lp).length GR)) cI):=by
    show FL.alloc (.cells ((h.1.push (.slice DD (dP lp).length GR)).toList++ []).toArray cI)=_
    rw [List.append_nil,Array.toArray_toList]
   have Pp:Kept Nil FL O3:=(Kept.refl _ _).alloc _;have Zo:O3.heap[FL.heap.size]? =some (.cells (h.1.push (.slice DD (dP lp).length GR)) cI (0,0)):=by rw [adm];exact aO FL _
   clear_value O3;refine⟨by rw [add_zero,aI (Pp.heap KH (λh=>h))];exact Y4,?_⟩;obtain⟨A1,c1,Vn,news,oE,nv,WI,xy⟩:=zV (uu.same Pp) (cx:=c) Qz (by omega);have Zn:=WI.heap Zo (λh=>h);obtain⟨A2,c2,Ul,lj,iU,Ir⟩:=zW nv (by omega) WI.size Zn nS (B7 _ _ _ _);have WE:Kept Nil O3 Ul:=Kept.dY WI Ir (λk hk=>(Row.bX nv hk).1);have k43:Kept Nil FL Ul:=Pp.tt WE;refine⟨A1,_,c1,Vn,oE,A2,_,c2,Ul,lj,?_⟩;exact Oh A2 c2 Ul news (Row.base iU λk hk=>Nat.le_trans Pp.size (Row.bX iU hk).1) (Row.len nv) k43 (λi nd hi=>by
    obtain⟨pA,pn,pc,h1,h2,h3⟩:=xy i nd hi;exact⟨pA,pn,pc,h1.same WE,h2,h3⟩)
end
theorem rW:∀ {l m:List HT},l.Nodup->(∀x∈l,x∈m)->l.length<=m.length
 | [],_,_,_=>Nat.zero_le _
 |x::l,m,hn,h=>by
  rw [List.nodup_cons]at hn;have hx:=h x (by simp);have:=rW (l:=l) (m:=m.erase x) hn.2 (λy hy=>by
   have gQ:y≠x:=λe=>hn.1 (e▸hy);exact(List.mem_erase_of_ne gQ).2 (h y (by simp [hy])))
  rw [List.length_erase_of_mem hx]at this;have kW:0<m.length:=List.length_pos_of_mem hx;simp only [List.length_cons];omega
structure PB(w0 w':World)(D:DG)(l out:List HT)(A1:Option Addr)(c1:Nat)(A2:Option Addr)(c2:Nat):Prop where
 r1:bY w' w0.heap.size A1 out.length c1 out
 r2:bY w' w0.heap.size A2 (l.length+out.length) c2 (l++out)
 ap:∀k,bL A1=some k->bL A2≠some k
 nd:out.Nodup
 IV:∀x∈out,∃h∈l,fU D x h
 kp:Kept Nil w0 w'
section
variable{w w' mN:World}{F S:Nat->Prop}{D:DG}{l out:List HT}{A1 A2:Option Addr}{c1 c2 r:Nat}{K:Value->World->Prop}
theorem PB.same(h:PB w w' D l out A1 c1 A2 c2)(k:Kept Nil w' mN):PB w mN D l out A1 c1 A2 c2:=
 ⟨Row.aN h.r1 k (λ_ _ h=>h),Row.aN h.r2 k (λ_ _ h=>h),h.ap,h.nd,h.IV,h.kp.tt k⟩
theorem PB.len(h:PB w w' D l out A1 c1 A2 c2)(W:lr D):out.length<=D.length:=by
 rw [<-iL D];exact rW h.nd λx hx=>by obtain⟨_,_,ha⟩:=h.IV x hx;exact(ha.mem W).1
theorem jy(w:World)(x:HT):HS (w.alloc (.cells (x.1.toList++ []).toArray ai)) (some ⟨w.heap.size,0,none⟩) 1 [x]:=by
 refine HS.one (t:=ai) (fr:=(0,0)) ?_;rw [List.append_nil,Array.toArray_toList];exact aO w _
theorem PB.add(h:PB w w' D l out A1 c1 A2 c2){x:HT}(hx:x∉out)(ha:∃h∈l,fU D x h)(hb:l.length+out.length<=500000):
 ∃L6 OS v,(Builtin.append_ #[aH,aH] aH #[.slice A1 out.length c1,.slice (some ⟨w'.heap.size,0,none⟩) 1 1]).run prog (w'.alloc (.cells (x.1.toList++ []).toArray ai))=.ok (.slice L6 (out.length+1) OS) v/\Kept (λk=>w.heap.size<=k) w' v/\
 ∃Jj Fq u,(Builtin.append_ #[aH,aH] aH #[.slice A2 (l.length+out.length) c2,.slice (some ⟨v.heap.size,0,none⟩) 1 1]).run prog (v.alloc (.cells (x.1.toList++ []).toArray ai))=.ok (.slice Jj (l.length+out.length+1) Fq) u/\
  PB w u D l (out++ [x]) L6 OS Jj Fq:=by
 have hkw:=h.kp.size;have k1:Kept Nil w' (w'.alloc (.cells (x.1.toList++ []).toArray ai)):=(Kept.refl _ _).alloc _;have vN:=jy w' x;generalize w'.alloc (.cells (x.1.toList++ []).toArray ai)=w1 at k1 vN⊢;have r1:bY w1 w.heap.size A1 out.length c1 out:=Row.aN h.r1 k1 (λ_ _ h=>h);have adE:=k1.size;obtain⟨L6,OS,v,oE,nv,hg1,Bs⟩:=dp (cx:=1) aH r1 vN (by omega) (by omega);have kv1:Kept (λk=>bL A1=some k) w1 v:=Kept.grown (Kept.refl _ _) hg1 (λk hk _=>hk);have hA1:∀k,bL A1=some k->w.heap.size<=k/\k<w'.heap.size:=λk hk=>by
  obtain⟨h1,cur,hc⟩:=Row.bX h.r1 hk;exact⟨h1,bt hc⟩
 have ZU:∀k,bL A2=some k->w.heap.size<=k/\k<w'.heap.size:=λk hk=>by
  obtain⟨h1,cur,hc⟩:=Row.bX h.r2 hk;exact⟨h1,bt hc⟩
 have kv:Kept (λk=>w.heap.size<=k) w' v:=(k1.mono (λ_ _ h=>h.elim)).trans kv1 (λk _ e=>(hA1 k e).1);refine⟨L6,OS,v,oE,kv,?_⟩;have k2:Kept Nil v (v.alloc (.cells (x.1.toList++ []).toArray ai)):=(Kept.refl _ _).alloc _;have zD:=jy v x;generalize v.alloc (.cells (x.1.toList++ []).toArray ai)=w2 at k2 zD⊢;have r2v:bY v w.heap.size A2 (l.length+out.length) c2 (l++out):=Row.aN (Row.aN h.r2 k1 (λ_ _ h=>h)) kv1 (λk hk e=>h.ap k e hk);have r2:bY w2 w.heap.size A2 (l.length+out.length) c2 (l++out):=Row.aN r2v k2 (λ_ _ h=>h);have Sf:=kv1.size;have al8:=k2.size;obtain⟨Jj,Fq,u,lj,iU,Ir,oN⟩:=dp (cx:=1) aH r2 zD (by omega) (by omega);have ku:Kept (λk=>bL A2=some k) w2 u:=Kept.grown (Kept.refl _ _) Ir (λk hk _=>hk);have age:∀k,bL L6=some k->k<v.heap.size:=λk hk=>by
  obtain⟨_,cur,hc⟩:=Row.bX nv hk;exact bt hc
 have Zw:∀k,bL L6=some k->bL A2≠some k:=λk hk e=>by
  rcases Bs k hk with h'|h'
  ·exact h.ap k h' e
  ·have:=(ZU k e).2;omega
 have VK:bY u w.heap.size L6 (out.length+1) OS (out++ [x]):=Row.aN (Row.aN nv k2 (λ_ _ h=>h)) ku (λk hk e=>Zw k hk e);refine⟨Jj,Fq,u,lj,?_⟩;refine⟨?_,?_,λk hk e=>?_,?_,λy hy=>?_,?_⟩
 ·rw [List.length_append];exact VK
 ·rw [List.length_append,<-List.append_assoc,List.length_singleton,<-Nat.add_assoc];exact iU
 ·rcases oN k e with h'|h'
  ·exact Zw k hk h'
  ·have:=age k hk;omega
 ·rw [List.nodup_append]
  exact⟨h.nd,by simp,λu hu v hv e=>hx (by rw [List.mem_singleton]at hv;rw [<-hv,<-e];exact hu)⟩
 ·rw [List.mem_append,List.mem_singleton]at hy
  rcases hy with hy|rfl
  ·exact h.IV y hy
  ·exact ha
 ·exact((h.kp.trans kv (λk hk e=>absurd hk (by omega))).tt k2).trans ku (λk hk e=>absurd (ZU k e).1 (by omega))
theorem HI(W:lr D){l out:List HT}(ha:∀x∈out,∃h∈l,fU D x h)(hc:∀h∈l++out,∀p,nK D p h->p∈out):dP out=fI D l:=by
 refine Al λa=>⟨λh=>?_,λ⟨_,h,hl,han⟩=>?_⟩
 ·obtain⟨b,hb,mK⟩:=ha a h
  exact⟨(mK.mem W).1,b,hb,mK⟩
 ·have key:∀ {a h},fU D a h->h∈l++out->a∈out:=by
   intro a h han
   induction han with
   |one hp=>exact λhm=>hc _ hm _ hp
   |more _ hp ih=>exact λhm=>ih (by rw [List.mem_append];exact .inr (hc _ hm _ hp))
  exact key han (by rw [List.mem_append];exact .inl hl)
theorem BZ(H:vK w F r D)(W:lr D)(hD:D.length<=10000){A:Option Addr}{n c:Nat}(hl:HS w A n l)(hn:n<=10000)
 (hK:∀A' c' w',bY w' w.heap.size A' (fI D l).length c' (fI D l)->Kept Nil w w'->K (.slice A' (fI D l).length c') w'):
 bJ prog aR.id #[.pointer (some ⟨r,0,none⟩),.slice A n c] w K:=by
 refine aR.of ?_;unfold aR.W;have hlen:=hl.len;obtain⟨A4,c4,w4,zE,lh,GI,vB⟩:=dp (cx:=c) aH (bY.nil w w.heap.size) hl (by omega) (Nat.le_refl _);rw [Nat.zero_add]at zE lh;rw [List.nil_append]at lh;have k4:Kept Nil w w4:=Kept.dY (Kept.refl _ _) GI (λk hk=>by cases hk);refine⟨A4,n,c4,w4,zE,?_⟩;refine aR.cP (I:=λs w'=>∃(i:Nat) (out:List HT) (A1:Option Addr) (c1:Nat) (A2:Option Addr) (c2:Nat),s=(A1,out.length,c1,A2,n+out.length,c2,(i:Int))/\PB w w' D l out A1 c1 A2 c2/\i<=n+out.length/\∀h∈(l++out).take i,∀p,nK D p h->p∈out)
  (μ:=λs _=>((n:Int)+D.length-s.2.2.2.2.2.2).toNat) (s:=(none,0,0,A4,n,c4,0))
  ⟨0,[],none,0,A4,c4,by simp,⟨bY.nil _ _,by simpa [hlen]using lh,(λk hk=>by cases hk),List.Pairwise.nil,by simp,k4⟩,by omega,by simp⟩ ?_
 rintro s w' ⟨i,out,A1,c1,A2,c2,rfl,vP,hi,tB⟩;have hol:=vP.len W;have lj:=vP.r2;rw [hlen]at lj;refine Split.dec (λjT=>?_) (λgE=>?_)
 ·simp only at jT
  have eA:i<n+out.length:=by omega
  obtain⟨h,hh⟩:∃h,(l++out)[i]? =some h:=⟨_,List.getElem?_eq_getElem (by simp;omega)⟩;refine lj.hs.load (i:=(i:Int)) (by omega) hh (pR (H.same vP.kp) (by omega) h λoD Cz=>⟨_,rfl,Split.dec (λCK=>?_) (λkW=>?_)⟩)
  ·simp only
   rw [dO (n:=(i:Int)) (by omega) (by omega)];refine⟨(A1,out.length,c1,A2,n+out.length,c2,(i:Int)+1),rfl,⟨i+1,out,A1,c1,A2,c2,rfl,vP.same Cz,by omega,λx hx p hp=>?_⟩,by simp only;omega⟩;rcases(bV hh).1 hx with hx|rfl
   ·exact tB x hx p hp
   ·exact absurd (fU.mem W (.one hp)).2 (qd.1 CK)
  ·have jx:h∈ids D:=uZ.1 (by omega)
   obtain⟨nd,h1,h2,h3⟩:=OW jx;have Gv:=vP.same Cz;have H13:=H.same Gv.kp;have EX:∃b∈l,h=b\/fU D h b:=by
    have hm:=List.mem_of_getElem? hh;rw [List.mem_append]at hm;rcases hm with hm|hm
    ·exact⟨h,hm,.inl rfl⟩
    ·obtain⟨b,hb,mK⟩:=vP.IV h hm
     exact⟨b,hb,.inr mK⟩
   have mu:∀p,nK D p h↔p∈nd.ps:=λp=>by
    constructor
    ·rintro⟨md,zF,e,hp⟩
     obtain⟨j,hj⟩:=List.mem_iff_getElem?.1 zF;have:=W.inj hj h2 (by rw [e,h3]);subst this;rw [h2]at hj;cases hj;exact hp
    ·exact λhp=>⟨nd,List.mem_of_getElem? h2,h3,hp⟩
   have rZ:nd.ps.length<=D.length:=by
    rw [<-iL D];exact rW (W.ss nd (List.mem_of_getElem? h2)).nodup λx hx=>(fU.mem W (.one ((mu x).2 hx))).1
   refine H.go' Gv.kp λA c uu=>uu.ps' Gv.kp h1 h2 λpA pn pc qJ=>?_;have Mo:=qJ.len;refine aR.iY (I:=λs w'=>∃(k:Nat) (oT:List HT) (A1:Option Addr) (c1:Nat) (A2:Option Addr) (c2:Nat),s=(A1,oT.length,c1,A2,n+oT.length,c2,(k:Int))/\PB w w' D l oT A1 c1 A2 c2/\k<=pn/\(∃m,oT=out++m)/\(∀p∈nd.ps.take k,p∈oT))
    (μ:=λs _=>((pn:Int)-s.2.2.2.2.2.2).toNat) (s:=(A1,out.length,c1,A2,n+out.length,c2,0)) ⟨0,out,A1,c1,A2,c2,rfl,Gv,Nat.zero_le _,⟨[],by simp⟩,by simp⟩ ?_
   rintro s w1 ⟨k,oT,B1,d1,B2,d2,rfl,hq,hk,⟨m,hm⟩,gD⟩;have amp:=hq.len W;refine Split.dec (λS5=>?_) (λTb=>?_)
   ·simp only at S5
    have EI:k<pn:=by omega
    obtain⟨p,hp⟩:∃p,nd.ps[k]? =some p:=⟨_,List.getElem?_eq_getElem (by omega)⟩;have XE:=List.mem_of_getElem? hp;refine(qJ.same hq.kp).load (i:=(k:Int)) (by omega) hp (uG p hq.r1.hs (by simp only;omega) λyf sE=>⟨_,rfl,?_⟩);have NO:=hq.same sE;have aml:(nd.ps.length:Int)<=10000:=by omega
    by_cases sn:p∈oT
    ·refine Split.no (by rw [decide_eq_true sn];rfl) ?_
     simp only;rw [dO (n:=(k:Int)) (by omega) (by omega)];refine⟨(B1,oT.length,d1,B2,n+oT.length,d2,(k:Int)+1),rfl,⟨k+1,oT,B1,d1,B2,d2,rfl,NO,EI,⟨m,hm⟩,λq CJ=>?_⟩,by simp only;omega⟩;rcases(bV hp).1 CJ with CJ|rfl
     ·exact gD q CJ
     ·exact sn
    ·refine Split.yes (by rw [decide_eq_false sn];rfl) ?_
     have Qv:∃b∈l,fU D p b:=by
      obtain⟨b,hb,e|e⟩:=EX
      ·subst e;exact⟨_,hb,.one ((mu p).2 XE)⟩
      ·exact⟨b,hb,fU.trans (.one ((mu p).2 XE)) e⟩
     obtain⟨L6,OS,v,oE,kv,Jj,Fq,u,NN,hqu⟩:=NO.add sn Qv (by omega);rw [hlen]at NN;refine(qJ.same NO.kp).load (i:=(k:Int)) (by omega) hp ⟨p.2.1,?_⟩;refine⟨L6,_,OS,v,oE,?_⟩;have Rq:Kept Nil w v:=NO.kp.trans kv (λk hk e=>absurd hk (by omega));refine(qJ.same Rq).load (i:=(k:Int)) (by omega) hp ⟨p.2.1,?_⟩;refine⟨Jj,_,Fq,u,NN,?_⟩;simp only;rw [dO (n:=(k:Int)) (by omega) (by omega)];have e1:oT.length+1=(oT++ [p]).length:=by simp
     rw [e1,show n+oT.length+1=n+(oT++ [p]).length by simp;omega];refine⟨(L6,(oT++ [p]).length,OS,Jj,n+(oT++ [p]).length,Fq,(k:Int)+1),rfl,⟨k+1,oT++ [p],L6,OS,Jj,Fq,rfl,hqu,EI,⟨m++ [p],by rw [hm];simp⟩,λq CJ=>?_⟩,by simp only;omega⟩;rw [List.mem_append,List.mem_singleton];rcases(bV hp).1 CJ with CJ|rfl
     ·exact .inl (gD q CJ)
     ·exact .inr rfl
   ·simp only at Tb
    rw [bg,aR.lA];unfold aR.jJ;rw [dO (n:=(i:Int)) (by omega) (by omega)];rw [List.take_of_length_le (by omega)]at gD;refine⟨(B1,oT.length,d1,B2,n+oT.length,d2,(i:Int)+1),rfl,⟨i+1,oT,B1,d1,B2,d2,rfl,hq,by rw [hm];simp;omega,λx hx q KE=>?_⟩,by simp only;omega⟩;have hh':(l++oT)[i]? =some h:=by
     rw [hm,<-List.append_assoc,List.getElem?_append_left (lgeS hh).1];exact hh
    rcases(bV hh').1 hx with hx|rfl
    ·have UG:x∈(l++out).take i:=by
      rw [hm,<-List.append_assoc,List.take_append_of_le_length (by simp;omega)]at hx;exact hx
     rw [hm,List.mem_append];exact .inl (tB x UG q KE)
    ·exact gD q ((mu q).1 KE)
 ·simp only at gE
  have UR:i=n+out.length:=by omega
  rw [bg,aR.dJ];rw [List.take_of_length_le (by simp;omega)]at tB;have e:=HI W vP.IV tB;refine og vP.r1.hs (by simp only;omega) λA' c' w2 row k2=>⟨A',_,c',rfl,?_⟩;rw [e]at row⊢;exact hK A' c' w2 (Row.base row λb hb=>Nat.le_trans vP.kp.size (Row.bX row hb).1) (vP.kp.tt k2)
end
structure GB(w0 w':World)(D:DG)(is:HT->Prop)(i:Nat)(out:List HT)(A:Option Addr)(c:Nat):Prop where
 r:bY w' w0.heap.size A out.length c out
 mem:∀a,a∈out↔a∈(ids D).take i/\is a
 len:out.length<=i
 kp:Kept Nil w0 w'
section
variable{w w' mN:World}{F S:Nat->Prop}{D:DG}{is:HT->Prop}{i:Nat}{l out:List HT}{A:Option Addr}{c r:Nat}{K:Value->World->Prop}
theorem GB.same(h:GB w w' D is i out A c)(k:Kept Nil w' mN):GB w mN D is i out A c:=⟨Row.aN h.r k (λ_ _ h=>h),h.mem,h.len,h.kp.tt k⟩
theorem GB.nil(k:Kept Nil w w'):GB w w' D is 0 [] none 0:=⟨bY.nil _ _,by simp,Nat.le_refl _,k⟩
theorem GB.skip(h:GB w w' D is i out A c){nd:DN}(fE:D[i]? =some nd)(hn:¬is nd.id):GB w w' D is (i+1) out A c:=⟨h.r,λa=>by
 rw [h.mem,bV (oK fE)];constructor
 ·rintro⟨h1,h2⟩;exact⟨.inl h1,h2⟩
 ·rintro⟨h1|rfl,h2⟩
  ·exact⟨h1,h2⟩
  ·exact absurd h2 hn,Nat.le_succ_of_le h.len,h.kp⟩
theorem GB.add(h:GB w w' D is i out A c){nd:DN}(fE:D[i]? =some nd)(hi:i<=10000)(hs:is nd.id):
 ∃A' c' v,(Builtin.append_ #[aH,aH] aH #[.slice A out.length c,.slice (some ⟨w'.heap.size,0,none⟩) 1 1]).run prog (w'.alloc (.cells (nd.id.1.toList++ []).toArray ai))=.ok (.slice A' (out.length+1) c') v/\
  GB w v D is (i+1) (out++ [nd.id]) A' c':=by
 have hkw:=h.kp.size;have hlen:=h.len;have k1:Kept Nil w' (w'.alloc (.cells (nd.id.1.toList++ []).toArray ai)):=(Kept.refl _ _).alloc _;have vN:=jy w' nd.id;generalize w'.alloc (.cells (nd.id.1.toList++ []).toArray ai)=w1 at k1 vN⊢;have r1:bY w1 w.heap.size A out.length c out:=Row.aN h.r k1 (λ_ _ h=>h);have adE:=k1.size;obtain⟨A',c',v,oE,nv,hg1,Bs⟩:=dp (cx:=1) aH r1 vN (by omega) (by omega);refine⟨A',c',v,oE,?_,λa=>?_,by simp;omega,Kept.dY (h.kp.tt k1) hg1 (λk hk=>(Row.bX h.r hk).1)⟩
 ·rw [List.length_append];exact nv
 ·rw [List.mem_append,List.mem_singleton,h.mem,bV (oK fE)]
  constructor
  ·rintro(⟨h1,h2⟩|rfl)
   ·exact⟨.inl h1,h2⟩
   ·exact⟨.inr rfl,hs⟩
  ·rintro⟨h1|rfl,h2⟩
   ·exact .inl ⟨h1,h2⟩
   ·exact .inr rfl
theorem GB.done(h:GB w w' D is D.length out A c):dP out=pick D is:=Al λa=>by
 rw [h.mem,List.take_of_length_le (by rw [iL];exact Nat.le_refl _)]
theorem GB.sorted(h:GB w w' D is D.length out A c)(hD:D.length<=10000)
 (hK:∀A' c' w',bY w' w.heap.size A' (pick D is).length c' (pick D is)->Kept Nil w w'->K (.slice A' (pick D is).length c') w'):
 bJ prog aV.id #[.slice A out.length c] w' K:=by
 have hlen:=h.len;refine og h.r.hs (by omega) λA' c' w2 row k2=>?_;rw [h.done]at row⊢;exact hK A' c' w2 (Row.base row λb hb=>Nat.le_trans h.kp.size (Row.bX row hb).1) (h.kp.tt k2)
theorem GB.MP(h:GB w w' D is D.length out A c)(hD:D.length<=10000)
 (hK:∀A' c' w',bY w' w.heap.size A' (pick D is).length c' (pick D is)->Kept Nil w w'->K (.slice A' (pick D is).length c') w'):
 bJ prog jz.id #[.slice A out.length c] w' K:=by
 have hlen:=h.len;refine im h.r.hs (by omega) λA' c' w2 row k2=>?_;rw [h.done]at row⊢;exact hK A' c' w2 (Row.base row λb hb=>Nat.le_trans h.kp.size (Row.bX row hb).1) (h.kp.tt k2)
theorem pQ(H:vK w F r D)(W:lr D)(hD:D.length<=10000)(a b:HT)(hK:∀w' (x:Bool),(x=true↔fU D a b)->Kept Nil w w'->K (.bool x) w'):
 bJ prog ft.id #[.pointer (some ⟨r,0,none⟩),.agg a.1,.agg b.1] w K:=by
 refine ft.of ?_;unfold ft.W;intro w4 w5 w6;have k4:Kept Nil w w4:=(Kept.refl _ _).alloc _;have CS:w4.heap[w.heap.size]? =some (.cells a.1 ai (0,0)):=aO w _;have k5:Kept Nil w4 w5:=(Kept.refl _ _).alloc _;have o9:w5.heap[w4.heap.size]? =some (.cells b.1 ai (0,0)):=aO w4 _;have k6:Kept Nil w5 w6:=(Kept.refl _ _).drew;have yL:=k6.heap (k5.heap CS (λh=>h)) (λh=>h);have rr:=k6.heap o9 (λh=>h);have kw6:Kept Nil w w6:=(k4.tt k5).tt k6;clear_value w6;refine⟨a.1,⟨a.2.1,Cells.bX yL⟩,pR (H.same kw6) (by omega) a λw9 k9=>⟨_,rfl,Split.dec (λgE=>?_) (λSK=>?_)⟩⟩
 ·have ha9:=k9.heap yL (λh=>h)
  have Wc:Kept Nil w w9:=kw6.tt k9;refine⟨b.1,⟨b.2.1,Cells.bX (k9.heap rr (λh=>h))⟩,a.1,⟨a.2.1,Cells.bX ha9⟩,b.2.1,?_⟩;intro oD;have Cz:Kept Nil w9 oD:=(Kept.refl _ _).alloc _;have ly:HS oD (some ⟨w9.heap.size,0,none⟩) 1 [b]:=jy w9 b;clear_value oD;have Wh:Kept Nil w oD:=Wc.tt Cz;have Zz:=Cz.heap ha9 (λh=>h);refine⟨⟨a.1,rfl,a.2.1,Cells.bX Zz⟩,BZ (H.same Wh) W hD ly (by omega) λA15 c15 mM F9 qI=>⟨A15,_,c15,rfl,?_⟩⟩;have rZ:=mP D λx=>∃h∈ [b],fU D x h;refine⟨⟨a.1,rfl,a.2.1,Cells.bX (qI.heap Zz (λh=>h))⟩,uG a F9.hs (by unfold fI;omega) λur El=>⟨_,rfl,?_⟩⟩;refine hK ur _ ?_ ((Wh.tt qI).tt El);rw [decide_eq_true_iff];unfold fI;rw [iX];constructor
  ·rintro⟨_,h,hh,ha⟩
   rw [List.mem_singleton]at hh;subst hh;exact ha
  ·intro ha
   exact⟨(ha.mem W).1,b,by simp,ha⟩
 ·refine hK w9 false ?_ (kw6.tt k9)
  constructor
  ·intro h;cases h
  ·intro ha;exact absurd (uZ.2 (ha.mem W).1) SK
theorem wO(W:lr D){j:Nat}{nd:DN}(h2:D[j]? =some nd)(p:HT):nK D p nd.id↔p∈nd.ps:=by
 constructor
 ·rintro⟨md,zF,e,hp⟩
  obtain⟨k,hk⟩:=List.mem_iff_getElem?.1 zF;have:=W.inj hk h2 e;subst this;rw [h2]at hk;cases hk;exact hp
 ·exact λhp=>⟨nd,List.mem_of_getElem? h2,rfl,hp⟩
theorem HD(H:vK w F r D)(W:lr D)(hD:D.length<=10000)(a b:HT)(hK:∀w' (x:Bool),(x=true↔a≠b/\¬fU D a b/\¬fU D b a)->Kept Nil w w'->K (.bool x) w'):
 bJ prog fL.id #[.pointer (some ⟨r,0,none⟩),.agg a.1,.agg b.1] w K:=by
 refine fL.of ?_;unfold fL.W;intro w4 w5;have k4:Kept Nil w w4:=(Kept.refl _ _).alloc _;have CS:w4.heap[w.heap.size]? =some (.cells a.1 ai (0,0)):=aO w _;have k5:Kept Nil w4 w5:=(Kept.refl _ _).alloc _;have o9:w5.heap[w4.heap.size]? =some (.cells b.1 ai (0,0)):=aO w4 _;have Ow:=k5.heap CS (λh=>h);have Pg:Kept Nil w w5:=k4.tt k5;clear_value w5;refine⟨a.1,⟨a.2.1,Cells.bX Ow⟩,b.1,⟨b.2.1,Cells.bX o9⟩,⟨a.2.ints,b.2.ints⟩,?_⟩;rw [dQ];by_cases e:a=b
 ·refine Split.no (by rw [decide_eq_true e];rfl) ?_
  exact hK w5 false (by simp [e]) Pg
 ·refine Split.yes (by rw [decide_eq_false e];rfl) ?_
  refine⟨a.1,⟨a.2.1,Cells.bX Ow⟩,b.1,⟨b.2.1,Cells.bX o9⟩,pQ (H.same Pg) W hD a b λoH x hx wa=>⟨x,rfl,?_⟩⟩;cases x with
  |true=>
   refine Split.no rfl ?_;exact hK oH false (by simp [hx.1 rfl]) (Pg.tt wa)
  |false=>
   refine Split.yes rfl ?_;have hn:¬fU D a b:=λh=>by have:=hx.2 h;cases this
   have Wi:=Pg.tt wa;refine⟨b.1,⟨b.2.1,Cells.bX (wa.heap o9 (λh=>h))⟩,a.1,⟨a.2.1,Cells.bX (wa.heap Ow (λh=>h))⟩,pQ (H.same Wi) W hD b a λnp y hy pU=>⟨y,rfl,?_⟩⟩;refine hK np _ ?_ (Wi.tt pU);rw [Bool.not_eq_true',<-Bool.not_eq_true,hy];exact⟨λh=>⟨e,hn,h⟩,λh=>h.2.2⟩
theorem Ah(H:vK w F r D)(W:lr D)(hD:D.length<=10000)(h:HT)
 (hK:∀A' c' w',bY w' w.heap.size A' (fR D h).length c' (fR D h)->Kept Nil w w'->K (.slice A' (fR D h).length c') w'):
 bJ prog bH.id #[.pointer (some ⟨r,0,none⟩),.agg h.1] w K:=by
 refine bH.of ?_;unfold bH.W;intro w3;have k3:Kept Nil w w3:=(Kept.refl Nil w).alloc _;have qy:w3.heap[w.heap.size]? =some (.cells h.1 ai (0,0)):=aO w _;clear_value w3;refine bH.cP (I:=λs w'=>∃(i:Nat) (out:List HT) (A:Option Addr) (c:Nat),s=(A,out.length,c,(i:Int))/\i<=D.length/\GB w3 w' D (λa=>nK D h a) i out A c) (μ:=λs _=>((D.length:Int)-s.2.2.2).toNat) (s:=(none,0,0,0))
  ⟨0,[],none,0,rfl,Nat.zero_le _,GB.nil (Kept.refl _ _)⟩ ?_
 rintro s w' ⟨i,out,A,c,rfl,hi,hg⟩;have H3:=H.same k3;refine H3.go' hg.kp λA1 c1 uu=>Split.dec (λjT=>?_) (λgE=>?_)
 ·simp only at jT
  have eA:i<D.length:=by omega
  obtain⟨nd,fE⟩:∃nd,D[i]? =some nd:=⟨_,List.getElem?_eq_getElem eA⟩;have rZ:nd.ps.length<=D.length:=by
   rw [<-iL D];exact rW (W.ss nd (List.mem_of_getElem? fE)).nodup λx hx=>(fU.mem W (.one ((wO W fE x).2 hx))).1
  intro oH;have wa:Kept Nil w' oH:=(Kept.refl _ _).drew;clear_value oH;have Tk:=hg.same wa;refine(H3.same Tk.kp).go λA2 c2 Sy=>Sy.ps (i:=(i:Int)) (by omega) (by rw [Int.toNat_natCast];exact fE) λpA pn pc qJ _=>?_;have Mo:=qJ.len;refine⟨h.1,⟨h.2.1,Cells.bX (Tk.kp.heap qy (λh=>h))⟩,uG h qJ (by omega) λur El=>⟨_,rfl,?_⟩⟩;have Ti:=Tk.same El;simp-zeta only;rw [dO (n:=(i:Int)) (by omega) (by omega)];refine Split.dec (λgD=>?_) (λns=>?_)
  ·refine(H3.same Ti.kp).go λA3 c3 Sx=>?_
   refine Sx.id (i:=(i:Int)) (by omega) (by rw [Int.toNat_natCast];exact fE) ⟨nd.id.2.1,?_⟩;obtain⟨A',c',v,hr,Qd⟩:=Ti.add fE (by omega) ((wO W fE h).2 gD);refine⟨A',_,c',v,hr,?_⟩;exact⟨(A',out.length+1,c',(i:Int)+1),rfl,⟨i+1,out++ [nd.id],A',c',by simp,eA,Qd⟩,by simp only;omega⟩
  ·exact⟨(A,out.length,c,(i:Int)+1),rfl,⟨i+1,out,A,c,rfl,eA,Ti.skip fE (λha=>ns ((wO W fE h).1 ha))⟩,by simp only;omega⟩
 ·simp only at gE
  have:i=D.length:=by omega
  subst this;rw [bg,bH.dJ];exact hg.sorted hD λA' c' w2 row k2=>⟨A',_,c',rfl,hK A' c' w2 (Row.base row λb hb=>Nat.le_trans k3.size (Row.bX row hb).1) (k3.tt k2)⟩
theorem ti{D:DG}(W:lr D){h:HT}:(fR D h).length=0↔¬∃b,nK D h b:=by
 constructor
 ·rintro h0 ⟨b,hb⟩
  have:b∈fR D h:=iX.2 ⟨(fU.mem W (.one hb)).2,hb⟩;rw [List.eq_nil_of_length_eq_zero h0]at this;cases this
 ·intro hn
  rw [List.length_eq_zero_iff];cases hc:fR D h with
  |nil=>rfl
  |cons b l=>exact absurd ⟨b,(iX.1 (show b∈fR D h by rw [hc];simp)).2⟩ hn
theorem JO(H:vK w F r D)(W:lr D)(hD:D.length<=10000)
 (hK:∀A' c' w',bY w' w.heap.size A' (nE D).length c' (nE D)->Kept Nil w w'->K (.slice A' (nE D).length c') w'):
 bJ prog bU.id #[.pointer (some ⟨r,0,none⟩)] w K:=by
 refine bU.of ?_;refine bU.cP (I:=λs w'=>∃(i:Nat) (out:List HT) (A:Option Addr) (c:Nat),s=(A,out.length,c,(i:Int))/\i<=D.length/\GB w w' D (λa=>¬∃b,nK D a b) i out A c) (μ:=λs _=>((D.length:Int)-s.2.2.2).toNat) (s:=(none,0,0,0))
  ⟨0,[],none,0,rfl,Nat.zero_le _,GB.nil (Kept.refl _ _)⟩ ?_
 rintro s w' ⟨i,out,A,c,rfl,hi,hg⟩;refine H.go' hg.kp λA1 c1 uu=>Split.dec (λjT=>?_) (λgE=>?_)
 ·simp only at jT
  have eA:i<D.length:=by omega
  obtain⟨nd,fE⟩:∃nd,D[i]? =some nd:=⟨_,List.getElem?_eq_getElem eA⟩;refine(H.same hg.kp).go λA2 c2 Sy=>Sy.id (i:=(i:Int)) (by omega) (by rw [Int.toNat_natCast];exact fE) ?_;refine Ah (H.same hg.kp) W hD nd.id λA' c' oD BW Cz=>⟨A',_,c',rfl,?_⟩;have Tj:=hg.same Cz;simp-zeta only;rw [dO (n:=(i:Int)) (by omega) (by omega)];by_cases h0:(fR D nd.id).length=0
  ·refine Split.yes (by simp [h0]) ((H.same Tj.kp).go λA3 c3 Sx=>?_)
   refine Sx.id (i:=(i:Int)) (by omega) (by rw [Int.toNat_natCast];exact fE) ⟨nd.id.2.1,?_⟩;obtain⟨A',c',v,hr,Qd⟩:=Tj.add fE (by omega) ((ti W).1 h0);refine⟨A',_,c',v,hr,?_⟩;exact⟨(A',out.length+1,c',(i:Int)+1),rfl,⟨i+1,out++ [nd.id],A',c',by simp,eA,Qd⟩,by simp only;omega⟩
  ·refine Split.no (beq_eq_false_iff_ne.2 (by omega)) ?_
   exact⟨(A,out.length,c,(i:Int)+1),rfl,⟨i+1,out,A,c,rfl,eA,Tj.skip fE (λha=>h0 ((ti W).2 ha))⟩,by simp only;omega⟩
 ·simp only at gE
  have:i=D.length:=by omega
  subst this;rw [bg,bU.dJ];exact hg.sorted hD λA' c' w2 row k2=>⟨A',_,c',rfl,hK A' c' w2 row k2⟩
end
structure NM where
 b:Nat
 pA:Option Addr
 pn:Nat
 pc:Nat
 cA:Option Addr
 cn:Nat
 cc:Nat
 rA:Option Addr
 rn:Nat
 rc:Nat
 ws:List Nat
def iB(h:HT)(m:NM):Array Value:=h.1++ #[.slice m.pA m.pn m.pc,.slice m.cA m.cn m.cc,.slice m.rA m.rn m.rc]
theorem wV(h:HT)(m:NM):(iB h m).size=35:=by unfold iB;rw [Array.size_append,h.2.1];rfl
theorem Ci(h:HT)(m:NM){j:Nat}{v:Value}(hj:h.1[j]? =some v):(iB h m)[j]? =some v:=by
 unfold iB;rw [Array.getElem?_append_left (Array.getElem?_eq_some_iff.1 hj).1];exact hj
theorem JT(h:HT)(m:NM):(iB h m)[33]? =some (.slice m.cA m.cn m.cc):=by
 unfold iB;rw [Array.getElem?_append_right (by rw [h.2.1];omega),h.2.1];rfl
theorem Cj(h:HT)(m:NM):(iB h m)[34]? =some (.slice m.rA m.rn m.rc):=by
 unfold iB;rw [Array.getElem?_append_right (by rw [h.2.1];omega),h.2.1];rfl
theorem HN{h h':HT}{m m':NM}(e:iB h m=iB h' m'):h=h':=by
 apply Subtype.ext;have h1:=h.2.1;have h2:=h'.2.1;have:=congrArg (λa:Array Value=>a.toList.take 32) e;unfold iB at this;simp only [Array.toList_append]at this;rw [List.take_left' (by simpa using h1),List.take_left' (by simpa using h2)]at this;exact Array.ext' this
structure tn(w:World)(S F:Nat->Prop)(D:DG)(ch:List HT)(nd:DN)(m:NM):Prop where
 bX:w.heap[m.b]? =some (.cells (iB nd.id m) fC (0,0))
 iH:S m.b
 ps:HS w m.pA m.pn nd.ps
 MV:∀a,m.pA=some a->F a.block
 ch:bY w 0 m.cA m.cn m.cc ch
 TZ:∀k,bL m.cA=some k->S k
 past:US w m.rA m.rn m.ws
 qY:∀a,m.rA=some a->F a.block
 ok:okW m.ws
 bits:∀j,bit m.ws j=true↔∃nj,D[j]? =some nj/\fU D nj.id nd.id
 small:m.rn<=200
structure GV(w:World)(S F:Nat->Prop)(g:Nat)(D:DG)(C:HT->List HT)(bl c mb:Nat)(M:List NM):Prop where
 top:w.heap[g]? =some (.cells #[.slice (some ⟨bl,0,none⟩) D.length c,.map (some mb)] ju (0,0))
 row:Row w 0 gI 1 (some ⟨bl,0,none⟩) D.length c (M.map λm=>.pointer (some ⟨m.b,0,none⟩))
 map:IsMap w mb (ids D)
 len:M.length=D.length
 node:∀(i:Nat) nd m,D[i]? =some nd->M[i]? =some m->tn w S F D (C nd.id) nd m
 apart:∀(i j:Nat) m m',M[i]? =some m->M[j]? =some m'->i≠j->∀k,bL m.cA=some k->bL m'.cA≠some k
 jC:S g
 vD:S bl
 xJ:S mb
 Jh:∀k,S k->¬F k
 low:∀k,S k\/F k->k<w.heap.size
def G5(w:World)(S F:Nat->Prop)(g:Nat)(D:DG):Prop:=∃bl c mb M,GV w S F g D (fR D) bl c mb M
section
variable{w w':World}{S F S' F':Nat->Prop}{g bl c mb:Nat}{D:DG}{C:HT->List HT}{M:List NM}{K:Value->World->Prop}
theorem tn.aN{ch:List HT}{nd:DN}{m:NM}{S0:Nat->Prop}(h:tn w S F D ch nd m)(hk:Kept S0 w w')(hS:∀k,S k->¬S0 k)(hF:∀k,F k->¬S0 k):tn w' S F D ch nd m:=
 ⟨hk.heap h.bX (hS _ h.iH),h.iH,h.ps.aN hk (λa ha=>hF _ (h.MV a ha)),h.MV,Row.aN h.ch hk (λk hb=>hS k (h.TZ k hb)),h.TZ,h.past.aN hk (λa ha=>hF _ (h.qY a ha)),h.qY,h.ok,h.bits,h.small⟩
theorem GV.aN{S0:Nat->Prop}(h:GV w S F g D C bl c mb M)(hk:Kept S0 w w')(hS:∀k,S k->¬S0 k)(hF:∀k,F k->¬S0 k):GV w' S F g D C bl c mb M:=
 ⟨hk.heap h.top (hS _ h.jC),Row.aN h.row hk (λk e=>by cases e;exact hS _ h.vD),h.map.aN hk (hS _ h.xJ),h.len,λi nd m h1 h2=>(h.node i nd m h1 h2).aN hk hS hF,h.apart,h.jC,h.vD,h.xJ,h.Jh,λk qm=>Nat.lt_of_lt_of_le (h.low k qm) hk.size⟩
theorem GV.same(h:GV w S F g D C bl c mb M)(hk:Kept Nil w w'):GV w' S F g D C bl c mb M:=h.aN hk (λ_ _ h=>h) (λ_ _ h=>h)
theorem G5.aN{S0:Nat->Prop}(h:G5 w S F g D)(hk:Kept S0 w w')(hS:∀k,S k->¬S0 k)(hF:∀k,F k->¬S0 k):G5 w' S F g D:=let ⟨bl,c,mb,M,h⟩:=h;⟨bl,c,mb,M,h.aN hk hS hF⟩
theorem G5.same(h:G5 w S F g D)(hk:Kept Nil w w'):G5 w' S F g D:=h.aN hk (λ_ _ h=>h) (λ_ _ h=>h)
theorem GV.get(h:GV w S F g D C bl c mb M){i:Nat}{nd:DN}(hi:D[i]? =some nd):∃m,M[i]? =some m/\tn w S F D (C nd.id) nd m:=by
 have:=(lgeS hi).1;have hl:=h.len;exact⟨M[i],List.getElem?_eq_getElem (by omega),h.node i nd _ hi (List.getElem?_eq_getElem (by omega))⟩
theorem GV.nodes(h:GV w S F g D C bl c mb M):w.cell? ((⟨g,0,none⟩:Addr).add 0)=some (.slice (some ⟨bl,0,none⟩) D.length c):=by rw [add_zero,aI h.top];rfl
theorem GV.at_(h:GV w S F g D C bl c mb M):w.cell? ((⟨g,0,none⟩:Addr).add 1)=some (.map (some mb)):=by rw [bO,aI h.top];rfl
theorem GV.ptr(h:GV w S F g D C bl c mb M){i:Nat}{m:NM}(hm:M[i]? =some m):w.cell? ((⟨bl,0,none⟩:Addr).add (i*1))=some (.pointer (some ⟨m.b,0,none⟩)):=by
 rw [bO,Nat.zero_add,Nat.mul_one];exact Row.cell h.row (by rw [List.getElem?_map,hm];rfl)
theorem uV(h:GV w S F g D C bl c mb M)(hK:K (.bool true) w):bJ prog iF.id #[.pointer (some ⟨g,0,none⟩)] w K:=
 iF.of (Split.yes rfl ⟨some mb,h.at_,hK⟩)
def Found(D:DG)(M:List NM)(h:HT)(x:Option Addr):Prop:=(x=none/\h∉ids D)\/∃(i:Nat) (nd:DN) (m:NM),D[i]? =some nd/\nd.id=h/\M[i]? =some m/\x=some ⟨m.b,0,none⟩
theorem Found.isSome{h:HT}{x:Option Addr}(f:Found D M h x):(!x.isNone)=decide (h∈ids D):=by
 rcases f with⟨rfl,hn⟩|⟨i,nd,m,h1,h2,_,rfl⟩
 ·rw [decide_eq_false hn];rfl
 ·rw [decide_eq_true (eV.2 ⟨nd,List.mem_of_getElem? h1,h2⟩)];rfl
theorem xP(G:GV w S F g D C bl c mb M)(h:HT)(hK:∀w' x,Kept Nil w w'->Found D M h x->K (.pointer x) w'):
 bJ prog iz.id #[.pointer (some ⟨g,0,none⟩),.agg h.1] w K:=by
 refine iz.of ?_;unfold iz.W;intro w3;have k3:Kept Nil w w3:=(Kept.refl _ _).alloc _;have qy:w3.heap[w.heap.size]? =some (.cells h.1 ai (0,0)):=aO w _;clear_value w3;refine uV (G.same k3) ⟨true,rfl,Split.yes rfl ?_⟩;intro w7;have k7:Kept Nil w3 w7:=(Kept.refl _ _).drew;clear_value w7;have kw:Kept Nil w w7:=k3.tt k7;have G7:=G.same kw;refine⟨some mb,G7.at_,h.1,⟨h.2.1,Cells.bX (k7.heap qy (λh=>h))⟩,_,_,G7.map.look h,?_⟩;cases hp:pos h (ids D) 0 with
 |none=>exact Split.no rfl (hK w7 none kw (.inl ⟨rfl,qX.1 hp⟩))
 |some i=>
  obtain⟨_,hi⟩:=wI hp;obtain⟨nd,h1,h2⟩:=KD hi;rw [Nat.sub_zero]at h1;obtain⟨m,hm,_⟩:=G7.get h1;have eA:=(lgeS h1).1;refine Split.yes rfl ⟨_,_,_,G7.nodes,⟨by simp,by simp only [Option.getD_some];omega⟩,some ⟨m.b,0,none⟩,?_,hK w7 _ kw (.inr ⟨i,nd,m,h1,h2,hm,rfl⟩)⟩;rw [Option.getD_some,Int.toNat_natCast];exact G7.ptr hm
theorem se(G:GV w S F g D C bl c mb M)(h:HT)(hK:∀w',Kept Nil w w'->K (.bool (decide (h∈ids D))) w'):
 bJ prog iR.id #[.pointer (some ⟨g,0,none⟩),.agg h.1] w K:=by
 refine iR.of ?_;unfold iR.W;intro w3;have k3:Kept Nil w w3:=(Kept.refl _ _).alloc _;have qy:w3.heap[w.heap.size]? =some (.cells h.1 ai (0,0)):=aO w _;clear_value w3;refine⟨h.1,⟨h.2.1,Cells.bX qy⟩,xP (G.same k3) h λw6 x k6 hx=>⟨x,rfl,?_⟩⟩;rw [hx.isSome];exact hK w6 (k3.tt k6)
end
section
variable{w w':World}{S F:Nat->Prop}{g bl c mb:Nat}{D:DG}{C:HT->List HT}{M:List NM}{K:Value->World->Prop}
theorem HG(G:GV w S F g D C bl c mb M)(hD:D.length<=10000){is:HT->Prop}
 (his:∀(i:Nat) nd m w' (K':Value->World->Prop),D[i]? =some nd->M[i]? =some m->Kept Nil w w'->(∀mN (x:Bool),(x=true↔is nd.id)->Kept Nil w' mN->K' (.bool x) mN)->
   bJ prog fz.id #[.int .i64 (i:Int),.pointer (some ⟨m.b,0,none⟩)] w' K')
 (hK:∀A' c' w',bY w' w.heap.size A' (pick D is).length c' (pick D is)->Kept Nil w w'->K (.slice A' (pick D is).length c') w'):
 bJ prog xR.id #[.pointer (some ⟨g,0,none⟩),.func (.func fz.id) #[] #[]] w K:=by
 refine aM.of (uV G ⟨true,rfl,Split.yes rfl ⟨_,_,_,G.nodes,?_⟩⟩);refine aM.cP (I:=λs w'=>∃(i:Nat) (out:List HT) (A:Option Addr) (c:Nat),s=(A,out.length,c,(i:Int))/\i<=D.length/\GB w w' D is i out A c) (μ:=λs _=>((D.length:Int)-s.2.2.2).toNat) (s:=(none,0,0,0))
  ⟨0,[],none,0,rfl,Nat.zero_le _,GB.nil (Kept.refl _ _)⟩ ?_
 rintro s w' ⟨i,out,A,c0,rfl,hi,hg⟩;refine Split.dec (λjT=>?_) (λgE=>?_)
 ·simp only at jT
  have eA:i<D.length:=by omega
  obtain⟨nd,fE⟩:∃nd,D[i]? =some nd:=⟨_,List.getElem?_eq_getElem eA⟩;obtain⟨m,hm,_⟩:=G.get fE;refine⟨⟨by simp only;omega,by simp only;omega⟩,some ⟨m.b,0,none⟩,?_,?_⟩
  ·simp only [Int.toNat_natCast]
   exact(G.same hg.kp).ptr hm
  refine his i nd m w' _ fE hm hg.kp λw22 x hx RF=>⟨x,rfl,?_⟩;have Tg:=hg.same RF;simp-zeta only;rw [dO (n:=(i:Int)) (by omega) (by omega)];cases x with
  |true=>
   obtain⟨m',nC,N⟩:=(G.same Tg.kp).get fE;rw [hm]at nC;cases nC;refine Split.yes rfl ⟨nd.id.1,⟨nd.id.2.1,λj v hj=>?_⟩,nd.id.2.1,?_⟩
   ·rw [add_zero,bO,Nat.zero_add,aI N.bX]
    exact Ci _ _ hj
   obtain⟨A',c',v,hr,Qd⟩:=Tg.add fE (by omega) (hx.1 rfl);refine⟨A',_,c',v,hr,?_⟩;exact⟨(A',out.length+1,c',(i:Int)+1),rfl,⟨i+1,out++ [nd.id],A',c',by simp,eA,Qd⟩,by simp only;omega⟩
  |false=>
   refine Split.no rfl ?_;exact⟨(A,out.length,c0,(i:Int)+1),rfl,⟨i+1,out,A,c0,rfl,eA,Tg.skip fE (λha=>by have:=hx.2 ha;cases this)⟩,by simp only;omega⟩
 ·simp only at gE
  have:i=D.length:=by omega
  subst this;rw [bg,aM.dJ];exact hg.MP hD λA' c' w2 row k2=>⟨A',_,c',rfl,hK A' c' w2 row k2⟩
end
section
variable{w w':World}{S F:Nat->Prop}{g bl c mb:Nat}{D:DG}{C:HT->List HT}{M:List NM}{K:Value->World->Prop}
theorem th{A:Option Addr}{n c:Nat}{l:List HT}(hl:HS w A n l)(hn:n<=400000)(hK:∀A' c' w',bY w' w.heap.size A' n c' l->Kept Nil w w'->K (.slice A' n c') w'):
 bJ prog dS.id #[.slice A n c] w K:=by
 refine dS.of ?_;cases A with
 |none=>
  obtain⟨rfl,rfl⟩:=hl.none;exact Split.yes rfl (hK none 0 w (bY.nil _ _) (Kept.refl _ _))
 |some a=>
  refine Split.no rfl ?_;intro w2;have k2:Kept Nil w w2:=(Kept.refl _ _).alloc _;have r0:bY w2 w.heap.size (some ⟨w.heap.size,0,none⟩) 0 0 []:=Row.made (n:=0) (cur:= #[]) (aO w _) (Nat.le_refl _) rfl (Nat.zero_le _);clear_value w2;obtain⟨A',c',w4,hr,row,hg,_⟩:=dp (cx:=c) aH r0 (hl.same k2) (by omega) k2.size;rw [Nat.zero_add]at hr row;rw [List.nil_append]at row;exact⟨A',n,c',w4,hr,hK A' c' w4 row (Kept.dY k2 hg (λk hk=>by cases hk;exact Nat.le_refl _))⟩
theorem zl{D:DG}{nd:DN}{m:NM}{ch:List HT}(N:tn w S F D ch nd m):w.cell? ((⟨m.b,0,none⟩:Addr).add 34)=some (.slice m.rA m.rn m.rc):=by
 rw [bO,Nat.zero_add,aI N.bX];exact Cj _ _
theorem Au{D:DG}{nd:DN}{m:NM}{ch:List HT}(N:tn w S F D ch nd m):w.cell? ((⟨m.b,0,none⟩:Addr).add 33)=some (.slice m.cA m.cn m.cc):=by
 rw [bO,Nat.zero_add,aI N.bX];exact JT _ _
theorem LB(G:GV w S F g D (fR D) bl c mb M)(W:lr D)(hD:D.length<=10000)
 (hK:∀A' c' w',bY w' w.heap.size A' (nE D).length c' (nE D)->Kept Nil w w'->K (.slice A' (nE D).length c') w'):
 bJ prog jb.id #[.pointer (some ⟨g,0,none⟩)] w K:=by
 refine jb.of (HG G hD (is:=λa=>¬∃b,nK D a b) (λi nd m w' K' h1 h2 k hk=>?_) λA' c' w' row k=>⟨A',_,c',rfl,hK A' c' w' row k⟩);obtain⟨m',nC,N⟩:=(G.same k).get h1;rw [h2]at nC;cases nC;refine fz.of ⟨_,_,_,Au N,hk w' _ ?_ (Kept.refl _ _)⟩;rw [<-ti W,<-N.ch.len];simp
end
def qu(D:DG)(j:Nat):HT:=match D[j]? with|some nd=>nd.id|none=>default
theorem wR:∀(ws:List Nat) (k:Nat),okW ws->(q9 k ws).Nodup
 | [],_,_=>List.Pairwise.nil
 |x::ws,k,ho=>by
  have hx:=ho x (by simp);have Mq:okW ws:=λy hy=>ho y (by simp [hy]);obtain⟨_,h2,h3⟩:=zt x hx;rw [q9,List.nodup_append];refine⟨List.Pairwise.map _ (λa b mK e=>mK (by omega)) h2,wR ws (k+1) Mq,λa ha b hb e=>?_⟩;rw [List.mem_map]at ha;obtain⟨t,ht,rfl⟩:=ha;have:=((rh ws (k+1) b Mq).1 hb).1;have:=h3 t ht;omega
section
variable{w w':World}{S F:Nat->Prop}{g bl c mb:Nat}{D:DG}{C:HT->List HT}{M:List NM}{K:Value->World->Prop}
theorem xQ(G:GV w S F g D C bl c mb M)(W:lr D)(hD:D.length<=10000)(hT:tm w){A:Option Addr}{n cx:Nat}{l:List HT}(hl:HS w A n l)(hn:n<=10000)
 (hK:∀A' c' w',bY w' w.heap.size A' (fI D l).length c' (fI D l)->Kept Nil w w'->K (.slice A' (fI D l).length c') w'):
 bJ prog bu.id #[.pointer (some ⟨g,0,none⟩),.slice A n cx] w K:=by
 have hlen:=hl.len;refine bu.of ?_;unfold bu.W;intro w3;have k3:Kept Nil w w3:=(Kept.refl _ _).alloc _;have Tf:w3.heap[w.heap.size]? =some (.cells #[.pointer (some ⟨g,0,none⟩)] jB (0,0)):=aO w _;have vy:w.heap.size<w3.heap.size:=bt Tf;clear_value w3;refine bu.cP (I:=λs w'=>∃(i:Nat) (A':Option Addr) (n' c':Nat) (ws:List Nat),s=(A',n',c',(i:Int))/\i<=n/\mv w' w3.heap.size A' n' c' ws/\okW ws/\n'<=200/\(∀j,bit ws j=true↔∃h∈l.take i,∃nj,D[j]? =some nj/\fU D nj.id h)/\Kept Nil w3 w')
  (μ:=λs _=>((n:Int)-s.2.2.2).toNat) (s:=(none,0,0,0)) ⟨0,none,0,0,[],rfl,Nat.zero_le _,Row.nil _ _ _ _,by simp [okW],by omega,by simp [AZ],Kept.refl _ _⟩ ?_
 rintro s w' ⟨i,A',n',c',ws,rfl,hi,row,ho,hn',sq,kw⟩;have kk:Kept Nil w w':=k3.tt kw;refine Split.dec (λjT=>?_) (λgE=>?_)
 ·simp only at jT
  have eA:i<n:=by omega
  obtain⟨h,hh⟩:∃h,l[i]? =some h:=⟨_,List.getElem?_eq_getElem (by omega)⟩;refine(hl.same kk).load (i:=(i:Int)) (by omega) hh ?_;intro nM;obtain⟨uP,ly,lH⟩:=jt (w:=w') (z:=(Et 0)) (cs:=h.1) (t:=ai) (by rw [h.2.1];rfl);refine⟨⟨h.2.1,h.2.one,λj hj=>uP j (by rw [h.2.1];exact hj)⟩,?_⟩;intro mM
  replace ly:mM.heap[w'.heap.size]? =some (.cells h.1 ai (0,0)):=ly
  replace lH:Kept Nil w' mM:=lH
  clear_value mM;have qI:Kept Nil w3 mM:=kw.tt lH;refine⟨some ⟨g,0,none⟩,by rw [aI (qI.heap Tf (λh=>h))];rfl,h.1,⟨h.2.1,Cells.bX ly⟩,?_⟩;refine xP (G.same (k3.tt qI)) h λpI x yi hx=>⟨x,rfl,?_⟩;have Ns:Kept Nil w3 pI:=qI.tt yi;have Kc:Kept Nil w pI:=k3.tt Ns;have zf:mv pI w3.heap.size A' n' c' ws:=Row.aN row (lH.tt yi) (λ_ _ h=>h);rcases hx with⟨rfl,ns⟩|⟨q,nd,m',hq,rfl,nC,rfl⟩
  ·refine Split.no rfl ?_
   simp only;rw [dO (n:=(i:Int)) (by omega) (by omega)];refine⟨(A',n',c',(i:Int)+1),rfl,⟨i+1,A',n',c',ws,rfl,eA,zf,ho,hn',λj=>?_,Ns⟩,by simp only;omega⟩;rw [sq];constructor
   ·rintro⟨h',h1,h2⟩;exact⟨h',(bV hh).2 (.inl h1),h2⟩
   ·rintro⟨h',h1,nj,h2,h3⟩
    rcases(bV hh).1 h1 with h1|rfl
    ·exact⟨h',h1,nj,h2,h3⟩
    ·exact absurd (h3.mem W).2 ns
  ·obtain⟨m,hm,N⟩:=(G.same Kc).get hq
   rw [nC]at hm;cases hm;refine Split.yes rfl ⟨_,_,_,zl N,?_⟩;have ym:=N.small;have IA:∀k,bL A'=some k->w3.heap.size<=k:=λk hk=>(Row.bX zf hk).1;refine y8 zf ho (by omega) Ns.size N.past N.ok (by omega) (λa ha k hk e=>?_) λA2 n2 c2 l2 nQ VI aeg Yc Tx tA Ot=>⟨A2,n2,c2,rfl,?_⟩
   ·have h1:=G.low a.block (.inr (N.qY a ha))
    have h2:=IA k hk;omega
   ·simp only
    rw [dO (n:=(i:Int)) (by omega) (by omega)];refine⟨(A2,n2,c2,(i:Int)+1),rfl,⟨i+1,A2,n2,c2,l2,rfl,eA,VI,aeg,by omega,λj=>?_,Ns.trans tA (λk hk e=>absurd (IA k e) (by omega))⟩,by simp only;omega⟩;rw [Tx,Bool.or_eq_true,sq,N.bits];constructor
    ·rintro(⟨h',h1,h2⟩|h2)
     ·exact⟨h',(bV hh).2 (.inl h1),h2⟩
     ·exact⟨nd.id,(bV hh).2 (.inr rfl),h2⟩
    ·rintro⟨h',h1,h2⟩
     rcases(bV hh).1 h1 with h1|rfl
     ·exact .inl ⟨h',h1,h2⟩
     ·exact .inr h2
 ·simp only at gE
  have UR:i=n:=by omega
  subst UR;rw [List.take_of_length_le (by omega)]at sq;rw [bg,bu.dJ];unfold bu.dA;intro vZ;have I7:Kept Nil w' vZ:=(Kept.refl _ _).alloc _;have XW:vZ.heap[w'.heap.size]? =some (.cells #[.slice none 0 0] aH (0,0)):=aO w' _;clear_value vZ;refine lS.of ?_;unfold lS.W;intro oC;have yh:Kept Nil vZ oC:=(Kept.refl _ _).alloc _;have NL:oC.heap[vZ.heap.size]? =some (.cells #[.slice A' n' c'] mG (0,0)):=aO vZ _;clear_value oC;refine⟨_,rfl,?_⟩;have XU:=yh.heap XW (λh=>h);have WL:Kept Nil w3 oC:=(kw.tt I7).tt yh;have Nf:Kept Nil w oC:=k3.tt WL;have BV:mv oC w3.heap.size A' n' c' ws:=Row.aN (Row.aN row I7 (λ_ _ h=>h)) yh (λ_ _ h=>h);have Te:=WL.heap Tf (λh=>h);have Bp:w.heap.size<w'.heap.size:=Nat.lt_of_lt_of_le vy kw.size;have al5:w'.heap.size<oC.heap.size:=bt XU;have al6:vZ.heap.size<oC.heap.size:=bt NL;have KU:∀j∈q9 0 ws,∃nj,D[j]? =some nj:=λj hj=>by
   have:=((rh ws 0 j ho).1 hj).2;rw [Nat.mul_zero,Nat.sub_zero]at this;obtain⟨_,_,nj,h1,_⟩:=(sq j).1 this;exact⟨nj,h1⟩
  have Bq:(q9 0 ws).length<=D.length:=by
   have:=wS (m:=List.range D.length) (wR ws 0 ho) (λj hj=>by
    obtain⟨nj,h1⟩:=KU j hj;exact List.mem_range.2 (lgeS h1).1)
   rwa [List.length_range]at this
  let xs:=q9 0 ws
  let ρ0:Env:= [(2,.pointer (some (aU w.heap.size))),(4,.slice none 0 0),(9,.pointer (some (aU w'.heap.size))),(30,.func (.func aS.id) #[] #[.pointer (some (aU vZ.heap.size))])]
  let J:Nat->World->Prop:=λi v=>∃A c,v.heap[w'.heap.size]? =some (.cells #[.slice A i c] aH (0,0))/\bY v oC.heap.size A i c ((xs.take i).map (qu D))/\Kept (· =w'.heap.size) oC v/\i<=xs.length
  have ub:∀i v,J i v->US v A' n' ws/\v.cell? ⟨vZ.heap.size,0,none⟩=some (.slice A' n' c')/\tm v:=by
   rintro i v ⟨A,c,h1,h2,h3,h4⟩;refine⟨BV.us.aN h3 (λa ha e=>?_),by rw [aI (h3.heap NL (by have:=bt XW;omega))];rfl,(hT.same Nf).aN h3 (λe=>by have:=hT.lt;omega)⟩;have hk:bL A'=some a.block:=by rw [ha];rfl
   obtain⟨_,cur,hc⟩:=Row.bX row hk;have:=bt hc;omega
  refine pS (ρ:=ρ0) (ρ0:=ρ0) ng mix bu.k (t:=30) (ps:= #[31]) (by kernel_rfl) (by decide) rfl aS.at_ rfl (.inl rfl) (λi v _ h=>h) rfl encI xs (λ_=>rfl) (by simp [js]) (LN ⟨vZ.heap.size,0,none⟩ (c:=c') (by omega) ho) J (λ_ _=>False) ?_ (λ_ _ _ _ _ h=>h.elim) ub ?_ ?_ ?_ (λ_ _ h=>h.elim) (λ_ _ _ h=>h.elim)
  ·rintro i v v' R sX ⟨A,c,h1,h2,h3,h4⟩ hk
   exact⟨A,c,hk.heap h1 (mJ h1 sX.loop),Row.apart h2 hk (λcs t fr h=>by rw [sX.loop]at h;cases h),h3.trans hk (λk hk e=>by omega),h4⟩
  ·intro R
   exact⟨none,0,mh (mh XU _) _,bY.nil _ _,(((Kept.refl _ _).alloc _).alloc _),Nat.zero_le _⟩
  ·rintro i x v R hx hj sX
   have hJ:=hj;obtain⟨A,c,h1,h2,h3,h4⟩:=hj;have eA:i<xs.length:=(lgeS hx).1;have e7:nz ρ0 ((#[31]:Array Nat).toList.zip (encI x))= [(2,.pointer (some (aU w.heap.size))),(4,.slice none 0 0),(9,.pointer (some (aU w'.heap.size))),(30,.func (.func aS.id) #[] #[.pointer (some (aU vZ.heap.size))]),(31,.int .i64 (x:Int))]:=rfl;rw [e7,bu.a1];unfold bu.A1;refine⟨sX,λw2 R2 ql vR=>?_⟩;have DB:=ql.heap h1 (mJ h1 sX.loop);have EZ:bY w2 oC.heap.size A i c ((xs.take i).map (qu D)):=Row.apart h2 ql (λcs t fr h=>by rw [sX.loop]at h;cases h);have ZW:Kept (· =w'.heap.size) oC w2:=h3.trans ql (λk hk e=>by omega);clear hJ h1 h2 h3;rw [bu.y1];unfold bu.Y1;intro QR;have k44:Kept Nil w2 QR:=(Kept.refl _ _).drew;clear_value QR;have Z1:=k44.heap DB (λh=>h);have Gj:Kept (· =w'.heap.size) oC QR:=ZW.trans k44 (λ_ _ h=>h.elim);obtain⟨nj,PW⟩:=KU x (List.mem_of_getElem? hx);have vx:=(lgeS PW).1;have kww:Kept Nil w QR:=Nf.trans Gj (λk hk e=>by omega);obtain⟨m,hm,N⟩:=(G.same kww).get PW;refine⟨A,i,c,by rw [aI Z1];rfl,some ⟨g,0,none⟩,by rw [aI (Gj.heap Te (by omega))];rfl,?_⟩;refine⟨_,_,_,(G.same kww).nodes,⟨by omega,by omega⟩,some ⟨m.b,0,none⟩,by rw [Int.toNat_natCast];exact(G.same kww).ptr hm,?_⟩;refine⟨nj.id.1,⟨nj.id.2.1,λj v hj=>?_⟩,nj.id.2.1,?_⟩
   ·rw [add_zero,bO,Nat.zero_add,aI N.bX]
    exact Ci _ _ hj
   intro Uk;have WA:Kept Nil QR Uk:=(Kept.refl _ _).alloc _;have jy:HS Uk (some ⟨QR.heap.size,0,none⟩) 1 [nj.id]:=jy QR nj.id;clear_value Uk;have Z0:=WA.heap Z1 (λh=>h);refine⟨by rw [aI Z0];rfl,?_⟩;have Oz:bY Uk oC.heap.size A i c ((xs.take i).map (qu D)):=Row.aN (Row.aN EZ k44 (λ_ _ h=>h)) WA (λ_ _ h=>h);have Xb:oC.heap.size<=Uk.heap.size:=Nat.le_trans Gj.size WA.size;have NA:xs.length<=D.length:=Bq;obtain⟨A2,c2,sJ,hr,zc,Of,Tz⟩:=dp (cx:=1) aH Oz jy (by omega) Xb;have Ta:Kept (λk=>bL A=some k) Uk sJ:=Kept.grown (Kept.refl _ _) Of (λk hk _=>hk);have ZT:∀k,bL A=some k->oC.heap.size<=k:=λk hk=>(Row.bX Oz hk).1;have ZZ:=Ta.heap Z0 (λe=>by have:=ZT _ e;omega);have aey:Live (oC.heap.size+1) oC.heap.size R2 sJ:=by
    have SM:=(vR.aN k44 (λh=>h) (λh=>h)).aN WA (λh=>h) (λh=>h);refine SM.aN Ta ?_ ?_
    ·intro h
     obtain⟨_,cur,hc⟩:=Row.bX Oz h;exact mJ hc SM.loop rfl
    ·intro h
     obtain⟨_,cur,hc⟩:=Row.bX Oz h;exact Av hc SM.mark rfl
   refine⟨A2,_,c2,sJ,hr,eI ZZ (by simp),?_⟩;intro w56;have k56:Kept (· =w'.heap.size) sJ w56:=Kept.setCell (S:=λk=>k=w'.heap.size) (Kept.refl _ sJ) (p:=⟨w'.heap.size,0,none⟩) (λ_=>rfl) _;have afw:w56.heap[w'.heap.size]? =some (.cells #[.slice A2 (i+1) c2] aH (0,0)):=dL ZZ 0 _;clear_value w56;refine⟨aey.aN k56 (by omega) (by omega),A2,c2,afw,?_,((Gj.trans WA (λ_ _ h=>h.elim)).trans Ta (λk hk e=>absurd (ZT k e) (by omega))).tt k56,eA⟩;have e:(xs.take (i+1)).map (qu D)=(xs.take i).map (qu D)++ [nj.id]:=by
    rw [List.take_add_one,hx];simp [qu,PW]
   rw [e];exact Row.aN zc k56 (λk hk e=>by have:=(Row.bX zc hk).1;omega)
  ·rintro v R ⟨A,c,h1,h2,h3,h4⟩ sX
   have e7:jE ρ0 oC.heap.size= [(2,.pointer (some (aU w.heap.size))),(4,.slice none 0 0),(9,.pointer (some (aU w'.heap.size))),(30,.func (.func aS.id) #[] #[.pointer (some (aU vZ.heap.size))]),(4294967296,.agg #[.pointer (some ⟨oC.heap.size,0,none⟩)])]:=rfl;rw [e7,bu.mz];rw [List.take_of_length_le (Nat.le_refl _)]at h2;have NA:xs.length<=D.length:=Bq;refine⟨A,xs.length,c,by rw [aI h1];rfl,im h2.hs (by omega) λA2 c2 w59 JM Uz=>⟨A2,_,c2,rfl,⟨Uz.heap sX.mark (λh=>h),trivial⟩,?_⟩⟩;have hmk:=Uz.heap sX.mark (λh=>h);have kp:Kept (· =oC.heap.size) w59 (w59.putObj oC.heap.size (.deferred none)):=Kept.putAt _ _ _;have e:dP (xs.map (qu D))=fI D l:=Al λa=>by
    rw [List.mem_map];constructor
    ·rintro⟨j,hj,rfl⟩
     have hb:=((rh ws 0 j ho).1 hj).2;rw [Nat.mul_zero,Nat.sub_zero]at hb;obtain⟨h',vC,nj,xA,Dz⟩:=(sq j).1 hb;have:qu D j=nj.id:=by unfold qu;rw [xA]
     rw [this];exact⟨(Dz.mem W).1,h',vC,Dz⟩
    ·rintro⟨ha,h',hh',EX⟩
     obtain⟨nj,hnm,rfl⟩:=eV.1 ha;obtain⟨j,hj⟩:=List.mem_iff_getElem?.1 hnm;refine⟨j,(rh ws 0 j ho).2 ⟨by omega,?_⟩,by unfold qu;rw [hj]⟩;rw [Nat.mul_zero,Nat.sub_zero];exact(sq j).2 ⟨h',hh',nj,hj,EX⟩
   rw [e]at JM⊢;have mS:Kept Nil w w59:=(Nf.trans h3 (λk hk e=>by omega)).tt Uz;have hws:w.heap.size<=v.heap.size:=Nat.le_trans Nf.size h3.size;refine hK A2 c2 _ (Row.base (Row.apart JM kp (λcs t fr h=>by rw [hmk]at h;cases h)) λb hb=>Nat.le_trans hws (Row.bX JM hb).1) (mS.trans kp (λk hk e=>by omega))
end
section
variable{w w':World}{S F:Nat->Prop}{g bl c mb gb:Nat}{D:DG}{C:HT->List HT}{M:List NM}{K:Value->World->Prop}
theorem Da(G:GV w S F g D C bl c mb M)(hg:w.heap[gb]? =some (.cells #[.pointer (some ⟨g,0,none⟩)] jB (0,0))){A:Option Addr}{n cx:Nat}{l:List HT}(hl:HS w A n l)(hn:n<=400000)
 (hK:∀w' (x:Bool),(x=true↔∃p∈l,p∉ids D)->Kept Nil w w'->K (.bool x) w'):
 bJ prog fh.id #[.slice A n cx,.func (.func fO.id) #[] #[.pointer (some ⟨gb,0,none⟩)]] w K:=by
 have hlen:=hl.len;refine df.of (aF.of ?_);refine aF.cP (I:=λs w'=>∃i:Nat,s=(0,(i:Int))/\i<=n/\(∀p∈l.take i,p∈ids D)/\Kept Nil w w') (μ:=λs _=>((n:Int)-s.2).toNat) (s:=(0,0)) ⟨0,rfl,Nat.zero_le _,by simp,Kept.refl _ _⟩ ?_;rintro s w' ⟨i,rfl,hi,dr,kw⟩;refine Split.dec (λjT=>?_) (λgE=>?_)
 ·simp only at jT
  have eA:i<n:=by omega
  obtain⟨x,hx⟩:∃x,l[i]? =some x:=⟨_,List.getElem?_eq_getElem (by omega)⟩;refine(hl.same kw).load (i:=(i:Int)) (by omega) hx ?_;refine fO.of ?_;unfold fO.W;intro w3;have k3:Kept Nil w' w3:=(Kept.refl _ _).alloc _;have qy:w3.heap[w'.heap.size]? =some (.cells x.1 ai (0,0)):=aO w' _;clear_value w3;have Ph:=kw.tt k3;refine⟨some ⟨g,0,none⟩,by rw [aI (Ph.heap hg (λh=>h))];rfl,x.1,⟨x.2.1,Cells.bX qy⟩,se (G.same Ph) x λw7 k7=>⟨_,rfl,_,rfl,?_⟩⟩;have Ei:=Ph.tt k7;by_cases hm:x∈ids D
  ·refine Split.no (by rw [decide_eq_true hm];rfl) ?_
   simp only;rw [dO (n:=(i:Int)) (by omega) (by omega)];refine⟨(0,(i:Int)+1),rfl,⟨i+1,rfl,eA,λp hp=>?_,Ei⟩,by simp only;omega⟩;rcases(bV hx).1 hp with hp|rfl
   ·exact dr p hp
   ·exact hm
  ·refine Split.yes (by rw [decide_eq_false hm];rfl) ?_
   refine⟨(i:Int),rfl,?_⟩;exact hK w7 _ ⟨λ_=>⟨x,List.mem_of_getElem? hx,hm⟩,λ_=>decide_eq_true (by omega)⟩ Ei
 ·simp only at gE
  rw [bg,aF.dJ];rw [List.take_of_length_le (by omega)]at dr;exact⟨-1,rfl,hK w' _ ⟨λh=>absurd (of_decide_eq_true h) (by omega),λ⟨p,hp,hn⟩=>absurd (dr p hp) hn⟩ kw⟩
theorem lN{w:World}{a b:Nat}{ca cb:Array Value}{ta tb:TypeId}{fa fb:Nat×Nat}(ha:w.heap[a]? =some (.cells ca ta fa))(hb:w.heap[b]? =some (.cells cb tb fb))(gQ:ta≠tb):a≠b:=by
 rintro rfl;rw [ha]at hb;simp only [Option.some.injEq,Obj.cells.injEq]at hb;exact gQ hb.2.1
theorem GV.upd(G:GV w S F g D C bl c mb M)(W:lr D){q:Nat}{nd:DN}{m:NM}(hq:D[q]? =some nd)(hm:M[q]? =some m){A5:Option Addr}{n5 c5:Nat}{ch':List HT}
 (kT:Kept (λk=>bL m.cA=some k\/k=m.b) w w') (hb:w'.heap[m.b]? =some (.cells (iB nd.id {m with cA:=A5,cn:=n5,cc:=c5}) fC (0,0))) (gL:bY w' w.heap.size A5 n5 c5 ch'):
 GV w' (λk=>S k\/bL A5=some k) F g D (λx=>if x=nd.id then ch' else C x) bl c mb (M.set q {m with cA:=A5,cn:=n5,cc:=c5}):=by
 have N:=G.node q nd m hq hm;have Jc:q<M.length:=(lgeS hm).1;have qx:∀k,bL m.cA=some k->∃cur,w.heap[k]? =some (.cells cur ai (0,0)):=λk hk=>(Row.bX N.ch hk).2;have hF:∀k,F k->¬(bL m.cA=some k\/k=m.b):=λk hk e=>by
  rcases e with e|rfl
  ·exact G.Jh k (N.TZ k e) hk
  ·exact G.Jh _ N.iH hk
 have typ:∀ {k:Nat} {cs:Array Value} {t:TypeId},w.heap[k]? =some (.cells cs t (0,0))->t≠ai->t≠fC->¬(bL m.cA=some k\/k=m.b):=λh h1 h2 e=>by
  rcases e with e|rfl
  ·obtain⟨cur,hc⟩:=qx _ e
   exact lN h hc h1 rfl
  ·exact lN h N.bX h2 rfl
 have Iz:∀k,bL A5=some k->w.heap.size<=k:=λk hk=>(Row.bX gL hk).1;have iM:∀(i:Nat) m',(M.set q {m with cA:=A5,cn:=n5,cc:=c5})[i]? =some m'->(i=q/\m'= {m with cA:=A5,cn:=n5,cc:=c5})\/(i≠q/\M[i]? =some m'):=λi m' h=>by
  by_cases e:i=q
  ·subst e
   rw [List.getElem?_set_self Jc]at h;exact .inl ⟨rfl,(Option.some.inj h).symm⟩
  ·rw [List.getElem?_set_ne (Ne.symm e)]at h
   exact .inr ⟨e,h⟩
 refine⟨?_,?_,?_,by simpa using G.len,?_,?_,.inl G.jC,.inl G.vD,.inl G.xJ,?_,?_⟩
 ·exact kT.heap G.top (typ G.top (by decide) (by decide))
 ·have SJ:(M.set q {m with cA:=A5,cn:=n5,cc:=c5}).map (λm=>Value.pointer (some ⟨m.b,0,none⟩))=M.map λm=>Value.pointer (some ⟨m.b,0,none⟩):=by
   apply List.ext_getElem?;intro i;rw [List.getElem?_map,List.getElem?_map];by_cases e:i=q
   ·subst e
    rw [List.getElem?_set_self Jc,hm];rfl
   ·rw [List.getElem?_set_ne (Ne.symm e)]
  rw [SJ];refine Row.aN G.row kT (λk e=>?_);cases e;obtain⟨_,cur,hc⟩:=Row.bX G.row (k:=bl) rfl;exact typ hc (by decide) (by decide)
 ·refine G.map.aN kT (λe=>?_)
  obtain⟨es,clock,KZ,_⟩:=G.map.ex;rcases e with e|e
  ·obtain⟨cur,hc⟩:=qx _ e
   rw [hc]at KZ;cases KZ
  ·rw [e,N.bX]at KZ;cases KZ
 ·intro i nd' m' hi nC
  rcases iM i m' nC with⟨rfl,rfl⟩|⟨gQ,Yl⟩
  ·rw [hq]at hi
   cases hi;rw [if_pos rfl];exact⟨hb,.inl N.iH,N.ps.aN kT (λa ha=>hF _ (N.MV a ha)),N.MV,Row.base gL (λ_ _=>Nat.zero_le _),λk hk=>.inr hk,N.past.aN kT (λa ha=>hF _ (N.qY a ha)),N.qY,N.ok,N.bits,N.small⟩
  ·have N':=G.node i nd' m' hi Yl
   have hid:nd'.id≠nd.id:=λe=>gQ (W.inj hi hq e);rw [if_neg hid];have afl:m'.b≠m.b:=λe=>by
    have h1:=N'.bX;rw [e,N.bX]at h1;simp only [Option.some.injEq,Obj.cells.injEq]at h1;exact hid (HN h1.1).symm
   refine⟨kT.heap N'.bX (λe=>?_),.inl N'.iH,N'.ps.aN kT (λa ha=>hF _ (N'.MV a ha)),N'.MV,Row.aN N'.ch kT (λk hk e=>?_),λk hk=>.inl (N'.TZ k hk),N'.past.aN kT (λa ha=>hF _ (N'.qY a ha)),N'.qY,N'.ok,N'.bits,N'.small⟩
   ·rcases e with e|e
    ·obtain⟨cur,hc⟩:=qx _ e
     exact lN N'.bX hc (by decide) rfl
    ·exact afl e
   ·rcases e with e|rfl
    ·exact G.apart i q m' m Yl hm gQ k hk e
    ·obtain⟨cur,hc⟩:=(Row.bX N'.ch hk).2
     exact lN hc N.bX (by decide) rfl
 ·intro i j m1 m2 h1 h2 sY k Mr ql
  rcases iM i m1 h1 with⟨rfl,rfl⟩|⟨hi,vC⟩
  ·rcases iM j m2 h2 with⟨rfl,rfl⟩|⟨hj,xA⟩
   ·exact sY rfl
   ·have:=Iz k Mr
    have vA:j<D.length:=by rw [<-G.len];exact(lgeS xA).1
    obtain⟨cur,hc⟩:=(Row.bX (G.node j _ m2 (List.getElem?_eq_getElem vA) xA).ch ql).2;have:=bt hc;omega
  ·rcases iM j m2 h2 with⟨rfl,rfl⟩|⟨hj,xA⟩
   ·have:=Iz k ql
    have eA:i<D.length:=by rw [<-G.len];exact(lgeS vC).1
    obtain⟨cur,hc⟩:=(Row.bX (G.node i _ m1 (List.getElem?_eq_getElem eA) vC).ch Mr).2;have:=bt hc;omega
   ·exact G.apart i j m1 m2 vC xA sY k Mr ql
 ·intro k hk hf
  rcases hk with hk|hk
  ·exact G.Jh k hk hf
  ·have:=Iz k hk
   have:=G.low k (.inr hf);omega
 ·intro k hk
  rcases hk with(hk|hk)|hk
  ·exact Nat.lt_of_lt_of_le (G.low k (.inl hk)) kT.size
  ·obtain⟨cur,hc⟩:=(Row.bX gL hk).2
   exact bt hc
  ·exact Nat.lt_of_lt_of_le (G.low k (.inr hk)) kT.size
end
theorem Cg(h:HT)(m:NM)(A:Option Addr)(n c:Nat):(iB h m).setIfInBounds 33 (.slice A n c)=iB h {m with cA:=A,cn:=n,cc:=c}:=by
 have hs:=h.2.1;apply Array.ext_getElem?;intro i;unfold iB;rw [Array.getElem?_setIfInBounds,Array.getElem?_append,Array.getElem?_append];by_cases h1:i<h.1.size
 ·rw [if_neg (by omega),if_pos h1,if_pos h1]
 ·rw [if_neg h1,if_neg h1]
  by_cases h2:i=33
  ·subst h2
   rw [if_pos rfl,if_pos (by simp;omega),hs];rfl
  ·rw [if_neg (Ne.symm h2),hs]
   match i-32,show i-32≠1 by omega with
   |0,_=>rfl
   |2,_=>rfl
   |(k+3),_=>rfl
theorem Cf(h:HT)(m:NM)(A:Option Addr)(n c:Nat):(iB h m).setIfInBounds 34 (.slice A n c)=iB h {m with rA:=A,rn:=n,rc:=c}:=by
 have hs:=h.2.1;apply Array.ext_getElem?;intro i;unfold iB;rw [Array.getElem?_setIfInBounds,Array.getElem?_append,Array.getElem?_append];by_cases h1:i<h.1.size
 ·rw [if_neg (by omega),if_pos h1,if_pos h1]
 ·rw [if_neg h1,if_neg h1]
  by_cases h2:i=34
  ·subst h2
   rw [if_pos rfl,if_pos (by simp;omega),hs];rfl
  ·rw [if_neg (Ne.symm h2),hs]
   match i-32,show i-32≠2 by omega with
   |0,_=>rfl
   |1,_=>rfl
   |(k+3),_=>rfl
section
variable{w w0 w':World}{S F F1 S':Nat->Prop}{g bl c mb gb ib nb:Nat}{D:DG}{C:HT->List HT}{M:List NM}{K:Value->World->Prop}
noncomputable def kh(D:DG)(h:HT)(l:List HT):HT->List HT:=λx=>if x∈l then dP (fR D x++ [h])else fR D x
structure AL(w0 w':World)(S F1 S':Nat->Prop)(g:Nat)(D:DG)(h:HT)(l:List HT)(gb ib nb:Nat)(pA:Option Addr)(pc i bl c mb:Nat)(M:List NM)(rA:Option Addr)(rn rc:Nat)(ws:List Nat):Prop where
 G:GV w' S' F1 g D (kh D h (l.take i)) bl c mb M
 sub:∀k,S k->S' k
 new:∀k,S' k->S k\/w0.heap.size<=k
 node:w'.heap[nb]? =some (.cells (iB h ⟨nb,pA,l.length,pc,none,0,0,rA,rn,rc,ws⟩) fC (0,0))
 noN:¬S' nb
 row:mv w' nb rA rn rc ws
 ok:okW ws
 small:rn<=200
 noR:∀k,bL rA=some k->¬S' k
 bits:∀j,bit ws j=true↔∃p∈l.take i,∃nj,D[j]? =some nj/\(nj.id=p\/fU D nj.id p)
 gbx:w'.heap[gb]? =some (.cells #[.pointer (some ⟨g,0,none⟩)] jB (0,0))
 ibx:w'.heap[ib]? =some (.cells h.1 ai (0,0))
 noG:¬S' gb
 noI:¬S' ib
 hl:HS w' pA l.length l
 kp:Kept S w0 w'
theorem IX{h:HT}{l:List HT}{pA:Option Addr}{pc i:Nat}{rA:Option Addr}{rn rc:Nat}{ws:List Nat}{Q:aZ}
 (L:AL w0 w' S F1 S' g D h l gb ib nb pA pc i bl c mb M rA rn rc ws) (W:lr D) (hD:D.length<=10000) (wg:SS l) (gD:∀p∈l,p∈ids D) (Jf:∀k,F1 k->k<nb) (Mp:∀a,pA=some a->F1 a.block) (h0:w0.heap.size<=nb) (eA:i<l.length) (hll:l.length<=10000)
 (hQ:∀S2 M rA rn rc ws v,AL w0 v S F1 S2 g D h l gb ib nb pA pc (i+1) bl c mb M rA rn rc ws->Q .normal (b6.e1 ⟨gb,0,none⟩ ⟨ib,0,none⟩ 0 ⟨nb,0,none⟩ pA l.length pc (l.length:Int) ((i:Int)+1)) v):
 b6.B1 ⟨gb,0,none⟩ ⟨ib,0,none⟩ 0 ⟨nb,0,none⟩ pA l.length pc (l.length:Int) (i:Int) Q w':=by
 obtain⟨p,hp⟩:∃p,l[i]? =some p:=⟨_,List.getElem?_eq_getElem eA⟩;have rZ:=List.mem_of_getElem? hp;have ad3:=gD p rZ;refine Split.yes (decide_eq_true (by omega)) ?_;refine L.hl.load (i:=(i:Int)) (by omega) hp ?_;intro rP;obtain⟨uP,ly,lH⟩:=jt (w:=w') (z:=(Et 0)) (cs:=p.1) (t:=ai) (by rw [p.2.1];rfl);refine⟨⟨p.2.1,p.2.one,λj hj=>uP j (by rw [p.2.1];exact hj)⟩,?_⟩;intro tw
 replace ly:tw.heap[w'.heap.size]? =some (.cells p.1 ai (0,0)):=ly
 replace sF:Kept Nil w' tw:=lH
 clear_value tw;refine⟨some ⟨g,0,none⟩,by rw [aI (sF.heap L.gbx (λh=>h))];rfl,p.1,⟨p.2.1,Cells.bX ly⟩,?_⟩;refine xP (L.G.same sF) p λw40 x k40 hx=>⟨x,rfl,?_⟩;rcases hx with⟨rfl,ns⟩|⟨q,nd,m',hq,fE,nC,rfl⟩
 ·exact absurd ad3 ns
 intro Jr;have Nr:Kept Nil w' Jr:=(sF.tt k40).drew;have La:Jr.heap[w'.heap.size]? =some (.cells p.1 ai (0,0)):=k40.heap ly (λh=>h);clear_value Jr;have al4:=Nr.size;have G42:=L.G.same Nr;obtain⟨m,hm,Vb⟩:=G42.get hq;rw [nC]at hm;cases hm;have SC:=Nr.heap L.node (λh=>h);have BU:mv Jr nb rA rn rc ws:=Row.aN L.row Nr (λ_ _ h=>h);refine⟨rA,rn,rc,by rw [bO,Nat.zero_add,aI SC];exact Cj _ _,?_⟩;refine⟨_,_,_,zl Vb,some ⟨g,0,none⟩,by rw [aI (Nr.heap L.gbx (λh=>h))];rfl,?_⟩;refine⟨some mb,G42.at_,p.1,⟨p.2.1,Cells.bX La⟩,_,G42.map.zv p,?_⟩;rw [show pos p (ids D) 0=some q by rw [<-fE];exact W.pos_eq hq,Option.getD_some];have Jc:=(lgeS hq).1;have ym:=Vb.small;have alS:=L.small;have hrA:∀k,bL rA=some k->nb<=k/\k<w'.heap.size:=λk hk=>by
  obtain⟨h1,cur,hc⟩:=Row.bX L.row hk;exact⟨h1,bt hc⟩
 have aej:nb<w'.heap.size:=bt L.node;have O4:∀ {v:World} {A:Option Addr} {n c:Nat} {l:List Nat} {B:Nat},mv v B A n c l->∀ {k:Nat} {cs:Array Value} {t:TypeId},v.heap[k]? =some (.cells cs t (0,0))->t≠iA->¬bL A=some k:=λhr _ _ _ hk gQ e=>by
  obtain⟨_,cur,hc⟩:=Row.bX hr e;exact lN hk hc gQ rfl
 refine y8 BU L.ok (by omega) (by omega) Vb.past Vb.ok (by omega) (λa ha k hk e=>?_) λA2 n2 c2 l2 O1 vm aee amA Tw Kj afx=>⟨A2,n2,c2,rfl,?_⟩
 ·have h1:=Jf a.block (Vb.qY a ha)
  have h2:=(hrA k hk).1;omega
 have hnF:∀k,F1 k->¬bL rA=some k:=λk hk e=>by have:=Jf k hk;have:=(hrA k e).1;omega
 have G52:=G42.aN Kj (λk hk e=>L.noR k e hk) hnF;have Y8:=Kj.heap La (O4 BU La (by decide));have YN:=Nr.heap L.gbx (λh=>h);have Td:=Kj.heap YN (O4 BU YN (by decide));have YE:=Nr.heap L.ibx (λh=>h);have YD:=Kj.heap YE (O4 BU YE (by decide));have P0:=Kj.heap SC (O4 BU SC (by decide));have al3:=Kj.size;have Yt:=G52.map.zv p;rw [show pos p (ids D) 0=some q by rw [<-fE];exact W.pos_eq hq,Option.getD_some]at Yt;refine⟨Yt,⟨p.1,rfl,p.2.1,Cells.bX Y8⟩,G52.at_,by rw [aI Td];rfl,?_⟩;have ZU:∀k,bL A2=some k->bL rA=some k\/Jr.heap.size<=k:=afx;refine BR vm aee (by omega) (by omega) (by omega) λA3 n3 c3 l3 sJ zc aed amz Tv H4 Tz=>⟨A3,n3,c3,rfl,?_⟩;have EG:∀k,bL A2=some k->¬S' k:=λk hk hs=>by
  rcases ZU k hk with h|h
  ·exact L.noR k h hs
  ·have:=L.G.low k (.inl hs);omega
 have KX:∀k,F1 k->¬bL A2=some k:=λk hf hk=>by
  have:=Jf k hf;have:=(Row.bX vm hk).1;omega
 have G55:=G52.aN H4 (λk hk e=>EG k e hk) KX;have Of:=H4.heap Td (O4 vm Td (by decide));have YC:=H4.heap YD (O4 vm YD (by decide));have CN:=H4.heap P0 (O4 vm P0 (by decide));have al2:=H4.size;have ail:=wV h ⟨nb,pA,l.length,pc,none,0,0,rA,rn,rc,ws⟩;refine⟨by rw [bO,Nat.zero_add];exact eI CN (by omega),?_⟩;intro w57 Jp;have AD:Kept (· =nb) sJ w57:=by
  show Kept (· =nb) sJ (sJ.setCell ((⟨nb,0,none⟩:Addr).add 34) (.slice A3 n3 c3))
  exact Kept.setCell (S:=λk=>k=nb) (Kept.refl _ sJ) (by rw [fY];exact λ_=>rfl) _
 have Yb:w57.heap[nb]? =some (.cells (iB h ⟨nb,pA,l.length,pc,none,0,0,A3,n3,c3,l3⟩) fC (0,0)):=by
  show(sJ.setCell ((⟨nb,0,none⟩:Addr).add 34) (.slice A3 n3 c3)).heap[nb]? =_;rw [bO,Nat.zero_add,dL CN 34,Cf];rfl
 have Ki:Kept (· =nb) sJ Jp:=AD.drew;have Ya:Jp.heap[nb]? =some (.cells (iB h ⟨nb,pA,l.length,pc,none,0,0,A3,n3,c3,l3⟩) fC (0,0)):=Yb;clear_value Jp;clear Yb AD;have al1:=Ki.size;have G58:=G55.aN Ki (λk hk e=>L.noN (e▸hk)) (λk hk e=>by have:=Jf k hk;omega);have YM:=Ki.heap Of (lN Of CN (by decide));have S9:=Ki.heap YC (lN YC CN (by decide));have VG:mv Jp nb A3 n3 c3 l3:=Row.aN zc Ki (λk hk e=>by
  subst e;exact O4 zc CN (by decide) hk)
 obtain⟨m,hm,N58⟩:=G58.get hq;rw [nC]at hm;cases hm;refine⟨m'.cA,m'.cn,m'.cc,Au N58,h.1,⟨h.2.1,Cells.bX S9⟩,h.2.1,?_⟩;intro w62;have k62:Kept Nil Jp w62:=(Kept.refl _ _).alloc _;have Tu:HS w62 (some ⟨Jp.heap.size,0,none⟩) 1 [h]:=jy Jp h;clear_value w62;have G62:=G58.same k62;obtain⟨m,hm,Va⟩:=G62.get hq;rw [nC]at hm;cases hm;refine⟨Au Va,?_⟩;have Y2:=Va.ch.len;have GC:kh D h (l.take i) nd.id=fR D p:=by
  unfold kh;rw [fE,if_neg];intro jx;obtain⟨j,hj⟩:=List.mem_iff_getElem?.1 jx;rw [List.getElem?_take]at hj;split at hj
  ·have:=wg.get (by omega) hj hp
   rw [jS]at this;cases this
  ·cases hj
 have tB:=mP D λa=>nK D p a;have hcn:m'.cn<=10000:=by
  rw [<-Y2,GC];unfold fR;omega
 obtain⟨A7,c7,I4,adM,VF,aeP,afv⟩:=dp (cx:=1) aH Va.ch Tu (by omega) (Nat.zero_le _);have H0:Kept (λk=>bL m'.cA=some k) w62 I4:=Kept.grown (Kept.refl _ _) aeP (λk hk _=>hk);refine⟨A7,_,c7,I4,adM,?_⟩;have al0:=k62.size;have Xg:=H0.size;refine im VF.hs (by omega) λA5 c5 QQ JL k66=>⟨A5,_,c5,rfl,?_⟩;have alZ:=k66.size;have Yh:=H0.heap Va.bX (λe=>by
  obtain⟨_,cur,hc⟩:=Row.bX Va.ch e;exact lN Va.bX hc (by decide) rfl)
 have K2:=k66.heap Yh (λh=>h);refine⟨by rw [bO,Nat.zero_add];exact eI K2 (by rw [wV];omega),?_⟩;intro FK;have Wx:Kept (· =m'.b) QQ FK:=by
  show Kept (· =m'.b) QQ (QQ.setCell ((⟨m'.b,0,none⟩:Addr).add 33) (.slice A5 (dP (kh D h (l.take i) nd.id++ [h])).length c5))
  exact Kept.setCell (S:=λk=>k=m'.b) (Kept.refl _ QQ) (by rw [fY];exact λ_=>rfl) _
 have Yg:FK.heap[m'.b]? =some (.cells (iB nd.id {m' with cA:=A5,cn:=(dP (kh D h (l.take i) nd.id++ [h])).length,cc:=c5}) fC (0,0)):=by
  show(QQ.setCell ((⟨m'.b,0,none⟩:Addr).add 33) (.slice A5 (dP (kh D h (l.take i) nd.id++ [h])).length c5)).heap[m'.b]? =_;rw [bO,Nat.zero_add,dL K2 33,Cg]
 clear_value FK;have kT:Kept (λk=>bL m'.cA=some k\/k=m'.b) Jp FK:=
  (((k62.mono (S':=λk=>bL m'.cA=some k\/k=m'.b) (λ_ _ h=>h.elim)).trans H0 (λ_ _ h=>.inl h)).trans k66 (λ_ _ h=>h.elim)).trans Wx (λ_ _ h=>.inr h)
 have KN:bY FK Jp.heap.size A5 (dP (kh D h (l.take i) nd.id++ [h])).length c5 (dP (kh D h (l.take i) nd.id++ [h])):=
  Row.base (Row.aN JL Wx (λk hk e=>by
   subst e;obtain⟨_,cur,hc⟩:=Row.bX JL hk;exact lN K2 hc (by decide) rfl)) (λk hk=>by have:=(Row.bX JL hk).1;omega)
 have G69:=G58.upd W hq nC kT Yg KN;have Iz:∀k,bL A5=some k->Jp.heap.size<=k:=λk hk=>(Row.bX KN hk).1;have U0:∀k,(bL m'.cA=some k\/k=m'.b)->S' k:=λk e=>by
  rcases e with e|rfl
  ·exact N58.TZ k e
  ·exact N58.iH
 have hkf:(λx=>if x=nd.id then dP (kh D h (l.take i) nd.id++ [h])else kh D h (l.take i) x)=kh D h (l.take (i+1)):=by
  funext x
  by_cases hx:x=nd.id
  ·rw [if_pos hx,GC,hx,fE]
   unfold kh;rw [if_pos ((bV hp).2 (.inr rfl))]
  ·rw [if_neg hx]
   unfold kh;have:x∈l.take (i+1)↔x∈l.take i:=by
    rw [bV hp];exact⟨λe=>e.resolve_right (λe=>hx (by rw [fE];exact e)),.inl⟩
   by_cases hm:x∈l.take i
   ·rw [if_pos hm,if_pos (this.2 hm)]
   ·rw [if_neg hm,if_neg (λe=>hm (this.1 e))]
 rw [hkf]at G69;rw [dO (n:=(i:Int)) (by omega) (by omega)];have aiw:nb<Jp.heap.size:=bt Ya;have mS:Kept S w0 FK:=by
  have k1:=L.kp.trans Nr (λ_ _ h=>h.elim);have k2:=k1.trans Kj (λk hk e=>absurd (hrA k e).1 (by omega));have k3:=k2.trans H4 (λk hk e=>absurd (Row.bX vm e).1 (by omega));have k4:=k3.trans Ki (λk hk e=>by omega);exact k4.trans kT (λk hk e=>by
   rcases L.new k (U0 k e)with h|h
   ·exact h
   ·omega)
 refine hQ _ _ A3 n3 c3 l3 FK ⟨G69,λk hk=>.inl (L.sub k hk),λk hk=>?_,kT.heap Ya (λe=>L.noN (U0 _ e)),λe=>?_,Row.aN VG kT (λk hk e=>?_),aed,by omega,λk hk e=>?_,λj=>?_,
  kT.heap YM (λe=>L.noG (U0 _ e)),kT.heap S9 (λe=>L.noI (U0 _ e)),λe=>?_,λe=>?_,?_,mS⟩
 ·rcases hk with hk|hk
  ·exact L.new k hk
  ·have:=Iz k hk
   have:=L.kp.size;exact .inr (by omega)
 ·rcases e with e|e
  ·exact L.noN e
  ·have:=Iz _ e;omega
 ·have hs:=U0 k e
  rcases Tz k hk with h|h
  ·exact EG k h hs
  ·have:=L.G.low k (.inl hs);omega
 ·have hk3:k<sJ.heap.size:=by
   obtain⟨_,cur,hc⟩:=Row.bX zc hk;exact bt hc
  rcases e with e|e
  ·rcases Tz k hk with h|h
   ·exact EG k h e
   ·have:=L.G.low k (.inl e);omega
  ·have:=Iz _ e;omega
 ·rw [Tv,Bool.or_eq_true,Tw,Bool.or_eq_true,L.bits,Vb.bits,decide_eq_true_iff]
  constructor
  ·rintro((⟨p',h1,h2⟩|⟨nj,h1,h2⟩)|rfl)
   ·exact⟨p',(bV hp).2 (.inl h1),h2⟩
   ·exact⟨p,(bV hp).2 (.inr rfl),nj,h1,.inr (fE▸h2)⟩
   ·exact⟨p,(bV hp).2 (.inr rfl),nd,hq,.inl fE⟩
  ·rintro⟨p',h1,nj,h2,h3⟩
   rcases(bV hp).1 h1 with h1|rfl
   ·exact .inl (.inl ⟨p',h1,nj,h2,h3⟩)
   ·rcases h3 with h3|h3
    ·exact .inr (W.inj h2 hq (h3.trans fE.symm))
    ·exact .inl (.inr ⟨nj,h2,fE▸h3⟩)
 ·rcases e with e|e
  ·exact L.noG e
  ·have:=Iz _ e;have:=bt YM;omega
 ·rcases e with e|e
  ·exact L.noI e
  ·have:=Iz _ e;have:=bt S9;omega
 ·have hb:∀a,pA=some a->F1 a.block/\a.block<nb:=λa ha=>⟨Mp a ha,Jf _ (Mp a ha)⟩
  have k1:=L.hl.same Nr;have k2:=k1.aN Kj (λa ha=>hnF _ (hb a ha).1);have k3:=k2.aN H4 (λa ha=>KX _ (hb a ha).1);have k4:=k3.aN Ki (λa ha e=>by have:=(hb a ha).2;omega);exact k4.aN kT (λa ha e=>L.G.Jh _ (U0 _ e) (hb a ha).1)
end
theorem Vx:Bu prog nD gI 1 8:=⟨by kernel_rfl,by kernel_rfl⟩
theorem LI:U8 prog fC=some ([(0,32),(32,1),(33,1),(34,1)],List.replicate 32 (.int .u8 0)++ [.slice none 0 0,.slice none 0 0,.slice none 0 0]):=by kernel_rfl
theorem LG(h:HT)(b:Nat)(A:Option Addr)(n c:Nat):prog.built fC [(0,.agg h.1),(1,.slice A n c)]=some (iB h ⟨b,A,n,c,none,0,0,none,0,0,[]⟩):=by
 have hs:=h.2.1;rw [pC LI,j0 (off:=0) (size:=32) rfl (by simpa [Value.cells]using hs) (by simp),j0 (off:=32) (size:=1) rfl rfl (by
  rw [List.size_toArray,nV (by simp [Value.cells,hs])];simp)]
 simp only [Instr.fill,Option.some.injEq];apply Array.ext';unfold jl iB;simp [Value.cells,hs];rw [List.drop_append];simp [hs]
theorem IL(h:HT)(b:Nat):prog.built fC [(0,.agg h.1)]=some (iB h ⟨b,none,0,0,none,0,0,none,0,0,[]⟩):=by
 have hs:=h.2.1;rw [pC LI,j0 (off:=0) (size:=32) rfl (by simpa [Value.cells]using hs) (by simp)];simp only [Instr.fill,Option.some.injEq];apply Array.ext';unfold jl iB;simp [Value.cells,hs]
section
variable{D:DG}{h:HT}{l:List HT}
theorem Fp(W:lr D)(hn:h∉ids D){x:HT}:kh D h l x=fR (D++ [⟨h,l⟩]) x:=by
 have jx:∀a,a∈fR (D++ [⟨h,l⟩]) x↔(a∈fR D x\/(a=h/\x∈l)):=λa=>by
  unfold fR;rw [iX,iX,ph,mU,List.mem_append,List.mem_singleton];constructor
  ·rintro⟨h1,h2|⟨h2,h3⟩⟩
   ·exact .inl ⟨(fU.mem W (.one h2)).2,h2⟩
   ·exact .inr ⟨h2.symm,h3⟩
  ·rintro(⟨h1,h2⟩|⟨rfl,h2⟩)
   ·exact⟨.inl h1,.inl h2⟩
   ·exact⟨.inr rfl,.inr ⟨rfl,h2⟩⟩
 unfold kh;by_cases vx:x∈l
 ·rw [if_pos vx]
  refine(z7 (l:=fR (D++ [⟨h,l⟩]) x) (jL _) λa=>?_).symm;rw [jx,List.mem_append,List.mem_singleton];exact⟨λe=>e.imp (λe=>e) (λe=>e.1),λe=>e.imp (λe=>e) (λe=>⟨e,vx⟩)⟩
 ·rw [if_neg vx]
  refine Bh (jL _) (jL _) λa=>?_;have:=jx a;unfold fR pick at this⊢;rw [this];exact⟨.inl,λe=>e.resolve_right (λe=>vx e.2)⟩
theorem IK(W:lr D)(hn:h∉ids D)(gD:∀p∈l,p∈ids D):fR (D++ [⟨h,l⟩]) h= []:=by
 cases hc:fR (D++ [⟨h,l⟩]) h with
 |nil=>rfl
 |cons b t=>
  exfalso;have:b∈fR (D++ [⟨h,l⟩]) h:=by rw [hc];simp
  rcases ph.1 (iX.1 this).2 with h1|⟨_,h2⟩
  ·exact hn (fU.mem W (.one h1)).1
  ·exact hn (gD h h2)
theorem LJ(W:lr D)(hn:h∉ids D){x:HT}(hx:x∈ids D)(j:Nat):(∃nj,(D++ [⟨h,l⟩])[j]? =some nj/\fU (D++ [⟨h,l⟩]) nj.id x)↔∃nj,D[j]? =some nj/\fU D nj.id x:=by
 constructor
 ·rintro⟨nj,h1,h2⟩
  have xA:=(kL W (nd:=⟨h,l⟩) hn hx).1 h2;rw [List.getElem?_append]at h1;split at h1
  ·exact⟨nj,h1,xA⟩
  ·exfalso
   have:nj=⟨h,l⟩:=by
    cases hk:j-D.length with
    |zero=>rw [hk]at h1;simpa using h1.symm
    |succ k=>rw [hk]at h1;simp at h1
   subst this;exact hn (xA.mem W).1
 ·rintro⟨nj,h1,h2⟩
  exact⟨nj,by rw [List.getElem?_append_left (lgeS h1).1];exact h1,(kL W (nd:=⟨h,l⟩) hn hx).2 h2⟩
theorem LK(W:lr D)(hn:h∉ids D)(gD:∀p∈l,p∈ids D)(hs:SS l)(j:Nat):
 (∃nj,(D++ [⟨h,l⟩])[j]? =some nj/\fU (D++ [⟨h,l⟩]) nj.id h)↔∃p∈l,∃nj,D[j]? =some nj/\(nj.id=p\/fU D nj.id p):=by
 have W':lr (D++ [⟨h,l⟩]):=W.snoc (nd:=⟨h,l⟩) hn gD hs;have iM:(D++ [⟨h,l⟩])[D.length]? =some ⟨h,l⟩:=by rw [List.getElem?_append_right (Nat.le_refl _),Nat.sub_self];rfl
 have key:∀a,fU (D++ [⟨h,l⟩]) a h↔∃p∈l,a=p\/fU D a p:=λa=>by
  rw [GY W' iM a];constructor
  ·rintro⟨p,hp,e⟩
   exact⟨p,hp,e.imp (λe=>e) (λe=>(kL W (nd:=⟨h,l⟩) hn (gD p hp)).1 e)⟩
  ·rintro⟨p,hp,e⟩
   exact⟨p,hp,e.imp (λe=>e) (λe=>(kL W (nd:=⟨h,l⟩) hn (gD p hp)).2 e)⟩
 constructor
 ·rintro⟨nj,h1,h2⟩
  obtain⟨p,hp,e⟩:=(key _).1 h2;have hid:nj.id∈ids D:=by
   rcases e with e|e
   ·rw [e];exact gD p hp
   ·exact(e.mem W).1
  rw [List.getElem?_append]at h1;split at h1
  ·exact⟨p,hp,nj,h1,e⟩
  ·exfalso
   have:nj=⟨h,l⟩:=by
    cases hk:j-D.length with
    |zero=>rw [hk]at h1;simpa using h1.symm
    |succ k=>rw [hk]at h1;simp at h1
   subst this;exact hn hid
 ·rintro⟨p,hp,nj,h1,e⟩
  exact⟨nj,by rw [List.getElem?_append_left (lgeS h1).1];exact h1,(key _).2 ⟨p,hp,e⟩⟩
end
section
variable{w w':World}{S F F':Nat->Prop}{g bl c mb:Nat}{D:DG}{C:HT->List HT}{M:List NM}{K:Value->World->Prop}
theorem GV.VX(G:GV w S F g D C bl c mb M)(hf:∀k,F k->F' k)(hd:∀k,S k->¬F' k)(hl:∀k,F' k->k<w.heap.size):GV w S F' g D C bl c mb M:=
 ⟨G.top,G.row,G.map,G.len,λi nd m h1 h2=>by
   have N:=G.node i nd m h1 h2;exact⟨N.bX,N.iH,N.ps,λa ha=>hf _ (N.MV a ha),N.ch,N.TZ,N.past,λa ha=>hf _ (N.qY a ha),N.ok,N.bits,N.small⟩,G.apart,G.jC,G.vD,G.xJ,hd,λk hk=>hk.elim (λh=>G.low k (.inl h)) (hl k)⟩
theorem OY{w0:World}{F1 S':Nat->Prop}{h:HT}{l:List HT}{gb ib nb:Nat}{pA:Option Addr}{pc i:Nat}{rA:Option Addr}{rn rc:Nat}{ws:List Nat}
 (L:AL w0 w S F1 S' g D h l gb ib nb pA pc i bl c mb M rA rn rc ws) (W:lr D) (hD:D.length<=5000) (wg:SS l) (gD:∀p∈l,p∈ids D) (hn:h∉ids D) (Jf:∀k,F1 k->k<nb) (Mp:∀a,pA=some a->F1 a.block) (h0:w0.heap.size<=nb) (eA:l.length<=i)
 (hK:∀v S2 F2,G5 v S2 F2 g (D++ [⟨h,l⟩])->Kept S w0 v->(∀k,S2 k->S k\/w0.heap.size<=k)->(∀k,F2 k->F1 k\/w0.heap.size<=k)->K (.int .i64 0) v):
 b6.Bg ⟨gb,0,none⟩ ⟨ib,0,none⟩ 0 ⟨nb,0,none⟩ pA l.length pc (l.length:Int) (i:Int) K w:=by
 have Ml:l.take i=l:=List.take_of_length_le eA;have hG:=L.G;rw [Ml]at hG;have Qp:=L.bits;rw [Ml]at Qp;unfold b6.Bg;intro Uj;have Pm:Kept Nil w Uj:=(Kept.refl _ _).drew;clear_value Uj;have wk:=hG.same Pm;have Oe:=Pm.heap L.gbx (λh=>h);have KY:=Pm.heap L.node (λh=>h);have F5:mv Uj nb rA rn rc ws:=Row.aN L.row Pm (λ_ _ h=>h);refine⟨some ⟨g,0,none⟩,by rw [aI Oe];rfl,some mb,wk.at_,h.1,⟨h.2.1,Cells.bX (Pm.heap L.ibx (λh=>h))⟩,some ⟨g,0,none⟩,by rw [aI Oe];rfl,?_⟩;refine⟨_,_,_,wk.nodes,?_⟩;obtain⟨w85,Xp,V7,k85⟩:=wk.map.put hn;rw [iL]at Xp;refine⟨w85,Xp,?_⟩;intro MJ;have Ry:Kept (· =mb) Uj MJ:=k85.drew;have Pe:IsMap MJ mb (ids D++ [h]):=V7.aN ((Kept.refl Nil w85).drew) (λh=>h);clear_value MJ;have MM:∀ {v:World} {k:Nat} {cs:Array Value} {t:TypeId},IsMap v mb (ids D)->v.heap[k]? =some (.cells cs t (0,0))->k≠mb:=λhm hk e=>by
  obtain⟨es,clock,KZ,_⟩:=hm.ex;rw [e,KZ]at hk;cases hk
 have Tc:=Ry.heap Oe (MM wk.map Oe);have amy:=Ry.heap KY (MM wk.map KY);have KF:=Ry.heap wk.top (MM wk.map wk.top);have VE:Row MJ 0 gI 1 (some ⟨bl,0,none⟩) D.length c (M.map λm=>.pointer (some ⟨m.b,0,none⟩)):=Row.aN wk.row Ry (λk hk e=>by
  obtain⟨_,cur,hc⟩:=Row.bX wk.row hk;exact MM wk.map hc e)
 have acj:mv MJ nb rA rn rc ws:=Row.aN F5 Ry (λk hk e=>by
  obtain⟨_,cur,hc⟩:=Row.bX F5 hk;exact MM wk.map hc e)
 refine⟨some ⟨g,0,none⟩,by rw [aI Tc];rfl,some ⟨g,0,none⟩,by rw [aI Tc];rfl,?_⟩;refine⟨some ⟨bl,0,none⟩,D.length,c,by rw [add_zero,aI KF];rfl,?_⟩;intro QO;have Uy:Kept Nil MJ QO:=(Kept.refl _ _).alloc _;have afu:QO.heap[MJ.heap.size]? =some (.cells #[.pointer (some ⟨nb,0,none⟩)] gI (0,0)):=aO MJ _;clear_value QO;have Od:=Uy.heap Tc (λh=>h);have Ev:=Uy.heap KF (λh=>h);refine⟨by rw [add_zero,aI Ev];rfl,by rw [aI Od];rfl,by rw [aI Od];rfl,?_⟩;have JJ:Row QO 0 gI 1 (some ⟨bl,0,none⟩) D.length c (M.map λm=>.pointer (some ⟨m.b,0,none⟩)):=Row.aN VE Uy (λ_ _ h=>h);obtain⟨A98,U7,QN,adK,JI,YH,aft⟩:=gU (P:=prog) (t:=nD) (ty:=nD) (bytes:=8) Vx JJ (a:=⟨MJ.heap.size,0,none⟩) (m:=1) (cx:=1) (news:= [.pointer (some ⟨nb,0,none⟩)]) rfl
  (λj u hj=>by rw [bO,Nat.zero_add,aI afu];simpa using hj) (λu hu=>by simp at hu;subst hu;rfl) (by omega) (by unfold maxLen;omega) (Nat.zero_le _)
 have k93:Kept (· =bl) QO QN:=Kept.grown (S:=λk=>k=bl) (Kept.refl _ _) YH (λk hk _=>by cases hk;rfl);refine⟨A98,_,U7,QN,adK,?_⟩;have tyL:∀ {k:Nat} {cs:Array Value} {t:TypeId},QO.heap[k]? =some (.cells cs t (0,0))->t≠gI->k≠bl:=λhk gQ=>by
  obtain⟨_,cur,hc⟩:=Row.bX JJ (k:=bl) rfl;exact lN hk hc gQ
 have aeO:=k93.heap Od (tyL Od (by decide));have AJ:=k93.heap Ev (tyL Ev (by decide));refine⟨by rw [aI aeO];rfl,by rw [add_zero];exact eI AJ (by simp),?_⟩;intro L7;have k95:Kept (· =g) QN L7:=by
  show Kept (· =g) QN (QN.setCell ((⟨g,0,none⟩:Addr).add 0) (.slice A98 (D.length+1) U7))
  exact Kept.setCell (S:=λk=>k=g) (Kept.refl _ QN) (by rw [fY];exact λ_=>rfl) _
 have Sa:L7.heap[g]? =some (.cells #[.slice A98 (D.length+1) U7,.map (some mb)] ju (0,0)):=by
  show(QN.setCell ((⟨g,0,none⟩:Addr).add 0) (.slice A98 (D.length+1) U7)).heap[g]? =_;rw [add_zero,dL AJ 0];rfl
 clear_value L7;obtain⟨U9,rfl⟩:=Row.some JI (by omega);have alX:=Ry.size;have alW:=Uy.size;have mS:Kept (λk=>k=g\/k=bl\/k=mb) Uj L7:=
  (((Ry.mono (S':=λk=>k=g\/k=bl\/k=mb) (λ_ _ h=>.inr (.inr h))).trans Uy (λ_ _ h=>h.elim)).trans k93 (λ_ _ h=>.inr (.inl h))).trans k95 (λ_ _ h=>.inl h)
 have hTF:∀k,F1 k->¬(k=g\/k=bl\/k=mb):=λk hk e=>by
  rcases e with rfl|rfl|rfl
  ·exact wk.Jh _ wk.jC hk
  ·exact wk.Jh _ wk.vD hk
  ·exact wk.Jh _ wk.xJ hk
 have ty:∀ {k:Nat} {cs:Array Value} {t:TypeId},Uj.heap[k]? =some (.cells cs t (0,0))->t≠ju->t≠gI->¬(k=g\/k=bl\/k=mb):=λhk h1 h2 e=>by
  rcases e with e|e|e
  ·rw [e]at hk
   exact lN hk wk.top h1 rfl
  ·rw [e]at hk
   obtain⟨_,cur,hc⟩:=Row.bX wk.row (k:=bl) rfl;exact lN hk hc h2 rfl
  ·exact MM wk.map hk e
 have Ey:Row L7 0 gI 1 (some ⟨U9,0,none⟩) (D.length+1) U7 ((M.map λm=>.pointer (some ⟨m.b,0,none⟩))++ [.pointer (some ⟨nb,0,none⟩)]):=Row.aN JI k95 (λk hk e=>by
  obtain⟨_,cur,hc⟩:=Row.bX JI hk;exact lN hc AJ (by decide) e)
 have V1:IsMap L7 mb (ids D++ [h]):=by
  obtain⟨es,clock,KZ,_⟩:=Pe.ex;have h1:=Pe.aN Uy (λh=>h);have h2:=h1.aN k93 (λe=>by
   obtain⟨_,cur,hc⟩:=Row.bX JJ (k:=bl) rfl;obtain⟨_,_,nC,_⟩:=h1.ex;rw [e,hc]at nC;cases nC)
  exact h2.aN k95 (λe=>by
   obtain⟨_,_,nC,_⟩:=h2.ex;rw [e,AJ]at nC;cases nC)
 have SB:=mS.heap KY (ty KY (by decide) (by decide));have Ae:mv L7 nb rA rn rc ws:=Row.aN F5 mS (λk hk e=>by
  obtain⟨_,cur,hc⟩:=Row.bX F5 hk;exact ty hc (by decide) (by decide) e)
 have K3:(D++ [(⟨h,l⟩:DN)]).length=D.length+1:=by simp
 have Zl:U9=bl\/QO.heap.size<=U9:=by
  rcases aft U9 rfl with e|e
  ·exact .inl (by cases e;rfl)
  ·exact .inr e
 have nS:=L.kp.size;have alY:=Pm.size;have aej:=bt KY;have Xn:∀k,bL rA=some k->nb<=k/\k<L7.heap.size:=λk hk=>by
  obtain⟨h1,cur,hc⟩:=Row.bX Ae hk;exact⟨h1,bt hc⟩
 have iM:∀ {X:Type} (xs:List X) (y:X) (j:Nat) (z:X),(xs++ [y])[j]? =some z->(j<xs.length/\xs[j]? =some z)\/(j=xs.length/\z=y):=λxs y j z e=>by
  rw [List.getElem?_append]at e;split at e
  ·rename_i dD;exact .inl ⟨dD,e⟩
  ·rename_i gE
   cases hk:j-xs.length with
   |zero=>rw [hk]at e;exact .inr ⟨by omega,by simpa using e.symm⟩
   |succ k=>rw [hk]at e;simp at e
 refine hK L7 (λk=>S' k\/k=nb\/k=U9) (λk=>F1 k\/bL rA=some k) ⟨U9,U7,mb,M++ [⟨nb,pA,l.length,pc,none,0,0,rA,rn,rc,ws⟩],?_⟩ ?_ ?_ ?_
 ·refine⟨by rw [K3];exact Sa,?_,by rw [mU];exact V1,by simp [hG.len],λj nd m h1 h2=>?_,λj j' m m' h1 h2 gQ k hk qm=>?_,.inl hG.jC,.inr (.inr rfl),.inl hG.xJ,λk hk hf=>?_,λk hk=>?_⟩
  ·rw [K3,List.map_append]
   exact Ey
  ·rcases iM _ _ _ _ h1 with⟨hj,vC⟩|⟨hj,rfl⟩
   ·rcases iM _ _ _ _ h2 with⟨_,xA⟩|⟨xt,_⟩
    ·have N:=wk.node j nd m vC xA
     have hid:nd.id∈ids D:=eV.2 ⟨nd,List.mem_of_getElem? vC,rfl⟩;have hF:∀k,F1 k->¬(k=g\/k=bl\/k=mb):=hTF;rw [<-Fp W hn];refine⟨mS.heap N.bX (ty N.bX (by decide) (by decide)),.inl N.iH,N.ps.aN mS (λa ha=>hF _ (N.MV a ha)),λa ha=>.inl (N.MV a ha),Row.aN N.ch mS (λk hk e=>?_),λk hk=>.inl (N.TZ k hk),N.past.aN mS (λa ha=>hF _ (N.qY a ha)),λa ha=>.inl (N.qY a ha),N.ok,λj=>?_,N.small⟩
     ·obtain⟨cur,hc⟩:=(Row.bX N.ch hk).2
      exact ty hc (by decide) (by decide) e
     ·rw [N.bits,LJ W hn hid]
    ·rw [hG.len]at xt;omega
   ·rcases iM _ _ _ _ h2 with⟨xt,_⟩|⟨_,rfl⟩
    ·rw [hG.len]at xt;omega
    ·rw [IK W hn gD]
     refine⟨SB,.inr (.inl rfl),(L.hl.same Pm).aN mS (λa ha=>hTF _ (Mp a ha)),λa ha=>.inl (Mp a ha),bY.nil _ _,(λk hk=>by cases hk),Ae.us,λa ha=>.inr (congrArg bL ha),L.ok,λj=>?_,L.small⟩;rw [Qp,LK W hn gD wg]
  ·rcases iM _ _ _ _ h1 with⟨_,vC⟩|⟨_,rfl⟩
   ·rcases iM _ _ _ _ h2 with⟨_,xA⟩|⟨_,rfl⟩
    ·exact hG.apart j j' m m' vC xA gQ k hk qm
    ·cases qm
   ·cases hk
  ·rcases hk with hk|rfl|rfl
   ·rcases hf with hf|hf
    ·exact hG.Jh k hk hf
    ·exact L.noR k hf hk
   ·rcases hf with hf|hf
    ·have:=Jf k hf;omega
    ·obtain⟨_,cur,hc⟩:=Row.bX Ae hf
     exact lN SB hc (by decide) rfl
   ·rcases hf with hf|hf
    ·rcases Zl with e|e
     ·rw [e]at hf;exact hG.Jh _ hG.vD hf
     ·have:=Jf _ hf;omega
    ·obtain⟨_,cur,hc⟩:=Row.bX Ae hf
     obtain⟨_,aad,vS⟩:=Row.bX Ey (k:=k) rfl;exact lN vS hc (by decide) rfl
  ·have alV:=mS.size
   rcases hk with(hk|rfl|rfl)|hk|hk
   ·have:=wk.low k (.inl hk);omega
   ·exact bt SB
   ·obtain⟨_,aad,vS⟩:=Row.bX Ey (k:=k) rfl
    exact bt vS
   ·have:=wk.low k (.inr hk);omega
   ·exact(Xn k hk).2
 ·exact(L.kp.trans Pm (λ_ _ h=>h.elim)).trans mS (λk hk e=>by
   have hs:S' k:=by
    rcases e with rfl|rfl|rfl
    ·exact hG.jC
    ·exact hG.vD
    ·exact hG.xJ
   rcases L.new k hs with h|h
   ·exact h
   ·omega)
 ·intro k hk
  rcases hk with hk|rfl|rfl
  ·exact L.new k hk
  ·exact .inr h0
  ·rcases Zl with e|e
   ·rw [e];exact L.new _ hG.vD
   ·exact .inr (by omega)
 ·intro k hk
  rcases hk with hk|hk
  ·exact .inl hk
  ·exact .inr (by have:=(Xn k hk).1;omega)
theorem OM(G:GV w S F g D (fR D) bl c mb M)(W:lr D)(hD:D.length<=5000){A:Option Addr}{n cx:Nat}{lp:List HT}(hl:HS w A n lp)(hn:n<=10000)(h:HT)
 (hK:∀v S2 F2,G5 v S2 F2 g (nP D h lp)->Kept S w v->(∀k,S2 k->S k\/w.heap.size<=k)->(∀k,F2 k->F k\/w.heap.size<=k)->K (.int .i64 (fg D h lp)) v):
 bJ prog b6.id #[.pointer (some ⟨g,0,none⟩),.agg h.1,.slice A n cx] w K:=by
 have hlen:=hl.len;have ns:∀v,Kept Nil w v->∀e,fg D h lp=e->e≠0->K (.int .i64 e) v:=λv k e he gQ=>by
  have:=hK v S F ?_ (k.mono λ_ _ h=>h.elim) (λ_ h=>.inl h) (λ_ h=>.inl h)
  ·rw [he]at this;exact this
  ·unfold nP
   rw [if_neg (by rw [he];exact gQ)];exact⟨bl,c,mb,M,G.same k⟩
 refine b6.of ?_;unfold b6.W;intro w4 w5;have k4:Kept Nil w w4:=(Kept.refl _ _).alloc _;have GI:w4.heap[w.heap.size]? =some (.cells #[.pointer (some ⟨g,0,none⟩)] jB (0,0)):=aO w _;have k5:Kept Nil w4 w5:=(Kept.refl _ _).alloc _;have Ob:w5.heap[w4.heap.size]? =some (.cells h.1 ai (0,0)):=aO w4 _;have Og:=k5.heap GI (λh=>h);clear_value w5;have Pg:Kept Nil w w5:=k4.tt k5;have YI:w.heap.size<w4.heap.size:=bt GI;have am0:w4.heap.size<w5.heap.size:=bt Ob;clear_value w4;refine im (hl.same Pg) (by omega) λJk c13 w7 DY k7=>⟨Jk,_,c13,rfl,?_⟩;have Ei:Kept Nil w w7:=Pg.tt k7;have YL:=k7.heap Og (λh=>h);have hi7:=k7.heap Ob (λh=>h);have G7:=G.same Ei;have Ew:(dP lp).length<=n:=by have:=oI lp;omega
 refine⟨some ⟨g,0,none⟩,by rw [aI YL];rfl,uV G7 ⟨true,rfl,Split.no rfl ?_⟩⟩;refine⟨some ⟨g,0,none⟩,by rw [aI YL];rfl,h.1,⟨h.2.1,Cells.bX hi7⟩,se G7 h λnp pU=>⟨_,rfl,?_⟩⟩;have Ke:=Ei.tt pU;by_cases hm:h∈ids D
 ·refine Split.yes (decide_eq_true hm) (ns np Ke 7 ?_ (by omega))
  unfold fg;rw [if_pos hm]
 refine Split.no (decide_eq_false hm) ?_;by_cases h0:(dP lp).length=0
 ·refine Split.yes (by simp [h0]) (ns np Ke 9 ?_ (by omega))
  unfold fg;rw [if_neg hm,if_pos (.inl h0)]
 refine Split.no (beq_eq_false_iff_ne.2 (by omega)) ?_;by_cases h1:(dP lp).length≠n
 ·refine Split.yes (bne_iff_ne.2 (by omega)) (ns np Ke 9 ?_ (by omega))
  unfold fg;rw [if_neg hm,if_pos (.inr (by omega))]
 replace h1:(dP lp).length=n:=by omega
 refine Split.no (by rw [h1];simp) ?_;have YO:=pU.heap YL (λh=>h);have zg:=Row.aN DY pU (λ_ _ h=>h);refine Da (G.same Ke) YO (bY.hs zg) (by omega) λpI x hx yi=>⟨x,rfl,?_⟩;have Kc:=Ke.tt yi;cases x with
 |true=>
  refine Split.yes rfl (ns pI Kc 6 ?_ (by omega));unfold fg;rw [if_neg hm,if_neg (by omega),if_pos (hx.1 rfl)]
 |false=>
  have gD:∀p∈dP lp,p∈ids D:=λp hp=>Classical.byContradiction λaeh=>by have:=hx.2 ⟨p,hp,aeh⟩;cases this
  have Y7:fg D h lp=0:=by
   unfold fg;rw [if_neg hm,if_neg (by omega),if_neg (λ⟨p,hp,Mo⟩=>Mo (gD p hp))]
  have hD':nP D h lp=D++ [⟨h,dP lp⟩]:=by unfold nP;rw [if_pos Y7]
  rw [Y7,hD']at hK;refine Split.no rfl ?_;have YF:=yi.heap (pU.heap hi7 (λh=>h)) (λh=>h);have Th:=yi.heap YO (λh=>h);have zf:bY pI w5.heap.size Jk (dP lp).length c13 (dP lp):=Row.aN zg yi (λ_ _ h=>h);refine⟨h.1,⟨h.2.1,Cells.bX YF⟩,?_⟩;rw [LG h pI.heap.size];refine Is.mk rfl ?_;intro L9;have RE:Kept Nil pI L9:=(Kept.refl _ _).alloc _;have aek:L9.heap[pI.heap.size]? =some (.cells (iB h ⟨pI.heap.size,Jk,(dP lp).length,c13,none,0,0,none,0,0,[]⟩) fC (0,0)):=aO pI _;clear_value L9;have Wf:=Kc.tt RE;have TP:∀k,bL Jk=some k->w5.heap.size<=k/\k<pI.heap.size:=λk hk=>by
   obtain⟨e1,cur,hc⟩:=Row.bX zf hk;exact⟨e1,bt hc⟩
  have NJ:=Pg.size;have al9:=Kc.size;have Jf:∀k,(F k\/bL Jk=some k)->k<pI.heap.size:=λk hk=>by
   rcases hk with hk|hk
   ·have:=G.low k (.inr hk);omega
   ·exact(TP k hk).2
  have Oy:∀k,S k->k<w.heap.size:=λk hk=>G.low k (.inl hk);have G23:GV L9 S (λk=>F k\/bL Jk=some k) g D (fR D) bl c mb M:=(G.same Wf).VX (λ_ h=>.inl h) (λk hs e=>by
   rcases e with e|e
   ·exact G.Jh k hs e
   ·have:=Oy k hs;have:=(TP k e).1;omega) (λk hk=>by have:=Jf k hk;have:=RE.size;omega)
  have GC:kh D h ((dP lp).take 0)=fR D:=by
   funext y
   unfold kh;rw [if_neg (by simp)]
  have L0:AL w L9 S (λk=>F k\/bL Jk=some k) S g D h (dP lp) w.heap.size w4.heap.size pI.heap.size Jk c13 0 bl c mb M none 0 0 []:=
   ⟨by rw [GC];exact G23,λ_ h=>h,λ_ h=>.inl h,aek,λe=>by have:=Oy _ e;omega,Row.nil _ _ _ _,by simp [okW],by omega,(λk hk=>by cases hk),λj=>by simp [AZ],RE.heap Th (λh=>h),RE.heap YF (λh=>h),
     λe=>by have:=Oy _ e;omega,λe=>by have:=Oy _ e;omega,(zf.hs).same RE,Wf.mono λ_ _ h=>h.elim⟩
  refine b6.cP (I:=λs v=>∃(i:Nat) (S2:Nat->Prop) (M2:List NM) (rA:Option Addr) (rn rc:Nat) (ws:List Nat),s=(i:Int)/\i<=(dP lp).length/\AL w v S (λk=>F k\/bL Jk=some k) S2 g D h (dP lp) w.heap.size w4.heap.size pI.heap.size Jk c13 i bl c mb M2 rA rn rc ws)
   (μ:=λs _=>(((dP lp).length:Int)-s).toNat) (s:=0) ⟨0,S,M,none,0,0,[],rfl,Nat.zero_le _,L0⟩ ?_
  rintro s v ⟨i,S2,M2,rA,rn,rc,ws,rfl,hi,L⟩;have Mp:∀a,Jk=some a->F a.block\/bL Jk=some a.block:=λa ha=>.inr (by rw [ha];rfl);by_cases eA:i<(dP lp).length
  ·refine IX L W (by omega) (jL _) gD Jf Mp (by omega) eA (by omega) λS3 M3 rA3 rn3 rc3 ws3 v3 L3=>?_
   exact⟨(i:Int)+1,rfl,⟨i+1,S3,M3,rA3,rn3,rc3,ws3,rfl,eA,L3⟩,by simp only;omega⟩
  ·refine Split.no (decide_eq_false (by omega)) ?_
   rw [bg,b6.Jm];refine OY L W hD (jL _) gD hm Jf Mp (by omega) (by omega) λv2 S4 F4 hI Yv hS4 hF4=>hK v2 S4 F4 hI Yv hS4 (λk hk=>?_);rcases hF4 k hk with(e|e)|e
   ·exact .inl e
   ·exact .inr (by have:=(TP k e).1;omega)
   ·exact .inr e
end
def qT(nb:Nat):NM:=⟨nb,none,0,0,none,0,0,none,0,0,[]⟩
structure NP(w v:World)(r:HT)(A B E:Option Nat)(l:List HT):Prop where
 kp:Kept Nil w v
 node:∀b,A=some b->w.heap.size<=b/\v.heap[b]? =some (.cells (iB r (qT b)) fC (0,0))
 list:∀b,B=some b->w.heap.size<=b/\∃nb,A=some nb/\v.heap[b]? =some (.cells #[.pointer (some ⟨nb,0,none⟩)] gI (0,0))
 map:∀b,E=some b->w.heap.size<=b/\IsMap v b l
section
variable{w v:World}{r:HT}{A B E:Option Nat}{l:List HT}{K:Value->World->Prop}
theorem NP.grow(h:NP w v r A B E l)(o:Obj):NP w (v.alloc o) r A B E l:=
 ⟨h.kp.alloc o,λb e=>⟨(h.node b e).1,mh (h.node b e).2 o⟩,λb e=>⟨(h.list b e).1,let ⟨nb,h1,h2⟩:=(h.list b e).2;⟨nb,h1,mh h2 o⟩⟩,λb e=>⟨(h.map b e).1,(h.map b e).2.aN ((Kept.refl Nil v).alloc o) (λh=>h)⟩⟩
theorem NP.addNode(h:NP w v r none none E l):NP w (v.alloc (.cells (iB r (qT v.heap.size)) fC)) r (some v.heap.size) none E l:=
 have g:=h.grow (.cells (iB r (qT v.heap.size)) fC)
 ⟨g.kp,λb e=>by cases e;exact⟨h.kp.size,aO v _⟩,λb e=>(by cases e),g.map⟩
theorem NP.sh{nb:Nat}(h:NP w v r (some nb) none E l):NP w (v.alloc (.cells #[.pointer (some ⟨nb,0,none⟩)] gI)) r (some nb) (some v.heap.size) E l:=
 have g:=h.grow (.cells #[.pointer (some ⟨nb,0,none⟩)] gI)
 ⟨g.kp,g.node,λb e=>by cases e;exact⟨h.kp.size,nb,rfl,aO v _⟩,g.map⟩
theorem NP.FA(h:NP w v r A B none []):NP w (v.alloc (.map #[] 0)) r A B (some v.heap.size) []:=
 have g:=h.grow (.map #[] 0)
 ⟨g.kp,g.node,g.list,λb e=>by cases e;exact⟨h.kp.size,⟨#[],0,aO v _,trivial⟩⟩⟩
theorem NP.put{mb:Nat}(h:NP w v r A B (some mb) []):∃v',(Instr.mapUpdate dw (.map (some mb)) (.agg r.1) (.int .i64 0)).run prog v=.ok () v'/\NP w v' r A B (some mb) [r]:=by
 obtain⟨h1,h2⟩:=h.map mb rfl;obtain⟨v',hr,hm,hk⟩:=h2.put (h:=r) (by simp);have MM:∀ {k:Nat} {cs:Array Value} {t:TypeId},v.heap[k]? =some (.cells cs t (0,0))->¬(k=mb):=λhk e=>by
  obtain⟨es,clock,KZ,_⟩:=h2.ex;rw [e,KZ]at hk;cases hk
 refine⟨v',hr,h.kp.trans hk (λk hk e=>by omega),λb e=>⟨(h.node b e).1,hk.heap (h.node b e).2 (MM (h.node b e).2)⟩,λb e=>⟨(h.list b e).1,?_⟩,λb e=>by cases e;exact⟨h1,hm⟩⟩;obtain⟨nb,e1,e2⟩:=(h.list b e).2;exact⟨nb,e1,hk.heap e2 (MM e2)⟩
theorem uF(r:HT){a b:HT}:¬nK [(⟨r,[]⟩:DN)] a b:=λ⟨nd,h1,_,h2⟩=>by
 simp at h1;subst h1;simp at h2
theorem BX(r:HT){a b:HT}:¬fU [(⟨r,[]⟩:DN)] a b:=λh=>by
 cases h with
 |one h=>exact uF r h
 |more _ h=>exact uF r h
theorem NP.fin{w0:World}{nb lb mb:Nat}(h:NP w v r (some nb) (some lb) (some mb) [r])(hw:w0.heap.size<=w.heap.size):
 G5 (v.alloc (.cells #[.slice (some ⟨lb,0,none⟩) 1 1,.map (some mb)] ju)) (λk=>w0.heap.size<=k/\k<(v.alloc (.cells #[.slice (some ⟨lb,0,none⟩) 1 1,.map (some mb)] ju)).heap.size) (λ_=>False) v.heap.size [⟨r,[]⟩]:=by
 have g:=h.grow (.cells #[.slice (some ⟨lb,0,none⟩) 1 1,.map (some mb)] ju);have kI:=aO v (.cells #[.slice (some ⟨lb,0,none⟩) 1 1,.map (some mb)] ju);generalize v.alloc (.cells #[.slice (some ⟨lb,0,none⟩) 1 1,.map (some mb)] ju)=u at g kI;have hs:=h.kp.size;obtain⟨n1,n2⟩:=g.node nb rfl;obtain⟨l1,nb',e,l2⟩:=g.list lb rfl;cases e;obtain⟨m1,m2⟩:=g.map mb rfl;have qx:fR [⟨r,[]⟩] r= []:=by
  cases hc:fR [⟨r,[]⟩] r with
  |nil=>rfl
  |cons b t=>exact absurd (iX.1 (show b∈fR [⟨r,[]⟩] r by rw [hc];simp)).2 (uF r)
 refine⟨lb,1,mb,[qT nb],kI,Row.made (n:=1) (cur:= #[.pointer (some ⟨nb,0,none⟩)]) l2 (Nat.zero_le _) rfl (by decide),m2,rfl,λi nd m hi hm=>?_,λi j m m' h1 h2 gQ k hk=>?_,⟨by omega,bt kI⟩,⟨by omega,bt l2⟩,⟨by omega,m2.lt⟩,λ_ _ h=>h,λk hk=>hk.elim (λh=>h.2) (λh=>h.elim)⟩
 ·cases i with
  |zero=>
   simp at hi hm;subst hi;subst hm;refine⟨n2,⟨Nat.le_trans hw n1,bt n2⟩,HS.nil _ _,(λa ha=>by cases ha),?_,(λk hk=>by cases hk),⟨rfl,λi x hx=>by simp [qT]at hx⟩,(λa ha=>by cases ha),by simp [okW,qT],λj=>?_,by simp [qT]⟩
   ·show bY u 0 none 0 0 (fR [⟨r,[]⟩] r)
    rw [qx];exact bY.nil _ _
   ·show bit [] j=true↔_
    rw [AZ];exact⟨(λh=>by cases h),λ⟨nj,_,h⟩=>absurd h (BX r)⟩
  |succ i=>simp at hi
 ·have hm:m=qT nb:=by
   have:=List.mem_of_getElem? h1;simpa using this
  subst hm;cases hk
theorem iE(r:HT)(hK:∀v gb,G5 v (λk=>w.heap.size<=k/\k<v.heap.size) (λ_=>False) gb [⟨r,[]⟩]->Kept Nil w v->K (.pointer (some ⟨gb,0,none⟩)) v):
 bJ prog oQ.id #[.agg r.1] w K:=by
 refine oQ.of ?_;unfold oQ.W;intro w2 w3;have k2:Kept Nil w w2:=(Kept.refl _ _).alloc _;have oN:w2.heap[w.heap.size]? =some (.cells r.1 ai (0,0)):=aO w _;have k3:Kept Nil w w3:=k2.drew;have qy:w3.heap[w.heap.size]? =some (.cells r.1 ai (0,0)):=oN;clear_value w3;have N3:NP w3 w3 r none none none []:=⟨Kept.refl _ _,(λb e=>by cases e),(λb e=>by cases e),(λb e=>by cases e)⟩;have oM:∀ {v:World},Kept Nil w3 v->∃cs:Array Value,(.agg r.1:Value)=.agg cs/\cs.size=32/\Cells v (aU w.heap.size) cs:=λk=>⟨r.1,rfl,r.2.1,Cells.bX (k.heap qy (λh=>h))⟩;have xu:∀ {v:World} {nb lb mb:Nat},NP w3 v r (some nb) (some lb) (some mb) [r]->K (.pointer (some ⟨v.heap.size,0,none⟩)) (v.alloc (.cells #[.slice (some ⟨lb,0,none⟩) 1 1,.map (some mb)] ju)):=λh=>hK _ _ (h.fin k3.size) ((k3.tt h.kp).alloc _);refine⟨r.1,⟨r.2.1,Cells.bX qy⟩,?_⟩;have X0:∀b,prog.built fC [(0,.agg r.1)]=some (iB r (qT b)):=λb=>IL r b;rw [X0 0];refine Is.mk rfl ?_;refine⟨r.1,⟨r.2.1,Cells.bX qy⟩,?_⟩;refine⟨?_,?_⟩
 ·have N7:NP w3 (w3.alloc (.cells (iB r (qT w3.heap.size)) fC)) r (some w3.heap.size) none none []:=N3.addNode
  refine⟨oM N7.kp,?_,?_⟩
  ·have N8:=N7.sh
   have N9:=N8.FA;obtain⟨v,hr,Vg⟩:=N9.put;exact⟨oM N8.kp,oM N9.kp,v,hr,xu Vg⟩
  ·have Uf:=N7.FA
   refine⟨oM Uf.kp,?_,?_⟩
   ·have O0:=Uf.sh
    obtain⟨v,hr,Ue⟩:=O0.put;exact⟨oM O0.kp,v,hr,xu Ue⟩
   ·obtain⟨v,hr,Ve⟩:=Uf.put
    exact⟨v,hr,xu Ve.sh⟩
 ·have ME:=N3.FA
  refine⟨oM ME.kp,oM ME.kp,?_,?_⟩
  ·have QK:NP w3 ((w3.alloc (.map #[] 0)).alloc (.cells (iB r (qT (w3.alloc (.map #[] 0)).heap.size)) fC)) r (some (w3.alloc (.map #[] 0)).heap.size) none (some w3.heap.size) []:=ME.addNode
   refine⟨oM QK.kp,?_,?_⟩
   ·have QJ:=QK.sh
    obtain⟨v,hr,Vc⟩:=QJ.put;exact⟨oM QJ.kp,v,hr,xu Vc⟩
   ·obtain⟨v,hr,N24⟩:=QK.put
    exact⟨v,hr,xu N24.sh⟩
  ·obtain⟨v,hr,Ud⟩:=ME.put
   exact⟨v,hr,oM Ud.kp,xu Ud.addNode.sh⟩
end
section
variable{w w':World}{S S' F:Nat->Prop}{g bl c mb:Nat}{D:DG}{C:HT->List HT}{M:List NM}{K:Value->World->Prop}
end
section
variable{w w':World}{S S' F:Nat->Prop}{g bl c mb:Nat}{D:DG}{C:HT->List HT}{M:List NM}{K:Value->World->Prop}
end
theorem hU{w:World}{b:Nat}{z cs:Array Value}{t:TypeId}(h:w.heap[b]? =some (.cells z t (0,0)))(hz:z.size=cs.size):
 (∀j,j<cs.size->Wr w ((⟨b,0,none⟩:Addr).add j))/\(setCells w ⟨b,0,none⟩ cs.toList 0).heap[b]? =some (.cells cs t (0,0))/\Kept (· =b) w (setCells w ⟨b,0,none⟩ cs.toList 0):=by
 refine⟨λj hj=>?_,?_,hZ _ _ _ _⟩
 ·rw [bO,Nat.zero_add]
  exact eI h (by omega)
 ·have h1:=mc cs.toList z w t 0 0 h (by simp;omega)
  rw [h1,wy (by simp [hz])]
def hx(i:Nat)(hi:i<256):HT:=⟨#[.int .u8 (i:Int),.int .u8 0,.int .u8 0,.int .u8 0,.int .u8 0,.int .u8 0,.int .u8 0,.int .u8 0,.int .u8 0,.int .u8 0,.int .u8 0,.int .u8 0,.int .u8 0,.int .u8 0,.int .u8 0,.int .u8 0,.int .u8 0,.int .u8 0,.int .u8 0,.int .u8 0,.int .u8 0,.int .u8 0,.int .u8 0,.int .u8 0,.int .u8 0,.int .u8 0,.int .u8 0,.int .u8 0,.int .u8 0,.int .u8 0,.int .u8 0,.int .u8 0],rfl,λv hv=>by
 simp only [List.mem_cons,List.not_mem_nil,or_false]at hv;rcases hv with rfl|hv
 ·exact⟨i,rfl,by omega,by omega⟩
 ·exact⟨0,by simpa using hv,by omega,by omega⟩⟩
theorem Es{i j:Nat}{hi:i<256}{hj:j<256}(h:i≠j):hx i hi≠hx j hj:=λe=>by
 have:=congrArg (λa:HT=>a.1[0]?) e;simp [hx]at this;omega
section
variable{w w':World}{K:Value->World->Prop}
end
theorem HS.lay{w:World}{b:Nat}{l:List HT}{t:TypeId}(hb:w.heap[b]? =some (.cells (dK l).toArray t (0,0))):HS w (some ⟨b,0,Option.none⟩) l.length l:=
 ⟨rfl,λi x hi=>⟨_,rfl,bt hb,λj v hj=>by
   rw [bO,bO,Nat.zero_add,aI hb];simpa using mF hi hj⟩⟩
section
variable{r a b c:HT}(Sn:r≠a)(Ii:r≠b)(hrc:r≠c)(mK:a≠b)(hac:a≠c)(Ty:b≠c)
abbrev kD(r a b c:HT):DG:= [⟨r,[]⟩,⟨a,[r]⟩,⟨b,[r]⟩,⟨c,dP [a,b]⟩]
include Sn in
theorem k1:fg [⟨r,[]⟩] a [r]=0/\nP [⟨r,[]⟩] a [r]= [⟨r,[]⟩,⟨a,[r]⟩]:=by
 have h:fg [⟨r,[]⟩] a [r]=0:=by
  unfold fg;rw [if_neg (by simp [ids];exact λe=>Sn e.symm),pL,if_neg (by simp),if_neg (by simp [ids])]
 exact⟨h,by unfold nP;rw [if_pos h,pL];rfl⟩
include Ii mK in
theorem k2:fg [⟨r,[]⟩,⟨a,[r]⟩] b [r]=0/\nP [⟨r,[]⟩,⟨a,[r]⟩] b [r]= [⟨r,[]⟩,⟨a,[r]⟩,⟨b,[r]⟩]:=by
 have h:fg [⟨r,[]⟩,⟨a,[r]⟩] b [r]=0:=by
  unfold fg;rw [if_neg (by simp [ids];exact⟨λe=>Ii e.symm,λe=>mK e.symm⟩),pL,if_neg (by simp),if_neg (by simp [ids])]
 exact⟨h,by unfold nP;rw [if_pos h,pL];rfl⟩
include hrc mK hac Ty in
theorem k3:fg [⟨r,[]⟩,⟨a,[r]⟩,⟨b,[r]⟩] c [a,b]=0/\nP [⟨r,[]⟩,⟨a,[r]⟩,⟨b,[r]⟩] c [a,b]=kD r a b c:=by
 have hl:(dP [a,b]).length=2:=sx (by simp [mK]);have h:fg [⟨r,[]⟩,⟨a,[r]⟩,⟨b,[r]⟩] c [a,b]=0:=by
  unfold fg;rw [if_neg (by simp [ids];exact⟨λe=>hrc e.symm,λe=>hac e.symm,λe=>Ty e.symm⟩),hl,if_neg (by simp),if_neg];rintro⟨p,hp,hn⟩;rw [dU]at hp;simp at hp;simp [ids]at hn;rcases hp with rfl|rfl
  ·exact hn.2.1 rfl
  ·exact hn.2.2 rfl
 exact⟨h,by unfold nP;rw [if_pos h];rfl⟩
end
section
variable{w w':World}{K:Value->World->Prop}
end
section
variable{w v w':World}{S F S2 F2 FR:Nat->Prop}{g r:Nat}{D D':DG}{K:Value->World->Prop}
theorem LF(h:HT):prog.built cI [(0,.agg h.1)]=some (h.1.push (.slice none 0 0)):=by
 have hs:=h.2.1;rw [pC GW,j0 (off:=0) (size:=32) rfl (by simpa [Value.cells]using hs) (by simp)];simp only [Instr.fill,Option.some.injEq];apply Array.ext';unfold jl;simp [Value.cells,hs]
end
end Go.Proofs.YtfleamccglihoaaGreatDoor
