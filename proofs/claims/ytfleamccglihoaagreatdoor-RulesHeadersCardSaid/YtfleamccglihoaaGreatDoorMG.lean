import Derived.Test.YtfleamccglihoaaGreatDoorProg
import Derived.Shelf.SlSortCmp.NoneTotal
import Derived.Shelf.SlMaps.Clone
import Derived.Shelf.Spec.TrailingZeros
import Derived.Shelf.Strconv.Itoa0
import Derived.Shelf.Bits.Mul64
import Derived.Test.YtfleamccglihoaaGreatDoorMA
import Derived.Test.YtfleamccglihoaaGreatDoorMB
import Derived.Lib.BytesEntry
import Derived.Test.YtfleamccglihoaaGreatDoorMC
import Derived.LaidEql
open Go.IntKind (i64 u64)
set_option linter.unusedVariables false
namespace Go.Proofs
open Go.Shelf
def Tryz.qu:Go.Shelf.Ren:=⟨fun|6=>53|15=>98|14=>97|28=>135|29=>136|20=>127|21=>128|22=>129|23=>130|24=>131|25=>132|26=>133|27=>134|46=>152|47=>153|48=>154|49=>155|50=>156|57=>163|n=>n,fun|22=>33|24=>24|25=>106|3=>3|39=>150|0=>0|53=>182|55=>22|4=>4|46=>176|45=>175|50=>162|5=>5|9=>9|66=>204|70=>208|76=>215|77=>216|n=>n,fun|n=>n⟩
theorem Tryz.xH:Go.Proofs.SlLaysF0.n6 prog Tryz.qu:= {
 mixed:=by kernel_rfl
 f6:=⟨f53.name,by decide,func53.trans (congrArg some (by kernel_rfl))⟩
 f14:=⟨f97.name,by decide,func97.trans (congrArg some (by kernel_rfl))⟩
 f15:=func98.trans (congrArg some (by kernel_rfl))
 f20:=⟨f127.name,by decide,func127.trans (congrArg some (by kernel_rfl))⟩
 f21:=⟨f128.name,by decide,func128.trans (congrArg some (by kernel_rfl))⟩
 f22:=⟨Tryz.f129.name,by decide,func129.trans (congrArg some (by kernel_rfl))⟩
 f23:=⟨f130.name,by decide,func130.trans (congrArg some (by kernel_rfl))⟩
 f24:=⟨f131.name,by decide,func131.trans (congrArg some (by kernel_rfl))⟩
 f25:=⟨f132.name,by decide,func132.trans (congrArg some (by kernel_rfl))⟩
 f26:=⟨f133.name,by decide,func133.trans (congrArg some (by kernel_rfl))⟩
 f27:=⟨f134.name,by decide,func134.trans (congrArg some (by kernel_rfl))⟩
 f28:=func135.trans (congrArg some (by kernel_rfl))
 f29:=func136.trans (congrArg some (by kernel_rfl))
 f46:=⟨f152.name,by decide,func152.trans (congrArg some (by kernel_rfl))⟩
 f47:=func153.trans (congrArg some (by kernel_rfl))
 f48:=func154.trans (congrArg some (by kernel_rfl))
 f49:=⟨f155.name,by decide,func155.trans (congrArg some (by kernel_rfl))⟩
 f50:=⟨f156.name,by decide,func156.trans (congrArg some (by kernel_rfl))⟩
 f57:=⟨f163.name,by decide,func163.trans (congrArg some (by kernel_rfl))⟩
 t0:=underlying0
 a0:=isAgg0
 z0:=sizeOf0
 v0:=zeroValue0
 t3:=underlying3
 a3:=isAgg3
 z3:=sizeOf3
 v3:=zeroValue3
 t4:=underlying4
 a4:=isAgg4
 z4:=sizeOf4
 v4:=zeroValue4
 t5:=underlying5
 a5:=isAgg5
 z5:=sizeOf5
 v5:=zeroValue5
 t9:=underlying9
 a9:=isAgg9
 z9:=sizeOf9
 v9:=zeroValue9
 t22:=underlying33
 a22:=isAgg33
 z22:=sizeOf33
 v22:=zeroValue33
 t25:=underlying106
 a25:=isAgg106
 z25:=sizeOf106
 v25:=zeroValue106
 t39:=underlying150
 a39:=isAgg150
 z39:=sizeOf150
 v39:=zeroValue150
 t45:=underlying175
 a45:=isAgg175
 z45:=sizeOf175
 v45:=zeroValue175
 t46:=underlying176
 a46:=isAgg176
 z46:=sizeOf176
 v46:=zeroValue176
 t50:=underlying162
 a50:=isAgg162
 z50:=sizeOf162
 v50:=zeroValue162
 t53:=underlying182
 a53:=isAgg182
 z53:=sizeOf182
 v53:=zeroValue182
 t55:=underlying22
 a55:=isAgg22
 z55:=sizeOf22
 v55:=zeroValue22
 t66:=underlying204
 a66:=isAgg204
 z66:=sizeOf204
 v66:=zeroValue204
 t70:=underlying208
 a70:=isAgg208
 z70:=sizeOf208
 v70:=zeroValue208
 t76:=underlying215
 a76:=isAgg215
 z76:=sizeOf215
 v76:=zeroValue215
 t77:=underlying216
 a77:=isAgg216
 z77:=sizeOf216
 v77:=zeroValue216}
def Tryz.kF:Go.Shelf.Ren:=⟨fun|29=>159|n=>n,fun|22=>22|3=>3|4=>4|25=>150|54=>218|0=>0|5=>5|n=>n,fun|1=>1|n=>n⟩
theorem Tryz.tzL:Go.Proofs.Lays7.n29 prog Tryz.kF:= {
 mixed:=by kernel_rfl
 f29:=func159.trans (congrArg some (by kernel_rfl))
 t0:=underlying0
 a0:=isAgg0
 z0:=sizeOf0
 v0:=zeroValue0
 i0:=by kernel_rfl
 t3:=underlying3
 a3:=isAgg3
 z3:=sizeOf3
 v3:=zeroValue3
 i3:=by kernel_rfl
 t4:=underlying4
 a4:=isAgg4
 z4:=sizeOf4
 v4:=zeroValue4
 i4:=by kernel_rfl
 t5:=underlying5
 a5:=isAgg5
 z5:=sizeOf5
 v5:=zeroValue5
 i5:=by kernel_rfl
 t22:=underlying22
 a22:=isAgg22
 z22:=sizeOf22
 v22:=zeroValue22
 i22:=by kernel_rfl
 t25:=underlying150
 a25:=isAgg150
 z25:=sizeOf150
 v25:=zeroValue150
 i25:=by kernel_rfl
 t54:=underlying218
 a54:=isAgg218
 z54:=sizeOf218
 g1:=by kernel_rfl}
def Tryz.AI:Go.Shelf.Ren:=⟨fun|129=>136|n=>n,fun|53=>22|3=>3|4=>4|46=>150|5=>5|9=>9|n=>n,fun|n=>n⟩
theorem Tryz.KU:Go.Proofs.Lays.n129 prog Tryz.AI:= {
 mixed:=by kernel_rfl
 f129:=func136.trans (congrArg some (by kernel_rfl))
 t3:=underlying3
 a3:=isAgg3
 z3:=sizeOf3
 v3:=zeroValue3
 t4:=underlying4
 a4:=isAgg4
 z4:=sizeOf4
 v4:=zeroValue4
 t5:=underlying5
 a5:=isAgg5
 z5:=sizeOf5
 v5:=zeroValue5
 t9:=underlying9
 a9:=isAgg9
 z9:=sizeOf9
 v9:=zeroValue9
 t46:=underlying150
 a46:=isAgg150
 z46:=sizeOf150
 v46:=zeroValue150
 t53:=underlying22
 a53:=isAgg22
 z53:=sizeOf22
 v53:=zeroValue22}
def Tryz.AH:Go.Shelf.Ren:=⟨fun|264=>161|n=>n,fun|53=>22|46=>150|n=>n,fun|n=>n⟩
theorem Tryz.KS:Go.Proofs.Lays.n264 prog Tryz.AH:= {
 mixed:=by kernel_rfl
 f264:=func161.trans (congrArg some (by kernel_rfl))
 t46:=underlying150
 a46:=isAgg150
 z46:=sizeOf150
 v46:=zeroValue150
 t53:=underlying22
 a53:=isAgg22
 z53:=sizeOf22
 v53:=zeroValue22}
end Go.Proofs
namespace Go.b0
open Go.RowKit
theorem lC.mono{P:Program}{l:Nat}{args:Array Value}{w:World}{R R':Bool->World->Prop}(h:lC P l args w R)(hr:∀b w',R b w'->R' b w'):lC P l args w R':=by
 obtain⟨g,tmps,assign,body,h1,h2⟩:=h;exact⟨g,tmps,assign,body,h1,fun r m=>RoundIn.mono (h2 r m) fun e w' ⟨b,he,hb⟩=>⟨b,he,hr _ _ hb⟩⟩
def iI(xs:List Value)(k:Nat)(vs:List Value):List Value:=xs.take k++vs++xs.drop (k+vs.length)
theorem rf(xs:List Value)(k:Nat):iI xs k []=xs:=by simp [iI]
theorem pJ{xs:List Value}{k:Nat}(hk:k<xs.length)(v:Value)(vs:List Value):iI xs k (v::vs)=iI (xs.set k v) (k+1) vs:=by
 unfold iI;rw [List.take_add_one,List.take_set_of_le (Nat.le_refl k),List.getElem?_set_self hk,List.drop_set];rw [if_pos (by omega),List.length_cons,show k+(vs.length+1)=k+1+vs.length by omega];simp
theorem mK{xs:List Value}{k:Nat}{vs:List Value}(h:k+vs.length<=xs.length):(iI xs k vs).length=xs.length:=by
 unfold iI;simp;omega
theorem vh{xs vs:List Value}(h:vs.length=xs.length):iI xs 0 vs=vs:=by
 unfold iI;simp [h]
section
variable{w:World}{B:Nat}{e:TypeId}{size n c b:Nat}
theorem rW:∀(vs:List Value) (xs:List Value) (w:World) (o i:Nat),Row w B e size (some ⟨b,0,none⟩) n c xs->o+i+vs.length<=xs.length->
 Row (setCells w ⟨b,o,none⟩ vs i) B e size (some ⟨b,0,none⟩) n c (iI xs (o+i) vs)
 | [],xs,w,o,i,h,_=>by rw [rf];exact h
 |v::vs,xs,w,o,i,h,hl=>by
  rw [List.length_cons]at hl;rw [pJ (by omega)];simp only [setCells];rw [bE];have h1:=Row.set h (j:=o+i) (by omega) v;have:=rW vs (xs.set (o+i) v) _ o (i+1) h1 (by rw [List.length_set];omega)
  rwa [show o+(i+1)=o+i+1 by omega]at this
theorem ig:∀(vs:List Value) (w:World) (o i:Nat),Kept (· =b) w (setCells w ⟨b,o,none⟩ vs i)
 | [],w,o,i=>Kept.refl _ _
 |v::vs,w,o,i=>by
  simp only [setCells];rw [bE];exact(Kept.setCell (S:=fun k=>k=b) (Kept.refl _ w) (p:=⟨b,o+i,none⟩) (fun _=>rfl) v).tt (ig vs _ o (i+1))
theorem ln:∀(vs:List Value) (cur:Array Value) (w:World) (t:TypeId) (o i:Nat),w.heap[b]? =some (.cells cur t (0,0))->o+i+vs.length<=cur.size->
 (setCells w ⟨b,o,none⟩ vs i).heap[b]? =some (.cells (iI cur.toList (o+i) vs).toArray t (0,0))
 | [],cur,w,t,o,i,h,_=>by rw [rf];simpa [setCells]using h
 |v::vs,cur,w,t,o,i,h,hl=>by
  rw [List.length_cons]at hl;rw [pJ (by simp;omega)];simp only [setCells];rw [bE];have h1:=du h (o+i) v;have:=ln vs _ _ t o (i+1) h1 (by simp;omega);rw [show o+(i+1)=o+i+1 by omega]at this;rw [this];simp
theorem iP{z cs:Array Value}{t:TypeId}(hz:z.size=cs.size):
 (∀j,j<cs.size->Wr (w.alloc (.cells z t)) ((aV w.heap.size).add j))/\
 (setCells (w.alloc (.cells z t)) ⟨w.heap.size,0,none⟩ cs.toList 0).heap[w.heap.size]? =some (.cells cs t (0,0))/\
 Kept Nil w (setCells (w.alloc (.cells z t)) ⟨w.heap.size,0,none⟩ cs.toList 0):=by
 refine⟨fun j hj=>?_,?_,?_⟩
 ·rw [bE,Nat.zero_add]
  exact dQ (aM w _) (by omega)
 ·have h:=ln cs.toList z (w.alloc (.cells z t)) t 0 0 (aM w _) (by simp;omega)
  rw [h,vh (by simp [hz])]
 ·exact((Kept.refl Nil w).alloc _).trans (ig cs.toList _ 0 0) (fun k hk e=>absurd hk (by omega))
end
end Go.b0
namespace Go.b0
theorem ER:∀(vs:List Value) (off k:Nat) (cells:Array Value),off+k+vs.length<=cells.size->
 ((vs.zipIdx k).foldl (fun(cs:Array Value) (p:Value×Nat)=>cs.setIfInBounds (off+p.2) p.1) cells)=(iI cells.toList (off+k) vs).toArray
 | [],off,k,cells,_=>by rw [rf];simp
 |v::vs,off,k,cells,h=>by
  rw [List.length_cons]at h;rw [pJ (by simp;omega),List.zipIdx_cons,List.foldl_cons];have:=ER vs off (k+1) (cells.setIfInBounds (off+k) v) (by simp;omega);rw [this,Array.toList_setIfInBounds];rfl
theorem jx{place:Nat->Option (Nat×Nat)}{cells:Array Value}{i off size:Nat}{v:Value}{rest:List (Nat×Value)}(hp:place i=some (off,size))(hs:v.cells.size=size)(hle:off+size<=cells.size):
 Instr.fill place cells ((i,v)::rest)=Instr.fill place (iI cells.toList off v.cells.toList).toArray rest:=by
 rw [Instr.fill,hp];simp only;rw [if_neg (by simp;omega)]
 congr 1
 have h:=ER v.cells.toList off 0 cells (by simp;omega);rw [Nat.add_zero]at h;rw [<-h,<-Array.foldl_toList,Array.toList_zipIdx]
def Sd(P:Program)(t:TypeId):Option (List (Nat×Nat)×List Value):=
 match P.info? t,P.underlying t with
 |some it,some (.struct fields)=>
  match it.zero,fields.toList.mapM (fun f=>(P.info? f.type).map fun i=>(f.offset,i.size))with
  |some z,some places=>some (places,z.cells.toList)
  |_,_=>none
 |_,_=>none
theorem ox{P:Program}{t:TypeId}{pl:List (Nat×Nat)}{z:List Value}(h:Sd P t=some (pl,z))(parts:List (Nat×Value)):
 P.built t parts=Instr.fill (pl.toArray[·]?) z.toArray parts:=by
 unfold Sd at h;split at h
 ·rename_i it fields h1 h2
  split at h
  ·rename_i z' pl' h3 h4
   simp only [Option.some.injEq,Prod.mk.injEq]at h;obtain⟨rfl,rfl⟩:=h;unfold Program.built;rw [h1,h2];simp only [h3,h4]
  ·cases h
 ·cases h
def rp:List Nat->Array Value
 | []=> #[]
 |D::l=> #[.pointer (some ⟨D,0,none⟩)]++rp l
theorem oo:∀l,marksOf (.agg (rp l))=l
 | []=>rfl
 |D::l=>by
  have ih:=oo l;simp only [rp,marksOf]at*;simp [ih]
theorem mR:∀(l:List Nat) (w:World),l.Nodup->(∀D∈l,w.heap[D]? =some (.deferred (some [])))->lQ l w
 | [],_,_,_=>trivial
 |D::l,w,hn,h=>by
  rw [List.nodup_cons]at hn;refine⟨h D (by simp),mR l _ hn.2 fun E hE=>?_⟩;have fX:D≠E:=fun e=>hn.1 (by rw [e];exact hE);exact(World.putObj_heap_other fX.symm).trans (h E (by simp [hE]))
theorem lg:∀(l:List Nat) (w:World),Kept (· ∈l) w (gX l w)
 | [],w=>Kept.refl _ w
 |D::l,w=>((Kept.putAt w D (.deferred none)).mono (S':=fun k=>k∈D::l) (fun k _ e=>by subst e;simp)).trans (lg l _) (fun k _ h=>by simp [h])
open Go.RowKit
section
variable{P:Program}{n:Nat}
end
end Go.b0
namespace Go.Proofs.YtfleamccglihoaaGreatDoor
open Go.Proofs.Tryz
open Go Go.b0 Go.RowKit
def RI(cs:Array Value):Prop:=cs.size=32/\∀v∈cs.toList,∃i:Int,v=.int .u8 i/\0<=i/\i<256
abbrev HT:= {cs:Array Value//RI cs}
def key(h:HT):List Int:=h.1.toList.map mJ
theorem RI.ints{cs:Array Value}(h:RI cs):ft .u8 32 cs:=⟨h.1,fun v hv=>let ⟨i,e,_⟩:=h.2 v hv;⟨i,e⟩⟩
theorem AT:∀ {a b:List Value},(∀v∈a,∃i:Int,v=.int .u8 i)->(∀v∈b,∃i:Int,v=.int .u8 i)->a.map mJ=b.map mJ->a=b
 | [],[],_,_,_=>rfl
 | [],_::_,_,_,h=>by simp at h
 |_::_,[],_,_,h=>by simp at h
 |x::a,y::b,ha,hb,h=>by
  obtain⟨i,rfl⟩:=ha x (by simp);obtain⟨j,rfl⟩:=hb y (by simp);simp only [List.map_cons,List.cons.injEq,mJ]at h;rw [h.1,AT (fun v hv=>ha v (by simp [hv])) (fun v hv=>hb v (by simp [hv])) h.2]
theorem key_inj{a b:HT}(h:key a=key b):a=b:=by
 apply Subtype.ext;apply Array.ext';exact AT (fun v hv=>a.2.ints.2 v hv) (fun v hv=>b.2.ints.2 v hv) h
instance:DecidableEq HT:=fun a b=>if h:key a=key b then isTrue (key_inj h)else isFalse fun e=>h (by rw [e])
theorem fz(a b:HT):fV a.1 b.1=decide (a=b):=by
 unfold fV;by_cases e:a=b
 ·subst e;simp
 ·rw [decide_eq_false e]
  have:¬(key a=key b):=fun h=>e (key_inj h);simpa [key]using this
theorem RI.one{cs:Array Value}(h:RI cs):∀v∈cs.toList,v.oneCell'=true:=fun v hv=>by
 obtain⟨i,rfl,_⟩:=h.2 v hv;rfl
def uT:List Int->List Int->Bool
 | [],[]=>false
 | [],_::_=>true
 |_::_,[]=>false
 |x::a,y::b=>if x<y then true else if y<x then false else uT a b
def di(a b:HT):Bool:=uT (key a) (key b)
theorem vI:∀a,uT a a=false
 | []=>rfl
 |x::a=>by simp [uT,vI a]
theorem xS:∀ {a b c},uT a b=true->uT b c=true->uT a c=true
 | [],[],_,h,_=>by simp [uT]at h
 | [],_::_,[],_,h=>by simp [uT]at h
 | [],_::_,_::_,_,_=>rfl
 |_::_,[],_,h,_=>by simp [uT]at h
 |_::_,_::_,[],_,h=>by simp [uT]at h
 |x::a,y::b,z::c,h,h'=>by
  simp only [uT]at*;by_cases h1:x<y
  ·by_cases h2:y<z
   ·rw [if_pos (by omega)]
   ·rw [if_neg h2]at h'
    by_cases h3:z<y
    ·rw [if_pos h3]at h';cases h'
    ·rw [if_pos (by omega)]
  ·rw [if_neg h1]at h
   by_cases h2:y<x
   ·rw [if_pos h2]at h;cases h
   ·rw [if_neg h2]at h
    by_cases h3:y<z
    ·rw [if_pos (by omega)]
    ·rw [if_neg h3]at h'
     by_cases h4:z<y
     ·rw [if_pos h4]at h';cases h'
     ·rw [if_neg h4]at h'
      rw [if_neg (by omega),if_neg (by omega)];exact xS h h'
theorem xT:∀ {a b},a.length=b.length->uT a b=false->uT b a=false->a=b
 | [],[],_,_,_=>rfl
 | [],_::_,h,_,_=>by simp at h
 |_::_,[],h,_,_=>by simp at h
 |x::a,y::b,hl,h,h'=>by
  simp only [uT]at*;by_cases h1:x<y
  ·rw [if_pos h1]at h;cases h
  ·rw [if_neg h1]at h
   by_cases h2:y<x
   ·rw [if_pos h2]at h';cases h'
   ·rw [if_neg h2]at h h'
    rw [if_neg h1]at h';have:x=y:=by omega
    rw [this,xT (by simpa using hl) h h']
theorem nA(a:HT):(key a).length=32:=by have:=a.2.1;simpa [key]using this
theorem qE{a b:HT}(h:di a b=false)(h':di b a=false):a=b:=key_inj (xT (by rw [nA,nA]) h h')
theorem lL{a b c:HT}(h:di a b=true)(h':di b c=true):di a c=true:=xS h h'
theorem js(a:HT):di a a=false:=vI _
theorem tC{a b:HT}(h:di a b=true):di b a=false:=by
 cases h':di b a
 ·rfl
 ·have:=lL h h';rw [js]at this;cases this
end Go.Proofs.YtfleamccglihoaaGreatDoor
namespace Go.Proofs.YtfleamccglihoaaGreatDoor
open Go.Proofs.Tryz
open Go Go.b0
def SS(l:List HT):Prop:=l.Pairwise fun a b=>di a b=true
theorem SS.nodup{l:List HT}(h:SS l):l.Nodup:=List.Pairwise.imp (fun {a b} nv e=>by subst e;rw [js]at nv;cases nv) h
theorem SS.cons{x:HT}{l:List HT}:SS (x::l)↔(∀y∈l,di x y=true)/\SS l:=List.pairwise_cons
theorem zr:∀ {l m:List HT},SS l->SS m->(∀x,x∈l↔x∈m)->l=m
 | [],[],_,_,_=>rfl
 | [],y::m,_,_,h=>by have:=(h y).2 (by simp);simp at this
 |x::l,[],_,_,h=>by have:=(h x).1 (by simp);simp at this
 |x::l,y::m,hl,hm,h=>by
  rw [SS.cons]at hl hm;have nD:x=y:=by
   have h1:=(h x).1 (by simp);have h2:=(h y).2 (by simp);rcases List.mem_cons.1 h1 with h1|h1
   ·exact h1
   ·rcases List.mem_cons.1 h2 with h2|h2
    ·exact h2.symm
    ·have a:=hl.1 _ h2
     have b:=hm.1 _ h1;rw [tC a]at b;cases b
  subst nD
  congr 1
  refine zr hl.2 hm.2 fun z=>?_;have hz:=h z;constructor
  ·intro hzl
   rcases List.mem_cons.1 (hz.1 (by simp [hzl]))with e|e
   ·subst e;have:=hl.1 _ hzl;rw [js]at this;cases this
   ·exact e
  ·intro hzm
   rcases List.mem_cons.1 (hz.2 (by simp [hzm]))with e|e
   ·subst e;have:=hm.1 _ hzm;rw [js]at this;cases this
   ·exact e
def ins(x:HT):List HT->List HT
 | []=> [x]
 |y::l=>if di x y then x::y::l else if x=y then y::l else y::ins x l
theorem yP(x z:HT):∀l,z∈ins x l↔z=x\/z∈l
 | []=>by simp [ins]
 |y::l=>by
  unfold ins;split
  ·simp
  ·split
   ·rename_i e;subst e;simp
   ·simp only [List.mem_cons,yP x z l]
    constructor
    ·rintro(h|h|h)<;>simp [h]
    ·rintro(h|h|h)<;>simp [h]
theorem JO(x:HT):∀ {l:List HT},SS l->SS (ins x l)
 | [],_=>by simp [ins,SS]
 |y::l,h=>by
  have h':=SS.cons.1 h;unfold ins;split
  ·rename_i nD
   refine SS.cons.2 ⟨fun z hz=>?_,h⟩;rcases List.mem_cons.1 hz with rfl|hz
   ·exact nD
   ·exact lL nD (h'.1 _ hz)
  ·split
   ·exact h
   ·rename_i h1 h2
    refine SS.cons.2 ⟨fun z hz=>?_,JO x h'.2⟩;rcases(yP x z l).1 hz with rfl|hz
    ·cases RJ:di y z
     ·exact absurd (qE RJ (by simpa using h1)).symm h2
     ·rfl
    ·exact h'.1 _ hz
def dC(l:List HT):List HT:=l.foldr ins []
theorem dW{z:HT}:∀ {l:List HT},z∈dC l↔z∈l
 | []=>by simp [dC]
 |x::l=>by
  have:= @dW z l;simp only [dC,List.foldr_cons,yP,List.mem_cons]at this⊢;rw [this]
theorem jz:∀l:List HT,SS (dC l)
 | []=>List.Pairwise.nil
 |x::l=>JO x (jz l)
theorem D3{l m:List HT}(h:∀x,x∈l↔x∈m):dC l=dC m:=zr (jz l) (jz m) fun x=>by rw [dW,dW,h]
theorem yC{l m:List HT}(hs:SS l)(h:∀x,x∈l↔x∈m):l=dC m:=zr hs (jz m) fun x=>by rw [dW,h]
theorem Ex(x:HT):∀l,(ins x l).length<=l.length+1
 | []=>by simp [ins]
 |y::l=>by
  have:=Ex x l;unfold ins;split
  ·simp
  ·split<;>simp<;>omega
theorem ny:∀l:List HT,(dC l).length<=l.length
 | []=>by simp [dC]
 |x::l=>by
  have h1:=Ex x (dC l);have h2:=ny l;simp only [dC,List.foldr_cons,List.length_cons]at*;omega
theorem ry{x:HT}:∀ {l:List HT},x∉l->(ins x l).length=l.length+1
 | [],_=>by simp [ins]
 |y::l,h=>by
  simp only [List.mem_cons,not_or]at h;have:=ry h.2;unfold ins;split
  ·simp
  ·rw [if_neg h.1];simp;omega
theorem qO:∀ {l:List HT},l.Nodup->(dC l).length=l.length
 | [],_=>by simp [dC]
 |x::l,h=>by
  rw [List.nodup_cons]at h;have h2:=qO h.2;have:=ry (l:=dC l) (x:=x) (fun hm=>h.1 (dW.1 hm));simp only [dC,List.foldr_cons,List.length_cons]at*;omega
theorem ud{x:HT}:∀ {l:List HT},SS l->x∈l->(ins x l).length=l.length
 | [],_,h=>by simp at h
 |y::l,hs,h=>by
  have h':=SS.cons.1 hs;unfold ins;split
  ·rename_i nD
   rcases List.mem_cons.1 h with rfl|h
   ·rw [js]at nD;cases nD
   ·have:=h'.1 _ h;rw [tC nD]at this;cases this
  ·split
   ·rfl
   ·rename_i h1 h2
    rcases List.mem_cons.1 h with rfl|h
    ·exact absurd rfl h2
    ·simp [ud h'.2 h]
theorem sj:∀ {l:List HT},(dC l).length=l.length->l.Nodup
 | [],_=>List.Pairwise.nil
 |x::l,h=>by
  have h2:=ny l;by_cases hm:x∈l
  ·have:=ud (jz l) (dW.2 hm)
   simp only [dC,List.foldr_cons,List.length_cons]at*;omega
  ·have h3:=ry (l:=dC l) (x:=x) (fun h=>hm (dW.1 h))
   simp only [dC,List.foldr_cons,List.length_cons]at*;exact List.nodup_cons.2 ⟨hm,sj (by simp only [dC];omega)⟩
theorem KD:dC []= []:=rfl
theorem oE(x:HT):dC [x]= [x]:=rfl
theorem zV{l:List HT}(h:SS l):dC l=l:=(yC h fun _=>Iff.rfl).symm
theorem JN{l:List HT}{x:HT}{k:Nat}(hs:SS l)(h1:∀y∈l.take k,di y x=true)(h2:∀y∈l.drop k,di x y=true):SS (l.take k++x::l.drop k):=by
 unfold SS at*;rw [<-List.take_append_drop k l,List.pairwise_append]at hs;rw [List.pairwise_append,List.pairwise_cons];refine⟨hs.1,⟨h2,hs.2.1⟩,fun y hy z hz=>?_⟩;rcases List.mem_cons.1 hz with rfl|hz
 ·exact h1 y hy
 ·exact hs.2.2 y hy z hz
theorem SS.get{l:List HT}(h:SS l){i j:Nat}(sG:i<j){x y:HT}(hx:l[i]? =some x)(hy:l[j]? =some y):di x y=true:=by
 obtain⟨h1,rfl⟩:=lgeS hx;obtain⟨h2,rfl⟩:=lgeS hy;exact List.pairwise_iff_getElem.1 h i j h1 h2 sG
theorem E5{l:List HT}{x:HT}(hs:SS l)(h:∀y∈l,di y x=true):SS (l++ [x]):=by
 have:=JN (k:=l.length) hs (x:=x) (by simpa using h) (by simp);simpa using this
def LE(l:List HT):Prop:=l.Pairwise fun a b=>di b a=false
theorem lt_of_le_ne{a b:HT}(h:di b a=false)(hn:a≠b):di a b=true:=by
 cases nv:di a b
 ·exact absurd (qE nv h) hn
 ·rfl
theorem tZ{a b c:HT}(h:di b a=false)(h':di b c=true):di a c=true:=by
 by_cases e:a=b
 ·subst e;exact h'
 ·exact lL (lt_of_le_ne h e) h'
theorem LE.get{l:List HT}(h:LE l){i j:Nat}(sG:i<j){x y:HT}(hx:l[i]? =some x)(hy:l[j]? =some y):di y x=false:=by
 obtain⟨h1,rfl⟩:=lgeS hx;obtain⟨h2,rfl⟩:=lgeS hy;exact List.pairwise_iff_getElem.1 h i j h1 h2 sG
theorem bP{l:List HT}{k:Nat}{x z:HT}(hx:l[k]? =some x):z∈l.take (k+1)↔z∈l.take k\/z=x:=by
 rw [List.take_add_one,hx];simp
open Go.RowKit
theorem fw(a:Addr)(k:Nat):(a.add k).block=a.block:=by unfold Addr.add;split<;>rfl
theorem aU{σ:Type}(e:σ->Env)(I:σ->World->Prop)(μ:σ->World->Nat)(s:σ)(w:World)(Q:aT)(l:Nat)(ρ:Env)(w':World):bW e I μ s w Q (.exit l) ρ w'=Q (.exit l) ρ w':=rfl
theorem iS{σ:Type}(e:σ->Env)(I:σ->World->Prop)(μ:σ->World->Nat)(s:σ)(w:World)(Q:aT)(ρ:Env)(w':World):bW e I μ s w Q .ret ρ w'=Q .ret ρ w':=rfl
theorem jb{x:Int}(h0: -9223372036854775808<=x)(h1:x<9223372036854775808):i64.wrap x=x:=by
 simp only [IntKind.wrap,IntKind.bits,IntKind.signed];simp;omega
theorem Cells.aK{S:Nat->Prop}{w w':World}{a:Addr}{cs:Array Value}(h:Cells w a cs)(hk:Kept S w w')(hn:¬S a.block):Cells w' a cs:=
 fun j v hj=>hk.cell (h j v hj) (by rw [fw];exact hn)
theorem Cells.bV{w:World}{b:Nat}{cs:Array Value}{t:TypeId}{fr:Nat×Nat}(h:w.heap[b]? =some (.cells cs t fr)):Cells w ⟨b,0,none⟩ cs:=
 fun j v hj=>by rw [bE,Nat.zero_add,aE h];exact hj
structure HS(w:World)(A:Option Addr)(n:Nat)(l:List HT):Prop where
 len:l.length=n
 at_:∀(i:Nat) (h:HT),l[i]? =some h->∃a,A=some a/\a.block<w.heap.size/\Cells w (a.add (i*32)) h.1
theorem HS.aK{S:Nat->Prop}{w w':World}{A:Option Addr}{n:Nat}{l:List HT}(h:HS w A n l)(hk:Kept S w w')(hn:∀a,A=some a->¬S a.block):HS w' A n l:=⟨h.len,fun i x hi=>by
 obtain⟨a,h1,h2,h3⟩:=h.at_ i x hi;exact⟨a,h1,Nat.lt_of_lt_of_le h2 hk.size,Cells.aK h3 hk (by rw [fw];exact hn a h1)⟩⟩
theorem HS.same{w w':World}{A:Option Addr}{n:Nat}{l:List HT}(h:HS w A n l)(hk:Kept Nil w w'):HS w' A n l:=h.aK hk fun _ _ h=>h
section
variable{w:World}{K:Value->World->Prop}
theorem yI{A:Option Addr}{n c:Nat}{l:List HT}(h:HT)(hl:HS w A n l)(hn:n<=1000000)(hK:∀w',Kept Nil w w'->K (.bool (decide (h∈l))) w'):
 bG prog dg.id #[.slice A n c,.agg h.1] w K:=by
 refine dg.of ?_;unfold dg.W;intro w3;have k3:Kept Nil w w3:=(Kept.refl Nil w).alloc _;have p8:w3.heap[w.heap.size]? =some (.cells h.1 al (0,0)):=aM w _;clear_value w3;have hlen:=hl.len;refine dg.cJ (I:=fun s w'=>∃i:Nat,s=(false,(i:Int))/\i<=n/\Kept Nil w3 w'/\h∉l.take i) (μ:=fun s _=>((n:Int)-s.2).toNat) (s:=(false,0)) ⟨0,rfl,Nat.zero_le _,Kept.refl _ _,by simp⟩ ?_;rintro s w' ⟨i,rfl,hi,kw,mH⟩;refine Split.dec (fun di=>?_) (fun gH=>?_)
 ·simp only at di
  have dX:i<n:=by omega
  obtain⟨x,hx⟩:∃x,l[i]? =some x:=⟨_,List.getElem?_eq_getElem (by omega)⟩;have kk:Kept Nil w w'.drew:=(k3.tt kw).drew;obtain⟨a,rfl,_,hc⟩:=(hl.same kk).at_ i x hx;intro w8;have k8:Kept Nil w3 w8:=kw.drew;refine⟨⟨by simp only;omega,by simp only;omega⟩,x.1,⟨x.2.1,hc⟩,h.1,⟨h.2.1,Cells.bV (k8.heap p8 (fun h=>h))⟩,⟨x.2.ints,h.2.ints⟩,?_⟩;rw [fz];have RB:Kept Nil w w8:=kk;refine Split.dec (fun he=>?_) (fun he=>?_)
  ·have:=hK w8 RB
   rw [decide_eq_true (by rw [<-he];exact List.mem_of_getElem? hx)]at this;exact this
  ·simp only
   rw [jb (x:=(i:Int)+1) (by omega) (by omega)];refine⟨(false,(i:Int)+1),rfl,⟨i+1,rfl,dX,k8,?_⟩,by simp only;omega⟩;rw [List.take_add_one,hx];simp only [Option.toList_some,List.mem_append,List.mem_singleton,not_or];exact⟨mH,fun e=>he e.symm⟩
 ·simp only at gH
  rw [aU,dg.dz];have:=hK w' (k3.tt kw);rw [List.take_of_length_le (by omega)]at mH;rw [decide_eq_false mH]at this;exact this
theorem xL{A A':Option Addr}{n n' c c':Nat}{l l':List HT}(hl:HS w A n l)(NB:HS w A' n' l')(hn:n<=1000000)(hK:∀w',Kept Nil w w'->K (.bool (decide (l=l'))) w'):
 bG prog cD.id #[.slice A n c,.slice A' n' c'] w K:=by
 have hlen:=hl.len;have Bc:=NB.len;refine cD.of ?_;by_cases fX:n=n'
 ·subst fX
  refine Split.no (by simp) ?_;refine cD.cJ (I:=fun s w'=>∃i:Nat,s=(false,(i:Int))/\i<=n/\Kept Nil w w'/\l.take i=l'.take i) (μ:=fun s _=>((n:Int)-s.2).toNat) (s:=(false,0)) ⟨0,rfl,Nat.zero_le _,Kept.refl _ _,by simp⟩ ?_;rintro s w' ⟨i,rfl,hi,kw,heq⟩;refine Split.dec (fun di=>?_) (fun gH=>?_)
  ·simp only at di
   have dX:i<n:=by omega
   obtain⟨x,hx⟩:∃x,l[i]? =some x:=⟨_,List.getElem?_eq_getElem (by omega)⟩;obtain⟨y,hy⟩:∃y,l'[i]? =some y:=⟨_,List.getElem?_eq_getElem (by omega)⟩;have kk:Kept Nil w w'.drew:=kw.drew;obtain⟨a,rfl,_,hc⟩:=(hl.same kk).at_ i x hx;obtain⟨a',rfl,_,uI⟩:=(NB.same kk).at_ i y hy;intro w7;have k7:Kept Nil w w7:=kk;have hb:0<=(i:Int)/\(i:Int)<(n:Int):=⟨by omega,by omega⟩;refine⟨hb,x.1,⟨x.2.1,hc⟩,hb,y.1,⟨y.2.1,uI⟩,⟨x.2.ints,y.2.ints⟩,?_⟩;rw [fz];by_cases he:x=y
   ·refine Split.no (by simp [he]) ?_
    simp only;rw [jb (x:=(i:Int)+1) (by omega) (by omega)];refine⟨(false,(i:Int)+1),rfl,⟨i+1,rfl,dX,k7,?_⟩,by simp only;omega⟩;rw [List.take_add_one,List.take_add_one,hx,hy,heq,he]
   ·refine Split.yes (by simp [he]) ?_
    have:=hK w7 k7;rw [decide_eq_false (fun e=>he (by rw [e,hy]at hx;exact(Option.some.inj hx).symm))]at this;exact this
  ·simp only at gH
   rw [aU,cD.dz];have:=hK w' kw;rw [List.take_of_length_le (by omega),List.take_of_length_le (by omega)]at heq;rw [decide_eq_true heq]at this;exact this
 ·refine Split.yes (by simp;omega) ?_
  have:=hK w (Kept.refl _ _);rw [decide_eq_false (fun e=>fX (by rw [<-hlen,<-Bc,e]))]at this;exact this
end
def lX(a b:HT):Int:=if di a b then-1 else if di b a then 1 else 0
theorem vJ:∀(i:Nat) (a b:List Int),a.take i=b.take i->uT a b=uT (a.drop i) (b.drop i)
 |0,a,b,_=>rfl
 |i+1,[],[],_=>rfl
 |i+1,[],y::b,h=>by simp at h
 |i+1,x::a,[],h=>by simp at h
 |i+1,x::a,y::b,h=>by
  simp only [List.take_succ_cons,List.cons.injEq]at h;obtain⟨rfl,h⟩:=h;simp only [uT,List.drop_succ_cons];rw [if_neg (by omega),if_neg (by omega)];exact vJ i a b h
theorem yQ{h:HT}{i:Nat}(hi:i<32):∃x:Int,h.1[i]? =some (.int .u8 x)/\(key h)[i]? =some x/\0<=x/\x<256:=by
 have hs:i<h.1.size:=by rw [h.2.1];exact hi
 obtain⟨x,hx,h1,h2⟩:=h.2.2 h.1[i] (by simp);refine⟨x,by rw [Array.getElem?_eq_getElem hs,hx],?_,h1,h2⟩;unfold key;rw [List.getElem?_map,Array.getElem?_toList,Array.getElem?_eq_getElem hs,hx];rfl
section
variable{w:World}{K:Value->World->Prop}
theorem tU(a b:HT)(hK:∀w',Kept Nil w w'->K (.int .i64 (lX a b)) w'):bG prog bT.id #[.agg a.1,.agg b.1] w K:=by
 refine bT.of ?_;unfold bT.W;intro w3 w4;have k3:Kept Nil w w3:=(Kept.refl Nil w).alloc _;have k4:Kept Nil w w4:=k3.alloc _;have Db:w4.heap[w.heap.size]? =some (.cells a.1 al (0,0)):=ly (aM w _) _;have ui:w4.heap[w3.heap.size]? =some (.cells b.1 al (0,0)):=aM w3 _;clear_value w4;refine bT.cJ (I:=fun s w'=>∃i:Nat,s=(0,(i:Int))/\i<=32/\Kept Nil w4 w'/\(key a).take i=(key b).take i) (μ:=fun s _=>(32-s.2).toNat) (s:=(0,0)) ⟨0,rfl,by omega,Kept.refl _ _,by simp⟩ ?_;rintro s w' ⟨i,rfl,hi,kw,heq⟩;refine Split.dec (fun jZ=>?_) (fun gH=>?_)
 ·simp only at jZ
  have dX:i<32:=by omega
  obtain⟨x,hx,kx,_⟩:=yQ (h:=a) dX;obtain⟨y,hy,ky,_⟩:=yQ (h:=b) dX;have e1:di a b=uT ((key a).drop i) ((key b).drop i):=vJ i _ _ heq;have e2:di b a=uT ((key b).drop i) ((key a).drop i):=vJ i _ _ heq.symm;have da:(key a).drop i=x::(key a).drop (i+1):=by
   obtain⟨h1,h2⟩:=lgeS kx;rw [List.drop_eq_getElem_cons h1,h2]
  have db:(key b).drop i=y::(key b).drop (i+1):=by
   obtain⟨h1,h2⟩:=lgeS ky;rw [List.drop_eq_getElem_cons h1,h2]
  rw [da,db]at e1 e2;simp only [uT]at e1 e2;intro w9;have k9:Kept Nil w4 w9:=kw.drew;clear_value w9;have hb:0<=(i:Int)/\(i:Int)<32:=⟨by omega,by omega⟩;have ca:∀ {w':World},Kept Nil w4 w'->w'.cell? ((aV w.heap.size).add ((i:Int).toNat*1))=some (.int .u8 x):=fun k=>by
   rw [bE,Nat.zero_add,Nat.mul_one,Int.toNat_natCast,aE (k.heap Db (fun h=>h))];exact hx
  have cb:∀ {w':World},Kept Nil w4 w'->w'.cell? ((aV w3.heap.size).add ((i:Int).toNat*1))=some (.int .u8 y):=fun k=>by
   rw [bE,Nat.zero_add,Nat.mul_one,Int.toNat_natCast,aE (k.heap ui (fun h=>h))];exact hy
  refine⟨hb,x,ca k9,hb,y,cb k9,Split.dec (fun nD=>?_) (fun nD=>?_)⟩
  ·have:=hK w9 (k4.tt k9)
   rw [show lX a b= -1 by unfold lX;rw [e1,if_pos nD];rfl]at this;exact this
  ·intro nx
   have zw:Kept Nil w4 nx:=k9.drew;clear_value nx;refine⟨hb,x,ca zw,hb,y,cb zw,Split.dec (fun Ez=>?_) (fun Ez=>?_)⟩
   ·have:=hK nx (k4.tt zw)
    rw [show lX a b=1 by unfold lX;rw [e1,e2,if_neg nD,if_pos (show y<x from Ez),if_pos (show y<x from Ez)];rfl]at this;exact this
   ·simp only
    rw [jb (x:=(i:Int)+1) (by omega) (by omega)];refine⟨(0,(i:Int)+1),rfl,⟨i+1,rfl,dX,zw,?_⟩,by simp only;omega⟩;have:x=y:=by omega
    rw [List.take_add_one,List.take_add_one,kx,ky,heq,this]
 ·simp only at gH
  rw [aU,bT.dz];have:=hK w' (k4.tt kw);have nv:a=b:=by
   apply key_inj;rw [List.take_of_length_le (by rw [nA];omega),List.take_of_length_le (by rw [nA];omega)]at heq;exact heq
  rw [show lX a b=0 by unfold lX;rw [nv,js];rfl]at this;exact this
end
theorem EU{x y:Int}(hx:0<=x/\x<256)(hy:0<=y/\y<256):(x.toNat.toUInt8<y.toNat.toUInt8)↔x<y:=by
 rw [UInt8.lt_iff_toNat_lt];simp only [Nat.toUInt8,UInt8.toNat_ofNat'];omega
theorem ow:∀ {a b:List Int},a.length=b.length->(∀x∈a,0<=x/\x<256)->(∀x∈b,0<=x/\x<256)->
 Lib.compareBytes (Lib.bytesOf a) (Lib.bytesOf b)=if uT a b then-1 else if uT b a then 1 else 0
 | [],[],_,_,_=>rfl
 | [],_::_,h,_,_=>by simp at h
 |_::_,[],h,_,_=>by simp at h
 |x::a,y::b,h,ha,hb=>by
  have hx:=ha x (by simp);have hy:=hb y (by simp);have ih:=ow (a:=a) (b:=b) (by simpa using h) (fun z hz=>ha z (by simp [hz])) (fun z hz=>hb z (by simp [hz]));simp only [Lib.bytesOf,List.map_cons,Lib.compareBytes,EU hx hy,EU hy hx,uT];by_cases h1:x<y
  ·simp [h1]
  ·by_cases h2:y<x
   ·simp [h1,h2]
   ·simp only [h1,h2,if_false]
    exact ih
theorem xZ(h:HT):∀x∈key h,0<=x/\x<256:=by
 intro x hx;simp only [key,List.mem_map]at hx;obtain⟨v,hv,rfl⟩:=hx;obtain⟨i,rfl,h1,h2⟩:=h.2.2 v hv;exact⟨h1,h2⟩
theorem sM(a b:HT):Lib.compareBytes (Lib.bytesOf (key a)) (Lib.bytesOf (key b))=lX a b:=
 ow (by rw [nA,nA]) (xZ a) (xZ b)
section
variable{w:World}{K:Value->World->Prop}
theorem tG(a b:HT){p q:Addr}{c c':Nat}(ha:Cells w p a.1)(hb:Cells w q b.1)(hK:K (.int .i64 (lX a b)) w):
 bG prog iU.id #[.slice (some p) 32 c,.slice (some q) 32 c'] w K:=by
 refine iU.of ⟨.int .i64 (lX a b),w,?_,_,rfl,hK⟩;have Bf:∀(h:HT) (r:Addr),Cells w r h.1->∀j x,(key h)[j]? =some x->w.cell? (r.add j)=some (.int .u8 x):=by
  intro h r hr j x hx;have hj:j<32:=by have:=(lgeS hx).1;rw [nA]at this;exact this
  obtain⟨y,hy,ky,_⟩:=yQ (h:=h) hj;rw [hx]at ky;cases ky;exact hr j _ hy
 have l1:=Lib.run_loadBytesX (P:=prog) w (key a) p .empty (Bf a p ha);have l2:=Lib.run_loadBytesX (P:=prog) w (key b) q .empty (Bf b q hb);rw [nA]at l1 l2;rw [run_callFunc_extern uL.at_ (by kernel_rfl) (by kernel_rfl) (by kernel_rfl) (e:=Extern.BytealgCompare.compare) (by kernel_rfl)];have hr:(Extern.BytealgCompare.compare #[.slice (some p) 32 c,.slice (some q) 32 c']).run prog w=.ok (.int .i64 (lX a b)) w:=by
  change Sem.run prog (do pure (goInt (Extern.BytealgCompare.cmp (<-Extern.Bytes.bytesOf (.slice (some p) 32 c)) (<-Extern.Bytes.bytesOf (.slice (some q) 32 c'))))) w=_
  simp only [Extern.Bytes.bytesOf,Sem.run_bind,l1,l2,Result.andThen_ok,Sem.run_pure,Lib.cmp_eq,goInt];rw [<-sM];simp
 rw [hr];rfl
theorem qg(a b:HT)(hK:K (.int .i64 (lX a b)) ((w.alloc (.cells a.1 al)).alloc (.cells b.1 al)).drew):bG prog dP.id #[.agg a.1,.agg b.1] w K:=by
 refine dP.of ?_;unfold dP.W;intro w3 w4 w5;have ha:w5.heap[w.heap.size]? =some (.cells a.1 al (0,0)):=ly (aM w _) _;have hb:w5.heap[w3.heap.size]? =some (.cells b.1 al (0,0)):=aM w3 _;simp only [if_neg (show ¬(32:Nat)=0 by omega),Nat.zero_mul,add_zero,Nat.sub_zero];exact tG a b (Cells.bV ha) (Cells.bV hb) ⟨_,rfl,hK⟩
end
theorem lZ(a:Addr)(m n:Nat):(a.add m).add n=a.add (m+n):=by
 unfold Addr.add;by_cases hm:m=0<;>by_cases hn:n=0<;>simp [hm,hn,Nat.add_assoc]
def dw(l:List HT):List Value:=l.flatMap fun h=>h.1.toList
theorem lV(h:HT)(l:List HT):dw (h::l)=h.1.toList++dw l:=by simp [dw]
theorem mS(l m:List HT):dw (l++m)=dw l++dw m:=by simp [dw]
theorem fu:∀l:List HT,(dw l).length=l.length*32
 | []=>rfl
 |h::l=>by
  have:=h.2.1;rw [lV,List.length_append,fu l,Array.length_toList,this,List.length_cons];omega
theorem C6(l:List HT):∀u∈dw l,u.oneCell'=true:=by
 intro u hu;simp only [dw,List.mem_flatMap]at hu;obtain⟨h,_,hu⟩:=hu;exact h.2.one u hu
theorem lM:∀ {l:List HT} {i:Nat} {h:HT},l[i]? =some h->∀ {j:Nat} {v:Value},h.1[j]? =some v->(dw l)[i*32+j]? =some v
 | [],_,_,hi,_,_,_=>by simp at hi
 |x::l,0,h,hi,j,v,hj=>by
  simp only [List.getElem?_cons_zero,Option.some.injEq]at hi;subst hi;have di:j<x.1.toList.length:=by simpa using (Array.getElem?_eq_some_iff.1 hj).1
  rw [lV,Nat.zero_mul,Nat.zero_add,List.getElem?_append_left di,Array.getElem?_toList,hj]
 |x::l,i+1,h,hi,j,v,hj=>by
  simp only [List.getElem?_cons_succ]at hi;have:=x.2.1;rw [lV,List.getElem?_append_right (by simp;omega),Array.length_toList,this,show(i+1)*32+j-32=i*32+j by omega];exact lM hi hj
theorem Gw{l:List HT}{j:Nat}{v:Value}(h:(dw l)[j]? =some v):∃x,l[j/32]? =some x/\x.1[j%32]? =some v:=by
 have hj:=(lgeS h).1;rw [fu]at hj;have hi:j/32<l.length:=by omega
 refine⟨l[j/32],List.getElem?_eq_getElem hi,?_⟩;have hs:=l[j/32].2.1;have hm:j%32<l[j/32].1.size:=by rw [hs];omega
 obtain⟨u,hu⟩:∃u,l[j/32].1[j%32]? =some u:=⟨_,Array.getElem?_eq_getElem hm⟩;have:=lM (List.getElem?_eq_getElem hi) hu;rw [show j/32*32+j%32=j by omega,h]at this;rw [hu,this]
theorem pL:zF prog aF al 32 32:=⟨by kernel_rfl,by kernel_rfl⟩
abbrev cf(w:World)(B:Nat)(A:Option Addr)(n c:Nat)(l:List HT):Prop:=Row w B al 32 A n c (dw l)
section
variable{w w':World}{B:Nat}{A:Option Addr}{n c:Nat}{l:List HT}
theorem cf.len(h:cf w B A n c l):l.length=n:=by
 have:=Row.len h;rw [fu]at this;omega
theorem cf.hs(h:cf w B A n c l):HS w A n l:=⟨h.len,fun i x hi=>by
 have hlen:=h.len;have dX:=(lgeS hi).1;obtain⟨b,rfl⟩:=Row.some h (by omega);obtain⟨_,cur,pZ⟩:=Row.bV h (k:=b) rfl;refine⟨_,rfl,bf pZ,fun j v hj=>?_⟩;rw [lZ];exact Row.cells h _ _ (lM hi hj)⟩
theorem cf.nil(w:World)(B:Nat):cf w B none 0 0 []:=Row.nil _ _ _ _
theorem HS.cells{a:Addr}(h:HS w (some a) n l):∀j u,(dw l)[j]? =some u->w.cell? (a.add j)=some u:=by
 intro j u hj;obtain⟨x,hx,hu⟩:=Gw hj;obtain⟨a',ha,_,hc⟩:=h.at_ _ x hx;cases ha;have:=hc _ _ hu
 rwa [lZ,show j/32*32+j%32=j by omega]at this
theorem HS.nil(w:World)(A:Option Addr):HS w A 0 []:=⟨rfl,fun i x hi=>by simp at hi⟩
theorem HS.none(h:HS w none n l):n=0/\l= []:=by
 cases l with
 |nil=>exact⟨h.len.symm,rfl⟩
 |cons x l=>obtain⟨a,ha,_⟩:=h.at_ 0 x rfl;cases ha
theorem HS.take(h:HS w A n l){k:Nat}(hk:k<=n):HS w A k (l.take k):=⟨by have:=h.len;simp;omega,fun i x hi=>by
 rw [List.getElem?_take]at hi;split at hi
 ·exact h.at_ i x hi
 ·cases hi⟩
theorem HS.drop(h:HS w A n l){k:Nat}(hc:n<=c)(hk:k<=n):HS w (if c=k then A else A.map (·.add (k*32))) (n-k) (l.drop k):=⟨by have:=h.len;simp;omega,fun i x hi=>by
 rw [List.getElem?_drop]at hi;have hlen:=h.len;have:=(lgeS hi).1;obtain⟨a,rfl,hb,rR⟩:=h.at_ _ x hi;rw [if_neg (by omega)];refine⟨_,rfl,by rw [fw];exact hb,?_⟩;rw [lZ,<-Nat.add_mul];exact rR⟩
theorem HS.one{w:World}{b:Nat}{h:HT}{t:TypeId}{fr:Nat×Nat}(hb:w.heap[b]? =some (.cells h.1 t fr)):HS w (some ⟨b,0,Option.none⟩) 1 [h]:=⟨rfl,fun i x hi=>by
 cases i with
 |zero=>
  simp only [List.getElem?_cons_zero,Option.some.injEq]at hi;subst hi;exact⟨_,rfl,bf hb,by rw [Nat.zero_mul,add_zero];exact Cells.bV hb⟩
 |succ i=>simp at hi⟩
theorem dd(ty:Nat)(h:cf w B A n c l){A2:Option Addr}{m cx:Nat}{l2:List HT}(h2:HS w A2 m l2)(hm:n+m<=1000000)(hB:B<=w.heap.size):
 ∃A' c' w',(Builtin.append_ #[aF,aF] ty #[.slice A n c,.slice A2 m cx]).run prog w=.ok (.slice A' (n+m) c') w'/\
  cf w' B A' (n+m) c' (l++l2)/\w.grownBy w' (bI A)/\(∀k,bI A'=some k->bI A=some k\/w.heap.size<=k):=by
 cases A2 with
 |some a=>
  have uH:=h2.len;obtain⟨A',c',w',hr,fP,hg,hb⟩:=fZ (P:=prog) (t:=aF) (bytes:=32) (ty:=ty) pL h (a:=a) (m:=m) (cx:=cx) (news:=dw l2) (by rw [fu,uH]) h2.cells (C6 l2) (by omega) (by unfold maxLen;omega) hB;refine⟨A',c',w',hr,?_,hg,hb⟩;rw [<-mS]at fP;exact fP
 |none=>
  obtain⟨rfl,rfl⟩:=h2.none;refine⟨A,c,w,?_,by simpa using h,⟨rfl,rfl,rfl,Nat.le_refl _,fun _ _ _=>rfl⟩,fun k hk=>.inl hk⟩;obtain⟨i,z,hi,hz,hs,Kl,Ey⟩:=pL.inf;have hn:n<=c:=by rcases Row.own h with⟨_,h1,h2,_⟩|⟨_,_,_,_,_,h1,_⟩<;>omega
  simp [Builtin.append_,run_underlying pL.pE,sizeOf,typeInfo,hi,Builtin.lenOf,Builtin.firstCells,hn];cases A<;>simp [storeCells]
end
theorem HS.load{w:World}{A:Option Addr}{n:Nat}{l:List HT}(hl:HS w A n l){i:Int}{x:HT}(h0:0<=i)(hx:l[i.toNat]? =some x){k:Array Value->Prop}(hk:k x.1):
 (0<=i/\i<(n:Int))/\Is A fun a=>∃t:Array Value,(t.size=32/\Cells w (a.add (i.toNat*32)) t)/\k t:=by
 obtain⟨a,rfl,_,hc⟩:=hl.at_ _ x hx;have:=(lgeS hx).1;have:=hl.len;exact⟨⟨h0,by omega⟩,x.1,⟨x.2.1,hc⟩,hk⟩
theorem sO{a b:HT}:(lX a b<0)↔di a b=true:=by
 unfold lX;by_cases h:di a b=true
 ·simp [h]
 ·by_cases h':di b a=true<;>simp [h,h']
theorem dF{n:Int}(h0:0<=n)(h1:n<=2000000):i64.wrap (n+1)=n+1:=jb (by omega) (by omega)
theorem wrapM{n:Int}(h0:0<=n)(h1:n<=2000000):i64.wrap (n-1)=n-1:=jb (by omega) (by omega)
theorem Kept.dY{w w' mE:World}{A:Option Addr}(h:Kept Nil w w')(hg:w'.grownBy mE (bI A))(hr:∀k,bI A=some k->w.heap.size<=k):Kept Nil w mE:=
 Kept.grown h hg fun k hk di=>absurd (hr k hk) (by omega)
section
variable{w:World}{K:Value->World->Prop}
theorem oJ{A:Option Addr}{n c:Nat}{l:List HT}(hl:HS w A n l)(hn:n<=400000)
 (hK:∀A' c' w',cf w' w.heap.size A' (dC l).length c' (dC l)->Kept Nil w w'->K (.slice A' (dC l).length c') w'):
 bG prog aP.id #[.slice A n c] w K:=by
 refine aP.of ?_;have hlen:=hl.len;refine aP.cJ (I:=fun s w'=>∃(i:Nat) (out:List HT) (B:Option Addr) (m:Nat),s=(B,out.length,m,(i:Int))/\i<=n/\cf w' w.heap.size B out.length m out/\SS out/\(∀x,x∈out↔x∈l.take i)/\out.length<=i/\Kept Nil w w')
  (μ:=fun s _=>((n:Int)-s.2.2.2).toNat) (s:=(none,0,0,0)) ⟨0,[],none,0,rfl,Nat.zero_le _,cf.nil _ _,List.Pairwise.nil,by simp,by simp,Kept.refl _ _⟩ ?_
 rintro s w' ⟨i,out,B,m,rfl,hi,row,uU,jc,hol,kw⟩;refine Split.dec (fun jZ=>?_) (fun gH=>?_)
 ·simp only at jZ
  have dX:i<n:=by omega
  obtain⟨x,hx⟩:∃x,l[i]? =some x:=⟨_,List.getElem?_eq_getElem (by omega)⟩;refine(hl.same kw).load (i:=(i:Int)) (by omega) hx (yI x row.hs (by simp only;omega) fun w9 k9=>⟨_,rfl,?_⟩);simp only;have Th:Kept Nil w w9:=kw.tt k9;have KF:cf w9 w.heap.size B out.length m out:=Row.aK row k9 (fun _ _ h=>h);have zz:l.take (i+1)=l.take i++ [x]:=by rw [List.take_add_one,hx];rfl
  refine Split.dec (fun gD=>?_) (fun mH=>?_)
  ·rw [dF (n:=(i:Int)) (by omega) (by omega)]
   refine⟨(B,out.length,m,(i:Int)+1),rfl,⟨i+1,out,B,m,rfl,dX,KF,uU,fun y=>?_,by omega,Th⟩,by simp only;omega⟩;rw [zz,List.mem_append,List.mem_singleton,<-jc y];constructor
   ·exact .inl
   ·rintro(h|rfl)
    ·exact h
    ·exact gD
  ·refine aP.iB (I:=fun s w'=>∃k:Nat,s=(k:Int)/\k<=out.length/\(∀y∈out.drop k,di x y=true)/\Kept Nil w9 w') (μ:=fun s _=>s.toNat) (s:=(out.length:Int)) ⟨out.length,rfl,Nat.le_refl _,by simp,Kept.refl _ _⟩ ?_
   rintro s w1 ⟨k,rfl,hk,vX,k1⟩;have Nz:HS w1 A n l:=(hl.same Th).same k1;have yE:cf w1 w.heap.size B out.length m out:=Row.aK KF k1 (fun _ _ h=>h);have kx:Kept Nil w w1:=Th.tt k1;have vW:∀w1,HS w1 A n l->cf w1 w.heap.size B out.length m out->Kept Nil w w1->(∀y∈out.take k,di y x=true)->
    aP.jh A n c none 0 0 B out.length m (i:Int) (k:Int) (bW (aP.e1 A n c none 0 0) (fun s w'=>∃(i:Nat) (out:List HT) (B:Option Addr) (m:Nat),s=(B,out.length,m,(i:Int))/\i<=n/\cf w' w.heap.size B out.length m out/\SS out/\(∀x,x∈out↔x∈l.take i)/\out.length<=i/\Kept Nil w w') (fun s _=>((n:Int)-s.2.2.2).toNat) (B,out.length,m,(i:Int)) w' (aP.q1 K)) w1:=by
    intro w1 Nz yE kx IC;have I2:out.length<=m:=by rcases Row.own yE with⟨_,h1,h2,_⟩|⟨_,_,_,_,_,h1,_⟩<;>omega
    have mG:=kx.size;unfold aP.jh;refine⟨⟨by omega,by omega⟩,?_⟩;have wM:HS w1 (if m=0 then B else B.map (·.add (0*32))) ((k:Int).toNat -0) (out.take k):=by
     have h:=yE.hs.take hk;rw [Nat.sub_zero,Int.toNat_natCast];have e:(if m=0 then B else B.map (·.add (0*32)))=B:=by
      split
      ·rfl
      ·cases B<;>simp [add_zero]
     rw [e];exact h
    obtain⟨A1,c1,w2,nE,iw,LP,nH⟩:=dd (cx:=m-0) aF (cf.nil w1 w.heap.size) wM (by simp;omega) mG;have k2:Kept Nil w1 w2:=Kept.dY (Kept.refl _ _) LP (fun k hk=>by cases hk);rw [Nat.zero_add,Nat.sub_zero,Int.toNat_natCast]at nE iw;rw [List.nil_append]at iw;refine⟨A1,_,c1,w2,by rw [Nat.sub_zero,Int.toNat_natCast];exact nE,?_⟩;have uH:=Nz.same k2;refine uH.load (i:=(i:Int)) (by omega) hx ⟨x.2.1,?_⟩;intro w3;have k3:Kept Nil w2 w3:=(Kept.refl _ _).alloc _;have jE:HS w3 (some ⟨w2.heap.size,0,none⟩) 1 [x]:=by
     refine HS.one (t:=al) (fr:=(0,0)) ?_;have e3:w3=w2.alloc (.cells x.1 al):=by
      show w2.alloc (.cells (x.1.toList++ []).toArray al)=_
      simp
     rw [e3];exact aM w2 _
    clear_value w3;have nK:cf w3 w.heap.size A1 k c1 (out.take k):=Row.aK iw k3 (fun _ _ h=>h);have aax:w.heap.size<=w3.heap.size:=Nat.le_trans (Nat.le_trans mG k2.size) k3.size;obtain⟨A4,c4,w4,yf,jX,EL,ui⟩:=dd (cx:=1) aF nK jE (by omega) aax;have k4:Kept Nil w1 w4:=Kept.dY (k2.tt k3) EL (fun k hk=>by rcases nH k hk with h|h;cases h;exact h);refine⟨A4,_,c4,w4,yf,⟨by omega,by omega⟩,?_⟩;have IG:HS w4 (if m=(k:Int).toNat then B else B.map (·.add ((k:Int).toNat*32))) (out.length-(k:Int).toNat) (out.drop k):=by
     rw [Int.toNat_natCast];exact(yE.hs.same k4).drop I2 hk
    have hdl:(out.length-(k:Int).toNat)=out.length-k:=by rw [Int.toNat_natCast]
    obtain⟨A5,c5,w5,sC,lD,LO,pF⟩:=dd (cx:=m-(k:Int).toNat) aF jX IG (by omega) (Nat.le_trans mG k4.size);have k5:Kept Nil w1 w5:=Kept.dY k4 LO (fun b hb=>by
     rcases ui b hb with h|h
     ·rcases nH b h with h|h
      ·cases h
      ·exact h
     ·exact Nat.le_trans (Nat.le_trans k2.size k3.size) h)
    refine⟨A5,_,c5,w5,sC,?_⟩;rw [dF (n:=(i:Int)) (by omega) (by omega)];have nQ:out.take k++ [x]++out.drop k=out.take k++x::out.drop k:=by simp
    have zB:(out.take k++x::out.drop k).length=out.length+1:=by simp;omega
    rw [nQ]at lD;have e5:k+1+(out.length-(k:Int).toNat)=(out.take k++x::out.drop k).length:=by rw [zB];omega
    rw [e5]at lD⊢;refine⟨(A5,(out.take k++x::out.drop k).length,c5,(i:Int)+1),rfl,⟨i+1,_,A5,c5,rfl,dX,lD,JN uU IC vX,fun y=>?_,by omega,kx.tt k5⟩,by simp only;omega⟩;rw [show y∈l.take (i+1)↔y∈out\/y=x by rw [zz,List.mem_append,List.mem_singleton,jc y],List.mem_append,List.mem_cons];constructor
    ·rintro(h|rfl|h)
     ·exact .inl (List.mem_of_mem_take h)
     ·exact .inr rfl
     ·exact .inl (List.mem_of_mem_drop h)
    ·rintro(h|rfl)
     ·rw [<-List.take_append_drop k out,List.mem_append]at h
      rcases h with h|h
      ·exact .inl h
      ·exact .inr (.inr h)
     ·exact .inr (.inl rfl)
   unfold aP.B2;intro w2;have k2:Kept Nil w1 w2:=(Kept.refl _ _).drew;clear_value w2;have uH:=Nz.same k2;have iw:cf w2 w.heap.size B out.length m out:=Row.aK yE k2 (fun _ _ h=>h);have kx2:=kx.tt k2;refine Split.dec (fun jT=>?_) (fun Ba=>?_)
   ·have o6:0<k:=by omega
    obtain⟨y,hy⟩:∃y,out[k-1]? =some y:=⟨_,List.getElem?_eq_getElem (by omega)⟩;rw [wrapM (n:=(k:Int)) (by omega) (by omega)];refine uH.load (i:=(i:Int)) (by omega) hx (iw.hs.load (by omega) (by rw [show((k:Int)-1).toNat=k-1 by omega];exact hy) (tU x y fun w3 k3=>⟨_,rfl,?_⟩));refine Split.dec (fun hc=>?_) (fun hc=>?_)
    ·refine⟨(k:Int)-1,rfl,⟨k-1,by omega,by omega,fun z hz=>?_,(k1.tt k2).tt k3⟩,by simp only;omega⟩
     have hd:out.drop (k-1)=y::out.drop k:=by
      obtain⟨h1,h2⟩:=lgeS hy;rw [List.drop_eq_getElem_cons h1,h2,show k-1+1=k by omega]
     rw [hd]at hz;rcases List.mem_cons.1 hz with rfl|hz
     ·exact sO.1 hc
     ·exact vX z hz
    ·rw [aU,aP.ki]
     refine vW w3 (uH.same k3) (Row.aK iw k3 (fun _ _ h=>h)) (kx2.tt k3) fun z hz=>?_;have Ez:di y x=true:=by
      have h1:di x y=false:=by
       cases h:di x y
       ·rfl
       ·exact absurd (sO.2 h) hc
      refine lt_of_le_ne h1 fun e=>mH ?_;rw [<-e];exact List.mem_of_getElem? hy
     obtain⟨j,hj⟩:=List.mem_iff_getElem?.1 hz;rw [List.getElem?_take]at hj;split at hj
     ·rename_i Ym
      by_cases e:j=k-1
      ·subst e;rw [hy]at hj;cases hj;exact Ez
      ·exact lL (uU.get (by omega) hj hy) Ez
     ·cases hj
   ·rw [aU,aP.ki]
    have o6:k=0:=by omega
    refine vW w2 uH iw kx2 fun z hz=>?_;rw [o6]at hz;simp at hz
 ·simp only at gH
  have:i=n:=by omega
  subst this;rw [aU,aP.dz];have e:out=dC l:=yC uU fun x=>by rw [jc,List.take_of_length_le (by omega)]
  rw [e]at row;have:=hK B m w' row kw;rw [<-e]at this;exact this
end
theorem lO{w:World}{k l:Nat}{cs:Array Value}{t:TypeId}{fr:Nat×Nat}{R:Loop}(h:w.heap[k]? =some (.cells cs t fr))(h':w.heap[l]? =some (.loop R)):k≠l:=by
 rintro rfl;rw [h]at h';cases h'
theorem yN{w:World}{k l:Nat}{cs:Array Value}{t:TypeId}{fr:Nat×Nat}{d:Option (List Deferred)}(h:w.heap[k]? =some (.cells cs t fr))(h':w.heap[l]? =some (.deferred d)):k≠l:=by
 rintro rfl;rw [h]at h';cases h'
theorem Row.apart{w w':World}{B:Nat}{e:TypeId}{size:Nat}{A:Option Addr}{n c:Nat}{xs:List Value}(h:Row w B e size A n c xs){l:Nat}(hk:Kept (· =l) w w')
 (hl:∀cs t fr,w.heap[l]? ≠some (.cells cs t fr)):Row w' B e size A n c xs:=Row.aK h hk fun k hb e=>by
 subst e;obtain⟨_,cur,hc⟩:=Row.bV h hb;exact hl _ _ _ hc
abbrev sJ(h:HT):List Value:= [.agg h.1]
section
variable{w:World}{K:Value->World->Prop}
theorem zP(p:Addr){A:Option Addr}{n c:Nat}{l:List HT}(hn:n<=1000000):
 oB prog aI.id #[] #[.pointer (some p)] (l.map sJ) (fun w=>HS w A n l/\w.cell? p=some (.slice A n c)):=by
 intro y I D w0 hI hD sE h0 rz;refine aI.of ?_;obtain⟨wO,RS⟩:=sE 0 w0 h0;have hlen:=wO.len;refine⟨A,n,c,RS,?_⟩;refine aI.cJ (I:=fun s w'=>∃i:Nat,s=(i:Int)/\i<=n/\I i w') (μ:=fun s _=>((n:Int)-s).toNat) (s:=0) ⟨0,rfl,Nat.zero_le _,h0⟩ ?_;rintro s w' ⟨i,rfl,hi,hw⟩;refine Split.dec (fun jZ=>?_) (fun gH=>?_)
 ·have dX:i<n:=by omega
  obtain⟨x,hx⟩:∃x,l[i]? =some x:=⟨_,List.getElem?_eq_getElem (by omega)⟩;have hl:=(sE i w' hw).1;refine hl.load (i:=(i:Int)) (by omega) hx ?_;intro w10;obtain⟨tA,hb,hk⟩:=iP (w:=w') (z:=(CK 0)) (cs:=x.1) (t:=al) (by rw [x.2.1];rfl);refine⟨⟨x.2.1,x.2.one,fun j hj=>tA j (by rw [x.2.1];exact hj)⟩,?_⟩;intro pD
  replace hb:pD.heap[w'.heap.size]? =some (.cells x.1 al (0,0)):=hb
  replace hk:Kept Nil w' pD:=hk
  clear_value pD;refine⟨x.1,⟨x.2.1,Cells.bV hb⟩,?_⟩;refine(rz i (sJ x) pD (by rw [List.getElem?_map,hx];rfl) (hI i w' pD hw hk)).mono ?_;rintro b mE ⟨ht,hf⟩;cases b with
  |true=>
   refine Split.no rfl ?_;rw [dF (n:=(i:Int)) (by omega) (by omega)];exact⟨(i:Int)+1,rfl,⟨i+1,rfl,dX,ht rfl⟩,by simp only;omega⟩
  |false=>
   refine Split.yes rfl ?_;exact Or.inr (hf rfl)
 ·rw [aU,aI.dz]
  have e:i=n:=by omega
  subst e;refine Or.inl ?_;rw [List.length_map,hlen];exact hw
theorem xw{gf:FuncId}{gV:Array Value}{xs:List HT}{fn:Func}(Kk:prog.funcs[gf]? =some fn)(hb:fn.body.isSome){Ks:World->Prop}
 (hit:oB prog gf #[] gV (xs.map sJ) Ks) (hp:∀w',Kept Nil w w'->Ks w') (Li:xs.length<=1000000)
 (hK:∀A c w',cf w' w.heap.size A xs.length c xs->Kept Nil w w'->K (.slice A xs.length c) w'):
 bG prog aO.id #[.slice none 0 0,.func (.func gf) #[] gV] w K:=by
 refine aO.of ?_;unfold aO.W;intro w3;have k3:Kept Nil w w3:=(Kept.refl Nil w).alloc _;have p8:w3.heap[w.heap.size]? =some (.cells #[.slice none 0 0] aF (0,0)):=aM w _;have CP:w.heap.size<w3.heap.size:=bf p8;clear_value w3
 let ρ0:Env:= [(2,.pointer (some (aV w.heap.size))),(4,.slice none 0 0),(6,.func (.func gf) #[] gV)]
 let J:Nat->World->Prop:=fun i w'=>∃A c,w'.heap[w.heap.size]? =some (.cells #[.slice A i c] aF (0,0))/\cf w' w.heap.size A i c (xs.take i)/\Kept Nil w w'/\i<=xs.length/\∀k,bI A=some k->k≠w.heap.size
 refine oM (ρ:=ρ0) (ρ0:=ρ0) ng mix aO.k (t:=6) (ps:= #[7]) (by kernel_rfl) (by decide) rfl Kk hb (.inl rfl) (fun i v _ h=>h) rfl sJ xs (fun _=>rfl) (by simp [iO]) hit J (fun _ _=>False) ?_ (fun _ _ _ _ _ h=>h.elim) (fun i w' h=>hp w' (let ⟨_,_,_,_,h,_⟩:=h;h)) ?_ ?_ ?_ (fun _ _ h=>h.elim) (fun _ _ _ h=>h.elim)
 ·rintro i w' mE R hl ⟨A,c,h1,h2,h3,h4,h5⟩ hk
  exact⟨A,c,hk.heap h1 (lO h1 hl.loop),Row.apart h2 hk (fun cs t fr h=>by rw [hl.loop]at h;cases h),h3.trans hk (fun k hk e=>by omega),h4,h5⟩
 ·intro R
  exact⟨none,0,ly (ly p8 _) _,cf.nil _ _,(k3.alloc _).alloc _,Nat.zero_le _,fun k hk=>by cases hk⟩
 ·rintro i x w' R hx ⟨A,c,h1,h2,h3,h4,h5⟩ hl
  have dX:i<xs.length:=(lgeS hx).1;have e7:mo ρ0 ((#[7]:Array Nat).toList.zip (sJ x))= [(2,.pointer (some (aV w.heap.size))),(4,.slice none 0 0),(6,.func (.func gf) #[] gV),(7,.agg x.1)]:=rfl;rw [e7,aO.a1];unfold aO.A1;intro w8;obtain⟨tA,kh,kH⟩:=iP (w:=w') (z:=(CK 0)) (cs:=x.1) (t:=al) (by rw [x.2.1];rfl);refine⟨⟨x.2.1,x.2.one,fun j hj=>tA j (by rw [x.2.1];exact hj)⟩,?_⟩;intro xF
  replace kh:xF.heap[w'.heap.size]? =some (.cells x.1 al (0,0)):=kh
  replace kH:Kept Nil w' xF:=kH
  clear_value xF;have LF:=hl.aK kH (fun h=>h) (fun h=>h);refine⟨LF,fun w2 R2 o5 uH=>?_⟩;have acg:=o5.heap kh (lO kh LF.loop);have h1b:=kH.heap h1 (fun h=>h);have BX:=o5.heap h1b (lO h1b LF.loop);have Dd:cf w2 w.heap.size A i c (xs.take i):=Row.apart (Row.aK h2 kH (fun _ _ h=>h)) o5 (fun cs t fr h=>by rw [LF.loop]at h;cases h);have WS:Kept Nil w w2:=(h3.tt kH).trans o5 (fun k hk e=>by omega);have di:w.heap.size<w2.heap.size:=bf BX;rw [aO.y1];unfold aO.Y1;refine⟨A,i,c,by rw [aE BX];rfl,x.1,⟨x.2.1,Cells.bV acg⟩,x.2.1,?_⟩;intro nh;have rv:Kept Nil w2 nh:=(Kept.refl _ _).alloc _;have jE:HS nh (some ⟨w2.heap.size,0,none⟩) 1 [x]:=by
   refine HS.one (t:=al) (fr:=(0,0)) ?_;have e3:nh=w2.alloc (.cells x.1 al):=by
    show w2.alloc (.cells (x.1.toList++ []).toArray al)=_
    simp
   rw [e3];exact aM w2 _
  clear_value nh;have Ma:cf nh w.heap.size A i c (xs.take i):=Row.aK Dd rv (fun _ _ h=>h);have adf:=rv.heap BX (fun h=>h);have aiQ:=rv.size;obtain⟨A',c',xD,hr,nZ,hg,uJ⟩:=dd (cx:=1) aF Ma jE (by omega) (by omega);have Qu:Kept (fun k=>bI A=some k) nh xD:=Kept.grown (Kept.refl _ _) hg (fun k hk _=>hk);have Mb:=Qu.heap adf (fun h=>h5 _ h rfl);have Qi:Live (w3.heap.size+1) w3.heap.size R2 xD:=by
   have Qj:=uH.aK rv (fun h=>h) (fun h=>h);refine Qj.aK Qu ?_ ?_
   ·intro h
    obtain⟨_,cur,hc⟩:=Row.bV Ma h;exact lO hc Qj.loop rfl
   ·intro h
    obtain⟨_,cur,hc⟩:=Row.bV Ma h;exact yN hc Qj.mark rfl
  have JY:Kept Nil w xD:=(WS.tt rv).trans Qu (fun k hk e=>by
   obtain⟨h,_⟩:=Row.bV Ma e;omega)
  refine⟨A',_,c',xD,hr,dQ Mb (by simp),?_⟩;intro pC;have x9:Kept (· =w.heap.size) xD pC:=Kept.setCell (S:=fun k=>k=w.heap.size) (Kept.refl _ xD) (p:=⟨w.heap.size,0,none⟩) (fun _=>rfl) _;have acz:pC.heap[w.heap.size]? =some (.cells #[.slice A' (i+1) c'] aF (0,0)):=du Mb 0 _;clear_value pC;have Gz:∀k,bI A'=some k->k≠w.heap.size:=fun k hk=>by
   rcases uJ k hk with h|h
   ·exact h5 k h
   ·omega
  refine⟨Qi.aK x9 (lO Mb Qi.loop).symm (yN Mb Qi.mark).symm,A',c',acz,?_,JY.trans x9 (fun k hk e=>by omega),dX,Gz⟩;rw [List.take_add_one,hx];exact Row.aK nZ x9 Gz
 ·rintro w' R ⟨A,c,h1,h2,h3,h4,h5⟩ hl
  have e7:iY ρ0 w3.heap.size= [(2,.pointer (some (aV w.heap.size))),(4,.slice none 0 0),(6,.func (.func gf) #[] gV),(4294967296,.agg #[.pointer (some ⟨w3.heap.size,0,none⟩)])]:=rfl;rw [e7,aO.lI];refine⟨A,xs.length,c,by rw [aE h1];rfl,⟨hl.mark,trivial⟩,?_⟩;have kp:Kept (· =w3.heap.size) w' (w'.putObj w3.heap.size (.deferred none)):=Kept.putAt _ _ _;refine hK A c _ ?_ (h3.trans kp (fun k hk e=>by omega));have:=Row.apart h2 kp (fun cs t fr h=>by rw [hl.mark]at h;cases h)
  rwa [List.take_of_length_le (Nat.le_refl _)]at this
theorem Dt{gf:FuncId}{gV:Array Value}{xs:List HT}{fn:Func}(Kk:prog.funcs[gf]? =some fn)(hb:fn.body.isSome){Ks:World->Prop}
 (hit:oB prog gf #[] gV (xs.map sJ) Ks) (hp:∀w',Kept Nil w w'->Ks w') (Li:xs.length<=1000000)
 (hK:∀A c w',cf w' w.heap.size A xs.length c xs->Kept Nil w w'->K (.slice A xs.length c) w'):
 bG prog dt.id #[.func (.func gf) #[] gV] w K:=by
 refine dt.of (xw Kk hb hit hp Li fun A c w' h1 h2=>⟨_,_,_,rfl,hK A c w' h1 h2⟩)
end
open Go.Sort
instance:Inhabited HT:=⟨⟨Array.replicate 32 (.int .u8 0),by simp,fun v hv=>⟨0,by simpa using hv,by omega,by omega⟩⟩⟩
abbrev nU(h:HT):List Value:=h.1.toList
theorem Bs(h:HT):(nU h).length=32:=by have:=h.2.1;simpa using this
theorem wj(d:Array HT):(flatK nU 32 d).toList=dw d.toList:=by
 apply List.ext_getElem?;intro t;by_cases ht:t<d.size*32
 ·have hi:t/32<d.size:=by omega
  have hx:d.toList[t/32]? =some d[t/32]:=by rw [Array.getElem?_toList,Array.getElem?_eq_getElem hi]
  have hs:t%32<d[t/32].1.size:=by rw [d[t/32].2.1];omega
  have h1:=lM hx (Array.getElem?_eq_getElem hs);rw [show t/32*32+t%32=t by omega]at h1;rw [h1];have h2:t<(flatK nU 32 d).size:=by rw [size_flatK];exact ht
  have h3:=get_flatK nU 32 d t ht;rw [getElem!_pos _ t h2]at h3;rw [Array.getElem?_toList,Array.getElem?_eq_getElem h2,h3,getElem!_pos d _ hi];rw [getElem!_pos _ _ (by rw [Bs];omega)];simp [nU]
 ·rw [List.getElem?_eq_none (by simp;omega),List.getElem?_eq_none (by rw [fu];simp;omega)]
theorem HO{F cur:Array Value}{k:Nat}(hk:F.size=k)(h:k<=cur.size):(putCells id 0 F cur).toList.take k=F.toList:=by
 apply List.ext_getElem?;intro i;rw [List.getElem?_take];split
 ·rename_i hi
  have h1:i<cur.size:=by omega
  have h2:i<F.size:=by omega
  rw [Array.getElem?_toList,Array.getElem?_toList,putCells,Array.getElem?_mapIdx,Array.getElem?_eq_getElem h1,Array.getElem?_eq_getElem h2];simp [h2]
 ·rw [List.getElem?_eq_none (by simp;omega)]
theorem wV{w:World}{b:Nat}{f:Array Value->Array Value}{cur:Array Value}{t:TypeId}{fr:Nat×Nat}(h:w.heap[b]? =some (.cells cur t fr)):(mapBlock w b f).heap[b]? =some (.cells (f cur) t fr):=by
 simp [mapBlock,Array.getElem?_modify,h,onCells]
theorem wU(w:World)(b:Nat)(f:Array Value->Array Value):Kept (· =b) w (mapBlock w b f):=
 ⟨rfl,rfl,rfl,by simp [mapBlock],fun k _ hn=>by simp [mapBlock,Array.getElem?_modify,Ne.symm hn]⟩
theorem GB(w:World)(os:Array Obj):Kept Nil w (grow w os):=
 ⟨rfl,rfl,rfl,by simp,fun k hk _=>heap_grow_old w os hk⟩
theorem DI(w:World)(m:Nat):Kept Nil w (Sort.ahead w m):=⟨rfl,rfl,rfl,Nat.le_refl _,fun _ _ _=>rfl⟩
section
variable{w:World}{B n c b:Nat}{l:List HT}
theorem wQ(row:cf w B (some ⟨b,0,none⟩) n c l)(m:Nat)(dk:Array HT)(os:Array Obj)(hd:dk.size=n):
 cf (sortWorldK nU 32 w b 0 m dk os) B (some ⟨b,0,none⟩) n c dk.toList/\Kept (· =b) w (sortWorldK nU 32 w b 0 m dk os):=by
 have hka:=DI w m;have k1:=wU (Sort.ahead w m) b (putCells id 0 (flatK nU 32 dk));have kk:=((hka.mono (S':=fun k=>k=b) (fun _ _ h=>h.elim)).tt k1).trans (GB _ os) (fun _ _ h=>h.elim);refine⟨?_,?_⟩
 ·rcases Row.own row with⟨h,_⟩|⟨b',cur,hA,hB,hg,Gp,o8,nW,zz⟩
  ·cases h
  ·cases hA
   refine⟨by rw [fu,Array.length_toList,hd],.inr ⟨b,c,putCells id 0 (flatK nU 32 dk) cur,rfl,hB,?_,Gp,o8,by simp [putCells,nW],?_⟩⟩
   ·have h1:(mapBlock (Sort.ahead w m) b (putCells id 0 (flatK nU 32 dk))).heap[b]? =some (.cells (putCells id 0 (flatK nU 32 dk) cur) al (0,0)):=wV hg
    exact(heap_grow_old _ os (bf h1)).trans h1
   ·rw [<-wj]
    refine HO (by rw [size_flatK,hd]) ?_;rw [nW];exact Nat.mul_le_mul_right _ Gp
 ·exact kk
theorem CX(row:cf w B (some ⟨b,0,none⟩) n c l):HoldsK nU 32 w b 0 l.toArray:=by
 intro j hj;rw [size_flatK]at hj;have vU:j<l.length*32:=by simpa using hj
 rw [Nat.zero_add];have hlen:=Row.len row;have hx:(flatK nU 32 l.toArray).toList[j]? =(dw l)[j]? :=by rw [wj]
 have hjs:j<(flatK nU 32 l.toArray).size:=by rw [size_flatK];exact hj
 rw [Array.getElem?_toList,Array.getElem?_eq_getElem hjs]at hx;have hc:=Row.cell row hx.symm;refine⟨?_,?_⟩
 ·rw [hc,getElem!_pos _ j hjs];rfl
 ·exact(Row.wr row (j:=j) (by rw [fu];exact vU)).2
theorem pY(x y:HT):ltOf lX x y=di x y:=by
 unfold ltOf;cases h:di x y
 ·exact decide_eq_false fun h'=>by rw [sO.1 h']at h;cases h
 ·exact decide_eq_true (sO.2 h)
theorem le_trans'{x y z:HT}(h:di y x=false)(h':di z y=false):di z x=false:=by
 cases TU:di z x
 ·rfl
 ·exfalso
  by_cases e:y=z
  ·subst e;rw [h]at TU;cases TU
  ·have RJ:=lt_of_le_ne h' e
   have:=lL RJ TU;rw [h]at this;cases this
theorem Zi:SWO (ltOf lX) where
 irrefl x:=by rw [pY];exact js x
 trans x y z h h':=by rw [pY]at*;exact lL h h'
 ntrans x y z h h':=by
  rw [pY]at*;exact le_trans' h' h
theorem KE{A:Option Addr}{K:Value->World->Prop}(row:cf w B A n c l)(hn:n<=1000000)
 (hK:∀l' w',LE l'->(∀x,x∈l'↔x∈l)->cf w' B A n c l'->Kept (fun k=>bI A=some k) w w'->K (.tuple #[]) w'):
 bG prog gY.id #[.slice A n c,.func (.func dP.id) #[] #[]] w K:=by
 have hlen:=row.len;by_cases h0:n=0
 ·subst h0
  have h:=AnyF.slices_SortFunc_none Tryz.xH A c (.func (.func dP.id) #[] #[]) w;refine Calls.mono h ?_;rintro e w' ⟨rfl,rfl⟩;have:l= []:=List.eq_nil_of_length_eq_zero hlen;subst this;exact⟨_,rfl,hK [] _ List.Pairwise.nil (fun _=>Iff.rfl) row (Kept.refl _ _)⟩
 ·obtain⟨b,rfl⟩:=Row.some row (by omega)
  have hblk:b<w.heap.size:=by
   obtain⟨_,cur,hc⟩:=Row.bV row (k:=b) rfl;exact bf hc
  have mG:l.toArray.size=n:=by simpa using hlen
  have eg:∀args w,(callFunc dP.id args).run prog w=.ok (.enter dP.id args) w:=enters_of dP.at_ (by kernel_rfl) rfl;have hk:nN prog al=.agg 32:=by kernel_rfl
  obtain⟨e32,ha⟩:=sy hk;obtain⟨i,hi⟩:=Go.b0.info_of_underlying (P:=prog) (t:=al) (by kernel_rfl);have ab4:CmpLays prog dP.id #[] nU 32 lX b 0 l.toArray.size w:=fun m os dk _ x y=>by
   have e:(#[.agg (nU x).toArray,.agg (nU y).toArray]++ #[]:Array Value)= #[.agg x.1,.agg y.1]:=by simp [nU]
   rw [e];have h:=qg (w:=sortWorldK nU 32 w b 0 m dk os) x y (K:=fun v w'=>v=.int .i64 (lX x y)/\w'=(((sortWorldK nU 32 w b 0 m dk os).alloc (.cells x.1 al)).alloc (.cells y.1 al)).drew) ⟨rfl,rfl⟩;refine Calls.mono h ?_;rintro e w' ⟨v,rfl,rfl,rfl⟩;refine⟨rfl,1,#[.cells x.1 al,.cells y.1 al],?_⟩;rw [alloc_eq_grow,alloc_eq_grow,grow_grow,drew_grow];rfl
  have h:=AnyQ.slices_SortFunc_total Tryz.xH 32 ha (fun w=>by rw [e32];exact Go.b0.run_sizeOf hi w) nU Bs (fun x=>x.2.one) lX Zi dP.id #[] b 0 c l.toArray w eg ab4 (CX row) hblk (by omega)
   (fun x y h1 h2=>by rw [pY]at h1 h2;exact qE h1 h2)
  rw [mG]at h;refine Calls.mono h ?_;rintro e w' ⟨rfl,m,os,rfl⟩;have hp:=List.mergeSort_perm l.toArray.toList (fun x y=> !(ltOf lX) y x);have Gr:(l.toArray.toList.mergeSort fun x y=> !(ltOf lX) y x).toArray.size=n:=by
   have:=hp.length_eq;simp only [List.size_toArray];rw [this];simpa using hlen
  obtain⟨h1,h2⟩:=wQ row m _ os Gr;refine⟨_,rfl,hK _ _ ?_ (fun x=>?_) h1 (h2.mono fun k _ e=>by rw [e];rfl)⟩
  ·have hs:=List.pairwise_mergeSort (le:=fun x y=> !(ltOf lX) y x) (fun a b c h h'=>by
    rw [pY]at*;simp only [Bool.not_eq_true']at*;exact le_trans' h h') (fun a b=>by
    rw [pY,pY];cases nv:di b a
    ·rfl
    ·rw [tC nv];rfl) l.toArray.toList
   refine List.Pairwise.imp ?_ hs;intro a b nv;rw [pY]at nv;simpa using nv
  ·simp
end
end Go.Proofs.YtfleamccglihoaaGreatDoor
namespace Go.Proofs.YtfleamccglihoaaGreatDoor
open Go.Proofs.Tryz
open Go Go.b0 Go.RowKit
theorem C5{l:List HT}{k:Nat}(hk:k<l.length)(x:HT):dw (l.set k x)=iI (dw l) (k*32) x.1.toList:=by
 have h1:l=l.take k++l[k]::l.drop (k+1):=by rw [<-List.drop_eq_getElem_cons hk,List.take_append_drop]
 have e1:(dw (l.take k)).length=k*32:=by rw [fu,List.length_take];omega
 have hx:=x.2.1;have hl:=l[k].2.1;have hs:l.set k x=l.take k++x::l.drop (k+1):=List.set_eq_take_append_cons_drop .. |>.trans (if_pos hk)
 rw [hs]
 conv=>rhs;rw [h1]
 rw [mS,mS,lV,lV];generalize dw (l.take k)=p at e1;generalize dw (l.drop (k+1))=r;have eq:l[k].1.toList.length=32:=by simpa using hl
 have ev:x.1.toList.length=32:=by simpa using hx
 generalize l[k].1.toList=q at eq;generalize x.1.toList=v at ev;unfold iI;rw [List.take_left' e1,ev,show p++(q++r)=(p++q)++r by simp,List.drop_left' (by rw [List.length_append,e1,eq])];simp
theorem cf.setAt{w:World}{B n c b:Nat}{l:List HT}(row:cf w B (some ⟨b,0,none⟩) n c l){k:Nat}(hk:k<n)(x:HT):
 cf (setCells w ⟨b,k*32,none⟩ x.1.toList 0) B (some ⟨b,0,none⟩) n c (l.set k x):=by
 have hlen:=row.len;have hx:=x.2.1;have:=rW x.1.toList (dw l) w (k*32) 0 row (by rw [fu];simp;omega);rw [Nat.add_zero]at this;rw [<-C5 (by omega)]at this;exact this
theorem cf.Ov{w:World}{B n c b:Nat}{l:List HT}(row:cf w B (some ⟨b,0,none⟩) n c l){k:Nat}(hk:k<n)(j:Nat)(hj:j<32):Wr w ((⟨b,k*32,none⟩:Addr).add j):=by
 rw [bE];refine Row.wr row ?_;rw [fu,row.len];omega
theorem cf.cap{w:World}{B:Nat}{A:Option Addr}{n c:Nat}{l:List HT}(row:cf w B A n c l):n<=c:=by
 rcases Row.own row with⟨_,h1,h2,_⟩|⟨_,_,_,_,_,h1,_⟩<;>omega
theorem cf.cut{w w':World}{B n c b:Nat}{l:List HT}(row:cf w B (some ⟨b,0,none⟩) n c l){k:Nat}(hk:k<=n)(vs:List Value)(hv:vs.length=(n-k)*32)(hw:w'=setCells w ⟨b,k*32,none⟩ vs 0):
 cf w' B (some ⟨b,0,none⟩) k c (l.take k):=by
 subst hw;have hlen:=row.len;rcases Row.own row with⟨h,_⟩|⟨b',cur,hA,hB,hg,Gp,o8,nW,zz⟩
 ·cases h
 ·cases hA
  have hle:n*32<=c*32:=Nat.mul_le_mul_right _ Gp;have mG:k*32+0+vs.length<=cur.size:=by omega
  have h1:=ln vs cur w al (k*32) 0 hg mG;refine⟨by rw [fu,List.length_take];omega,.inr ⟨b,c,_,rfl,hB,h1,by omega,o8,?_,?_⟩⟩
  ·have:=mK (xs:=cur.toList) (k:=k*32+0) (vs:=vs) (by simpa using mG)
   rw [List.size_toArray,this];simpa using nW
  ·have e1:(dw (l.take k)).length=k*32:=by rw [fu,List.length_take];omega
   have e2:(dw l).take (k*32)=dw (l.take k):=by
    conv=>lhs;rw [<-List.take_append_drop k l,mS]
    rw [<-e1,List.take_left'];rfl
   rw [<-e2,<-zz,List.take_take,Nat.min_eq_left (by omega)];unfold iI;simp only [Nat.add_zero];rw [List.append_assoc,List.take_append_of_le_length (by simp;omega),List.take_take,Nat.min_self]
def DR(P:Program)(e:TypeId):Bool:=
 match P.info? e with
 |some i=>match i.zero with
  |some z=>z.cells.toList.all fun v=>v.oneCell'
  |none=>false
 |none=>false
theorem vp{w:World}{B n c b:Nat}{l:List HT}(row:cf w B (some ⟨b,0,none⟩) n c l){k:Nat}(hk:k<=n)(ty:Nat){A:Option Addr}{cx:Nat}(hA:k<n->A=some ⟨b,k*32,none⟩):
 ∃w',(Builtin.clear_ #[aF] ty #[.slice A (n-k) cx]).run prog w=.ok (.tuple #[]) w'/\cf w' B (some ⟨b,0,none⟩) k c (l.take k)/\Kept (· =b) w w':=by
 have hlen:=row.len;by_cases xh:k<n
 ·obtain⟨i,z,hi,hz,hs,_,Ey⟩:=pL.inf
  have Ly:DR prog al=true:=by kernel_rfl
  unfold DR at Ly;rw [hi]at Ly;simp only [hz,List.all_eq_true]at Ly;rw [hA xh];obtain⟨m,hm⟩:∃m,n-k=m+1:=⟨n-k-1,by omega⟩;have X0:(Builtin.zeroCells z.cells (n-k)).toList.length=(n-k)*32:=by simp [Builtin.zeroCells,Ey]
  have nu:=jn (P:=prog) ⟨b,k*32,none⟩ (Builtin.zeroCells z.cells (n-k)).toList 0 w (fun v hv=>by
   simp only [Builtin.zeroCells,Array.toList_map,List.mem_map]at hv;obtain⟨t,ht,rfl⟩:=hv;have:t%z.cells.size<z.cells.size:=Nat.mod_lt _ (by omega);rw [getElem!_pos z.cells _ this];exact Ly _ (by simp)) (fun j hj=>by
   rw [Nat.zero_add,bE];refine Row.wr row ?_;rw [fu];omega)
  refine⟨_,?_,row.cut hk _ X0 rfl,ig _ _ _ _⟩;simp only [Builtin.clear_,hm];rw [hm]at nu;simp [run_underlying pL.pE,zeroValue,typeInfo,hi,hz,nu]
 ·have:n=k:=by omega
  subst this;refine⟨w,?_,by rw [List.take_of_length_le (by omega)];exact row,Kept.refl _ _⟩;rw [Nat.sub_self];cases A<;>simp [Builtin.clear_,run_underlying pL.pE]
theorem Fs:∀ {l:List HT},l.length<2->dC l=l
 | [],_=>rfl
 | [_],_=>rfl
 |_::_::_,h=>by simp only [List.length_cons]at h;omega
section
variable{w:World}{B n c:Nat}{A:Option Addr}{l:List HT}{K:Value->World->Prop}
theorem Ds(row:cf w B A n c l)(hle:LE l)(hn:n<=400000)
 (hK:∀A' c' w',cf w' B A' (dC l).length c' (dC l)->(∀k,bI A'=some k->bI A=some k)->Kept (fun k=>bI A=some k) w w'->K (.slice A' (dC l).length c') w'):
 bG prog ah.id #[.slice A n c] w K:=by
 have hlen:=row.len;refine ah.of ?_;refine Split.dec (fun h2=>?_) (fun h2=>?_)
 ·have e:dC l=l:=Fs (by omega)
  have:=hK A c w (by rw [e,hlen];exact row) (fun k h=>h) (Kept.refl _ _);rw [e,hlen]at this;exact this
 obtain⟨b,rfl⟩:=Row.some row (by omega);have I2:=row.cap;refine ah.cJ (I:=fun s w'=>∃k:Nat,s=(none,0,0,(k:Int))/\1<=k/\k<=n/\SS (l.take k)/\Kept Nil w w') (μ:=fun s _=>((n:Int)-s.2.2.2).toNat) (s:=(none,0,0,1))
  ⟨1,rfl,Nat.le_refl _,by omega,?_,Kept.refl _ _⟩ ?_
 ·cases l with
  |nil=>exact List.Pairwise.nil
  |cons x l=>simp [SS]
 rintro s w' ⟨k,rfl,Ki,xh,uU,kw⟩;refine Split.dec (fun jZ=>?_) (fun gH=>?_)
 ·simp only at jZ
  have C0:k<n:=by omega
  obtain⟨x,hx⟩:∃x,l[k]? =some x:=⟨_,List.getElem?_eq_getElem (by omega)⟩;obtain⟨y,hy⟩:∃y,l[k-1]? =some y:=⟨_,List.getElem?_eq_getElem (by omega)⟩;intro w5;have k5:Kept Nil w w5:=kw.drew;clear_value w5;have lD:cf w5 B (some ⟨b,0,none⟩) n c l:=Row.aK row k5 (fun _ _ h=>h);simp only;rw [wrapM (n:=(k:Int)) (by omega) (by omega)];have nD:di x y=false:=hle.get (by omega) hy hx;refine lD.hs.load (i:=(k:Int)) (by omega) hx (lD.hs.load (i:=(k:Int)-1) (by omega) (by rw [show((k:Int)-1).toNat=k-1 by omega];exact hy) ⟨⟨x.2.ints,y.2.ints⟩,?_⟩);rw [fz];refine Split.dec (fun he=>?_) (fun he=>?_)
  ·refine⟨⟨by omega,by omega⟩,?_⟩
   rw [Int.toNat_natCast];rw [if_neg (show ¬c=k by omega)];simp only [Option.map_some,bE,Nat.zero_add];refine ah.iB (I:=fun s w'=>∃(p j:Nat) (l':List HT),s=((p:Int),(j:Int))/\1<=j/\k<=p/\p<k+j/\k+j<=n/\cf w' B (some ⟨b,0,none⟩) n c l'/\l'.drop (k+j-1)=l.drop (k+j-1)/\SS (l'.take p)/\(∀z,z∈l'.take p↔z∈l.take (k+j))/\Kept (· =b) w w')
    (μ:=fun s _=>((n:Int)-s.2).toNat) (s:=((k:Int),1)) ⟨k,1,l,rfl,Nat.le_refl _,Nat.le_refl _,by omega,by omega,lD,rfl,uU,fun z=>?_,k5.mono fun _ _ h=>h.elim⟩ ?_
   ·rw [bP hx]
    constructor
    ·exact .inl
    ·rintro(h|rfl)
     ·exact h
     ·rw [he]
      have:=bP (z:=y) hy;rw [show k-1+1=k by omega]at this;exact this.2 (.inr rfl)
   rintro s w1 ⟨p,j,l',rfl,hj1,Vc,hpj,hjn,og,VO,wM,Ny,k1⟩;have Bc:=og.len;refine Split.dec (fun Qp=>?_) (fun Qv=>?_)
   ·simp only at Qp
    have uV:k+j<n:=by omega
    obtain⟨u,hu⟩:∃u,l[k+j]? =some u:=⟨_,List.getElem?_eq_getElem (by omega)⟩;obtain⟨v,hv⟩:∃v,l[k+j-1]? =some v:=⟨_,List.getElem?_eq_getElem (by omega)⟩;have Ll:l'[k+j]? =some u:=by
     have h:=congrArg (fun m:List HT=>m[1]?) VO;simp only [List.getElem?_drop]at h;rw [show k+j-1+1=k+j by omega]at h;rw [h,hu]
    have hv':l'[k+j-1]? =some v:=by
     have h:=congrArg (fun m:List HT=>m[0]?) VO;simp only [List.getElem?_drop,Nat.add_zero]at h;rw [h,hv]
    intro xD;have JY:Kept (· =b) w xD:=k1.drew;have nZ:cf xD B (some ⟨b,0,none⟩) n c l':=Row.aK og ((Kept.refl Nil w1).drew) (fun _ _ h=>h);clear_value xD;have vR:HS xD (some ⟨b,k*32,none⟩) (n-k) (l'.drop k):=by
     have h:=nZ.hs.drop (c:=c) I2 (k:=k) (by omega);rw [if_neg (show ¬c=k by omega)]at h;simpa [bE]using h
    have hsu:(l'.drop k)[(j:Int).toNat]? =some u:=by rw [Int.toNat_natCast,List.getElem?_drop];exact Ll
    have PS:(l'.drop k)[((j:Int)-1).toNat]? =some v:=by
     rw [show((j:Int)-1).toNat=j-1 by omega,List.getElem?_drop,show k+(j-1)=k+j-1 by omega];exact hv'
    simp-zeta only;rw [wrapM (n:=(j:Int)) (by omega) (by omega)];have huv:di u v=false:=hle.get (by omega) hv hu;refine vR.load (i:=(j:Int)) (by omega) hsu (vR.load (i:=(j:Int)-1) (by omega) PS ⟨⟨u.2.ints,v.2.ints⟩,?_⟩);rw [fz,dF (n:=(j:Int)) (by omega) (by omega)];have hmu:∀z,z∈l.take (k+(j+1))↔z∈l'.take p\/z=u:=fun z=>by
     rw [show k+(j+1)=k+j+1 by omega,bP hu,Ny z]
    by_cases heq:u=v
    ·refine Split.no (by rw [decide_eq_true heq];rfl) ?_
     refine⟨((p:Int),(j:Int)+1),rfl,⟨p,j+1,l',rfl,by omega,Vc,by omega,by omega,nZ,?_,wM,fun z=>?_,JY⟩,by simp only;omega⟩
     ·have h:=congrArg (fun m:List HT=>m.drop 1) VO
      simp only [List.drop_drop]at h;rw [show k+(j+1)-1=k+j-1+1 by omega];exact h
     ·rw [hmu z]
      constructor
      ·exact .inl
      ·rintro(h|rfl)
       ·exact h
       ·refine(Ny _).2 ?_
        rw [heq];exact List.mem_of_getElem? (i:=k+j-1) (by rw [List.getElem?_take,if_pos (by omega)];exact hv)
    ·refine Split.yes (by rw [decide_eq_false heq];rfl) ?_
     refine vR.load (i:=(j:Int)) (by omega) hsu ⟨⟨by omega,by omega⟩,⟨u.2.1,u.2.one,fun i hi=>?_⟩,?_⟩
     ·rw [Int.toNat_natCast,bE,Nat.zero_add]
      exact nZ.Ov (by omega) i hi
     intro G6;have T3:G6=setCells xD ⟨b,p*32,none⟩ u.1.toList 0:=by
      show setCells xD ((⟨b,0,none⟩:Addr).add ((p:Int).toNat*32)) u.1.toList 0=_
      rw [Int.toNat_natCast,bE,Nat.zero_add]
     have SI:cf G6 B (some ⟨b,0,none⟩) n c (l'.set p u):=by rw [T3];exact nZ.setAt (by omega) u
     have Ic:Kept (· =b) w G6:=by rw [T3];exact JY.tt (ig _ _ _ _)
     clear_value G6;rw [dF (n:=(p:Int)) (by omega) (by omega)];have zz:(l'.set p u).take (p+1)=l'.take p++ [u]:=by
      rw [List.take_add_one,List.take_set_of_le (Nat.le_refl p),List.getElem?_set_self (by omega)];rfl
     refine⟨((p:Int)+1,(j:Int)+1),rfl,⟨p+1,j+1,l'.set p u,rfl,by omega,by omega,by omega,by omega,SI,?_,?_,fun z=>?_,Ic⟩,by simp only;omega⟩
     ·have h:=congrArg (fun m:List HT=>m.drop 1) VO
      simp only [List.drop_drop]at h;rw [List.drop_set,if_pos (by omega),show k+(j+1)-1=k+j-1+1 by omega];exact h
     ·rw [zz]
      refine E5 wM fun z hz=>?_;obtain⟨i,hi⟩:=List.mem_iff_getElem?.1 ((Ny z).1 hz);rw [List.getElem?_take]at hi;split at hi
      ·rename_i hik
       have hvu:di v u=true:=lt_of_le_ne huv (fun e=>heq e.symm);by_cases e:i=k+j-1
       ·subst e;rw [hv]at hi;cases hi;exact hvu
       ·exact tZ (hle.get (by omega) hi hv) hvu
      ·cases hi
     ·rw [zz,hmu z]
      simp
   ·simp only at Qv
    have hj:k+j=n:=by omega
    rw [aU,ah.ki];unfold ah.jh;refine⟨⟨by omega,by omega⟩,?_⟩;rw [Int.toNat_natCast];obtain⟨w2,hr,iw,k2⟩:=vp og (k:=p) (by omega) 0 (A:=if c=p then some ⟨b,0,none⟩else(some ⟨b,0,none⟩:Option Addr).map (·.add (p*32))) (cx:=c-p) (fun hp=>by
     rw [if_neg (by omega)];simp [bE])
    refine⟨_,w2,hr,⟨by omega,by omega⟩,?_⟩;have e:l'.take p=dC l:=yC wM fun z=>by rw [Ny z,hj,List.take_of_length_le (by omega)]
    have el:p=(dC l).length:=by
     have h:=iw.len;rw [e]at h;exact h.symm
    have e0:(if c=0 then(some ⟨b,0,none⟩:Option Addr)else(some ⟨b,0,none⟩:Option Addr).map (·.add (0*32)))=some ⟨b,0,none⟩:=by
     rw [if_neg (by omega)];simp [add_zero]
    rw [e0,Nat.sub_zero,Nat.sub_zero];rw [e,el]at iw;have:=hK (some ⟨b,0,none⟩) c w2 iw (fun k h=>h) ((k1.tt k2).mono fun i _ h=>by rw [h];rfl);rw [<-el]at this;exact this
  ·rw [dF (n:=(k:Int)) (by omega) (by omega)]
   refine⟨(none,0,0,(k:Int)+1),rfl,⟨k+1,rfl,by omega,by omega,?_,k5⟩,by simp only;omega⟩;rw [List.take_add_one,hx];refine E5 uU fun z hz=>?_;have Ez:di y x=true:=lt_of_le_ne nD (fun e=>he e.symm);obtain⟨i,hi⟩:=List.mem_iff_getElem?.1 hz;rw [List.getElem?_take]at hi;split at hi
   ·by_cases e:i=k-1
    ·subst e;rw [hy]at hi;cases hi;exact Ez
    ·exact tZ (hle.get (by omega) hi hy) Ez
   ·cases hi
 ·simp only at gH
  have e:k=n:=by omega
  subst e;rw [aU,ah.dz];rw [List.take_of_length_le (by omega)]at uU;have e:dC l=l:=zV uU;have:=hK (some ⟨b,0,none⟩) c w' (by rw [e,hlen];exact Row.aK row kw (fun _ _ h=>h)) (fun k h=>h) (kw.mono fun _ _ h=>h.elim);rw [e,hlen]at this;exact this
theorem iT(hl:HS w A n l)(hn:n<=400000)
 (hK:∀A' c' w',cf w' w.heap.size A' (dC l).length c' (dC l)->Kept Nil w w'->K (.slice A' (dC l).length c') w'):
 bG prog jM.id #[.slice A n c] w K:=by
 have hlen:=hl.len;refine jM.of ?_;refine dK.of ?_;unfold dK.W;intro w2;have k2:Kept Nil w w2:=(Kept.refl _ _).alloc _;have nH:w2.heap[w.heap.size]? =some (.cells #[.slice A n c] aF (0,0)):=aM w _;clear_value w2;refine⟨_,rfl,?_⟩;refine dI.of ?_;refine Dt (xs:=l) aI.at_ (by rfl) (zP (l:=l) ⟨w.heap.size,0,none⟩ (A:=A) (n:=n) (c:=c) (by omega)) (fun w' hk=>⟨(hl.same k2).same hk,by rw [aE (hk.heap nH (fun h=>h))];rfl⟩) (by omega) ?_;intro A4 c4 w4 jX k4;refine⟨A4,_,c4,rfl,?_⟩;refine KE jX (by omega) fun l5 w5 hle jc lD k5=>⟨rfl,?_⟩;refine⟨A4,_,c4,rfl,?_⟩;refine Ds lD hle (by omega) fun A6 c6 w6 yG p7 k6=>⟨A6,_,c6,rfl,?_⟩;have e:dC l5=dC l:=D3 jc;rw [e]at yG⊢;have R7:∀k,bI A4=some k->w.heap.size<=k:=fun k hk=>Nat.le_trans k2.size (Row.bV jX hk).1;refine hK A6 c6 w6 (Row.base yG fun k hk=>R7 k (p7 k hk)) ?_;exact((k2.tt k4).trans k5 (fun k hk h=>absurd (R7 k h) (by omega))).trans k6 (fun k hk h=>absurd (R7 k h) (by omega))
end
theorem kz{x:Nat}(h:x<18446744073709551616):u64.wrap (x:Int)=(x:Int):=by
 simp only [IntKind.wrap,IntKind.bits,IntKind.signed];simp;omega
theorem orU{x y:Nat}(hx:x<18446744073709551616)(hy:y<18446744073709551616):
 u64.wrap ((BitVec.ofInt 64 (x:Int)|||BitVec.ofInt 64 (y:Int)).toNat:Int)=((x|||y:Nat):Int):=by
 have h:(BitVec.ofInt 64 (x:Int)|||BitVec.ofInt 64 (y:Int)).toNat=x|||y:=by
  rw [BitVec.ofInt_natCast,BitVec.ofInt_natCast,BitVec.toNat_or,BitVec.toNat_ofNat,BitVec.toNat_ofNat,Nat.mod_eq_of_lt (by omega),Nat.mod_eq_of_lt (by omega)]
 rw [h];exact kz (Nat.or_lt_two_pow (n:=64) hx hy)
theorem adz{x y:Nat}(hx:x<18446744073709551616)(hy:y<18446744073709551616):
 u64.wrap ((BitVec.ofInt 64 (x:Int)&&& BitVec.ofInt 64 (y:Int)).toNat:Int)=((x&&& y:Nat):Int):=by
 have h:(BitVec.ofInt 64 (x:Int)&&& BitVec.ofInt 64 (y:Int)).toNat=x&&& y:=by
  rw [BitVec.ofInt_natCast,BitVec.ofInt_natCast,BitVec.toNat_and,BitVec.toNat_ofNat,BitVec.toNat_ofNat,Nat.mod_eq_of_lt (by omega),Nat.mod_eq_of_lt (by omega)]
 rw [h];exact kz (Nat.lt_of_le_of_lt Nat.and_le_left hx)
theorem Zv{i:Nat}(hi:i<64):u64.wrap ((1:Int)*2 ^ (min i 64))=((2 ^ i:Nat):Int):=by
 rw [Nat.min_eq_left (by omega),Int.one_mul];have h:2 ^ i<18446744073709551616:=Nat.pow_lt_pow_right (by omega) (n:=64) hi;have:=kz h;rw [<-this];simp
def bit(ws:List Nat)(i:Nat):Bool:=(ws.getD (i/64) 0).testBit (i%64)
def okW(ws:List Nat):Prop:=∀x∈ws,x<18446744073709551616
theorem zi(i:Nat):bit [] i=false:=by simp [bit]
theorem BD(ws:List Nat)(i:Nat):bit (ws++ [0]) i=bit ws i:=by
 unfold bit
 congr 1
 simp only [List.getD_eq_getElem?_getD,List.getElem?_append];split
 ·rfl
 ·rename_i h
  rw [List.getElem?_eq_none (l:=ws) (by omega)];cases i/64-ws.length<;>simp
theorem EX{ws:List Nat}{q:Nat}(hq:q<ws.length)(v i:Nat):bit (ws.set q v) i=if i/64=q then v.testBit (i%64)else bit ws i:=by
 unfold bit;simp only [List.getD_eq_getElem?_getD,List.getElem?_set];by_cases h:i/64=q
 ·subst h;simp [hq]
 ·rw [if_neg (fun e=>h e.symm),if_neg h]
theorem Ei{ws:List Nat}(h:okW ws){x:Nat}(hx:x<18446744073709551616):okW (ws++ [x]):=fun y hy=>by
 rw [List.mem_append,List.mem_singleton]at hy;rcases hy with hy|rfl
 ·exact h y hy
 ·exact hx
theorem Eh{ws:List Nat}(h:okW ws){x:Nat}(hx:x<18446744073709551616)(q:Nat):okW (ws.set q x):=fun y hy=>by
 rcases List.mem_or_eq_of_mem_set hy with hy|rfl
 ·exact h y hy
 ·exact hx
def us(l:List Nat):List Value:=l.map fun x:Nat=>.int .u64 (x:Int)
theorem pH(l:List Nat):(us l).length=l.length:=by simp [us]
theorem pI{l:List Nat}{j x:Nat}(h:l[j]? =some x):(us l)[j]? =some (.int .u64 (x:Int)):=by simp [us,h]
theorem yA(l:List Nat)(q v:Nat):(us l).set q (.int .u64 (v:Int))=us (l.set q v):=by simp [us,List.map_set]
theorem OF(l m:List Nat):us (l++m)=us l++us m:=by simp [us]
structure US(w:World)(A:Option Addr)(n:Nat)(l:List Nat):Prop where
 len:l.length=n
 at_:∀(i x:Nat),l[i]? =some x->∃a,A=some a/\a.block<w.heap.size/\w.cell? (a.add i)=some (.int .u64 (x:Int))
theorem US.aK{S:Nat->Prop}{w w':World}{A:Option Addr}{n:Nat}{l:List Nat}(h:US w A n l)(hk:Kept S w w')(hn:∀a,A=some a->¬S a.block):US w' A n l:=⟨h.len,fun i x hi=>by
 obtain⟨a,h1,h2,h3⟩:=h.at_ i x hi;exact⟨a,h1,Nat.lt_of_lt_of_le h2 hk.size,hk.cell h3 (by rw [fw];exact hn a h1)⟩⟩
theorem US.load{w:World}{A:Option Addr}{n:Nat}{l:List Nat}(hl:US w A n l){i:Int}{x:Nat}(h0:0<=i)(hx:l[i.toNat]? =some x){k:Int->Prop}(hk:k x):
 (0<=i/\i<(n:Int))/\Is A fun a=>∃t:Int,w.cell? (a.add (i.toNat*1))=some (.int .u64 t)/\k t:=by
 obtain⟨a,rfl,_,hc⟩:=hl.at_ _ x hx;have:=(lgeS hx).1;have:=hl.len;exact⟨⟨h0,by omega⟩,x,by rw [Nat.mul_one];exact hc,hk⟩
theorem ON:zF prog lN gF 1 8:=⟨by kernel_rfl,by kernel_rfl⟩
abbrev lF(w:World)(B:Nat)(A:Option Addr)(n c:Nat)(l:List Nat):Prop:=Row w B gF 1 A n c (us l)
section
variable{w w':World}{B n c:Nat}{A:Option Addr}{l:List Nat}
theorem lF.len(h:lF w B A n c l):l.length=n:=by have:=Row.len h;rw [pH]at this;omega
theorem lF.us(h:lF w B A n c l):US w A n l:=⟨h.len,fun i x hi=>by
 have hlen:=h.len;have:=(lgeS hi).1;obtain⟨b,rfl⟩:=Row.some h (by omega);obtain⟨_,cur,pZ⟩:=Row.bV h (k:=b) rfl;exact⟨_,rfl,bf pZ,by rw [bE,Nat.zero_add];exact Row.cell h (pI hi)⟩⟩
theorem HD(i:Nat):((i:Int).tdiv 64)=((i/64:Nat):Int):=by
 rw [Int.tdiv_eq_ediv_of_nonneg (by omega)];omega
theorem OK(i:Nat):((i:Int).tmod 64)=((i%64:Nat):Int):=by
 rw [Int.tmod_eq_emod_of_nonneg (by omega)];omega
theorem uz(h:lF w B A n c l)(hn:n<=1000000)(hB:B<=w.heap.size){t:Nat}(x:Nat):
 ∃A' c' w',(Builtin.append_ #[lN,lN] lN #[.slice A n c,.slice (some ⟨w.heap.size,0,none⟩) 1 1]).run prog (w.alloc (.cells #[.int .u64 (x:Int)] t))=.ok (.slice A' (n+1) c') w'/\
  lF w' B A' (n+1) c' (l++ [x])/\Kept (fun k=>bI A=some k) w w'/\(∀k,bI A'=some k->bI A=some k\/w.heap.size<=k):=by
 have k1:Kept Nil w (w.alloc (.cells #[.int .u64 (x:Int)] t)):=(Kept.refl _ _).alloc _;have hb:=aM w (.cells #[.int .u64 (x:Int)] t);have h1:lF (w.alloc (.cells #[.int .u64 (x:Int)] t)) B A n c l:=Row.aK h k1 (fun _ _ h=>h);obtain⟨A',c',w',hr,fP,hg,uJ⟩:=fZ (P:=prog) (t:=lN) (ty:=lN) (bytes:=8) ON h1 (a:=⟨w.heap.size,0,none⟩) (m:=1) (cx:=1) (news:=us [x]) rfl
  (fun j u hj=>by rw [bE,Nat.zero_add,aE hb];simpa [us]using hj) (fun u hu=>by simp [us]at hu;subst hu;rfl) (by omega) (by unfold maxLen;omega) (by have:=k1.size;omega)
 refine⟨A',c',w',hr,?_,?_,fun k hk=>?_⟩
 ·show Row w' B gF 1 A' (n+1) c' (Proofs.YtfleamccglihoaaGreatDoor.us (l++ [x]))
  rw [OF];exact fP
 ·exact(k1.mono (S':=fun k=>bI A=some k) (fun _ _ h=>h.elim)).tt (Kept.grown (S:=fun k=>bI A=some k) (Kept.refl _ _) hg (fun k hk _=>hk))
 ·rcases uJ k hk with h|h
  ·exact .inl h
  ·have:=k1.size;exact .inr (by omega)
theorem zX{b:Nat}(h:lF w B (some ⟨b,0,none⟩) n c l){q:Nat}(hq:q<n)(x:Nat):
 lF (w.setCell ⟨b,q,none⟩ (.int .u64 (x:Int))) B (some ⟨b,0,none⟩) n c (l.set q x):=by
 have:=Row.set h (j:=q) (by rw [pH,h.len];exact hq) (.int .u64 (x:Int));rw [yA]at this;exact this
theorem z8{K:Value->World->Prop}(h:lF w B A n c l)(ho:okW l)(hn:n<=100000)(hB:B<=w.heap.size){i:Nat}(hi:i<=1000000)
 (hK:∀A' n' c' l' w',lF w' B A' n' c' l'->okW l'->(n'<=n\/n'<=i/64+1)->(∀j,bit l' j=(bit l j||decide (j=i)))->Kept (fun k=>bI A=some k) w w'->(∀k,bI A'=some k->bI A=some k\/w.heap.size<=k)->K (.slice A' n' c') w'):
 bG prog bX.id #[.slice A n c,.int .i64 (i:Int)] w K:=by
 refine bX.of ?_;refine bX.cJ (I:=fun s w'=>∃A' n' c' l',s=(A',n',c')/\lF w' B A' n' c' l'/\okW l'/\(n'<=n\/n'<=i/64+1)/\(∀j,bit l' j=bit l j)/\Kept (fun k=>bI A=some k) w w'/\(∀k,bI A'=some k->bI A=some k\/w.heap.size<=k))
  (μ:=fun s _=>i/64+1-s.2.1) (s:=(A,n,c)) ⟨A,n,c,l,rfl,h,ho,.inl (Nat.le_refl _),fun _=>rfl,Kept.refl _ _,fun k hk=>.inl hk⟩ ?_
 rintro s w' ⟨A',n',c',l',rfl,row,Kh,hn',qN,kw,hb⟩;unfold bX.B1;rw [HD,jb (by omega) (by omega)];refine⟨by omega,?_⟩;refine Split.dec (fun hle=>?_) (fun yh=>?_)
 ·simp only at hle
  have ajv:n'<=i/64:=by omega
  obtain⟨A2,c2,w2,hr,iw,k2,nH⟩:=uz row (by omega) (Nat.le_trans hB kw.size) (t:=gF) 0;intro w6;refine⟨A2,n'+1,c2,w2,hr,?_⟩;refine⟨(A2,n'+1,c2),rfl,⟨A2,n'+1,c2,l'++ [0],rfl,iw,Ei Kh (by omega),by omega,fun j=>by rw [BD,qN],?_,fun k hk=>?_⟩,by simp only;omega⟩
  ·exact kw.trans k2 (fun k hk e=>by
    rcases hb k e with h|h
    ·exact h
    ·omega)
  ·rcases nH k hk with h|h
   ·exact hb k h
   ·exact .inr (Nat.le_trans kw.size h)
 ·simp only at yh
  have dX:i/64<n':=by omega
  rw [aU,bX.dz];unfold bX.df;intro nx;have zw:Kept Nil w' nx:=(Kept.refl _ _).drew;have VO:nx=w'.drew:=rfl;clear_value nx;have vq:lF nx B A' n' c' l':=Row.aK row zw (fun _ _ h=>h);have hlen:=row.len;rw [HD,OK,jb (by omega) (by omega)];obtain⟨b,rfl⟩:=Row.some vq (by omega);obtain⟨x,hx⟩:∃x,l'[i/64]? =some x:=⟨_,List.getElem?_eq_getElem (by omega)⟩;refine⟨by omega,vq.us.load (by omega) (by rw [Int.toNat_natCast];exact hx) ⟨by omega,by omega,⟨⟨by omega,by simp only;omega⟩,?_⟩⟩⟩;have uf:=Kh x (List.mem_of_getElem? hx);have hp:2 ^ (i%64)<18446744073709551616:=Nat.pow_lt_pow_right (by omega) (n:=64) (Nat.mod_lt _ (by omega));simp only [Is,Int.toNat_natCast,Nat.mul_one,bE,Nat.zero_add];rw [Zv (Nat.mod_lt _ (by omega)),orU uf hp];refine⟨Row.wr vq (by rw [pH,hlen];exact dX),?_⟩;have qM:Kept (fun k=>bI A=some k) w (nx.setCell ⟨b,i/64,none⟩ (.int .u64 ((x|||2 ^ (i%64):Nat):Int))):=
   Kept.setCell (kw.trans zw (fun _ _ h=>h.elim)) (p:=⟨b,i/64,none⟩) (fun di=>by
    rcases hb b rfl with h|h
    ·exact h
    ·exact absurd di (by simp only;omega)) _
  refine hK _ _ _ _ _ (zX vq dX _) (Eh Kh (Nat.or_lt_two_pow (n:=64) uf hp) _) hn' (fun j=>?_) qM hb;rw [EX (by omega),qN];have hbi:bit l' i=x.testBit (i%64):=by unfold bit;rw [List.getD_eq_getElem?_getD,hx];rfl
  by_cases e:j/64=i/64
  ·rw [if_pos e,Nat.testBit_or,Nat.testBit_two_pow]
   have hbj:bit l' j=x.testBit (j%64):=by unfold bit;rw [e,List.getD_eq_getElem?_getD,hx];rfl
   rw [<-hbj,qN]
   congr 1
   exact decide_eq_decide.2 ⟨fun h=>by omega,fun h=>by rw [h]⟩
  ·rw [if_neg e,decide_eq_false (fun h=>e (by rw [h]))]
   simp
end
section
variable{w w':World}{B n c:Nat}{A:Option Addr}{l:List Nat}
theorem xI{K:Value->World->Prop}(h:lF w B A n c l)(ho:okW l)(hn:n<=100000)(hB:B<=w.heap.size){A2:Option Addr}{n2 c2:Nat}{v:List Nat}(hv:US w A2 n2 v)(hv':okW v)(hn2:n2<=100000)
 (Ws:∀a,A2=some a->∀k,bI A=some k->a.block≠k)
 (hK:∀A' n' c' l' w',lF w' B A' n' c' l'->okW l'->(n'<=n\/n'<=n2)->(∀j,bit l' j=(bit l j||bit v j))->Kept (fun k=>bI A=some k) w w'->(∀k,bI A'=some k->bI A=some k\/w.heap.size<=k)->K (.slice A' n' c') w'):
 bG prog cM.id #[.slice A n c,.slice A2 n2 c2] w K:=by
 have ae1:=hv.len;refine cM.of ?_;refine cM.cJ (I:=fun s w'=>∃(i:Nat) (A':Option Addr) (n' c':Nat) (l':List Nat),s=(A',n',c',(i:Int))/\i<=n2/\lF w' B A' n' c' l'/\okW l'/\i<=n'/\n<=n'/\(n'<=n\/n'<=i)/\(∀j,bit l' j=(bit l j||(decide (j/64<i)&&bit v j)))/\Kept (fun k=>bI A=some k) w w'/\(∀k,bI A'=some k->bI A=some k\/w.heap.size<=k))
  (μ:=fun s _=>((n2:Int)-s.2.2.2).toNat) (s:=(A,n,c,0)) ⟨0,A,n,c,l,rfl,Nat.zero_le _,h,ho,Nat.zero_le _,Nat.le_refl _,.inl (Nat.le_refl _),by simp,Kept.refl _ _,fun k hk=>.inl hk⟩ ?_
 rintro s w' ⟨i,A',n',c',l',rfl,hi,row,Kh,gD,UO,Yg,qN,kw,hb⟩;have Bc:=row.len;refine Split.dec (fun jZ=>?_) (fun gH=>?_)
 ·simp only at jZ
  have dX:i<n2:=by omega
  obtain⟨x,hx⟩:∃x,v[i]? =some x:=⟨_,List.getElem?_eq_getElem (by omega)⟩;have uf:=hv' x (List.mem_of_getElem? hx);have hvw:US w' A2 n2 v:=hv.aK kw (fun a ha e=>Ws a ha _ e rfl);refine hvw.load (i:=(i:Int)) (by omega) hx ?_;have step:∀(A2:Option Addr) (n3 c3:Nat) (l3:List Nat) (w3:World),lF w3 B A2 n3 c3 l3->okW l3->i<n3->n<=n3->(n3<=n\/n3<=i+1)->(∀j,bit l3 j=(bit l j||(decide (j/64<i)&&bit v j)))->Kept (fun k=>bI A=some k) w w3->(∀k,bI A2=some k->bI A=some k\/w.heap.size<=k)->
   (0<=(i:Int)/\(i:Int)<(n3:Int))/\Is A2 fun a=>∃t:Int,w3.cell? (a.add ((i:Int).toNat*1))=some (.int .u64 t)/\(0<=(i:Int)/\(i:Int)<(n3:Int))/\Is A2 fun a'=>Wr w3 (a'.add ((i:Int).toNat*1))/\
     ∃(l4:List Nat),
     lF (w3.setCell (a'.add ((i:Int).toNat*1)) (.int .u64 (u64.wrap ((BitVec.ofInt 64 t|||BitVec.ofInt 64 (x:Int)).toNat)))) B A2 n3 c3 l4/\okW l4/\(∀j,bit l4 j=(bit l j||(decide (j/64<i+1)&&bit v j)))/\Kept (fun k=>bI A=some k) w (w3.setCell (a'.add ((i:Int).toNat*1)) (.int .u64 (u64.wrap ((BitVec.ofInt 64 t|||BitVec.ofInt 64 (x:Int)).toNat)))):=by
   intro A2 n3 c3 l3 w3 nK ho3 hi3 hn3 ajl NU k3 p8;have afw:=nK.len;obtain⟨b,rfl⟩:=Row.some nK (by omega);obtain⟨y,hy⟩:∃y,l3[i]? =some y:=⟨_,List.getElem?_eq_getElem (by omega)⟩;have hyl:=ho3 y (List.mem_of_getElem? hy);refine nK.us.load (i:=(i:Int)) (by omega) hy ⟨⟨by omega,by omega⟩,?_⟩;simp only [Is,Int.toNat_natCast,Nat.mul_one,bE,Nat.zero_add];rw [orU hyl uf];refine⟨Row.wr nK (by rw [pH];omega),l3.set i (y|||x),zX nK hi3 _,Eh ho3 (Nat.or_lt_two_pow (n:=64) hyl uf) _,fun j=>?_,?_⟩
   ·rw [EX (by omega),NU]
    have C8:j/64=i->bit v j=x.testBit (j%64):=fun e=>by unfold bit;rw [e,List.getD_eq_getElem?_getD,hx];rfl
    have Kl:j/64=i->bit l3 j=y.testBit (j%64):=fun e=>by unfold bit;rw [e,List.getD_eq_getElem?_getD,hy];rfl
    by_cases e:j/64=i
    ·rw [if_pos e,Nat.testBit_or,<-Kl e,<-C8 e,NU]
     rw [decide_eq_false (show ¬j/64<i by omega),decide_eq_true (show j/64<i+1 by omega)];simp
    ·rw [if_neg e]
     congr 2
     exact decide_eq_decide.2 (by omega)
   ·refine Kept.setCell k3 (p:=⟨b,i,none⟩) (fun di=>?_) _
    rcases p8 b rfl with h|h
    ·exact h
    ·exact absurd di (by simp only;omega)
  by_cases he:i=n'
  ·refine Split.yes (by simp [he]) ?_
   obtain⟨Hi,Dy,w2,hr,iw,k2,nH⟩:=uz row (by omega) (Nat.le_trans hB kw.size) (t:=gF) 0;intro w10;refine⟨Hi,n'+1,Dy,w2,hr,?_⟩;have st:=step Hi (n'+1) Dy (l'++ [0]) w2 iw (Ei Kh (by omega)) (by omega) (by omega) (by omega) (fun j=>by rw [BD,qN])
    (kw.trans k2 (fun k hk e=>by
      rcases hb k e with h|h
      ·exact h
      ·omega)) (fun k hk=>by
      rcases nH k hk with h|h
      ·exact hb k h
      ·exact .inr (Nat.le_trans kw.size h))
   clear step;obtain⟨s1,s2⟩:=st;refine⟨s1,?_⟩;cases Hi with
   |none=>exact s2.elim
   |some a=>
    obtain⟨t,s3,s4,s5,l4,s6,s7,s8,s9⟩:=s2;refine⟨t,s3,s4,s5,?_⟩;intro nh;simp only;rw [dF (n:=(i:Int)) (by omega) (by omega)];exact⟨(some a,n'+1,Dy,(i:Int)+1),rfl,⟨i+1,some a,n'+1,Dy,l4,rfl,dX,s6,s7,by omega,by omega,by omega,s8,s9,fun k hk=>by
     rcases nH k hk with h|h
     ·exact hb k h
     ·exact .inr (Nat.le_trans kw.size h)⟩,by simp only;omega⟩
  ·refine Split.no (beq_eq_false_iff_ne.2 (by simp only;omega)) ?_
   have st:=step A' n' c' l' w' row Kh (by omega) UO (by omega) qN kw hb;clear step;obtain⟨s1,s2⟩:=st;refine⟨s1,?_⟩;cases A' with
   |none=>exact s2.elim
   |some a=>
    obtain⟨t,s3,s4,s5,l4,s6,s7,s8,s9⟩:=s2;refine⟨t,s3,s4,s5,?_⟩;intro nh;simp only;rw [dF (n:=(i:Int)) (by omega) (by omega)];exact⟨(some a,n',c',(i:Int)+1),rfl,⟨i+1,some a,n',c',l4,rfl,dX,s6,s7,by omega,UO,by omega,s8,s9,hb⟩,by simp only;omega⟩
 ·simp only at gH
  have:i=n2:=by omega
  subst this;rw [aU,cM.dz];refine hK A' n' c' l' w' row Kh (by omega) (fun j=>?_) kw hb;rw [qN]
  congr 1
  by_cases e:j/64<i
  ·rw [decide_eq_true e];simp
  ·rw [decide_eq_false e]
   unfold bit;rw [List.getD_eq_getElem?_getD,List.getElem?_eq_none (by omega)];simp
end
theorem BH:∀k m:Nat,(2 ^ k*(2*m+1))&&& (2 ^ k*(2*m+1)-1)=2 ^ (k+1)*m
 |0,m=>by
  apply Nat.eq_of_testBit_eq;intro i;rw [Nat.testBit_and];cases i with
  |zero=>simp [Nat.testBit_zero]
  |succ i=>
   simp only [Nat.testBit_succ];rw [show(2 ^ 0*(2*m+1))/2=m by omega,show(2 ^ 0*(2*m+1)-1)/2=m by omega,show 2 ^ (0+1)*m/2=m by omega];simp
 |k+1,m=>by
  have ih:=BH k m;have hp:0<2 ^ k*(2*m+1):=Nat.mul_pos (Nat.pow_pos (by omega)) (by omega);rw [show 2 ^ (k+1)*(2*m+1)=2*(2 ^ k*(2*m+1))by rw [Nat.pow_succ];ac_rfl,show 2 ^ (k+1+1)*m=2*(2 ^ (k+1)*m)by rw [Nat.pow_succ 2 (k+1)];ac_rfl];generalize 2 ^ k*(2*m+1)=x at ih hp⊢;rw [<-ih];apply Nat.eq_of_testBit_eq;intro i;rw [Nat.testBit_and];cases i with
  |zero=>simp [Nat.testBit_zero]
  |succ i=>
   simp only [Nat.testBit_succ];rw [show 2*x/2=x by omega,show(2*x-1)/2=x-1 by omega,show 2*(x&&& (x-1))/2=x&&& (x-1)by omega,Nat.testBit_and]
theorem Ek{x:Nat}(h0:x≠0)(hx:x<18446744073709551616):Lib.ctz 64 x<64/\x.testBit (Lib.ctz 64 x)=true/\∀t,(x&&& (x-1)).testBit t=(x.testBit t&&decide (t≠Lib.ctz 64 x)):=by
 obtain⟨m,h1,h2⟩:=Lib.ctzFrom_spec 64 x (by omega) hx;have e:Lib.ctz 64 x=Lib.ctzFrom 64 x:=by unfold Lib.ctz;rw [if_neg h0]
 rw [e];generalize Lib.ctzFrom 64 x=k at h1 h2⊢;have hand:x&&& (x-1)=2 ^ (k+1)*m:=by rw [h1];exact BH k m
 have hb:∀t,x.testBit t=(decide (t>=k)&&(2*m+1).testBit (t-k)):=fun t=>by rw [h1,Nat.testBit_two_pow_mul]
 refine⟨h2,by rw [hb];simp,fun t=>?_⟩;rw [hand,Nat.testBit_two_pow_mul,hb];by_cases ht:t=k
 ·subst ht
  simp;intro h;omega
 ·rw [decide_eq_true ht,Bool.and_true]
  by_cases hk:t>=k
  ·obtain⟨d,hd⟩:∃d,t-k=d+1:=⟨t-k-1,by omega⟩
   rw [decide_eq_true hk,decide_eq_true (show t>=k+1 by omega),hd,show t-(k+1)=d by omega,Nat.testBit_succ,show(2*m+1)/2=m by omega]
  ·rw [decide_eq_false hk,decide_eq_false (show ¬t>=k+1 by omega)]
   simp
theorem zo{x:Nat}(h0:x≠0):x&&& (x-1)<x:=Nat.lt_of_le_of_lt Nat.and_le_right (by omega)
def vK(x:Nat):List Nat:=if h:x=0 then []else Lib.ctz 64 x::vK (x&&& (x-1))
termination_by x
decreasing_by exact zo h
theorem xU:vK 0= []:=by rw [vK];simp
theorem xW{x:Nat}(h0:x≠0):vK x=Lib.ctz 64 x::vK (x&&& (x-1)):=by rw [vK,dif_neg h0]
theorem xV:∀(x:Nat),x<18446744073709551616->(∀t,t∈vK x↔x.testBit t=true)/\(vK x).Nodup/\∀t∈vK x,t<64:=by
 intro x
 induction x using Nat.strongRecOn with
 |_ x ih=>
  intro hx;by_cases h0:x=0
  ·subst h0;rw [xU];simp
  ·obtain⟨h1,h2,h3⟩:=Ek h0 hx
   obtain⟨i1,i2,i3⟩:=ih _ (zo h0) (Nat.lt_trans (zo h0) hx);rw [xW h0];refine⟨fun t=>?_,?_,fun t ht=>?_⟩
   ·rw [List.mem_cons,i1,h3]
    by_cases e:t=Lib.ctz 64 x
    ·rw [e,h2];simp
    ·simp [e]
   ·rw [List.nodup_cons,i1,h3]
    exact⟨by simp,i2⟩
   ·rcases List.mem_cons.1 ht with rfl|ht
    ·exact h1
    ·exact i3 t ht
def pV:Nat->List Nat->List Nat
 |_,[]=> []
 |k,x::ws=>(vK x).map (64*k+ ·)++pV (k+1) ws
theorem JC(x:Nat)(ws:List Nat)(j:Nat):bit (x::ws) j=if j<64 then x.testBit j else bit ws (j-64):=by
 unfold bit;split
 ·rename_i h
  rw [show j/64=0 by omega,show j%64=j by omega];rfl
 ·rename_i h
  rw [show j/64=(j-64)/64+1 by omega,show j%64=(j-64)%64 by omega];rfl
theorem pX:∀(ws:List Nat) (k j:Nat),okW ws->(j∈pV k ws↔64*k<=j/\bit ws (j-64*k)=true)
 | [],k,j,_=>by simp [pV,bit]
 |x::ws,k,j,ho=>by
  obtain⟨h1,_,h3⟩:=xV x (ho x (by simp));have ih:=pX ws (k+1) j (fun y hy=>ho y (by simp [hy]));rw [pV,List.mem_append,ih,JC,List.mem_map];constructor
  ·rintro(⟨t,ht,rfl⟩|⟨h,hb⟩)
   ·have:=h3 t ht
    refine⟨by omega,?_⟩;rw [if_pos (by omega),show 64*k+t-64*k=t by omega];exact(h1 t).1 ht
   ·refine⟨by omega,?_⟩
    rw [if_neg (by omega),show j-64*k-64=j-64*(k+1)by omega];exact hb
  ·rintro⟨h,hb⟩
   split at hb
   ·exact .inl ⟨j-64*k,(h1 _).2 hb,by omega⟩
   ·refine .inr ⟨by omega,?_⟩
    rw [show j-64*(k+1)=j-64*k-64 by omega];exact hb
theorem vC:∀ {l m:List Nat},l.Nodup->(∀x∈l,x∈m)->l.length<=m.length
 | [],_,_,_=>Nat.zero_le _
 |x::l,m,hn,h=>by
  rw [List.nodup_cons]at hn;have hx:=h x (by simp);have:=vC (l:=l) (m:=m.erase x) hn.2 (fun y hy=>by
   have fX:y≠x:=fun e=>hn.1 (e▸hy);exact(List.mem_erase_of_ne fX).2 (h y (by simp [hy])))
  rw [List.length_erase_of_mem hx]at this;have jT:0<m.length:=List.length_pos_of_mem hx;simp only [List.length_cons];omega
def sS(w:World):Prop:=TabAt (Tryz.kF.g 1) Lib.deBruijn64tab w
theorem sS.aK{S:Nat->Prop}{w w':World}(h:sS w)(hk:Kept S w w')(hn:¬S (Tryz.kF.g 1)):sS w':=fun j hj=>hk.cell (h j hj) hn
theorem sS.same{w w':World}(h:sS w)(hk:Kept Nil w w'):sS w':=h.aK hk fun h=>h
theorem sS.lt{w:World}(h:sS w):Tryz.kF.g 1<w.heap.size:=World.block_lt_of_cell? w _ (h 0 (by decide))
section
variable{w:World}{K:Value->World->Prop}
theorem St{x:Nat}(hx:x<18446744073709551616)(hT:sS w)(hK:K (.int .i64 (Lib.ctz 64 x:Nat)) w):bG prog bits_TrailingZeros64.id #[.int .u64 (x:Int)] w K:=by
 refine Calls.mono (Any7.bits_TrailingZeros64 Tryz.tzL x hx w (fun _=>hT)) ?_;rintro e w' ⟨rfl,rfl⟩;exact⟨_,rfl,hK⟩
abbrev encI(i:Nat):List Value:= [.int .i64 (i:Int)]
theorem JF(p:Addr){A:Option Addr}{n c:Nat}{l:List Nat}(hn:n<=100000)(ho:okW l):
 oB prog aL.id #[] #[.pointer (some p)] ((pV 0 l).map encI) (fun w=>US w A n l/\w.cell? p=some (.slice A n c)/\sS w):=by
 intro y I D w0 hI hD sE h0 rz;refine aL.of ?_;obtain⟨wO,RS,_⟩:=sE 0 w0 h0;have hlen:=wO.len;refine⟨A,n,c,RS,?_⟩;refine aL.cJ (I:=fun s w'=>∃(i:Nat) (dn:List Nat),s=(i:Int)/\i<=n/\dn++pV i (l.drop i)=pV 0 l/\I dn.length w') (μ:=fun s _=>((n:Int)-s).toNat) (s:=0) ⟨0,[],rfl,Nat.zero_le _,rfl,h0⟩ ?_;rintro s w' ⟨i,dn,rfl,hi,I1,hw⟩;refine Split.dec (fun jZ=>?_) (fun gH=>?_)
 ·have dX:i<n:=by omega
  obtain⟨x,hx⟩:∃x,l[i]? =some x:=⟨_,List.getElem?_eq_getElem (by omega)⟩;have uf:=ho x (List.mem_of_getElem? hx);have hl:=(sE _ w' hw).1;have vX:l.drop i=x::l.drop (i+1):=by
   obtain⟨h1,h2⟩:=lgeS hx;rw [List.drop_eq_getElem_cons h1,h2]
  rw [vX,pV]at I1;refine hl.load (i:=(i:Int)) (by omega) hx ?_;refine aL.iB (I:=fun s w'=>∃(v:Nat) (dn:List Nat),s=(v:Int)/\v<18446744073709551616/\dn++((vK v).map (64*i+ ·)++pV (i+1) (l.drop (i+1)))=pV 0 l/\I dn.length w') (μ:=fun s _=>s.toNat) (s:=(x:Int)) ⟨x,dn,rfl,uf,I1,hw⟩ ?_;clear hw I1;rintro s w1 ⟨v,YR,rfl,hv,I0,Kb⟩;by_cases h0:v=0
  ·refine Split.no (by subst h0;rfl) ?_
   rw [aU,aL.ki];unfold aL.jh;rw [dF (n:=(i:Int)) (by omega) (by omega)];rw [h0,xU,List.map_nil,List.nil_append]at I0;exact⟨(i:Int)+1,rfl,⟨i+1,YR,rfl,dX,I0,Kb⟩,by simp only;omega⟩
  ·refine Split.yes (bne_iff_ne.2 (by omega)) ?_
   have hpr:=sE _ w1 Kb;obtain⟨hk,NC,hkr⟩:=Ek h0 hv;rw [xW h0,List.map_cons,List.cons_append]at I0;refine St hv hpr.2.2 ⟨_,rfl,?_⟩;have gZ:((pV 0 l).map encI)[YR.length]? =some (encI (64*i+Lib.ctz 64 v)):=by
    rw [List.getElem?_map,<-I0,List.getElem?_append_right (Nat.le_refl _),Nat.sub_self];rfl
   have CN:i64.wrap (i64.wrap ((64:Int)*(i:Int))+((Lib.ctz 64 v:Nat):Int))=((64*i+Lib.ctz 64 v:Nat):Int):=by
    rw [jb (x:=(64:Int)*(i:Int)) (by omega) (by omega),jb (by omega) (by omega)];omega
   rw [CN];refine(rz YR.length _ w1 gZ Kb).mono ?_;rintro b mE ⟨ht,hf⟩;have nQ:u64.wrap ((BitVec.ofInt 64 (v:Int)&&& BitVec.ofInt 64 (u64.wrap ((v:Int)-(1:Int)))).toNat:Int)=((v&&& (v-1):Nat):Int):=by
    have e1:(v:Int)-1=((v-1:Nat):Int):=by omega
    rw [e1,kz (x:=v-1) (by omega),adz hv (by omega)]
   cases b with
   |true=>
    refine Split.no rfl ?_;rw [nQ];have di:=zo h0;refine⟨((v&&& (v-1):Nat):Int),rfl,⟨v&&& (v-1),YR++ [64*i+Lib.ctz 64 v],rfl,by omega,by rw [List.append_assoc];exact I0,?_⟩,by simp only;omega⟩;rw [List.length_append];exact ht rfl
   |false=>
    refine Split.yes rfl ?_;exact Or.inr (hf rfl)
 ·rw [aU,aL.dz]
  have e:i=n:=by omega
  subst e;refine Or.inl ?_;rw [List.drop_eq_nil_of_le (by omega),pV,List.append_nil]at I1;rw [List.length_map,<-I1];exact hw
end
def pos(h:HT):List HT->Nat->Option Nat
 | [],_=>none
 |x::l,i=>if h=x then some i else pos h l (i+1)
theorem pS{h:HT}:∀ {l:List HT} {i:Nat},pos h l i=none↔h∉l
 | [],i=>by simp [pos]
 |x::l,i=>by
  unfold pos;split
  ·rename_i e;simp [e]
  ·rename_i e
   rw [pS (l:=l)];simp [e]
theorem vx{h:HT}:∀ {l:List HT} {i j:Nat},pos h l i=some j->i<=j/\l[j-i]? =some h
 | [],i,j,e=>by simp [pos]at e
 |x::l,i,j,e=>by
  unfold pos at e;split at e
  ·rename_i hx
   cases e;subst hx;exact⟨Nat.le_refl _,by rw [Nat.sub_self];rfl⟩
  ·obtain⟨h1,h2⟩:=vx e
   refine⟨by omega,?_⟩;rw [show j-i=(j-(i+1))+1 by omega];exact h2
theorem lK{h:HT}:∀ {l:List HT} (i j:Nat),l.Nodup->l[j]? =some h->pos h l i=some (i+j)
 | [],i,j,_,e=>by simp at e
 |x::l,i,0,_,e=>by
  simp only [List.getElem?_cons_zero,Option.some.injEq]at e;unfold pos;rw [if_pos e.symm];simp
 |x::l,i,j+1,hn,e=>by
  simp only [List.getElem?_cons_succ]at e;rw [List.nodup_cons]at hn;unfold pos;rw [if_neg (fun hx=>hn.1 (by rw [<-hx];exact List.mem_of_getElem? e)),lK (i+1) j hn.2 e]
  congr 1
  omega
section
variable{w:World}
theorem KA:prog.underlying al=some (.array 32 ju):=by kernel_rfl
theorem OG:prog.underlying ju=some (.int .u8):=by kernel_rfl
theorem M5:∃i,prog.info? ju=some i/\i.size=1:=by
 have h:(match prog.info? ju with|some i=>Nat.beq i.size 1|none=>false)=true:=by kernel_rfl
 split at h
 ·rename_i i hi;exact⟨i,hi,Nat.eq_of_beq_eq_true h⟩
 ·cases h
theorem OH:prog.underlying cV=some (.map al iu):=by kernel_rfl
theorem vn(a b:HT)(w:World):(Op.equal al (.agg a.1) (.agg b.1)).run prog w=.ok (decide (a=b)) w:=by
 obtain⟨i,hi,h1⟩:=M5;have:=pN (P:=prog) 9998 w KA OG hi h1 a.2.ints b.2.ints;rw [fz]at this;simp only [Op.equal,Op.maxDepth];exact this
theorem jJ(h:HT)(em:Bool)(w:World):(Instr.checkKey em 10000 al (.agg h.1)).run prog w=.ok () w:=by
 obtain⟨i,hi,h1⟩:=M5;have hc:prog.cellsOf ju=1:=by simp [Program.cellsOf,hi,h1]
 rw [show(10000:Nat)=9999+1 from rfl,Instr.checkKey];simp only [Sem.run_bind,run_underlying KA,Result.andThen_ok];simp only [Std.Legacy.Range.forIn_eq_forIn_range',Std.Legacy.Range.size,Nat.sub_zero,Nat.add_one_sub_one,Nat.div_one];have each:∀j∈List.range' 0 32,∃v,h.1[j]? =some v/\∃x:Int,v=.int .u8 x:=fun j hj=>by
  have vU:j<h.1.size:=by rw [h.2.1];simpa using hj
  obtain⟨x,hx,_⟩:=h.2.2 h.1[j] (by simp);exact⟨_,Array.getElem?_eq_getElem vU,x,hx⟩
 generalize List.range' 0 32=is at each
 induction is with
 |nil=>simp
 |cons j is ih=>
  obtain⟨v,hv,x,rfl⟩:=each j (by simp);have L5:(isAgg ju).run prog w=.ok false w:=by simp [isAgg,run_underlying OG]
  have p1:(part ju h.1 (j*1)).run prog w=.ok (.int .u8 x) w:=by simp [part,L5,hv]
  have p2:(Instr.checkKey em 9999 ju (.int .u8 x)).run prog w=.ok () w:=by
   rw [show(9999:Nat)=9998+1 from rfl,Instr.checkKey];simp [run_underlying OG]
  simp only [List.forIn_cons,Sem.run_bind,Go.b0.run_sizeOf hi w,hc,Result.andThen_ok,p1,p2,Sem.run_pure];exact ih (fun y hy=>each y (by simp [hy]))
def BN(es:List MapEntry)(l:List HT)(i:Nat):Prop:=match es,l with
 | [],[]=>True
 |e::es,h::l=>(e.key=.agg h.1/\e.val=.int .i64 (i:Int))/\BN es l (i+1)
 |_,_=>False
theorem BN.snoc:∀ {es:List MapEntry} {l:List HT} {i:Nat} {e:MapEntry} {h:HT},BN es l i->e.key=.agg h.1->e.val=.int .i64 ((i+l.length:Nat):Int)->BN (es++ [e]) (l++ [h]) i
 | [],[],i,e,h,_,h1,h2=>⟨⟨h1,by simpa using h2⟩,trivial⟩
 |x::es,y::l,i,e,h,he,h1,h2=>⟨he.1,BN.snoc he.2 h1 (by rw [h2];congr 2;simp;omega)⟩
 | [],_::_,_,_,_,he,_,_=>he.elim
 |_::_,[],_,_,_,he,_,_=>he.elim
theorem rY(h:HT)(w:World):∀(es:List MapEntry) (l:List HT) (i:Nat),BN es l i->
 (Instr.findAsking al (.agg h.1) es i).run prog w=.ok ((pos h l i).map fun j=>(j,.int .i64 (j:Int))) w
 | [],[],i,_=>by simp [Instr.findAsking,pos]
 |e::es,x::l,i,he=>by
  have hq:=vn h x w;have ih:=rY h w es l (i+1) he.2;simp only [Instr.findAsking,he.1.1,Sem.run_bind,hq,Result.andThen_ok];by_cases hx:h=x
  ·simp [hx,pos,he.1.2]
  ·simp [hx,pos,ih]
 | [],_::_,_,he=>he.elim
 |_::_,[],_,he=>he.elim
theorem oH(h:HT)(w:World){es:List MapEntry}{l:List HT}(he:BN es l 0):
 (Instr.findKey al (.agg h.1) es).run prog w=.ok ((pos h l 0).map fun j=>(j,.int .i64 (j:Int))) w:=by
 have h1:=rY h w es l 0 he;simp only [Instr.findKey,Sem.run_bind,run_underlying KA,Result.andThen_ok];cases es with
 |nil=>
  cases l with
  |nil=>simp [Instr.findNow,pos]
  |cons x l=>exact he.elim
 |cons e es=>
  have:Instr.findNow (.array 32 ju) (.agg h.1) (e::es) 0=none:=by
   simp only [Instr.findNow,Instr.sameNow]
  rw [this];exact h1
theorem qd{r:Nat}{es:Array MapEntry}{clock:Nat}(hb:w.heap[r]? =some (.map es clock)):(getObj r).run prog w=.ok (.map es clock) w:=by
 simp [getObj,Sem.run,hb]
theorem Cj{r:Nat}{es:Array MapEntry}{clock:Nat}(o:Obj)(hb:w.heap[r]? =some (.map es clock)):(setObj r o).run prog w=.ok () {w with heap:=w.heap.setIfInBounds r o}:=by
 simp [setObj,Sem.run,hb]
structure IsMap(w:World)(m:Nat)(l:List HT):Prop where
 ex:∃es clock,w.heap[m]? =some (.map es clock)/\BN es.toList l 0
theorem IsMap.aK{S:Nat->Prop}{w w':World}{m:Nat}{l:List HT}(h:IsMap w m l)(hk:Kept S w w')(hn:¬S m):IsMap w' m l:=by
 obtain⟨es,clock,h1,h2⟩:=h.ex;exact⟨es,clock,hk.heap h1 hn,h2⟩
theorem IsMap.lt{w:World}{m:Nat}{l:List HT}(h:IsMap w m l):m<w.heap.size:=by
 obtain⟨es,clock,h1,_⟩:=h.ex;exact bf h1
theorem IsMap.look{m:Nat}{l:List HT}(hm:IsMap w m l)(h:HT):
 (Instr.lookup cV (.map (some m)) (.agg h.1) true).run prog w=.ok (.tuple #[.int .i64 (((pos h l 0).getD 0:Nat):Int),.bool (pos h l 0).isSome]) w:=by
 obtain⟨es,clock,h1,h2⟩:=hm.ex;have h3:=oH h w h2;simp only [Instr.lookup,Sem.run_bind,run_underlying OH,qd h1,Result.andThen_ok,Sem.run_pure,jJ,h3];cases hp:pos h l 0<;>simp
theorem IsMap.xX{m:Nat}{l:List HT}(hm:IsMap w m l)(h:HT):
 (Instr.lookup cV (.map (some m)) (.agg h.1) false).run prog w=.ok (.int .i64 (((pos h l 0).getD 0:Nat):Int)) w:=by
 obtain⟨es,clock,h1,h2⟩:=hm.ex;have h3:=oH h w h2;simp only [Instr.lookup,Sem.run_bind,run_underlying OH,qd h1,Result.andThen_ok,Sem.run_pure,jJ,h3];cases hp:pos h l 0<;>simp
theorem IsMap.put{m:Nat}{l:List HT}(hm:IsMap w m l){h:HT}(hn:h∉l):
 ∃w',(Instr.mapUpdate cV (.map (some m)) (.agg h.1) (.int .i64 ((l.length:Nat):Int))).run prog w=.ok () w'/\IsMap w' m (l++ [h])/\Kept (· =m) w w':=by
 obtain⟨es,clock,h1,h2⟩:=hm.ex;have h3:=oH h w h2;rw [pS.2 hn]at h3;refine⟨{w with heap:=w.heap.setIfInBounds m (.map (es.push {key:=.agg h.1,val:=.int .i64 ((l.length:Nat):Int),born:=clock}) (clock+1))},?_,⟨es.push {key:=.agg h.1,val:=.int .i64 ((l.length:Nat):Int),born:=clock},clock+1,?_,?_⟩,?_⟩
 ·simp only [Instr.mapUpdate,Sem.run_bind,run_underlying OH,qd h1,Result.andThen_ok,jJ,h3,Option.map_none,Cj _ h1]
 ·simp [bf h1]
 ·have:=h2.snoc (e:= {key:=.agg h.1,val:=.int .i64 ((l.length:Nat):Int),born:=clock}) (h:=h) rfl (by simp)
  simpa using this
 ·exact⟨rfl,rfl,rfl,by simp,fun k _ hk=>by simp [Ne.symm hk]⟩
end
end Go.Proofs.YtfleamccglihoaaGreatDoor
namespace Go.Proofs.YtfleamccglihoaaGreatDoor
open Go.Proofs.Tryz
open Go Go.b0
structure DN where
 id:HT
 ps:List HT
abbrev DG:=List DN
def ids(D:DG):List HT:=D.map (·.id)
def oW(D:DG)(p h:HT):Prop:=∃nd∈D,nd.id=h/\p∈nd.ps
inductive fI (D:DG):HT->HT->Prop
 |one {p h:HT}:oW D p h->fI D p h
 |more {a p h:HT}:fI D a p->oW D p h->fI D a h
theorem fI.trans{D:DG}{a b c:HT}(h:fI D a b)(h':fI D b c):fI D a c:=by
 induction h' with
 |one hp=>exact .more h hp
 |more _ hp ih=>exact .more ih hp
structure kP(D:DG):Prop where
 pos:0<D.length
 nodup:(ids D).Nodup
 ss:∀nd∈D,SS nd.ps
 up:∀(i:Nat) nd p,D[i]? =some nd->p∈nd.ps->∃(j:Nat) (m:DN),j<i/\D[j]? =some m/\m.id=p
theorem iM(D:DG):(ids D).length=D.length:=by simp [ids]
theorem qD{D:DG}{i:Nat}{nd:DN}(h:D[i]? =some nd):(ids D)[i]? =some nd.id:=by simp [ids,h]
theorem Iw{D:DG}{i:Nat}{h:HT}(e:(ids D)[i]? =some h):∃nd,D[i]? =some nd/\nd.id=h:=by
 unfold ids at e;rw [List.getElem?_map]at e;cases hd:D[i]? with
 |none=>rw [hd]at e;cases e
 |some nd=>rw [hd]at e;exact⟨nd,rfl,by simpa using e⟩
theorem eI{D:DG}{h:HT}:h∈ids D↔∃nd∈D,nd.id=h:=by simp [ids]
section
variable{D:DG}
theorem kP.inj(W:kP D){i j:Nat}{a b:DN}(ha:D[i]? =some a)(hb:D[j]? =some b)(e:a.id=b.id):i=j:=by
 have h1:=lK 0 i W.nodup (qD ha);have h2:=lK 0 j W.nodup (qD hb);rw [e,h2]at h1;simpa using h1.symm
theorem kP.pos_eq(W:kP D){i:Nat}{nd:DN}(h:D[i]? =some nd):Proofs.YtfleamccglihoaaGreatDoor.pos nd.id (ids D) 0=some i:=by
 have:=lK 0 i W.nodup (qD h)
 rwa [Nat.zero_add]at this
theorem oW.at_(W:kP D){p h:HT}(hp:oW D p h):∃(i j:Nat) (m nd:DN),i<j/\D[i]? =some m/\D[j]? =some nd/\m.id=p/\nd.id=h/\p∈nd.ps:=by
 obtain⟨nd,gQ,rfl,sD⟩:=hp;obtain⟨j,hj⟩:=List.mem_iff_getElem?.1 gQ;obtain⟨i,m,sG,hm,e⟩:=W.up j nd p hj sD;exact⟨i,j,m,nd,sG,hm,hj,e,rfl,sD⟩
theorem fI.at_(W:kP D){a h:HT}(hp:fI D a h):∃(i j:Nat) (m nd:DN),i<j/\D[i]? =some m/\D[j]? =some nd/\m.id=a/\nd.id=h:=by
 induction hp with
 |one hp=>
  obtain⟨i,j,m,nd,h1,h2,h3,h4,h5,_⟩:=hp.at_ W;exact⟨i,j,m,nd,h1,h2,h3,h4,h5⟩
 |more _ hp ih=>
  obtain⟨i,j,m,nd,h1,h2,h3,h4,h5⟩:=ih;obtain⟨i',j',m',nd',um,v7,EP,YG,h5',_⟩:=hp.at_ W;have e:=W.inj h3 v7 (by rw [h5,YG]);exact⟨i,j',m,nd',by omega,h2,EP,h4,h5'⟩
theorem fI.irrefl(W:kP D)(a:HT):¬fI D a a:=fun h=>by
 obtain⟨i,j,m,nd,h1,h2,h3,h4,h5⟩:=h.at_ W;have:=W.inj h2 h3 (by rw [h4,h5]);omega
theorem fI.mem(W:kP D){a h:HT}(hp:fI D a h):a∈ids D/\h∈ids D:=by
 obtain⟨i,j,m,nd,_,h2,h3,h4,h5⟩:=hp.at_ W;exact⟨eI.2 ⟨m,List.mem_of_getElem? h2,h4⟩,eI.2 ⟨nd,List.mem_of_getElem? h3,h5⟩⟩
theorem EY(W:kP D){i:Nat}{nd:DN}(h:D[i]? =some nd)(a:HT):fI D a nd.id↔∃p∈nd.ps,a=p\/fI D a p:=by
 have key:∀ {p},oW D p nd.id->p∈nd.ps:=fun⟨nd',hm,e,hp⟩=>by
  obtain⟨j,hj⟩:=List.mem_iff_getElem?.1 hm;have:=W.inj h hj e.symm;subst this;rw [h]at hj;cases hj;exact hp
 constructor
 ·intro ha
  generalize he:nd.id=x at ha;cases ha with
  |one hp=>subst he;exact⟨a,key hp,.inl rfl⟩
  |more y8 hp=>subst he;exact⟨_,key hp,.inr y8⟩
 ·rintro⟨p,hp,e⟩
  have mB:oW D p nd.id:=⟨nd,List.mem_of_getElem? h,rfl,hp⟩;rcases e with rfl|e
  ·exact .one mB
  ·exact .more e mB
theorem om{nd:DN}{p h:HT}:oW (D++ [nd]) p h↔oW D p h\/(nd.id=h/\p∈nd.ps):=by
 unfold oW;constructor
 ·rintro⟨m,hm,e,hp⟩
  rw [List.mem_append,List.mem_singleton]at hm;rcases hm with hm|rfl
  ·exact .inl ⟨m,hm,e,hp⟩
  ·exact .inr ⟨e,hp⟩
 ·rintro(⟨m,hm,e,hp⟩|⟨e,hp⟩)
  ·exact⟨m,by simp [hm],e,hp⟩
  ·exact⟨nd,by simp,e,hp⟩
theorem jN(W:kP D){nd:DN}(hn:nd.id∉ids D){a h:HT}(hh:h∈ids D):fI (D++ [nd]) a h↔fI D a h:=by
 constructor
 ·intro ha
  induction ha with
  |one hp=>
   rcases om.1 hp with hp|⟨e,_⟩
   ·exact .one hp
   ·subst e;exact absurd hh hn
  |more _ hp ih=>
   rcases om.1 hp with hp|⟨e,_⟩
   ·exact .more (ih (fI.mem W (.one hp)).1) hp
   ·subst e;exact absurd hh hn
 ·intro ha
  induction ha with
  |one hp=>exact .one (om.2 (.inl hp))
  |more y8 hp ih=>exact .more (ih (fI.mem W y8).2) (om.2 (.inl hp))
theorem lU(D:DG)(nd:DN):ids (D++ [nd])=ids D++ [nd.id]:=by simp [ids]
theorem kP.snoc(W:kP D){nd:DN}(hn:nd.id∉ids D)(sD:∀p∈nd.ps,p∈ids D)(hs:SS nd.ps):kP (D++ [nd]) where
 pos:=by simp
 nodup:=by
  rw [lU,List.nodup_append];refine⟨W.nodup,by simp,fun a ha b hb=>?_⟩;rw [List.mem_singleton]at hb;subst hb;exact fun e=>hn (e▸ha)
 ss:=fun m hm=>by
  rw [List.mem_append,List.mem_singleton]at hm;rcases hm with hm|rfl
  ·exact W.ss m hm
  ·exact hs
 up:=fun i m p hi hp=>by
  rw [List.getElem?_append]at hi;split at hi
  ·rename_i di
   obtain⟨j,q,h1,h2,h3⟩:=W.up i m p hi hp;exact⟨j,q,h1,by rw [List.getElem?_append_left (by omega)];exact h2,h3⟩
  ·rename_i gH
   have:m=nd:=by
    cases hk:i-D.length with
    |zero=>rw [hk]at hi;simpa using hi.symm
    |succ k=>rw [hk]at hi;simp at hi
   subst this;obtain⟨q,hq,e⟩:=eI.1 (sD p hp);obtain⟨j,hj⟩:=List.mem_iff_getElem?.1 hq;have uV:=(lgeS hj).1;exact⟨j,q,by omega,by rw [List.getElem?_append_left uV];exact hj,e⟩
end
theorem kP.root(r:HT):kP [⟨r,[]⟩] where
 pos:=by simp
 nodup:=by simp [ids]
 ss:=fun nd h=>by simp at h;subst h;exact List.Pairwise.nil
 up:=fun i nd p h hp=>by
  cases i with
  |zero=>simp at h;subst h;simp at hp
  |succ i=>simp at h
def dU(D:DG)(h:HT)(l:List HT):Int:=
 if h∈ids D then 7 else if(dC l).length=0\/(dC l).length≠l.length then 9 else if ∃p∈dC l,p∉ids D then 6 else 0
def mC(D:DG)(h:HT)(l:List HT):DG:=if dU D h l=0 then D++ [⟨h,dC l⟩]else D
theorem lP{D:DG}{h:HT}{l:List HT}(e:dU D h l=0):h∉ids D/\l≠ []/\l.Nodup/\∀p∈dC l,p∈ids D:=by
 unfold dU at e;split at e
 ·cases e
 ·rename_i h1
  split at e
  ·cases e
  ·rename_i h2
   split at e
   ·cases e
   ·rename_i h3
    simp only [not_or,Decidable.not_not]at h2;refine⟨h1,fun hl=>h2.1 (by rw [hl];rfl),sj h2.2,fun p hp=>Classical.byContradiction fun hn=>h3 ⟨p,hp,hn⟩⟩
theorem kP.add{D:DG}(W:kP D)(h:HT)(l:List HT):kP (mC D h l):=by
 unfold mC;split
 ·rename_i e
  obtain⟨h1,_,_,h4⟩:=lP e;exact W.snoc h1 h4 (jz l)
 ·exact W
open Classical in
noncomputable def pick(D:DG)(is:HT->Prop):List HT:=dC ((ids D).filter fun a=>decide (is a))
theorem km{D:DG}{is:HT->Prop}{a:HT}:a∈pick D is↔a∈ids D/\is a:=by
 unfold pick;rw [dW,List.mem_filter];simp
theorem Eg{D:DG}{is:HT->Prop}{l:List HT}(h:∀a,a∈l↔a∈ids D/\is a):dC l=pick D is:=D3 fun x=>by
 rw [h,List.mem_filter];simp
theorem oh(D:DG)(is:HT->Prop):(pick D is).length<=D.length:=by
 unfold pick;refine Nat.le_trans (ny _) (Nat.le_trans (List.length_filter_le _ _) ?_);rw [iM];exact Nat.le_refl _
noncomputable def eN(D:DG)(l:List HT):List HT:=pick D fun a=>∃h∈l,fI D a h
noncomputable def iD(D:DG)(h:HT):List HT:=pick D fun a=>oW D h a
open Go.RowKit
structure NS(w:World)(F:Nat->Prop)(A:Option Addr)(n:Nat)(l:List DN):Prop where
 len:l.length=n
 at_:∀(i:Nat) nd,l[i]? =some nd->∃a pA pn pc,A=some a/\a.block<w.heap.size/\F a.block/\Cells w (a.add (i*33)) (nd.id.1.push (.slice pA pn pc))/\HS w pA pn nd.ps/\∀b,pA=some b->F b.block
section
variable{w w':World}{F F' S:Nat->Prop}{A:Option Addr}{n:Nat}{l:List DN}
theorem NS.aK(h:NS w F A n l)(hk:Kept S w w')(hn:∀k,F k->¬S k):NS w' F A n l:=⟨h.len,fun i nd hi=>by
 obtain⟨a,pA,pn,pc,h1,h2,h3,h4,h5,h6⟩:=h.at_ i nd hi;exact⟨a,pA,pn,pc,h1,Nat.lt_of_lt_of_le h2 hk.size,h3,Cells.aK h4 hk (by rw [fw];exact hn _ h3),h5.aK hk (fun b hb=>hn _ (h6 b hb)),h6⟩⟩
theorem NS.mono(h:NS w F A n l)(hf:∀k,F k->F' k):NS w F' A n l:=⟨h.len,fun i nd hi=>by
 obtain⟨a,pA,pn,pc,h1,h2,h3,h4,h5,h6⟩:=h.at_ i nd hi;exact⟨a,pA,pn,pc,h1,h2,hf _ h3,h4,h5,fun b hb=>hf _ (h6 b hb)⟩⟩
theorem vw{h:HT}{v:Value}{j:Nat}{u:Value}(hj:h.1[j]? =some u):(h.1.push v)[j]? =some u:=by
 have di:=(Array.getElem?_eq_some_iff.1 hj).1;rw [Array.getElem?_push,if_neg (by omega),hj]
theorem qy(h:HT)(v:Value):(h.1.push v)[32]? =some v:=by
 have:=h.2.1;rw [Array.getElem?_push,if_pos (by omega)]
theorem NS.id(h:NS w F A n l){i:Int}{nd:DN}(h0:0<=i)(hx:l[i.toNat]? =some nd){k:Array Value->Prop}(hk:k nd.id.1):
 (0<=i/\i<(n:Int))/\Is A fun a=>∃t:Array Value,(t.size=32/\Cells w ((a.add (i.toNat*33)).add 0) t)/\k t:=by
 obtain⟨a,pA,pn,pc,rfl,_,_,h4,_,_⟩:=h.at_ _ nd hx;have:=(lgeS hx).1;have:=h.len;refine⟨⟨h0,by omega⟩,nd.id.1,⟨nd.id.2.1,fun j v hj=>?_⟩,hk⟩;rw [add_zero];exact h4 j v (vw hj)
theorem NS.ps(h:NS w F A n l){i:Int}{nd:DN}(h0:0<=i)(hx:l[i.toNat]? =some nd){k:Option Addr->Nat->Nat->Prop}(hk:∀pA pn pc,HS w pA pn nd.ps->(∀b,pA=some b->F b.block)->k pA pn pc):
 (0<=i/\i<(n:Int))/\Is A fun a=>∃pA pn pc,w.cell? ((a.add (i.toNat*33)).add 32)=some (.slice pA pn pc)/\k pA pn pc:=by
 obtain⟨a,pA,pn,pc,rfl,_,_,h4,h5,h6⟩:=h.at_ _ nd hx;have:=(lgeS hx).1;have:=h.len;exact⟨⟨h0,by omega⟩,pA,pn,pc,h4 32 _ (qy _ _),hk _ _ _ h5 h6⟩
theorem NS.cells(h:NS w F A n l):∀k,k<=n->∃news:List Value,news.length=k*33/\(∀a,A=some a->∀j u,news[j]? =some u->w.cell? (a.add j)=some u)/\(∀u∈news,u.oneCell'=true)/\
 ∀(i:Nat) nd,i<k->l[i]? =some nd->∃pA pn pc,HS w pA pn nd.ps/\(∀b,pA=some b->F b.block)/\∀(j:Nat) v,(nd.id.1.push (.slice pA pn pc))[j]? =some v->news[i*33+j]? =some v
 |0,_=>⟨[],rfl,by simp,by simp,by intro i nd hi;omega⟩
 |k+1,hk=>by
  obtain⟨news,e1,e2,e3,e4⟩:=h.cells k (by omega);have hlen:=h.len;obtain⟨nd,gQ⟩:∃nd,l[k]? =some nd:=⟨_,List.getElem?_eq_getElem (by omega)⟩;obtain⟨a,pA,pn,pc,hA,h2,h3,h4,h5,h6⟩:=h.at_ _ nd gQ;have mG:(nd.id.1.push (.slice pA pn pc)).size=33:=by rw [Array.size_push,nd.id.2.1]
  refine⟨news++(nd.id.1.push (.slice pA pn pc)).toList,by rw [List.length_append,e1,Array.length_toList,mG];omega,fun a' y8 j u hj=>?_,fun u hu=>?_,fun i md hi yg=>?_⟩
  ·rw [List.getElem?_append]at hj
   split at hj
   ·exact e2 a' y8 j u hj
   ·rename_i gH
    rw [hA]at y8;cases y8;have:=h4 (j-news.length) u (by rw [<-Array.getElem?_toList];exact hj)
    rwa [lZ,show k*33+(j-news.length)=j by omega]at this
  ·rw [List.mem_append]at hu
   rcases hu with hu|hu
   ·exact e3 u hu
   ·simp only [Array.toList_push,List.mem_append,List.mem_singleton]at hu
    rcases hu with hu|rfl
    ·exact nd.id.2.one u hu
    ·rfl
  ·by_cases hik:i<k
   ·obtain⟨qA,qn,qc,f1,f2,f3⟩:=e4 i md hik yg
    exact⟨qA,qn,qc,f1,f2,fun j v hj=>by
     have:=f3 j v hj;rw [List.getElem?_append_left (lgeS this).1];exact this⟩
   ·have:i=k:=by omega
    subst this;rw [gQ]at yg;cases yg;exact⟨pA,pn,pc,h5,h6,fun j v hj=>by
     rw [List.getElem?_append_right (by omega),e1,show i*33+j-i*33=j by omega,Array.getElem?_toList];exact hj⟩
theorem yD:zF prog cZ b6 33 56:=⟨by kernel_rfl,by kernel_rfl⟩
theorem EV:Sd prog b6=some ([(0,32),(32,1)],List.replicate 32 (.int .u8 0)++ [.slice none 0 0]):=by kernel_rfl
theorem GO(h:HT)(A:Option Addr)(n c:Nat):prog.built b6 [(0,.agg h.1),(1,.slice A n c)]=some (h.1.push (.slice A n c)):=by
 have hs:=h.2.1;rw [ox EV,jx (off:=0) (size:=32) rfl (by simpa [Value.cells]using hs) (by simp),jx (off:=32) (size:=1) rfl rfl (by
  rw [List.size_toArray,mK (by simp [Value.cells,hs])];simp)]
 simp only [Instr.fill,Option.some.injEq];apply Array.ext';unfold iI;simp [Value.cells,hs]
structure uZ(w:World)(F:Nat->Prop)(r:Nat)(D:DG):Prop where
 ex:∃(A:Option Addr) (c:Nat) (cs:Array Value) (t:TypeId),w.heap[r]? =some (.cells cs t (0,0))/\cs[0]? =some (.slice A D.length c)/\NS w F A D.length D
 iX:¬F r
theorem uZ.aK{r:Nat}{D:DG}(h:uZ w F r D)(hk:Kept S w w')(hr:¬S r)(hn:∀k,F k->¬S k):uZ w' F r D:=by
 obtain⟨A,c,cs,t,h1,h0,h2⟩:=h.ex;exact⟨⟨A,c,cs,t,hk.heap h1 hr,h0,h2.aK hk hn⟩,h.iX⟩
theorem uZ.same{r:Nat}{D:DG}(h:uZ w F r D)(hk:Kept Nil w w'):uZ w' F r D:=h.aK hk (fun h=>h) (fun _ _ h=>h)
theorem uZ.lt{r:Nat}{D:DG}(h:uZ w F r D):r<w.heap.size:=by obtain⟨A,c,cs,t,h1,_⟩:=h.ex;exact bf h1
theorem uZ.go{r:Nat}{D:DG}(h:uZ w F r D){k:Option Addr->Nat->Nat->Prop}(hk:∀A c,NS w F A D.length D->k A D.length c):
 ∃A n m,w.cell? ((⟨r,0,none⟩:Addr).add 0)=some (.slice A n m)/\k A n m:=by
 obtain⟨A,c,cs,t,h1,h0,h2⟩:=h.ex;exact⟨A,_,c,by rw [add_zero,aE h1];exact h0,hk A c h2⟩
theorem uZ.go'{r:Nat}{D:DG}(h:uZ w F r D)(kw:Kept Nil w w'){k:Option Addr->Nat->Nat->Prop}(hk:∀A c,NS w F A D.length D->k A D.length c):
 ∃A n m,w'.cell? ((⟨r,0,none⟩:Addr).add 0)=some (.slice A n m)/\k A n m:=by
 obtain⟨A,c,cs,t,h1,h0,h2⟩:=h.ex;exact⟨A,_,c,by rw [add_zero,aE (kw.heap h1 (fun h=>h))];exact h0,hk A c h2⟩
theorem NS.ps'(h:NS w F A n l)(kw:Kept Nil w w'){i:Int}{nd:DN}(h0:0<=i)(hx:l[i.toNat]? =some nd){k:Option Addr->Nat->Nat->Prop}(hk:∀pA pn pc,HS w pA pn nd.ps->k pA pn pc):
 (0<=i/\i<(n:Int))/\Is A fun a=>∃pA pn pc,w'.cell? ((a.add (i.toNat*33)).add 32)=some (.slice pA pn pc)/\k pA pn pc:=by
 obtain⟨a,pA,pn,pc,rfl,_,_,h4,h5,h6⟩:=h.at_ _ nd hx;have:=(lgeS hx).1;have:=h.len;exact⟨⟨h0,by omega⟩,pA,pn,pc,(kw.cell (h4 32 _ (qy _ _)) (fun h=>h)),hk _ _ _ h5⟩
def Hg(D:DG)(h:HT):Int:=match pos h (ids D) 0 with|some j=>(j:Int)|none=> -1
theorem qG{D:DG}{h:HT}:Hg D h<0↔h∉ids D:=by
 unfold Hg;rw [<-pS (l:=ids D) (i:=0)];cases hp:pos h (ids D) 0<;>simp
theorem rH{D:DG}{h:HT}:Hg D h>=0↔h∈ids D:=by
 have:= @qG D h;constructor
 ·intro hg;exact Classical.byContradiction fun hn=>by have:=this.2 hn;omega
 ·intro hm;exact Classical.byContradiction fun hn=>this.1 (by omega) hm
theorem Mt{D:DG}{h:HT}(hm:h∈ids D):∃nd,Hg D h>=0/\D[(Hg D h).toNat]? =some nd/\nd.id=h:=by
 have h1:=rH.2 hm;unfold Hg at*;cases hp:pos h (ids D) 0 with
 |none=>rw [hp]at h1;simp at h1
 |some j=>
  obtain⟨_,h2⟩:=vx hp;obtain⟨nd,h3,h4⟩:=Iw h2;exact⟨nd,by simp,by simpa using h3,h4⟩
theorem yV{D:DG}{i:Nat}{nd:DN}(h:D[i]? =some nd):(ids D).take (i+1)=(ids D).take i++ [nd.id]:=by
 rw [List.take_add_one,qD h];rfl
theorem xN{h:HT}:∀ {l:List HT} {i k:Nat},h∉l.take k->l[k]? =some h->pos h l i=some (i+k)
 | [],_,_,_,e=>by simp at e
 |x::l,i,0,_,e=>by
  simp only [List.getElem?_cons_zero,Option.some.injEq]at e;unfold pos;rw [if_pos e.symm,Nat.add_zero]
 |x::l,i,k+1,hn,e=>by
  simp only [List.getElem?_cons_succ]at e;rw [List.take_succ_cons,List.mem_cons,not_or]at hn;unfold pos;rw [if_neg hn.1,xN (i:=i+1) hn.2 e]
  congr 1
  omega
variable{r:Nat}{D:DG}{K:Value->World->Prop}
theorem oL(H:uZ w F r D)(hD:D.length<=1000000)(h:HT)(hK:∀w',Kept Nil w w'->K (.int .i64 (Hg D h)) w'):
 bG prog bO.id #[.pointer (some ⟨r,0,none⟩),.agg h.1] w K:=by
 refine bO.of ?_;unfold bO.W;intro w3;have k3:Kept Nil w w3:=(Kept.refl Nil w).alloc _;have p8:w3.heap[w.heap.size]? =some (.cells h.1 al (0,0)):=aM w _;clear_value w3;refine bO.cJ (I:=fun s w'=>∃i:Nat,s=(0,(i:Int))/\i<=D.length/\Kept Nil w3 w'/\h∉(ids D).take i) (μ:=fun s _=>((D.length:Int)-s.2).toNat) (s:=(0,0)) ⟨0,rfl,Nat.zero_le _,Kept.refl _ _,by simp⟩ ?_;rintro s w' ⟨i,rfl,hi,kw,mH⟩;have kk:Kept Nil w w':=k3.tt kw;refine(H.same kk).go fun A c uh=>?_;refine Split.dec (fun jZ=>?_) (fun gH=>?_)
 ·simp only at jZ
  have dX:i<D.length:=by omega
  obtain⟨nd,gQ⟩:∃nd,D[i]? =some nd:=⟨_,List.getElem?_eq_getElem dX⟩;intro w10;have rP:Kept Nil w3 w10:=kw.drew;have F7:Kept Nil w w10:=k3.tt rP;clear_value w10;refine(H.same F7).go fun A c uh=>?_;refine uh.id (i:=(i:Int)) (by omega) (by rw [Int.toNat_natCast];exact gQ) ⟨h.1,⟨h.2.1,Cells.bV (rP.heap p8 (fun h=>h))⟩,⟨nd.id.2.ints,h.2.ints⟩,?_⟩;rw [fz];refine Split.dec (fun he=>?_) (fun he=>?_)
  ·have:=hK w10 F7
   unfold Hg at this;rw [xN (i:=0) mH (by rw [<-he];exact qD gQ),Nat.zero_add]at this;exact this
  ·simp only
   rw [dF (n:=(i:Int)) (by omega) (by omega)];refine⟨(0,(i:Int)+1),rfl,⟨i+1,rfl,dX,rP,?_⟩,by simp only;omega⟩;rw [yV gQ,List.mem_append,List.mem_singleton,not_or];exact⟨mH,fun e=>he e.symm⟩
 ·simp only at gH
  rw [aU,bO.dz];rw [List.take_of_length_le (by rw [iM];omega)]at mH;have:=hK w' kk;unfold Hg at this;rw [pS.2 mH]at this;exact this
end
section
variable{w w':World}{F F' S:Nat->Prop}{A:Option Addr}{n c B:Nat}{l:List DN}{news:List Value}{r:Nat}{D:DG}{K:Value->World->Prop}
theorem FT(h:Row w B b6 33 A n c news)(hl:l.length=n)(hF:∀k,bI A=some k->F k)
 (hc:∀(i:Nat) nd,l[i]? =some nd->∃pA pn pc,HS w pA pn nd.ps/\(∀b,pA=some b->F b.block)/\∀(j:Nat) v,(nd.id.1.push (.slice pA pn pc))[j]? =some v->news[i*33+j]? =some v):NS w F A n l:=
 ⟨hl,fun i nd hi=>by
   obtain⟨pA,pn,pc,h1,h2,h3⟩:=hc i nd hi;have:=(lgeS hi).1;obtain⟨b,rfl⟩:=Row.some h (by omega);obtain⟨_,cur,pZ⟩:=Row.bV h (k:=b) rfl;exact⟨_,pA,pn,pc,rfl,bf pZ,hF b rfl,fun j v hj=>by rw [lZ];exact Row.cells h _ _ (h3 j v hj),h1,h2⟩⟩
theorem yx(h:NS w F A n l){cx:Nat}(h0:0<n)(hn:n<=100000):
 ∃A' c' w' news,(Builtin.append_ #[cZ,cZ] cZ #[.slice none 0 0,.slice A n cx]).run prog w=.ok (.slice A' n c') w'/\
  Row w' w.heap.size b6 33 A' n c' news/\Kept Nil w w'/\
  ∀(i:Nat) nd,l[i]? =some nd->∃pA pn pc,HS w pA pn nd.ps/\(∀b,pA=some b->F b.block)/\∀(j:Nat) v,(nd.id.1.push (.slice pA pn pc))[j]? =some v->news[i*33+j]? =some v:=by
 obtain⟨news,e1,e2,e3,e4⟩:=h.cells n (Nat.le_refl _);have hlen:=h.len;obtain⟨nd,gQ⟩:∃nd,l[0]? =some nd:=⟨_,List.getElem?_eq_getElem (by omega)⟩;obtain⟨a,_,_,_,rfl,_⟩:=h.at_ _ nd gQ;obtain⟨A',c',w',hr,fP,hg,hb⟩:=fZ (P:=prog) (t:=cZ) (ty:=cZ) (bytes:=56) yD (Row.nil w w.heap.size _ _) (a:=a) (m:=n) (cx:=cx) (news:=news) e1 (e2 a rfl) e3 (by omega) (by unfold maxLen;omega) (Nat.le_refl _);rw [Nat.zero_add]at hr fP;rw [List.nil_append]at fP;exact⟨A',c',w',news,hr,fP,Kept.dY (Kept.refl _ _) hg (fun k hk=>by cases hk),fun i nd hi=>e4 i nd (by have:=(lgeS hi).1;omega) hi⟩
theorem yy(h:Row w B b6 33 A n c news)(hn:n<=100000)(hB:B<=w.heap.size){b:Nat}{arr:Array Value}(hb:w.heap[b]? =some (.cells arr b6 (0,0)))(hs:arr.size=33)(h1:∀u∈arr.toList,u.oneCell'=true):
 ∃A' c' w',(Builtin.append_ #[cZ,cZ] cZ #[.slice A n c,.slice (some ⟨b,0,none⟩) 1 1]).run prog w=.ok (.slice A' (n+1) c') w'/\
  Row w' B b6 33 A' (n+1) c' (news++arr.toList)/\w.grownBy w' (bI A):=by
 obtain⟨A',c',w',hr,fP,hg,hb⟩:=fZ (P:=prog) (t:=cZ) (ty:=cZ) (bytes:=56) yD h (a:=⟨b,0,none⟩) (m:=1) (cx:=1) (news:=arr.toList) (by simpa using hs)
  (fun j u hj=>by rw [bE,Nat.zero_add,aE hb];simpa using hj) h1 (by omega) (by unfold maxLen;omega) hB
 exact⟨A',c',w',hr,fP,hg⟩
theorem KO{nd:DN}{pA:Option Addr}{pn pc:Nat}(h:Row w B b6 33 A (n+1) c (news++(nd.id.1.push (.slice pA pn pc)).toList))(zB:news.length=n*33)(hl:l.length=n)(hF:∀k,bI A=some k->F k)
 (hc:∀(i:Nat) nd,l[i]? =some nd->∃pA pn pc,HS w pA pn nd.ps/\(∀b,pA=some b->F b.block)/\∀(j:Nat) v,(nd.id.1.push (.slice pA pn pc))[j]? =some v->news[i*33+j]? =some v)
 (hp:HS w pA pn nd.ps) (Kg:∀b,pA=some b->F b.block):NS w F A (n+1) (l++ [nd]):=by
 refine FT h (by simp [hl]) hF fun i md hi=>?_;rw [List.getElem?_append]at hi;split at hi
 ·obtain⟨qA,qn,qc,h1,h2,h3⟩:=hc i md hi
  exact⟨qA,qn,qc,h1,h2,fun j v hj=>by
   have:=h3 j v hj;rw [List.getElem?_append_left (lgeS this).1];exact this⟩
 ·rename_i gH
  have Gt:i=n/\md=nd:=by
   cases hk:i-l.length with
   |zero=>rw [hk]at hi;exact⟨by omega,by simpa using hi.symm⟩
   |succ k=>rw [hk]at hi;simp at hi
  obtain⟨rfl,rfl⟩:=Gt;exact⟨pA,pn,pc,hp,Kg,fun j v hj=>by
   rw [List.getElem?_append_right (by omega),zB,show i*33+j-i*33=j by omega,Array.getElem?_toList];exact hj⟩
theorem NS.same(h:NS w F A n l)(hk:Kept Nil w w'):NS w' F A n l:=h.aK hk fun _ _ h=>h
theorem uZ.mono(h:uZ w F r D)(hf:∀k,F k->F' k)(hr:¬F' r):uZ w F' r D:=by
 obtain⟨A,c,cs,t,h1,h0,h2⟩:=h.ex;exact⟨⟨A,c,cs,t,h1,h0,h2.mono hf⟩,hr⟩
theorem Ai(h:HT)(A:Option Addr)(n c:Nat):∀u∈(h.1.push (.slice A n c)).toList,u.oneCell'=true:=fun u hu=>by
 simp only [Array.toList_push,List.mem_append,List.mem_singleton]at hu;rcases hu with hu|rfl
 ·exact h.2.one u hu
 ·rfl
theorem Ed(H:uZ w F r D)(W:kP D)(hD:D.length<=10000){h:HT}{lp:List HT}{A:Option Addr}{n c:Nat}(hl:HS w A n lp)(hn:n<=400000)
 (hK:∀w',uZ w' (fun k=>F k\/(w.heap.size<=k/\k<w'.heap.size)) r (mC D h lp)->Kept (· =r) w w'->K (.int .i64 (dU D h lp)) w'):
 bG prog bK.id #[.pointer (some ⟨r,0,none⟩),.agg h.1,.slice A n c] w K:=by
 have aaD:=H.lt;have hlen:=hl.len;have mH:∀w',Kept Nil w w'->∀e,dU D h lp=e->e≠0->K (.int .i64 e) w':=fun w' k e he fX=>by
  have:=hK w' ?_ (k.mono fun _ _ h=>h.elim)
  ·rw [he]at this;exact this
  ·unfold mC
   rw [if_neg (by rw [he];exact fX)];exact(H.same k).mono (fun _ h=>.inl h) (fun e=>e.elim H.iX (fun h=>absurd h.1 (by omega)))
 refine bK.of ?_;unfold bK.W;intro w4;have k4:Kept Nil w w4:=(Kept.refl _ _).alloc _;have ui:w4.heap[w.heap.size]? =some (.cells h.1 al (0,0)):=aM w _;clear_value w4;refine⟨h.1,⟨h.2.1,Cells.bV ui⟩,oL (H.same k4) (by omega) h fun w7 k7=>⟨_,rfl,Split.dec (fun gH=>?_) (fun Qf=>?_)⟩⟩
 ·refine mH w7 (k4.tt k7) 7 ?_ (by omega)
  unfold dU;rw [if_pos (rH.1 gH)]
 have y0:h∉ids D:=fun hm=>Qf (rH.2 hm);have Cz:Kept Nil w w7:=k4.tt k7;refine oJ (hl.same Cz) hn fun Hk Kr w10 Ec rP=>⟨Hk,_,Kr,rfl,?_⟩;have F7:Kept Nil w w10:=Cz.tt rP;have BS:(dC lp).length<=n:=by have:=ny lp;omega
 by_cases h0:(dC lp).length=0
 ·refine Split.yes (by simp [h0]) ?_
  refine mH w10 F7 9 ?_ (by omega);unfold dU;rw [if_neg y0,if_pos (.inl h0)]
 refine Split.no (beq_eq_false_iff_ne.2 (by omega)) ?_;by_cases h1:(dC lp).length≠n
 ·refine Split.yes (bne_iff_ne.2 (by omega)) ?_
  refine mH w10 F7 9 ?_ (by omega);unfold dU;rw [if_neg y0,if_pos (.inr (by omega))]
 replace h1:(dC lp).length=n:=by omega
 refine Split.no (by rw [h1];simp) ?_;refine bK.cJ (I:=fun s w'=>∃i:Nat,s=(0,(i:Int))/\i<=(dC lp).length/\(∀p∈(dC lp).take i,p∈ids D)/\Kept Nil w10 w') (μ:=fun s _=>(((dC lp).length:Int)-s.2).toNat) (s:=(0,0)) ⟨0,rfl,Nat.zero_le _,by simp,Kept.refl _ _⟩ ?_;rintro s w' ⟨i,rfl,hi,cY,kw⟩;have kk:Kept Nil w w':=F7.tt kw;have Zu:cf w' w7.heap.size Hk (dC lp).length Kr (dC lp):=Row.aK Ec kw (fun _ _ h=>h);refine Split.dec (fun jZ=>?_) (fun gH=>?_)
 ·simp only at jZ
  have dX:i<(dC lp).length:=by omega
  obtain⟨x,hx⟩:∃x,(dC lp)[i]? =some x:=⟨_,List.getElem?_eq_getElem dX⟩;refine Zu.hs.load (i:=(i:Int)) (by omega) hx (oL (H.same kk) (by omega) x fun w2 k2=>⟨_,rfl,Split.dec (fun Ba=>?_) (fun jT=>?_)⟩)
  ·have XY:=qG.1 Ba
   refine mH w2 (kk.tt k2) 6 ?_ (by omega);unfold dU;rw [if_neg y0,if_neg (by omega),if_pos ⟨x,List.mem_of_getElem? hx,XY⟩]
  ·simp only
   rw [dF (n:=(i:Int)) (by omega) (by omega)];refine⟨(0,(i:Int)+1),rfl,⟨i+1,rfl,dX,fun p hp=>?_,kw.tt k2⟩,by simp only;omega⟩;rcases(bP hx).1 hp with hp|rfl
   ·exact cY p hp
   ·exact rH.1 (by omega)
 ·simp only at gH
  rw [List.take_of_length_le (by omega)]at cY;have VX:dU D h lp=0:=by
   unfold dU;rw [if_neg y0,if_neg (by omega),if_neg (fun⟨p,hp,Lu⟩=>Lu (cY p hp))]
  have hD':mC D h lp=D++ [⟨h,dC lp⟩]:=by unfold mC;rw [if_pos VX]
  rw [VX,hD']at hK;have Od:=W.pos;rw [aU,bK.dz];unfold bK.df;intro DU;have Pf:Kept Nil w DU:=kk.drew;have Ip:Kept Nil w10 DU:=kw.drew;have aik:DU.heap=w'.heap:=rfl;clear_value DU;have Wl:DU.heap[w.heap.size]? =some (.cells h.1 al (0,0)):=(Ip.heap (rP.heap (k7.heap ui (fun h=>h)) (fun h=>h)) (fun h=>h));obtain⟨A,c,ale,t27,IA,VU,uh⟩:=(H.same Pf).ex;refine⟨A,_,c,by rw [add_zero,aE IA];exact VU,h.1,⟨h.2.1,Cells.bV Wl⟩,?_⟩;rw [GO];have mG:(h.1.push (.slice Hk (dC lp).length Kr)).size=33:=by rw [Array.size_push,h.2.1]
  have ajq:∀ {v},Kept Nil w v->w.heap.size<=v.heap.size:=fun k=>k.size;have ac9:∀b,Hk=some b->w.heap.size<=b.block:=fun b hb=>Nat.le_trans Cz.size (Row.bV Ec (k:=b.block) (by rw [hb];rfl)).1;have LQ:∀(A':Option Addr) (c':Nat) (v:World) (news:List Value),Row v DU.heap.size b6 33 A' (D.length+1) c' (news++(h.1.push (.slice Hk (dC lp).length Kr)).toList)->news.length=D.length*33->Kept Nil DU v->
   (∀(i:Nat) nd,D[i]? =some nd->∃pA pn pc,HS v pA pn nd.ps/\(∀b,pA=some b->F b.block)/\∀(j:Nat) u,(nd.id.1.push (.slice pA pn pc))[j]? =some u->news[i*33+j]? =some u)->
   Wr v ((⟨r,0,none⟩:Addr).add 0)/\K (.int .i64 0) (v.setCell ((⟨r,0,none⟩:Addr).add 0) (.slice A' (D.length+1) c')):=by
   intro A' c' v news fP zB kv vY;have O6:Kept Nil w v:=Pf.tt kv;obtain⟨A0,c0,cs0,t0,jK,acf,_⟩:=(H.same O6).ex;have NA:=(Array.getElem?_eq_some_iff.1 acf).1;rw [add_zero];have k3:Kept (· =r) v (v.setCell ⟨r,0,none⟩ (.slice A' (D.length+1) c')):=Kept.setCell (S:=fun k=>k=r) (Kept.refl _ v) (p:=⟨r,0,none⟩) (fun _=>rfl) _;refine⟨dQ jK NA,hK _ ⟨⟨A',c',cs0.setIfInBounds 0 (.slice A' (D.length+1) c'),t0,?_,?_,?_⟩,fun e=>e.elim H.iX (fun h=>absurd h.1 (by omega))⟩ ((O6.mono (S':=fun k=>k=r) (fun _ _ h=>h.elim)).tt k3)⟩
   ·rw [du jK 0]
   ·rw [List.length_append]
    simp [NA]
   ·have CP:=k3.size
    have WR:∀b,Hk=some b->b.block<v.heap.size:=fun b hb=>by
     obtain⟨_,cur,hc⟩:=Row.bV Ec (k:=b.block) (by rw [hb];rfl);have:=bf hc;have:=Ip.size;have:=kv.size;omega
    have P7:=KO (F:=fun k=>F k\/(w.heap.size<=k/\k<(v.setCell ⟨r,0,none⟩ (.slice A' (D.length+1) c')).heap.size)) (nd:=⟨h,dC lp⟩) fP zB rfl (fun k hk=>by
     obtain⟨h1,cur,hc⟩:=Row.bV fP hk;have:=bf hc;have:=Pf.size;exact .inr ⟨by omega,by omega⟩) (fun i nd hi=>by
     obtain⟨pA,pn,pc,h1,h2,h3⟩:=vY i nd hi;exact⟨pA,pn,pc,h1,fun b hb=>.inl (h2 b hb),h3⟩) ((Ec.hs.same Ip).same kv) (fun b hb=>.inr ⟨ac9 b hb,by have:=WR b hb;omega⟩)
    have:=P7.aK k3 (fun k hk e=>by
     subst e;rcases hk with hk|hk
     ·exact H.iX hk
     ·omega)
    rw [List.length_append];exact this
  refine⟨?_,?_⟩
  ·obtain⟨A1,c1,qt,news,nE,og,zv,vY⟩:=yx uh (cx:=c) Od (by omega)
   refine⟨A1,_,c1,qt,nE,⟨h.1,rfl,h.2.1,Cells.bV (zv.heap Wl (fun h=>h))⟩,mG,?_⟩;intro nf;have aam:nf=qt.alloc (.cells (h.1.push (.slice Hk (dC lp).length Kr)) b6):=by
    show qt.alloc (.cells ((h.1.push (.slice Hk (dC lp).length Kr)).toList++ []).toArray b6)=_
    rw [List.append_nil,Array.toArray_toList]
   have wL:Kept Nil qt nf:=(Kept.refl _ _).alloc _;have I9:nf.heap[qt.heap.size]? =some (.cells (h.1.push (.slice Hk (dC lp).length Kr)) b6 (0,0)):=by rw [aam];exact aM qt _
   clear_value nf;have Ae:=Row.aK og wL (fun _ _ h=>h);obtain⟨A2,c2,rM,jY,iw,LP⟩:=yy Ae (by omega) (Nat.le_trans zv.size wL.size) I9 mG (Ai _ _ _ _);have rN:Kept Nil DU rM:=Kept.dY (zv.tt wL) LP (fun k hk=>(Row.bV og hk).1);refine⟨A2,_,c2,rM,jY,?_⟩;exact LQ A2 c2 rM news iw (Row.len og) rN (fun i nd hi=>by
    obtain⟨pA,pn,pc,h1,h2,h3⟩:=vY i nd hi;exact⟨pA,pn,pc,h1.same rN,h2,h3⟩)
  ·refine⟨mG,?_⟩
   intro MA;have aal:MA=DU.alloc (.cells (h.1.push (.slice Hk (dC lp).length Kr)) b6):=by
    show DU.alloc (.cells ((h.1.push (.slice Hk (dC lp).length Kr)).toList++ []).toArray b6)=_
    rw [List.append_nil,Array.toArray_toList]
   have MV:Kept Nil DU MA:=(Kept.refl _ _).alloc _;have Wj:MA.heap[DU.heap.size]? =some (.cells (h.1.push (.slice Hk (dC lp).length Kr)) b6 (0,0)):=by rw [aal];exact aM DU _
   clear_value MA;refine⟨by rw [add_zero,aE (MV.heap IA (fun h=>h))];exact VU,?_⟩;obtain⟨A1,c1,Sr,news,nE,og,TD,vY⟩:=yx (uh.same MV) (cx:=c) Od (by omega);have Wi:=TD.heap Wj (fun h=>h);obtain⟨A2,c2,Rv,jY,iw,LP⟩:=yy og (by omega) TD.size Wi mG (Ai _ _ _ _);have TC:Kept Nil MA Rv:=Kept.dY TD LP (fun k hk=>(Row.bV og hk).1);have k43:Kept Nil DU Rv:=MV.tt TC;refine⟨A1,_,c1,Sr,nE,A2,_,c2,Rv,jY,?_⟩;exact LQ A2 c2 Rv news (Row.base iw fun k hk=>Nat.le_trans MV.size (Row.bV iw hk).1) (Row.len og) k43 (fun i nd hi=>by
    obtain⟨pA,pn,pc,h1,h2,h3⟩:=vY i nd hi;exact⟨pA,pn,pc,h1.same TC,h2,h3⟩)
end
theorem tl:∀ {l m:List HT},l.Nodup->(∀x∈l,x∈m)->l.length<=m.length
 | [],_,_,_=>Nat.zero_le _
 |x::l,m,hn,h=>by
  rw [List.nodup_cons]at hn;have hx:=h x (by simp);have:=tl (l:=l) (m:=m.erase x) hn.2 (fun y hy=>by
   have fX:y≠x:=fun e=>hn.1 (e▸hy);exact(List.mem_erase_of_ne fX).2 (h y (by simp [hy])))
  rw [List.length_erase_of_mem hx]at this;have jT:0<m.length:=List.length_pos_of_mem hx;simp only [List.length_cons];omega
structure PB(w0 w':World)(D:DG)(l out:List HT)(A1:Option Addr)(c1:Nat)(A2:Option Addr)(c2:Nat):Prop where
 r1:cf w' w0.heap.size A1 out.length c1 out
 r2:cf w' w0.heap.size A2 (l.length+out.length) c2 (l++out)
 ap:∀k,bI A1=some k->bI A2≠some k
 nd:out.Nodup
 GW:∀x∈out,∃h∈l,fI D x h
 kp:Kept Nil w0 w'
section
variable{w w' mE:World}{F S:Nat->Prop}{D:DG}{l out:List HT}{A1 A2:Option Addr}{c1 c2 r:Nat}{K:Value->World->Prop}
theorem PB.same(h:PB w w' D l out A1 c1 A2 c2)(k:Kept Nil w' mE):PB w mE D l out A1 c1 A2 c2:=
 ⟨Row.aK h.r1 k (fun _ _ h=>h),Row.aK h.r2 k (fun _ _ h=>h),h.ap,h.nd,h.GW,h.kp.tt k⟩
theorem PB.len(h:PB w w' D l out A1 c1 A2 c2)(W:kP D):out.length<=D.length:=by
 rw [<-iM D];exact tl h.nd fun x hx=>by obtain⟨_,_,ha⟩:=h.GW x hx;exact(ha.mem W).1
theorem jE(w:World)(x:HT):HS (w.alloc (.cells (x.1.toList++ []).toArray al)) (some ⟨w.heap.size,0,none⟩) 1 [x]:=by
 refine HS.one (t:=al) (fr:=(0,0)) ?_;rw [List.append_nil,Array.toArray_toList];exact aM w _
theorem PB.add(h:PB w w' D l out A1 c1 A2 c2){x:HT}(hx:x∉out)(ha:∃h∈l,fI D x h)(hb:l.length+out.length<=500000):
 ∃JR Mq v,(Builtin.append_ #[aF,aF] aF #[.slice A1 out.length c1,.slice (some ⟨w'.heap.size,0,none⟩) 1 1]).run prog (w'.alloc (.cells (x.1.toList++ []).toArray al))=.ok (.slice JR (out.length+1) Mq) v/\Kept (fun k=>w.heap.size<=k) w' v/\
 ∃Hi Dy u,(Builtin.append_ #[aF,aF] aF #[.slice A2 (l.length+out.length) c2,.slice (some ⟨v.heap.size,0,none⟩) 1 1]).run prog (v.alloc (.cells (x.1.toList++ []).toArray al))=.ok (.slice Hi (l.length+out.length+1) Dy) u/\
  PB w u D l (out++ [x]) JR Mq Hi Dy:=by
 have hkw:=h.kp.size;have k1:Kept Nil w' (w'.alloc (.cells (x.1.toList++ []).toArray al)):=(Kept.refl _ _).alloc _;have wM:=jE w' x;generalize w'.alloc (.cells (x.1.toList++ []).toArray al)=w1 at k1 wM⊢;have r1:cf w1 w.heap.size A1 out.length c1 out:=Row.aK h.r1 k1 (fun _ _ h=>h);have aiR:=k1.size;obtain⟨JR,Mq,v,nE,og,hg1,Bi⟩:=dd (cx:=1) aF r1 wM (by omega) (by omega);have ZP:Kept (fun k=>bI A1=some k) w1 v:=Kept.grown (Kept.refl _ _) hg1 (fun k hk _=>hk);have hA1:∀k,bI A1=some k->w.heap.size<=k/\k<w'.heap.size:=fun k hk=>by
  obtain⟨h1,cur,hc⟩:=Row.bV h.r1 hk;exact⟨h1,bf hc⟩
 have WQ:∀k,bI A2=some k->w.heap.size<=k/\k<w'.heap.size:=fun k hk=>by
  obtain⟨h1,cur,hc⟩:=Row.bV h.r2 hk;exact⟨h1,bf hc⟩
 have kv:Kept (fun k=>w.heap.size<=k) w' v:=(k1.mono (fun _ _ h=>h.elim)).trans ZP (fun k _ e=>(hA1 k e).1);refine⟨JR,Mq,v,nE,kv,?_⟩;have k2:Kept Nil v (v.alloc (.cells (x.1.toList++ []).toArray al)):=(Kept.refl _ _).alloc _;have zA:=jE v x;generalize v.alloc (.cells (x.1.toList++ []).toArray al)=w2 at k2 zA⊢;have r2v:cf v w.heap.size A2 (l.length+out.length) c2 (l++out):=Row.aK (Row.aK h.r2 k1 (fun _ _ h=>h)) ZP (fun k hk e=>h.ap k e hk);have r2:cf w2 w.heap.size A2 (l.length+out.length) c2 (l++out):=Row.aK r2v k2 (fun _ _ h=>h);have PS:=ZP.size;have aiO:=k2.size;obtain⟨Hi,Dy,u,jY,iw,LP,nH⟩:=dd (cx:=1) aF r2 zA (by omega) (by omega);have ku:Kept (fun k=>bI A2=some k) w2 u:=Kept.grown (Kept.refl _ _) LP (fun k hk _=>hk);have ac8:∀k,bI JR=some k->k<v.heap.size:=fun k hk=>by
  obtain⟨_,cur,hc⟩:=Row.bV og hk;exact bf hc
 have Wq:∀k,bI JR=some k->bI A2≠some k:=fun k hk e=>by
  rcases Bi k hk with h'|h'
  ·exact h.ap k h' e
  ·have:=(WQ k e).2;omega
 have SK:cf u w.heap.size JR (out.length+1) Mq (out++ [x]):=Row.aK (Row.aK og k2 (fun _ _ h=>h)) ku (fun k hk e=>Wq k hk e);refine⟨Hi,Dy,u,jY,?_⟩;refine⟨?_,?_,fun k hk e=>?_,?_,fun y hy=>?_,?_⟩
 ·rw [List.length_append];exact SK
 ·rw [List.length_append,<-List.append_assoc,List.length_singleton,<-Nat.add_assoc];exact iw
 ·rcases nH k e with h'|h'
  ·exact Wq k hk h'
  ·have:=ac8 k hk;omega
 ·rw [List.nodup_append]
  exact⟨h.nd,by simp,fun u hu v hv e=>hx (by rw [List.mem_singleton]at hv;rw [<-hv,<-e];exact hu)⟩
 ·rw [List.mem_append,List.mem_singleton]at hy
  rcases hy with hy|rfl
  ·exact h.GW y hy
  ·exact ha
 ·exact((h.kp.trans kv (fun k hk e=>absurd hk (by omega))).tt k2).trans ku (fun k hk e=>absurd (WQ k e).1 (by omega))
theorem FM(W:kP D){l out:List HT}(ha:∀x∈out,∃h∈l,fI D x h)(hc:∀h∈l++out,∀p,oW D p h->p∈out):dC out=eN D l:=by
 refine Eg fun a=>⟨fun h=>?_,fun⟨_,h,hl,han⟩=>?_⟩
 ·obtain⟨b,hb,nv⟩:=ha a h
  exact⟨(nv.mem W).1,b,hb,nv⟩
 ·have key:∀ {a h},fI D a h->h∈l++out->a∈out:=by
   intro a h han
   induction han with
   |one hp=>exact fun hm=>hc _ hm _ hp
   |more _ hp ih=>exact fun hm=>ih (by rw [List.mem_append];exact .inr (hc _ hm _ hp))
  exact key han (by rw [List.mem_append];exact .inl hl)
theorem Ah(H:uZ w F r D)(W:kP D)(hD:D.length<=10000){A:Option Addr}{n c:Nat}(hl:HS w A n l)(hn:n<=10000)
 (hK:∀A' c' w',cf w' w.heap.size A' (eN D l).length c' (eN D l)->Kept Nil w w'->K (.slice A' (eN D l).length c') w'):
 bG prog aJ.id #[.pointer (some ⟨r,0,none⟩),.slice A n c] w K:=by
 refine aJ.of ?_;unfold aJ.W;have hlen:=hl.len;obtain⟨A4,c4,w4,yf,jX,EL,ui⟩:=dd (cx:=c) aF (cf.nil w w.heap.size) hl (by omega) (Nat.le_refl _);rw [Nat.zero_add]at yf jX;rw [List.nil_append]at jX;have k4:Kept Nil w w4:=Kept.dY (Kept.refl _ _) EL (fun k hk=>by cases hk);refine⟨A4,n,c4,w4,yf,?_⟩;refine aJ.cJ (I:=fun s w'=>∃(i:Nat) (out:List HT) (A1:Option Addr) (c1:Nat) (A2:Option Addr) (c2:Nat),s=(A1,out.length,c1,A2,n+out.length,c2,(i:Int))/\PB w w' D l out A1 c1 A2 c2/\i<=n+out.length/\∀h∈(l++out).take i,∀p,oW D p h->p∈out)
  (μ:=fun s _=>((n:Int)+D.length-s.2.2.2.2.2.2).toNat) (s:=(none,0,0,A4,n,c4,0))
  ⟨0,[],none,0,A4,c4,by simp,⟨cf.nil _ _,by simpa [hlen]using jX,(fun k hk=>by cases hk),List.Pairwise.nil,by simp,k4⟩,by omega,by simp⟩ ?_
 rintro s w' ⟨i,out,A1,c1,A2,c2,rfl,vT,hi,rR⟩;have hol:=vT.len W;have jY:=vT.r2;rw [hlen]at jY;refine Split.dec (fun jZ=>?_) (fun gH=>?_)
 ·simp only at jZ
  have dX:i<n+out.length:=by omega
  obtain⟨h,hh⟩:∃h,(l++out)[i]? =some h:=⟨_,List.getElem?_eq_getElem (by simp;omega)⟩;refine jY.hs.load (i:=(i:Int)) (by omega) hh (oL (H.same vT.kp) (by omega) h fun pD CD=>⟨_,rfl,Split.dec (fun Ba=>?_) (fun jT=>?_)⟩)
  ·simp only
   rw [dF (n:=(i:Int)) (by omega) (by omega)];refine⟨(A1,out.length,c1,A2,n+out.length,c2,(i:Int)+1),rfl,⟨i+1,out,A1,c1,A2,c2,rfl,vT.same CD,by omega,fun x hx p hp=>?_⟩,by simp only;omega⟩;rcases(bP hh).1 hx with hx|rfl
   ·exact rR x hx p hp
   ·exact absurd (fI.mem W (.one hp)).2 (qG.1 Ba)
  ·have jc:h∈ids D:=rH.1 (by omega)
   obtain⟨nd,h1,h2,h3⟩:=Mt jc;have EB:=vT.same CD;have H13:=H.same EB.kp;have Da:∃b∈l,h=b\/fI D h b:=by
    have hm:=List.mem_of_getElem? hh;rw [List.mem_append]at hm;rcases hm with hm|hm
    ·exact⟨h,hm,.inl rfl⟩
    ·obtain⟨b,hb,nv⟩:=vT.GW h hm
     exact⟨b,hb,.inr nv⟩
   have mB:∀p,oW D p h↔p∈nd.ps:=fun p=>by
    constructor
    ·rintro⟨md,yg,e,hp⟩
     obtain⟨j,hj⟩:=List.mem_iff_getElem?.1 yg;have:=W.inj hj h2 (by rw [e,h3]);subst this;rw [h2]at hj;cases hj;exact hp
    ·exact fun hp=>⟨nd,List.mem_of_getElem? h2,h3,hp⟩
   have rQ:nd.ps.length<=D.length:=by
    rw [<-iM D];exact tl (W.ss nd (List.mem_of_getElem? h2)).nodup fun x hx=>(fI.mem W (.one ((mB x).2 hx))).1
   refine H.go' EB.kp fun A c uh=>uh.ps' EB.kp h1 h2 fun pA pn pc sD=>?_;have Lu:=sD.len;refine aJ.iB (I:=fun s w'=>∃(k:Nat) (nM:List HT) (A1:Option Addr) (c1:Nat) (A2:Option Addr) (c2:Nat),s=(A1,nM.length,c1,A2,n+nM.length,c2,(k:Int))/\PB w w' D l nM A1 c1 A2 c2/\k<=pn/\(∃m,nM=out++m)/\(∀p∈nd.ps.take k,p∈nM))
    (μ:=fun s _=>((pn:Int)-s.2.2.2.2.2.2).toNat) (s:=(A1,out.length,c1,A2,n+out.length,c2,0)) ⟨0,out,A1,c1,A2,c2,rfl,EB,Nat.zero_le _,⟨[],by simp⟩,by simp⟩ ?_
   rintro s w1 ⟨k,nM,B1,d1,B2,d2,rfl,hq,hk,⟨m,hm⟩,gD⟩;have ai9:=hq.len W;refine Split.dec (fun Qp=>?_) (fun Qv=>?_)
   ·simp only at Qp
    have C0:k<pn:=by omega
    obtain⟨p,hp⟩:∃p,nd.ps[k]? =some p:=⟨_,List.getElem?_eq_getElem (by omega)⟩;have Ux:=List.mem_of_getElem? hp;refine(sD.same hq.kp).load (i:=(k:Int)) (by omega) hp (yI p hq.r1.hs (by simp only;omega) fun wK yR=>⟨_,rfl,?_⟩);have Ls:=hq.same yR;have ai4:(nd.ps.length:Int)<=10000:=by omega
    by_cases xi:p∈nM
    ·refine Split.no (by rw [decide_eq_true xi];rfl) ?_
     simp only;rw [dF (n:=(k:Int)) (by omega) (by omega)];refine⟨(B1,nM.length,d1,B2,n+nM.length,d2,(k:Int)+1),rfl,⟨k+1,nM,B1,d1,B2,d2,rfl,Ls,C0,⟨m,hm⟩,fun q AZ=>?_⟩,by simp only;omega⟩;rcases(bP hp).1 AZ with AZ|rfl
     ·exact gD q AZ
     ·exact xi
    ·refine Split.yes (by rw [decide_eq_false xi];rfl) ?_
     have Ws:∃b∈l,fI D p b:=by
      obtain⟨b,hb,e|e⟩:=Da
      ·subst e;exact⟨_,hb,.one ((mB p).2 Ux)⟩
      ·exact⟨b,hb,fI.trans (.one ((mB p).2 Ux)) e⟩
     obtain⟨JR,Mq,v,nE,kv,Hi,Dy,u,Lr,hqu⟩:=Ls.add xi Ws (by omega);rw [hlen]at Lr;refine(sD.same Ls.kp).load (i:=(k:Int)) (by omega) hp ⟨p.2.1,?_⟩;refine⟨JR,_,Mq,v,nE,?_⟩;have O6:Kept Nil w v:=Ls.kp.trans kv (fun k hk e=>absurd hk (by omega));refine(sD.same O6).load (i:=(k:Int)) (by omega) hp ⟨p.2.1,?_⟩;refine⟨Hi,_,Dy,u,Lr,?_⟩;simp only;rw [dF (n:=(k:Int)) (by omega) (by omega)];have e1:nM.length+1=(nM++ [p]).length:=by simp
     rw [e1,show n+nM.length+1=n+(nM++ [p]).length by simp;omega];refine⟨(JR,(nM++ [p]).length,Mq,Hi,n+(nM++ [p]).length,Dy,(k:Int)+1),rfl,⟨k+1,nM++ [p],JR,Mq,Hi,Dy,rfl,hqu,C0,⟨m++ [p],by rw [hm];simp⟩,fun q AZ=>?_⟩,by simp only;omega⟩;rw [List.mem_append,List.mem_singleton];rcases(bP hp).1 AZ with AZ|rfl
     ·exact .inl (gD q AZ)
     ·exact .inr rfl
   ·simp only at Qv
    rw [aU,aJ.ki];unfold aJ.jh;rw [dF (n:=(i:Int)) (by omega) (by omega)];rw [List.take_of_length_le (by omega)]at gD;refine⟨(B1,nM.length,d1,B2,n+nM.length,d2,(i:Int)+1),rfl,⟨i+1,nM,B1,d1,B2,d2,rfl,hq,by rw [hm];simp;omega,fun x hx q Ix=>?_⟩,by simp only;omega⟩;have hh':(l++nM)[i]? =some h:=by
     rw [hm,<-List.append_assoc,List.getElem?_append_left (lgeS hh).1];exact hh
    rcases(bP hh').1 hx with hx|rfl
    ·have XZ:x∈(l++out).take i:=by
      rw [hm,<-List.append_assoc,List.take_append_of_le_length (by simp;omega)]at hx;exact hx
     rw [hm,List.mem_append];exact .inl (rR x XZ q Ix)
    ·exact gD q ((mB q).1 Ix)
 ·simp only at gH
  have hie:i=n+out.length:=by omega
  rw [aU,aJ.dz];rw [List.take_of_length_le (by simp;omega)]at rR;have e:=FM W vT.GW rR;refine oJ vT.r1.hs (by simp only;omega) fun A' c' w2 row k2=>⟨A',_,c',rfl,?_⟩;rw [e]at row⊢;exact hK A' c' w2 (Row.base row fun b hb=>Nat.le_trans vT.kp.size (Row.bV row hb).1) (vT.kp.tt k2)
end
section
variable{w w' mE:World}{F S:Nat->Prop}{D:DG}{is:HT->Prop}{i:Nat}{l out:List HT}{A:Option Addr}{c r:Nat}{K:Value->World->Prop}
theorem oK(H:uZ w F r D)(W:kP D)(hD:D.length<=10000)(a b:HT)(hK:∀w' (x:Bool),(x=true↔fI D a b)->Kept Nil w w'->K (.bool x) w'):
 bG prog eo.id #[.pointer (some ⟨r,0,none⟩),.agg a.1,.agg b.1] w K:=by
 refine eo.of ?_;unfold eo.W;intro w4 w5 w6;have k4:Kept Nil w w4:=(Kept.refl _ _).alloc _;have Db:w4.heap[w.heap.size]? =some (.cells a.1 al (0,0)):=aM w _;have k5:Kept Nil w4 w5:=(Kept.refl _ _).alloc _;have pF:w5.heap[w4.heap.size]? =some (.cells b.1 al (0,0)):=aM w4 _;have k6:Kept Nil w5 w6:=(Kept.refl _ _).drew;have xm:=k6.heap (k5.heap Db (fun h=>h)) (fun h=>h);have p7:=k6.heap pF (fun h=>h);have ZL:Kept Nil w w6:=(k4.tt k5).tt k6;clear_value w6;refine⟨a.1,⟨a.2.1,Cells.bV xm⟩,oL (H.same ZL) (by omega) a fun w9 k9=>⟨_,rfl,Split.dec (fun gH=>?_) (fun Qf=>?_)⟩⟩
 ·have ha9:=k9.heap xm (fun h=>h)
  have Th:Kept Nil w w9:=ZL.tt k9;refine⟨b.1,⟨b.2.1,Cells.bV (k9.heap p7 (fun h=>h))⟩,a.1,⟨a.2.1,Cells.bV ha9⟩,b.2.1,?_⟩;intro pD;have CD:Kept Nil w9 pD:=(Kept.refl _ _).alloc _;have kh:HS pD (some ⟨w9.heap.size,0,none⟩) 1 [b]:=jE w9 b;clear_value pD;have Tl:Kept Nil w pD:=Th.tt CD;have Wv:=CD.heap ha9 (fun h=>h);refine⟨⟨a.1,rfl,a.2.1,Cells.bV Wv⟩,Ah (H.same Tl) W hD kh (by omega) fun A15 c15 nX SL uc=>⟨A15,_,c15,rfl,?_⟩⟩;have rQ:=oh D fun x=>∃h∈ [b],fI D x h;refine⟨⟨a.1,rfl,a.2.1,Cells.bV (uc.heap Wv (fun h=>h))⟩,yI a SL.hs (by unfold eN;omega) fun xD JY=>⟨_,rfl,?_⟩⟩;refine hK xD _ ?_ ((Tl.tt uc).tt JY);rw [decide_eq_true_iff];unfold eN;rw [km];constructor
  ·rintro⟨_,h,hh,ha⟩
   rw [List.mem_singleton]at hh;subst hh;exact ha
  ·intro ha
   exact⟨(ha.mem W).1,b,by simp,ha⟩
 ·refine hK w9 false ?_ (ZL.tt k9)
  constructor
  ·intro h;cases h
  ·intro ha;exact absurd (rH.2 (ha.mem W).1) Qf
theorem HR(W:kP D){j:Nat}{nd:DN}(h2:D[j]? =some nd)(p:HT):oW D p nd.id↔p∈nd.ps:=by
 constructor
 ·rintro⟨md,yg,e,hp⟩
  obtain⟨k,hk⟩:=List.mem_iff_getElem?.1 yg;have:=W.inj hk h2 e;subst this;rw [h2]at hk;cases hk;exact hp
 ·exact fun hp=>⟨nd,List.mem_of_getElem? h2,rfl,hp⟩
theorem FI(H:uZ w F r D)(W:kP D)(hD:D.length<=10000)(a b:HT)(hK:∀w' (x:Bool),(x=true↔a≠b/\¬fI D a b/\¬fI D b a)->Kept Nil w w'->K (.bool x) w'):
 bG prog eT.id #[.pointer (some ⟨r,0,none⟩),.agg a.1,.agg b.1] w K:=by
 refine eT.of ?_;unfold eT.W;intro w4 w5;have k4:Kept Nil w w4:=(Kept.refl _ _).alloc _;have Db:w4.heap[w.heap.size]? =some (.cells a.1 al (0,0)):=aM w _;have k5:Kept Nil w4 w5:=(Kept.refl _ _).alloc _;have pF:w5.heap[w4.heap.size]? =some (.cells b.1 al (0,0)):=aM w4 _;have L6:=k5.heap Db (fun h=>h);have MO:Kept Nil w w5:=k4.tt k5;clear_value w5;refine⟨a.1,⟨a.2.1,Cells.bV L6⟩,b.1,⟨b.2.1,Cells.bV pF⟩,⟨a.2.ints,b.2.ints⟩,?_⟩;rw [fz];by_cases e:a=b
 ·refine Split.no (by rw [decide_eq_true e];rfl) ?_
  exact hK w5 false (by simp [e]) MO
 ·refine Split.yes (by rw [decide_eq_false e];rfl) ?_
  refine⟨a.1,⟨a.2.1,Cells.bV L6⟩,b.1,⟨b.2.1,Cells.bV pF⟩,oK (H.same MO) W hD a b fun xF x hx J0=>⟨x,rfl,?_⟩⟩;cases x with
  |true=>
   refine Split.no rfl ?_;exact hK xF false (by simp [hx.1 rfl]) (MO.tt J0)
  |false=>
   refine Split.yes rfl ?_;have hn:¬fI D a b:=fun h=>by have:=hx.2 h;cases this
   have Tm:=MO.tt J0;refine⟨b.1,⟨b.2.1,Cells.bV (J0.heap pF (fun h=>h))⟩,a.1,⟨a.2.1,Cells.bV (J0.heap L6 (fun h=>h))⟩,oK (H.same Tm) W hD b a fun nh y hy rv=>⟨y,rfl,?_⟩⟩;refine hK nh _ ?_ (Tm.tt rv);rw [Bool.not_eq_true',<-Bool.not_eq_true,hy];exact⟨fun h=>⟨e,hn,h⟩,fun h=>h.2.2⟩
end
structure NM where
 b:Nat
 pA:Option Addr
 pn:Nat
 pc:Nat
 cA:Option Addr
 cn:Nat
 cc:Nat
 rA:Option Addr
 rn:Nat
 rc:Nat
 ws:List Nat
def gJ(h:HT)(m:NM):Array Value:=h.1++ #[.slice m.pA m.pn m.pc,.slice m.cA m.cn m.cc,.slice m.rA m.rn m.rc]
theorem vF(h:HT)(m:NM):(gJ h m).size=35:=by unfold gJ;rw [Array.size_append,h.2.1];rfl
theorem HV(h:HT)(m:NM){j:Nat}{v:Value}(hj:h.1[j]? =some v):(gJ h m)[j]? =some v:=by
 unfold gJ;rw [Array.getElem?_append_left (Array.getElem?_eq_some_iff.1 hj).1];exact hj
theorem HW(h:HT)(m:NM):(gJ h m)[33]? =some (.slice m.cA m.cn m.cc):=by
 unfold gJ;rw [Array.getElem?_append_right (by rw [h.2.1];omega),h.2.1];rfl
theorem Ax(h:HT)(m:NM):(gJ h m)[34]? =some (.slice m.rA m.rn m.rc):=by
 unfold gJ;rw [Array.getElem?_append_right (by rw [h.2.1];omega),h.2.1];rfl
theorem FU{h h':HT}{m m':NM}(e:gJ h m=gJ h' m'):h=h':=by
 apply Subtype.ext;have h1:=h.2.1;have h2:=h'.2.1;have:=congrArg (fun a:Array Value=>a.toList.take 32) e;unfold gJ at this;simp only [Array.toList_append]at this;rw [List.take_left' (by simpa using h1),List.take_left' (by simpa using h2)]at this;exact Array.ext' this
structure rJ(w:World)(S F:Nat->Prop)(D:DG)(ch:List HT)(nd:DN)(m:NM):Prop where
 bV:w.heap[m.b]? =some (.cells (gJ nd.id m) eF (0,0))
 gS:S m.b
 ps:HS w m.pA m.pn nd.ps
 KJ:∀a,m.pA=some a->F a.block
 ch:cf w 0 m.cA m.cn m.cc ch
 Rb:∀k,bI m.cA=some k->S k
 past:US w m.rA m.rn m.ws
 pT:∀a,m.rA=some a->F a.block
 ok:okW m.ws
 bits:∀j,bit m.ws j=true↔∃nj,D[j]? =some nj/\fI D nj.id nd.id
 small:m.rn<=200
structure GV(w:World)(S F:Nat->Prop)(g:Nat)(D:DG)(C:HT->List HT)(bl c mb:Nat)(M:List NM):Prop where
 top:w.heap[g]? =some (.cells #[.slice (some ⟨bl,0,none⟩) D.length c,.map (some mb)] iQ (0,0))
 row:Row w 0 fM 1 (some ⟨bl,0,none⟩) D.length c (M.map fun m=>.pointer (some ⟨m.b,0,none⟩))
 map:IsMap w mb (ids D)
 len:M.length=D.length
 node:∀(i:Nat) nd m,D[i]? =some nd->M[i]? =some m->rJ w S F D (C nd.id) nd m
 apart:∀(i j:Nat) m m',M[i]? =some m->M[j]? =some m'->i≠j->∀k,bI m.cA=some k->bI m'.cA≠some k
 iW:S g
 uu:S bl
 wh:S mb
 Hf:∀k,S k->¬F k
 low:∀k,S k\/F k->k<w.heap.size
def E8(w:World)(S F:Nat->Prop)(g:Nat)(D:DG):Prop:=∃bl c mb M,GV w S F g D (iD D) bl c mb M
section
variable{w w':World}{S F S' F':Nat->Prop}{g bl c mb:Nat}{D:DG}{C:HT->List HT}{M:List NM}{K:Value->World->Prop}
theorem rJ.aK{ch:List HT}{nd:DN}{m:NM}{S0:Nat->Prop}(h:rJ w S F D ch nd m)(hk:Kept S0 w w')(hS:∀k,S k->¬S0 k)(hF:∀k,F k->¬S0 k):rJ w' S F D ch nd m:=
 ⟨hk.heap h.bV (hS _ h.gS),h.gS,h.ps.aK hk (fun a ha=>hF _ (h.KJ a ha)),h.KJ,Row.aK h.ch hk (fun k hb=>hS k (h.Rb k hb)),h.Rb,h.past.aK hk (fun a ha=>hF _ (h.pT a ha)),h.pT,h.ok,h.bits,h.small⟩
theorem GV.aK{S0:Nat->Prop}(h:GV w S F g D C bl c mb M)(hk:Kept S0 w w')(hS:∀k,S k->¬S0 k)(hF:∀k,F k->¬S0 k):GV w' S F g D C bl c mb M:=
 ⟨hk.heap h.top (hS _ h.iW),Row.aK h.row hk (fun k e=>by cases e;exact hS _ h.uu),h.map.aK hk (hS _ h.wh),h.len,fun i nd m h1 h2=>(h.node i nd m h1 h2).aK hk hS hF,h.apart,h.iW,h.uu,h.wh,h.Hf,fun k o7=>Nat.lt_of_lt_of_le (h.low k o7) hk.size⟩
theorem GV.same(h:GV w S F g D C bl c mb M)(hk:Kept Nil w w'):GV w' S F g D C bl c mb M:=h.aK hk (fun _ _ h=>h) (fun _ _ h=>h)
theorem E8.aK{S0:Nat->Prop}(h:E8 w S F g D)(hk:Kept S0 w w')(hS:∀k,S k->¬S0 k)(hF:∀k,F k->¬S0 k):E8 w' S F g D:=let ⟨bl,c,mb,M,h⟩:=h;⟨bl,c,mb,M,h.aK hk hS hF⟩
theorem E8.same(h:E8 w S F g D)(hk:Kept Nil w w'):E8 w' S F g D:=h.aK hk (fun _ _ h=>h) (fun _ _ h=>h)
theorem GV.get(h:GV w S F g D C bl c mb M){i:Nat}{nd:DN}(hi:D[i]? =some nd):∃m,M[i]? =some m/\rJ w S F D (C nd.id) nd m:=by
 have:=(lgeS hi).1;have hl:=h.len;exact⟨M[i],List.getElem?_eq_getElem (by omega),h.node i nd _ hi (List.getElem?_eq_getElem (by omega))⟩
theorem GV.nodes(h:GV w S F g D C bl c mb M):w.cell? ((⟨g,0,none⟩:Addr).add 0)=some (.slice (some ⟨bl,0,none⟩) D.length c):=by rw [add_zero,aE h.top];rfl
theorem GV.at_(h:GV w S F g D C bl c mb M):w.cell? ((⟨g,0,none⟩:Addr).add 1)=some (.map (some mb)):=by rw [bE,aE h.top];rfl
theorem GV.ptr(h:GV w S F g D C bl c mb M){i:Nat}{m:NM}(hm:M[i]? =some m):w.cell? ((⟨bl,0,none⟩:Addr).add (i*1))=some (.pointer (some ⟨m.b,0,none⟩)):=by
 rw [bE,Nat.zero_add,Nat.mul_one];exact Row.cell h.row (by rw [List.getElem?_map,hm];rfl)
theorem yq(h:GV w S F g D C bl c mb M)(hK:K (.bool true) w):bG prog gN.id #[.pointer (some ⟨g,0,none⟩)] w K:=
 gN.of (Split.yes rfl ⟨some mb,h.at_,hK⟩)
def Found(D:DG)(M:List NM)(h:HT)(x:Option Addr):Prop:=(x=none/\h∉ids D)\/∃(i:Nat) (nd:DN) (m:NM),D[i]? =some nd/\nd.id=h/\M[i]? =some m/\x=some ⟨m.b,0,none⟩
theorem Found.isSome{h:HT}{x:Option Addr}(f:Found D M h x):(!x.isNone)=decide (h∈ids D):=by
 rcases f with⟨rfl,hn⟩|⟨i,nd,m,h1,h2,_,rfl⟩
 ·rw [decide_eq_false hn];rfl
 ·rw [decide_eq_true (eI.2 ⟨nd,List.mem_of_getElem? h1,h2⟩)];rfl
theorem wq(G:GV w S F g D C bl c mb M)(h:HT)(hK:∀w' x,Kept Nil w w'->Found D M h x->K (.pointer x) w'):
 bG prog gE.id #[.pointer (some ⟨g,0,none⟩),.agg h.1] w K:=by
 refine gE.of ?_;unfold gE.W;intro w3;have k3:Kept Nil w w3:=(Kept.refl _ _).alloc _;have p8:w3.heap[w.heap.size]? =some (.cells h.1 al (0,0)):=aM w _;clear_value w3;refine yq (G.same k3) ⟨true,rfl,Split.yes rfl ?_⟩;intro w7;have k7:Kept Nil w3 w7:=(Kept.refl _ _).drew;clear_value w7;have kw:Kept Nil w w7:=k3.tt k7;have G7:=G.same kw;refine⟨some mb,G7.at_,h.1,⟨h.2.1,Cells.bV (k7.heap p8 (fun h=>h))⟩,_,_,G7.map.look h,?_⟩;cases hp:pos h (ids D) 0 with
 |none=>exact Split.no rfl (hK w7 none kw (.inl ⟨rfl,pS.1 hp⟩))
 |some i=>
  obtain⟨_,hi⟩:=vx hp;obtain⟨nd,h1,h2⟩:=Iw hi;rw [Nat.sub_zero]at h1;obtain⟨m,hm,_⟩:=G7.get h1;have dX:=(lgeS h1).1;refine Split.yes rfl ⟨_,_,_,G7.nodes,⟨by simp,by simp only [Option.getD_some];omega⟩,some ⟨m.b,0,none⟩,?_,hK w7 _ kw (.inr ⟨i,nd,m,h1,h2,hm,rfl⟩)⟩;rw [Option.getD_some,Int.toNat_natCast];exact G7.ptr hm
theorem sK(G:GV w S F g D C bl c mb M)(h:HT)(hK:∀w',Kept Nil w w'->K (.bool (decide (h∈ids D))) w'):
 bG prog im.id #[.pointer (some ⟨g,0,none⟩),.agg h.1] w K:=by
 refine im.of ?_;unfold im.W;intro w3;have k3:Kept Nil w w3:=(Kept.refl _ _).alloc _;have p8:w3.heap[w.heap.size]? =some (.cells h.1 al (0,0)):=aM w _;clear_value w3;refine⟨h.1,⟨h.2.1,Cells.bV p8⟩,wq (G.same k3) h fun w6 x k6 hx=>⟨x,rfl,?_⟩⟩;rw [hx.isSome];exact hK w6 (k3.tt k6)
end
section
variable{w w':World}{S F:Nat->Prop}{g bl c mb:Nat}{D:DG}{C:HT->List HT}{M:List NM}{K:Value->World->Prop}
end
section
variable{w w':World}{S F:Nat->Prop}{g bl c mb:Nat}{D:DG}{C:HT->List HT}{M:List NM}{K:Value->World->Prop}
theorem Dv{A:Option Addr}{n c:Nat}{l:List HT}(hl:HS w A n l)(hn:n<=400000)(hK:∀A' c' w',cf w' w.heap.size A' n c' l->Kept Nil w w'->K (.slice A' n c') w'):
 bG prog dB.id #[.slice A n c] w K:=by
 refine dB.of ?_;cases A with
 |none=>
  obtain⟨rfl,rfl⟩:=hl.none;exact Split.yes rfl (hK none 0 w (cf.nil _ _) (Kept.refl _ _))
 |some a=>
  refine Split.no rfl ?_;intro w2;have k2:Kept Nil w w2:=(Kept.refl _ _).alloc _;have r0:cf w2 w.heap.size (some ⟨w.heap.size,0,none⟩) 0 0 []:=Row.made (n:=0) (cur:= #[]) (aM w _) (Nat.le_refl _) rfl (Nat.zero_le _);clear_value w2;obtain⟨A',c',w4,hr,row,hg,_⟩:=dd (cx:=c) aF r0 (hl.same k2) (by omega) k2.size;rw [Nat.zero_add]at hr row;rw [List.nil_append]at row;exact⟨A',n,c',w4,hr,hK A' c' w4 row (Kept.dY k2 hg (fun k hk=>by cases hk;exact Nat.le_refl _))⟩
theorem xO{D:DG}{nd:DN}{m:NM}{ch:List HT}(N:rJ w S F D ch nd m):w.cell? ((⟨m.b,0,none⟩:Addr).add 34)=some (.slice m.rA m.rn m.rc):=by
 rw [bE,Nat.zero_add,aE N.bV];exact Ax _ _
theorem Ej{D:DG}{nd:DN}{m:NM}{ch:List HT}(N:rJ w S F D ch nd m):w.cell? ((⟨m.b,0,none⟩:Addr).add 33)=some (.slice m.cA m.cn m.cc):=by
 rw [bE,Nat.zero_add,aE N.bV];exact HW _ _
end
def ph(D:DG)(j:Nat):HT:=match D[j]? with|some nd=>nd.id|none=>default
theorem vB:∀(ws:List Nat) (k:Nat),okW ws->(pV k ws).Nodup
 | [],_,_=>List.Pairwise.nil
 |x::ws,k,ho=>by
  have hx:=ho x (by simp);have Kh:okW ws:=fun y hy=>ho y (by simp [hy]);obtain⟨_,h2,h3⟩:=xV x hx;rw [pV,List.nodup_append];refine⟨List.Pairwise.map _ (fun a b nv e=>nv (by omega)) h2,vB ws (k+1) Kh,fun a ha b hb e=>?_⟩;rw [List.mem_map]at ha;obtain⟨t,ht,rfl⟩:=ha;have:=((pX ws (k+1) b Kh).1 hb).1;have:=h3 t ht;omega
section
variable{w w':World}{S F:Nat->Prop}{g bl c mb:Nat}{D:DG}{C:HT->List HT}{M:List NM}{K:Value->World->Prop}
theorem wu(G:GV w S F g D C bl c mb M)(W:kP D)(hD:D.length<=10000)(hT:sS w){A:Option Addr}{n cx:Nat}{l:List HT}(hl:HS w A n l)(hn:n<=10000)
 (hK:∀A' c' w',cf w' w.heap.size A' (eN D l).length c' (eN D l)->Kept Nil w w'->K (.slice A' (eN D l).length c') w'):
 bG prog aY.id #[.pointer (some ⟨g,0,none⟩),.slice A n cx] w K:=by
 have hlen:=hl.len;refine aY.of ?_;unfold aY.W;intro w3;have k3:Kept Nil w w3:=(Kept.refl _ _).alloc _;have Vy:w3.heap[w.heap.size]? =some (.cells #[.pointer (some ⟨g,0,none⟩)] iV (0,0)):=aM w _;have CP:w.heap.size<w3.heap.size:=bf Vy;clear_value w3;refine aY.cJ (I:=fun s w'=>∃(i:Nat) (A':Option Addr) (n' c':Nat) (ws:List Nat),s=(A',n',c',(i:Int))/\i<=n/\lF w' w3.heap.size A' n' c' ws/\okW ws/\n'<=200/\(∀j,bit ws j=true↔∃h∈l.take i,∃nj,D[j]? =some nj/\fI D nj.id h)/\Kept Nil w3 w')
  (μ:=fun s _=>((n:Int)-s.2.2.2).toNat) (s:=(none,0,0,0)) ⟨0,none,0,0,[],rfl,Nat.zero_le _,Row.nil _ _ _ _,by simp [okW],by omega,by simp [zi],Kept.refl _ _⟩ ?_
 rintro s w' ⟨i,A',n',c',ws,rfl,hi,row,ho,hn',qN,kw⟩;have kk:Kept Nil w w':=k3.tt kw;refine Split.dec (fun jZ=>?_) (fun gH=>?_)
 ·simp only at jZ
  have dX:i<n:=by omega
  obtain⟨h,hh⟩:∃h,l[i]? =some h:=⟨_,List.getElem?_eq_getElem (by omega)⟩;refine(hl.same kk).load (i:=(i:Int)) (by omega) hh ?_;intro nx;obtain⟨tA,kh,kH⟩:=iP (w:=w') (z:=(CK 0)) (cs:=h.1) (t:=al) (by rw [h.2.1];rfl);refine⟨⟨h.2.1,h.2.one,fun j hj=>tA j (by rw [h.2.1];exact hj)⟩,?_⟩;intro nX
  replace kh:nX.heap[w'.heap.size]? =some (.cells h.1 al (0,0)):=kh
  replace kH:Kept Nil w' nX:=kH
  clear_value nX;have uc:Kept Nil w3 nX:=kw.tt kH;refine⟨some ⟨g,0,none⟩,by rw [aE (uc.heap Vy (fun h=>h))];rfl,h.1,⟨h.2.1,Cells.bV kh⟩,?_⟩;refine wq (G.same (k3.tt uc)) h fun pC x x9 hx=>⟨x,rfl,?_⟩;have La:Kept Nil w3 pC:=uc.tt x9;have H5:Kept Nil w pC:=k3.tt La;have xK:lF pC w3.heap.size A' n' c' ws:=Row.aK row (kH.tt x9) (fun _ _ h=>h);rcases hx with⟨rfl,mH⟩|⟨q,nd,m',hq,rfl,ns,rfl⟩
  ·refine Split.no rfl ?_
   simp only;rw [dF (n:=(i:Int)) (by omega) (by omega)];refine⟨(A',n',c',(i:Int)+1),rfl,⟨i+1,A',n',c',ws,rfl,dX,xK,ho,hn',fun j=>?_,La⟩,by simp only;omega⟩;rw [qN];constructor
   ·rintro⟨h',h1,h2⟩;exact⟨h',(bP hh).2 (.inl h1),h2⟩
   ·rintro⟨h',h1,nj,h2,h3⟩
    rcases(bP hh).1 h1 with h1|rfl
    ·exact⟨h',h1,nj,h2,h3⟩
    ·exact absurd (h3.mem W).2 mH
  ·obtain⟨m,hm,N⟩:=(G.same H5).get hq
   rw [ns]at hm;cases hm;refine Split.yes rfl ⟨_,_,_,xO N,?_⟩;have vS:=N.small;have Gz:∀k,bI A'=some k->w3.heap.size<=k:=fun k hk=>(Row.bV xK hk).1;refine xI xK ho (by omega) La.size N.past N.ok (by omega) (fun a ha k hk e=>?_) fun A2 n2 c2 l2 mD SJ abc UU QL rO LZ=>⟨A2,n2,c2,rfl,?_⟩
   ·have h1:=G.low a.block (.inr (N.pT a ha))
    have h2:=Gz k hk;omega
   ·simp only
    rw [dF (n:=(i:Int)) (by omega) (by omega)];refine⟨(A2,n2,c2,(i:Int)+1),rfl,⟨i+1,A2,n2,c2,l2,rfl,dX,SJ,abc,by omega,fun j=>?_,La.trans rO (fun k hk e=>absurd (Gz k e) (by omega))⟩,by simp only;omega⟩;rw [QL,Bool.or_eq_true,qN,N.bits];constructor
    ·rintro(⟨h',h1,h2⟩|h2)
     ·exact⟨h',(bP hh).2 (.inl h1),h2⟩
     ·exact⟨nd.id,(bP hh).2 (.inr rfl),h2⟩
    ·rintro⟨h',h1,h2⟩
     rcases(bP hh).1 h1 with h1|rfl
     ·exact .inl ⟨h',h1,h2⟩
     ·exact .inr h2
 ·simp only at gH
  have hie:i=n:=by omega
  subst hie;rw [List.take_of_length_le (by omega)]at qN;rw [aU,aY.dz];unfold aY.df;intro uR;have G8:Kept Nil w' uR:=(Kept.refl _ _).alloc _;have UJ:uR.heap[w'.heap.size]? =some (.cells #[.slice none 0 0] aF (0,0)):=aM w' _;clear_value uR;refine kX.of ?_;unfold kX.W;intro nf;have wL:Kept Nil uR nf:=(Kept.refl _ _).alloc _;have Lq:nf.heap[uR.heap.size]? =some (.cells #[.slice A' n' c'] lN (0,0)):=aM uR _;clear_value nf;refine⟨_,rfl,?_⟩;have UI:=wL.heap UJ (fun h=>h);have TG:Kept Nil w3 nf:=(kw.tt G8).tt wL;have KY:Kept Nil w nf:=k3.tt TG;have Ae:lF nf w3.heap.size A' n' c' ws:=Row.aK (Row.aK row G8 (fun _ _ h=>h)) wL (fun _ _ h=>h);have Qy:=TG.heap Vy (fun h=>h);have BU:w.heap.size<w'.heap.size:=Nat.lt_of_lt_of_le CP kw.size;have aiL:w'.heap.size<nf.heap.size:=bf UI;have aiM:uR.heap.size<nf.heap.size:=bf Lq;have IQ:∀j∈pV 0 ws,∃nj,D[j]? =some nj:=fun j hj=>by
   have:=((pX ws 0 j ho).1 hj).2;rw [Nat.mul_zero,Nat.sub_zero]at this;obtain⟨_,_,nj,h1,_⟩:=(qN j).1 this;exact⟨nj,h1⟩
  have zB:(pV 0 ws).length<=D.length:=by
   have:=vC (m:=List.range D.length) (vB ws 0 ho) (fun j hj=>by
    obtain⟨nj,h1⟩:=IQ j hj;exact List.mem_range.2 (lgeS h1).1)
   rwa [List.length_range]at this
  let xs:=pV 0 ws
  let ρ0:Env:= [(2,.pointer (some (aV w.heap.size))),(4,.slice none 0 0),(9,.pointer (some (aV w'.heap.size))),(30,.func (.func aL.id) #[] #[.pointer (some (aV uR.heap.size))])]
  let J:Nat->World->Prop:=fun i v=>∃A c,v.heap[w'.heap.size]? =some (.cells #[.slice A i c] aF (0,0))/\cf v nf.heap.size A i c ((xs.take i).map (ph D))/\Kept (· =w'.heap.size) nf v/\i<=xs.length
  have sE:∀i v,J i v->US v A' n' ws/\v.cell? ⟨uR.heap.size,0,none⟩=some (.slice A' n' c')/\sS v:=by
   rintro i v ⟨A,c,h1,h2,h3,h4⟩;refine⟨Ae.us.aK h3 (fun a ha e=>?_),by rw [aE (h3.heap Lq (by have:=bf UJ;omega))];rfl,(hT.same KY).aK h3 (fun e=>by have:=hT.lt;omega)⟩;have hk:bI A'=some a.block:=by rw [ha];rfl
   obtain⟨_,cur,hc⟩:=Row.bV row hk;have:=bf hc;omega
  refine oM (ρ:=ρ0) (ρ0:=ρ0) ng mix aY.k (t:=30) (ps:= #[31]) (by kernel_rfl) (by decide) rfl aL.at_ rfl (.inl rfl) (fun i v _ h=>h) rfl encI xs (fun _=>rfl) (by simp [iO]) (JF ⟨uR.heap.size,0,none⟩ (c:=c') (by omega) ho) J (fun _ _=>False) ?_ (fun _ _ _ _ _ h=>h.elim) sE ?_ ?_ ?_ (fun _ _ h=>h.elim) (fun _ _ _ h=>h.elim)
  ·rintro i v v' R rC ⟨A,c,h1,h2,h3,h4⟩ hk
   exact⟨A,c,hk.heap h1 (lO h1 rC.loop),Row.apart h2 hk (fun cs t fr h=>by rw [rC.loop]at h;cases h),h3.trans hk (fun k hk e=>by omega),h4⟩
  ·intro R
   exact⟨none,0,ly (ly UI _) _,cf.nil _ _,(((Kept.refl _ _).alloc _).alloc _),Nat.zero_le _⟩
  ·rintro i x v R hx hj rC
   have hJ:=hj;obtain⟨A,c,h1,h2,h3,h4⟩:=hj;have dX:i<xs.length:=(lgeS hx).1;have e7:mo ρ0 ((#[31]:Array Nat).toList.zip (encI x))= [(2,.pointer (some (aV w.heap.size))),(4,.slice none 0 0),(9,.pointer (some (aV w'.heap.size))),(30,.func (.func aL.id) #[] #[.pointer (some (aV uR.heap.size))]),(31,.int .i64 (x:Int))]:=rfl;rw [e7,aY.a1];unfold aY.A1;refine⟨rC,fun w2 R2 o5 uH=>?_⟩;have BX:=o5.heap h1 (lO h1 rC.loop);have Dd:cf w2 nf.heap.size A i c ((xs.take i).map (ph D)):=Row.apart h2 o5 (fun cs t fr h=>by rw [rC.loop]at h;cases h);have WS:Kept (· =w'.heap.size) nf w2:=h3.trans o5 (fun k hk e=>by omega);clear hJ h1 h2 h3;rw [aY.y1];unfold aY.Y1;intro OB;have XT:Kept Nil w2 OB:=(Kept.refl _ _).drew;clear_value OB;have WX:=XT.heap BX (fun h=>h);have Ep:Kept (· =w'.heap.size) nf OB:=WS.trans XT (fun _ _ h=>h.elim);obtain⟨nj,Nt⟩:=IQ x (List.mem_of_getElem? hx);have uf:=(lgeS Nt).1;have ZJ:Kept Nil w OB:=KY.trans Ep (fun k hk e=>by omega);obtain⟨m,hm,N⟩:=(G.same ZJ).get Nt;refine⟨A,i,c,by rw [aE WX];rfl,some ⟨g,0,none⟩,by rw [aE (Ep.heap Qy (by omega))];rfl,?_⟩;refine⟨_,_,_,(G.same ZJ).nodes,⟨by omega,by omega⟩,some ⟨m.b,0,none⟩,by rw [Int.toNat_natCast];exact(G.same ZJ).ptr hm,?_⟩;refine⟨nj.id.1,⟨nj.id.2.1,fun j v hj=>?_⟩,nj.id.2.1,?_⟩
   ·rw [add_zero,bE,Nat.zero_add,aE N.bV]
    exact HV _ _ hj
   intro Ru;have TB:Kept Nil OB Ru:=(Kept.refl _ _).alloc _;have jE:HS Ru (some ⟨OB.heap.size,0,none⟩) 1 [nj.id]:=jE OB nj.id;clear_value Ru;have WW:=TB.heap WX (fun h=>h);refine⟨by rw [aE WW];rfl,?_⟩;have L9:cf Ru nf.heap.size A i c ((xs.take i).map (ph D)):=Row.aK (Row.aK Dd XT (fun _ _ h=>h)) TB (fun _ _ h=>h);have T9:nf.heap.size<=Ru.heap.size:=Nat.le_trans Ep.size TB.size;have Li:xs.length<=D.length:=zB;obtain⟨A2,c2,qZ,hr,xJ,LN,QN⟩:=dd (cx:=1) aF L9 jE (by omega) T9;have Qu:Kept (fun k=>bI A=some k) Ru qZ:=Kept.grown (Kept.refl _ _) LN (fun k hk _=>hk);have WO:∀k,bI A=some k->nf.heap.size<=k:=fun k hk=>(Row.bV L9 hk).1;have WV:=Qu.heap WW (fun e=>by have:=WO _ e;omega);have abu:Live (nf.heap.size+1) nf.heap.size R2 qZ:=by
    have Qh:=(uH.aK XT (fun h=>h) (fun h=>h)).aK TB (fun h=>h) (fun h=>h);refine Qh.aK Qu ?_ ?_
    ·intro h
     obtain⟨_,cur,hc⟩:=Row.bV L9 h;exact lO hc Qh.loop rfl
    ·intro h
     obtain⟨_,cur,hc⟩:=Row.bV L9 h;exact yN hc Qh.mark rfl
   refine⟨A2,_,c2,qZ,hr,dQ WV (by simp),?_⟩;intro Zg;have ZW:Kept (· =w'.heap.size) qZ Zg:=Kept.setCell (S:=fun k=>k=w'.heap.size) (Kept.refl _ qZ) (p:=⟨w'.heap.size,0,none⟩) (fun _=>rfl) _;have acv:Zg.heap[w'.heap.size]? =some (.cells #[.slice A2 (i+1) c2] aF (0,0)):=du WV 0 _;clear_value Zg;refine⟨abu.aK ZW (by omega) (by omega),A2,c2,acv,?_,((Ep.trans TB (fun _ _ h=>h.elim)).trans Qu (fun k hk e=>absurd (WO k e) (by omega))).tt ZW,dX⟩;have e:(xs.take (i+1)).map (ph D)=(xs.take i).map (ph D)++ [nj.id]:=by
    rw [List.take_add_one,hx];simp [ph,Nt]
   rw [e];exact Row.aK xJ ZW (fun k hk e=>by have:=(Row.bV xJ hk).1;omega)
  ·rintro v R ⟨A,c,h1,h2,h3,h4⟩ rC
   have e7:iY ρ0 nf.heap.size= [(2,.pointer (some (aV w.heap.size))),(4,.slice none 0 0),(9,.pointer (some (aV w'.heap.size))),(30,.func (.func aL.id) #[] #[.pointer (some (aV uR.heap.size))]),(4294967296,.agg #[.pointer (some ⟨nf.heap.size,0,none⟩)])]:=rfl;rw [e7,aY.lI];rw [List.take_of_length_le (Nat.le_refl _)]at h2;have Li:xs.length<=D.length:=zB;refine⟨A,xs.length,c,by rw [aE h1];rfl,iT h2.hs (by omega) fun A2 c2 Zf HM TA=>⟨A2,_,c2,rfl,⟨TA.heap rC.mark (fun h=>h),trivial⟩,?_⟩⟩;have hmk:=TA.heap rC.mark (fun h=>h);have kp:Kept (· =nf.heap.size) Zf (Zf.putObj nf.heap.size (.deferred none)):=Kept.putAt _ _ _;have e:dC (xs.map (ph D))=eN D l:=Eg fun a=>by
    rw [List.mem_map];constructor
    ·rintro⟨j,hj,rfl⟩
     have hb:=((pX ws 0 j ho).1 hj).2;rw [Nat.mul_zero,Nat.sub_zero]at hb;obtain⟨h',um,nj,v7,EP⟩:=(qN j).1 hb;have:ph D j=nj.id:=by unfold ph;rw [v7]
     rw [this];exact⟨(EP.mem W).1,h',um,EP⟩
    ·rintro⟨ha,h',hh',Da⟩
     obtain⟨nj,hnm,rfl⟩:=eI.1 ha;obtain⟨j,hj⟩:=List.mem_iff_getElem?.1 hnm;refine⟨j,(pX ws 0 j ho).2 ⟨by omega,?_⟩,by unfold ph;rw [hj]⟩;rw [Nat.mul_zero,Nat.sub_zero];exact(qN j).2 ⟨h',hh',nj,hj,Da⟩
   rw [e]at HM⊢;have lT:Kept Nil w Zf:=(KY.trans h3 (fun k hk e=>by omega)).tt TA;have hws:w.heap.size<=v.heap.size:=Nat.le_trans KY.size h3.size;refine hK A2 c2 _ (Row.base (Row.apart HM kp (fun cs t fr h=>by rw [hmk]at h;cases h)) fun b hb=>Nat.le_trans hws (Row.bV HM hb).1) (lT.trans kp (fun k hk e=>by omega))
end
section
variable{w w':World}{S F:Nat->Prop}{g bl c mb gb:Nat}{D:DG}{C:HT->List HT}{M:List NM}{K:Value->World->Prop}
theorem Bz(G:GV w S F g D C bl c mb M)(hg:w.heap[gb]? =some (.cells #[.pointer (some ⟨g,0,none⟩)] iV (0,0))){A:Option Addr}{n cx:Nat}{l:List HT}(hl:HS w A n l)(hn:n<=400000)
 (hK:∀w' (x:Bool),(x=true↔∃p∈l,p∉ids D)->Kept Nil w w'->K (.bool x) w'):
 bG prog dV.id #[.slice A n cx,.func (.func eW.id) #[] #[.pointer (some ⟨gb,0,none⟩)]] w K:=by
 have hlen:=hl.len;refine cI.of (ay.of ?_);refine ay.cJ (I:=fun s w'=>∃i:Nat,s=(0,(i:Int))/\i<=n/\(∀p∈l.take i,p∈ids D)/\Kept Nil w w') (μ:=fun s _=>((n:Int)-s.2).toNat) (s:=(0,0)) ⟨0,rfl,Nat.zero_le _,by simp,Kept.refl _ _⟩ ?_;rintro s w' ⟨i,rfl,hi,cY,kw⟩;refine Split.dec (fun jZ=>?_) (fun gH=>?_)
 ·simp only at jZ
  have dX:i<n:=by omega
  obtain⟨x,hx⟩:∃x,l[i]? =some x:=⟨_,List.getElem?_eq_getElem (by omega)⟩;refine(hl.same kw).load (i:=(i:Int)) (by omega) hx ?_;refine eW.of ?_;unfold eW.W;intro w3;have k3:Kept Nil w' w3:=(Kept.refl _ _).alloc _;have p8:w3.heap[w'.heap.size]? =some (.cells x.1 al (0,0)):=aM w' _;clear_value w3;have MP:=kw.tt k3;refine⟨some ⟨g,0,none⟩,by rw [aE (MP.heap hg (fun h=>h))];rfl,x.1,⟨x.2.1,Cells.bV p8⟩,sK (G.same MP) x fun w7 k7=>⟨_,rfl,_,rfl,?_⟩⟩;have Cz:=MP.tt k7;by_cases hm:x∈ids D
  ·refine Split.no (by rw [decide_eq_true hm];rfl) ?_
   simp only;rw [dF (n:=(i:Int)) (by omega) (by omega)];refine⟨(0,(i:Int)+1),rfl,⟨i+1,rfl,dX,fun p hp=>?_,Cz⟩,by simp only;omega⟩;rcases(bP hx).1 hp with hp|rfl
   ·exact cY p hp
   ·exact hm
  ·refine Split.yes (by rw [decide_eq_false hm];rfl) ?_
   refine⟨(i:Int),rfl,?_⟩;exact hK w7 _ ⟨fun _=>⟨x,List.mem_of_getElem? hx,hm⟩,fun _=>decide_eq_true (by omega)⟩ Cz
 ·simp only at gH
  rw [aU,ay.dz];rw [List.take_of_length_le (by omega)]at cY;exact⟨-1,rfl,hK w' _ ⟨fun h=>absurd (of_decide_eq_true h) (by omega),fun⟨p,hp,hn⟩=>absurd (cY p hp) hn⟩ kw⟩
theorem kN{w:World}{a b:Nat}{ca cb:Array Value}{ta tb:TypeId}{fa fb:Nat×Nat}(ha:w.heap[a]? =some (.cells ca ta fa))(hb:w.heap[b]? =some (.cells cb tb fb))(fX:ta≠tb):a≠b:=by
 rintro rfl;rw [ha]at hb;simp only [Option.some.injEq,Obj.cells.injEq]at hb;exact fX hb.2.1
theorem GV.upd(G:GV w S F g D C bl c mb M)(W:kP D){q:Nat}{nd:DN}{m:NM}(hq:D[q]? =some nd)(hm:M[q]? =some m){A5:Option Addr}{n5 c5:Nat}{ch':List HT}
 (kT:Kept (fun k=>bI m.cA=some k\/k=m.b) w w') (hb:w'.heap[m.b]? =some (.cells (gJ nd.id {m with cA:=A5,cn:=n5,cc:=c5}) eF (0,0))) (fP:cf w' w.heap.size A5 n5 c5 ch'):
 GV w' (fun k=>S k\/bI A5=some k) F g D (fun x=>if x=nd.id then ch' else C x) bl c mb (M.set q {m with cA:=A5,cn:=n5,cc:=c5}):=by
 have N:=G.node q nd m hq hm;have IP:q<M.length:=(lgeS hm).1;have pq:∀k,bI m.cA=some k->∃cur,w.heap[k]? =some (.cells cur al (0,0)):=fun k hk=>(Row.bV N.ch hk).2;have hF:∀k,F k->¬(bI m.cA=some k\/k=m.b):=fun k hk e=>by
  rcases e with e|rfl
  ·exact G.Hf k (N.Rb k e) hk
  ·exact G.Hf _ N.gS hk
 have typ:∀ {k:Nat} {cs:Array Value} {t:TypeId},w.heap[k]? =some (.cells cs t (0,0))->t≠al->t≠eF->¬(bI m.cA=some k\/k=m.b):=fun h h1 h2 e=>by
  rcases e with e|rfl
  ·obtain⟨cur,hc⟩:=pq _ e
   exact kN h hc h1 rfl
  ·exact kN h N.bV h2 rfl
 have Gy:∀k,bI A5=some k->w.heap.size<=k:=fun k hk=>(Row.bV fP hk).1;have gZ:∀(i:Nat) m',(M.set q {m with cA:=A5,cn:=n5,cc:=c5})[i]? =some m'->(i=q/\m'= {m with cA:=A5,cn:=n5,cc:=c5})\/(i≠q/\M[i]? =some m'):=fun i m' h=>by
  by_cases e:i=q
  ·subst e
   rw [List.getElem?_set_self IP]at h;exact .inl ⟨rfl,(Option.some.inj h).symm⟩
  ·rw [List.getElem?_set_ne (Ne.symm e)]at h
   exact .inr ⟨e,h⟩
 refine⟨?_,?_,?_,by simpa using G.len,?_,?_,.inl G.iW,.inl G.uu,.inl G.wh,?_,?_⟩
 ·exact kT.heap G.top (typ G.top (by decide) (by decide))
 ·have Qe:(M.set q {m with cA:=A5,cn:=n5,cc:=c5}).map (fun m=>Value.pointer (some ⟨m.b,0,none⟩))=M.map fun m=>Value.pointer (some ⟨m.b,0,none⟩):=by
   apply List.ext_getElem?;intro i;rw [List.getElem?_map,List.getElem?_map];by_cases e:i=q
   ·subst e
    rw [List.getElem?_set_self IP,hm];rfl
   ·rw [List.getElem?_set_ne (Ne.symm e)]
  rw [Qe];refine Row.aK G.row kT (fun k e=>?_);cases e;obtain⟨_,cur,hc⟩:=Row.bV G.row (k:=bl) rfl;exact typ hc (by decide) (by decide)
 ·refine G.map.aK kT (fun e=>?_)
  obtain⟨es,clock,LC,_⟩:=G.map.ex;rcases e with e|e
  ·obtain⟨cur,hc⟩:=pq _ e
   rw [hc]at LC;cases LC
  ·rw [e,N.bV]at LC;cases LC
 ·intro i nd' m' hi ns
  rcases gZ i m' ns with⟨rfl,rfl⟩|⟨fX,U3⟩
  ·rw [hq]at hi
   cases hi;rw [if_pos rfl];exact⟨hb,.inl N.gS,N.ps.aK kT (fun a ha=>hF _ (N.KJ a ha)),N.KJ,Row.base fP (fun _ _=>Nat.zero_le _),fun k hk=>.inr hk,N.past.aK kT (fun a ha=>hF _ (N.pT a ha)),N.pT,N.ok,N.bits,N.small⟩
  ·have N':=G.node i nd' m' hi U3
   have hid:nd'.id≠nd.id:=fun e=>fX (W.inj hi hq e);rw [if_neg hid];have ach:m'.b≠m.b:=fun e=>by
    have h1:=N'.bV;rw [e,N.bV]at h1;simp only [Option.some.injEq,Obj.cells.injEq]at h1;exact hid (FU h1.1).symm
   refine⟨kT.heap N'.bV (fun e=>?_),.inl N'.gS,N'.ps.aK kT (fun a ha=>hF _ (N'.KJ a ha)),N'.KJ,Row.aK N'.ch kT (fun k hk e=>?_),fun k hk=>.inl (N'.Rb k hk),N'.past.aK kT (fun a ha=>hF _ (N'.pT a ha)),N'.pT,N'.ok,N'.bits,N'.small⟩
   ·rcases e with e|e
    ·obtain⟨cur,hc⟩:=pq _ e
     exact kN N'.bV hc (by decide) rfl
    ·exact ach e
   ·rcases e with e|rfl
    ·exact G.apart i q m' m U3 hm fX k hk e
    ·obtain⟨cur,hc⟩:=(Row.bV N'.ch hk).2
     exact kN hc N.bV (by decide) rfl
 ·intro i j m1 m2 h1 h2 sG k Ki o5
  rcases gZ i m1 h1 with⟨rfl,rfl⟩|⟨hi,um⟩
  ·rcases gZ j m2 h2 with⟨rfl,rfl⟩|⟨hj,v7⟩
   ·exact sG rfl
   ·have:=Gy k Ki
    have uV:j<D.length:=by rw [<-G.len];exact(lgeS v7).1
    obtain⟨cur,hc⟩:=(Row.bV (G.node j _ m2 (List.getElem?_eq_getElem uV) v7).ch o5).2;have:=bf hc;omega
  ·rcases gZ j m2 h2 with⟨rfl,rfl⟩|⟨hj,v7⟩
   ·have:=Gy k o5
    have dX:i<D.length:=by rw [<-G.len];exact(lgeS um).1
    obtain⟨cur,hc⟩:=(Row.bV (G.node i _ m1 (List.getElem?_eq_getElem dX) um).ch Ki).2;have:=bf hc;omega
   ·exact G.apart i j m1 m2 um v7 sG k Ki o5
 ·intro k hk hf
  rcases hk with hk|hk
  ·exact G.Hf k hk hf
  ·have:=Gy k hk
   have:=G.low k (.inr hf);omega
 ·intro k hk
  rcases hk with(hk|hk)|hk
  ·exact Nat.lt_of_lt_of_le (G.low k (.inl hk)) kT.size
  ·obtain⟨cur,hc⟩:=(Row.bV fP hk).2
   exact bf hc
  ·exact Nat.lt_of_lt_of_le (G.low k (.inr hk)) kT.size
end
theorem Av(h:HT)(m:NM)(A:Option Addr)(n c:Nat):(gJ h m).setIfInBounds 33 (.slice A n c)=gJ h {m with cA:=A,cn:=n,cc:=c}:=by
 have hs:=h.2.1;apply Array.ext_getElem?;intro i;unfold gJ;rw [Array.getElem?_setIfInBounds,Array.getElem?_append,Array.getElem?_append];by_cases h1:i<h.1.size
 ·rw [if_neg (by omega),if_pos h1,if_pos h1]
 ·rw [if_neg h1,if_neg h1]
  by_cases h2:i=33
  ·subst h2
   rw [if_pos rfl,if_pos (by simp;omega),hs];rfl
  ·rw [if_neg (Ne.symm h2),hs]
   match i-32,show i-32≠1 by omega with
   |0,_=>rfl
   |2,_=>rfl
   |(k+3),_=>rfl
theorem Au(h:HT)(m:NM)(A:Option Addr)(n c:Nat):(gJ h m).setIfInBounds 34 (.slice A n c)=gJ h {m with rA:=A,rn:=n,rc:=c}:=by
 have hs:=h.2.1;apply Array.ext_getElem?;intro i;unfold gJ;rw [Array.getElem?_setIfInBounds,Array.getElem?_append,Array.getElem?_append];by_cases h1:i<h.1.size
 ·rw [if_neg (by omega),if_pos h1,if_pos h1]
 ·rw [if_neg h1,if_neg h1]
  by_cases h2:i=34
  ·subst h2
   rw [if_pos rfl,if_pos (by simp;omega),hs];rfl
  ·rw [if_neg (Ne.symm h2),hs]
   match i-32,show i-32≠2 by omega with
   |0,_=>rfl
   |1,_=>rfl
   |(k+3),_=>rfl
section
variable{w w0 w':World}{S F F1 S':Nat->Prop}{g bl c mb gb ib nb:Nat}{D:DG}{C:HT->List HT}{M:List NM}{K:Value->World->Prop}
noncomputable def jy(D:DG)(h:HT)(l:List HT):HT->List HT:=fun x=>if x∈l then dC (iD D x++ [h])else iD D x
structure AL(w0 w':World)(S F1 S':Nat->Prop)(g:Nat)(D:DG)(h:HT)(l:List HT)(gb ib nb:Nat)(pA:Option Addr)(pc i bl c mb:Nat)(M:List NM)(rA:Option Addr)(rn rc:Nat)(ws:List Nat):Prop where
 G:GV w' S' F1 g D (jy D h (l.take i)) bl c mb M
 sub:∀k,S k->S' k
 new:∀k,S' k->S k\/w0.heap.size<=k
 node:w'.heap[nb]? =some (.cells (gJ h ⟨nb,pA,l.length,pc,none,0,0,rA,rn,rc,ws⟩) eF (0,0))
 Zz:¬S' nb
 row:lF w' nb rA rn rc ws
 ok:okW ws
 small:rn<=200
 Zy:∀k,bI rA=some k->¬S' k
 bits:∀j,bit ws j=true↔∃p∈l.take i,∃nj,D[j]? =some nj/\(nj.id=p\/fI D nj.id p)
 YK:w'.heap[gb]? =some (.cells #[.pointer (some ⟨g,0,none⟩)] iV (0,0))
 ibx:w'.heap[ib]? =some (.cells h.1 al (0,0))
 noG:¬S' gb
 noI:¬S' ib
 hl:HS w' pA l.length l
 kp:Kept S w0 w'
theorem GY{h:HT}{l:List HT}{pA:Option Addr}{pc i:Nat}{rA:Option Addr}{rn rc:Nat}{ws:List Nat}{Q:aT}
 (L:AL w0 w' S F1 S' g D h l gb ib nb pA pc i bl c mb M rA rn rc ws) (W:kP D) (hD:D.length<=10000) (uU:SS l) (gD:∀p∈l,p∈ids D) (Hd:∀k,F1 k->k<nb) (Kg:∀a,pA=some a->F1 a.block) (h0:w0.heap.size<=nb) (dX:i<l.length) (hll:l.length<=10000)
 (hQ:∀S2 M rA rn rc ws v,AL w0 v S F1 S2 g D h l gb ib nb pA pc (i+1) bl c mb M rA rn rc ws->Q .normal (bN.e1 ⟨gb,0,none⟩ ⟨ib,0,none⟩ 0 ⟨nb,0,none⟩ pA l.length pc (l.length:Int) ((i:Int)+1)) v):
 bN.B1 ⟨gb,0,none⟩ ⟨ib,0,none⟩ 0 ⟨nb,0,none⟩ pA l.length pc (l.length:Int) (i:Int) Q w':=by
 obtain⟨p,hp⟩:∃p,l[i]? =some p:=⟨_,List.getElem?_eq_getElem dX⟩;have rQ:=List.mem_of_getElem? hp;have aa2:=gD p rQ;refine Split.yes (decide_eq_true (by omega)) ?_;refine L.hl.load (i:=(i:Int)) (by omega) hp ?_;intro qt;obtain⟨tA,kh,kH⟩:=iP (w:=w') (z:=(CK 0)) (cs:=p.1) (t:=al) (by rw [p.2.1];rfl);refine⟨⟨p.2.1,p.2.one,fun j hj=>tA j (by rw [p.2.1];exact hj)⟩,?_⟩;intro rM
 replace kh:rM.heap[w'.heap.size]? =some (.cells p.1 al (0,0)):=kh
 replace rN:Kept Nil w' rM:=kH
 clear_value rM;refine⟨some ⟨g,0,none⟩,by rw [aE (rN.heap L.YK (fun h=>h))];rfl,p.1,⟨p.2.1,Cells.bV kh⟩,?_⟩;refine wq (L.G.same rN) p fun w40 x k40 hx=>⟨x,rfl,?_⟩;rcases hx with⟨rfl,mH⟩|⟨q,nd,m',hq,gQ,ns,rfl⟩
 ·exact absurd aa2 mH
 intro Hq;have K9:Kept Nil w' Hq:=(rN.tt k40).drew;have I5:Hq.heap[w'.heap.size]? =some (.cells p.1 al (0,0)):=k40.heap kh (fun h=>h);clear_value Hq;have aiK:=K9.size;have Y2:=L.G.same K9;obtain⟨m,hm,Sg⟩:=Y2.get hq;rw [ns]at hm;cases hm;have Qa:=K9.heap L.node (fun h=>h);have Ad:lF Hq nb rA rn rc ws:=Row.aK L.row K9 (fun _ _ h=>h);refine⟨rA,rn,rc,by rw [bE,Nat.zero_add,aE Qa];exact Ax _ _,?_⟩;refine⟨_,_,_,xO Sg,some ⟨g,0,none⟩,by rw [aE (K9.heap L.YK (fun h=>h))];rfl,?_⟩;refine⟨some mb,Y2.at_,p.1,⟨p.2.1,Cells.bV I5⟩,_,Y2.map.xX p,?_⟩;rw [show pos p (ids D) 0=some q by rw [<-gQ];exact W.pos_eq hq,Option.getD_some];have IP:=(lgeS hq).1;have vS:=Sg.small;have aiy:=L.small;have hrA:∀k,bI rA=some k->nb<=k/\k<w'.heap.size:=fun k hk=>by
  obtain⟨h1,cur,hc⟩:=Row.bV L.row hk;exact⟨h1,bf hc⟩
 have abf:nb<w'.heap.size:=bf L.node;have MB:∀ {v:World} {A:Option Addr} {n c:Nat} {l:List Nat} {B:Nat},lF v B A n c l->∀ {k:Nat} {cs:Array Value} {t:TypeId},v.heap[k]? =some (.cells cs t (0,0))->t≠gF->¬bI A=some k:=fun hr _ _ _ hk fX e=>by
  obtain⟨_,cur,hc⟩:=Row.bV hr e;exact kN hk hc fX rfl
 refine xI Ad L.ok (by omega) (by omega) Sg.past Sg.ok (by omega) (fun a ha k hk e=>?_) fun A2 n2 c2 l2 My tT aba ajk QK Ia acw=>⟨A2,n2,c2,rfl,?_⟩
 ·have h1:=Hd a.block (Sg.pT a ha)
  have h2:=(hrA k hk).1;omega
 have hnF:∀k,F1 k->¬bI rA=some k:=fun k hk e=>by have:=Hd k hk;have:=(hrA k e).1;omega
 have G52:=Y2.aK Ia (fun k hk e=>L.Zy k e hk) hnF;have VY:=Ia.heap I5 (MB Ad I5 (by decide));have Vx:=K9.heap L.YK (fun h=>h);have Qx:=Ia.heap Vx (MB Ad Vx (by decide));have Vm:=K9.heap L.ibx (fun h=>h);have Vl:=Ia.heap Vm (MB Ad Vm (by decide));have Nx:=Ia.heap Qa (MB Ad Qa (by decide));have aiJ:=Ia.size;have Va:=G52.map.xX p;rw [show pos p (ids D) 0=some q by rw [<-gQ];exact W.pos_eq hq,Option.getD_some]at Va;refine⟨Va,⟨p.1,rfl,p.2.1,Cells.bV VY⟩,G52.at_,by rw [aE Qx];rfl,?_⟩;have WQ:∀k,bI A2=some k->bI rA=some k\/Hq.heap.size<=k:=acw;refine z8 tT aba (by omega) (by omega) (by omega) fun A3 n3 c3 l3 qZ xJ aa9 ajj QJ Gc QN=>⟨A3,n3,c3,rfl,?_⟩;have CY:∀k,bI A2=some k->¬S' k:=fun k hk hs=>by
  rcases WQ k hk with h|h
  ·exact L.Zy k h hs
  ·have:=L.G.low k (.inl hs);omega
 have IT:∀k,F1 k->¬bI A2=some k:=fun k hf hk=>by
  have:=Hd k hf;have:=(Row.bV tT hk).1;omega
 have G55:=G52.aK Gc (fun k hk e=>CY k e hk) IT;have LN:=Gc.heap Qx (MB tT Qx (by decide));have Vk:=Gc.heap Vl (MB tT Vl (by decide));have Bb:=Gc.heap Nx (MB tT Nx (by decide));have aiI:=Gc.size;have afa:=vF h ⟨nb,pA,l.length,pc,none,0,0,rA,rn,rc,ws⟩;refine⟨by rw [bE,Nat.zero_add];exact dQ Bb (by omega),?_⟩;intro w57 Ho;have Gb:Kept (· =nb) qZ w57:=by
  show Kept (· =nb) qZ (qZ.setCell ((⟨nb,0,none⟩:Addr).add 34) (.slice A3 n3 c3))
  exact Kept.setCell (S:=fun k=>k=nb) (Kept.refl _ qZ) (by rw [fw];exact fun _=>rfl) _
 have UT:w57.heap[nb]? =some (.cells (gJ h ⟨nb,pA,l.length,pc,none,0,0,A3,n3,c3,l3⟩) eF (0,0)):=by
  show(qZ.setCell ((⟨nb,0,none⟩:Addr).add 34) (.slice A3 n3 c3)).heap[nb]? =_;rw [bE,Nat.zero_add,du Bb 34,Au];rfl
 have En:Kept (· =nb) qZ Ho:=Gb.drew;have UR:Ho.heap[nb]? =some (.cells (gJ h ⟨nb,pA,l.length,pc,none,0,0,A3,n3,c3,l3⟩) eF (0,0)):=UT;clear_value Ho;clear UT Gb;have aiH:=En.size;have G58:=G55.aK En (fun k hk e=>L.Zz (e▸hk)) (fun k hk e=>by have:=Hd k hk;omega);have Vw:=En.heap LN (kN LN Bb (by decide));have Qt:=En.heap Vk (kN Vk Bb (by decide));have SH:lF Ho nb A3 n3 c3 l3:=Row.aK xJ En (fun k hk e=>by
  subst e;exact MB xJ Bb (by decide) hk)
 obtain⟨m,hm,N58⟩:=G58.get hq;rw [ns]at hm;cases hm;refine⟨m'.cA,m'.cn,m'.cc,Ej N58,h.1,⟨h.2.1,Cells.bV Qt⟩,h.2.1,?_⟩;intro XA;have ZV:Kept Nil Ho XA:=(Kept.refl _ _).alloc _;have QI:HS XA (some ⟨Ho.heap.size,0,none⟩) 1 [h]:=jE Ho h;clear_value XA;have G62:=G58.same ZV;obtain⟨m,hm,Sf⟩:=G62.get hq;rw [ns]at hm;cases hm;refine⟨Ej Sf,?_⟩;have VQ:=Sf.ch.len;have EH:jy D h (l.take i) nd.id=iD D p:=by
  unfold jy;rw [gQ,if_neg];intro jc;obtain⟨j,hj⟩:=List.mem_iff_getElem?.1 jc;rw [List.getElem?_take]at hj;split at hj
  ·have:=uU.get (by omega) hj hp
   rw [js]at this;cases this
  ·cases hj
 have rR:=oh D fun a=>oW D p a;have Yu:m'.cn<=10000:=by
  rw [<-VQ,EH];unfold iD;omega
 obtain⟨A7,c7,G5,aaK,SF,abL,acu⟩:=dd (cx:=1) aF Sf.ch QI (by omega) (Nat.zero_le _);have Ga:Kept (fun k=>bI m'.cA=some k) XA G5:=Kept.grown (Kept.refl _ _) abL (fun k hk _=>hk);refine⟨A7,_,c7,G5,aaK,?_⟩;have aiG:=ZV.size;have Ud:=Ga.size;refine iT SF.hs (by omega) fun A5 c5 Oz HL ZU=>⟨A5,_,c5,rfl,?_⟩;have aiF:=ZU.size;have U0:=Ga.heap Sf.bV (fun e=>by
  obtain⟨_,cur,hc⟩:=Row.bV Sf.ch e;exact kN Sf.bV hc (by decide) rfl)
 have IV:=ZU.heap U0 (fun h=>h);refine⟨by rw [bE,Nat.zero_add];exact dQ IV (by rw [vF];omega),?_⟩;intro DT;have Tx:Kept (· =m'.b) Oz DT:=by
  show Kept (· =m'.b) Oz (Oz.setCell ((⟨m'.b,0,none⟩:Addr).add 33) (.slice A5 (dC (jy D h (l.take i) nd.id++ [h])).length c5))
  exact Kept.setCell (S:=fun k=>k=m'.b) (Kept.refl _ Oz) (by rw [fw];exact fun _=>rfl) _
 have UZ:DT.heap[m'.b]? =some (.cells (gJ nd.id {m' with cA:=A5,cn:=(dC (jy D h (l.take i) nd.id++ [h])).length,cc:=c5}) eF (0,0)):=by
  show(Oz.setCell ((⟨m'.b,0,none⟩:Addr).add 33) (.slice A5 (dC (jy D h (l.take i) nd.id++ [h])).length c5)).heap[m'.b]? =_;rw [bE,Nat.zero_add,du IV 33,Av]
 clear_value DT;have kT:Kept (fun k=>bI m'.cA=some k\/k=m'.b) Ho DT:=
  (((ZV.mono (S':=fun k=>bI m'.cA=some k\/k=m'.b) (fun _ _ h=>h.elim)).trans Ga (fun _ _ h=>.inl h)).trans ZU (fun _ _ h=>h.elim)).trans Tx (fun _ _ h=>.inr h)
 have II:cf DT Ho.heap.size A5 (dC (jy D h (l.take i) nd.id++ [h])).length c5 (dC (jy D h (l.take i) nd.id++ [h])):=
  Row.base (Row.aK HL Tx (fun k hk e=>by
   subst e;obtain⟨_,cur,hc⟩:=Row.bV HL hk;exact kN IV hc (by decide) rfl)) (fun k hk=>by have:=(Row.bV HL hk).1;omega)
 have G69:=G58.upd W hq ns kT UZ II;have Gy:∀k,bI A5=some k->Ho.heap.size<=k:=fun k hk=>(Row.bV II hk).1;have R4:∀k,(bI m'.cA=some k\/k=m'.b)->S' k:=fun k e=>by
  rcases e with e|rfl
  ·exact N58.Rb k e
  ·exact N58.gS
 have hkf:(fun x=>if x=nd.id then dC (jy D h (l.take i) nd.id++ [h])else jy D h (l.take i) x)=jy D h (l.take (i+1)):=by
  funext x
  by_cases hx:x=nd.id
  ·rw [if_pos hx,EH,hx,gQ]
   unfold jy;rw [if_pos ((bP hp).2 (.inr rfl))]
  ·rw [if_neg hx]
   unfold jy;have:x∈l.take (i+1)↔x∈l.take i:=by
    rw [bP hp];exact⟨fun e=>e.resolve_right (fun e=>hx (by rw [gQ];exact e)),.inl⟩
   by_cases hm:x∈l.take i
   ·rw [if_pos hm,if_pos (this.2 hm)]
   ·rw [if_neg hm,if_neg (fun e=>hm (this.1 e))]
 rw [hkf]at G69;rw [dF (n:=(i:Int)) (by omega) (by omega)];have afj:nb<Ho.heap.size:=bf UR;have lT:Kept S w0 DT:=by
  have k1:=L.kp.trans K9 (fun _ _ h=>h.elim);have k2:=k1.trans Ia (fun k hk e=>absurd (hrA k e).1 (by omega));have k3:=k2.trans Gc (fun k hk e=>absurd (Row.bV tT e).1 (by omega));have k4:=k3.trans En (fun k hk e=>by omega);exact k4.trans kT (fun k hk e=>by
   rcases L.new k (R4 k e)with h|h
   ·exact h
   ·omega)
 refine hQ _ _ A3 n3 c3 l3 DT ⟨G69,fun k hk=>.inl (L.sub k hk),fun k hk=>?_,kT.heap UR (fun e=>L.Zz (R4 _ e)),fun e=>?_,Row.aK SH kT (fun k hk e=>?_),aa9,by omega,fun k hk e=>?_,fun j=>?_,
  kT.heap Vw (fun e=>L.noG (R4 _ e)),kT.heap Qt (fun e=>L.noI (R4 _ e)),fun e=>?_,fun e=>?_,?_,lT⟩
 ·rcases hk with hk|hk
  ·exact L.new k hk
  ·have:=Gy k hk
   have:=L.kp.size;exact .inr (by omega)
 ·rcases e with e|e
  ·exact L.Zz e
  ·have:=Gy _ e;omega
 ·have hs:=R4 k e
  rcases QN k hk with h|h
  ·exact CY k h hs
  ·have:=L.G.low k (.inl hs);omega
 ·have hk3:k<qZ.heap.size:=by
   obtain⟨_,cur,hc⟩:=Row.bV xJ hk;exact bf hc
  rcases e with e|e
  ·rcases QN k hk with h|h
   ·exact CY k h e
   ·have:=L.G.low k (.inl e);omega
  ·have:=Gy _ e;omega
 ·rw [QJ,Bool.or_eq_true,QK,Bool.or_eq_true,L.bits,Sg.bits,decide_eq_true_iff]
  constructor
  ·rintro((⟨p',h1,h2⟩|⟨nj,h1,h2⟩)|rfl)
   ·exact⟨p',(bP hp).2 (.inl h1),h2⟩
   ·exact⟨p,(bP hp).2 (.inr rfl),nj,h1,.inr (gQ▸h2)⟩
   ·exact⟨p,(bP hp).2 (.inr rfl),nd,hq,.inl gQ⟩
  ·rintro⟨p',h1,nj,h2,h3⟩
   rcases(bP hp).1 h1 with h1|rfl
   ·exact .inl (.inl ⟨p',h1,nj,h2,h3⟩)
   ·rcases h3 with h3|h3
    ·exact .inr (W.inj h2 hq (h3.trans gQ.symm))
    ·exact .inl (.inr ⟨nj,h2,gQ▸h3⟩)
 ·rcases e with e|e
  ·exact L.noG e
  ·have:=Gy _ e;have:=bf Vw;omega
 ·rcases e with e|e
  ·exact L.noI e
  ·have:=Gy _ e;have:=bf Qt;omega
 ·have hb:∀a,pA=some a->F1 a.block/\a.block<nb:=fun a ha=>⟨Kg a ha,Hd _ (Kg a ha)⟩
  have k1:=L.hl.same K9;have k2:=k1.aK Ia (fun a ha=>hnF _ (hb a ha).1);have k3:=k2.aK Gc (fun a ha=>IT _ (hb a ha).1);have k4:=k3.aK En (fun a ha e=>by have:=(hb a ha).2;omega);exact k4.aK kT (fun a ha e=>L.G.Hf _ (R4 _ e) (hb a ha).1)
end
theorem Sz:zF prog mr fM 1 8:=⟨by kernel_rfl,by kernel_rfl⟩
theorem Jz:Sd prog eF=some ([(0,32),(32,1),(33,1),(34,1)],List.replicate 32 (.int .u8 0)++ [.slice none 0 0,.slice none 0 0,.slice none 0 0]):=by kernel_rfl
theorem Jx(h:HT)(b:Nat)(A:Option Addr)(n c:Nat):prog.built eF [(0,.agg h.1),(1,.slice A n c)]=some (gJ h ⟨b,A,n,c,none,0,0,none,0,0,[]⟩):=by
 have hs:=h.2.1;rw [ox Jz,jx (off:=0) (size:=32) rfl (by simpa [Value.cells]using hs) (by simp),jx (off:=32) (size:=1) rfl rfl (by
  rw [List.size_toArray,mK (by simp [Value.cells,hs])];simp)]
 simp only [Instr.fill,Option.some.injEq];apply Array.ext';unfold iI gJ;simp [Value.cells,hs];rw [List.drop_append];simp [hs]
theorem GM(h:HT)(b:Nat):prog.built eF [(0,.agg h.1)]=some (gJ h ⟨b,none,0,0,none,0,0,none,0,0,[]⟩):=by
 have hs:=h.2.1;rw [ox Jz,jx (off:=0) (size:=32) rfl (by simpa [Value.cells]using hs) (by simp)];simp only [Instr.fill,Option.some.injEq];apply Array.ext';unfold iI gJ;simp [Value.cells,hs]
section
variable{D:DG}{h:HT}{l:List HT}
theorem Dx(W:kP D)(hn:h∉ids D){x:HT}:jy D h l x=iD (D++ [⟨h,l⟩]) x:=by
 have jc:∀a,a∈iD (D++ [⟨h,l⟩]) x↔(a∈iD D x\/(a=h/\x∈l)):=fun a=>by
  unfold iD;rw [km,km,om,lU,List.mem_append,List.mem_singleton];constructor
  ·rintro⟨h1,h2|⟨h2,h3⟩⟩
   ·exact .inl ⟨(fI.mem W (.one h2)).2,h2⟩
   ·exact .inr ⟨h2.symm,h3⟩
  ·rintro(⟨h1,h2⟩|⟨rfl,h2⟩)
   ·exact⟨.inl h1,.inl h2⟩
   ·exact⟨.inr rfl,.inr ⟨rfl,h2⟩⟩
 unfold jy;by_cases uf:x∈l
 ·rw [if_pos uf]
  refine(yC (l:=iD (D++ [⟨h,l⟩]) x) (jz _) fun a=>?_).symm;rw [jc,List.mem_append,List.mem_singleton];exact⟨fun e=>e.imp (fun e=>e) (fun e=>e.1),fun e=>e.imp (fun e=>e) (fun e=>⟨e,uf⟩)⟩
 ·rw [if_neg uf]
  refine zr (jz _) (jz _) fun a=>?_;have:=jc a;unfold iD pick at this⊢;rw [this];exact⟨.inl,fun e=>e.resolve_right (fun e=>uf e.2)⟩
theorem GL(W:kP D)(hn:h∉ids D)(gD:∀p∈l,p∈ids D):iD (D++ [⟨h,l⟩]) h= []:=by
 cases hc:iD (D++ [⟨h,l⟩]) h with
 |nil=>rfl
 |cons b t=>
  exfalso;have:b∈iD (D++ [⟨h,l⟩]) h:=by rw [hc];simp
  rcases om.1 (km.1 this).2 with h1|⟨_,h2⟩
  ·exact hn (fI.mem W (.one h1)).1
  ·exact hn (gD h h2)
theorem JA(W:kP D)(hn:h∉ids D){x:HT}(hx:x∈ids D)(j:Nat):(∃nj,(D++ [⟨h,l⟩])[j]? =some nj/\fI (D++ [⟨h,l⟩]) nj.id x)↔∃nj,D[j]? =some nj/\fI D nj.id x:=by
 constructor
 ·rintro⟨nj,h1,h2⟩
  have v7:=(jN W (nd:=⟨h,l⟩) hn hx).1 h2;rw [List.getElem?_append]at h1;split at h1
  ·exact⟨nj,h1,v7⟩
  ·exfalso
   have:nj=⟨h,l⟩:=by
    cases hk:j-D.length with
    |zero=>rw [hk]at h1;simpa using h1.symm
    |succ k=>rw [hk]at h1;simp at h1
   subst this;exact hn (v7.mem W).1
 ·rintro⟨nj,h1,h2⟩
  exact⟨nj,by rw [List.getElem?_append_left (lgeS h1).1];exact h1,(jN W (nd:=⟨h,l⟩) hn hx).2 h2⟩
theorem JB(W:kP D)(hn:h∉ids D)(gD:∀p∈l,p∈ids D)(hs:SS l)(j:Nat):
 (∃nj,(D++ [⟨h,l⟩])[j]? =some nj/\fI (D++ [⟨h,l⟩]) nj.id h)↔∃p∈l,∃nj,D[j]? =some nj/\(nj.id=p\/fI D nj.id p):=by
 have W':kP (D++ [⟨h,l⟩]):=W.snoc (nd:=⟨h,l⟩) hn gD hs;have gZ:(D++ [⟨h,l⟩])[D.length]? =some ⟨h,l⟩:=by rw [List.getElem?_append_right (Nat.le_refl _),Nat.sub_self];rfl
 have key:∀a,fI (D++ [⟨h,l⟩]) a h↔∃p∈l,a=p\/fI D a p:=fun a=>by
  rw [EY W' gZ a];constructor
  ·rintro⟨p,hp,e⟩
   exact⟨p,hp,e.imp (fun e=>e) (fun e=>(jN W (nd:=⟨h,l⟩) hn (gD p hp)).1 e)⟩
  ·rintro⟨p,hp,e⟩
   exact⟨p,hp,e.imp (fun e=>e) (fun e=>(jN W (nd:=⟨h,l⟩) hn (gD p hp)).2 e)⟩
 constructor
 ·rintro⟨nj,h1,h2⟩
  obtain⟨p,hp,e⟩:=(key _).1 h2;have hid:nj.id∈ids D:=by
   rcases e with e|e
   ·rw [e];exact gD p hp
   ·exact(e.mem W).1
  rw [List.getElem?_append]at h1;split at h1
  ·exact⟨p,hp,nj,h1,e⟩
  ·exfalso
   have:nj=⟨h,l⟩:=by
    cases hk:j-D.length with
    |zero=>rw [hk]at h1;simpa using h1.symm
    |succ k=>rw [hk]at h1;simp at h1
   subst this;exact hn hid
 ·rintro⟨p,hp,nj,h1,e⟩
  exact⟨nj,by rw [List.getElem?_append_left (lgeS h1).1];exact h1,(key _).2 ⟨p,hp,e⟩⟩
end
section
variable{w w':World}{S F F':Nat->Prop}{g bl c mb:Nat}{D:DG}{C:HT->List HT}{M:List NM}{K:Value->World->Prop}
theorem GV.S7(G:GV w S F g D C bl c mb M)(hf:∀k,F k->F' k)(hd:∀k,S k->¬F' k)(hl:∀k,F' k->k<w.heap.size):GV w S F' g D C bl c mb M:=
 ⟨G.top,G.row,G.map,G.len,fun i nd m h1 h2=>by
   have N:=G.node i nd m h1 h2;exact⟨N.bV,N.gS,N.ps,fun a ha=>hf _ (N.KJ a ha),N.ch,N.Rb,N.past,fun a ha=>hf _ (N.pT a ha),N.ok,N.bits,N.small⟩,G.apart,G.iW,G.uu,G.wh,hd,fun k hk=>hk.elim (fun h=>G.low k (.inl h)) (hl k)⟩
theorem Mv{w0:World}{F1 S':Nat->Prop}{h:HT}{l:List HT}{gb ib nb:Nat}{pA:Option Addr}{pc i:Nat}{rA:Option Addr}{rn rc:Nat}{ws:List Nat}
 (L:AL w0 w S F1 S' g D h l gb ib nb pA pc i bl c mb M rA rn rc ws) (W:kP D) (hD:D.length<=5000) (uU:SS l) (gD:∀p∈l,p∈ids D) (hn:h∉ids D) (Hd:∀k,F1 k->k<nb) (Kg:∀a,pA=some a->F1 a.block) (h0:w0.heap.size<=nb) (dX:l.length<=i)
 (hK:∀v S2 F2,E8 v S2 F2 g (D++ [⟨h,l⟩])->Kept S w0 v->(∀k,S2 k->S k\/w0.heap.size<=k)->(∀k,F2 k->F1 k\/w0.heap.size<=k)->K (.int .i64 0) v):
 bN.G1 ⟨gb,0,none⟩ ⟨ib,0,none⟩ 0 ⟨nb,0,none⟩ pA l.length pc (l.length:Int) (i:Int) K w:=by
 have Kf:l.take i=l:=List.take_of_length_le dX;have hG:=L.G;rw [Kf]at hG;have NT:=L.bits;rw [Kf]at NT;unfold bN.G1;intro Rt;have MS:Kept Nil w Rt:=(Kept.refl _ _).drew;clear_value Rt;have u7:=hG.same MS;have LM:=MS.heap L.YK (fun h=>h);have IU:=MS.heap L.node (fun h=>h);have D7:lF Rt nb rA rn rc ws:=Row.aK L.row MS (fun _ _ h=>h);refine⟨some ⟨g,0,none⟩,by rw [aE LM];rfl,some mb,u7.at_,h.1,⟨h.2.1,Cells.bV (MS.heap L.ibx (fun h=>h))⟩,some ⟨g,0,none⟩,by rw [aE LM];rfl,?_⟩;refine⟨_,_,_,u7.nodes,?_⟩;obtain⟨w85,Ul,Tc,k85⟩:=u7.map.put hn;rw [iM]at Ul;refine⟨w85,Ul,?_⟩;intro Ky;have Pc:Kept (· =mb) Rt Ky:=k85.drew;have MM:IsMap Ky mb (ids D++ [h]):=Tc.aK ((Kept.refl Nil w85).drew) (fun h=>h);clear_value Ky;have KB:∀ {v:World} {k:Nat} {cs:Array Value} {t:TypeId},IsMap v mb (ids D)->v.heap[k]? =some (.cells cs t (0,0))->k≠mb:=fun hm hk e=>by
  obtain⟨es,clock,LC,_⟩:=hm.ex;rw [e,LC]at hk;cases hk
 have Qw:=Pc.heap LM (KB u7.map LM);have aji:=Pc.heap IU (KB u7.map IU);have Iy:=Pc.heap u7.top (KB u7.map u7.top);have SE:Row Ky 0 fM 1 (some ⟨bl,0,none⟩) D.length c (M.map fun m=>.pointer (some ⟨m.b,0,none⟩)):=Row.aK u7.row Pc (fun k hk e=>by
  obtain⟨_,cur,hc⟩:=Row.bV u7.row hk;exact KB u7.map hc e)
 have Zs:lF Ky nb rA rn rc ws:=Row.aK D7 Pc (fun k hk e=>by
  obtain⟨_,cur,hc⟩:=Row.bV D7 hk;exact KB u7.map hc e)
 refine⟨some ⟨g,0,none⟩,by rw [aE Qw];rfl,some ⟨g,0,none⟩,by rw [aE Qw];rfl,?_⟩;refine⟨some ⟨bl,0,none⟩,D.length,c,by rw [add_zero,aE Iy];rfl,?_⟩;intro Ox;have RF:Kept Nil Ky Ox:=(Kept.refl _ _).alloc _;have acr:Ox.heap[Ky.heap.size]? =some (.cells #[.pointer (some ⟨nb,0,none⟩)] fM (0,0)):=aM Ky _;clear_value Ox;have LL:=RF.heap Qw (fun h=>h);have CO:=RF.heap Iy (fun h=>h);refine⟨by rw [add_zero,aE CO];rfl,by rw [aE LL];rfl,by rw [aE LL];rfl,?_⟩;have HJ:Row Ox 0 fM 1 (some ⟨bl,0,none⟩) D.length c (M.map fun m=>.pointer (some ⟨m.b,0,none⟩)):=Row.aK SE RF (fun _ _ h=>h);obtain⟨Y5,Sc,Ow,aaI,HI,Vp,acq⟩:=fZ (P:=prog) (t:=mr) (ty:=mr) (bytes:=8) Sz HJ (a:=⟨Ky.heap.size,0,none⟩) (m:=1) (cx:=1) (news:= [.pointer (some ⟨nb,0,none⟩)]) rfl
  (fun j u hj=>by rw [bE,Nat.zero_add,aE acr];simpa using hj) (fun u hu=>by simp at hu;subst hu;rfl) (by omega) (by unfold maxLen;omega) (Nat.zero_le _)
 have XO:Kept (· =bl) Ox Ow:=Kept.grown (S:=fun k=>k=bl) (Kept.refl _ _) Vp (fun k hk _=>by cases hk;rfl);refine⟨Y5,_,Sc,Ow,aaI,?_⟩;have tyL:∀ {k:Nat} {cs:Array Value} {t:TypeId},Ox.heap[k]? =some (.cells cs t (0,0))->t≠fM->k≠bl:=fun hk fX=>by
  obtain⟨_,cur,hc⟩:=Row.bV HJ (k:=bl) rfl;exact kN hk hc fX
 have abK:=XO.heap LL (tyL LL (by decide));have yW:=XO.heap CO (tyL CO (by decide));refine⟨by rw [aE abK];rfl,by rw [add_zero];exact dQ yW (by simp),?_⟩;intro JS;have ZS:Kept (· =g) Ow JS:=by
  show Kept (· =g) Ow (Ow.setCell ((⟨g,0,none⟩:Addr).add 0) (.slice Y5 (D.length+1) Sc))
  exact Kept.setCell (S:=fun k=>k=g) (Kept.refl _ Ow) (by rw [fw];exact fun _=>rfl) _
 have PM:JS.heap[g]? =some (.cells #[.slice Y5 (D.length+1) Sc,.map (some mb)] iQ (0,0)):=by
  show(Ow.setCell ((⟨g,0,none⟩:Addr).add 0) (.slice Y5 (D.length+1) Sc)).heap[g]? =_;rw [add_zero,du yW 0];rfl
 clear_value JS;obtain⟨Se,rfl⟩:=Row.some HI (by omega);have aiD:=Pc.size;have aiC:=RF.size;have lT:Kept (fun k=>k=g\/k=bl\/k=mb) Rt JS:=
  (((Pc.mono (S':=fun k=>k=g\/k=bl\/k=mb) (fun _ _ h=>.inr (.inr h))).trans RF (fun _ _ h=>h.elim)).trans XO (fun _ _ h=>.inr (.inl h))).trans ZS (fun _ _ h=>.inl h)
 have hTF:∀k,F1 k->¬(k=g\/k=bl\/k=mb):=fun k hk e=>by
  rcases e with rfl|rfl|rfl
  ·exact u7.Hf _ u7.iW hk
  ·exact u7.Hf _ u7.uu hk
  ·exact u7.Hf _ u7.wh hk
 have ty:∀ {k:Nat} {cs:Array Value} {t:TypeId},Rt.heap[k]? =some (.cells cs t (0,0))->t≠iQ->t≠fM->¬(k=g\/k=bl\/k=mb):=fun hk h1 h2 e=>by
  rcases e with e|e|e
  ·rw [e]at hk
   exact kN hk u7.top h1 rfl
  ·rw [e]at hk
   obtain⟨_,cur,hc⟩:=Row.bV u7.row (k:=bl) rfl;exact kN hk hc h2 rfl
  ·exact KB u7.map hk e
 have CQ:Row JS 0 fM 1 (some ⟨Se,0,none⟩) (D.length+1) Sc ((M.map fun m=>.pointer (some ⟨m.b,0,none⟩))++ [.pointer (some ⟨nb,0,none⟩)]):=Row.aK HI ZS (fun k hk e=>by
  obtain⟨_,cur,hc⟩:=Row.bV HI hk;exact kN hc yW (by decide) e)
 have Tb:IsMap JS mb (ids D++ [h]):=by
  obtain⟨es,clock,LC,_⟩:=MM.ex;have h1:=MM.aK RF (fun h=>h);have h2:=h1.aK XO (fun e=>by
   obtain⟨_,cur,hc⟩:=Row.bV HJ (k:=bl) rfl;obtain⟨_,_,ns,_⟩:=h1.ex;rw [e,hc]at ns;cases ns)
  exact h2.aK ZS (fun e=>by
   obtain⟨_,_,ns,_⟩:=h2.ex;rw [e,yW]at ns;cases ns)
 have P9:=lT.heap IU (ty IU (by decide) (by decide));have yF:lF JS nb rA rn rc ws:=Row.aK D7 lT (fun k hk e=>by
  obtain⟨_,cur,hc⟩:=Row.bV D7 hk;exact ty hc (by decide) (by decide) e)
 have IW:(D++ [(⟨h,l⟩:DN)]).length=D.length+1:=by simp
 have Wh:Se=bl\/Ox.heap.size<=Se:=by
  rcases acq Se rfl with e|e
  ·exact .inl (by cases e;rfl)
  ·exact .inr e
 have mG:=L.kp.size;have aiE:=MS.size;have abf:=bf IU;have Uk:∀k,bI rA=some k->nb<=k/\k<JS.heap.size:=fun k hk=>by
  obtain⟨h1,cur,hc⟩:=Row.bV yF hk;exact⟨h1,bf hc⟩
 have gZ:∀ {X:Type} (xs:List X) (y:X) (j:Nat) (z:X),(xs++ [y])[j]? =some z->(j<xs.length/\xs[j]? =some z)\/(j=xs.length/\z=y):=fun xs y j z e=>by
  rw [List.getElem?_append]at e;split at e
  ·rename_i di;exact .inl ⟨di,e⟩
  ·rename_i gH
   cases hk:j-xs.length with
   |zero=>rw [hk]at e;exact .inr ⟨by omega,by simpa using e.symm⟩
   |succ k=>rw [hk]at e;simp at e
 refine hK JS (fun k=>S' k\/k=nb\/k=Se) (fun k=>F1 k\/bI rA=some k) ⟨Se,Sc,mb,M++ [⟨nb,pA,l.length,pc,none,0,0,rA,rn,rc,ws⟩],?_⟩ ?_ ?_ ?_
 ·refine⟨by rw [IW];exact PM,?_,by rw [lU];exact Tb,by simp [hG.len],fun j nd m h1 h2=>?_,fun j j' m m' h1 h2 fX k hk o7=>?_,.inl hG.iW,.inr (.inr rfl),.inl hG.wh,fun k hk hf=>?_,fun k hk=>?_⟩
  ·rw [IW,List.map_append]
   exact CQ
  ·rcases gZ _ _ _ _ h1 with⟨hj,um⟩|⟨hj,rfl⟩
   ·rcases gZ _ _ _ _ h2 with⟨_,v7⟩|⟨vU,_⟩
    ·have N:=u7.node j nd m um v7
     have hid:nd.id∈ids D:=eI.2 ⟨nd,List.mem_of_getElem? um,rfl⟩;have hF:∀k,F1 k->¬(k=g\/k=bl\/k=mb):=hTF;rw [<-Dx W hn];refine⟨lT.heap N.bV (ty N.bV (by decide) (by decide)),.inl N.gS,N.ps.aK lT (fun a ha=>hF _ (N.KJ a ha)),fun a ha=>.inl (N.KJ a ha),Row.aK N.ch lT (fun k hk e=>?_),fun k hk=>.inl (N.Rb k hk),N.past.aK lT (fun a ha=>hF _ (N.pT a ha)),fun a ha=>.inl (N.pT a ha),N.ok,fun j=>?_,N.small⟩
     ·obtain⟨cur,hc⟩:=(Row.bV N.ch hk).2
      exact ty hc (by decide) (by decide) e
     ·rw [N.bits,JA W hn hid]
    ·rw [hG.len]at vU;omega
   ·rcases gZ _ _ _ _ h2 with⟨vU,_⟩|⟨_,rfl⟩
    ·rw [hG.len]at vU;omega
    ·rw [GL W hn gD]
     refine⟨P9,.inr (.inl rfl),(L.hl.same MS).aK lT (fun a ha=>hTF _ (Kg a ha)),fun a ha=>.inl (Kg a ha),cf.nil _ _,(fun k hk=>by cases hk),yF.us,fun a ha=>.inr (congrArg bI ha),L.ok,fun j=>?_,L.small⟩;rw [NT,JB W hn gD uU]
  ·rcases gZ _ _ _ _ h1 with⟨_,um⟩|⟨_,rfl⟩
   ·rcases gZ _ _ _ _ h2 with⟨_,v7⟩|⟨_,rfl⟩
    ·exact hG.apart j j' m m' um v7 fX k hk o7
    ·cases o7
   ·cases hk
  ·rcases hk with hk|rfl|rfl
   ·rcases hf with hf|hf
    ·exact hG.Hf k hk hf
    ·exact L.Zy k hf hk
   ·rcases hf with hf|hf
    ·have:=Hd k hf;omega
    ·obtain⟨_,cur,hc⟩:=Row.bV yF hf
     exact kN P9 hc (by decide) rfl
   ·rcases hf with hf|hf
    ·rcases Wh with e|e
     ·rw [e]at hf;exact hG.Hf _ hG.uu hf
     ·have:=Hd _ hf;omega
    ·obtain⟨_,cur,hc⟩:=Row.bV yF hf
     obtain⟨_,Xb,uI⟩:=Row.bV CQ (k:=k) rfl;exact kN uI hc (by decide) rfl
  ·have aiB:=lT.size
   rcases hk with(hk|rfl|rfl)|hk|hk
   ·have:=u7.low k (.inl hk);omega
   ·exact bf P9
   ·obtain⟨_,Xb,uI⟩:=Row.bV CQ (k:=k) rfl
    exact bf uI
   ·have:=u7.low k (.inr hk);omega
   ·exact(Uk k hk).2
 ·exact(L.kp.trans MS (fun _ _ h=>h.elim)).trans lT (fun k hk e=>by
   have hs:S' k:=by
    rcases e with rfl|rfl|rfl
    ·exact hG.iW
    ·exact hG.uu
    ·exact hG.wh
   rcases L.new k hs with h|h
   ·exact h
   ·omega)
 ·intro k hk
  rcases hk with hk|rfl|rfl
  ·exact L.new k hk
  ·exact .inr h0
  ·rcases Wh with e|e
   ·rw [e];exact L.new _ hG.uu
   ·exact .inr (by omega)
 ·intro k hk
  rcases hk with hk|hk
  ·exact .inl hk
  ·exact .inr (by have:=(Uk k hk).1;omega)
theorem Mk(G:GV w S F g D (iD D) bl c mb M)(W:kP D)(hD:D.length<=5000){A:Option Addr}{n cx:Nat}{lp:List HT}(hl:HS w A n lp)(hn:n<=10000)(h:HT)
 (hK:∀v S2 F2,E8 v S2 F2 g (mC D h lp)->Kept S w v->(∀k,S2 k->S k\/w.heap.size<=k)->(∀k,F2 k->F k\/w.heap.size<=k)->K (.int .i64 (dU D h lp)) v):
 bG prog bN.id #[.pointer (some ⟨g,0,none⟩),.agg h.1,.slice A n cx] w K:=by
 have hlen:=hl.len;have mH:∀v,Kept Nil w v->∀e,dU D h lp=e->e≠0->K (.int .i64 e) v:=fun v k e he fX=>by
  have:=hK v S F ?_ (k.mono fun _ _ h=>h.elim) (fun _ h=>.inl h) (fun _ h=>.inl h)
  ·rw [he]at this;exact this
  ·unfold mC
   rw [if_neg (by rw [he];exact fX)];exact⟨bl,c,mb,M,G.same k⟩
 refine bN.of ?_;unfold bN.W;intro w4 w5;have k4:Kept Nil w w4:=(Kept.refl _ _).alloc _;have EL:w4.heap[w.heap.size]? =some (.cells #[.pointer (some ⟨g,0,none⟩)] iV (0,0)):=aM w _;have k5:Kept Nil w4 w5:=(Kept.refl _ _).alloc _;have LI:w5.heap[w4.heap.size]? =some (.cells h.1 al (0,0)):=aM w4 _;have LO:=k5.heap EL (fun h=>h);clear_value w5;have MO:Kept Nil w w5:=k4.tt k5;have Vq:w.heap.size<w4.heap.size:=bf EL;have ajH:w4.heap.size<w5.heap.size:=bf LI;clear_value w4;refine iT (hl.same MO) (by omega) fun Hj Xe w7 wT k7=>⟨Hj,_,Xe,rfl,?_⟩;have Cz:Kept Nil w w7:=MO.tt k7;have Vs:=k7.heap LO (fun h=>h);have hi7:=k7.heap LI (fun h=>h);have G7:=G.same Cz;have BS:(dC lp).length<=n:=by have:=ny lp;omega
 refine⟨some ⟨g,0,none⟩,by rw [aE Vs];rfl,yq G7 ⟨true,rfl,Split.no rfl ?_⟩⟩;refine⟨some ⟨g,0,none⟩,by rw [aE Vs];rfl,h.1,⟨h.2.1,Cells.bV hi7⟩,sK G7 h fun nh rv=>⟨_,rfl,?_⟩⟩;have H6:=Cz.tt rv;by_cases hm:h∈ids D
 ·refine Split.yes (decide_eq_true hm) (mH nh H6 7 ?_ (by omega))
  unfold dU;rw [if_pos hm]
 refine Split.no (decide_eq_false hm) ?_;by_cases h0:(dC lp).length=0
 ·refine Split.yes (by simp [h0]) (mH nh H6 9 ?_ (by omega))
  unfold dU;rw [if_neg hm,if_pos (.inl h0)]
 refine Split.no (beq_eq_false_iff_ne.2 (by omega)) ?_;by_cases h1:(dC lp).length≠n
 ·refine Split.yes (bne_iff_ne.2 (by omega)) (mH nh H6 9 ?_ (by omega))
  unfold dU;rw [if_neg hm,if_pos (.inr (by omega))]
 replace h1:(dC lp).length=n:=by omega
 refine Split.no (by rw [h1];simp) ?_;have Vz:=rv.heap Vs (fun h=>h);have MH:=Row.aK wT rv (fun _ _ h=>h);refine Bz (G.same H6) Vz (cf.hs MH) (by omega) fun pC x hx x9=>⟨x,rfl,?_⟩;have H5:=H6.tt x9;cases x with
 |true=>
  refine Split.yes rfl (mH pC H5 6 ?_ (by omega));unfold dU;rw [if_neg hm,if_neg (by omega),if_pos (hx.1 rfl)]
 |false=>
  have gD:∀p∈dC lp,p∈ids D:=fun p hp=>Classical.byContradiction fun abd=>by have:=hx.2 ⟨p,hp,abd⟩;cases this
  have VX:dU D h lp=0:=by
   unfold dU;rw [if_neg hm,if_neg (by omega),if_neg (fun⟨p,hp,Lu⟩=>Lu (gD p hp))]
  have hD':mC D h lp=D++ [⟨h,dC lp⟩]:=by unfold mC;rw [if_pos VX]
  rw [VX,hD']at hK;refine Split.no rfl ?_;have Vn:=x9.heap (rv.heap hi7 (fun h=>h)) (fun h=>h);have Qz:=x9.heap Vz (fun h=>h);have xK:cf pC w5.heap.size Hj (dC lp).length Xe (dC lp):=Row.aK MH x9 (fun _ _ h=>h);refine⟨h.1,⟨h.2.1,Cells.bV Vn⟩,?_⟩;rw [Jx h pC.heap.size];refine Is.mk rfl ?_;intro JU;have Ph:Kept Nil pC JU:=(Kept.refl _ _).alloc _;have abg:JU.heap[pC.heap.size]? =some (.cells (gJ h ⟨pC.heap.size,Hj,(dC lp).length,Xe,none,0,0,none,0,0,[]⟩) eF (0,0)):=aM pC _;clear_value JU;have Tj:=H5.tt Ph;have Q1:∀k,bI Hj=some k->w5.heap.size<=k/\k<pC.heap.size:=fun k hk=>by
   obtain⟨e1,cur,hc⟩:=Row.bV xK hk;exact⟨e1,bf hc⟩
  have X8:=MO.size;have aiP:=H5.size;have Hd:∀k,(F k\/bI Hj=some k)->k<pC.heap.size:=fun k hk=>by
   rcases hk with hk|hk
   ·have:=G.low k (.inr hk);omega
   ·exact(Q1 k hk).2
  have L8:∀k,S k->k<w.heap.size:=fun k hk=>G.low k (.inl hk);have G23:GV JU S (fun k=>F k\/bI Hj=some k) g D (iD D) bl c mb M:=(G.same Tj).S7 (fun _ h=>.inl h) (fun k hs e=>by
   rcases e with e|e
   ·exact G.Hf k hs e
   ·have:=L8 k hs;have:=(Q1 k e).1;omega) (fun k hk=>by have:=Hd k hk;have:=Ph.size;omega)
  have EH:jy D h ((dC lp).take 0)=iD D:=by
   funext y
   unfold jy;rw [if_neg (by simp)]
  have L0:AL w JU S (fun k=>F k\/bI Hj=some k) S g D h (dC lp) w.heap.size w4.heap.size pC.heap.size Hj Xe 0 bl c mb M none 0 0 []:=
   ⟨by rw [EH];exact G23,fun _ h=>h,fun _ h=>.inl h,abg,fun e=>by have:=L8 _ e;omega,Row.nil _ _ _ _,by simp [okW],by omega,(fun k hk=>by cases hk),fun j=>by simp [zi],Ph.heap Qz (fun h=>h),Ph.heap Vn (fun h=>h),
     fun e=>by have:=L8 _ e;omega,fun e=>by have:=L8 _ e;omega,(xK.hs).same Ph,Tj.mono fun _ _ h=>h.elim⟩
  refine bN.cJ (I:=fun s v=>∃(i:Nat) (S2:Nat->Prop) (M2:List NM) (rA:Option Addr) (rn rc:Nat) (ws:List Nat),s=(i:Int)/\i<=(dC lp).length/\AL w v S (fun k=>F k\/bI Hj=some k) S2 g D h (dC lp) w.heap.size w4.heap.size pC.heap.size Hj Xe i bl c mb M2 rA rn rc ws)
   (μ:=fun s _=>(((dC lp).length:Int)-s).toNat) (s:=0) ⟨0,S,M,none,0,0,[],rfl,Nat.zero_le _,L0⟩ ?_
  rintro s v ⟨i,S2,M2,rA,rn,rc,ws,rfl,hi,L⟩;have Kg:∀a,Hj=some a->F a.block\/bI Hj=some a.block:=fun a ha=>.inr (by rw [ha];rfl);by_cases dX:i<(dC lp).length
  ·refine GY L W (by omega) (jz _) gD Hd Kg (by omega) dX (by omega) fun S3 M3 rA3 rn3 rc3 ws3 v3 L3=>?_
   exact⟨(i:Int)+1,rfl,⟨i+1,S3,M3,rA3,rn3,rc3,ws3,rfl,dX,L3⟩,by simp only;omega⟩
  ·refine Split.no (decide_eq_false (by omega)) ?_
   rw [aU,bN.Ou];refine Mv L W hD (jz _) gD hm Hd Kg (by omega) (by omega) fun v2 S4 F4 hI Vc hS4 hF4=>hK v2 S4 F4 hI Vc hS4 (fun k hk=>?_);rcases hF4 k hk with(e|e)|e
   ·exact .inl e
   ·exact .inr (by have:=(Q1 k e).1;omega)
   ·exact .inr e
end
def pO(nb:Nat):NM:=⟨nb,none,0,0,none,0,0,none,0,0,[]⟩
structure NP(w v:World)(r:HT)(A B E:Option Nat)(l:List HT):Prop where
 kp:Kept Nil w v
 node:∀b,A=some b->w.heap.size<=b/\v.heap[b]? =some (.cells (gJ r (pO b)) eF (0,0))
 list:∀b,B=some b->w.heap.size<=b/\∃nb,A=some nb/\v.heap[b]? =some (.cells #[.pointer (some ⟨nb,0,none⟩)] fM (0,0))
 map:∀b,E=some b->w.heap.size<=b/\IsMap v b l
section
variable{w v:World}{r:HT}{A B E:Option Nat}{l:List HT}{K:Value->World->Prop}
theorem NP.grow(h:NP w v r A B E l)(o:Obj):NP w (v.alloc o) r A B E l:=
 ⟨h.kp.alloc o,fun b e=>⟨(h.node b e).1,ly (h.node b e).2 o⟩,fun b e=>⟨(h.list b e).1,let ⟨nb,h1,h2⟩:=(h.list b e).2;⟨nb,h1,ly h2 o⟩⟩,fun b e=>⟨(h.map b e).1,(h.map b e).2.aK ((Kept.refl Nil v).alloc o) (fun h=>h)⟩⟩
theorem NP.addNode(h:NP w v r none none E l):NP w (v.alloc (.cells (gJ r (pO v.heap.size)) eF)) r (some v.heap.size) none E l:=
 have g:=h.grow (.cells (gJ r (pO v.heap.size)) eF)
 ⟨g.kp,fun b e=>by cases e;exact⟨h.kp.size,aM v _⟩,fun b e=>(by cases e),g.map⟩
theorem NP.qI{nb:Nat}(h:NP w v r (some nb) none E l):NP w (v.alloc (.cells #[.pointer (some ⟨nb,0,none⟩)] fM)) r (some nb) (some v.heap.size) E l:=
 have g:=h.grow (.cells #[.pointer (some ⟨nb,0,none⟩)] fM)
 ⟨g.kp,g.node,fun b e=>by cases e;exact⟨h.kp.size,nb,rfl,aM v _⟩,g.map⟩
theorem NP.DK(h:NP w v r A B none []):NP w (v.alloc (.map #[] 0)) r A B (some v.heap.size) []:=
 have g:=h.grow (.map #[] 0)
 ⟨g.kp,g.node,g.list,fun b e=>by cases e;exact⟨h.kp.size,⟨#[],0,aM v _,trivial⟩⟩⟩
theorem NP.put{mb:Nat}(h:NP w v r A B (some mb) []):∃v',(Instr.mapUpdate cV (.map (some mb)) (.agg r.1) (.int .i64 0)).run prog v=.ok () v'/\NP w v' r A B (some mb) [r]:=by
 obtain⟨h1,h2⟩:=h.map mb rfl;obtain⟨v',hr,hm,hk⟩:=h2.put (h:=r) (by simp);have KB:∀ {k:Nat} {cs:Array Value} {t:TypeId},v.heap[k]? =some (.cells cs t (0,0))->¬(k=mb):=fun hk e=>by
  obtain⟨es,clock,LC,_⟩:=h2.ex;rw [e,LC]at hk;cases hk
 refine⟨v',hr,h.kp.trans hk (fun k hk e=>by omega),fun b e=>⟨(h.node b e).1,hk.heap (h.node b e).2 (KB (h.node b e).2)⟩,fun b e=>⟨(h.list b e).1,?_⟩,fun b e=>by cases e;exact⟨h1,hm⟩⟩;obtain⟨nb,e1,e2⟩:=(h.list b e).2;exact⟨nb,e1,hk.heap e2 (KB e2)⟩
theorem th(r:HT){a b:HT}:¬oW [(⟨r,[]⟩:DN)] a b:=fun⟨nd,h1,_,h2⟩=>by
 simp at h1;subst h1;simp at h2
theorem Af(r:HT){a b:HT}:¬fI [(⟨r,[]⟩:DN)] a b:=fun h=>by
 cases h with
 |one h=>exact th r h
 |more _ h=>exact th r h
theorem NP.fin{w0:World}{nb lb mb:Nat}(h:NP w v r (some nb) (some lb) (some mb) [r])(hw:w0.heap.size<=w.heap.size):
 E8 (v.alloc (.cells #[.slice (some ⟨lb,0,none⟩) 1 1,.map (some mb)] iQ)) (fun k=>w0.heap.size<=k/\k<(v.alloc (.cells #[.slice (some ⟨lb,0,none⟩) 1 1,.map (some mb)] iQ)).heap.size) (fun _=>False) v.heap.size [⟨r,[]⟩]:=by
 have g:=h.grow (.cells #[.slice (some ⟨lb,0,none⟩) 1 1,.map (some mb)] iQ);have jK:=aM v (.cells #[.slice (some ⟨lb,0,none⟩) 1 1,.map (some mb)] iQ);generalize v.alloc (.cells #[.slice (some ⟨lb,0,none⟩) 1 1,.map (some mb)] iQ)=u at g jK;have hs:=h.kp.size;obtain⟨n1,n2⟩:=g.node nb rfl;obtain⟨l1,nb',e,l2⟩:=g.list lb rfl;cases e;obtain⟨m1,m2⟩:=g.map mb rfl;have pq:iD [⟨r,[]⟩] r= []:=by
  cases hc:iD [⟨r,[]⟩] r with
  |nil=>rfl
  |cons b t=>exact absurd (km.1 (show b∈iD [⟨r,[]⟩] r by rw [hc];simp)).2 (th r)
 refine⟨lb,1,mb,[pO nb],jK,Row.made (n:=1) (cur:= #[.pointer (some ⟨nb,0,none⟩)]) l2 (Nat.zero_le _) rfl (by decide),m2,rfl,fun i nd m hi hm=>?_,fun i j m m' h1 h2 fX k hk=>?_,⟨by omega,bf jK⟩,⟨by omega,bf l2⟩,⟨by omega,m2.lt⟩,fun _ _ h=>h,fun k hk=>hk.elim (fun h=>h.2) (fun h=>h.elim)⟩
 ·cases i with
  |zero=>
   simp at hi hm;subst hi;subst hm;refine⟨n2,⟨Nat.le_trans hw n1,bf n2⟩,HS.nil _ _,(fun a ha=>by cases ha),?_,(fun k hk=>by cases hk),⟨rfl,fun i x hx=>by simp [pO]at hx⟩,(fun a ha=>by cases ha),by simp [okW,pO],fun j=>?_,by simp [pO]⟩
   ·show cf u 0 none 0 0 (iD [⟨r,[]⟩] r)
    rw [pq];exact cf.nil _ _
   ·show bit [] j=true↔_
    rw [zi];exact⟨(fun h=>by cases h),fun⟨nj,_,h⟩=>absurd h (Af r)⟩
  |succ i=>simp at hi
 ·have hm:m=pO nb:=by
   have:=List.mem_of_getElem? h1;simpa using this
  subst hm;cases hk
theorem gM(r:HT)(hK:∀v gb,E8 v (fun k=>w.heap.size<=k/\k<v.heap.size) (fun _=>False) gb [⟨r,[]⟩]->Kept Nil w v->K (.pointer (some ⟨gb,0,none⟩)) v):
 bG prog nJ.id #[.agg r.1] w K:=by
 refine nJ.of ?_;unfold nJ.W;intro w2 w3;have k2:Kept Nil w w2:=(Kept.refl _ _).alloc _;have nH:w2.heap[w.heap.size]? =some (.cells r.1 al (0,0)):=aM w _;have k3:Kept Nil w w3:=k2.drew;have p8:w3.heap[w.heap.size]? =some (.cells r.1 al (0,0)):=nH;clear_value w3;have N3:NP w3 w3 r none none none []:=⟨Kept.refl _ _,(fun b e=>by cases e),(fun b e=>by cases e),(fun b e=>by cases e)⟩;have nW:∀ {v:World},Kept Nil w3 v->∃cs:Array Value,(.agg r.1:Value)=.agg cs/\cs.size=32/\Cells v (aV w.heap.size) cs:=fun k=>⟨r.1,rfl,r.2.1,Cells.bV (k.heap p8 (fun h=>h))⟩;have vV:∀ {v:World} {nb lb mb:Nat},NP w3 v r (some nb) (some lb) (some mb) [r]->K (.pointer (some ⟨v.heap.size,0,none⟩)) (v.alloc (.cells #[.slice (some ⟨lb,0,none⟩) 1 1,.map (some mb)] iQ)):=fun h=>hK _ _ (h.fin k3.size) ((k3.tt h.kp).alloc _);refine⟨r.1,⟨r.2.1,Cells.bV p8⟩,?_⟩;have UN:∀b,prog.built eF [(0,.agg r.1)]=some (gJ r (pO b)):=fun b=>GM r b;rw [UN 0];refine Is.mk rfl ?_;refine⟨r.1,⟨r.2.1,Cells.bV p8⟩,?_⟩;refine⟨?_,?_⟩
 ·have N7:NP w3 (w3.alloc (.cells (gJ r (pO w3.heap.size)) eF)) r (some w3.heap.size) none none []:=N3.addNode
  refine⟨nW N7.kp,?_,?_⟩
  ·have N8:=N7.qI
   have N9:=N8.DK;obtain⟨v,hr,Sk⟩:=N9.put;exact⟨nW N8.kp,nW N9.kp,v,hr,vV Sk⟩
  ·have Rp:=N7.DK
   refine⟨nW Rp.kp,?_,?_⟩
   ·have Mx:=Rp.qI
    obtain⟨v,hr,Ro⟩:=Mx.put;exact⟨nW Mx.kp,v,hr,vV Ro⟩
   ·obtain⟨v,hr,Sj⟩:=Rp.put
    exact⟨v,hr,vV Sj.qI⟩
 ·have Kt:=N3.DK
  refine⟨nW Kt.kp,nW Kt.kp,?_,?_⟩
  ·have Oo:NP w3 ((w3.alloc (.map #[] 0)).alloc (.cells (gJ r (pO (w3.alloc (.map #[] 0)).heap.size)) eF)) r (some (w3.alloc (.map #[] 0)).heap.size) none (some w3.heap.size) []:=Kt.addNode
   refine⟨nW Oo.kp,?_,?_⟩
   ·have On:=Oo.qI
    obtain⟨v,hr,Sh⟩:=On.put;exact⟨nW On.kp,v,hr,vV Sh⟩
   ·obtain⟨v,hr,Xq⟩:=Oo.put
    exact⟨v,hr,vV Xq.qI⟩
  ·obtain⟨v,hr,Rn⟩:=Kt.put
   exact⟨v,hr,nW Rn.kp,vV Rn.addNode.qI⟩
end
section
variable{w w':World}{S S' F:Nat->Prop}{g bl c mb:Nat}{D:DG}{C:HT->List HT}{M:List NM}{K:Value->World->Prop}
end
section
variable{w w':World}{S S' F:Nat->Prop}{g bl c mb:Nat}{D:DG}{C:HT->List HT}{M:List NM}{K:Value->World->Prop}
end
theorem gv{w:World}{b:Nat}{z cs:Array Value}{t:TypeId}(h:w.heap[b]? =some (.cells z t (0,0)))(hz:z.size=cs.size):
 (∀j,j<cs.size->Wr w ((⟨b,0,none⟩:Addr).add j))/\(setCells w ⟨b,0,none⟩ cs.toList 0).heap[b]? =some (.cells cs t (0,0))/\Kept (· =b) w (setCells w ⟨b,0,none⟩ cs.toList 0):=by
 refine⟨fun j hj=>?_,?_,ig _ _ _ _⟩
 ·rw [bE,Nat.zero_add]
  exact dQ h (by omega)
 ·have h1:=ln cs.toList z w t 0 0 h (by simp;omega)
  rw [h1,vh (by simp [hz])]
def hx(i:Nat)(hi:i<256):HT:=⟨#[.int .u8 (i:Int),.int .u8 0,.int .u8 0,.int .u8 0,.int .u8 0,.int .u8 0,.int .u8 0,.int .u8 0,.int .u8 0,.int .u8 0,.int .u8 0,.int .u8 0,.int .u8 0,.int .u8 0,.int .u8 0,.int .u8 0,.int .u8 0,.int .u8 0,.int .u8 0,.int .u8 0,.int .u8 0,.int .u8 0,.int .u8 0,.int .u8 0,.int .u8 0,.int .u8 0,.int .u8 0,.int .u8 0,.int .u8 0,.int .u8 0,.int .u8 0,.int .u8 0],rfl,fun v hv=>by
 simp only [List.mem_cons,List.not_mem_nil,or_false]at hv;rcases hv with rfl|hv
 ·exact⟨i,rfl,by omega,by omega⟩
 ·exact⟨0,by simpa using hv,by omega,by omega⟩⟩
theorem CJ{i j:Nat}{hi:i<256}{hj:j<256}(h:i≠j):hx i hi≠hx j hj:=fun e=>by
 have:=congrArg (fun a:HT=>a.1[0]?) e;simp [hx]at this;omega
section
variable{w w':World}{K:Value->World->Prop}
end
theorem HS.lay{w:World}{b:Nat}{l:List HT}{t:TypeId}(hb:w.heap[b]? =some (.cells (dw l).toArray t (0,0))):HS w (some ⟨b,0,Option.none⟩) l.length l:=
 ⟨rfl,fun i x hi=>⟨_,rfl,bf hb,fun j v hj=>by
   rw [bE,bE,Nat.zero_add,aE hb];simpa using lM hi hj⟩⟩
section
variable{r a b c:HT}(PZ:r≠a)(Gm:r≠b)(Ya:r≠c)(nv:a≠b)(Yz:a≠c)(QM:b≠c)
abbrev kD(r a b c:HT):DG:= [⟨r,[]⟩,⟨a,[r]⟩,⟨b,[r]⟩,⟨c,dC [a,b]⟩]
include PZ in
theorem k1:dU [⟨r,[]⟩] a [r]=0/\mC [⟨r,[]⟩] a [r]= [⟨r,[]⟩,⟨a,[r]⟩]:=by
 have h:dU [⟨r,[]⟩] a [r]=0:=by
  unfold dU;rw [if_neg (by simp [ids];exact fun e=>PZ e.symm),oE,if_neg (by simp),if_neg (by simp [ids])]
 exact⟨h,by unfold mC;rw [if_pos h,oE];rfl⟩
include Gm nv in
theorem k2:dU [⟨r,[]⟩,⟨a,[r]⟩] b [r]=0/\mC [⟨r,[]⟩,⟨a,[r]⟩] b [r]= [⟨r,[]⟩,⟨a,[r]⟩,⟨b,[r]⟩]:=by
 have h:dU [⟨r,[]⟩,⟨a,[r]⟩] b [r]=0:=by
  unfold dU;rw [if_neg (by simp [ids];exact⟨fun e=>Gm e.symm,fun e=>nv e.symm⟩),oE,if_neg (by simp),if_neg (by simp [ids])]
 exact⟨h,by unfold mC;rw [if_pos h,oE];rfl⟩
include Ya nv Yz QM in
theorem k3:dU [⟨r,[]⟩,⟨a,[r]⟩,⟨b,[r]⟩] c [a,b]=0/\mC [⟨r,[]⟩,⟨a,[r]⟩,⟨b,[r]⟩] c [a,b]=kD r a b c:=by
 have hl:(dC [a,b]).length=2:=qO (by simp [nv]);have h:dU [⟨r,[]⟩,⟨a,[r]⟩,⟨b,[r]⟩] c [a,b]=0:=by
  unfold dU;rw [if_neg (by simp [ids];exact⟨fun e=>Ya e.symm,fun e=>Yz e.symm,fun e=>QM e.symm⟩),hl,if_neg (by simp),if_neg];rintro⟨p,hp,hn⟩;rw [dW]at hp;simp at hp;simp [ids]at hn;rcases hp with rfl|rfl
  ·exact hn.2.1 rfl
  ·exact hn.2.2 rfl
 exact⟨h,by unfold mC;rw [if_pos h];rfl⟩
end
section
variable{w w':World}{K:Value->World->Prop}
end
section
variable{w v w':World}{S F S2 F2 FR:Nat->Prop}{g r:Nat}{D D':DG}{K:Value->World->Prop}
theorem Jw(h:HT):prog.built b6 [(0,.agg h.1)]=some (h.1.push (.slice none 0 0)):=by
 have hs:=h.2.1;rw [ox EV,jx (off:=0) (size:=32) rfl (by simpa [Value.cells]using hs) (by simp)];simp only [Instr.fill,Option.some.injEq];apply Array.ext';unfold iI;simp [Value.cells,hs]
end
end Go.Proofs.YtfleamccglihoaaGreatDoor
